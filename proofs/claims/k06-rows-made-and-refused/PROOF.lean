import PyProof.Rows.All
import Wide.All
import OpenK.AllK
import Wide.FinOn
import HandS.ForMost
import HandS.ForExc
import HandS.EndBits
import HandS.Wide
import HandS.WideBits
import HandS.IsInst
import HandS.StrMore
import HandS.Style
import HandS.Evl
import PyProof.ReprRoads
import HandS.ReplaceDef
import HandS.ReplaceLit
import HandS.NoneIn
import HandS.Walk
import HandS.Codes
import PyProof.FactsAll.object_2
import PyProof.FactsAll.str_1
import PyProof.FactsAll.str_2
import PyProof.FactsAll.tuple_1
import PyProof.FactsAll.tuple_2
import PyProof.FactsAll.list_1
import PyProof.FactsAll.list_2
import PyProof.FactsAll.int_1
import PyProof.FactsAll.int_2
import PyProof.FactsAll.int_3
import PyProof.FactsAll.NoneType_1
import PyProof.FactsAll.bool_1
import PyProof.FactsAll.bool_2
import PyProof.StrReplace2
import HandS.OwnEq
import HandS.ForSpec
import HandS.SlotsOwn
import HandS.More
import HandS.Lambda
import HandS.HotCalls
import HandS.ExcIs
import HandS.ExcField
import KE.KTryMore
import HandS.ExcInit
import PyProof.ReprBulk
import PyProof.Rows.RegStrFacts
import HandS.Dict
import HandS.EndTab
import HandS.Defaults
import HandS.MakeKwOnly
import HandS.Property
import HandS.Deep
import KE.DataFind
import HandS.Records
import KE.DataCmp
import HandS.Head0
import HandS.Head1
import HandS.Head2
import HandS.HeadEnd
import HandS.HeadHook1
import HandS.HeadHook2
import HandS.HeadHook4
import PySem.Challenge.RW_heldvotes_k06_rows_made_and_refused
set_option Elab.async false
set_option linter.all false
set_option maxRecDepth 100000
set_option maxHeartbeats 4000000
namespace Hv
open PySem PySem.Spec PyProof.Rows L2

/-- a promise that is kept wherever no repr is under way -/
structure OkG (P : Program) (w : World) (K : PySem.W.Frag) (mg : Str → Option Value) (base : Heap) (CX : CXT) (k : Nat)
    (f : Addr) (fd : FuncData) (ps : List Str) (sp : Sp) : Prop where
  len : ∀ vs H Q E, sp vs H Q E → vs.length = ps.length
  run : ∀ (A : Around) (outer : List Env) (s : Shared) (H : Hp) (args : Args) (us : List Value) (vs : List V) (Q : VK) (E : XK),
    A.guards = some [] → Room k A → Env0 P w K mg base A outer s H → BindsTo s fd args (ps.zip us) → Vals vs us →
    sp vs H Q E → codeAny (model P w) A (.call (.ref f) args) (CR CX outer P w H s Q E) s

section
variable {P : Program} {w : World} {K : PySem.W.Frag} {mg : Str → Option Value} {base : Heap} {CX : CXT} {k : Nat}
  {f : Addr} {fd : FuncData} {ps : List Str} {sp : Sp}
theorem OkG.of (F : FnOk P w K mg base CX k f fd ps sp) : OkG P w K mg base CX k f fd ps sp :=
  ⟨F.len, fun A outer s H args us vs Q E _ => F.run A outer s H args us vs Q E⟩
theorem OkG.mono {j : Nat} (F : OkG P w K mg base CX j f fd ps sp) (h : j ≤ k) : OkG P w K mg base CX k f fd ps sp :=
  ⟨F.len, fun A outer s H args us vs Q E hg hr => F.run A outer s H args us vs Q E hg (hr.mono h)⟩

/-- the rule for a def, where no repr is under way -/
theorem okG {x qual : Str} {st : Stmt} {N : List Str} (F : Fun K x qual st f fd) (S : FnScope N ps (defScope st))
    (len : ∀ vs H Q E, sp vs H Q E → vs.length = ps.length)
    (body : ∀ (cdv : Value) (A : Around) (outer : List Env) (s : Shared) (H : Hp) (vs : List V) (Q : VK) (E : XK),
      A.guards = some [] → Room k (A.deeper (envOfC qual (defScope st) s.heap.objs.size f cdv)) → sp vs H Q E →
      ∃ t, PSs (cxOf CX P w K mg base N qual (defScope st) f cdv A outer s H E) (defBody st) t ∧
        t { nx := fun _ H' => Q .non H', rt := Q } (start N vs) H) :
    OkG P w K mg base CX (k + 1) f fd ps sp := by
  obtain ⟨oc, od, kV, doc, pm, an, cdv, ct, osl, rfl, lk, hcd⟩ := F.ex
  constructor
  · exact len
  intro A outer s H args us vs Q E hg hr e0 hb r hsp
  have KX : K.In s.heap := e0.mod.kin.keeps (fun b o e => (e0.bs b o e).1)
  have lim := e0.mod.nolimit.keeps (fun b o e => (e0.bs b o e).1)
  have kinds : ∀ y ∈ ps.zip us, (defScope st).names.lookup y.1 = some .local ∨
      ((defScope st).names.lookup y.1 = some .cell ∧
        ((cellsFrom (s.heap.objs.size + 1) (defScope st).names []).lookup y.1).isSome = true) := by
    rintro ⟨n, v⟩ hy
    cases S.par n (List.of_mem_zip hy).1 with
    | inl q => exact Or.inl q
    | inr q => exact Or.inr ⟨q, PySem.W.cellsFrom_some _ _ _ (Or.inl q)⟩
  apply codeAny_call_function hr.depth (KX _ _ lk) rfl S.co S.gen rfl (PySem.W.codeRec_of KX hcd)
  apply hb
  refine wpAny_newFunctionEnv_cells S.kind kinds ?_
  rintro env rfl s1 x
  refine ⟨lim.keeps x.toInCall.keep, codeAny_func ?_⟩
  obtain ⟨t, ht, hq⟩ := body cdv A outer s H vs Q E hg (hr.deeper _) hsp
  have I := inv_start (CX := CX) (E := E) S hr.hd e0 (len _ _ _ _ hsp) r x
  apply wpAny_mono (ht.run [] s1 (start N vs) H _ I hq)
  · intro fl s' hs
    cases fl with
    | ret u =>
      obtain ⟨v, σ', H', J, rv, q⟩ := hs
      exact ⟨v, H', J.os, J.bare, J.base, J.hok, rv, q⟩
    | next =>
      obtain ⟨σ', H', J, q⟩ := hs
      exact ⟨V.non, H', J.os, J.bare, J.base, J.hok, rfl, q⟩
    | brk =>
      obtain ⟨_, _, _, q⟩ := hs
      exact q.elim
    | cont =>
      obtain ⟨_, _, _, q⟩ := hs
      exact q.elim
  · intro e s' hs
    exact hs
end

theorem okG0 {P : Program} {w : World} {K : PySem.W.Frag} {mg : Str → Option Value} {base : Heap} {k : Nat} {f : Addr} {fd : FuncData} {ps : List Str} {sp : Sp}
    {x qual : Str} {st : Stmt} {N : List Str} (F : Fun K x qual st f fd) (S : FnScope N ps (defScope st)) (len : ∀ vs H Q E, sp vs H Q E → vs.length = ps.length)
    (body : ∀ (cdv : Value) (A : Around) (outer : List Env) (s : Shared) (H : Hp) (vs : List V) (Q : VK) (E : XK),
      A.guards = some [] → Room k (A.deeper (envOfC qual (defScope st) s.heap.objs.size f cdv)) → sp vs H Q E →
      ∃ t, PSs (cxOf CX0 P w K mg base N qual (defScope st) f cdv A outer s H E).nox (defBody st) t ∧
        t { nx := fun _ H' => Q .non H', rt := Q } (start N vs) H) : OkG P w K mg base CX0 (k + 1) f fd ps sp :=
  okG F S len fun cdv A outer s H vs Q E hg hr hsp =>
    let ⟨t, h, q⟩ := body cdv A outer s H vs Q E hg hr hsp
    ⟨t, h.nox, q⟩
section
variable {X : Cx} {CX : CXT} {k : Nat} {f : Addr} {fd : FuncData} {ps : List Str} {sp : Sp} {dvs : List V} {ds : List Value}
  {E : XK} {x : Str} {p pos : Pos} {e : Expr} {es : List Expr} {t : TA}
theorem runG {pins : List (Addr × Obj)} {σ : L2.St} {H : Hp} {s : Shared} {Q : VK} {us : List Value} {vs : List V}
    (F : OkG X.prog X.w X.K X.mg X.base CX k f fd ps sp) (hG : X.A.guards = some []) (hr : Room k X.A)
    (hb : Binds X.K fd ps ds) (hd : Vals dvs ds) (hx : Passes CX X E) (I : Inv X pins σ H s) (r : Vals vs us)
    (h : sp (vs ++ dvs) H Q E) : wpAny (model X.prog X.w) X.A (call (.ref f) us) (EP X pins σ Q) X.xe s := by
  have r2 : Vals (vs ++ dvs) (us ++ ds) := r.append hd
  have hl : (us ++ ds).length = ps.length := r2.length.symm.trans (F.len _ _ _ _ h)
  have go := F.run X.A X.stack s H ⟨us, []⟩ (us ++ ds) (vs ++ dvs) Q E hG hr I.env0 (hb s us I.kIn hl) r2 h
  refine wpAny_call (codeAny_mono go ?_)
  intro r s' hq
  match r, hq with
  | .error e, hq => exact hx pins σ H s e s' I hq
  | .ok (.ret u), hq => exact I.after hq
  | .ok .next, hq => exact hq.elim
  | .ok .brk, hq => exact hq.elim
  | .ok .cont, hq => exact hq.elim
/-- f(e, ..) for such a def -/
theorem pe_callG (F : OkG X.prog X.w X.K X.mg X.base CX k f fd ps sp) (hG : X.A.guards = some []) (hr : Room k X.A) (hg : Gl X x)
    (hm : X.mg x = some (.ref f)) (hk : PySem.W.keepIn X.K (.ref f) = true) (hb : Binds X.K fd ps ds) (hd : Vals dvs ds)
    (hx : Passes CX X E) (ha : PA X (e :: es) t) (hdb : (x == ("__debug__" : Str)) = false := by decide)
    (he : starEach (e :: es) X.env = (false, eval e X.env) :: starEach es X.env := by rfl)
    (hpl : (backTo pos (starEach es X.env)).any (·.1) = false := by rfl) :
    PE X (.Call (.Name x p) (e :: es) [] pos) (tCall sp dvs E t) := by
  constructor
  intro pins s σ H Q I h
  apply wpAny_Call_Name_kw
  refine ld_glob I hg hm ?_ hdb
  refine PySem.W.callWith_K (h₀ := X.base) I.ok.mod.kin hk (thn (ha.run pos pins s σ H _ I h) ?_) he hpl
  rintro us s1 ⟨vs, H1, I1, r, q⟩
  exact ⟨I1.kIn, runG F hG hr hb hd hx I1 r q⟩
theorem pe_call0G (F : OkG X.prog X.w X.K X.mg X.base CX k f fd ps sp) (hG : X.A.guards = some []) (hr : Room k X.A) (hg : Gl X x)
    (hm : X.mg x = some (.ref f)) (hk : PySem.W.keepIn X.K (.ref f) = true) (hb : Binds X.K fd ps ds) (hd : Vals dvs ds)
    (hx : Passes CX X E) (hdb : (x == ("__debug__" : Str)) = false := by decide) :
    PE X (.Call (.Name x p) [] [] pos) (tCall sp dvs E tNil) := by
  constructor
  intro pins s σ H Q I h
  apply wpAny_Call_Name_kw
  refine ld_glob I hg hm ?_ hdb
  exact PySem.W.callWith_K0 I.kIn hk (runG (us := []) F hG hr hb hd hx I .nil h)

/-- repr of data -/
@[irreducible] def rRepr (K : PySem.W.Frag) : List V → Hp → VK → Prop := fun xs H Q => ∃ v d, xs = [v] ∧ Dp K H v d ∧ d.showable = true ∧ d.hasDict = false ∧ d.depth ≤ 60 ∧ d.shown.length ≤ sizeLine ∧ Q (.str d.shown) H
theorem rd_repr {K : PySem.W.Frag} {H : Hp} {v : V} {d : PyData} {Q : VK} (hv : Dp K H v d) (h1 : d.showable = true) (h2 : d.hasDict = false) (h3 : d.depth ≤ 60) (h4 : d.shown.length ≤ sizeLine) (q : Q (.str d.shown) H) : rRepr K [v] H Q := by
  unfold rRepr
  exact ⟨v, d, rfl, hv, h1, h2, h3, h4, q⟩
theorem cr_repr (hG : X.A.guards = some []) (hu : X.A.units + 64 < cLine) : CallR X (.builtin "repr") (rRepr X.K) := by
  intro pins s σ H xs us Q I r h
  unfold rRepr at h
  obtain ⟨v, d, rfl, hd, hs, hn, hdep, hz, q⟩ := h
  obtain ⟨u, rfl, ru⟩ : ∃ u, us = [u] ∧ RelV v u := by
    cases r with
    | cons a b => cases b with | nil => exact ⟨_, rfl, a⟩
  obtain ⟨as, rd⟩ := Dp.reads I d v u hd ru
  cases hd with
  | non => cases ru; exact PySem.P.repr_of_none ⟨.str _, H, I.tok _, ⟨_, rfl⟩, q⟩
  | bl b => cases ru; exact PySem.P.repr_of_bool ⟨.str _, H, I.tok _, ⟨_, rfl⟩, q⟩
  | int i =>
    obtain ⟨t, rfl⟩ := ru
    refine PySem.P.repr_of_int ?_ ⟨.str _, H, I.tok _, ⟨_, rfl⟩, q⟩
    simpa [PyData.showable] using hs
  | str z =>
    obtain ⟨t, rfl⟩ := ru
    exact PySem.P.repr_of_str ⟨.str _, H, I.tok _, ⟨_, rfl⟩, q⟩ hz
  | lst h1 h2 =>
    cases ru
    refine repr_of_reads' rd hs (by rw [hn]; intro z; cases z) hG (by omega) (fun _ _ e => e) ?_ hz
    intro h' u' tk hk
    exact ⟨.str _, H, I.kept hk, ⟨_, rfl⟩, q⟩
  | tup h1 h2 =>
    cases ru
    refine repr_of_reads' rd hs (by rw [hn]; intro z; cases z) hG (by omega) (fun _ _ e => e) ?_ hz
    intro h' u' tk hk
    exact ⟨.str _, H, I.kept hk, ⟨_, rfl⟩, q⟩
end

/-! ### the end: the law's call, where no repr is under way -/
theorem old_of {P : Program} {w : World} {H H' : Hp} {h h' : Heap} (hO : Only H) (un : Un (frs []) [] H H' h h') (ok : HOk P w H h) (ok' : HOk P w H' h') : OldK h h' := by
  apply OldK.of_keep
  intro b o e
  rcases hO b with z | ⟨ob, xs, z⟩
  · exact un.keep b o e z (by intro q; cases q) (by intro q; cases q)
  · have k1 := (ok b _ z).1
    have k2 := (ok' b _ (un.frzs b ob _ z)).1
    rw [e] at k1
    cases k1
    exact k2
theorem call_lawG {P : Program} {w : World} {K : PySem.W.Frag} {mg mb : Str → Option Value} {CX : CXT} {k : Nat} {fa a : Addr} {fd : FuncData}
    {x : Str} {sp : Sp} {s : Shared} {vs : List Value} {ns : List Int} (KX : K.In s.heap) (gl : s.heap.Ns mainGlobals mg)
    (bl : s.heap.Ns builtinsNs mb) (hbb : ∀ x : Str, x ≠ "__name__" → mb x = bootBuiltins x) (lim : s.heap.NoLimit) (gens : s.gens = #[])
    (ha : s.heap.get? a = some { cls := .type "list", data := .seq vs.toArray }) (hi : IntsAre vs ns) (hl : ns.length ≤ sizeLine)
    (hr : Room k callerA) (F : ∀ base : Heap, K.In base → base.Ns mainGlobals mg → OkG P w K mg base CX k fa fd [x] sp)
    (bind : ∀ (s : Shared) (u : Value), BindsTo s fd ⟨[u], []⟩ [(x, u)])
    (hsp : ∀ H : Hp, SqL K H a (ns.map V.int) → sp [.ref a] H (fun v _ => v = .bl true) fun _ _ _ => False)
    (hCX : ∀ H e s', CX [] H s (fun _ _ _ => False) e s' → False) :
    codeAny (model P w) callerA (.call (.ref fa) ⟨[.ref a], []⟩)
      (fun r s' => r = .ok (.ret (.bool true)) ∧ OldK s.heap s'.heap ∧ s'.os = s.os ∧ AllBare s'.gens) s := by
  have rv := vals_ints hi
  have core : ∀ H : Hp, Only H → SqL K H a (ns.map V.int) → HOk P w H s.heap → (∀ b, H b ≠ none → b = a) → (H a ≠ none → K.lookup a = none) →
      codeAny (model P w) callerA (.call (.ref fa) ⟨[.ref a], []⟩)
        (fun r s' => r = .ok (.ret (.bool true)) ∧ OldK s.heap s'.heap ∧ s'.os = s.os ∧ AllBare s'.gens) s := by
    intro H hO hS ok hA hK
    -- what is no list is not tracked
    have free : ∀ {b : Addr} {o : Obj}, s.heap.get? b = some o → (b = a → H a = none) → H b = none := by
      intro b o _ z
      by_cases q : H b = none
      · exact q
      · have e := hA b q
        rw [e]
        exact z e
    have ns' : ∀ {b : Addr} {m : Str → Option Value}, s.heap.Ns b m → (hidT s.heap H).Ns b m := by
      rintro b m ⟨o, es, ep, e, d, r⟩
      refine ⟨o, es, ep, hidT_get e (free e fun q => ?_), d, r⟩
      subst q
      rw [ha] at e
      cases e
      cases d
    have hKb : K.In (hidT s.heap H) := by
      intro b o e
      refine hidT_get (KX b o e) (free (KX b o e) fun q => ?_)
      subst q
      by_cases z : H b = none
      · exact z
      · rw [hK z] at e
        cases e
    have hM : Mod K mg (hidT s.heap H) := by
      obtain ⟨mc, h1, h2⟩ := lim
      exact ⟨hKb, ns' gl, ⟨mb, ns' bl, hbb⟩, ⟨mc, ns' h1, h2⟩⟩
    have e0 : Env0 P w K mg (hidT s.heap H) callerA [] s H := by
      refine ⟨rfl, hM, fun b o e => of_hidT e, Nat.le_of_eq (hidT_size _ _), trivial, ?_, ok, .of_eq gens⟩
      intro b hb
      cases (show b ∈ ([] : List Addr) from hb)
    have go := (F _ hKb (ns' gl)).run callerA [] s H ⟨[.ref a], []⟩ [.ref a] [.ref a] (fun v _ => v = .bl true) (fun _ _ _ => False)
      rfl hr e0 (bind s (.ref a)) (.cons rfl .nil) (hsp H hS)
    refine codeAny_mono go ?_
    intro r s' h
    match r, h with
    | .error e, h => exact (hCX H e s' h).elim
    | .ok .next, h => exact h.elim
    | .ok .brk, h => exact h.elim
    | .ok .cont, h => exact h.elim
    | .ok (.ret u), h =>
      obtain ⟨v, H', os, bare, un, ok', r', q⟩ := h
      cases (show v = .bl true from q)
      cases (show u = Value.bool true from r')
      exact ⟨rfl, old_of hO un ok ok', os, bare⟩
  by_cases hk : K.lookup a = none
  · refine core (upd (fun _ => none) a (.frz { cls := .type "list", data := .seq vs.toArray } (.lst (ns.map V.int)))) ?_ (.inl (.inr ⟨_, upd_same⟩)) ?_ ?_ fun _ => hk
    · intro b
      by_cases hb : b = a
      · subst hb
        exact .inr ⟨_, _, upd_same⟩
      · exact .inl (upd_ne hb)
    · intro b u z
      by_cases hb : b = a
      · subst hb
        rw [upd_same] at z
        cases z
        exact ⟨ha, by rw [List.length_map]; exact hl, vs, _, rv, ha⟩
      · rw [upd_ne hb] at z
        cases z
    · intro b z
      by_cases hb : b = a
      · exact hb
      · exact absurd (upd_ne hb) z
  · obtain ⟨o, ho⟩ := Option.ne_none_iff_exists'.mp hk
    have e := KX a o ho
    rw [ha] at e
    cases e
    have lenV := hi.length
    refine core (fun _ => none) (fun _ => .inl rfl) (.inr ⟨_, vs.toArray, _, ho, rfl, rfl, rfl, ?_, ?_⟩) ?_ ?_ ?_
    · rw [List.size_toArray, lenV]
      exact hl
    · simpa using rv
    · intro b u z
      cases (show (none : Option HO) = some u from z)
    · intro b z
      exact absurd rfl z
    · intro z
      exact absurd rfl z
theorem walkG {l : PySem.W.OpenLaw} {n k : Nat} {q : Program} {loose : List Str} {XP : (Str → Option Value) → Heap → Prop}
    {YP : World → Heap → Prop} {d : DefRec} {K : Params → PySem.W.Frag} {CX : World → CXT} {sp : World → Sp} {x : Str}
    (hn : l.most = some n) (hn2 : n ≤ sizeLine) (hdf : d.params.defaults = []) (hr : Room k callerA)
    (hY : ∀ (w : World) (h : Heap), YP w h → (K w.params).In h)
    (F : ∀ (w : World) (mg : Str → Option Value) (fa : Addr) (h : Heap), (K w.params).In h → h.Ns mainGlobals mg →
      mg d.name = some (.ref fa) → ∃ fd : FuncData, (∀ (s : Shared) (u : Value), BindsTo s fd ⟨[u], []⟩ [(x, u)]) ∧
        ∀ base : Heap, (K w.params).In base → base.Ns mainGlobals mg → OkG l.prog w (K w.params) mg base (CX w) k fa fd [x] (sp w))
    (hsp : ∀ (w : World) (H : Hp) (a : Addr) (ns : List Int), ns.length ≤ n → (∀ z ∈ ns, Builtin.Int.intBits z ≤ 1048576) →
      SqL (K w.params) H a (ns.map V.int) → sp w [.ref a] H (fun v _ => v = .bl true) fun _ _ _ => False)
    (hCX : ∀ (w : World) (H : Hp) (s : Shared) (e : Value) (s' : Shared), CX w [] H s (fun _ _ _ => False) e s' → False) :
    PySem.W.WalkO q loose XP YP l.row.toRowW d [] (fun f vs => PySem.call f vs) := by
  refine Att.attach_callB hn hdf ?_
  intro w s₀ s₁ mg mb fa o pm cd doc a vs ns G Y ho hd hcd hmg hobj hints hlen hbits hg
  obtain ⟨fd, hb, hF⟩ := F w mg fa _ (hY w _ Y) G.T.g hmg
  exact call_lawG (hY w _ Y) G.T.g G.T.b G.T.builtins G.T.nolimit hg hobj hints (Nat.le_trans hlen hn2) hr hF hb
    (fun H hS => hsp w H a ns hlen hbits hS) (fun H e s' => hCX w H s₁ e s')
end Hv

namespace Hv
open PySem PySem.Spec PyProof.Rows L2
section
variable {X : Cx} {o e : Expr} {to te : TE}
/-- a text's method of one argument; its receiver wants a token -/
theorem pet_m1 {id : String} {name : Str} {apos pos : Pos} {r : V → List V → Hp → VK → Prop} (slot : Slot "str" name id)
    (ty : typeOf (.builtin id) = pure (.type "method_descriptor")) (rule : MtR X id r) (ho : PET X o to) (he : PE X e te)
    (hs : starEach [e] X.env = [(false, eval e X.env)] := by rfl) (hbase : attributeBase o name X.env (eval o X.env) = eval o X.env := by rfl)
    (hline : (apos.endLine == pos.line) = true := by rfl) : PET X (.Call (.Attribute o name apos) [e] [] pos) (tM1 r to te) := by
  intro pins s σ H Q h0 I h
  apply PySem.Call_method1 hbase hs hline
  apply thn (ho pins s σ H _ h0 I h)
  rintro v s1 ⟨x, H1, I1, r1, ⟨a, rfl⟩, q1⟩
  obtain ⟨t, rfl⟩ := _root_.id r1
  refine ⟨"str", _, F.plainAttrs_str, slot, ty, typeIs_str _ _ _, (fun _ e => nomatch e), ?_⟩
  refine Calls.callWith_builtin rfl (Calls.evalArgs_plain (Calls.spliced_cons (thn (he.run pins s1 σ H1 _ I1 q1) ?_)))
  rintro u s2 ⟨y, H2, I2, r2, q2⟩
  exact Calls.spliced_nil (rule pins s2 σ H2 _ [y] _ [u] Q I2 r1 (.cons r2 .nil) q2)
theorem pst_asg {tg : Expr} {g : TG} {pos : Pos} (he : PET X e te) (hg : PG X tg g) (hs : swapsWithSole [tg] e pos.line X.env = pure false := by rfl)
    (hw : swappedStores [tg] e X.env = pure none := by rfl) (h1 : (assignEach [tg] X.env).map (·.2) = [assign tg X.env] := by rfl) :
    PST X (.Assign [tg] e pos) (tAsg te g) := by
  intro pins s σ H D h0 I h
  refine wpAny_Assign_stores (thn (he pins s σ H _ h0 I h) ?_) hs hw
  rintro v s1 ⟨x, H1, I1, r1, q1⟩
  rw [h1]
  exact thn (hg.run pins s1 σ H1 x v _ I1 r1 q1) fun _ s2 q => q
/-- f(k = v, ..), no positional argument -/
theorem pe_callK0 {CX : CXT} {k : Nat} {f : Addr} {fd : FuncData} {ps ks : List Str} {sp : Sp} {E : XK} {x : Str} {p pos : Pos} {kws : List Keyword} {tk : TA}
    {g : List Value → List Value → List Value} {gV : List V → List V → List V} (F : FnOk X.prog X.w X.K X.mg X.base CX k f fd ps sp) (hr : Room k X.A) (hg : Gl X x)
    (hm : X.mg x = some (.ref f)) (hk : PySem.W.keepIn X.K (.ref f) = true) (hb : KBinds X.K fd ps ks g gV) (hx : Passes CX X E) (hkw : PK X kws tk)
    (hall : (backToKw pos (keywordEach kws X.env)).all (·.1.isSome) = true := by rfl) (hks : (backToKw pos (keywordEach kws X.env)).filterMap (·.1) = ks := by rfl)
    (hdb : (x == ("__debug__" : Str)) = false := by decide)
    (hpl : ((backTo pos (starEach [] X.env)).any (·.1) || (backToKw pos (keywordEach kws X.env)).any (·.1.isNone)) = false := by rfl) :
    PE X (.Call (.Name x p) [] kws pos) (tCallK sp gV E tNil tk) := by
  constructor
  intro pins s σ H Q I h
  apply wpAny_Call_Name_kw
  refine ld_glob I hg hm ?_ hdb
  refine PySem.W.callWith_KW0 (h₀ := X.base) I.ok.mod.kin hk hall ?_ hpl
  apply thn (hkw.run pos pins s σ H _ I h)
  rintro ws s2 ⟨zs, H2, I2, rz, q2⟩
  rw [hks]
  exact ⟨I2.kIn, run_fnk (us := []) F hr hb hx I2 .nil rz q2⟩
/-- repr of a truth value -/
theorem cr_reprB : CallR X (.builtin "repr") (fun xs H Q => ∃ b, xs = [.bl b] ∧ Q (.str (if b then "True" else "False")) H) := by
  intro pins s σ H xs us Q I r h
  obtain ⟨b, rfl, q⟩ := h
  cases r with
  | cons a t =>
    cases t
    cases a
    exact PySem.P.repr_of_bool ⟨.str _, H, I.tok _, ⟨_, rfl⟩, q⟩
end
section
variable {P : Program} {w : World} {K : PySem.W.Frag} {mg : Str → Option Value} {base : Heap} {CX : CXT} {k : Nat} {f : Addr} {fd : FuncData} {ps : List Str} {sp : Sp}
/-- the rule for a def without cells: a token is out when its body begins -/
theorem okT {x qual : Str} {st : Stmt} {N : List Str} (F : Fun K x qual st f fd) (S : FnScope N ps (defScope st)) (hnc : ∀ y ∈ (defScope st).names, y.2 ≠ .cell) (hps : 1 ≤ ps.length)
    (len : ∀ vs H Q E, sp vs H Q E → vs.length = ps.length)
    (body : ∀ (cdv : Value) (A : Around) (outer : List Env) (s : Shared) (H : Hp) (vs : List V) (Q : VK) (E : XK),
      Room k (A.deeper (envOfC qual (defScope st) s.heap.objs.size f cdv)) → sp vs H Q E →
      ∃ t, PSsT (cxOf CX P w K mg base N qual (defScope st) f cdv A outer s H E) (defBody st) t ∧ t { nx := fun _ H' => Q .non H', rt := Q } (start N vs) H) :
    FnOk P w K mg base CX (k + 1) f fd ps sp := by
  obtain ⟨oc, od, kV, doc, pm, an, cdv, ct, osl, rfl, lk, hcd⟩ := F.ex
  exact fn_ofT lk hcd S hnc hps len fun A outer s H vs Q E hr hsp => body cdv A outer s H vs Q E hr hsp
end
end Hv

namespace Hv
open PySem L2

theorem dT {p : Prop} [Decidable p] (h : decide p = true) : p := of_decide_eq_true h
theorem dF {p : Prop} [Decidable p] (h : ¬ decide p = true) : ¬ p := fun q => h (decide_eq_true q)
theorem nT {p : Prop} [Decidable p] (h : (!decide p) = true) : ¬ p := fun q => by
  rw [decide_eq_true q] at h
  cases h
theorem nF {p : Prop} [Decidable p] (h : ¬ (!decide p) = true) : p := by
  by_cases q : p
  · exact q
  · exact absurd (by rw [decide_eq_false q]; rfl) h

theorem ifT {p : Prop} [Decidable p] {A B : Prop} (hp : p) (h : A) : if decide p = true then A else B := by
  rw [if_pos (decide_eq_true hp)]
  exact h
theorem ifF {p : Prop} [Decidable p] {A B : Prop} (hp : ¬ p) (h : B) : if decide p = true then A else B := by
  rw [if_neg (fun q => hp (of_decide_eq_true q))]
  exact h
theorem ifNT {p : Prop} [Decidable p] {A B : Prop} (hp : ¬ p) (h : A) : if (!decide p) = true then A else B := by
  rw [decide_eq_false hp]
  exact h
theorem ifNF {p : Prop} [Decidable p] {A B : Prop} (hp : p) (h : B) : if (!decide p) = true then A else B := by
  rw [decide_eq_true hp]
  exact h

/-- a value's reading by what holds behind it -/
theorem join_te {te : TE} {σ : L2.St} {H : Hp} {Q : VK} (S : V → Hp → Prop) (h : ∀ Q' : VK, (∀ v H', S v H' → Q' v H') → te σ H Q') (k : ∀ v H', S v H' → Q v H') : te σ H Q := h Q k

theorem join_asg {te : TE} {g : TG} {u : TS} {D : Ends} {σ : L2.St} {H : Hp} (S : V → Hp → Prop) (h : ∀ Q' : VK, (∀ v H', S v H' → Q' v H') → te σ H Q')
    (k : ∀ v H', S v H' → g v σ H' (u D)) : tSeq (tAsg te g) u D σ H := h _ k

theorem join_ifs {tt : TT} {t u v : TS} {D : Ends} {σ : L2.St} {H : Hp} (S : Bool → Hp → Prop) (h : ∀ Q' : Bool → Hp → Prop, (∀ b H', S b H' → Q' b H') → tt σ H Q')
    (k : ∀ b H', S b H' → if b = true then t { D with nx := v D } σ H' else u { D with nx := v D } σ H') : tSeq (tIfS tt t u) v D σ H := h _ k
/-- both ways of an if come to the same -/
theorem join_if {c : Bool} {A B R : Prop} (hB : c = false → R → B) (hA : c = true → R → A) (r : R) : if c = true then A else B := by
  cases c with
  | true => exact hA rfl r
  | false => exact hB rfl r

structure DefAt (K : PySem.W.Frag) (mg : Str → Option Value) (x : Str) (st : Stmt) (ps : List Str) (f : Addr) (fd : FuncData) : Prop where
  fn : Fun K x x st f fd
  mg : mg x = some (.ref f)
  bd : Binds K fd ps []
/-- what the top has left of a def -/
def DefIn (K : PySem.W.Frag) (x : Str) (st : Stmt) : Prop :=
  ∃ (f : Addr) (oc : Value) (od : Option Addr) (kV doc pm : Value) (an : Option Addr) (cd ct : Value) (sl : Array (Option Value)),
    PySem.W.nsIn K mainGlobals x = some (some (.ref f)) ∧
    K.lookup f = some ⟨oc, od, .func (PySem.W.fnOf x x (defArgs st) (defBody st) (defScope st) .none kV doc pm an cd ct), sl⟩ ∧
    PySem.W.codeIn K cd x = true ∧ PySem.W.keepIn K (.ref f) = true
theorem defIn_mk {K : PySem.W.Frag} {x : Str} {st : Stmt} {f : Addr} {oc : Value} {od : Option Addr} {kV doc pm : Value} {an : Option Addr} {cd ct : Value} {sl : Array (Option Value)}
    (a : PySem.W.nsIn K mainGlobals x = some (some (.ref f)))
    (l : K.lookup f = some ⟨oc, od, .func (PySem.W.fnOf x x (defArgs st) (defBody st) (defScope st) .none kV doc pm an cd ct), sl⟩)
    (c : PySem.W.codeIn K cd x = true) (k : PySem.W.keepIn K (.ref f) = true) : DefIn K x st :=
  ⟨f, oc, od, kV, doc, pm, an, cd, ct, sl, a, l, c, k⟩
theorem constIn_mk {K : PySem.W.Frag} {x : Str} {C : Value → Prop} {v : Value} (a : PySem.W.nsIn K mainGlobals x = some (some v)) (c : C v) : ∃ v, PySem.W.nsIn K mainGlobals x = some (some v) ∧ C v := ⟨v, a, c⟩
theorem DefIn.at {K : PySem.W.Frag} {mg : Str → Option Value} {h : Heap} {x : Str} {st : Stmt} {ps : List Str} (d : DefIn K x st) (X : K.In h) (G : h.Ns mainGlobals mg)
    (hb : ∀ (kV doc pm : Value) (an : Option Addr) (cdv ct : Value) (us : List Value), us.length = ps.length →
      bindArgs (PySem.W.fnOf x x (defArgs st) (defBody st) (defScope st) .none kV doc pm an cdv ct) ⟨us, []⟩ = pure (ps.zip us)) :
    ∃ f fd, DefAt K mg x st ps f fd := by
  obtain ⟨f, oc, od, kV, doc, pm, an, cd, ct, sl, a, l, c, k⟩ := d
  have F := fun_mk (st := st) l c k
  exact ⟨f, _, F, PySem.W.mg_of X G a, F.binds hb⟩

/-- the draws' bag: three ints, the second one from 0 on and not beyond the script's bits, the third at most k -/
def Bag (H : Hp) (b : Addr) (k : Nat) : Prop :=
  ∃ s d n : Int, H b = some (.lst [.int s, .int d, .int n]) ∧ 0 ≤ d ∧ Builtin.Int.intBits d ≤ 1048576 ∧ 0 ≤ n ∧ n ≤ k
theorem Bag.mono {H : Hp} {b : Addr} {j k : Nat} (h : Bag H b j) (le : j ≤ k) : Bag H b k := by
  obtain ⟨s, d, n, h1, h2, h3, h4, h5⟩ := h
  exact ⟨s, d, n, h1, h2, h3, h4, by omega⟩
theorem Bag.same {H H' : Hp} {b : Addr} {k : Nat} (h : Bag H b k) (e : Same H H') : Bag H' b k := by
  obtain ⟨s, d, n, h1, h2⟩ := h
  exact ⟨s, d, n, e _ _ h1, h2⟩
theorem Bag.ne_none {H : Hp} {b p : Addr} {k : Nat} (h : Bag H b k) (hp : H p = none) : p ≠ b := by
  obtain ⟨s, d, n, h1, _⟩ := h
  exact (ne_of_none h1 hp).symm
/-- all that is tracked but b stays -/
def But (b : Addr) (H H' : Hp) : Prop := ∀ a o, a ≠ b → H a = some o → H' a = some o
theorem But.refl {b : Addr} {H : Hp} : But b H H := fun _ _ _ h => h
theorem But.trans {b : Addr} {H H1 H2 : Hp} (x : But b H H1) (y : But b H1 H2) : But b H H2 := fun a o n h => y a o n (x a o n h)
theorem But.put {b : Addr} {H H1 : Hp} {o : HO} (x : But b H H1) : But b H (upd H1 b o) := fun a u n h => by
  rw [upd_ne n]; exact x a u n h
theorem But.new {b p : Addr} {H H1 : Hp} {o : HO} (x : But b H H1) (hp : H1 p = none) : But b H (upd H1 p o) := fun a u n h => by
  have q := x a u n h
  rw [upd_ne (ne_of_none q hp)]; exact q
theorem But.of {b : Addr} {H H' : Hp} (e : Same H H') : But b H H' := fun a o _ h => e a o h
theorem But.seq {b a : Addr} {K : PySem.W.Frag} {H H' : Hp} {xs : List V} (e : But b H H') (n : a ≠ b) (h : SqL K H a xs) : SqL K H' a xs := by
  rcases h with (h | ⟨o, h⟩) | h
  · exact .inl (.inl (e _ _ n h))
  · exact .inl (.inr ⟨o, e _ _ n h⟩)
  · exact .inr h
theorem same_new {H : Hp} {p : Addr} {o : HO} (hp : H p = none) : Same H (upd H p o) := fun a u e => by
  rw [upd_ne (ne_of_none e hp)]; exact e
theorem But.free {b p : Addr} {H H' : Hp} (e : But b H H') (n : p ≠ b) (h : H' p = none) : H p = none := by
  cases q : H p with
  | none => rfl
  | some o =>
    rw [e p o n q] at h
    cases h

/-- changes at places that H did not know -/
theorem same_but {H H1 H2 : Hp} {b : Addr} (s : Same H H1) (hb : H b = none) (e : But b H1 H2) : Same H H2 := fun a o h =>
  e a o (ne_of_none h hb) (s a o h)
theorem same_put {H H1 : Hp} {b : Addr} {o : HO} (s : Same H H1) (hb : H b = none) : Same H (upd H1 b o) := fun a u h => by
  rw [upd_ne (ne_of_none h hb)]
  exact s a u h
theorem Bag.put {H : Hp} {b p : Addr} {k : Nat} {o : HO} (h : Bag H b k) (n : p ≠ b) : Bag (upd H p o) b k := by
  obtain ⟨s, d, m, h1, h2⟩ := h
  exact ⟨s, d, m, by rw [upd_ne n.symm]; exact h1, h2⟩
theorem log2_mono {a b : Nat} (h : a ≤ b) : a.log2 ≤ b.log2 := by
  by_cases h0 : a = 0
  · subst h0
    rw [Nat.log2_zero]
    exact Nat.zero_le _
  · have h1 := Nat.log2_self_le h0
    exact (Nat.le_log2 (by omega)).mpr (Nat.le_trans h1 h)
theorem bits_mono {a b : Int} (h : a.natAbs ≤ b.natAbs) : Builtin.Int.intBits a ≤ Builtin.Int.intBits b := by
  unfold Builtin.Int.intBits
  have := log2_mono h
  by_cases h0 : a = 0
  · rw [if_pos (by rw [h0]; rfl)]
    exact Nat.zero_le _
  · by_cases h1 : b = 0
    · subst h1
      simp at h
      exact absurd h h0
    · rw [if_neg (by simpa using h0), if_neg (by simpa using h1)]
      omega
theorem bits_div {d m : Int} (h0 : 0 ≤ d) (hm : 0 < m) (h : Builtin.Int.intBits d ≤ 1048576) : Builtin.Int.intBits (d / m) ≤ 1048576 := by
  refine Nat.le_trans (bits_mono ?_) h
  have h1 : 0 ≤ d / m := Int.ediv_nonneg h0 (by omega)
  have h2 : d / m ≤ d := Int.ediv_le_self _ h0
  omega
theorem bits_small {n : Int} (h : n.natAbs < 2 ^ 1000) : Builtin.Int.intBits n ≤ 1048576 := by
  unfold Builtin.Int.intBits
  split
  · decide
  · by_cases h0 : n.natAbs = 0
    · rw [h0]
      decide
    · have := (Nat.log2_lt h0).mpr h
      omega
theorem pylong_no {d m : Int} (h : m.natAbs < 2 ^ 1000) : Builtin.divisionGoesByPylong d m = false := by
  unfold Builtin.divisionGoesByPylong
  rw [Bool.and_eq_false_iff]
  left
  rw [decide_eq_false_iff_not]
  dsimp only
  split
  · decide
  · rename_i hz
    have h0 : m.natAbs ≠ 0 := by
      intro q
      apply hz
      rw [beq_iff_eq]
      omega
    have := (Nat.log2_lt h0).mpr h
    omega
theorem m_small {m : Int} (h0 : 0 ≤ m) (h : m ≤ 10 ^ 41) : m.natAbs < 2 ^ 1000 := by
  have e : (10 : Nat) ^ 41 < 2 ^ 1000 := by decide +kernel
  have : m.natAbs ≤ 10 ^ 41 := by omega
  exact Nat.lt_of_le_of_lt this e
/-- a number of the script, or one mixed of its first ones -/
def sp_seed (K : PySem.W.Frag) : Sp := fun vs H Q _ => ∃ (a : Addr) (ns : List Int) (k : Int), vs = [.ref a, .int k] ∧ SqL K H a (ns.map V.int) ∧
  (∀ z ∈ ns, Builtin.Int.intBits z ≤ 1048576) ∧ 0 ≤ k ∧ k < 1000 ∧ ∀ (n : Int) (H' : Hp), Same H H' → Builtin.Int.intBits n ≤ 1048576 → Q (.int n) H'
def sp_bag : Sp := fun vs H Q _ => ∃ (n : Int), vs = [.int n] ∧ Builtin.Int.intBits n ≤ 1048576 ∧
  ∀ (p : Addr) (H' : Hp), H p = none → Same H H' → Bag H' p 0 → Q (.ref p) H'
/-- a draw below m -/
def sp_take : Sp := fun vs H Q _ => ∃ (b : Addr) (m : Int) (k : Nat), vs = [.ref b, .int m] ∧ Bag H b k ∧ k < 1000000 ∧ 0 < m ∧ m.natAbs < 2 ^ 1000 ∧
  ∀ (r : Int) (H' : Hp), But b H H' → Bag H' b (k + 1) → 0 ≤ r → r < m → Q (.int r) H'
end Hv

namespace Hv
open PySem PySem.Spec PyProof.Rows
section
variable {prog : Program} {w : World} {A : Around} {E : Value → Shared → Prop} {s : Shared} {K : PySem.W.Frag} {x C f L : Addr} {h₀ : Heap} {m : Str → Option Value} {ox : Obj} {od : Option Obj}
/-- v.__eq__(x) or v.__ne__(x) declines, the state stays -/
def Declines (prog : Program) (w : World) (A : Around) (E : Value → Shared → Prop) (s : Shared) (op : CmpOp) (v : Value) (x : Addr) : Prop :=
  ∃ T id, s.TypeIs v T ∧ Slot T (cmpInfo op).2.1 id ∧ wpAny (model prog w) A (call (.builtin id) [v, .ref x]) (fun r s' => r = .notImplemented ∧ s' = s) E s
/-- v op x, x an instance on the right: v declines, x is asked -/
theorem cmp_right {op : CmpOp} {v : Value} {T : String} {Q : Value → Shared → Prop} (hu : A.units < cLine) (X : K.In s.heap) (I : PySem.W.InstAt s.heap x ox C od) (hT : s.TypeIs v T) {id : String} (slot : Slot T (cmpInfo op).2.1 id)
    (dec : wpAny (model prog w) A (call (.builtin id) [v, .ref x]) (fun r s' => r = .notImplemented ∧ s' = s) E s) (hsub : PySem.W.subIn K (.ref C) (.type T) = some false)
    (back : wpAny (model prog w) A (tryCompare (.ref x) (cmpInfo op).2.2 v) (fun r s' => ∃ u, r = some u ∧ Q u s') E s) : wpAny (model prog w) A (richCompare op v (.ref x)) Q E s := by
  have hne : (Value.type T != Value.ref C) = true := by
    rw [bne_iff_ne]
    intro q
    cases q
  have one : wpAny (model prog w) A (tryCompare v (cmpInfo op).2.1 (.ref x)) (fun r s' => r = none ∧ s' = s) E s := by
    unfold tryCompare
    refine wpAny_bind (wpAny_callSpecialIfBound?_slot hT slot (wpAny_mono dec ?_ fun _ _ e => e))
    rintro r s' ⟨rfl, rfl⟩
    exact wpAny_pure ⟨rfl, rfl⟩
  unfold richCompare
  simp only [hT.oneThing_none]
  refine wpAny_holding (wpAny_bind (wpAny_cRoomFor hu ?_))
  refine wpAny_bind (wpAny_typeOf hT (wpAny_bind (I.type.here ?_)))
  simp only [hne, if_true]
  refine wpAny_bind ((PySem.W.looks_subIn X hsub).here ?_)
  simp only [Bool.false_eq_true, if_false]
  refine wpAny_bind (wpAny_mono one ?_ fun _ _ e => e)
  rintro r s' ⟨rfl, rfl⟩
  simp only [Bool.not_false, if_true]
  refine wpAny_bind (wpAny_mono back ?_ fun _ _ e => e)
  rintro r s' ⟨u, rfl, q⟩
  exact wpAny_pure q
/-- x.__eq__(b) by the class's own def -/
theorem try_eq {b : Value} {Q : Value → Shared → Prop} (X : K.In s.heap) (I : PySem.W.InstAt s.heap x ox C od) (hs : PySem.W.findIn K (.ref C) "__eq__" = some (some (.ref f))) (hf : PySem.W.isFn K (.ref f) = true)
    (h : wpAny (model prog w) A (call (.ref f) [.ref x, b]) (fun v s' => ∃ k, v = .bool k ∧ Q (.bool k) s') E s) :
    wpAny (model prog w) A (tryCompare (.ref x) "__eq__" b) (fun r s' => ∃ u, r = some u ∧ Q u s') E s := by
  unfold tryCompare
  refine wpAny_bind (PySem.W.ifBound_K X I hs hf (wpAny_mono h ?_ fun _ _ e => e))
  rintro v s' ⟨k, rfl, q⟩
  exact wpAny_pure ⟨_, rfl, q⟩
/-- x != b of an instance whose class has __eq__ alone -/
theorem try_ne {b : Value} {Q : Value → Shared → Prop} (hu : A.in1.units < cLine) (X : K.In s.heap) (I : PySem.W.InstAt s.heap x ox C od) (hn : PySem.W.findIn K (.ref C) "__ne__" = some (some (.builtin "object.__ne__")))
    (hm : PySem.W.mroIn K C (.type "object") = some true) (hs : PySem.W.findIn K (.ref C) "__eq__" = some (some (.ref f))) (hf : PySem.W.isFn K (.ref f) = true)
    (h : wpAny (model prog w) A.in1 (call (.ref f) [.ref x, b]) (fun v s' => ∃ k, v = .bool k ∧ Q (.bool (!k)) s') E s) :
    wpAny (model prog w) A (tryCompare (.ref x) "__ne__" b) (fun r s' => ∃ u, r = some u ∧ Q u s') E s := by
  have call_ne : wpAny (model prog w) A (call (.builtin "object.__ne__") [.ref x, b]) (fun v s' => ∃ k, v = .bool k ∧ Q (.bool k) s') E s := by
    refine wpAny_call (codeAny_call_builtin PySem.F.slot_object_ne.plain PySem.F.entry_object_ne (PySem.W.check_slot (i := "object.__ne__") (owner := "object") (n := "__ne__") (by decide +kernel) (by decide +kernel)
      (I.type.andThen (PySem.W.looks_mroIn X hm)) (PySem.F.args_object_ne_2 _ _) ?_))
    unfold Builtin.«object.__ne__»
    refine wpAny_bind (wpAny_pure ?_)
    refine wpAny_bind (m := cRoomFor _ _) (wpAny_cRoomFor hu ?_)
    refine wpAny_bind (m := callSpecialIfBound? (.ref x) (Str.ofString "__eq__") _) (PySem.W.ifBound_K X I hs hf (wpAny_mono h ?_ fun _ _ e => e))
    rintro v s' ⟨k, rfl, q⟩
    exact wpAny_bind (wpAny_pure (wpAny_pure ⟨_, rfl, q⟩))
  unfold tryCompare
  refine wpAny_bind ?_
  simp only [callSpecialIfBound?, bindSpecialIfBound?]
  refine wpAny_holding (wpAny_bind (wpAny_bind (wpAny_bind (I.type.here ((PySem.W.looks_findIn X hn).here ?_)))))
  simp only [PySem.F.slot_object_ne.bind]
  refine wpAny_bind (wpAny_askSetting (wpAny_ite ?_))
  have fin : wpAny (model prog w) A (call (.builtin "object.__ne__") ([.ref x] ++ [b]) >>= fun v => pure (some v))
      (fun a s' => wpAny (model prog w) A (match a with | some Value.notImplemented => pure none | none => pure none | some v => pure (some v)) (fun r s' => ∃ u, r = some u ∧ Q u s') E s') E s := by
    refine wpAny_bind (wpAny_mono call_ne ?_ fun _ _ e => e)
    rintro v s' ⟨k, rfl, q⟩
    exact wpAny_pure (wpAny_pure ⟨_, rfl, q⟩)
  split
  · exact wpAny_bind (wpAny_pure (wpAny_pure fin))
  · exact wpAny_tryCatch (wpAny_bind (wpAny_pure (wpAny_pure fin)))
/-- x op b, the instance on the left, by what tryCompare gives -/
theorem cmp_left {op : CmpOp} {b tb : Value} {Q : Value → Shared → Prop} (hu : A.units < cLine) (X : K.In s.heap) (I : PySem.W.InstAt s.heap x ox C od) (hb : PySem.W.Looks (model prog w) s.heap (typeOf b) tb) (hn : PySem.W.notFirst K C tb = true)
    (one : wpAny (model prog w) A (tryCompare (.ref x) (cmpInfo op).2.1 b) (fun r s' => ∃ u, r = some u ∧ Q u s') E s) : wpAny (model prog w) A (richCompare op (.ref x) b) Q E s := by
  unfold richCompare
  simp only [oneThing_ref]
  refine wpAny_holding (wpAny_bind (wpAny_cRoomFor hu ?_))
  refine wpAny_bind (I.type.here (wpAny_bind (hb.here ?_)))
  have last : ∀ r s', (∃ u, r = some u ∧ Q u s') → wpAny (model prog w) A (match r with | some v => pure v | none => (pure Value.none : Sem Value)) Q E s' := by
    rintro r s' ⟨u, rfl, q⟩
    exact wpAny_pure q
  split
  · rename_i q
    have e : PySem.W.subIn K tb (.ref C) = some false := by
      unfold PySem.W.notFirst at hn
      rcases Bool.or_eq_true_iff.mp hn with e | e
      · rw [beq_iff_eq.mp e] at q
        simp at q
      · exact beq_iff_eq.mp e
    refine wpAny_bind ((PySem.W.looks_subIn X e).here ?_)
    simp only [Bool.false_eq_true, if_false]
    refine wpAny_bind (wpAny_mono one ?_ fun _ _ e => e)
    rintro r s' ⟨u, rfl, hq⟩
    exact wpAny_pure hq
  · refine wpAny_bind (wpAny_pure ?_)
    simp only [Bool.false_eq_true, if_false]
    refine wpAny_bind (wpAny_mono one ?_ fun _ _ e => e)
    rintro r s' ⟨u, rfl, hq⟩
    exact wpAny_pure hq
/-! who declines an instance -/
theorem asStr_no {M : Model} {A : Around} {E : Value → Shared → Prop} {s : Shared} {o : Obj} {Q : Option Str → Shared → Prop} (hx : s.heap.get? x = some o) (hd : o.data = .plain) (q : Q none s) : wpAny M A (asStr? (.ref x)) Q E s := by
  obtain ⟨oc, od, dt, osl⟩ := o
  cases (show dt = .plain from hd)
  refine wpAny_bind (wpAny_load hx ?_)
  exact wpAny_pure q
theorem asInt_no {M : Model} {A : Around} {E : Value → Shared → Prop} {s : Shared} {o : Obj} {Q : Option Int → Shared → Prop} (hx : s.heap.get? x = some o) (hd : o.data = .plain) (q : Q none s) : wpAny M A (asInt? (.ref x)) Q E s := by
  obtain ⟨oc, od, dt, osl⟩ := o
  cases (show dt = .plain from hd)
  refine wpAny_bind (wpAny_load hx ?_)
  exact wpAny_pure q
theorem str_eq_no {o : Obj} (hd : o.data = .plain) (a : Str) (t : Tok) : GivesAt (fun s => s.heap.get? x = some o) (Builtin.«str.__eq__» ⟨[.str a t, .ref x], []⟩) (.val .notImplemented) := by
  intro prog w A R s hP h
  unfold Builtin.«str.__eq__» Builtin.Str.strCompare
  refine wpAny_bind (wpAny_pure ?_)
  exact wpAny_bind (asStr_no hP hd (wpAny_bind (wpAny_rule (wpAny_pure h))))
theorem str_ne_no {o : Obj} (hd : o.data = .plain) (a : Str) (t : Tok) : GivesAt (fun s => s.heap.get? x = some o) (Builtin.«str.__ne__» ⟨[.str a t, .ref x], []⟩) (.val .notImplemented) := by
  intro prog w A R s hP h
  unfold Builtin.«str.__ne__» Builtin.Str.strCompare
  refine wpAny_bind (wpAny_pure ?_)
  exact wpAny_bind (asStr_no hP hd (wpAny_bind (wpAny_rule (wpAny_pure h))))
theorem int_cmp_no {o : Obj} (hd : o.data = .plain) (nm : String) (g : Int → Int → Bool) (v : Value) (hv : (∃ a t, v = .int a t) ∨ ∃ b, v = .bool b) :
    GivesAt (fun s => s.heap.get? x = some o) (Builtin.Int.intBinary nm (fun x y => ret (.bool (g x y))) false ⟨[v, .ref x], []⟩) (.val .notImplemented) := by
  intro prog w A R s hP h
  unfold Builtin.Int.intBinary
  refine wpAny_bind (wpAny_pure ?_)
  rcases hv with ⟨a, t, rfl⟩ | ⟨b, rfl⟩
  · refine wpAny_bind (wpAny_pure ?_)
    exact wpAny_bind (asInt_no hP hd (wpAny_bind (wpAny_rule (wpAny_pure h))))
  · refine wpAny_bind (wpAny_pure ?_)
    exact wpAny_bind (asInt_no hP hd (wpAny_bind (wpAny_rule (wpAny_pure h))))
theorem int_eq_no {o : Obj} (hd : o.data = .plain) (v : Value) (hv : (∃ a t, v = .int a t) ∨ ∃ b, v = .bool b) : GivesAt (fun s => s.heap.get? x = some o) (Builtin.«int.__eq__» ⟨[v, .ref x], []⟩) (.val .notImplemented) :=
  int_cmp_no hd "__eq__" (· == ·) v hv
theorem int_ne_no {o : Obj} (hd : o.data = .plain) (v : Value) (hv : (∃ a t, v = .int a t) ∨ ∃ b, v = .bool b) : GivesAt (fun s => s.heap.get? x = some o) (Builtin.«int.__ne__» ⟨[v, .ref x], []⟩) (.val .notImplemented) :=
  int_cmp_no hd "__ne__" (· != ·) v hv
/-- a list, a tuple: is the other one such? -/
def InstP (K : PySem.W.Frag) (x C : Addr) (ox : Obj) (od : Option Obj) (s : Shared) : Prop := K.In s.heap ∧ PySem.W.InstAt s.heap x ox C od
theorem list_eq_no (v : Value) (hsub : PySem.W.subIn K (.ref C) (.type "list") = some false) : GivesAt (InstP K x C ox od) (Builtin.«list.__eq__» ⟨[v, .ref x], []⟩) (.val .notImplemented) := by
  intro prog w A R s ⟨X, I⟩ h
  have L : PySem.W.Looks (model prog w) s.heap (isInstance (.ref x) (.type "list")) false := I.type.andThen (PySem.W.looks_subIn X hsub)
  show wpAny _ _ (isInstance (.ref x) (.type "list") >>= _) _ _ s
  refine wpAny_bind (L.here ?_)
  simp only [Bool.not_false, if_true]
  exact wpAny_pure h
theorem list_ne_no (v : Value) (hsub : PySem.W.subIn K (.ref C) (.type "list") = some false) : GivesAt (InstP K x C ox od) (Builtin.«list.__ne__» ⟨[v, .ref x], []⟩) (.val .notImplemented) := by
  intro prog w A R s ⟨X, I⟩ h
  have L : PySem.W.Looks (model prog w) s.heap (isInstance (.ref x) (.type "list")) false := I.type.andThen (PySem.W.looks_subIn X hsub)
  show wpAny _ _ (isInstance (.ref x) (.type "list") >>= _) _ _ s
  refine wpAny_bind (L.here ?_)
  simp only [Bool.not_false, if_true]
  exact wpAny_pure h
theorem tuple_eq_no (v : Value) (hsub : PySem.W.subIn K (.ref C) (.type "tuple") = some false) : GivesAt (InstP K x C ox od) (Builtin.«tuple.__eq__» ⟨[v, .ref x], []⟩) (.val .notImplemented) := by
  intro prog w A R s ⟨X, I⟩ h
  have L : PySem.W.Looks (model prog w) s.heap (isInstance (.ref x) (.type "tuple")) false := I.type.andThen (PySem.W.looks_subIn X hsub)
  show wpAny _ _ (isInstance (.ref x) (.type "tuple") >>= _) _ _ s
  refine wpAny_bind (L.here ?_)
  simp only [Bool.not_false, if_true]
  exact wpAny_pure h
theorem tuple_ne_no (v : Value) (hsub : PySem.W.subIn K (.ref C) (.type "tuple") = some false) : GivesAt (InstP K x C ox od) (Builtin.«tuple.__ne__» ⟨[v, .ref x], []⟩) (.val .notImplemented) := by
  intro prog w A R s ⟨X, I⟩ h
  have L : PySem.W.Looks (model prog w) s.heap (isInstance (.ref x) (.type "tuple")) false := I.type.andThen (PySem.W.looks_subIn X hsub)
  show wpAny _ _ (isInstance (.ref x) (.type "tuple") >>= _) _ _ s
  refine wpAny_bind (L.here ?_)
  simp only [Bool.not_false, if_true]
  exact wpAny_pure h
theorem none_eq_no : GivesAt (fun _ => True) (Builtin.«NoneType.__eq__» ⟨[.none, .ref x], []⟩) (.val .notImplemented) := by
  intro prog w A R s _ h
  unfold Builtin.«NoneType.__eq__»
  refine wpAny_bind (wpAny_pure ?_)
  exact wpAny_pure h
theorem none_ne_no : GivesAt (fun _ => True) (Builtin.«NoneType.__ne__» ⟨[.none, .ref x], []⟩) (.val .notImplemented) := by
  intro prog w A R s _ h
  unfold Builtin.«NoneType.__ne__»
  refine wpAny_bind (wpAny_pure ?_)
  exact wpAny_pure h
/-- the values that decline an instance of the class at C -/
inductive NoEq (K : PySem.W.Frag) (C : Addr) (s : Shared) : Value → String → Prop
  | none : NoEq K C s .none "NoneType"
  | int (i : Int) (t : Tok) : NoEq K C s (.int i t) "int"
  | bool (b : Bool) : NoEq K C s (.bool b) "bool"
  | str (a : Str) (t : Tok) : NoEq K C s (.str a t) "str"
  | list (l : Addr) (h : s.TypeIs (.ref l) "list") : NoEq K C s (.ref l) "list"
  | tuple (l : Addr) (h : s.TypeIs (.ref l) "tuple") : NoEq K C s (.ref l) "tuple"
structure NoSub (K : PySem.W.Frag) (C : Addr) : Prop where
  none : PySem.W.subIn K (.ref C) (.type "NoneType") = some false
  int : PySem.W.subIn K (.ref C) (.type "int") = some false
  bool : PySem.W.subIn K (.ref C) (.type "bool") = some false
  str : PySem.W.subIn K (.ref C) (.type "str") = some false
  list : PySem.W.subIn K (.ref C) (.type "list") = some false
  tuple : PySem.W.subIn K (.ref C) (.type "tuple") = some false
theorem eq_declined {v : Value} {T : String} {op : CmpOp} (ho : op = .Eq ∨ op = .NotEq) (X : K.In s.heap) (I : PySem.W.InstAt s.heap x ox C od) (hx : s.heap.get? x = some ox) (hd : ox.data = .plain) (c : NoSub K C) (hv : NoEq K C s v T) :
    ∃ id, s.TypeIs v T ∧ Slot T (cmpInfo op).2.1 id ∧ wpAny (model prog w) A (call (.builtin id) [v, .ref x]) (fun r s' => r = .notImplemented ∧ s' = s) E s := by
  rcases ho with rfl | rfl
  · cases hv with
    | none => exact ⟨_, rfl, F.slot_NoneType_eq, call_givesAt F.slot_NoneType_eq rfl F.entry_NoneType_eq (F.args_NoneType_eq_2 _ _) none_eq_no trivial ⟨rfl, rfl⟩⟩
    | int i t => exact ⟨_, rfl, F.slot_int_eq, call_givesAt F.slot_int_eq rfl F.entry_int_eq (F.args_int_eq_2 _ _) (int_eq_no hd _ (.inl ⟨_, _, rfl⟩)) hx ⟨rfl, rfl⟩⟩
    | bool b => exact ⟨_, rfl, F.slot_bool_eq, call_givesAt F.slot_bool_eq rfl F.entry_int_eq (F.args_int_eq_2 _ _) (int_eq_no hd _ (.inr ⟨_, rfl⟩)) hx ⟨rfl, rfl⟩⟩
    | str a t => exact ⟨_, rfl, F.slot_str_eq, call_givesAt F.slot_str_eq rfl F.entry_str_eq (F.args_str_eq_2 _ _) (str_eq_no hd _ _) hx ⟨rfl, rfl⟩⟩
    | list l h => exact ⟨_, h, F.slot_list_eq, call_givesAt F.slot_list_eq h F.entry_list_eq (F.args_list_eq_2 _ _) (list_eq_no _ c.list) ⟨X, I⟩ ⟨rfl, rfl⟩⟩
    | tuple l h => exact ⟨_, h, F.slot_tuple_eq, call_givesAt F.slot_tuple_eq h F.entry_tuple_eq (F.args_tuple_eq_2 _ _) (tuple_eq_no _ c.tuple) ⟨X, I⟩ ⟨rfl, rfl⟩⟩
  · cases hv with
    | none => exact ⟨_, rfl, F.slot_NoneType_ne, call_givesAt F.slot_NoneType_ne rfl F.entry_NoneType_ne (F.args_NoneType_ne_2 _ _) none_ne_no trivial ⟨rfl, rfl⟩⟩
    | int i t => exact ⟨_, rfl, F.slot_int_ne, call_givesAt F.slot_int_ne rfl F.entry_int_ne (F.args_int_ne_2 _ _) (int_ne_no hd _ (.inl ⟨_, _, rfl⟩)) hx ⟨rfl, rfl⟩⟩
    | bool b => exact ⟨_, rfl, F.slot_bool_ne, call_givesAt F.slot_bool_ne rfl F.entry_int_ne (F.args_int_ne_2 _ _) (int_ne_no hd _ (.inr ⟨_, rfl⟩)) hx ⟨rfl, rfl⟩⟩
    | str a t => exact ⟨_, rfl, F.slot_str_ne, call_givesAt F.slot_str_ne rfl F.entry_str_ne (F.args_str_ne_2 _ _) (str_ne_no hd _ _) hx ⟨rfl, rfl⟩⟩
    | list l h => exact ⟨_, h, F.slot_list_ne, call_givesAt F.slot_list_ne h F.entry_list_ne (F.args_list_ne_2 _ _) (list_ne_no _ c.list) ⟨X, I⟩ ⟨rfl, rfl⟩⟩
    | tuple l h => exact ⟨_, h, F.slot_tuple_ne, call_givesAt F.slot_tuple_ne h F.entry_tuple_ne (F.args_tuple_ne_2 _ _) (tuple_ne_no _ c.tuple) ⟨X, I⟩ ⟨rfl, rfl⟩⟩
theorem NoSub.at (c : NoSub K C) {v : Value} {T : String} (hv : NoEq K C s v T) : PySem.W.subIn K (.ref C) (.type T) = some false := by
  cases hv
  · exact c.none
  · exact c.int
  · exact c.bool
  · exact c.str
  · exact c.list
  · exact c.tuple
end
end Hv

namespace Hv
open PySem PySem.Spec PyProof.Rows L2
/-- what == and != ask of the class at C whose own __eq__ is at f -/
structure EqO (K : PySem.W.Frag) (C f : Addr) : Prop where
  eq : PySem.W.findIn K (.ref C) "__eq__" = some (some (.ref f))
  fn : PySem.W.isFn K (.ref f) = true
  ne : PySem.W.findIn K (.ref C) "__ne__" = some (some (.builtin "object.__ne__"))
  ob : PySem.W.mroIn K C (.type "object") = some true
  no : NoSub K C
  u1 : PySem.W.subIn K (.type "NoneType") (.ref C) = some false
  u2 : PySem.W.subIn K (.type "int") (.ref C) = some false
  u3 : PySem.W.subIn K (.type "bool") (.ref C) = some false
  u4 : PySem.W.subIn K (.type "str") (.ref C) = some false
  u5 : PySem.W.subIn K (.type "list") (.ref C) = some false
  u6 : PySem.W.subIn K (.type "tuple") (.ref C) = some false
/-- values of built-in types that stand in H -/
inductive Oth (K : PySem.W.Frag) (H : Hp) : V → Prop
  | non : Oth K H .non
  | int (i : Int) : Oth K H (.int i)
  | bl (b : Bool) : Oth K H (.bl b)
  | str (z : Str) : Oth K H (.str z)
  | lst (a : Addr) (xs : List V) (h : H a = some (.lst xs)) : Oth K H (.ref a)
  | tup (a : Addr) (xs : List V) (h : SqT K H a xs) : Oth K H (.ref a)
section
variable {X : Cx} {CX : CXT} {n : Nat} {C f : Addr} {sp : Sp} {E : XK} {pins : List (Addr × Obj)} {σ : L2.St} {H : Hp} {s : Shared}
theorem run_below {k : Nat} {A : Around} {Q : VK} {us : List Value} {vs : List V} (sb : Sub X k A) (F : FnR X.prog X.w X.K X.mg X.base CX k f sp) (hx : Passes CX X E) (I : Inv X pins σ H s) (r : Vals vs us) (h : sp vs H Q E) :
    wpAny (model X.prog X.w) A (call (.ref f) us) (EP X pins σ Q) X.xe s := by
  have e0 : Env0 X.prog X.w X.K X.mg X.base A X.stack s H := by
    have e := I.env0
    exact ⟨by rw [sb.fr]; exact e.frames, e.mod, e.bs, e.bsz, e.funs, e.frf, e.hok, e.bare⟩
  refine wpAny_call (codeAny_mono (F A X.stack s H us vs Q E sb.room e0 r h) fun r s' hq => ?_)
  cases r with
  | error e => exact hx pins σ H s e s' I hq
  | ok fl =>
    cases fl with
    | ret u => exact I.after hq
    | next => exact False.elim hq
    | brk => exact False.elim hq
    | cont => exact False.elim hq
theorem oth_no {y : V} {u : Value} (I : Inv X pins σ H s) (o : Oth X.K H y) (r : RelV y u) : ∃ T, NoEq X.K C s u T := by
  cases o with
  | non => cases (show u = Value.none from r); exact ⟨_, .none⟩
  | int i => obtain ⟨t, rfl⟩ := (show ∃ t, u = Value.int i t from r); exact ⟨_, .int i t⟩
  | bl b => cases (show u = Value.bool b from r); exact ⟨_, .bool b⟩
  | str z => obtain ⟨t, rfl⟩ := (show ∃ t, u = Value.str z t from r); exact ⟨_, .str z t⟩
  | lst a xs h =>
    cases (show u = Value.ref a from r)
    obtain ⟨z, its, k, r, e⟩ := I.hok a _ h
    exact ⟨_, .list a ⟨_, e, rfl⟩⟩
  | tup a xs h =>
    cases (show u = Value.ref a from r)
    obtain ⟨its, r, ⟨o, ho, hc, n, hd⟩, hz⟩ := I.tuple h
    exact ⟨_, .tuple a ⟨o, ho, hc⟩⟩
theorem EqO.first (c : EqO X.K C f) {u : Value} {T : String} (h : NoEq X.K C s u T) : PySem.W.notFirst X.K C (.type T) = true := by
  unfold PySem.W.notFirst
  cases h
  · rw [c.u1]; simp
  · rw [c.u2]; simp
  · rw [c.u3]; simp
  · rw [c.u4]; simp
  · rw [c.u5]; simp
  · rw [c.u6]; simp
/-- the other side of an instance of C -/
def Mate (K : PySem.W.Frag) (C : Addr) (H : Hp) (y : V) : Prop := Oth K H y ∨ ∃ b D dy gs, y = .ref b ∧ H b = some (.ins D dy gs) ∧ PySem.W.notFirst K C (.ref D) = true
/-- x == y, x != y with an instance of C on the left -/
def rOwnL (K : PySem.W.Frag) (C : Addr) (g : Bool → Bool) (sp : Sp) (E : XK) : R2 := fun x y H Q => ∃ a dx fs, x = .ref a ∧ H a = some (.ins C dx fs) ∧ Mate K C H y ∧ sp [x, y] H (fun v H' => ∃ k, v = .bl k ∧ Q (.bl (g k)) H') E
/-- the same with an instance of C on the right, a value of a built-in type on the left -/
def rOwnR (K : PySem.W.Frag) (C : Addr) (g : Bool → Bool) (sp : Sp) (E : XK) : R2 := fun x y H Q => ∃ a dx fs, y = .ref a ∧ H a = some (.ins C dx fs) ∧ Oth K H x ∧ sp [y, x] H (fun v H' => ∃ k, v = .bl k ∧ Q (.bl (g k)) H') E
theorem run_bool {g : Bool → Bool} {k : Nat} {A : Around} {Q : VK} {us : List Value} {vs : List V} (sb : Sub X k A) (F : FnR X.prog X.w X.K X.mg X.base CX k f sp) (hx : Passes CX X E) (I : Inv X pins σ H s) (r : Vals vs us)
    (h : sp vs H (fun v H' => ∃ k, v = .bl k ∧ Q (.bl (g k)) H') E) :
    wpAny (model X.prog X.w) A (call (.ref f) us) (fun v s' => ∃ k, v = .bool k ∧ EP X pins σ Q (.bool (g k)) s') X.xe s := by
  refine wpAny_mono (run_below sb F hx I r h) ?_ fun _ _ z => z
  rintro v s' ⟨z, H', I', rz, k, rfl, q⟩
  cases (show v = Value.bool k from rz)
  exact ⟨k, rfl, .bl (g k), H', I', rfl, q⟩
theorem looks_ty {M : Model} {l : Addr} {T : String} (h : s.TypeIs (.ref l) T) : PySem.W.Looks M s.heap (typeOf (.ref l)) (.type T) := by
  obtain ⟨o, ho, hc⟩ := h
  exact fun A Q E s' k q => wpAny_typeOf ⟨o, k _ _ ho, hc⟩ q
theorem mate_type {y : V} {u : Value} (c : EqO X.K C f) (I : Inv X pins σ H s) (h : Mate X.K C H y) (r : RelV y u) : ∃ tb, PySem.W.Looks (model X.prog X.w) s.heap (typeOf u) tb ∧ PySem.W.notFirst X.K C tb = true := by
  rcases h with h | ⟨b, D, dy, gs, rfl, hb, hn⟩
  · obtain ⟨T, h⟩ := oth_no (C := C) I h r
    refine ⟨.type T, ?_, c.first h⟩
    cases h with
    | none => exact PySem.W.Looks.now
    | int i t => exact PySem.W.Looks.now
    | bool b => exact PySem.W.Looks.now
    | str a t => exact PySem.W.Looks.now
    | list l h => exact looks_ty h
    | tuple l h => exact looks_ty h
  · cases (show u = Value.ref b from r)
    obtain ⟨mB, J', _⟩ := ins_get I.hok hb
    obtain ⟨od', J', _⟩ := J'.look
    exact ⟨_, J'.type, hn⟩
theorem op_eqOwnL (c : EqO X.K C f) (F : FnR X.prog X.w X.K X.mg X.base CX n f sp) (hr : Room n X.A) (hx : Passes CX X E) : OpR X (compareOp .Eq) (rOwnL X.K C id sp E) := by
  intro pins s σ H x y v u Q I rx ry h
  obtain ⟨a, dx, fs, rfl, ha, hm, q⟩ := h
  cases (show v = Value.ref a from rx)
  obtain ⟨mA, J, _⟩ := ins_get I.hok ha
  obtain ⟨od, J, _⟩ := J.look
  obtain ⟨tb, L, hn⟩ := mate_type c I hm ry
  show wpAny (model X.prog X.w) X.A (richCompare .Eq (.ref a) u) (EP X pins σ Q) X.xe s
  exact cmp_left (op := .Eq) hr.units0 I.kIn J L hn (try_eq I.kIn J c.eq c.fn (run_bool (g := id) ⟨hr, rfl⟩ F hx I (vs := [.ref a, y]) (.cons rfl (.cons ry .nil)) q))
theorem op_neOwnL (c : EqO X.K C f) (F : FnR X.prog X.w X.K X.mg X.base CX n f sp) (hr : Room (n + 1) X.A) (hx : Passes CX X E) : OpR X (compareOp .NotEq) (rOwnL X.K C (!·) sp E) := by
  intro pins s σ H x y v u Q I rx ry h
  obtain ⟨a, dx, fs, rfl, ha, hm, q⟩ := h
  cases (show v = Value.ref a from rx)
  obtain ⟨mA, J, _⟩ := ins_get I.hok ha
  obtain ⟨od, J, _⟩ := J.look
  obtain ⟨tb, L, hn⟩ := mate_type c I hm ry
  have sb : Sub X (n + 1) X.A := ⟨hr, rfl⟩
  show wpAny (model X.prog X.w) X.A (richCompare .NotEq (.ref a) u) (EP X pins σ Q) X.xe s
  exact cmp_left (op := .NotEq) hr.units0 I.kIn J L hn (try_ne sb.in1.room.units0 I.kIn J c.ne c.ob c.eq c.fn (run_bool (g := (!·)) sb.in1 F hx I (vs := [.ref a, y]) (.cons rfl (.cons ry .nil)) q))
theorem op_eqOwnR (c : EqO X.K C f) (F : FnR X.prog X.w X.K X.mg X.base CX n f sp) (hr : Room n X.A) (hx : Passes CX X E) : OpR X (compareOp .Eq) (rOwnR X.K C id sp E) := by
  intro pins s σ H x y v u Q I rx ry h
  obtain ⟨a, dx, fs, rfl, ha, hm, q⟩ := h
  cases (show u = Value.ref a from ry)
  obtain ⟨mA, J0, _⟩ := ins_get I.hok ha
  obtain ⟨od, J, _⟩ := J0.look
  obtain ⟨T, hT⟩ := oth_no (C := C) I hm rx
  obtain ⟨id', t1, t2, t3⟩ := eq_declined (prog := X.prog) (w := X.w) (A := X.A) (E := X.xe) (op := .Eq) (.inl rfl) I.kIn J J.at_ rfl c.no hT
  show wpAny (model X.prog X.w) X.A (richCompare .Eq v (.ref a)) (EP X pins σ Q) X.xe s
  exact cmp_right (op := .Eq) hr.units0 I.kIn J t1 t2 t3 (c.no.at hT) (try_eq I.kIn J c.eq c.fn (run_bool (g := id) ⟨hr, rfl⟩ F hx I (vs := [.ref a, x]) (.cons rfl (.cons rx .nil)) q))
theorem op_neOwnR (c : EqO X.K C f) (F : FnR X.prog X.w X.K X.mg X.base CX n f sp) (hr : Room (n + 1) X.A) (hx : Passes CX X E) : OpR X (compareOp .NotEq) (rOwnR X.K C (!·) sp E) := by
  intro pins s σ H x y v u Q I rx ry h
  obtain ⟨a, dx, fs, rfl, ha, hm, q⟩ := h
  cases (show u = Value.ref a from ry)
  obtain ⟨mA, J0, _⟩ := ins_get I.hok ha
  obtain ⟨od, J, _⟩ := J0.look
  obtain ⟨T, hT⟩ := oth_no (C := C) I hm rx
  obtain ⟨id', t1, t2, t3⟩ := eq_declined (prog := X.prog) (w := X.w) (A := X.A) (E := X.xe) (op := .NotEq) (.inr rfl) I.kIn J J.at_ rfl c.no hT
  have sb : Sub X (n + 1) X.A := ⟨hr, rfl⟩
  show wpAny (model X.prog X.w) X.A (richCompare .NotEq v (.ref a)) (EP X pins σ Q) X.xe s
  exact cmp_right (op := .NotEq) hr.units0 I.kIn J t1 t2 t3 (c.no.at hT) (try_ne sb.in1.room.units0 I.kIn J c.ne c.ob c.eq c.fn (run_bool (g := (!·)) sb.in1 F hx I (vs := [.ref a, x]) (.cons rfl (.cons rx .nil)) q))
theorem op_or {op : Value → Value → Sem Value} {r1 r2 : R2} (h1 : OpR X op r1) (h2 : OpR X op r2) : OpR X op (fun x y H Q => r1 x y H Q ∨ r2 x y H Q) := by
  intro pins s σ H x y v u Q I rx ry h
  rcases h with h | h
  · exact h1 pins s σ H x y v u Q I rx ry h
  · exact h2 pins s σ H x y v u Q I rx ry h
end
end Hv

namespace Hv
open PySem L2 SlX
/-- a def of a class as the top has left it -/
def MethIn (K : PySem.W.Frag) (C : Addr) (x qual : Str) (st : Stmt) : Prop :=
  ∃ (f : Addr) (oc : Value) (od : Option Addr) (kV doc pm : Value) (an : Option Addr) (cd ct : Value) (sl : Array (Option Value)),
    PySem.W.findIn K (.ref C) x = some (some (.ref f)) ∧ PySem.W.isFn K (.ref f) = true ∧
    K.lookup f = some ⟨oc, od, .func (PySem.W.fnOf x qual (defArgs st) (defBody st) (defScope st) .none kV doc pm an cd ct), sl⟩ ∧
    PySem.W.codeIn K cd qual = true ∧ PySem.W.keepIn K (.ref f) = true
theorem methIn_mk {K : PySem.W.Frag} {C : Addr} {x qual : Str} {st : Stmt} {f : Addr} {oc : Value} {od : Option Addr} {kV doc pm : Value} {an : Option Addr} {cd ct : Value} {sl : Array (Option Value)}
    (a : PySem.W.findIn K (.ref C) x = some (some (.ref f))) (i : PySem.W.isFn K (.ref f) = true)
    (l : K.lookup f = some ⟨oc, od, .func (PySem.W.fnOf x qual (defArgs st) (defBody st) (defScope st) .none kV doc pm an cd ct), sl⟩)
    (c : PySem.W.codeIn K cd qual = true) (k : PySem.W.keepIn K (.ref f) = true) : MethIn K C x qual st :=
  ⟨f, oc, od, kV, doc, pm, an, cd, ct, sl, a, i, l, c, k⟩
structure MethAt (K : PySem.W.Frag) (C : Addr) (x qual : Str) (st : Stmt) (ps : List Str) (f : Addr) (fd : FuncData) : Prop where
  at_ : PySem.W.findIn K (.ref C) x = some (some (.ref f))
  isf : PySem.W.isFn K (.ref f) = true
  fn : Fun K x qual st f fd
  bd : Binds K fd ps []
theorem MethIn.at {K : PySem.W.Frag} {C : Addr} {x qual : Str} {st : Stmt} {ps : List Str} (d : MethIn K C x qual st)
    (hb : ∀ (kV doc pm : Value) (an : Option Addr) (cdv ct : Value) (us : List Value), us.length = ps.length →
      bindArgs (PySem.W.fnOf x qual (defArgs st) (defBody st) (defScope st) .none kV doc pm an cdv ct) ⟨us, []⟩ = pure (ps.zip us)) :
    ∃ f fd, MethAt K C x qual st ps f fd := by
  obtain ⟨f, oc, od, kV, doc, pm, an, cd, ct, sl, a, i, l, c, k⟩ := d
  have F := fun_mk (st := st) l c k
  exact ⟨f, _, a, i, F, F.binds hb⟩
/-- a property of a class, its getter at g -/
structure PropK (K : PySem.W.Frag) (C : Addr) (x : Str) (g : Addr) : Prop where
  ex : ∃ p, PySem.W.findIn K (.ref C) x = some (some (.ref p)) ∧ PySem.W.specialIn K (.ref p) "__get__" = some (some (.builtin "property.__get__")) ∧
    PySem.W.takesIn K (.ref p) = some true ∧ ∃ rest, PySem.W.recIn K p "property" = some (.ref g :: rest)
def PropIn (K : PySem.W.Frag) (C : Addr) (x qual : Str) (st : Stmt) : Prop :=
  ∃ (g : Addr) (oc : Value) (od : Option Addr) (kV doc pm : Value) (an : Option Addr) (cd ct : Value) (sl : Array (Option Value)), PropK K C x g ∧
    K.lookup g = some ⟨oc, od, .func (PySem.W.fnOf x qual (defArgs st) (defBody st) (defScope st) .none kV doc pm an cd ct), sl⟩ ∧
    PySem.W.codeIn K cd qual = true ∧ PySem.W.keepIn K (.ref g) = true
theorem propIn_mk {K : PySem.W.Frag} {C p : Addr} {rest : List Value} {x qual : Str} {st : Stmt} {g : Addr} {oc : Value} {od : Option Addr} {kV doc pm : Value} {an : Option Addr} {cd ct : Value} {sl : Array (Option Value)}
    (a : PySem.W.findIn K (.ref C) x = some (some (.ref p))) (b : PySem.W.specialIn K (.ref p) "__get__" = some (some (.builtin "property.__get__"))) (t : PySem.W.takesIn K (.ref p) = some true)
    (r : PySem.W.recIn K p "property" = some (.ref g :: rest))
    (l : K.lookup g = some ⟨oc, od, .func (PySem.W.fnOf x qual (defArgs st) (defBody st) (defScope st) .none kV doc pm an cd ct), sl⟩)
    (c : PySem.W.codeIn K cd qual = true) (k : PySem.W.keepIn K (.ref g) = true) : PropIn K C x qual st :=
  ⟨g, oc, od, kV, doc, pm, an, cd, ct, sl, ⟨p, a, b, t, rest, r⟩, l, c, k⟩
structure PropAt (K : PySem.W.Frag) (C : Addr) (x qual : Str) (st : Stmt) (ps : List Str) (f : Addr) (fd : FuncData) : Prop where
  pr : PropK K C x f
  fn : Fun K x qual st f fd
  bd : Binds K fd ps []
theorem PropIn.at {K : PySem.W.Frag} {C : Addr} {x qual : Str} {st : Stmt} {ps : List Str} (d : PropIn K C x qual st)
    (hb : ∀ (kV doc pm : Value) (an : Option Addr) (cdv ct : Value) (us : List Value), us.length = ps.length →
      bindArgs (PySem.W.fnOf x qual (defArgs st) (defBody st) (defScope st) .none kV doc pm an cdv ct) ⟨us, []⟩ = pure (ps.zip us)) :
    ∃ f fd, PropAt K C x qual st ps f fd := by
  obtain ⟨f, oc, od, kV, doc, pm, an, cd, ct, sl, pr, l, c, k⟩ := d
  have F := fun_mk (st := st) l c k
  exact ⟨f, _, pr, F, F.binds hb⟩
theorem raw_ok {P : Program} {w : World} {K : PySem.W.Frag} {mg : Str → Option Value} {base : Heap} {CX : CXT} {k : Nat} {f : Addr} {fd : FuncData} {ps : List Str} {sp : Sp} (F : FnOk P w K mg base CX k f fd ps sp) (hb : Binds K fd ps []) :
    FnR P w K mg base CX k f sp := (FnOk.raw F hb .nil).imp fun vs H Q E h => by
  rw [List.append_nil]
  exact h
section
variable {X : Cx} {e : Expr} {ta : TE} {C g : Addr} {f : Str} {pos : Pos} {n : Nat} {sp : Sp}
/-- a property of an instance with slots -/
theorem pe_propO (he : PE X e ta) (c : SCls X.K C) (p : PropK X.K C f g) (F : FnR X.prog X.w X.K X.mg X.base CX0 n g sp) (hr : Room (n + 1) X.A)
    (hb : attributeBase e f X.env (eval e X.env) = eval e X.env := by rfl) : PE X (.Attribute e f pos) (tPropSl C sp E0 ta) := by
  obtain ⟨p, h1, h2, h3, h4⟩ := p.ex
  exact pe_propSl he c h1 h2 h3 h4 F hr (fun _ _ _ _ z => z) hb
/-- one of two ways to read a call -/
theorem callR_or {v : Value} {r1 r2 : List V → Hp → VK → Prop} (h1 : CallR X v r1) (h2 : CallR X v r2) : CallR X v (fun xs H Q => r1 xs H Q ∨ r2 xs H Q) := by
  intro pins s σ H xs us Q I r h
  rcases h with h | h
  · exact h1 pins s σ H xs us Q I r h
  · exact h2 pins s σ H xs us Q I r h
end
end Hv

namespace Hv
open PySem PySem.Spec PyProof.Rows L2
theorem fly_push {B h : Heap} {l : List Env} {a : Addr} {Z : Obj → Prop} {o : Obj} (f : HandSPX.FlyingZ B l a Z h) : HandSPX.FlyingZ B l a Z (h.push o) := by
  obtain ⟨g1, g2, g3, oe, vs, T, oT, ts, e1, e2, e3, e4, e5, e6, e7, e8, e9⟩ := f
  have k : ∀ b u, h.get? b = some u → (h.push o).get? b = some u := fun b u e => Heap.get?_push_of_some _ e
  exact ⟨fun b u e => k b u (g1 b u e), g2, Heap.FunFrames.of_keeps (fun b u e _ => ⟨u, k b u e, rfl⟩) g3, oe, vs, T, oT, ts, k _ _ e1, e2, e3, e4, e5, e6, k _ _ e7, e8, e9⟩
/-- the wish of a clause of three classes: what comes is one of them -/
def wTup (K : PySem.W.Frag) (len : Nat) (cs : List Value) (i : Nat) (ts : Addr → Value → Option Addr → TS) (D : Ends) : WX := fun cls d σ H => σ.length = len →
  PySem.W.exmAny K cls cs = some true ∧ ∀ a, H a = none →
    ts a cls d { nx := fun σ' H' => D.nx (σ'.set i none) H', rt := D.rt, bk := fun σ' H' => D.bk (σ'.set i none) H', ct := fun σ' H' => D.ct (σ'.set i none) H' } (σ.set i (some (.ref a))) H
/-- try: body / except (x1, x2, x3) as n: suite, where all that the body lets out is of these classes -/
theorem ps_try_tup {X : Cx} {x1 x2 x3 n : Str} {c1 c2 c3 : Addr} {i j : Nat} {body suite : List Stmt} {b₀ : Stmt} {q1 q2 q3 qt pos pos' : Pos} {tb : WX → TS} {ts : Addr → Value → Option Addr → TS}
    (hs : X.stack = X.env :: X.outer) (hf : X.env.frame = some X.env.locals) (hN : X.N.Nodup) (hi : X.N[i]? = some n) (hln : X.env.kindOf n = some .local)
    (g1 : Gl X x1) (g2 : Gl X x2) (g3 : Gl X x3) (m1 : X.mg x1 = some (.ref c1)) (m2 : X.mg x2 = some (.ref c2)) (m3 : X.mg x3 = some (.ref c3))
    (hb : ∀ (W : WX) (pn : List (Addr × Obj)) (xe : Value → Shared → Prop), Takes (X.tr pn xe) W → PassesOwn (model X.prog X.w) X.A X.env xe → PSs (X.tr pn xe) body (tb W))
    (hsu : ∀ (a : Addr) (oe : Obj) (cls : Value) (d : Option Addr) (pn : List (Addr × Obj)), Zc cls d oe → (∃ vs, oe.data = .fields vs) → PSs (X.suite a ((a, oe) :: pn)) (b₀ :: suite) (ts a cls d))
    (d1 : (x1 == ("__debug__" : Str)) = false := by decide) (d2 : (x2 == ("__debug__" : Str)) = false := by decide) (d3 : (x3 == ("__debug__" : Str)) = false := by decide) :
    PS X (.Try body [.ExceptHandler (some (.Tuple [.Name x1 q1, .Name x2 q2, .Name x3 q3] j qt)) (some n) (b₀ :: suite) pos'] [] [] pos) (fun D σ H => tb (wTup X.K X.N.length [.ref c1, .ref c2, .ref c3] i ts D) D σ H) := by
  refine ⟨fun pins s σ H D I h => ?_⟩
  have xok := I.ok
  have frames : X.A.frames = some (X.env :: X.outer) := by
    rw [xok.frames, hs]
  refine wpAny_Try_except ?_
  have BODY := hb (wTup X.K X.N.length [.ref c1, .ref c2, .ref c3] i ts D) (X.pn ++ pins) (fun e t1 => wpAny (model X.prog X.w) X.A (noteFrame e X.env) (fun _ t2 => wpAny (model X.prog X.w) X.A (setFlight e none) (fun _ t3 =>
    wpAny (model X.prog X.w) X.A (handleBy e X.env [.ExceptHandler (some (.Tuple [.Name x1 q1, .Name x2 q2, .Name x3 q3] j qt)) (some n) (b₀ :: suite) pos']) (SP X pins D) X.xe t3) X.xe t2) X.xe t1) ?caught PassesOwn.looking
  · refine wpAny_mono (BODY.run [] s σ H D (I.toTry _) h) (fun fl s1 hsp => ?_) fun e s1 he => he
    cases fl with
    | next => obtain ⟨σ', H', J', q⟩ := hsp; exact wpAny_execs_nil ⟨σ', H', J'.ofTry xok, q⟩
    | brk => obtain ⟨σ', H', J', q⟩ := hsp; exact ⟨σ', H', J'.ofTry xok, q⟩
    | cont => obtain ⟨σ', H', J', q⟩ := hsp; exact ⟨σ', H', J'.ofTry xok, q⟩
    | ret u => obtain ⟨v, σ', H', J', r, q⟩ := hsp; exact ⟨v, σ', H', J'.ofTry xok, r, q⟩
  · rintro u s' ⟨a, B, sI, pins', σ', H', cls, d, rfl, J', nb, up, sky, na, os, ag, wish⟩
    obtain ⟨hany, hyes⟩ := wish J'.len
    have J : Inv X pins σ' H' sI := J'.ofTry xok
    rw [show X.stack = X.env :: X.outer from hs] at sky
    show wpAny (model X.prog X.w) X.A (noteFrame (.ref a) X.env) _ _ _
    refine Sky.land Zc.steady frames hf sky fun h3 fl3 up3 => ?_
    have J3 : Inv X pins σ' H' { s' with heap := h3 } := J.landed nb fl3.1 (up.trans up3) os ag
    obtain ⟨oe3, vs3, he3, hz3, hd3⟩ := fl3.there
    have nofr : a ∉ frs (X.env :: X.outer) := fun hm => by
      obtain ⟨_, o', e', hnf⟩ := fl3.2.2.1.mem hm
      rw [he3] at e'
      cases e'
      exact hnf _ hd3
    have nL : a ≠ X.env.locals := fun z => nofr (List.mem_filterMap.mpr ⟨X.env, List.mem_cons_self, by rw [hf, z]⟩)
    have nF : a ∉ X.fs := fun hm => by
      obtain ⟨e, he, q⟩ := List.mem_filterMap.mp hm
      exact nofr (List.mem_filterMap.mpr ⟨e, List.mem_cons_of_mem _ he, q⟩)
    have S3 := J3.suite he3 hd3 na nL nF
    refine wpAny_handleBy_cons (codeAny_handlers_test ?_) (by intro q; cases q)
    refine Tuple_ ?_
    show wpAny _ _ (spliced ((false, eval (.Name x1 q1) X.env) :: backTo qt (starEach [.Name x2 q2, .Name x3 q3] X.env))) _ _ _
    refine Calls.spliced_cons (ld_glob S3 g1 m1 ?_ d1)
    show wpAny _ _ (spliced ((false, eval (.Name x2 q2) X.env) :: backTo qt (starEach [.Name x3 q3] X.env))) _ _ _
    refine Calls.spliced_cons (ld_glob S3 g2 m2 ?_ d2)
    show wpAny _ _ (spliced ((false, eval (.Name x3 q3) X.env) :: backTo qt (starEach [] X.env))) _ _ _
    refine Calls.spliced_cons (ld_glob S3 g3 m3 (Calls.spliced_nil ?_) d3)
    refine wpAny_newObj_type ?_ (by show 3 ≤ sizeLine; decide)
    have fl5 := fly_push (o := { cls := .type "tuple", data := .seq [Value.ref c1, .ref c2, .ref c3].toArray }) fl3
    have up5 : s'.heap.UpToSlots (h3.push { cls := .type "tuple", data := .seq [Value.ref c1, .ref c2, .ref c3].toArray }) := up3.trans (Heap.UpToSlots.of_keeps fun b o e => Heap.get?_push_of_some _ e)
    have LT : PySem.W.Looks (model X.prog X.w) (h3.push { cls := .type "tuple", data := .seq [Value.ref c1, .ref c2, .ref c3].toArray }) (typeOf (.ref a)) cls := fun A Q E s k q =>
      wpAny_typeOf_ref (k _ _ (Heap.get?_push_of_some _ he3)) (by rw [hz3.1]; exact q)
    have LM := PySem.W.exm_tup3 (M := model X.prog X.w) (J3.kIn.keeps fun b o e => Heap.get?_push_of_some _ e) LT (Heap.get?_push_size _ rfl) hany
    refine LM.here ?_
    refine codeAny_handlers_suite_as ?_
    refine HandSPX.lands_againZ fl5 fun h4 fl4 up4 => ?_
    have J4 : Inv X pins σ' H' { s' with heap := h4 } := J.landed nb fl4.1 ((up.trans up5).trans up4) os ag
    obtain ⟨oe4, vs4, he4, hz4, hd4⟩ := fl4.there
    have S4 := J4.suite he4 hd4 na nL nF
    refine store_ok (X := X.suite a ((a, oe4) :: (X.pn ++ pins))) (v := .ref a) S4 hN hi (.inl hln) rfl (fun s5 S5 => ?_) (.inr hln)
    refine wpAny_mono ((hsu a oe4 cls d (X.pn ++ pins) hz4 ⟨_, hd4⟩).run [] s5 _ H' _ S5 (hyes a na)) (fun fl s6 hsp => ?_) fun _ _ z => False.elim z
    cases fl with
    | next => obtain ⟨σ6, H6, S6, q6⟩ := hsp; exact gone_ok (S6.unsuite xok) hN hi hln fun s7 J7 => ⟨_, _, J7, q6⟩
    | brk => obtain ⟨σ6, H6, S6, q6⟩ := hsp; exact gone_ok (S6.unsuite xok) hN hi hln fun s7 J7 => ⟨_, _, J7, q6⟩
    | cont => obtain ⟨σ6, H6, S6, q6⟩ := hsp; exact gone_ok (S6.unsuite xok) hN hi hln fun s7 J7 => ⟨_, _, J7, q6⟩
    | ret u => obtain ⟨v6, σ6, H6, S6, r6, q6⟩ := hsp; exact gone_ok (S6.unsuite xok) hN hi hln fun s7 J7 => ⟨_, _, _, J7, r6, q6⟩
end Hv

namespace Hv
open PySem PySem.Spec PyProof.Rows L2
/-- a def's promise where the exception at p is handled and no repr is under way -/
structure FnP (P : Program) (w : World) (K : PySem.W.Frag) (mg : Str → Option Value) (base : Heap) (k : Nat) (f : Addr) (fd : FuncData) (ps : List Str) (sp : Addr × Obj → Sp) : Prop where
  len : ∀ p vs H Q E, sp p vs H Q E → vs.length = ps.length
  run : ∀ (A : Around) (outer : List Env) (s : Shared) (H : Hp) (us : List Value) (vs : List V) (Q : VK) (p : Addr × Obj), A.guards = some [] → L2H.RoomH k A → L2H.PinOk outer H s p → Env0 P w K mg base A outer s H →
    BindsTo s fd ⟨us, []⟩ (ps.zip us) → Vals vs us → sp p vs H Q E0 → codeAny (model P w) A (.call (.ref f) ⟨us, []⟩) (CR CX0 outer P w H s Q E0) s
/-- such a def by its body -/
theorem fnP_of {P : Program} {w : World} {K : PySem.W.Frag} {mg : Str → Option Value} {base : Heap} {k : Nat} {f : Addr} {fd : FuncData} {x qual : Str} {st : Stmt} {N ps : List Str} {sp : Addr × Obj → Sp} (F : Fun K x qual st f fd) (S : FnScope N ps (defScope st))
    (len : ∀ p vs H Q E, sp p vs H Q E → vs.length = ps.length)
    (body : ∀ (cdv : Value) (A : Around) (outer : List Env) (s : Shared) (H : Hp) (vs : List V) (Q : VK) (p : Addr × Obj), A.guards = some [] → L2H.RoomH k (A.deeper (envOfC qual (defScope st) s.heap.objs.size f cdv)) → sp p vs H Q E0 →
      ∃ t, PSs (L2H.cxH CX0 P w K mg base N qual (defScope st) f cdv A outer s H E0 p) (defBody st) t ∧ t { nx := fun _ H' => Q .non H', rt := Q } (start N vs) H) :
    FnP P w K mg base (k + 1) f fd ps sp := by
  obtain ⟨oc, od, kV, doc, pm, an, cdv, ct, osl, rfl, lk, hcd⟩ := F.ex
  refine ⟨len, fun A outer s H us vs Q p hG hr hp e0 hb r hsp => ?_⟩
  have X := e0.mod.kin.keeps (fun b o e => (e0.bs b o e).1)
  have free := e0.mod.nolimit.keeps (fun b o e => (e0.bs b o e).1)
  have par : ∀ y ∈ ps.zip us, (defScope st).names.lookup y.1 = some .local ∨ ((defScope st).names.lookup y.1 = some .cell ∧ ((cellsFrom (s.heap.objs.size + 1) (defScope st).names []).lookup y.1).isSome = true) := by
    rintro ⟨n, v⟩ hy
    exact (S.par n (List.of_mem_zip hy).1).imp id fun q => ⟨q, PySem.W.cellsFrom_some _ _ _ (Or.inl q)⟩
  apply codeAny_call_function hr.depth (X _ _ lk) rfl S.co S.gen rfl (PySem.W.codeRec_of X hcd)
  apply hb
  refine wpAny_newFunctionEnv_cells S.kind par ?_
  rintro env rfl s1 z
  refine ⟨free.keeps z.toInCall.keep, codeAny_func ?_⟩
  obtain ⟨t, ht, hq⟩ := body cdv A outer s H vs Q p hG (hr.deeper _) hsp
  have I := L2H.inv_startH (CX := CX0) (E := E0) S hp e0 (len _ _ _ _ _ hsp) r z
  apply wpAny_mono (ht.run [] s1 (start N vs) H _ I hq)
  · intro fl s' hs
    cases fl with
    | ret u => obtain ⟨v, σ', H', J, rv, q⟩ := hs; exact ⟨v, H', J.os, J.bare, J.base, J.hok, rv, q⟩
    | next => obtain ⟨σ', H', J, q⟩ := hs; exact ⟨V.non, H', J.os, J.bare, J.base, J.hok, rfl, q⟩
    | brk => obtain ⟨_, _, _, q⟩ := hs; exact q.elim
    | cont => obtain ⟨_, _, _, q⟩ := hs; exact q.elim
  · exact fun e s' hs => hs
section
variable {X : Cx} {k : Nat} {f : Addr} {fd : FuncData} {ps : List Str} {sp : Addr × Obj → Sp} {x : Str} {q pos : Pos} {e : Expr} {es : List Expr} {t : TA} {p : Addr × Obj}
theorem runP {pins : List (Addr × Obj)} {σ : L2.St} {H : Hp} {s : Shared} {Q : VK} {us : List Value} {vs : List V} (F : FnP X.prog X.w X.K X.mg X.base k f fd ps sp) (hG : X.A.guards = some []) (hr : L2H.RoomH k X.A) (hp : p ∈ X.pn) (hb : Binds X.K fd ps [])
    (I : Inv X pins σ H s) (r : Vals vs us) (h : sp p vs H Q E0) : wpAny (model X.prog X.w) X.A (call (.ref f) us) (EP X pins σ Q) X.xe s := by
  have hl : (us ++ []).length = ps.length := by
    rw [List.append_nil, ← r.length]
    exact F.len _ _ _ _ _ h
  have b := hb s us I.kIn hl
  rw [List.append_nil] at b
  obtain ⟨z1, z2, z3, z4, z5⟩ := I.pin p (List.mem_append_left _ hp)
  have pin : L2H.PinOk X.stack H s p := ⟨z1, z2, fun hm => (List.mem_cons.mp (I.stkSub p.1 hm)).elim z3 z4, z5⟩
  refine wpAny_call (codeAny_mono (F.run X.A X.stack s H us vs Q p hG hr pin I.env0 b r h) fun r s' hq => ?_)
  match r, hq with
  | .error e, hq => exact False.elim hq
  | .ok (.ret u), hq => exact I.after hq
  | .ok .next, hq => exact hq.elim
  | .ok .brk, hq => exact hq.elim
  | .ok .cont, hq => exact hq.elim
def tCallP (sp : Sp) (t : TA) : TE := fun σ H Q => t σ H fun vs H1 => sp vs H1 Q E0
/-- f(e, ..) where the exception at p is handled -/
theorem pe_callP (F : FnP X.prog X.w X.K X.mg X.base k f fd ps sp) (hG : X.A.guards = some []) (hr : L2H.RoomH k X.A) (hp : p ∈ X.pn) (hg : Gl X x) (hm : X.mg x = some (.ref f)) (hk : PySem.W.keepIn X.K (.ref f) = true) (hb : Binds X.K fd ps [])
    (ha : PA X (e :: es) t) (hdb : (x == ("__debug__" : Str)) = false := by decide) (he : starEach (e :: es) X.env = (false, eval e X.env) :: starEach es X.env := by rfl) (hpl : (backTo pos (starEach es X.env)).any (·.1) = false := by rfl) :
    PE X (.Call (.Name x q) (e :: es) [] pos) (tCallP (sp p) t) := by
  constructor
  intro pins s σ H Q I h
  apply wpAny_Call_Name_kw
  refine ld_glob I hg hm ?_ hdb
  refine PySem.W.callWith_K (h₀ := X.base) I.ok.mod.kin hk (thn (ha.run pos pins s σ H _ I h) ?_) he hpl
  rintro us s1 ⟨vs, H1, I1, r, z⟩
  exact ⟨I1.kIn, runP F hG hr hp hb I1 r z⟩
theorem pe_call0P (F : FnP X.prog X.w X.K X.mg X.base k f fd ps sp) (hG : X.A.guards = some []) (hr : L2H.RoomH k X.A) (hp : p ∈ X.pn) (hg : Gl X x) (hm : X.mg x = some (.ref f)) (hk : PySem.W.keepIn X.K (.ref f) = true) (hb : Binds X.K fd ps [])
    (hdb : (x == ("__debug__" : Str)) = false := by decide) : PE X (.Call (.Name x q) [] [] pos) (tCallP (sp p) tNil) := by
  constructor
  intro pins s σ H Q I h
  apply wpAny_Call_Name_kw
  refine ld_glob I hg hm ?_ hdb
  exact PySem.W.callWith_K0 I.kIn hk (runP (us := []) F hG hr hp hb I .nil h)
end
end Hv

namespace Hv
open PySem PySem.Spec PySem.Calls PyProof.Rows L2
section
variable {prog : Program} {w : World} {A : Around} {E : Value → Shared → Prop} {s : Shared} {K : PySem.W.Frag} {x D : Addr} {ox : Obj} {od : Option Obj}
theorem cls_there (c : ExcC K D) : ∃ c' d' cd sl, K.lookup D = some ⟨c', d', .cls cd, sl⟩ := by
  obtain ⟨cd, hc, _⟩ := PySem.W.any_some c.hd
  unfold PySem.W.clsIn at hc
  split at hc
  · rename_i c' d' cd' sl' ho
    exact ⟨c', d', cd', sl', ho⟩
  · cases hc
theorem exc_found (c : ExcC K D) : PySem.W.findObj K D od "__class__" = some (.bind (.builtin "getset_descriptor.__get__") (.builtin "object.__class__")) := by
  obtain ⟨cd, hc, _⟩ := PySem.W.any_some c.hd
  unfold PySem.W.findObj
  rw [hc, Option.bind_some, c.ha, Option.bind_some]
  simp [c.hn, c.ht]
/-- the class of an exception, whatever its dict -/
theorem exc_class {Q : Option Value → Shared → Prop} (c : ExcC K D) (X : K.In s.heap) (I : PySem.W.InstAt s.heap x ox D od) (h : Q (some (.ref D)) { s with toks := s.toks + 1 }) :
    wpAny (model prog w) A (getAttr? (.ref x) "__class__") Q E s := by
  obtain ⟨hp, g, d, t, os⟩ := s
  have l0 := I.type (M := model prog w)
  have l1 := PySem.W.looks_findIn (M := model prog w) X c.hg
  have l2 := PySem.W.looks_findIn (M := model prog w) X c.hk
  have l3 := PySem.W.looks_find (M := model prog w) X I (exc_found c)
  have sub : PySem.W.Looks (model prog w) hp (isInstance (.ref x) (.type "BaseException")) true := l0.andThen (PySem.W.looks_subIn X c.hs)
  have ne1 : (Value.builtin "BaseException.__getattribute__" == Value.builtin "object.__getattribute__") = false := by decide +kernel
  have ne2 : (onTheHeap (Value.ref D) && Value.builtin "BaseException.__getattribute__" == Value.builtin "object.__getattribute__") = false := by
    rw [ne1]
    rfl
  have ne3 : (false && onTheHeap (Value.builtin "BaseException.__getattribute__")) = false := rfl
  unfold getAttr? getAttrBy? getAttrBy
  refine wpAny_bind (wpAny_mkText (wpAny_bind (wpAny_attempt (wpAny_holding (wpAny_bind (l0.at (wpAny_bind (l1.at ?_))))))))
  show wpAny _ _ (if (onTheHeap (Value.ref D) && Value.builtin "BaseException.__getattribute__" == Value.builtin "object.__getattribute__") = true then _ else _) _ _ _
  rw [ne2, if_neg Bool.false_ne_true]
  unfold getAttrByItsOwn hookBefore
  apply wpAny_bind
  rw [if_pos (show onTheHeap (Value.ref D) = true from rfl)]
  apply l2.at
  refine wpAny_bind (wpAny_attempt (wpAny_holding ?_))
  unfold callGetattribute
  rw [ne3, if_neg Bool.false_ne_true]
  unfold boundAndCalled
  rw [PySem.F.excAttr_ValueError.ga.bind (.ref x)]
  apply wpAny_bind
  apply wpAny_pure
  show wpAny _ _ (call (.builtin "BaseException.__getattribute__") [.ref x, .str "__class__" t]) _ _ _
  refine wpAny_call (codeAny_call_builtin PySem.F.excAttr_ValueError.ga.plain PySem.F.entry_bexc_ga ?_)
  refine @PySem.W.check_slot (model prog w) _ _ ⟨hp, g, d, t + 1, os⟩ "BaseException.__getattribute__" "BaseException" "__getattribute__" (.ref x) [.str "__class__" t] [] _ (by decide +kernel) (by decide +kernel) sub (PySem.F.args_bexc_ga (.ref x) (.str "__class__" t)) ?_
  unfold Builtin.«object.__getattribute__»
  apply wpAny_bind
  refine wpAny_of_eq (a := ((Value.ref x : Value), [Value.str "__class__" t])) (by first | rfl | (simp only [slotArgs]; rfl)) ?_
  refine wpAny_bind (wpAny_pure (wpAny_bind (l0.at (wpAny_bind (l3.at ?_)))))
  show wpAny _ _ (holding [Value.builtin "object.__class__"] (call (.builtin "getset_descriptor.__get__") [.builtin "object.__class__", .ref x, .ref D]) >>= ret) _ _ _
  refine wpAny_bind (wpAny_holding (wpAny_call (PySem.W.class_get (s := ⟨hp, g, d, t + 1, os⟩) (ox := ox) (od := od) X I c.hm ?_)))
  apply wpAny_pure
  show wpAny _ _ (handedOut (.ref D)) _ _ _
  rw [PySem.W.handedOut_of (v := .ref D) rfl]
  first
    | exact wpAny_pure (wpAny_pure h)
    | exact wpAny_pure h
    | exact wpAny_pure (wpAny_bind (wpAny_pure (wpAny_pure h)))
theorem kitx_err (c : ExcC K D) : PySem.W.KitX K (.ref x) (.ref D) (fun h => ∃ od, PySem.W.InstAt h x ox D od) where
  ty := fun _ _ _ I => I.choose_spec.type
  it := fun _ _ X _ => by
    obtain ⟨c', d', cd, sl, ho⟩ := cls_there c
    intro A' Q' E' s' k q
    unfold isType loadHead
    exact wpAny_bind (wpAny_loadPart (k _ _ (X _ _ ho)) (wpAny_pure q))
  ne := fun h tp dd its n sl X htp => by
    obtain ⟨c', d', cd, sl2, ho⟩ := cls_there c
    rw [Bool.eq_false_iff]
    intro q
    cases Value.ref.inj (beq_iff_eq.mp q)
    have z := (X _ _ ho).symm.trans htp
    cases z
  ca := fun X I k => exc_class c X I.choose_spec k
end
section
variable {X : Cx} {p : Addr × Obj} {D : Addr} {d : Option Addr}
/-- the dict of an exception, if it has one -/
def XdAt (H : Hp) (d : Option Addr) (fs : List (Str × V)) : Prop := (d = none ∧ fs = []) ∨ ∃ dd, d = some dd ∧ H dd = some (.xd fs)
theorem inst_pin {pins : List (Addr × Obj)} {σ : L2.St} {H : Hp} {s : Shared} {fs : List (Str × V)} (I : Inv X pins σ H s) (hp : p ∈ X.pn) (hz : Zc (.ref D) d p.2) (hf : ∃ vs, p.2.data = .fields vs) (hd : XdAt H d fs) :
    ∃ od, PySem.W.InstAt s.heap p.1 p.2 D od ∧ ∀ n v, fs.lookup n = some v → ∃ o u, od = some o ∧ PySem.W.lookIn n o = some (some u) ∧ RelV v u := by
  obtain ⟨ha, _⟩ := I.pin p (List.mem_append_left _ hp)
  obtain ⟨vs, hv⟩ := hf
  have no : PySem.W.notCls p.2 = true := by
    unfold PySem.W.notCls
    rw [hv]
  rcases hd with ⟨rfl, rfl⟩ | ⟨dd, rfl, hx⟩
  · exact ⟨none, ⟨ha, hz.1, no, by rw [hz.2]; trivial⟩, fun n v e => by simp at e⟩
  · obtain ⟨mA, hns, hr⟩ := (show ObjOk X.prog X.w H s.heap dd (.xd fs) from I.hok dd _ hx)
    obtain ⟨od, ho, hl⟩ := lookIn_ns hns
    refine ⟨some od, ⟨ha, hz.1, no, by rw [hz.2]; exact ho⟩, fun n v e => ?_⟩
    obtain ⟨u, hu, ru⟩ := RelO.some_of (v := v) (o := mA n) (by rw [← e]; exact hr n)
    exact ⟨od, u, rfl, by rw [hl, hu], ru⟩
/-- isinstance(e, c), e the exception that is handled -/
@[irreducible] def rIsP (K : PySem.W.Frag) (a D : Addr) (d : Option Addr) : List V → Hp → VK → Prop := fun xs H Q =>
  ∃ (c : V) (cv : Value) (b : Bool) (fs : List (Str × V)), xs = [.ref a, c] ∧ (∀ u, RelV c u → u = cv) ∧ PySem.W.kitOne K (.ref D) cv = some b ∧ XdAt H d fs ∧ Q (.bl b) H
theorem rIsP_in {K : PySem.W.Frag} {a : Addr} {H : Hp} {c : V} {cv : Value} {b : Bool} {fs : List (Str × V)} {Q : VK} (h1 : ∀ u, RelV c u → u = cv) (h2 : PySem.W.kitOne K (.ref D) cv = some b) (h3 : XdAt H d fs) (q : Q (.bl b) H) : rIsP K a D d [.ref a, c] H Q := by
  unfold rIsP
  exact ⟨c, cv, b, fs, rfl, h1, h2, h3, q⟩
theorem call_isP (c : ExcC X.K D) (hp : p ∈ X.pn) (hz : Zc (.ref D) d p.2) (hf : ∃ vs, p.2.data = .fields vs) : CallR X (.builtin "isinstance") (rIsP X.K p.1 D d) := by
  intro pins s σ H xs us Q I r h
  unfold rIsP at h
  obtain ⟨cc, cv, b, fs, rfl, hcv, e, hd, q⟩ := h
  match us, r with
  | [_, _], .cons rx (.cons rt .nil) =>
    cases rx
    cases hcv _ rt
    obtain ⟨od, J, _⟩ := inst_pin I hp hz hf hd
    exact PySem.W.kia_one (kitx_err c) I.kIn ⟨od, J⟩ e (fun z => nomatch z) fun tk => ⟨.bl b, H, I.kept (t' := tk) fun _ _ z => z, rfl, q⟩
/-- e.n, e the exception that is handled -/
def tXp (a : Addr) (d : Option Addr) (n : Str) (te : TE) : TE := fun σ H Q => te σ H fun x H1 => x = .ref a ∧ ∃ (fs : List (Str × V)) (v : V), XdAt H1 d fs ∧ fs.lookup n = some v ∧ Q v H1
theorem pe_xp {e : Expr} {te : TE} {pos : Pos} {n : Str} (c : XfC X.K D) (hno : PySem.W.findIn X.K (.ref D) n = some none) (hp : p ∈ X.pn) (hz : Zc (.ref D) d p.2) (hf : ∃ vs, p.2.data = .fields vs) (he : PE X e te)
    (hb : attributeBase e n X.env (eval e X.env) = eval e X.env := by rfl) : PE X (.Attribute e n pos) (tXp p.1 d n te) := by
  constructor
  intro pins s σ H Q I h
  refine attr_of hb (thn (he.run pins s σ H _ I h) ?_)
  rintro u s1 ⟨x, H1, I1, rx, rfl, fs, v, hd, hl, q⟩
  cases (show u = Value.ref p.1 from rx)
  obtain ⟨od, J, look⟩ := inst_pin I1 hp hz hf hd
  obtain ⟨o, u, rfl, hu, ru⟩ := look n v hl
  exact HandSPX.exc_get I1.kIn J c.ga c.gg c.exC (PySem.W.findObj_own c.hdC hno rfl (by rw [hu])) (handed_of ru) ⟨v, H1, I1.tok _, ru, q⟩
end
end Hv

namespace Hv
open PySem PySem.Spec PyProof.Rows L2
/-- a reading by what it leads to -/
def clo (te : TE) : TE := fun σ H K => ∃ Q0 : VK, te σ H Q0 ∧ ∀ v H', Q0 v H' → K v H'
theorem pe_clo {X : Cx} {e : Expr} {te : TE} (he : PE X e te) : PE X e (clo te) := by
  constructor
  rintro pins s σ H K I ⟨Q0, h, m⟩
  refine wpAny_mono (he.run pins s σ H Q0 I h) ?_ fun _ _ z => z
  rintro u s' ⟨v, H', J, r, q⟩
  exact ⟨v, H', J, r, m v H' q⟩
/-! ### class X(..): def __init__(self, f): self.f = f -/
def eA (f : Str) (p1 p2 : Pos) : Arguments := { posonlyargs := [], args := [{ arg := "self", annotation := none, pos := p1 }, { arg := f, annotation := none, pos := p2 }], vararg := none, kwonlyargs := [], kw_defaults := [], kwarg := none, defaults := [] }
def eB (f : Str) (q1 q2 q3 q4 : Pos) : List Stmt := [.Assign [.Attribute (.Name "self" q1) f q2] (.Name f q3) q4]
def eS (f : Str) : Scope := { kind := .function, names := [(PySem.Str.ofString "self", .local), (f, .local)], isGenerator := false, isCoroutine := false, more := [] }
structure FldOk (f : Str) : Prop where
  sc : FnScope ["self", f] ["self", f] (eS f)
  lk : (eS f).names.lookup f = some .local
  d1 : (f == ("__debug__" : Str)) = false
  d2 : (f == ("__classdict__" : Str)) = false
  bd : ∀ (q : Str) (p1 p2 q1 q2 q3 q4 : Pos) (kV doc pm : Value) (an : Option Addr) (cd ct : Value) (us : List Value), us.length = 2 →
    bindArgs (PySem.W.fnOf "__init__" q (eA f p1 p2) (eB f q1 q2 q3 q4) (eS f) .none kV doc pm an cd ct) ⟨us, []⟩ = pure ((["self", f] : List Str).zip us)
theorem fld_given : FldOk "given" := ⟨⟨rfl, rfl, rfl, by decide +kernel, rfl, by decide +kernel, by decide +kernel⟩, rfl, by decide, by decide, fun _ _ _ _ _ _ _ _ _ _ _ _ _ us hl => match us, hl with | [_, _], _ => rfl⟩
theorem fld_index : FldOk "index" := ⟨⟨rfl, rfl, rfl, by decide +kernel, rfl, by decide +kernel, by decide +kernel⟩, rfl, by decide, by decide, fun _ _ _ _ _ _ _ _ _ _ _ _ _ us hl => match us, hl with | [_, _], _ => rfl⟩
theorem fld_kind : FldOk "kind" := ⟨⟨rfl, rfl, rfl, by decide +kernel, rfl, by decide +kernel, by decide +kernel⟩, rfl, by decide, by decide, fun _ _ _ _ _ _ _ _ _ _ _ _ _ us hl => match us, hl with | [_, _], _ => rfl⟩
/-- what the text has of such a class -/
structure ErrTxt (K : PySem.W.Frag) (mg : Str → Option Value) (x f : Str) (C : Addr) : Prop where
  mg : mg x = some (.ref C)
  fld : FldOk f
  oex : OexC K C
  isx : ExcC K C
  no : PySem.W.findIn K (.ref C) f = some none
  ini : ∃ (fI : Addr) (oc : Value) (od : Option Addr) (kV doc pm : Value) (an : Option Addr) (cd ct : Value) (sl : Array (Option Value)) (q : Str) (p1 p2 q1 q2 q3 q4 : Pos),
    PySem.W.findIn K (.ref C) "__init__" = some (some (.ref fI)) ∧ PySem.W.typeIn K (.ref fI) = some (.type "function") ∧
    K.lookup fI = some ⟨oc, od, .func (PySem.W.fnOf "__init__" q (eA f p1 p2) (eB f q1 q2 q3 q4) (eS f) .none kV doc pm an cd ct), sl⟩ ∧ PySem.W.codeIn K cd q = true
theorem ErrTxt.xf {K : PySem.W.Frag} {mg : Str → Option Value} {x f : Str} {C : Addr} (T : ErrTxt K mg x f C) : XfC K C := ⟨T.isx.hg, T.isx.hk, T.isx.hs, T.isx.hd⟩
def sp_einit (f : Str) (C : Addr) : Sp := fun vs H Q _ => ∃ (a : Addr) (v : V), vs = [.ref a, v] ∧ H a = some (exo a C none) ∧ ∀ dx, H dx = none → dx ≠ a → Q .non (upd (upd H dx (exd dx [(f, v)])) a (exo a C (some dx)))
theorem einit_ok {P : Program} {w : World} {K : PySem.W.Frag} {mg : Str → Option Value} {base : Heap} {x f : Str} {C : Addr} (T : ErrTxt K mg x f C) :
    ∃ fI fd, PySem.W.findIn K (.ref C) "__init__" = some (some (.ref fI)) ∧ PySem.W.typeIn K (.ref fI) = some (.type "function") ∧ FnOk P w K mg base CX0 1 fI fd ["self", f] (sp_einit f C) ∧ Binds K fd ["self", f] [] := by
  obtain ⟨fI, oc, od, kV, doc, pm, an, cd, ct, sl, q, p1, p2, q1, q2, q3, q4, h1, h2, h3, h4⟩ := T.ini
  refine ⟨fI, _, h1, h2, fn_of h3 h4 T.fld.sc (fun vs H Q E h => ?_) (fun A outer s H vs Q E hr h => ?_), .all fun us hl => T.fld.bd _ _ _ _ _ _ _ _ _ _ _ _ _ us hl⟩
  · obtain ⟨a, v, rfl, _⟩ := h
    rfl
  · obtain ⟨a, v, rfl, ha, ret⟩ := h
    refine ⟨_, pss_one (ps_ost (pe_var (i := 0) rfl (.inl rfl)) (pe_var (i := 1) rfl (.inl T.fld.lk) T.fld.d1 T.fld.d2)), ?_⟩
    exact ⟨v, rfl, .ref a, rfl, a, C, rfl, T.oex, T.no, .inl ⟨ha, fun dx h1 h2 => ret dx h1 h2⟩⟩
/-- an error is made -/
def tErr (C : Addr) (f : Str) (te : TE) : L2.St → Hp → XK → Prop := fun σ H Q => te σ H fun v H1 => ∀ d, H1 d = none → Q (.ref C) (some d) (upd H1 d (.xd [(f, v)]))
theorem pmk_err {X : Cx} {x f : Str} {C : Addr} {e : Expr} {te : TE} {p pos : Pos} (T : ErrTxt X.K X.mg x f C) (hr : Room 2 X.A) (hg : Gl X x) (he : PE X e te) (hdb : (x == ("__debug__" : Str)) = false := by decide)
    (hs : starEach [e] X.env = (false, eval e X.env) :: starEach [] X.env := by rfl) (hpl : (backTo pos (starEach [] X.env)).any (·.1) = false := by rfl) : PMk X (.Call (.Name x p) [e] [] pos) (tErr C f te) := by
  intro pins s σ H Q I h
  obtain ⟨fI, fd, h1, h2, F, hb⟩ := einit_ok (P := X.prog) (w := X.w) (base := X.base) T
  refine pmk_oex T.oex h1 h2 F hr hb .nil (fun _ _ _ _ _ _ _ z => False.elim z) hg T.mg (pa_cons (pe_clo he) pa_nil hs) hdb hs hpl pins s σ H Q I ?_
  refine ⟨_, h, fun v H1 q => ⟨by show 1 ≤ 1000; decide, fun a na => ⟨a, v, rfl, upd_same, fun dx n1 n2 => ⟨rfl, dx, [(f, v)], upd_same, by rw [upd_ne n2, upd_same], ?_, ?_⟩⟩⟩⟩
  · rw [upd_ne n2] at n1
    exact n1
  · rw [upd_ne n2] at n1
    have e : upd (del (upd (upd (upd H1 a (exo a C none)) dx (exd dx [(f, v)])) a (exo a C (some dx))) a) dx (.xd [(f, v)]) = upd H1 dx (.xd [(f, v)]) := by
      funext b
      by_cases hb : b = dx
      · rw [hb, upd_same, upd_same]
      · rw [upd_ne hb, upd_ne hb]
        by_cases ha : b = a
        · rw [ha, del_same, na]
        · rw [del_ne ha, upd_ne ha, upd_ne hb, upd_ne ha]
    rw [e]
    exact q dx n1
/-- raise X(e) -/
theorem ps_err {X : Cx} {W : WX} {x f : Str} {C : Addr} {e : Expr} {te : TE} {p pos pos' : Pos} (T : ErrTxt X.K X.mg x f C) (hr : Room 2 X.A) (hc : X.calm = true) (tk : Takes X W) (hg : Gl X x) (he : PE X e te) (hdb : (x == ("__debug__" : Str)) = false := by decide)
    (hs : starEach [e] X.env = (false, eval e X.env) :: starEach [] X.env := by rfl) (hpl : (backTo pos (starEach [] X.env)).any (·.1) = false := by rfl) :
    PS X (.Raise (some (.Call (.Name x p) [e] [] pos)) none pos') (fun _ σ H => tErr C f te σ H fun cls d H' => W cls d σ H') := ps_raise hc tk (pmk_err T hr hg he hdb hs hpl)
end Hv

namespace Hv
open PySem L2
/-- data of depth m and bulk n at most, that can be compared and shown -/
structure Fit (d : PyData) (m n : Nat) : Prop where
  lay : d.canLay0 = true
  sh : d.showable = true
  dp : d.depth ≤ m
  lv : d.leavesShort 2000 = true
  bk : d.bulk ≤ n
structure FitAll (ds : List PyData) (m n : Nat) : Prop where
  lay : PyData.canLayAll0 ds = true
  sh : PyData.showableAll ds = true
  dp : PyData.depthAll ds ≤ m
  lv : PyData.leavesShortAll 2000 ds = true
  bk : PyData.bulkAll ds ≤ n
theorem Fit.none {m n : Nat} : Fit .none m n := ⟨rfl, rfl, Nat.zero_le _, rfl, Nat.zero_le _⟩
theorem Fit.bool {b : Bool} {m n : Nat} : Fit (.bool b) m n := ⟨rfl, rfl, Nat.zero_le _, rfl, Nat.zero_le _⟩
theorem Fit.int {i : Int} {m n : Nat} (h : i.natAbs.log2 < 1920) : Fit (.int i) m n := by
  refine ⟨rfl, decide_eq_true h, Nat.zero_le _, decide_eq_true ?_, Nat.zero_le _⟩
  have := PyProof.Rows.int_text_len_1921 h
  show (PySem.Str.ofString (toString i)).length ≤ 2000
  omega
theorem small_log {i : Int} (h0 : -1000000 ≤ i) (h1 : i ≤ 1000000) : i.natAbs.log2 < 1920 := by
  by_cases h : i.natAbs = 0
  · rw [h]
    decide
  · refine Nat.lt_of_lt_of_le ((Nat.log2_lt h).mpr (show i.natAbs < 2 ^ 20 by omega)) (by decide)
theorem Fit.str {z : Str} {m n : Nat} (h : PyData.strOk z = true) (hl : z.length ≤ n) : Fit (.str z) m n := by
  refine ⟨h, rfl, Nat.zero_le _, ?_, hl⟩
  show (z.cps.toList.all fun c => decide (c < 16 ^ 8)) = true
  rw [List.all_eq_true]
  intro c hc
  unfold PyData.strOk at h
  rw [Array.all_eq_true'] at h
  have := of_decide_eq_true (h c (by simpa using hc))
  exact decide_eq_true (by omega)
theorem FitAll.nil {m n : Nat} : FitAll [] m n := ⟨rfl, rfl, Nat.zero_le _, rfl, Nat.zero_le _⟩
theorem FitAll.cons {d : PyData} {ds : List PyData} {m a b : Nat} (h : Fit d m a) (t : FitAll ds m b) : FitAll (d :: ds) m (a + 1 + b) := by
  have h1 := h.dp
  have h2 := t.dp
  have h3 := h.bk
  have h4 := t.bk
  refine ⟨?_, ?_, ?_, ?_, ?_⟩
  · show (PyData.canLay0 d && PyData.canLayAll0 ds) = true
    rw [h.lay, t.lay]; rfl
  · show (PyData.showable d && PyData.showableAll ds) = true
    rw [h.sh, t.sh]; rfl
  · show max (PyData.depth d) (PyData.depthAll ds) ≤ m
    omega
  · show (PyData.leavesShort 2000 d && PyData.leavesShortAll 2000 ds) = true
    rw [h.lv, t.lv]; rfl
  · show PyData.bulk d + 1 + PyData.bulkAll ds ≤ a + 1 + b
    omega
theorem Fit.list {ds : List PyData} {m n : Nat} (h : FitAll ds m n) : Fit (.list ds) (m + 1) n := by
  refine ⟨h.lay, h.sh, ?_, h.lv, h.bk⟩
  have := h.dp
  show PyData.depthAll ds + 1 ≤ m + 1
  omega
theorem Fit.tuple {ds : List PyData} {m n : Nat} (h : FitAll ds m n) : Fit (.tuple ds) (m + 1) n := by
  refine ⟨h.lay, h.sh, ?_, h.lv, h.bk⟩
  have := h.dp
  show PyData.depthAll ds + 1 ≤ m + 1
  omega
theorem Fit.mono {d : PyData} {m n m' n' : Nat} (h : Fit d m n) (a : m ≤ m') (b : n ≤ n') : Fit d m' n' := ⟨h.lay, h.sh, Nat.le_trans h.dp a, h.lv, Nat.le_trans h.bk b⟩
theorem Fit.shaped {d : PyData} {m n : Nat} (h : Fit d m n) (hm : m ≤ 60) : SeqAt.shaped d = true := by
  unfold SeqAt.shaped
  rw [h.lay, decide_eq_true (show d.depth ≤ 64 by have := h.dp; omega)]
  rfl
theorem Fit.noDict {d : PyData} {m n : Nat} (h : Fit d m n) : d.hasDict = false := PyData.hasDict_of_canLay d h.lay
theorem Fit.line {d : PyData} {m n : Nat} (h : Fit d m n) (hn : n ≤ 5000) : d.shown.length ≤ sizeLine := by
  have h1 := PyData.shown_le_bulk 2000 (by decide) d h.lv
  have h2 : 2002 * d.bulk ≤ 2002 * 5000 := Nat.mul_le_mul_left _ (Nat.le_trans h.bk hn)
  have h3 : 2002 * 5000 + 2000 ≤ sizeLine := by decide
  omega
theorem Fit.eqv {d : PyData} {m n : Nat} (h : Fit d m n) : PyData.eqv d d = true := SeqAt.eqv_refl d h.lay
/-- what repr asks -/
theorem Fit.repr {d : PyData} {m n : Nat} {K : PySem.W.Frag} {H : Hp} {v : V} {Q : VK} (h : Fit d m n) (hv : Dp K H v d) (hm : m ≤ 60) (hn : n ≤ 5000) (q : Q (.str d.shown) H) : rRepr K [v] H Q :=
  rd_repr hv h.sh h.noDict (Nat.le_trans h.dp hm) (h.line hn) q
end Hv

namespace Hv
open PySem L2
theorem strOk_iff {z : Str} : PyData.strOk z = true ↔ ∀ c ∈ z.cps.toList, c < 0x110000 := by
  unfold PyData.strOk
  rw [Array.all_eq_true']
  constructor
  · intro h c hc
    exact of_decide_eq_true (h c (by simpa using hc))
  · intro h c hc
    exact decide_eq_true (h c (by simpa using hc))
theorem strOk_app {a b : Str} (ha : PyData.strOk a = true) (hb : PyData.strOk b = true) : PyData.strOk (a ++ b) = true := by
  rw [strOk_iff] at *
  intro c hc
  have e : (a ++ b).cps.toList = a.cps.toList ++ b.cps.toList := by
    show (a.cps ++ b.cps).toList = _
    simp
  rw [e] at hc
  rcases List.mem_append.mp hc with q | q
  · exact ha c q
  · exact hb c q
theorem char_small (c : Char) : c.toNat < 0x110000 := by
  have := c.valid
  rcases this with h | ⟨_, h⟩
  · exact Nat.lt_trans h (by decide)
  · exact h
theorem strOk_of (s : String) : PyData.strOk (Str.ofString s) = true := by
  rw [strOk_iff, Str.ofString_eq_toList]
  intro c hc
  simp only [List.mem_map] at hc
  obtain ⟨d, _, rfl⟩ := hc
  exact char_small d
theorem strOk_join {sep : Str} (hs : PyData.strOk sep = true) : ∀ {ts : List Str}, (∀ t ∈ ts, PyData.strOk t = true) → PyData.strOk (Str.join sep ts) = true
  | [], _ => show PyData.strOk Str.empty = true by decide +kernel
  | [x], h => h x (by simp)
  | x :: y :: r, h => by
    show PyData.strOk (x ++ sep ++ Str.join sep (y :: r)) = true
    exact strOk_app (strOk_app (h x (by simp)) hs) (strOk_join hs fun t ht => h t (by simp at ht ⊢; exact .inr ht))
theorem strOk_from : ∀ (ts : List Str) (k : Nat) (acc : Str), PyData.strOk acc = true → (∀ t ∈ ts, PyData.strOk t = true) → PyData.strOk (textFrom k acc ts) = true
  | [], _, _, h, _ => h
  | t :: ts, k, acc, h, ht => by
    show PyData.strOk (textFrom (k + 1) (acc ++ (if k > 0 then ", " else "" : String) ++ t) ts) = true
    exact strOk_from ts (k + 1) _ (strOk_app (strOk_app h (strOk_of _)) (ht t (by simp))) fun u hu => ht u (by simp [hu])
theorem hex_small {c d : Nat} (h : d ∈ (Nat.toDigits 16 c).map Char.toNat) : d < 0x110000 := by
  simp only [List.mem_map] at h
  obtain ⟨x, _, rfl⟩ := h
  exact char_small x
theorem reprChar_small {q c d : Nat} (hq : q < 0x110000) (hc : c < 0x110000) (h : d ∈ Builtin.Str.reprChar q c) : d < 0x110000 := by
  unfold Builtin.Str.reprChar at h
  have hx : ∀ w d, d ∈ List.replicate w 48 ++ (Nat.toDigits 16 c).map Char.toNat → d < 0x110000 := fun w d h => by
    rcases List.mem_append.mp h with h | h
    · rw [List.eq_of_mem_replicate h]; decide
    · exact hex_small h
  dsimp only at h
  repeat' split at h
  all_goals first
    | (simp only [List.mem_cons, List.not_mem_nil, or_false] at h; omega)
    | (simp only [List.cons_append, List.nil_append, List.mem_cons] at h
       rcases h with h | h | h
       · omega
       · omega
       · exact hx _ _ h)
theorem quote_small (x : Str) : reprQuote x < 0x110000 := by
  unfold reprQuote
  split <;> decide
theorem strOk_repr {x : Str} (h : PyData.strOk x = true) : PyData.strOk (reprText x) = true := by
  rw [strOk_iff] at *
  have go : ∀ (l : List Nat) (acc : Array Nat), (∀ c ∈ l, c < 0x110000) → (∀ c ∈ acc.toList, c < 0x110000) → ∀ c ∈ (l.foldl (fun out c => out ++ (Builtin.Str.reprChar (reprQuote x) c).toArray) acc).toList, c < 0x110000 := by
    intro l
    induction l with
    | nil => intro acc _ h; exact h
    | cons d r ih =>
      intro acc h1 h2
      rw [List.foldl_cons]
      refine ih _ (fun c hc => h1 c (by simp [hc])) fun c hc => ?_
      rw [Array.toList_append] at hc
      rcases List.mem_append.mp hc with q | q
      · exact h2 c q
      · exact reprChar_small (quote_small x) (h1 d (by simp)) (by simpa using q)
  intro c hc
  unfold reprText at hc
  rw [Array.toList_push] at hc
  rcases List.mem_append.mp hc with q | q
  · rw [← Array.foldl_toList] at q
    exact go _ _ h (fun c hc => by simp at hc; rw [hc]; exact quote_small x) c q
  · simp at q
    rw [q]
    exact quote_small x
mutual
theorem shown_ok : ∀ d : PyData, d.canLay0 = true → PyData.strOk d.shown = true
  | .none, _ => by simp only [PyData.shown]; exact strOk_of _
  | .bool b, _ => by cases b <;> decide +kernel
  | .int i, _ => by simp only [PyData.shown]; exact strOk_of _
  | .str x, h => by simp only [PyData.shown]; exact strOk_repr (by simpa only [PyData.canLay0] using h)
  | .list xs, h => by
    simp only [PyData.shown]
    exact strOk_app (strOk_from _ _ _ (strOk_of _) (shown_okAll xs (by simpa only [PyData.canLay0] using h))) (strOk_of _)
  | .tuple xs, h => by
    simp only [PyData.shown]
    exact strOk_app (strOk_app (strOk_of _) (strOk_join (strOk_of _) (shown_okAll xs (by simpa only [PyData.canLay0] using h)))) (strOk_of _)
  | .dict _, h => by simp only [PyData.canLay0] at h; exact nomatch h
theorem shown_okAll : ∀ ds : List PyData, PyData.canLayAll0 ds = true → ∀ t ∈ PyData.shownAll ds, PyData.strOk t = true
  | [], _ => by intro t ht; simp [PyData.shownAll] at ht
  | x :: xs, h => by
    have h' : x.canLay0 = true ∧ PyData.canLayAll0 xs = true := by simpa only [PyData.canLayAll0, Bool.and_eq_true] using h
    intro t ht
    simp only [PyData.shownAll, List.mem_cons] at ht
    rcases ht with rfl | ht
    · exact shown_ok x h'.1
    · exact shown_okAll xs h'.2 t ht
end
end Hv

namespace Hv
open PySem L2
/-- an if whose test is false -/
theorem join_no {tt : TT} {t v : TS} {D : Ends} {σ : L2.St} {H : Hp} (S : Hp → Prop) (h : ∀ Q' : Bool → Hp → Prop, (∀ b H', b = false → S H' → Q' b H') → tt σ H Q') (k : ∀ H', S H' → v D σ H') : tSeq (tIfS tt t tNext) v D σ H :=
  h (fun b H' => if b = true then t { D with nx := v D } σ H' else tNext { D with nx := v D } σ H') (by
    rintro _ H' rfl hs
    exact k H' hs)
/-- a promise that is not looked into -/
@[irreducible] def lk (sp : Sp) : Sp := sp
theorem lk_eq (sp : Sp) : lk sp = sp := by
  unfold lk
  rfl
theorem lk_in {sp : Sp} {vs : List V} {H : Hp} {Q : VK} {E : XK} (h : sp vs H Q E) : lk sp vs H Q E := by
  rw [lk_eq]
  exact h
theorem fn_lk {P : Program} {w : World} {K : PySem.W.Frag} {mg : Str → Option Value} {base : Heap} {CX : CXT} {k : Nat} {f : Addr} {fd : FuncData} {ps : List Str} {sp : Sp} (F : FnOk P w K mg base CX k f fd ps sp) : FnOk P w K mg base CX k f fd ps (lk sp) := by
  rw [lk_eq]
  exact F
end Hv

namespace Hv
open PySem PySem.Spec PyProof.Rows L2
mutual
/-- data, empty dicts among it; no list of it stands at b -/
inductive Dq (K : PySem.W.Frag) (b : Addr) (H : Hp) : V → PyData → Prop
  | non : Dq K b H .non .none
  | bl (k : Bool) : Dq K b H (.bl k) (.bool k)
  | int (i : Int) : Dq K b H (.int i) (.int i)
  | str (z : Str) : Dq K b H (.str z) (.str z)
  | lst {a : Addr} {xs : List V} {ds : List PyData} (h : H a = some (.lst xs)) (n : a ≠ b) (t : DqAll K b H xs ds) : Dq K b H (.ref a) (.list ds)
  | tup {a : Addr} {xs : List V} {ds : List PyData} (h : H a = some (.tup xs)) (t : DqAll K b H xs ds) : Dq K b H (.ref a) (.tuple ds)
  | emp {a : Addr} (h : H a = some (.dK [])) : Dq K b H (.ref a) (.dict [])
inductive DqAll (K : PySem.W.Frag) (b : Addr) (H : Hp) : List V → List PyData → Prop
  | nil : DqAll K b H [] []
  | cons {v : V} {vs : List V} {d : PyData} {ds : List PyData} (h : Dq K b H v d) (t : DqAll K b H vs ds) : DqAll K b H (v :: vs) (d :: ds)
end
mutual
theorem Dq.same {K : PySem.W.Frag} {b : Addr} {H H' : Hp} (e : Same H H') : ∀ {d : PyData} {v : V}, Dq K b H v d → Dq K b H' v d
  | _, _, .non => .non
  | _, _, .bl k => .bl k
  | _, _, .int i => .int i
  | _, _, .str z => .str z
  | _, _, .lst h n t => .lst (e _ _ h) n (DqAll.same e t)
  | _, _, .tup h t => .tup (e _ _ h) (DqAll.same e t)
  | _, _, .emp h => .emp (e _ _ h)
theorem DqAll.same {K : PySem.W.Frag} {b : Addr} {H H' : Hp} (e : Same H H') : ∀ {ds : List PyData} {vs : List V}, DqAll K b H vs ds → DqAll K b H' vs ds
  | _, _, .nil => .nil
  | _, _, .cons h t => .cons (Dq.same e h) (DqAll.same e t)
end
mutual
theorem Dq.but {K : PySem.W.Frag} {b : Addr} {n : Nat} {H H' : Hp} (hb : Bag H b n) (e : But b H H') : ∀ {d : PyData} {v : V}, Dq K b H v d → Dq K b H' v d
  | _, _, .non => .non
  | _, _, .bl k => .bl k
  | _, _, .int i => .int i
  | _, _, .str z => .str z
  | _, _, .lst h n t => .lst (e _ _ n h) n (DqAll.but hb e t)
  | _, _, .tup h t => .tup (e _ _ (by obtain ⟨_, _, _, hb, _⟩ := hb; exact ne_of h hb (by intro q; cases q)) h) (DqAll.but hb e t)
  | _, _, .emp h => .emp (e _ _ (by obtain ⟨_, _, _, hb, _⟩ := hb; exact ne_of h hb (by intro q; cases q)) h)
theorem DqAll.but {K : PySem.W.Frag} {b : Addr} {n : Nat} {H H' : Hp} (hb : Bag H b n) (e : But b H H') : ∀ {ds : List PyData} {vs : List V}, DqAll K b H vs ds → DqAll K b H' vs ds
  | _, _, .nil => .nil
  | _, _, .cons h t => .cons (Dq.but hb e h) (DqAll.but hb e t)
end
section
variable {X : Cx} {pins : List (Addr × Obj)} {σ : L2.St} {H : Hp} {s : Shared} {b : Addr}
theorem emp_reads {a : Addr} (I : Inv X pins σ H s) (h : H a = some (.dK [])) : ∃ o es n, s.heap.get? a = some o ∧ o.cls = .type "dict" ∧ o.data = .dict es n ∧ es.toList = [] ∧ (a == sysModules) = false := by
  obtain ⟨_, hsm, vs, kv, o, es, ep, ho, hx, hd, _, hp, _⟩ := dk_of I.hok h
  cases kv
  refine ⟨o, es, ep, ho, hx.1, hd, ?_, hsm⟩
  cases q : es.toList with
  | nil => rfl
  | cons a b => rw [q] at hp; cases hp
mutual
theorem Dq.reads (I : Inv X pins σ H s) : ∀ (d : PyData) (v : V) (u : Value), Dq X.K b H v d → RelV v u → ∃ as, Reads s.heap u d as
  | .none, _, _, .non, r => by
    cases r
    exact ⟨_, .none⟩
  | .bool k, _, _, .bl _, r => by
    cases r
    exact ⟨_, .bool k⟩
  | .int i, _, _, .int _, r => by
    obtain ⟨t, rfl⟩ := r
    exact ⟨_, .int i t⟩
  | .str x, _, _, .str _, r => by
    obtain ⟨t, rfl⟩ := r
    exact ⟨_, .str x t⟩
  | .list ds, _, _, .lst h _ t, r => by
    cases r
    obtain ⟨its, rv, ⟨o, n, ho, hc, _, hd⟩, _⟩ := I.list (SqL.of h)
    obtain ⟨as, hr⟩ := DqAll.reads I ds _ its t rv
    exact ⟨_, .list ho hc hd hr⟩
  | .tuple ds, _, _, .tup h t, r => by
    cases r
    obtain ⟨its, rv, ⟨o, ho, hc, n, hd⟩, _⟩ := I.tuple (SqT.of h)
    obtain ⟨as, hr⟩ := DqAll.reads I ds _ its t rv
    exact ⟨_, .tuple ho hc hd hr⟩
  | .dict [], _, _, .emp h, r => by
    cases r
    obtain ⟨o, es, n, ho, hc, hd, he, _⟩ := emp_reads I h
    exact ⟨_, .dict (kvs := []) ho hc hd (by rw [he]; exact .nil) (by rw [he]; exact .nil)⟩
theorem DqAll.reads (I : Inv X pins σ H s) : ∀ (ds : List PyData) (vs : List V) (us : List Value), DqAll X.K b H vs ds → Vals vs us → ∃ as, ReadsAll s.heap us ds as
  | [], _, _, .nil, r => by
    cases r
    exact ⟨_, .nil⟩
  | d :: ds, _, _, .cons h t, r => by
    cases r with
    | cons r1 r2 =>
      obtain ⟨as, q1⟩ := Dq.reads I d _ _ h r1
      obtain ⟨bs, q2⟩ := DqAll.reads I ds _ _ t r2
      exact ⟨_, .cons q1 q2⟩
end
abbrev RK (s : Shared) (X : Cx) (bs : List Addr) (n : Nat) (u : Value) (t : Str) : Prop := ReprK X.prog X.w bs s.heap n u t
mutual
theorem Dq.shows (I : Inv X pins σ H s) : ∀ (d : PyData) (v : V) (u : Value), Dq X.K b H v d → RelV v u → d.showable = true → d.shown.length ≤ sizeLine → ∃ bs, ReadAtMost s.heap d.depth bs ∧ RK s X bs d.depth u d.shown
  | .none, _, _, .non, r, hs, hz => by
    cases r
    exact ReprK.of_reads .none hs (fun q => by cases q) hz
  | .bool k, _, _, .bl _, r, hs, hz => by
    cases r
    exact ReprK.of_reads (.bool k) hs (fun q => by cases q) hz
  | .int i, _, _, .int _, r, hs, hz => by
    obtain ⟨t, rfl⟩ := r
    exact ReprK.of_reads (.int i t) hs (fun q => by cases q) hz
  | .str x, _, _, .str _, r, hs, hz => by
    obtain ⟨t, rfl⟩ := r
    exact ReprK.of_reads (.str x t) hs (fun q => by cases q) hz
  | .list ds, _, _, .lst (a := a) h nb t, r, hs, hz => by
    cases r
    have hz' : (listText (PyData.shownAll ds)).length ≤ sizeLine := by
      simpa only [PyData.shown] using hz
    obtain ⟨its, rv, ⟨o, n, ho, hc, _, hd⟩, _⟩ := I.list (SqL.of h)
    obtain ⟨bs, hb, hk⟩ := DqAll.shows I ds _ its t rv (by simpa [PyData.showable] using hs) fun z hm => Nat.le_trans (listText_mem_le hm) hz'
    obtain ⟨as, rd⟩ := Dq.reads (b := b) I (.list ds) (.ref a) (.ref a) (.lst h nb t) rfl
    have dep : PyData.depthAll ds < (PyData.list ds).depth := by
      simp only [PyData.depth]
      omega
    have hna := not_mem_of_deeper rd dep hb
    refine ⟨a :: bs, ReadAtMost.cons rd (by simp only [PyData.depth]; omega) hb, ?_⟩
    show RK s X (a :: bs) (PyData.depth (.list ds)) (.ref a) (PyData.shown (.list ds))
    simp only [PyData.depth, PyData.shown]
    cases its with
    | nil =>
      cases rv
      cases t
      simp only [PyData.shownAll, listText_nil]
      exact ReprK.listEmpty ho hc hd
    | cons x l => exact ReprK.list ho hc hd hna (by simpa using hk.length_eq) fun i y e => hk.item i y (by simpa using e)
  | .tuple ds, _, _, .tup (a := a) h t, r, hs, hz => by
    cases r
    have hz' : (tupleText (PyData.shownAll ds)).length ≤ sizeLine := by
      simpa only [PyData.shown] using hz
    obtain ⟨its, rv, ⟨o, ho, hc, n, hd⟩, _⟩ := I.tuple (SqT.of h)
    obtain ⟨bs, hb, hk⟩ := DqAll.shows I ds _ its t rv (by simpa [PyData.showable] using hs) fun z hm => Nat.le_trans (tupleText_mem_le hm) hz'
    obtain ⟨as, rd⟩ := Dq.reads (b := b) I (.tuple ds) (.ref a) (.ref a) (.tup h t) rfl
    have dep : PyData.depthAll ds < (PyData.tuple ds).depth := by
      simp only [PyData.depth]
      omega
    have hna := not_mem_of_deeper rd dep hb
    refine ⟨a :: bs, ReadAtMost.cons rd (by simp only [PyData.depth]; omega) hb, ?_⟩
    show RK s X (a :: bs) (PyData.depth (.tuple ds)) (.ref a) (PyData.shown (.tuple ds))
    simp only [PyData.depth, PyData.shown]
    exact ReprK.tuple ho hc hd hna hk
  | .dict [], _, _, .emp (a := a) h, r, hs, hz => by
    cases r
    obtain ⟨o, es, n, ho, hc, hd, he, hsm⟩ := emp_reads I h
    refine ReprK.of_reads (as := [a] ++ []) (.dict (kvs := []) (as := []) (bs := []) ho hc hd (by rw [he]; exact .nil) (by rw [he]; exact .nil)) hs (fun _ hm => ?_) hz
    simp at hm
    rw [hm] at hsm
    simp at hsm
theorem DqAll.shows (I : Inv X pins σ H s) : ∀ (ds : List PyData) (vs : List V) (us : List Value), DqAll X.K b H vs ds → Vals vs us → PyData.showableAll ds = true → (∀ t ∈ PyData.shownAll ds, t.length ≤ sizeLine) →
    ∃ bs, ReadAtMost s.heap (PyData.depthAll ds) bs ∧ ReprAllK X.prog X.w bs s.heap (PyData.depthAll ds) us (PyData.shownAll ds)
  | [], _, _, .nil, r, _, _ => by
    cases r
    exact ⟨[], (fun _ h => nomatch h), .nil⟩
  | d :: ds, _, _, .cons h t, r, hs, hz => by
    cases r with
    | cons r1 r2 =>
      simp only [PyData.showableAll, Bool.and_eq_true] at hs
      simp only [PyData.shownAll, List.mem_cons] at hz
      obtain ⟨b1, m1, k1⟩ := Dq.shows I d _ _ h r1 hs.1 (hz _ (.inl rfl))
      obtain ⟨b2, m2, k2⟩ := DqAll.shows I ds _ _ t r2 hs.2 fun t ht => hz t (.inr ht)
      refine ⟨b1 ++ b2, fun a ha => ?_, ?_⟩
      · simp only [PyData.depthAll]
        rcases List.mem_append.mp ha with q | q
        · exact (m1 a q).imp fun d' ⟨as', r', hd'⟩ => ⟨as', r', Nat.le_trans hd' (Nat.le_max_left _ _)⟩
        · exact (m2 a q).imp fun d' ⟨as', r', hd'⟩ => ⟨as', r', Nat.le_trans hd' (Nat.le_max_right _ _)⟩
      · simp only [PyData.depthAll, PyData.shownAll]
        exact .cons ((k1.more fun a ha => List.mem_append_left _ ha).level_le (Nat.le_max_left _ _)) (k2.more_le (fun a ha => List.mem_append_right _ ha) (Nat.le_max_right _ _))
end
theorem Dq.showsBy {a : Addr} {d : PyData} (I : Inv X pins σ H s) (h : Dq X.K b H (.ref a) d) (hs : d.showable = true) (hz : d.shown.length ≤ sizeLine) : ∃ T idr, ShowsBy X.prog X.w s.heap a d T idr := by
  cases h with
  | @lst _ xs ds h nb t =>
    have hz' : (listText (PyData.shownAll ds)).length ≤ sizeLine := by
      simpa only [PyData.shown] using hz
    obtain ⟨its, rv, ⟨o, n, ho, hc, _, hd⟩, _⟩ := I.list (SqL.of h)
    obtain ⟨bs, hb, hk⟩ := DqAll.shows I ds _ its t rv (by simpa [PyData.showable] using hs) fun z hm => Nat.le_trans (listText_mem_le hm) hz'
    obtain ⟨as, rd⟩ := Dq.reads (b := b) I (.list ds) (.ref a) (.ref a) (.lst h nb t) rfl
    have dep : PyData.depthAll ds < (PyData.list ds).depth := by
      simp only [PyData.depth]
      omega
    have hna := not_mem_of_deeper rd dep hb
    refine ⟨"list", "list.__repr__", F.slot_list_repr.toG, F.slot_list_str, F.slot_list_format, (fun s' hk0 => ⟨o, hk0 _ _ ho, hc⟩), fun A E s' Q hg hu hk0 hQ => ?_⟩
    simp only [PyData.depth] at hu
    simp only [PyData.shown] at hQ
    cases its with
    | nil =>
      cases rv
      cases t
      simp only [PyData.shownAll, listText_nil] at hQ
      exact call_list_repr_empty ⟨o, hk0 _ _ ho, hc⟩ (hk0 _ _ ho) hd (hQ s'.heap _ _ fun _ _ e => e)
    | cons x l => exact call_list_reprK ho hc hd hna (by simpa using hk.length_eq) (fun i y e => hk.item i y (by simpa using e)) hg (fun b _ => Clear.nil b) hu hk0 hQ hz'
  | @tup _ xs ds h t =>
    have hz' : (tupleText (PyData.shownAll ds)).length ≤ sizeLine := by
      simpa only [PyData.shown] using hz
    obtain ⟨its, rv, ⟨o, ho, hc, n, hd⟩, _⟩ := I.tuple (SqT.of h)
    obtain ⟨bs, hb, hk⟩ := DqAll.shows I ds _ its t rv (by simpa [PyData.showable] using hs) fun z hm => Nat.le_trans (tupleText_mem_le hm) hz'
    obtain ⟨as, rd⟩ := Dq.reads (b := b) I (.tuple ds) (.ref a) (.ref a) (.tup h t) rfl
    have dep : PyData.depthAll ds < (PyData.tuple ds).depth := by
      simp only [PyData.depth]
      omega
    have hna := not_mem_of_deeper rd dep hb
    refine ⟨"tuple", "tuple.__repr__", F.slot_tuple_repr, F.slot_tuple_str, F.slot_tuple_format, (fun s' hk0 => ⟨o, hk0 _ _ ho, hc⟩), fun A E s' Q hg hu hk0 hQ => ?_⟩
    simp only [PyData.depth] at hu
    simp only [PyData.shown] at hQ
    exact call_tuple_reprK ho hc hd hna hk hg (fun b _ => Clear.nil b) hu hk0 hQ hz'
  | emp h =>
    obtain ⟨o, es, n, ho, hc, hd, he, hsm⟩ := emp_reads I h
    refine showsBy_of_reads (as := [a] ++ []) (.dict (kvs := []) (as := []) (bs := []) ho hc hd (by rw [he]; exact .nil) (by rw [he]; exact .nil)) hs (fun _ hm => ?_) hz
    simp at hm
    rw [hm] at hsm
    simp at hsm
end
/-! ### showing -/
/-- data of depth m and bulk n at most that can be shown -/
structure FitQ (d : PyData) (m n : Nat) : Prop where
  sh : d.showable = true
  dp : d.depth ≤ m
  lv : d.leavesShort 2000 = true
  bk : d.bulk ≤ n
  ok : PyData.strOk d.shown = true
structure FitQAll (ds : List PyData) (m n : Nat) : Prop where
  sh : PyData.showableAll ds = true
  dp : PyData.depthAll ds ≤ m
  lv : PyData.leavesShortAll 2000 ds = true
  bk : PyData.bulkAll ds ≤ n
  ok : ∀ t ∈ PyData.shownAll ds, PyData.strOk t = true
theorem Fit.q {d : PyData} {m n : Nat} (h : Fit d m n) : FitQ d m n := ⟨h.sh, h.dp, h.lv, h.bk, shown_ok d h.lay⟩
theorem FitQ.emp {m n : Nat} (hm : 1 ≤ m) : FitQ (.dict []) m n := ⟨rfl, by show 0 + 1 ≤ m; omega, rfl, Nat.zero_le _, by decide +kernel⟩
theorem FitQAll.nil {m n : Nat} : FitQAll [] m n := ⟨rfl, Nat.zero_le _, rfl, Nat.zero_le _, fun t ht => by simp [PyData.shownAll] at ht⟩
theorem FitQAll.cons {d : PyData} {ds : List PyData} {m a b : Nat} (h : FitQ d m a) (t : FitQAll ds m b) : FitQAll (d :: ds) m (a + 1 + b) := by
  have h1 := h.dp
  have h2 := t.dp
  have h3 := h.bk
  have h4 := t.bk
  refine ⟨?_, ?_, ?_, ?_, ?_⟩
  · show (PyData.showable d && PyData.showableAll ds) = true
    rw [h.sh, t.sh]; rfl
  · show max (PyData.depth d) (PyData.depthAll ds) ≤ m
    omega
  · show (PyData.leavesShort 2000 d && PyData.leavesShortAll 2000 ds) = true
    rw [h.lv, t.lv]; rfl
  · show PyData.bulk d + 1 + PyData.bulkAll ds ≤ a + 1 + b
    omega
  · intro z hz
    simp only [PyData.shownAll, List.mem_cons] at hz
    rcases hz with rfl | hz
    · exact h.ok
    · exact t.ok z hz
theorem FitQ.list {ds : List PyData} {m n : Nat} (h : FitQAll ds m n) : FitQ (.list ds) (m + 1) n := by
  have := h.dp
  refine ⟨h.sh, by show PyData.depthAll ds + 1 ≤ m + 1; omega, h.lv, h.bk, ?_⟩
  simp only [PyData.shown]
  exact strOk_app (strOk_from _ _ _ (strOk_of _) h.ok) (strOk_of _)
theorem FitQ.tuple {ds : List PyData} {m n : Nat} (h : FitQAll ds m n) : FitQ (.tuple ds) (m + 1) n := by
  have := h.dp
  refine ⟨h.sh, by show PyData.depthAll ds + 1 ≤ m + 1; omega, h.lv, h.bk, ?_⟩
  simp only [PyData.shown]
  exact strOk_app (strOk_app (strOk_of _) (strOk_join (strOk_of _) h.ok)) (strOk_of _)
theorem FitQ.mono {d : PyData} {m n m' n' : Nat} (h : FitQ d m n) (a : m ≤ m') (b : n ≤ n') : FitQ d m' n' := ⟨h.sh, Nat.le_trans h.dp a, h.lv, Nat.le_trans h.bk b, h.ok⟩
theorem FitQ.line {d : PyData} {m n : Nat} (h : FitQ d m n) (hn : n ≤ 5000) : d.shown.length ≤ sizeLine := by
  have h1 := PyData.shown_le_bulk 2000 (by decide) d h.lv
  have h2 : 2002 * d.bulk ≤ 2002 * 5000 := Nat.mul_le_mul_left _ (Nat.le_trans h.bk hn)
  have h3 : 2002 * 5000 + 2000 ≤ sizeLine := by decide
  omega
theorem FitQ.str {d : PyData} {m n : Nat} (h : FitQ d m n) (hn : n ≤ 5000) : Fit (.str d.shown) 1 sizeLine := .str h.ok (h.line hn)
/-- repr of such data -/
@[irreducible] def rReprQ (K : PySem.W.Frag) : List V → Hp → VK → Prop := fun xs H Q => ∃ (b : Addr) (v : V) (d : PyData) (m n : Nat), xs = [v] ∧ Dq K b H v d ∧ FitQ d m n ∧ m ≤ 60 ∧ n ≤ 5000 ∧ Q (.str d.shown) H
theorem rd_reprQ {K : PySem.W.Frag} {b : Addr} {H : Hp} {v : V} {d : PyData} {m n : Nat} {Q : VK} (hv : Dq K b H v d) (h : FitQ d m n) (hm : m ≤ 60) (hn : n ≤ 5000) (q : Q (.str d.shown) H) : rReprQ K [v] H Q := by
  unfold rReprQ
  exact ⟨b, v, d, m, n, rfl, hv, h, hm, hn, q⟩
theorem cr_reprQ {X : Cx} (hG : X.A.guards = some []) (hu : X.A.units + 64 < cLine) : CallR X (.builtin "repr") (rReprQ X.K) := by
  intro pins s σ H xs us Q I r h
  unfold rReprQ at h
  obtain ⟨b, v, d, m, n, rfl, hd, ft, hm, hn, q⟩ := h
  obtain ⟨u, rfl, ru⟩ : ∃ u, us = [u] ∧ RelV v u := by
    cases r with
    | cons a b => cases b with | nil => exact ⟨_, rfl, a⟩
  have hz := ft.line hn
  have hdp := ft.dp
  have go : ∀ a, v = .ref a → u = .ref a → wpAny (model X.prog X.w) X.A (call (.builtin "repr") [u]) (EP X pins σ Q) X.xe s := fun a e1 e2 => by
    subst e1
    subst e2
    obtain ⟨T, idr, S⟩ := Dq.showsBy I hd ft.sh hz
    exact call_repr_slot (by omega) (S.typeIs s fun _ _ e => e) S.slotRepr (S.call X.A.in1 X.xe s _ hG (by show X.A.units + 1 + d.depth < cLine; omega) (fun _ _ e => e) fun h' u' tk hk => ⟨_, _, rfl, ⟨.str _, H, I.kept hk, ⟨_, rfl⟩, q⟩⟩)
  cases hd with
  | non => cases ru; exact PySem.P.repr_of_none ⟨.str _, H, I.tok _, ⟨_, rfl⟩, q⟩
  | bl b => cases ru; exact PySem.P.repr_of_bool ⟨.str _, H, I.tok _, ⟨_, rfl⟩, q⟩
  | int i =>
    obtain ⟨t, rfl⟩ := ru
    refine PySem.P.repr_of_int ?_ ⟨.str _, H, I.tok _, ⟨_, rfl⟩, q⟩
    have := ft.sh
    simpa [PyData.showable] using this
  | str z =>
    obtain ⟨t, rfl⟩ := ru
    exact PySem.P.repr_of_str ⟨.str _, H, I.tok _, ⟨_, rfl⟩, q⟩ hz
  | lst h1 h2 h3 => exact go _ rfl (by cases ru; rfl)
  | tup h1 h2 => exact go _ rfl (by cases ru; rfl)
  | emp h1 => exact go _ rfl (by cases ru; rfl)
/-! ### types -/
def tyName : PyData → String
  | .none => "NoneType"
  | .bool _ => "bool"
  | .int _ => "int"
  | .str _ => "str"
  | .list _ => "list"
  | .tuple _ => "tuple"
  | .dict _ => "dict"
theorem Dq.ty {K : PySem.W.Frag} {b : Addr} {H : Hp} {v : V} {d : PyData} (h : Dq K b H v d) : TyX K H v (.type (tyName d)) := by
  cases h with
  | non => exact .base .non
  | bl k => exact .base (.bl k)
  | int i => exact .base (.int i)
  | str z => exact .base (.str z)
  | lst h _ _ => exact .base (.lst h)
  | tup h _ => exact .base (.tup h)
  | emp h => exact .base (.dK h)
end Hv

namespace Hv
open PySem PySem.Spec PyProof.Rows L2
abbrev tab0 : Obj := { cls := .none, data := .fields #[] }
/-- what may be tracked where the law begins -/
def Kept (K : PySem.W.Frag) (a : Addr) (cs : List (Addr × Addr)) (H : Hp) : Prop := ∀ b u, H b = some u → K.lookup b = none ∧ ((b ∈ cs.map (·.2) ∧ u = .tbl #[]) ∨ (b = a ∧ ∃ o xs, u = .frz o (.lst xs)))
theorem call_lawT {P : Program} {w : World} {K : PySem.W.Frag} {mg mb : Str → Option Value} {k : Nat} {fa a : Addr} {cs : List (Addr × Addr)} {fd : FuncData} {x : Str} {sp : Sp} {s : Shared} {vs : List Value} {ns : List Int}
    (KX : K.In s.heap) (gl : s.heap.Ns mainGlobals mg) (bl : s.heap.Ns builtinsNs mb) (hbb : ∀ x : Str, x ≠ "__name__" → mb x = bootBuiltins x) (lim : s.heap.NoLimit) (gens : s.gens = #[])
    (hT : ∀ p ∈ cs, s.heap.get? p.2 = some tab0) (nT : ∀ p ∈ cs, K.lookup p.2 = none) (cT : ∀ p ∈ cs, PySem.W.CodeHd s.heap p.1 p.2)
    (hbm : ∃ (bm : Addr) (ob : Obj), mg "__builtins__" = some (.ref bm) ∧ bm ≠ builtinsNs ∧ s.heap.get? bm = some ob ∧ ob.cls = .type "module" ∧ ob.dict = some builtinsNs ∧ ob.data = .plain)
    (ha : s.heap.get? a = some { cls := .type "list", data := .seq vs.toArray }) (hi : IntsAre vs ns) (hl : ns.length ≤ sizeLine) (hr : Room k callerA)
    (F : ∀ base : Heap, K.In base → base.Ns mainGlobals mg → (∀ p ∈ cs, LamX.TabB base mg p.1 p.2) → OkG P w K mg base CX0 k fa fd [x] sp) (bind : ∀ (s : Shared) (u : Value), BindsTo s fd ⟨[u], []⟩ [(x, u)])
    (hsp : ∀ H : Hp, (∀ p ∈ cs, H p.2 = some (.tbl #[])) → SqL K H a (ns.map V.int) → sp [.ref a] H (fun v _ => v = .bl true) fun _ _ _ => False) :
    codeAny (model P w) callerA (.call (.ref fa) ⟨[.ref a], []⟩) (fun r s' => r = .ok (.ret (.bool true)) ∧ OldK s.heap s'.heap ∧ s'.os = s.os ∧ AllBare s'.gens) s := by
  have rv := vals_ints hi
  have lenV := hi.length
  have isT : ∀ b ∈ cs.map (·.2), s.heap.get? b = some tab0 := fun b hb => by
    obtain ⟨p, hp, rfl⟩ := List.mem_map.mp hb
    exact hT p hp
  have isK : ∀ b ∈ cs.map (·.2), K.lookup b = none := fun b hb => by
    obtain ⟨p, hp, rfl⟩ := List.mem_map.mp hb
    exact nT p hp
  have inT : ∀ p ∈ cs, p.2 ∈ cs.map (·.2) := fun p hp => List.mem_map.mpr ⟨p, hp, rfl⟩
  have apart : a ∉ cs.map (·.2) := fun z => by
    have q := isT a z
    rw [ha] at q
    cases q
  have core : ∀ H : Hp, Kept K a cs H → (∀ p ∈ cs, H p.2 = some (.tbl #[])) → SqL K H a (ns.map V.int) → HOk P w H s.heap →
      codeAny (model P w) callerA (.call (.ref fa) ⟨[.ref a], []⟩) (fun r s' => r = .ok (.ret (.bool true)) ∧ OldK s.heap s'.heap ∧ s'.os = s.os ∧ AllBare s'.gens) s := by
    intro H kept hC hS ok
    have out : ∀ {b : Addr} {o : Obj}, s.heap.get? b = some o → (∀ vs n, o.data ≠ .seq vs n) → o.data ≠ .fields #[] → H b = none := by
      intro b o e n2 n3
      cases q : H b with
      | none => rfl
      | some u =>
        rcases (kept b u q).2 with ⟨z, _⟩ | ⟨rfl, _⟩
        · rw [isT b z] at e
          cases e
          exact absurd rfl n3
        · rw [ha] at e
          cases e
          exact absurd rfl (n2 _ _)
    have nsOut : ∀ {b : Addr} {m : Str → Option Value}, s.heap.Ns b m → (hidT s.heap H).Ns b m := by
      rintro b m ⟨o, es, ep, e, d, r⟩
      exact ⟨o, es, ep, hidT_get e (out e (fun _ _ z => by rw [d] at z; cases z) fun z => by rw [d] at z; cases z), d, r⟩
    have hKb : K.In (hidT s.heap H) := fun b o e => hidT_get (KX b o e) (by
      cases q : H b with
      | none => rfl
      | some u => rw [(kept b u q).1] at e; cases e)
    have hM : Mod K mg (hidT s.heap H) := by
      obtain ⟨mc, h1, h2⟩ := lim
      exact ⟨hKb, nsOut gl, ⟨mb, nsOut bl, hbb⟩, ⟨mc, nsOut h1, h2⟩⟩
    have TB : ∀ p ∈ cs, LamX.TabB (hidT s.heap H) mg p.1 p.2 := by
      intro p hp
      have e := hT p hp
      refine ⟨?_, ?_, ?_⟩
      · obtain ⟨o, us, file, tf, flags, tg, inF, text, tt, e1, r1, r2, r3, r4⟩ := cT p hp
        refine ⟨o, us, file, tf, flags, tg, inF, text, tt, hidT_get e1 (out e1 (fun _ _ z => by rw [r2] at z; cases z) fun z => ?_), r1, r2, r3, r4⟩
        rw [r2] at z
        cases z
        simp at r3
      · obtain ⟨bm, ob, b1, b2, b3, b4, b5, b6⟩ := hbm
        refine ⟨bm, ob, b1, b2, ?_, ?_, hidT_get b3 (out b3 (fun _ _ z => by rw [b6] at z; cases z) fun z => by rw [b6] at z; cases z), b4, b5, b6⟩
        · rintro rfl
          obtain ⟨o, es, ep, e', hd, _⟩ := gl
          rw [e'] at b3
          cases b3
          rw [hd] at b6
          cases b6
        · rintro rfl
          rw [e] at b3
          cases b3
          cases b6
      · intro z
        obtain ⟨o, es, ep, e', hd, _⟩ := gl
        rw [z, e] at e'
        cases e'
        cases hd
    have e0 : Env0 P w K mg (hidT s.heap H) callerA [] s H := by
      refine ⟨rfl, hM, fun b o e => of_hidT e, Nat.le_of_eq (hidT_size _ _), trivial, ?_, ok, .of_eq gens⟩
      intro b hb
      cases (show b ∈ ([] : List Addr) from hb)
    have go := (F _ hKb (nsOut gl) TB).run callerA [] s H ⟨[.ref a], []⟩ [.ref a] [.ref a] (fun v _ => v = .bl true) (fun _ _ _ => False) rfl hr e0 (bind s (.ref a)) (.cons rfl .nil) (hsp H hC hS)
    refine codeAny_mono go ?_
    intro r s' h
    match r, h with
    | .error e, h => exact (show False from h).elim
    | .ok .next, h => exact h.elim
    | .ok .brk, h => exact h.elim
    | .ok .cont, h => exact h.elim
    | .ok (.ret u), h =>
      obtain ⟨v, H', os, bare, un, ok', r', q⟩ := h
      cases (show v = .bl true from q)
      cases (show u = Value.bool true from r')
      have keep : ∀ b o, b ∉ cs.map (·.2) → s.heap.get? b = some o → s'.heap.get? b = some o := by
        intro b o nb e
        cases q : H b with
        | none => exact un.keep b o e q (by intro z; cases z) (by intro z; cases z)
        | some u =>
          rcases (kept b u q).2 with ⟨z, _⟩ | ⟨_, ob, xs, rfl⟩
          · exact absurd z nb
          · have k1 := (ok b _ q).1
            have k2 := (ok' b _ (un.frzs b ob _ q)).1
            rw [e] at k1
            cases k1
            exact k2
      have grown : ∀ p ∈ cs, ∃ more : Array Value, s'.heap.get? p.2 = some { cls := .none, data := .fields more } := by
        intro p hp
        obtain ⟨more, z⟩ := un.tbls p.2 #[] (hC p hp)
        exact ⟨_, ok' p.2 _ z⟩
      refine ⟨rfl, ⟨fun b o e => ?_, fun b o e => ?_⟩, os, bare⟩
      · by_cases hb : b ∈ cs.map (·.2)
        · obtain ⟨p, hp, rfl⟩ := List.mem_map.mp hb
          obtain ⟨more, hm⟩ := grown p hp
          rw [hT p hp] at e
          cases e
          refine .inr (.inl ⟨((cT p hp).tab (hT p hp)).isCodeTable, rfl, #[], more, rfl, ?_⟩)
          rw [Array.empty_append]
          exact hm
        · exact .inl (keep b o hb e)
      · by_cases hb : b ∈ cs.map (·.2)
        · obtain ⟨p, hp, rfl⟩ := List.mem_map.mp hb
          obtain ⟨more, hm⟩ := grown p hp
          exact ⟨_, hm⟩
        · exact ⟨o, keep b o hb e⟩
  let T0 : Hp := fun b => if b ∈ cs.map (·.2) then some (.tbl #[]) else none
  have t0 : ∀ b u, T0 b = some u → b ∈ cs.map (·.2) ∧ u = .tbl #[] := fun b u z => by
    by_cases hb : b ∈ cs.map (·.2)
    · exact ⟨hb, (Option.some.inj ((if_pos hb).symm.trans z)).symm⟩
    · have := (if_neg hb).symm.trans z
      cases this
  by_cases hk : K.lookup a = none
  · refine core (upd T0 a (.frz { cls := .type "list", data := .seq vs.toArray } (.lst (ns.map V.int)))) ?_ ?_ (.inl (.inr ⟨_, upd_same⟩)) ?_
    · intro b u z
      by_cases hb : b = a
      · subst hb
        rw [upd_same] at z
        cases z
        exact ⟨hk, .inr ⟨rfl, _, _, rfl⟩⟩
      · rw [upd_ne hb] at z
        obtain ⟨h1, h2⟩ := t0 b u z
        exact ⟨isK b h1, .inl ⟨h1, h2⟩⟩
    · intro p hp
      rw [upd_ne (fun z => apart (by rw [← z]; exact inT p hp))]
      exact if_pos (inT p hp)
    · intro b u z
      by_cases hb : b = a
      · subst hb
        rw [upd_same] at z
        cases z
        exact ⟨ha, by rw [List.length_map]; exact hl, vs, _, rv, ha⟩
      · rw [upd_ne hb] at z
        obtain ⟨h1, rfl⟩ := t0 b u z
        exact isT b h1
  · obtain ⟨o, ho⟩ := Option.ne_none_iff_exists'.mp hk
    have e := KX a o ho
    rw [ha] at e
    cases e
    refine core T0 (fun b u z => ⟨isK b (t0 b u z).1, .inl (t0 b u z)⟩) (fun p hp => if_pos (inT p hp)) (.inr ⟨_, vs.toArray, _, ho, rfl, rfl, rfl, ?_, ?_⟩) ?_
    · rw [List.size_toArray, lenV]
      exact hl
    · simpa using rv
    · intro b u z
      obtain ⟨h1, rfl⟩ := t0 b u z
      exact isT b h1
/-- the def named x, its code object at c and the table of that at P -/
structure TabAt (K : PySem.W.Frag) (mg : Str → Option Value) (h : Heap) (x : Str) (c P : Addr) : Prop where
  get : h.get? P = some tab0
  hd : PySem.W.CodeHd h c P
/-- what the top has left of a def that makes lambdas -/
def TabIn (K : PySem.W.Frag) (x : Str) (c P : Addr) : Prop := ∃ (f : Addr) (o : Obj) (fd : FuncData) (e : Value) (dd : Option Addr) (vs : Array Value) (sl : Array (Option Value)), PySem.W.nsIn K mainGlobals x = some (some (.ref f)) ∧ K.lookup f = some o ∧ o.data = .func fd ∧ fd.code = .ref c ∧
  K.lookup c = some ⟨e, dd, .fields vs, sl⟩ ∧ vs[11]? = some (.ref P) ∧ K.lookup P = none
theorem tabIn_mk {K : PySem.W.Frag} {x : Str} {c P f : Addr} {o : Obj} {fd : FuncData} {e : Value} {dd : Option Addr} {vs : Array Value} {sl : Array (Option Value)} (h1 : PySem.W.nsIn K mainGlobals x = some (some (.ref f))) (h2 : K.lookup f = some o) (h3 : o.data = .func fd) (h4 : fd.code = .ref c)
    (h5 : K.lookup c = some ⟨e, dd, .fields vs, sl⟩) (h6 : vs[11]? = some (.ref P)) (h7 : K.lookup P = none) : TabIn K x c P := ⟨f, o, fd, e, dd, vs, sl, h1, h2, h3, h4, h5, h6, h7⟩
theorem TabIn.out {K : PySem.W.Frag} {x : Str} {c P : Addr} (h : TabIn K x c P) : K.lookup P = none := by
  obtain ⟨_, _, _, _, _, _, _, _, _, _, _, _, _, h7⟩ := h
  exact h7
theorem TabIn.at {K : PySem.W.Frag} {x : Str} {c P : Addr} {q : Program} {loose : List Str} {mean : ExcName → Option Value} {mg mb : Str → Option Value} {h : Heap} (t : TabIn K x c P) (X : K.In h) (T : Top q loose mean mg mb h) (hrec : ((recsOf q).any fun e => e.name == x) = true) :
    h.get? P = some tab0 ∧ PySem.W.CodeHd h c P := by
  obtain ⟨f, o, fd, e, dd, vs, sl, k1, k2, k3, k4, k5, k6, _⟩ := t
  obtain ⟨d, hm, hn⟩ := List.any_eq_true.mp hrec
  obtain ⟨a', o', fd', c', P', h1, h2, h3, h4, h5, h6⟩ := T.tab d hm
  rw [beq_iff_eq.mp hn, PySem.W.mg_of X T.g k1] at h1
  cases h1
  have g1 := X _ _ k2
  rw [g1] at h2
  cases h2
  rw [k3] at h3
  cases h3
  rw [k4] at h4
  cases h4
  have hh := PySem.W.CodeHd.of h5 h6
  obtain ⟨⟨oc, vc, e1, _, e3, e4⟩, hP⟩ := h6
  have g2 := X _ _ k5
  rw [g2] at e1
  cases e1
  cases e3
  rw [k6] at e4
  cases e4
  exact ⟨hP, hh⟩
/-- the law's promise, with the tables cs of the defs xs -/
def LawT (l : PySem.W.OpenLaw) (w : World) (K : PySem.W.Frag) (k n : Nat) (x : Str) (mg : Str → Option Value) (fa : Addr) (xs : List Str) : Prop :=
  ∃ (fd : FuncData) (cs : List (Addr × Addr)) (sp : Sp), (∀ p ∈ cs, ∃ y ∈ xs, TabIn K y p.1 p.2) ∧ (∀ (s : Shared) (u : Value), BindsTo s fd ⟨[u], []⟩ [(x, u)]) ∧
    (∀ (H : Hp) (a : Addr) (ns : List Int), ns.length ≤ n → (∀ z ∈ ns, Builtin.Int.intBits z ≤ 1048576) → (∀ p ∈ cs, H p.2 = some (.tbl #[])) → SqL K H a (ns.map V.int) → sp [.ref a] H (fun v _ => v = .bl true) fun _ _ _ => False) ∧
    ∀ base : Heap, K.In base → base.Ns mainGlobals mg → (∀ p ∈ cs, LamX.TabB base mg p.1 p.2) → OkG l.prog w K mg base CX0 k fa fd [x] sp
theorem walkT {l : PySem.W.OpenLaw} {n k : Nat} {q : Program} {loose : List Str} {XP : (Str → Option Value) → Heap → Prop} {YP : World → Heap → Prop} {d : DefRec} {K : Params → PySem.W.Frag} {x : Str} (xs : List Str)
    (hn : l.most = some n) (hn2 : n ≤ sizeLine) (hdf : d.params.defaults = []) (hr : Room k callerA) (hrec : xs.all (fun y => (recsOf q).any fun e => e.name == y) = true) (hY : ∀ (w : World) (h : Heap), YP w h → (K w.params).In h)
    (F : ∀ (w : World) (mg : Str → Option Value) (fa : Addr) (h : Heap), (K w.params).In h → h.Ns mainGlobals mg → mg d.name = some (.ref fa) → LawT l w (K w.params) k n x mg fa xs) :
    PySem.W.WalkO q loose XP YP l.row.toRowW d [] (fun f vs => PySem.call f vs) := by
  refine Att.attach_callB hn hdf ?_
  intro w s₀ s₁ mg mb fa o pm cd doc a vs ns G Y ho hd hcd hmg hobj hints hlen hbits hg
  have X := hY w _ Y
  obtain ⟨fd, cs, sp, ht, hb, hsp, hF⟩ := F w mg fa _ X G.T.g hmg
  have tabs : ∀ p ∈ cs, s₁.heap.get? p.2 = some tab0 ∧ PySem.W.CodeHd s₁.heap p.1 p.2 := fun p hp => by
    obtain ⟨y, hy, t⟩ := ht p hp
    exact t.at X G.T (List.all_eq_true.mp hrec y hy)
  exact call_lawT X G.T.g G.T.b G.T.builtins G.T.nolimit hg (fun p hp => (tabs p hp).1) (fun p hp => (ht p hp).choose_spec.2.out) (fun p hp => (tabs p hp).2) G.T.bmain hobj hints (Nat.le_trans hlen hn2) hr hF hb fun H hC hS => hsp H a ns hlen hbits hC hS
end Hv

namespace L
open PySem L2 Hv
def top (i : Nat) : Stmt := PySem.Challenge.pw_heldvotes_k06_rows_made_and_refused.main.body.getD i (.Pass ⟨0, 0, 0, 0⟩)
structure Txt (K : PySem.W.Frag) (mg : Str → Option Value) : Prop where
  ArithmeticError : mg "ArithmeticError" = none
  LookupError : mg "LookupError" = none
  ValueError : mg "ValueError" = none
  abs : mg "abs" = none
  all : mg "all" = none
  any : mg "any" = none
  bool : mg "bool" = none
  divmod : mg "divmod" = none
  int : mg "int" = none
  isinstance : mg "isinstance" = none
  len : mg "len" = none
  list : mg "list" = none
  max : mg "max" = none
  min : mg "min" = none
  property : mg "property" = none
  range : mg "range" = none
  repr : mg "repr" = none
  str : mg "str" = none
  tuple : mg "tuple" = none
  cMOST_TALKS : ∃ t, mg "MOST_TALKS" = some (.int (3) t)
  cMOST_TIMES : ∃ t, mg "MOST_TIMES" = some (.int (3) t)
  cMOST_AFTER : ∃ t, mg "MOST_AFTER" = some (.int (3) t)
  cMOST_NEEDS : ∃ t, mg "MOST_NEEDS" = some (.int (9) t)
  cMOST_PART : ∃ t, mg "MOST_PART" = some (.int (12) t)
  cDIGITS : ∃ t, mg "DIGITS" = some (.str "0123456789" t)
  cLETTERS : ∃ t, mg "LETTERS" = some (.str "abcdefghijklmnopqrstuvwxyz" t)
  cMARK : ∃ t, mg "MARK" = some (.str "over " t)
end L

namespace L
open PySem L2 Hv
variable {P : Program} {w : World} {K : PySem.W.Frag} {mg : Str → Option Value} {base : Heap}
abbrev s_take : Stmt := top 60
abbrev N_take : List Str := ["_law_bag_here", "_law_many", "_law_digit"]
abbrev P_take : List Str := ["_law_bag_here", "_law_many"]
theorem sc_take : FnScope N_take P_take (defScope s_take) := ⟨rfl, rfl, rfl, by decide +kernel, rfl, by decide +kernel, by decide +kernel⟩
theorem ok_take {f : Addr} {fd : FuncData} (D : DefAt K mg "_law_take" s_take P_take f fd) (T : Txt K mg) : FnOk P w K mg base CX0 1 f fd P_take sp_take := by
  refine D.fn.ok sc_take (fun vs H Q E h => ?_) (fun cdv A outer s H vs Q E hr h => ?_)
  · obtain ⟨b, m, k, rfl, _⟩ := h
    rfl
  · obtain ⟨b, m, k, rfl, ⟨z, d, n, hb, d0, db, n0, nk⟩, hk, m0, m1, ret⟩ := h
    refine ⟨_, (pss_cons (ps_asg (pe_op op_add (pe_ix ix_list (pv 0) pe_int (fun _ _ => rfl)) pe_int) (pg_sub (pv 0) pe_int set_list))
      (pss_cons (ps_asg (pe_op op_mod (pe_callTy call_int1 (by rfl) T.int (by decide +kernel) (pa_cons (pe_op op_add (pe_op op_add (pe_op op_mul (pe_ix ix_list (pv 0) pe_int (fun _ _ => rfl)) pe_int) (pe_op op_mul (pe_op op_mul (pe_ix ix_list (pv 0) pe_int (fun _ _ => rfl)) (pe_ix ix_list (pv 0) pe_int (fun _ _ => rfl))) pe_int)) pe_int) pa_nil)) pe_int) (pg_sub (pv 0) pe_int set_list))
      (pss_cons (ps_if (pt_cmpR op_gt (pe_ix ix_list (pv 0) pe_int (fun _ _ => rfl)) pe_int (nomark _))
      (pss_cons (ps_asg (pe_callB call_divmodW (by rfl) T.divmod (by decide +kernel) (pa_cons (pe_ix ix_list (pv 0) pe_int (fun _ _ => rfl)) (pa_cons (pv 1) pa_nil))) (pg_tup (by rfl) (pgs_cons (pg_sub (pv 0) pe_int set_list) (pgs_cons (pg_name (i := 2) sc_take.nd rfl (.inl rfl)) pgs_nil))))
      (pss_one (ps_ret (pv 2))))
      pss_nil)
      (pss_one (ps_ret (pe_op op_mod (pe_callTy call_int1 (by rfl) T.int (by decide +kernel) (pa_cons (pe_op op_fdiv (pe_ix ix_list (pv 0) pe_int (fun _ _ => rfl)) pe_int) pa_nil)) (pv 1))))))), ?_⟩
    refine ⟨_, rfl, _, _, _, _, rfl, rfl, SqL.of hb, rfl, _, _, rfl, rfl, _, rfl, _, _, _, _, rfl, rfl, hb, rfl, ?_⟩
    have hb1 := upd_same (H := H) (a := b) (o := .lst (List.set [.int z, .int d, .int n] 2 (.int (n + 1))))
    refine ⟨_, rfl, _, _, _, _, rfl, rfl, SqL.of hb1, rfl, _, _, rfl, rfl, .inr ⟨by decide, by decide⟩, _, rfl, _, _, _, _, rfl, rfl, SqL.of hb1, rfl, _, rfl, _, _, _, _, rfl, rfl, SqL.of hb1, rfl, _, _, rfl, rfl, .inl ⟨by omega, by omega⟩,
      _, _, rfl, rfl, .inr ⟨by decide, by decide⟩, _, _, rfl, rfl, _, _, rfl, rfl, .inl ⟨_, rfl, _, _, rfl, rfl, (by show (0 : Int) < _; decide), _, rfl, _, _, _, _, rfl, rfl, hb1, rfl, ?_⟩⟩
    rw [upd_upd]
    have hb2 := upd_same (H := H) (a := b) (o := .lst [.int ((z * 91193 + (n + 1) * (n + 1) * 6827 + 40507) % 2147483399), .int d, .int (n + 1)])
    refine ⟨_, rfl, _, _, _, _, rfl, rfl, SqL.of hb2, rfl, _, _, rfl, rfl, _, rfl, ?_⟩
    refine ite2 (fun hc => ?_) (fun hc => ?_)
    · refine ⟨_, rfl, _, _, _, _, rfl, rfl, SqL.of hb2, rfl, _, rfl, _, _, rfl, ⟨m0, pylong_no m1⟩, fun p hp => ?_⟩
      have np : b ≠ p := ne_of_none hb2 hp
      refine ⟨_, _, rfl, SqT.of upd_same, rfl, _, _, rfl, _, rfl, _, _, _, _, rfl, rfl, (upd_ne np).trans hb2, rfl, _, _, rfl, rfl, _, rfl, ?_⟩
      refine ret _ _ (((But.refl.put).new hp).put) ⟨_, _, _, upd_same, ?_, bits_div d0 m0 db, ?_, ?_⟩ (Int.emod_nonneg _ (by omega)) (Int.emod_lt_of_pos _ m0)
      · exact Int.ediv_nonneg d0 (by omega)
      · omega
      · omega
    · refine ⟨_, rfl, _, _, _, _, rfl, rfl, SqL.of hb2, rfl, _, _, rfl, rfl, ⟨by decide, by decide⟩, .inl ⟨_, rfl, _, rfl, _, _, rfl, rfl, m0, ?_⟩⟩
      refine ret _ _ But.refl.put ⟨_, _, _, upd_same, d0, db, ?_, ?_⟩ (Int.emod_nonneg _ (by omega)) (Int.emod_lt_of_pos _ m0)
      · omega
      · omega
abbrev s_bag : Stmt := top 59
abbrev N_bag : List Str := ["_law_number", "_law_digits", "_law_state"]
abbrev P_bag : List Str := ["_law_number"]
theorem sc_bag : FnScope N_bag P_bag (defScope s_bag) := ⟨rfl, rfl, rfl, by decide +kernel, rfl, by decide +kernel, by decide +kernel⟩
theorem ok_bag {f : Addr} {fd : FuncData} (D : DefAt K mg "_law_bag" s_bag P_bag f fd) (T : Txt K mg) : FnOk P w K mg base CX0 1 f fd P_bag sp_bag := by
  refine D.fn.ok sc_bag (fun vs H Q E h => ?_) (fun cdv A outer s H vs Q E hr h => ?_)
  · obtain ⟨n, rfl, _⟩ := h
    rfl
  · obtain ⟨n, rfl, nb, ret⟩ := h
    refine ⟨_, (pss_cons (ps_asg (pe_ifExp (pt_chain op_le op_lt pe_int (pv 0) (pe_op op_pow pe_int pe_int)) pe_int (pe_callB call_abs (by rfl) T.abs (by decide +kernel) (pa_cons (pv 0) pa_nil))) (pg_name (i := 1) sc_bag.nd rfl (.inl rfl)))
      (pss_cons (ps_asg (pe_op op_mod (pe_callTy call_int1 (by rfl) T.int (by decide +kernel) (pa_cons (pv 0) pa_nil)) pe_int) (pg_name (i := 2) sc_bag.nd rfl (.inl rfl)))
      (pss_one (ps_ret (pe_lst (pa_cons (pe_op op_mod (pe_callTy call_int1 (by rfl) T.int (by decide +kernel) (pa_cons (pe_op op_add (pe_op op_mul (pv 2) (pe_op op_add (pe_op op_mod (pe_callTy call_int1 (by rfl) T.int (by decide +kernel) (pa_cons (pv 2) pa_nil)) pe_int) pe_int)) pe_int) pa_nil)) pe_int) (pa_cons (pv 1) (pa_cons pe_int pa_nil)))))))), ?_⟩
    have fin : ∀ d : Int, 0 ≤ d → Builtin.Int.intBits d ≤ 1048576 → ∀ p, H p = none → ∀ z : Int, Q (.ref p) (upd H p (.lst [.int z, .int d, .int 0])) := fun d d0 d1 p hp z =>
      ret p _ hp (same_new hp) ⟨z, d, 0, upd_same, d0, d1, by omega, by omega⟩
    refine ⟨_, rfl, _, _, rfl, rfl, _, rfl, ?_⟩
    refine ite2 (fun hc => ?_) (fun hc => ?_)
    · refine ⟨_, _, rfl, rfl, ⟨by decide, by decide, by decide⟩, _, _, rfl, rfl, _, rfl, ?_⟩
      refine ite2 (fun hc2 => ?_) (fun hc2 => ?_)
      · refine ⟨_, rfl, .inl ⟨_, rfl, _, _, rfl, rfl, (by show (0 : Int) < _; decide), _, rfl, _, rfl, .inl ⟨_, rfl, _, _, rfl, rfl, (by show (0 : Int) < _; decide), _, _, rfl, rfl, _, _, rfl, rfl, .inl ⟨?_, ?_⟩, _, _, rfl, rfl, .inl ⟨_, rfl, _, _, rfl, rfl, (by show (0 : Int) < _; decide), _, rfl, (by show 3 ≤ sizeLine; decide), fun p hp => ?_⟩⟩⟩⟩
        · show -(2 ^ 64) < n % 2147483399
          omega
        · show n % 2147483399 < 2 ^ 64
          omega
        · exact fin 0 (by decide) (by decide) p hp _
      · refine ⟨_, rfl, _, rfl, _, rfl, .inl ⟨_, rfl, _, _, rfl, rfl, (by show (0 : Int) < _; decide), _, rfl, _, rfl, .inl ⟨_, rfl, _, _, rfl, rfl, (by show (0 : Int) < _; decide), _, _, rfl, rfl, _, _, rfl, rfl, .inl ⟨?_, ?_⟩, _, _, rfl, rfl, .inl ⟨_, rfl, _, _, rfl, rfl, (by show (0 : Int) < _; decide), _, rfl, (by show 3 ≤ sizeLine; decide), fun p hp => ?_⟩⟩⟩⟩
        · show -(2 ^ 64) < n % 2147483399
          omega
        · show n % 2147483399 < 2 ^ 64
          omega
        · refine fin _ ?_ (Nat.le_trans (bits_mono ?_) nb) p hp _
          · split <;> omega
          · split <;> omega
    · refine ⟨_, rfl, iteF ⟨_, rfl, _, rfl, _, rfl, .inl ⟨_, rfl, _, _, rfl, rfl, (by show (0 : Int) < _; decide), _, rfl, _, rfl, .inl ⟨_, rfl, _, _, rfl, rfl, (by show (0 : Int) < _; decide), _, _, rfl, rfl, _, _, rfl, rfl, .inl ⟨?_, ?_⟩, _, _, rfl, rfl, .inl ⟨_, rfl, _, _, rfl, rfl, (by show (0 : Int) < _; decide), _, rfl, (by show 3 ≤ sizeLine; decide), fun p hp => ?_⟩⟩⟩⟩⟩
      · show -(2 ^ 64) < n % 2147483399
        omega
      · show n % 2147483399 < 2 ^ 64
        omega
      · refine fin _ ?_ (Nat.le_trans (bits_mono ?_) nb) p hp _
        · split <;> omega
        · split <;> omega
abbrev s_seed : Stmt := top 58
abbrev N_seed : List Str := ["_law_script", "_law_k", "_law_mixed", "_law_number"]
abbrev P_seed : List Str := ["_law_script", "_law_k"]
theorem sc_seed : FnScope N_seed P_seed (defScope s_seed) := ⟨rfl, rfl, rfl, by decide +kernel, rfl, by decide +kernel, by decide +kernel⟩
theorem ok_seed {f : Addr} {fd : FuncData} (D : DefAt K mg "_law_seed" s_seed P_seed f fd) (T : Txt K mg) : FnOk P w K mg base CX0 1 f fd P_seed (sp_seed K) := by
  refine D.fn.ok sc_seed (fun vs H Q E h => ?_) (fun cdv A outer s H vs Q E hr h => ?_)
  · obtain ⟨a, ns, k, rfl, _⟩ := h
    rfl
  · obtain ⟨a, ns, k, rfl, hS, bits, k0, k1, ret⟩ := h
    refine ⟨_, (pss_cons (ps_if (pt_cmpR op_lt (pv 1) (pe_callB call_len_seq (by rfl) T.len (by decide +kernel) (pa_cons (pv 0) pa_nil)) (nomark _))
      (pss_one (ps_ret (pe_ix ix_list (pv 0) (pv 1) (fun _ _ => rfl))))
      pss_nil)
      (pss_cons (ps_asg (pe_op op_add pe_int (pe_op op_mul (pe_op op_mul pe_int (pv 1)) (pv 1))) (pg_name (i := 2) sc_seed.nd rfl (.inl rfl)))
      (pss_cons (ps_for PassesOwn.never rfl (pi_list (pe_slice sl_list (pv 0) po_none (po_some pe_int))) (pg_name (i := 3) sc_seed.nd rfl (.inl rfl))
      (pss_one (ps_asg (pe_op op_mod (pe_callTy call_int1 (by rfl) T.int (by decide +kernel) (pa_cons (pe_op op_add (pe_op op_mul (pv 2) pe_int) (pv 3)) pa_nil)) pe_int) (pg_name (i := 2) sc_seed.nd rfl (.inl rfl)))))
      (pss_one (ps_ret (pv 2)))))), ?_⟩
    refine ⟨_, rfl, _, rfl, _, _, rfl, .inl hS, _, _, rfl, rfl, _, rfl, ?_⟩
    refine ite2 (fun hc => ?_) (fun hc => ?_)
    · have hlt : k < ns.length := by simpa using hc
      obtain ⟨j, rfl⟩ := Int.eq_ofNat_of_zero_le k0
      have hj : j < ns.length := by omega
      have hat : (ns.map V.int)[j]? = some (.int ns[j]) := by simp [hj]
      exact ⟨_, rfl, _, rfl, _, _, _, _, rfl, rfl, hS, atI_nat hat, ret _ _ (Same.refl H) (bits _ (List.getElem_mem _))⟩
    · refine ⟨_, rfl, _, _, rfl, rfl, .inl ⟨by decide, by decide⟩, _, rfl, _, _, rfl, rfl, .inr ⟨by omega, by omega⟩, _, _, rfl, rfl, _, rfl, _, rfl, _, _, rfl, hS, fun p hp => ?_⟩
      refine ⟨p, rfl, ⟨_, SqL.of upd_same⟩, for_list (K := K) (a := p) (xs := cutV (ns.map V.int) none (some 4)) (fun i σ' H' => ∃ (z : Int) (v : Option V), σ' = [some (.ref a), some (.int k), some (.int z), v] ∧
        H' = upd H p (.lst (cutV (ns.map V.int) none (some 4))) ∧ 0 ≤ z ∧ z < 2 ^ 50) ⟨_, none, rfl, rfl, ?_, ?_⟩ ?_ ?_ ?_⟩
      · have q : 0 ≤ k * k := Int.mul_nonneg k0 k0
        show 0 ≤ 7919 + 104729 * k * k
        rw [Int.mul_assoc]
        omega
      · have q : k * k ≤ 1000 * 1000 := Int.mul_le_mul (by omega) (by omega) k0 (by decide)
        show 7919 + 104729 * k * k < 2 ^ 50
        rw [Int.mul_assoc]
        omega
      · rintro i σ' H' _ ⟨z, v, _, rfl, _⟩
        exact SqL.of upd_same
      · rintro i x σ' H' hx ⟨z, v, rfl, rfl, _, _⟩
        have hm : x ∈ ns.map V.int := by
          have q := List.mem_of_getElem? hx
          exact List.mem_of_mem_drop (List.mem_of_mem_take q)
        obtain ⟨n, _, rfl⟩ := List.mem_map.mp hm
        refine ⟨_, rfl, _, _, rfl, rfl, .inr ⟨by decide, by decide⟩, _, rfl, _, _, rfl, rfl, .inl ⟨_, rfl, _, _, rfl, rfl, (by show (0 : Int) < _; decide), ?_⟩⟩
        refine ⟨_, _, rfl, rfl, ?_, ?_⟩
        · exact Int.emod_nonneg _ (by decide)
        · have q := Int.emod_lt_of_pos (z * 52711 + n) (b := 2147483563) (by decide)
          show (z * 52711 + n) % 2147483563 < 2 ^ 50
          omega
      · rintro σ' H' ⟨z, v, rfl, rfl, z0, z1⟩
        refine ⟨_, rfl, ret _ _ (same_new hp) (bits_small ?_)⟩
        have : z.natAbs < 2 ^ 50 := by omega
        exact Nat.lt_trans this (Nat.pow_lt_pow_right (by decide) (by decide))
end L

namespace Hv
open PySem L2
abbrev text (n : Nat) : Str := Str.ofString (toString ((n : Nat) : Int))
def numOf (z : Str) (most : Nat) : Option Nat := (List.range (most + 1)).find? fun n => decide (text n = z)
def numV : Option Nat → V
  | some n => .int (n : Int)
  | none => .non
theorem text_int : ∀ n < 13, intText? (text n) = some (n : Int) := by decide +kernel
theorem text_len : ∀ m < 13, ∀ n < m + 1, 1 ≤ (text n).length ∧ (text n).length ≤ (text m).length := by decide +kernel
theorem text_digits : ∀ n < 13, ∀ c ∈ (text n).cps.toList, c ∈ (Str.ofString "0123456789").cps.toList := by decide +kernel
theorem text_short : ∀ m < 13, (text m).length ≤ 2 := by decide +kernel
theorem digits_in : ∀ c ∈ (Str.ofString "0123456789").cps.toList, 48 ≤ c ∧ c ≤ 57 := by decide +kernel
theorem numOf_some {z : Str} {m n : Nat} (h : numOf z m = some n) : n ≤ m ∧ text n = z := by
  unfold numOf at h
  have h1 := List.mem_of_find?_eq_some h
  have h2 := List.find?_some h
  exact ⟨by have := List.mem_range.mp h1; omega, of_decide_eq_true h2⟩
theorem numOf_of {z : Str} {m n : Nat} (hm : m ≤ 12) (hn : n ≤ m) (e : text n = z) : numOf z m = some n := by
  cases q : numOf z m with
  | none =>
    unfold numOf at q
    have := (List.find?_eq_none.mp q) n (List.mem_range.mpr (by omega))
    exact absurd (decide_eq_true e) this
  | some k =>
    obtain ⟨h1, h2⟩ := numOf_some q
    have a := text_int n (by omega)
    have b := text_int k (by omega)
    rw [e] at a
    rw [h2, a] at b
    have := Option.some.inj b
    rw [Int.ofNat.inj this]
theorem numOf_none {z : Str} {m : Nat} (h : ∀ n, n ≤ m → text n ≠ z) : numOf z m = none := by
  cases q : numOf z m with
  | none => rfl
  | some k => exact absurd (numOf_some q).2 (h k (numOf_some q).1)
/-- the signs are all digits: the text is a number's -/
theorem all_digits {z : Str} (h1 : 1 ≤ z.length) (h2 : z.length ≤ 2) (h : ∀ c ∈ z.cps.toList, c ∈ (Str.ofString "0123456789").cps.toList) : ∃ n : Nat, intText? z = some (n : Int) := by
  have e : z = SX.S z.cps.toList := by
    cases z
    rfl
  refine ⟨NumText.digitsVal z.cps.toList, ?_⟩
  rw [e]
  refine SX.int_S ?_ ?_ ?_
  · rw [List.all_eq_true]
    intro c hc
    have := digits_in c (h c (by simpa using hc))
    rw [Bool.and_eq_true, decide_eq_true_eq, decide_eq_true_eq]
    exact this
  · intro q
    have : z.cps.toList.length = 0 := by rw [q]; rfl
    have l : z.length = z.cps.toList.length := by
      show z.cps.size = _
      simp
    omega
  · have l : z.length = z.cps.toList.length := by
      show z.cps.size = _
      simp
    omega

abbrev MARK : Str := Str.ofString "over "
abbrev SLASH : Str := Str.ofString "/"
def isOver (z : Str) : Bool := Txt.startswith z MARK
def fracOf (z : Str) : Option (Nat × Nat) :=
  match Txt.split (Txt.removeprefix z MARK) SLASH with
  | [a, b] =>
    match numOf a 12, numOf b 12 with
    | some p, some q => if q < 1 ∨ 1 < Nat.gcd p q then none else if p + (if isOver z then 1 else 0) ≤ q then some (p, q) else none
    | _, _ => none
  | _ => none
theorem fracOf_le {z : Str} {p q : Nat} (h : fracOf z = some (p, q)) : p ≤ 12 ∧ q ≤ 12 ∧ 1 ≤ q ∧ p ≤ q ∧ Nat.gcd p q = 1 := by
  unfold fracOf at h
  split at h
  · rename_i a b _
    cases e1 : numOf a 12 with
    | none => rw [e1] at h; cases h
    | some p1 =>
      cases e2 : numOf b 12 with
      | none => rw [e1, e2] at h; cases h
      | some q1 =>
        rw [e1, e2] at h
        dsimp only at h
        have l1 := (numOf_some e1).1
        have l2 := (numOf_some e2).1
        by_cases c : q1 < 1 ∨ 1 < Nat.gcd p1 q1
        · rw [if_pos c] at h; cases h
        · rw [if_neg c] at h
          by_cases d : p1 + (if isOver z = true then 1 else 0) ≤ q1
          · rw [if_pos d] at h
            cases h
            have g : 0 < Nat.gcd p q := Nat.gcd_pos_of_pos_right _ (by omega)
            refine ⟨l1, l2, by omega, by omega, by omega⟩
          · rw [if_neg d] at h; cases h
  · cases h
/-- what fraction_of asks of a text's length -/
structure TextOk (z : Str) : Prop where
  own : z.length + 2 ≤ sizeLine
  cut : (Txt.removeprefix z MARK).length + 2 ≤ sizeLine
  part : ∀ p ∈ Txt.split (Txt.removeprefix z MARK) SLASH, p.length ≤ sizeLine
/-- whether p of w meet the bound z, which is a / b -/
def met (z : Str) (a b : Nat) (p w : Int) : Bool := if isOver z then decide (w * a < p * b) else decide (w * a ≤ p * b)

theorem fracOf_len {z : Str} (h : (Txt.split (Txt.removeprefix z MARK) SLASH).length ≠ 2) : fracOf z = none := by
  unfold fracOf
  split
  · rename_i e
    rw [e] at h
    exact absurd rfl h
  · rfl
theorem fracOf_two {z a b : Str} (e : Txt.split (Txt.removeprefix z MARK) SLASH = [a, b]) : fracOf z = match numOf a 12, numOf b 12 with
    | some p, some q => if q < 1 ∨ 1 < Nat.gcd p q then none else if p + (if isOver z then 1 else 0) ≤ q then some (p, q) else none
    | _, _ => none := by
  unfold fracOf
  rw [e]
theorem two_of {l : List Str} (h : l.length = 2) : ∃ a b, l = [a, b] := by
  match l, h with
  | [a, b], _ => exact ⟨a, b, rfl⟩
/-! promises -/
def sp_is_integer (K : PySem.W.Frag) : Sp := fun vs H Q _ => ∃ (v : V) (t : Value) (b1 b2 : Bool), vs = [v] ∧ TyX K H v t ∧ PySem.W.kitOne K t (.type "int") = some b1 ∧
  PySem.W.kitOne K t (.type "bool") = some b2 ∧ Q (.bl (b1 && !b2)) H
def sp_gcd : Sp := fun vs H Q _ => ∃ (a b : Nat), vs = [.int a, .int b] ∧ Q (.int (Nat.gcd a b : Nat)) H
def sp_number_of : Sp := fun vs H Q _ => ∃ (z : Str) (m : Nat), vs = [.str z, .int m] ∧ z.length ≤ sizeLine ∧ m ≤ 12 ∧ ∀ H', Same H H' → Q (numV (numOf z m)) H'
/-- of a text, or of another value -/
def sp_fraction_of (K : PySem.W.Frag) : Sp := fun vs H Q _ =>
  (∃ z : Str, vs = [.str z] ∧ TextOk z ∧ (fracOf z = none → ∀ H', Same H H' → Q .non H') ∧
    ∀ a b, fracOf z = some (a, b) → ∀ p H', H p = none → Same H H' → H' p = some (.tup [.int (a : Int), .int (b : Int)]) → Q (.ref p) H') ∨
  ∃ (v : V) (t : Value), vs = [v] ∧ TyX K H v t ∧ PySem.W.kitOne K t (.type "str") = some false ∧ Q .non H
def sp_is_bound (K : PySem.W.Frag) : Sp := fun vs H Q _ =>
  (∃ z : Str, vs = [.str z] ∧ TextOk z ∧ ∀ H', Same H H' → Q (.bl (fracOf z).isSome) H') ∨
  ∃ (v : V) (t : Value), vs = [v] ∧ TyX K H v t ∧ PySem.W.kitOne K t (.type "str") = some false ∧ Q (.bl false) H
def sp_bound_met : Sp := fun vs H Q _ => ∃ (z : Str) (a b : Nat) (p w : Int), vs = [.str z, .int p, .int w] ∧ TextOk z ∧ fracOf z = some (a, b) ∧ ∀ H', Same H H' → Q (.bl (met z a b p w)) H'
end Hv
namespace L
open PySem L2 Hv
variable {P : Program} {w : World} {K : PySem.W.Frag} {mg : Str → Option Value} {base : Heap}
abbrev s_is_integer : Stmt := top 43
abbrev N_is_integer : List Str := ["value"]
abbrev P_is_integer : List Str := ["value"]
theorem sc_is_integer : FnScope N_is_integer P_is_integer (defScope s_is_integer) := ⟨rfl, rfl, rfl, by decide +kernel, rfl, by decide +kernel, by decide +kernel⟩
theorem ok_is_integer {f : Addr} {fd : FuncData} (D : DefAt K mg "is_integer" s_is_integer P_is_integer f fd) (T : Txt K mg) : FnOk P w K mg base CX0 1 f fd P_is_integer (sp_is_integer K) := by
  refine D.fn.ok sc_is_integer (fun vs H Q E h => ?_) (fun cdv A outer s H vs Q E hr h => ?_)
  · obtain ⟨v, t, b1, b2, rfl, _⟩ := h
    rfl
  · obtain ⟨v, t, b1, b2, rfl, ty, k1, k2, ret⟩ := h
    refine ⟨_, (pss_one (ps_ret (pe_and (pe_callB call_isi (by rfl) T.isinstance (by decide +kernel) (pa_cons (pv 0) (pa_cons (pe_bltn (v := .ty "int") (u := .type "int") (by rfl) T.int (by decide +kernel) rfl) pa_nil))) (pe_one (pe_not (pe_callB call_isi (by rfl) T.isinstance (by decide +kernel) (pa_cons (pv 0) (pa_cons (pe_bltn (v := .ty "bool") (u := .type "bool") (by rfl) T.bool (by decide +kernel) rfl) pa_nil)))))))), ?_⟩
    refine ⟨_, rfl, _, _, _, _, _, rfl, .ty _, ty, k1, _, rfl, ?_⟩
    cases b1 with
    | true => exact iteT ⟨_, rfl, _, _, _, _, _, rfl, .ty _, ty, k2, _, rfl, ret⟩
    | false => exact iteF ret
abbrev s_common_divisor : Stmt := top 45
abbrev N_common_divisor : List Str := ["one", "other"]
abbrev P_common_divisor : List Str := ["one", "other"]
theorem sc_common_divisor : FnScope N_common_divisor P_common_divisor (defScope s_common_divisor) := ⟨rfl, rfl, rfl, by decide +kernel, rfl, by decide +kernel, by decide +kernel⟩
theorem ok_common_divisor {f : Addr} {fd : FuncData} (D : DefAt K mg "common_divisor" s_common_divisor P_common_divisor f fd) (T : Txt K mg) : FnOk P w K mg base CX0 1 f fd P_common_divisor sp_gcd := by
  refine D.fn.ok sc_common_divisor (fun vs H Q E h => ?_) (fun cdv A outer s H vs Q E hr h => ?_)
  · obtain ⟨a, b, rfl, _⟩ := h
    rfl
  · obtain ⟨a, b, rfl, ret⟩ := h
    refine ⟨_, (pss_cons (ps_while PassesOwn.never (pt_cmpR op_gt (pv 1) pe_int (nomark _))
      (pss_one (ps_par (i := 0) (j := 1) (by rfl) sc_common_divisor.nd rfl rfl (by decide) rfl rfl (pa_cons (pv 1) (pa_cons (pe_op op_mod (pe_callTy call_int1 (by rfl) T.int (by decide +kernel) (pa_cons (pv 0) pa_nil)) (pv 1)) pa_nil)) (by rfl))))
      (pss_one (ps_ret (pv 0)))), ?_⟩
    refine ⟨fun m σ' H' => ∃ x y : Nat, σ' = [some (.int (x : Int)), some (.int (y : Int))] ∧ Nat.gcd x y = Nat.gcd a b ∧ m = y ∧ H' = H, ⟨b, a, b, rfl, rfl, rfl, rfl⟩, ?_⟩
    rintro m σ' H' ⟨x, y, rfl, e, rfl, rfl⟩
    refine ⟨_, rfl, _, _, rfl, rfl, _, rfl, ?_⟩
    refine ite2 (fun hc => ?_) (fun hc => ?_)
    · have hy : 0 < m := by have := of_decide_eq_true hc; omega
      refine ⟨fun σ2 H2 => σ2 = [some (.int (m : Int)), some (.int ((x % m : Nat) : Int))] ∧ H2 = H', ?_, ?_⟩
      · rintro σ2 H2 ⟨rfl, rfl⟩
        refine ⟨x % m, Nat.mod_lt _ hy, m, x % m, rfl, ?_, rfl, rfl⟩
        rw [Nat.gcd_comm, ← Nat.gcd_rec, Nat.gcd_comm, e]
      · refine ⟨_, rfl, _, rfl, .inl ⟨_, rfl, _, rfl, _, _, rfl, rfl, ?_, _, _, rfl, ?_, rfl⟩⟩
        · show (0 : Int) < m
          omega
        · rfl
    · have hy : m = 0 := by
        have : ¬ (0 : Int) < (m : Int) := fun q => hc (decide_eq_true q)
        omega
      subst hy
      refine ⟨_, rfl, ?_⟩
      rw [Nat.gcd_zero_right] at e
      rw [e]
      exact ret
abbrev s_number_of : Stmt := top 46
abbrev N_number_of : List Str := ["word", "most", "number", "sign"]
abbrev P_number_of : List Str := ["word", "most"]
theorem sc_number_of : FnScope N_number_of P_number_of (defScope s_number_of) := ⟨rfl, rfl, rfl, by decide +kernel, rfl, by decide +kernel, by decide +kernel⟩
theorem ok_number_of {f : Addr} {fd : FuncData} (D : DefAt K mg "number_of" s_number_of P_number_of f fd) (T : Txt K mg) : FnOk P w K mg base CX0 1 f fd P_number_of sp_number_of := by
  refine D.fn.ok sc_number_of (fun vs H Q E h => ?_) (fun cdv A outer s H vs Q E hr h => ?_)
  · obtain ⟨z, m, rfl, _⟩ := h
    rfl
  · obtain ⟨z, m, rfl, hz, hm, ret⟩ := h
    refine ⟨_, (pss_cons (ps_if (PW.pt (pw_or (pt_not (pt_chain op_le op_le pe_int (pe_callB call_len_str (by rfl) T.len (by decide +kernel) (pa_cons (pv 0) pa_nil)) (pe_callB call_len_str (by rfl) T.len (by decide +kernel) (pa_cons (pe_callTy call_str_int (by rfl) T.str (by decide +kernel) (pa_cons (pv 1) pa_nil)) pa_nil)))) (pw_or1 (pt_val (pe_callB (cr_any rfl) (by rfl) T.any (by decide +kernel) (pa_cons (pe_lc (own := [("sign", 3)]) (g := gName 3) rfl sc_number_of.nd (pi_str (pv 0)) (blkOk_by (own := [("sign", 3)]) (N := N_number_of) (sc := defScope s_number_of) (by decide +kernel)) (fun _ _ _ _ _ => (pg_name (i := 3) sc_number_of.nd rfl (.inl rfl))) (fun _ _ _ _ _ => pts_nil) (fun _ _ _ _ _ => (pe_cmpR op_notIn_sign (pv 3) (pe_glob (v := .str "0123456789") rfl T.cDIGITS.choose_spec ⟨_, rfl⟩) (by rfl)))) pa_nil))))))
      (pss_one (ps_ret pe_non))
      pss_nil)
      (pss_cons (ps_asg (pe_callTy call_int_str (by rfl) T.int (by decide +kernel) (pa_cons (pv 0) pa_nil)) (pg_name (i := 2) sc_number_of.nd rfl (.inl rfl)))
      (pss_one (ps_ret (pe_ifExp (PW.pt (pw_and (pt_cmpR op_le (pv 2) (pv 1) (nomark _)) (pw_and1 (pt_cmpR op_eq (pe_callTy call_str_int (by rfl) T.str (by decide +kernel) (pa_cons (pv 2) pa_nil)) (pv 0) (nomark _))))) (pv 2) pe_non))))), ?_⟩
    have none_ : numOf z m = none → ∀ H', Same H H' → Q .non H' := fun e H' s => by
      have q := ret H' s
      rw [e] at q
      exact q
    refine ⟨_, rfl, _, rfl, hz, _, _, rfl, rfl, _, rfl, ?_⟩
    refine ite2 (fun hc => ?_) (fun hc => ?_)
    · have c1 : (1 : Int) ≤ z.length := of_decide_eq_true hc
      have lg : (m : Int).natAbs.log2 < 1920 := Nat.lt_of_le_of_lt (log2_mono (show (m : Int).natAbs ≤ 12 by omega)) (by decide)
      refine ⟨_, rfl, _, rfl, lg, _, rfl, ?_, _, _, rfl, rfl, _, rfl, ?_⟩
      · exact Nat.le_trans (text_short m (by omega)) (by decide)
      refine ite2 (fun hc2 => ?_) (fun hc2 => ?_)
      · -- the length does not fit
        refine none_ (numOf_none fun n hn e => ?_) _ (Same.refl H)
        have l := (text_len m (by omega) n (by omega)).2
        rw [e] at l
        have : ¬ ((z.length : Int) ≤ ((text m).length : Int)) := nT hc2
        omega
      · have c2 : (z.length : Int) ≤ ((text m).length : Int) := nF hc2
        have c3 := text_short m (by omega)
        refine ⟨_, rfl, _, rfl, fun L hL => ?_⟩
        refine lc_it walk_str (fun i H' => H' = upd H L (.lst ((z.cps.toList.take i).map fun c => V.bl (!decide (c ∈ (Str.ofString "0123456789").cps.toList))))) ?_ (fun _ _ _ _ => trivial) ?_ ?_
        · rfl
        · rintro i x H1 H2 hi rfl ⟨rfl, c, hc, rfl⟩
          refine ⟨rfl, _, rfl, c, _, rfl, rfl, _, upd_same, ?_, ?_⟩
          · rw [List.length_map, List.length_take]
            have : z.cps.toList.length = z.length := by
              show _ = z.cps.size
              simp
            have s2 : 2 < sizeLine := by decide
            omega
          · rw [upd_upd, List.take_succ]
            have e : z.cps.toList[i]? = some c := by simpa using hc
            rw [e, List.map_append]
            rfl
        · rintro H1 rfl
          have e : List.take z.cps.size z.cps.toList = z.cps.toList := List.take_of_length_le (by simp)
          rw [e]
          refine ⟨_, z.cps.toList.map fun c => !decide (c ∈ (Str.ofString "0123456789").cps.toList), rfl, SqL.of (by rw [upd_same, List.map_map]; rfl), _, rfl, ?_⟩
          refine ite2 (fun ha => ?_) (fun ha => ?_)
          · refine none_ (numOf_none fun n hn q => ?_) _ (same_new hL)
            rw [List.any_map, List.any_eq_true] at ha
            obtain ⟨c, hc, hd⟩ := ha
            have := text_digits n (by omega) c (by rw [q]; exact hc)
            exact nT (p := c ∈ (Str.ofString "0123456789").cps.toList) hd this
          · have dg : ∀ c ∈ z.cps.toList, c ∈ (Str.ofString "0123456789").cps.toList := by
              intro c hc
              by_cases q : c ∈ (Str.ofString "0123456789").cps.toList
              · exact q
              · exfalso
                apply ha
                rw [List.any_map, List.any_eq_true]
                exact ⟨c, hc, by show (!decide (c ∈ (Str.ofString "0123456789").cps.toList)) = true; rw [decide_eq_false q]; rfl⟩
            obtain ⟨n, hn⟩ := all_digits (by omega) (by omega) dg
            refine ⟨_, rfl, _, _, rfl, hn, by omega, _, rfl, _, rfl, _, _, rfl, rfl, _, rfl, ?_⟩
            have no : ¬ (n ≤ m ∧ text n = z) → numOf z m = none := fun q => numOf_none fun k hk e => q (by
              have a := text_int k (by omega)
              rw [e, hn] at a
              have b : n = k := by have := Option.some.inj a; omega
              rw [b]
              exact ⟨hk, e⟩)
            refine ite2 (fun h1 => ?_) (fun h1 => ?_)
            · have h1' : n ≤ m := by have := of_decide_eq_true h1; omega
              have lg : (n : Int).natAbs.log2 < 1920 := Nat.lt_of_le_of_lt (log2_mono (show (n : Int).natAbs ≤ 12 by omega)) (by decide)
              refine ⟨_, rfl, _, rfl, lg, _, rfl, rfl, _, rfl, ?_⟩
              refine ite2 (fun h2 => ?_) (fun h2 => ?_)
              · have h2' : text n = z := V.str.inj (of_decide_eq_true h2)
                refine ⟨_, rfl, ?_⟩
                have q := ret _ (same_new (o := .lst (z.cps.toList.map fun c => V.bl (!decide (c ∈ (Str.ofString "0123456789").cps.toList)))) hL)
                rw [numOf_of hm h1' h2'] at q
                exact q
              · refine none_ (no fun q => h2 (decide_eq_true ?_)) _ (same_new hL)
                rw [← q.2]
            · refine iteF (none_ (no fun q => h1 (decide_eq_true ?_)) _ (same_new hL))
              have := q.1
              omega
    · refine ⟨_, rfl, iteT (none_ (numOf_none fun n hn e => ?_) _ (Same.refl H))⟩
      have l := (text_len m (by omega) n (by omega)).1
      rw [e] at l
      have : ¬ ((1 : Int) ≤ (z.length : Int)) := dF hc
      omega
abbrev s_fraction_of : Stmt := top 49
abbrev N_fraction_of : List Str := ["bound", "words", "part", "whole"]
abbrev P_fraction_of : List Str := ["bound"]
theorem sc_fraction_of : FnScope N_fraction_of P_fraction_of (defScope s_fraction_of) := ⟨rfl, rfl, rfl, by decide +kernel, rfl, by decide +kernel, by decide +kernel⟩
theorem ok_fraction_of {f f1 f2 : Addr} {fd fd1 fd2 : FuncData} (D : DefAt K mg "fraction_of" s_fraction_of P_fraction_of f fd) (T : Txt K mg)
    (D_number_of : DefAt K mg "number_of" s_number_of P_number_of f1 fd1) (D_common_divisor : DefAt K mg "common_divisor" s_common_divisor P_common_divisor f2 fd2) :
    FnOk P w K mg base CX0 2 f fd P_fraction_of (sp_fraction_of K) := by
  have G_number_of : FnOk P w K mg base CX0 1 f1 fd1 P_number_of sp_number_of := ok_number_of D_number_of T
  have G_common_divisor : FnOk P w K mg base CX0 1 f2 fd2 P_common_divisor sp_gcd := ok_common_divisor D_common_divisor T
  refine D.fn.ok sc_fraction_of (fun vs H Q E h => ?_) (fun cdv A outer s H vs Q E hr h => ?_)
  · rcases h with ⟨z, rfl, _⟩ | ⟨v, t, rfl, _⟩ <;> rfl
  · refine ⟨_, (pss_cons (ps_if (pt_not (pt_val (pe_callB call_isi (by rfl) T.isinstance (by decide +kernel) (pa_cons (pv 0) (pa_cons (pe_bltn (v := .ty "str") (u := .type "str") (by rfl) T.str (by decide +kernel) rfl) pa_nil)))))
      (pss_one (ps_ret pe_non))
      pss_nil)
      (pss_cons (ps_asg (pe_split (pe_bm PySem.F.plainAttrs_str PySem.F.slot_str_removeprefix PySem.F.type_str_removeprefix mt_removeprefix (pv 0) (pa_cons (pe_glob (v := .str "over ") rfl T.cMARK.choose_spec ⟨_, rfl⟩) pa_nil)) pe_str) (pg_name (i := 1) sc_fraction_of.nd rfl (.inl rfl)))
      (pss_cons (ps_if (pt_cmpR op_ne (pe_callB call_len_seq (by rfl) T.len (by decide +kernel) (pa_cons (pv 1) pa_nil)) pe_int (nomark _))
      (pss_one (ps_ret pe_non))
      pss_nil)
      (pss_cons (ps_par (i := 2) (j := 3) (by rfl) sc_fraction_of.nd rfl rfl (by decide) rfl rfl (pa_cons (pe_call G_number_of (hr.mono (by decide)) rfl D_number_of.mg D_number_of.fn.kp D_number_of.bd .nil pass0 (pa_cons (pe_ix ix_list (pv 1) pe_int (fun _ _ => rfl)) (pa_cons (pe_glob (v := .int 12) rfl T.cMOST_PART.choose_spec ⟨_, rfl⟩) pa_nil))) (pa_cons (pe_call G_number_of (hr.mono (by decide)) rfl D_number_of.mg D_number_of.fn.kp D_number_of.bd .nil pass0 (pa_cons (pe_ix ix_list (pv 1) pe_int (fun _ _ => rfl)) (pa_cons (pe_glob (v := .int 12) rfl T.cMOST_PART.choose_spec ⟨_, rfl⟩) pa_nil))) pa_nil)) (by rfl))
      (pss_cons (ps_if (PW.pt (pw_or (pt_cmpR op_isN (pv 2) pe_non (nomark _)) (pw_or (pt_cmpR op_isN (pv 3) pe_non (nomark _)) (pw_or (pt_cmpR op_lt (pv 3) pe_int (nomark _)) (pw_or1 (pt_cmpR op_gt (pe_call G_common_divisor (hr.mono (by decide)) rfl D_common_divisor.mg D_common_divisor.fn.kp D_common_divisor.bd .nil pass0 (pa_cons (pv 2) (pa_cons (pv 3) pa_nil))) pe_int (nomark _)))))))
      (pss_one (ps_ret pe_non))
      pss_nil)
      (pss_one (ps_ret (pe_ifExp (pt_cmpR op_le (pe_op op_add (pv 2) (pe_ifExp (pt_val (pe_m1 PySem.F.slot_str_startswith PySem.F.type_str_startswith mt_startswith (pv 0) (pe_glob (v := .str "over ") rfl T.cMARK.choose_spec ⟨_, rfl⟩))) pe_int pe_int)) (pv 3) (nomark _)) (pe_tup (pa_cons (pv 2) (pa_cons (pv 3) pa_nil))) pe_non)))))))), ?_⟩
    rcases h with ⟨z, rfl, ok, rn, rs⟩ | ⟨v, t, rfl, ty, kit, ret⟩
    · refine ⟨_, rfl, _, _, _, _, _, rfl, .ty _, .base (.str z), kit_ty (r := true) (by decide +kernel), _, rfl, ?_⟩
      refine ⟨_, rfl, rfl, _, _, rfl, rfl, by have := ok.own; omega, ⟨_, rfl⟩, _, _, rfl, rfl, by decide, ok.cut, fun p hp => ?_⟩
      have hL := upd_same (H := H) (a := p) (o := .lst ((Txt.split (Txt.removeprefix z MARK) SLASH).map V.str))
      have sm : Same H (upd H p (.lst ((Txt.split (Txt.removeprefix z MARK) SLASH).map V.str))) := same_new hp
      refine ⟨_, rfl, _, _, rfl, .inl (SqL.of hL), rfl, _, rfl, ?_⟩
      refine ite2 (fun hc => ?_) (fun hc => ?_)
      · refine rn (fracOf_len fun q => nT hc ?_) _ sm
        rw [List.length_map, q]
        rfl
      · have l2 : (Txt.split (Txt.removeprefix z MARK) SLASH).length = 2 := by
          have := V.int.inj (nF hc)
          rw [List.length_map] at this
          omega
        obtain ⟨a, b, e⟩ := two_of l2
        have la : a.length ≤ sizeLine := ok.part a (by rw [e]; simp)
        have lb : b.length ≤ sizeLine := ok.part b (by rw [e]; simp)
        rw [e] at hL sm ⊢
        have fe := fracOf_two e
        refine ⟨_, rfl, _, _, _, _, rfl, rfl, SqL.of hL, rfl, a, 12, rfl, la, by decide, fun H1 s1 => ?_⟩
        refine ⟨_, rfl, _, _, _, _, rfl, rfl, SqL.of (s1 _ _ hL), rfl, b, 12, rfl, lb, by decide, fun H2 s2 => ⟨_, _, rfl, ?_⟩⟩
        have sm2 : Same H H2 := (sm.trans s1).trans s2
        cases e1 : numOf a 12 with
        | none =>
          rw [e1] at fe
          refine ⟨_, rfl, rfl, _, rfl, ?_⟩
          exact ifT rfl (rn fe _ sm2)
        | some x =>
          cases e2 : numOf b 12 with
          | none =>
            rw [e1, e2] at fe
            refine ⟨_, rfl, rfl, _, rfl, ?_⟩
            refine ifF (fun q => by cases q) ⟨_, rfl, rfl, _, rfl, ?_⟩
            exact ifT rfl (rn fe _ sm2)
          | some y =>
            rw [e1, e2] at fe
            dsimp only at fe
            refine ⟨_, rfl, rfl, _, rfl, ?_⟩
            refine ifF (fun q => by cases q) ⟨_, rfl, rfl, _, rfl, ?_⟩
            refine ifF (fun q => by cases q) ⟨_, rfl, _, _, rfl, rfl, _, rfl, ?_⟩
            by_cases y1 : y < 1
            · refine ifT (by omega) (rn ?_ _ sm2)
              rw [fe, if_pos (.inl y1)]
            · refine ifF (by omega) ⟨_, rfl, _, rfl, x, y, rfl, _, _, rfl, rfl, _, rfl, ?_⟩
              by_cases g : 1 < Nat.gcd x y
              · refine ifT (by omega) (rn ?_ _ sm2)
                rw [fe, if_pos (.inr g)]
              · refine ifF (by omega) ⟨_, rfl, _, rfl, ⟨_, rfl⟩, _, _, rfl, rfl, _, rfl, ?_⟩
                rw [if_neg (by omega)] at fe
                have fin : ∀ k : Nat, k = (if isOver z = true then 1 else 0) → ∀ i : Int, i = k → (if decide ((x : Int) + i ≤ (y : Int)) = true then
                    tTup (tCons (tVar 2) (tCons (tVar 3) tNil)) [some (V.str z), some (V.ref p), some (V.int (x : Int)), some (V.int (y : Int))] H2 Q
                    else Q .non H2) := by
                  intro k hk i hi
                  by_cases c : x + k ≤ y
                  · refine ifT (by omega) ⟨_, rfl, _, rfl, by show 2 ≤ sizeLine; decide, fun t ht => ?_⟩
                    rw [← hk, if_pos c] at fe
                    exact rs x y fe t _ (sm2.free ht) (sm2.trans (same_new ht)) upd_same
                  · refine ifF (by omega) (rn ?_ _ sm2)
                    rw [fe, ← hk, if_neg c]
                cases ov : isOver z with
                | true =>
                  have ov' : Txt.startswith z MARK = true := ov
                  rw [ov']
                  exact ⟨_, _, rfl, rfl, _, rfl, _, _, rfl, rfl, _, rfl, fin 1 (by rw [ov]; rfl) 1 rfl⟩
                | false =>
                  have ov' : Txt.startswith z MARK = false := ov
                  rw [ov']
                  exact ⟨_, _, rfl, rfl, _, rfl, _, _, rfl, rfl, _, rfl, fin 0 (by rw [ov]; rfl) 0 rfl⟩
    · exact ⟨_, rfl, _, _, _, _, _, rfl, .ty _, ty, kit, _, rfl, ret⟩
abbrev s_is_bound : Stmt := top 50
abbrev N_is_bound : List Str := ["value"]
abbrev P_is_bound : List Str := ["value"]
theorem sc_is_bound : FnScope N_is_bound P_is_bound (defScope s_is_bound) := ⟨rfl, rfl, rfl, by decide +kernel, rfl, by decide +kernel, by decide +kernel⟩
theorem ok_is_bound {f f1 : Addr} {fd fd1 : FuncData} (D : DefAt K mg "is_bound" s_is_bound P_is_bound f fd) (D_fraction_of : DefAt K mg "fraction_of" s_fraction_of P_fraction_of f1 fd1)
    (G_fraction_of : FnOk P w K mg base CX0 2 f1 fd1 P_fraction_of (sp_fraction_of K)) : FnOk P w K mg base CX0 3 f fd P_is_bound (sp_is_bound K) := by
  refine D.fn.ok sc_is_bound (fun vs H Q E h => ?_) (fun cdv A outer s H vs Q E hr h => ?_)
  · rcases h with ⟨z, rfl, _⟩ | ⟨v, t, rfl, _⟩ <;> rfl
  · refine ⟨_, (pss_one (ps_ret (pe_cmpR op_notN (pe_call G_fraction_of (hr.mono (by decide)) rfl D_fraction_of.mg D_fraction_of.fn.kp D_fraction_of.bd .nil pass0 (pa_cons (pv 0) pa_nil)) pe_non (nomark _)))), ?_⟩
    rcases h with ⟨z, rfl, ok, ret⟩ | ⟨v, t, rfl, ty, kit, ret⟩
    · refine ⟨_, rfl, .inl ⟨z, rfl, ok, fun e H' sm => ?_, fun a b e p H' hp sm h' => ?_⟩⟩
      · have q := ret H' sm
        rw [e] at q
        exact ⟨rfl, q⟩
      · have q := ret H' sm
        rw [e] at q
        exact ⟨rfl, q⟩
    · exact ⟨_, rfl, .inr ⟨v, t, rfl, ty, kit, rfl, ret⟩⟩
end L

namespace Hv
open PySem L2
theorem str_len (z : Str) : z.cps.toList.length = z.length := by
  show _ = z.cps.size
  simp
end Hv

namespace Hv
open PySem L2
abbrev LETS : Str := Str.ofString "abcdefghijklmnopqrstuvwxyz"
abbrev DIGS : Str := Str.ofString "0123456789"
def signOk (c : Nat) : Bool := decide (c ∈ LETS.cps.toList) || decide (c ∈ DIGS.cps.toList)
/-- a name: one to eight signs, a letter first -/
def nameOk (z : Str) : Bool := match z.cps.toList with
  | [] => false
  | c :: _ => decide (z.length ≤ 8) && decide (c ∈ LETS.cps.toList) && z.cps.toList.all signOk
theorem atI_zero {α : Type} (c : α) (cs : List α) : atI (c :: cs) 0 = some c := by
  have h : ¬ ((cs.length : Int) + 1 ≤ 0) := by omega
  simp [atI, ixN]
  try omega
/-- of a text, or of another value -/
def sp_is_name (K : PySem.W.Frag) : Sp := fun vs H Q _ =>
  (∃ z : Str, vs = [.str z] ∧ z.length ≤ sizeLine ∧ ∀ H', Same H H' → Q (.bl (nameOk z)) H') ∨
  ∃ (v : V) (t : Value), vs = [v] ∧ TyX K H v t ∧ PySem.W.kitOne K t (.type "str") = some false ∧ Q (.bl false) H
end Hv
namespace L
open PySem L2 Hv
variable {P : Program} {w : World} {K : PySem.W.Frag} {mg : Str → Option Value} {base : Heap}
abbrev s_is_name : Stmt := top 44
abbrev N_is_name : List Str := ["value", "sign"]
abbrev P_is_name : List Str := ["value"]
theorem sc_is_name : FnScope N_is_name P_is_name (defScope s_is_name) := ⟨rfl, rfl, rfl, by decide +kernel, rfl, by decide +kernel, by decide +kernel⟩
theorem ok_is_name {f : Addr} {fd : FuncData} (D : DefAt K mg "is_name" s_is_name P_is_name f fd) (T : Txt K mg) : FnOk P w K mg base CX0 1 f fd P_is_name (sp_is_name K) := by
  refine D.fn.ok sc_is_name (fun vs H Q E h => ?_) (fun cdv A outer s H vs Q E hr h => ?_)
  · rcases h with ⟨z, rfl, _⟩ | ⟨v, t, rfl, _⟩ <;> rfl
  · refine ⟨_, (pss_cons (ps_if (PW.pt (pw_or (pt_not (pt_val (pe_callB call_isi (by rfl) T.isinstance (by decide +kernel) (pa_cons (pv 0) (pa_cons (pe_bltn (v := .ty "str") (u := .type "str") (by rfl) T.str (by decide +kernel) rfl) pa_nil))))) (pw_or (pt_not (pt_chain op_le op_le pe_int (pe_callB call_len_str (by rfl) T.len (by decide +kernel) (pa_cons (pv 0) pa_nil)) pe_int)) (pw_or1 (pt_cmpR op_notIn_sign (pe_ix ix_str (pv 0) pe_int (fun _ _ => rfl)) (pe_glob (v := .str "abcdefghijklmnopqrstuvwxyz") rfl T.cLETTERS.choose_spec ⟨_, rfl⟩) (by rfl))))))
      (pss_one (ps_ret pe_bl))
      pss_nil)
      (pss_one (ps_ret (pe_callB (cr_all rfl) (by rfl) T.all (by decide +kernel) (pa_cons (pe_lc (own := [("sign", 1)]) (g := gName 1) rfl sc_is_name.nd (pi_str (pv 0)) (blkOk_by (own := [("sign", 1)]) (N := N_is_name) (sc := defScope s_is_name) (by decide +kernel)) (fun _ _ _ _ _ => (pg_name (i := 1) sc_is_name.nd rfl (.inl rfl))) (fun _ _ _ _ _ => pts_nil) (fun _ _ _ _ _ => (pe_or (pe_cmpR op_in_sign (pv 1) (pe_glob (v := .str "abcdefghijklmnopqrstuvwxyz") rfl T.cLETTERS.choose_spec ⟨_, rfl⟩) (by rfl)) (pe_one (pe_cmpR op_in_sign (pv 1) (pe_glob (v := .str "0123456789") rfl T.cDIGITS.choose_spec ⟨_, rfl⟩) (by rfl)))))) pa_nil))))), ?_⟩
    rcases h with ⟨z, rfl, hz, ret⟩ | ⟨v, t, rfl, ty, kit, ret⟩
    · refine ⟨_, rfl, _, _, _, _, _, rfl, .ty _, .base (.str z), kit_ty (r := true) (by decide +kernel), _, rfl, ?_⟩
      refine ⟨_, rfl, _, rfl, hz, _, _, rfl, rfl, _, rfl, ?_⟩
      have no : nameOk z = false → ∀ H', Same H H' → Q (.bl false) H' := fun e H' sm => by
        have q := ret H' sm
        rw [e] at q
        exact q
      refine ite2 (fun h1 => ?_) (fun h1 => ?_)
      · have h1' : (1 : Int) ≤ z.length := of_decide_eq_true h1
        refine ⟨_, _, rfl, rfl, _, rfl, ?_⟩
        have l := str_len z
        obtain ⟨c, cs, hc⟩ : ∃ c cs, z.cps.toList = c :: cs := by
          cases e : z.cps.toList with
          | nil => rw [e] at l; simp at l; omega
          | cons c cs => exact ⟨c, cs, rfl⟩
        have un : nameOk z = (decide (z.length ≤ 8) && decide (c ∈ LETS.cps.toList) && z.cps.toList.all signOk) := by
          unfold nameOk
          rw [hc]
        refine ite2 (fun h2 => ?_) (fun h2 => ?_)
        · refine no ?_ H (Same.refl H)
          have : ¬ ((z.length : Int) ≤ 8) := nT h2
          rw [un, decide_eq_false (by omega)]
          rfl
        · have h8 : (z.length : Int) ≤ 8 := nF h2
          refine ⟨_, rfl, _, _, c, rfl, rfl, hz, by rw [hc]; exact atI_zero c cs, c, _, rfl, rfl, _, rfl, ?_⟩
          refine ite2 (fun h3 => ?_) (fun h3 => ?_)
          · refine no ?_ H (Same.refl H)
            rw [un, decide_eq_false (nT h3), Bool.and_false, Bool.false_and]
          · have h3' : c ∈ LETS.cps.toList := nF h3
            refine ⟨_, rfl, _, rfl, fun L hL => ?_⟩
            refine lc_it walk_str (fun i H' => H' = upd H L (.lst ((z.cps.toList.take i).map fun c => V.bl (signOk c)))) ?_ (fun _ _ _ _ => trivial) ?_ ?_
            · rfl
            · rintro i x H1 H2 hi rfl ⟨rfl, c, hc, rfl⟩
              have step : ∀ b, b = signOk c → ∃ xs, upd H L (.lst ((z.cps.toList.take i).map fun c => V.bl (signOk c))) L = some (.lst xs) ∧ xs.length < sizeLine ∧
                  upd (upd H L (.lst ((z.cps.toList.take i).map fun c => V.bl (signOk c)))) L (.lst (xs ++ [V.bl b])) = upd H L (.lst ((z.cps.toList.take (i + 1)).map fun c => V.bl (signOk c))) := by
                rintro b rfl
                refine ⟨_, upd_same, ?_, ?_⟩
                · rw [List.length_map, List.length_take]
                  have s2 : 8 < sizeLine := by decide
                  omega
                · rw [upd_upd, List.take_succ]
                  have e : z.cps.toList[i]? = some c := by simpa using hc
                  rw [e, List.map_append]
                  rfl
              refine ⟨rfl, _, rfl, c, _, rfl, rfl, _, rfl, ?_⟩
              refine ite2 (fun q => ?_) (fun q => ?_)
              · exact step true (by unfold signOk; rw [q]; rfl)
              · exact ⟨_, rfl, c, _, rfl, rfl, step _ (by unfold signOk; rw [Bool.eq_false_iff.mpr q]; rfl)⟩
            · rintro H1 rfl
              have e : List.take z.cps.size z.cps.toList = z.cps.toList := List.take_of_length_le (by simp)
              rw [e]
              refine ⟨_, z.cps.toList.map signOk, rfl, SqL.of (by rw [upd_same, List.map_map]; rfl), ?_⟩
              have q := ret _ (same_new (o := .lst (z.cps.toList.map fun c => V.bl (signOk c))) hL)
              rw [un, decide_eq_true (show z.length ≤ 8 by omega), decide_eq_true h3', Bool.true_and, Bool.true_and] at q
              rw [List.all_map]
              exact q
      · refine ⟨_, rfl, iteT (no ?_ H (Same.refl H))⟩
        have : ¬ ((1 : Int) ≤ z.length) := dF h1
        have l := str_len z
        unfold nameOk
        cases e : z.cps.toList with
        | nil => rfl
        | cons c cs => rw [e] at l; simp at l; omega
    · exact ⟨_, rfl, _, _, _, _, _, rfl, .ty _, ty, kit, _, rfl, ret⟩
end L

namespace Hv
open PySem L2
def lineOf (a b : Nat) : List Str := if Nat.gcd a b = 1 then (text a ++ SLASH ++ text b) :: (if a < b then [MARK ++ text a ++ SLASH ++ text b] else []) else []
def inner (b n : Nat) : List Str := (List.range n).flatMap fun a => lineOf a b
def outer (n : Nat) : List Str := (List.range n).flatMap fun i => inner (i + 1) (i + 2)
def BL : List Str := outer 12
def sp_bounds : Sp := fun vs H Q _ => vs = [] ∧ ∀ p H', H p = none → Same H H' → H' p = some (.lst (BL.map V.str)) → Q (.ref p) H'
def okLine (z : Str) : Bool :=
  match fracOf z with
  | some (a, b) => decide (Txt.split (Txt.replace z MARK (Str.ofString "")) SLASH = [text a, text b]) && (Txt.startswith z (Str.ofString "over") == isOver z) && decide (z.length ≤ 20) &&
      decide ((Txt.removeprefix z MARK).length ≤ 20) && (Txt.split (Txt.removeprefix z MARK) SLASH).all (fun p => decide (p.length ≤ 20)) && decide ((Txt.replace z MARK (Str.ofString "")).length ≤ 20)
  | none => false
theorem BL_ok : BL.all okLine = true := by decide +kernel
theorem BL_len : BL.length = 93 := by decide +kernel
theorem sz20 {n : Nat} (h : n ≤ 20) : n + 2 ≤ sizeLine := by
  have : 22 ≤ sizeLine := by decide
  omega
structure Line (z : Str) (a b : Nat) : Prop where
  fr : fracOf z = some (a, b)
  sp : Txt.split (Txt.replace z MARK (Str.ofString "")) SLASH = [text a, text b]
  ov : Txt.startswith z (Str.ofString "over") = isOver z
  ok : TextOk z
  len : z.length ≤ 20
  rl : (Txt.replace z MARK (Str.ofString "")).length ≤ 20
theorem okLine_line {z : Str} (h : okLine z = true) : ∃ a b, Line z a b := by
  unfold okLine at h
  cases e : fracOf z with
  | none => rw [e] at h; cases h
  | some p =>
    obtain ⟨a, b⟩ := p
    rw [e] at h
    simp only [Bool.and_eq_true, decide_eq_true_eq, beq_iff_eq, List.all_eq_true] at h
    obtain ⟨⟨⟨⟨⟨h1, h2⟩, h3⟩, h4⟩, h5⟩, h6⟩ := h
    exact ⟨a, b, e, h1, h2, ⟨sz20 h3, sz20 h4, fun p hp => by have := sz20 (h5 p hp); omega⟩, h3, h6⟩
theorem line_of {z : Str} (h : z ∈ BL) : ∃ a b, Line z a b := okLine_line (List.all_eq_true.mp BL_ok z h)
end Hv

namespace Hv
open PySem L2
/-- a text that is a bound -/
def BT (z : Str) : Prop := TextOk z ∧ (fracOf z).isSome = true
def endsV : Option Str → V
  | none => .non
  | some z => .str z
/-- the parts of a kind -/
structure Kd where
  name : Str
  talks : Int
  needs : V
  closing : Option (Int × Str)
  ends : Option Str
def ClosAt (K : PySem.W.Frag) (H : Hp) : Option (Int × Str) → V → Prop
  | none, v => v = .non
  | some (i, z), v => ∃ a, v = .ref a ∧ H a = some (.tup [.int i, .str z])
structure Kd.Ok (k : Kd) : Prop where
  name : nameOk k.name = true
  len : k.name.length ≤ sizeLine
  talks : 0 ≤ k.talks ∧ k.talks ≤ 3
  needs : (∃ i, k.needs = .int i ∧ 1 ≤ i ∧ i ≤ 9) ∨ ∃ z, k.needs = .str z ∧ BT z
  closing : ∀ i z, k.closing = some (i, z) → 0 ≤ i ∧ i ≤ 3 ∧ BT z
  ends : ∀ z, k.ends = some z → BT z
def KindAt (K : PySem.W.Frag) (C : Addr) (H : Hp) (a : Addr) (k : Kd) : Prop :=
  ∃ dx pt cl, H a = some (.ins C dx [("parts", .ref pt)]) ∧ H pt = some (.tup [.str k.name, .int k.talks, k.needs, cl, endsV k.ends]) ∧ ClosAt K H k.closing cl
theorem ClosAt.same {K : PySem.W.Frag} {H H' : Hp} {c : Option (Int × Str)} {v : V} (h : ClosAt K H c v) (e : Same H H') : ClosAt K H' c v := by
  cases c with
  | none => exact h
  | some p =>
    obtain ⟨a, h1, h2⟩ := h
    exact ⟨a, h1, e _ _ h2⟩
theorem KindAt.same {K : PySem.W.Frag} {C : Addr} {H H' : Hp} {a : Addr} {k : Kd} (h : KindAt K C H a k) (e : Same H H') : KindAt K C H' a k := by
  obtain ⟨dx, pt, cl, h1, h2, h3⟩ := h
  exact ⟨dx, pt, cl, e _ _ h1, e _ _ h2, h3.same e⟩
/-! promises -/
def sp_is_needs (K : PySem.W.Frag) : Sp := fun vs H Q _ =>
  (∃ i : Int, vs = [.int i] ∧ Q (.bl (decide (1 ≤ i) && decide (i ≤ 9))) H) ∨
  (∃ z : Str, vs = [.str z] ∧ TextOk z ∧ ∀ H', Same H H' → Q (.bl (fracOf z).isSome) H') ∨
  ∃ (v : V) (t : Value) (b1 b2 : Bool), vs = [v] ∧ TyX K H v t ∧ PySem.W.kitOne K t (.type "str") = some false ∧ PySem.W.kitOne K t (.type "int") = some b1 ∧
    PySem.W.kitOne K t (.type "bool") = some b2 ∧ (b1 && !b2) = false ∧ Q (.bl false) H
def sp_is_closing (K : PySem.W.Frag) : Sp := fun vs H Q _ =>
  (vs = [.non] ∧ Q (.bl true) H) ∨
  (∃ (a : Addr) (i : Int) (z : Str), vs = [.ref a] ∧ H a = some (.tup [.int i, .str z]) ∧ TextOk z ∧ ∀ H', Same H H' → Q (.bl (decide (0 ≤ i) && decide (i ≤ 3) && (fracOf z).isSome)) H')
def sp_kind_init (K : PySem.W.Frag) (C : Addr) : Sp := fun vs H Q _ => ∃ (x dx : Addr) (k : Kd) (cl : V), vs = [.ref x, .str k.name, .int k.talks, k.needs, cl, endsV k.ends] ∧ k.Ok ∧ ClosAt K H k.closing cl ∧
  H x = some (.ins C dx []) ∧ H dx = some (.own x) ∧ dx ≠ x ∧ ∀ H', (∀ b o, b ≠ x → H b = some o → H' b = some o) → KindAt K C H' x k → Q .non H'
end Hv
namespace L
open PySem L2 Hv
variable {P : Program} {w : World} {K : PySem.W.Frag} {mg : Str → Option Value} {base : Heap}
abbrev s_is_needs : Stmt := top 52
abbrev N_is_needs : List Str := ["value"]
abbrev P_is_needs : List Str := ["value"]
theorem sc_is_needs : FnScope N_is_needs P_is_needs (defScope s_is_needs) := ⟨rfl, rfl, rfl, by decide +kernel, rfl, by decide +kernel, by decide +kernel⟩
theorem ok_is_needs {f f1 f2 : Addr} {fd fd1 fd2 : FuncData} (D : DefAt K mg "is_needs" s_is_needs P_is_needs f fd) (T : Txt K mg)
    (D_is_bound : DefAt K mg "is_bound" s_is_bound P_is_bound f1 fd1) (G_is_bound : FnOk P w K mg base CX0 3 f1 fd1 P_is_bound (sp_is_bound K))
    (D_is_integer : DefAt K mg "is_integer" s_is_integer P_is_integer f2 fd2) (G_is_integer : FnOk P w K mg base CX0 1 f2 fd2 P_is_integer (sp_is_integer K)) :
    FnOk P w K mg base CX0 4 f fd P_is_needs (sp_is_needs K) := by
  refine D.fn.ok sc_is_needs (fun vs H Q E h => ?_) (fun cdv A outer s H vs Q E hr h => ?_)
  · rcases h with ⟨z, rfl, _⟩ | ⟨v, rfl, _⟩ | ⟨v, t, b1, b2, rfl, _⟩ <;> rfl
  · refine ⟨_, (pss_one (ps_ret (pe_or (pe_call G_is_bound (hr.mono (by decide)) rfl D_is_bound.mg D_is_bound.fn.kp D_is_bound.bd .nil pass0 (pa_cons (pv 0) pa_nil)) (pe_one (pe_and (pe_call G_is_integer (hr.mono (by decide)) rfl D_is_integer.mg D_is_integer.fn.kp D_is_integer.bd .nil pass0 (pa_cons (pv 0) pa_nil)) (pe_one (pe_chain op_le op_le pe_int (pv 0) (pe_glob (v := .int 9) rfl T.cMOST_NEEDS.choose_spec ⟨_, rfl⟩)))))))), ?_⟩
    rcases h with ⟨i, rfl, ret⟩ | ⟨z, rfl, ok, ret⟩ | ⟨v, t, b1, b2, rfl, ty, ks, k1, k2, kb, ret⟩
    · refine ⟨_, rfl, .inr ⟨_, _, rfl, .base (.int _), kit_ty (r := false) (by decide +kernel), _, rfl, ?_⟩⟩
      refine iteF ⟨_, rfl, _, _, true, false, rfl, .base (.int _), kit_ty (by decide +kernel), kit_ty (by decide +kernel), _, rfl, ?_⟩
      refine iteT ⟨_, rfl, _, _, rfl, rfl, _, rfl, ?_⟩
      cases h1 : decide (1 ≤ i) with
      | true =>
        rw [h1] at ret
        exact iteT ⟨_, _, rfl, rfl, ret⟩
      | false =>
        rw [h1] at ret
        exact iteF ret
    · refine ⟨_, rfl, .inl ⟨z, rfl, ok, fun H1 s1 => ⟨_, rfl, ?_⟩⟩⟩
      have q := ret H1 s1
      cases h1 : (fracOf z).isSome with
      | true =>
        rw [h1] at q
        exact iteT q
      | false =>
        rw [h1] at q
        exact iteF ⟨_, rfl, _, _, false, false, rfl, .base (.str _), kit_ty (by decide +kernel), kit_ty (by decide +kernel), _, rfl, iteF q⟩
    · refine ⟨_, rfl, .inr ⟨_, _, rfl, ty, ks, _, rfl, ?_⟩⟩
      refine iteF ⟨_, rfl, _, _, b1, b2, rfl, ty, k1, k2, _, rfl, ?_⟩
      rw [kb]
      exact iteF ret
abbrev s_is_closing : Stmt := top 53
abbrev N_is_closing : List Str := ["value"]
abbrev P_is_closing : List Str := ["value"]
theorem sc_is_closing : FnScope N_is_closing P_is_closing (defScope s_is_closing) := ⟨rfl, rfl, rfl, by decide +kernel, rfl, by decide +kernel, by decide +kernel⟩
theorem ok_is_closing {f f1 f2 : Addr} {fd fd1 fd2 : FuncData} (D : DefAt K mg "is_closing" s_is_closing P_is_closing f fd) (T : Txt K mg)
    (D_is_bound : DefAt K mg "is_bound" s_is_bound P_is_bound f1 fd1) (G_is_bound : FnOk P w K mg base CX0 3 f1 fd1 P_is_bound (sp_is_bound K))
    (D_is_integer : DefAt K mg "is_integer" s_is_integer P_is_integer f2 fd2) (G_is_integer : FnOk P w K mg base CX0 1 f2 fd2 P_is_integer (sp_is_integer K)) :
    FnOk P w K mg base CX0 4 f fd P_is_closing (sp_is_closing K) := by
  refine D.fn.ok sc_is_closing (fun vs H Q E h => ?_) (fun cdv A outer s H vs Q E hr h => ?_)
  · rcases h with ⟨rfl, _⟩ | ⟨a, i, z, rfl, _⟩ <;> rfl
  · refine ⟨_, (pss_cons (ps_if (pt_cmpR op_isN (pv 0) pe_non (nomark _))
      (pss_one (ps_ret pe_bl))
      pss_nil)
      (pss_cons (ps_if (PW.pt (pw_or (pt_not (pt_val (pe_callB call_isi (by rfl) T.isinstance (by decide +kernel) (pa_cons (pv 0) (pa_cons (pe_bltn (v := .ty "tuple") (u := .type "tuple") (by rfl) T.tuple (by decide +kernel) rfl) pa_nil))))) (pw_or1 (pt_cmpR op_ne (pe_callB call_len_seq (by rfl) T.len (by decide +kernel) (pa_cons (pv 0) pa_nil)) pe_int (nomark _)))))
      (pss_one (ps_ret pe_bl))
      pss_nil)
      (pss_one (ps_ret (pe_and (pe_call G_is_integer (hr.mono (by decide)) rfl D_is_integer.mg D_is_integer.fn.kp D_is_integer.bd .nil pass0 (pa_cons (pe_ix ix_tup (pv 0) pe_int (fun _ _ => rfl)) pa_nil)) (pe_and (pe_chain op_le op_le pe_int (pe_ix ix_tup (pv 0) pe_int (fun _ _ => rfl)) (pe_glob (v := .int 3) rfl T.cMOST_AFTER.choose_spec ⟨_, rfl⟩)) (pe_one (pe_call G_is_bound (hr.mono (by decide)) rfl D_is_bound.mg D_is_bound.fn.kp D_is_bound.bd .nil pass0 (pa_cons (pe_ix ix_tup (pv 0) pe_int (fun _ _ => rfl)) pa_nil))))))))), ?_⟩
    rcases h with ⟨rfl, ret⟩ | ⟨a, i, z, rfl, ha, ok, ret⟩
    · exact ⟨_, rfl, rfl, _, rfl, ifT rfl ret⟩
    · refine ⟨_, rfl, rfl, _, rfl, ifF (by intro q; cases q) ?_⟩
      refine ⟨_, rfl, _, _, _, _, _, rfl, .ty _, .base (.tup ha), kit_ty (r := true) (by decide +kernel), _, rfl, ?_⟩
      refine ⟨_, rfl, _, _, rfl, .inr (SqT.of ha), rfl, _, rfl, ?_⟩
      refine ite2 (fun q => absurd rfl (nT q)) (fun _ => ?_)
      refine ⟨_, rfl, _, _, _, _, rfl, rfl, SqT.of ha, rfl, _, _, true, false, rfl, .base (.int _), kit_ty (by decide +kernel), kit_ty (by decide +kernel), _, rfl, ?_⟩
      refine iteT ⟨_, rfl, _, _, _, _, rfl, rfl, SqT.of ha, rfl, _, _, rfl, rfl, _, rfl, ?_⟩
      cases h1 : decide (0 ≤ i) with
      | false =>
        have q := ret H (Same.refl H)
        rw [h1] at q
        exact iteF ⟨_, rfl, iteF q⟩
      | true =>
        refine iteT ⟨_, _, rfl, rfl, _, rfl, ?_⟩
        cases h2 : decide (i ≤ 3) with
        | false =>
          have q := ret H (Same.refl H)
          rw [h1, h2] at q
          exact iteF q
        | true =>
          refine iteT ⟨_, rfl, _, _, _, _, rfl, rfl, SqT.of ha, rfl, .inl ⟨z, rfl, ok, fun H1 s1 => ?_⟩⟩
          have q := ret H1 s1
          rw [h1, h2] at q
          exact q
abbrev s_Kind_init : Stmt := inClass (top 55) 0
abbrev N_Kind_init : List Str := ["self", "name", "talks", "needs", "closing", "ends"]
abbrev P_Kind_init : List Str := ["self", "name", "talks", "needs", "closing", "ends"]
theorem sc_Kind_init : FnScope N_Kind_init P_Kind_init (defScope s_Kind_init) := ⟨rfl, rfl, rfl, by decide +kernel, rfl, by decide +kernel, by decide +kernel⟩
theorem ok_Kind_init {C f f1 f2 f3 f4 f5 : Addr} {fd fd1 fd2 fd3 fd4 fd5 : FuncData} {kws : List (Str × V)} (D : FunD K "__init__" "Kind.__init__" (defArgs s_Kind_init) (defBody s_Kind_init) (defScope s_Kind_init) [] kws f fd) (T : Txt K mg) (c : Cls K C) (na : NoAttr K C "parts")
    (D_is_name : DefAt K mg "is_name" s_is_name P_is_name f1 fd1) (G_is_name : FnOk P w K mg base CX0 1 f1 fd1 P_is_name (sp_is_name K))
    (D_is_bound : DefAt K mg "is_bound" s_is_bound P_is_bound f2 fd2) (G_is_bound : FnOk P w K mg base CX0 3 f2 fd2 P_is_bound (sp_is_bound K))
    (D_is_integer : DefAt K mg "is_integer" s_is_integer P_is_integer f3 fd3) (G_is_integer : FnOk P w K mg base CX0 1 f3 fd3 P_is_integer (sp_is_integer K))
    (D_is_needs : DefAt K mg "is_needs" s_is_needs P_is_needs f4 fd4) (G_is_needs : FnOk P w K mg base CX0 4 f4 fd4 P_is_needs (sp_is_needs K))
    (D_is_closing : DefAt K mg "is_closing" s_is_closing P_is_closing f5 fd5) (G_is_closing : FnOk P w K mg base CX0 4 f5 fd5 P_is_closing (sp_is_closing K)) :
    FnOk P w K mg base CX0 5 f fd P_Kind_init (sp_kind_init K C) := by
  refine D.ok sc_Kind_init (fun vs H Q E h => ?_) (fun cdv A outer s H vs Q E hr h => ?_)
  · obtain ⟨x, dx, k, cl, rfl, _⟩ := h
    rfl
  · obtain ⟨x, dx, k, cl, rfl, ok, hcl, hx, hd, nd, ret⟩ := h
    refine ⟨_, (pss_cons (ps_if (pt_not (pt_val (pe_call G_is_name (hr.mono (by decide)) rfl D_is_name.mg D_is_name.fn.kp D_is_name.bd .nil pass0 (pa_cons (pv 1) pa_nil))))
      (pss_one ps_never)
      pss_nil)
      (pss_cons (ps_if (PW.pt (pw_or (pt_not (pt_val (pe_call G_is_integer (hr.mono (by decide)) rfl D_is_integer.mg D_is_integer.fn.kp D_is_integer.bd .nil pass0 (pa_cons (pv 2) pa_nil)))) (pw_or1 (pt_not (pt_chain op_le op_le pe_int (pv 2) (pe_glob (v := .int 3) rfl T.cMOST_TALKS.choose_spec ⟨_, rfl⟩))))))
      (pss_one ps_never)
      pss_nil)
      (pss_cons (ps_if (pt_not (pt_val (pe_call G_is_needs (hr.mono (by decide)) rfl D_is_needs.mg D_is_needs.fn.kp D_is_needs.bd .nil pass0 (pa_cons (pv 3) pa_nil))))
      (pss_one ps_never)
      pss_nil)
      (pss_cons (ps_if (pt_not (pt_val (pe_call G_is_closing (hr.mono (by decide)) rfl D_is_closing.mg D_is_closing.fn.kp D_is_closing.bd .nil pass0 (pa_cons (pv 4) pa_nil))))
      (pss_one ps_never)
      pss_nil)
      (pss_cons (ps_if (PW.pt (pw_and (pt_cmpR op_notN (pv 5) pe_non (nomark _)) (pw_and1 (pt_not (pt_val (pe_call G_is_bound (hr.mono (by decide)) rfl D_is_bound.mg D_is_bound.fn.kp D_is_bound.bd .nil pass0 (pa_cons (pv 5) pa_nil)))))))
      (pss_one ps_never)
      pss_nil)
      (pss_one (ps_fld (pv 0) (pe_tup (pa_cons (pv 1) (pa_cons (pv 2) (pa_cons (pv 3) (pa_cons (pv 4) (pa_cons (pv 5) pa_nil)))))) rfl))))))), ?_⟩
    refine join_ifs (fun b H' => b = false ∧ Same H H') (fun Q' fin => ?_) ?_
    · refine ⟨_, rfl, .inl ⟨k.name, rfl, ok.len, fun H1 s1 => ?_⟩⟩
      rw [ok.name]
      exact ⟨_, rfl, fin _ _ ⟨rfl, s1⟩⟩
    rintro _ H1 ⟨rfl, s1⟩
    dsimp only [tNext]
    refine join_ifs (fun b H' => b = false ∧ Same H H') (fun Q' fin => ?_) ?_
    · refine ⟨_, rfl, _, _, true, false, rfl, .base (.int _), kit_ty (by decide +kernel), kit_ty (by decide +kernel), _, rfl, ?_⟩
      refine ⟨_, rfl, _, _, rfl, rfl, _, rfl, ?_⟩
      refine ifT ok.talks.1 ⟨_, _, rfl, rfl, _, rfl, ?_⟩
      refine fin _ _ ⟨?_, s1⟩
      rw [decide_eq_true ok.talks.2]
      rfl
    rintro _ H2 ⟨rfl, s2⟩
    dsimp only [tNext]
    refine join_ifs (fun b H' => b = false ∧ Same H H') (fun Q' fin => ?_) ?_
    · rcases ok.needs with ⟨i, e, h1, h2⟩ | ⟨z, e, bt, bs⟩
      · refine ⟨_, rfl, .inl ⟨i, by rw [e]; rfl, _, rfl, fin _ _ ⟨?_, s2⟩⟩⟩
        rw [decide_eq_true h1, decide_eq_true h2]
        rfl
      · refine ⟨_, rfl, .inr (.inl ⟨z, by rw [e]; rfl, bt, fun H3 s3 => ⟨_, rfl, fin _ _ ⟨?_, s2.trans s3⟩⟩⟩)⟩
        rw [bs]
        rfl
    rintro _ H3 ⟨rfl, s3⟩
    dsimp only [tNext]
    refine join_ifs (fun b H' => b = false ∧ Same H H') (fun Q' fin => ?_) ?_
    · cases e : k.closing with
      | none =>
        rw [e] at hcl
        cases (show cl = .non from hcl)
        exact ⟨_, rfl, .inl ⟨rfl, _, rfl, fin _ _ ⟨rfl, s3⟩⟩⟩
      | some p =>
        obtain ⟨i, z⟩ := p
        rw [e] at hcl
        obtain ⟨a, rfl, ha⟩ := hcl
        obtain ⟨h1, h2, bt, bs⟩ := ok.closing i z e
        refine ⟨_, rfl, .inr ⟨a, i, z, rfl, s3 _ _ ha, bt, fun H4 s4 => ⟨_, rfl, fin _ _ ⟨?_, s3.trans s4⟩⟩⟩⟩
        rw [decide_eq_true h1, decide_eq_true h2, bs]
        rfl
    rintro _ H4 ⟨rfl, s4⟩
    dsimp only [tNext]
    refine join_ifs (fun b H' => b = false ∧ Same H H') (fun Q' fin => ?_) ?_
    · cases e : k.ends with
      | none => exact ⟨_, rfl, rfl, _, rfl, fin _ _ ⟨rfl, s4⟩⟩
      | some z =>
        obtain ⟨bt, bs⟩ := ok.ends z e
        refine ⟨_, rfl, rfl, _, rfl, ?_⟩
        refine ⟨_, rfl, .inl ⟨z, rfl, bt, fun H5 s5 => ⟨_, rfl, fin _ _ ⟨?_, s4.trans s5⟩⟩⟩⟩
        rw [bs]
        rfl
    rintro _ H5 ⟨rfl, s5⟩
    dsimp only [tNext]
    refine ⟨_, rfl, _, rfl, _, rfl, _, rfl, _, rfl, by show 5 ≤ sizeLine; decide, fun t ht => ?_⟩
    have tx : t ≠ x := (ne_of_none (s5 _ _ hx) ht).symm
    refine ⟨_, rfl, x, C, dx, [], rfl, same_new ht _ _ (s5 _ _ hx), c, na, by decide, ?_⟩
    refine ret _ (fun b o n e => ?_) ⟨dx, t, cl, upd_same, by rw [upd_ne tx, upd_same], ?_⟩
    · rw [upd_ne n]
      exact same_new ht _ _ (s5 _ _ e)
    · cases e : k.closing with
      | none =>
        rw [e] at hcl
        exact hcl
      | some p =>
        rw [e] at hcl
        obtain ⟨a, rfl, ha⟩ := hcl
        refine ⟨a, rfl, ?_⟩
        rw [upd_ne (fun q => by rw [q, hx] at ha; cases ha)]
        exact same_new ht _ _ (s5 _ _ ha)
end L

namespace Hv
open PySem L2
/-- one of the parts of an instance -/
def sp_part (C : Addr) (i : Int) : Sp := fun vs H Q _ => ∃ (a dx pt : Addr) (xs : List V) (v : V), vs = [.ref a] ∧ H a = some (.ins C dx [("parts", .ref pt)]) ∧ H pt = some (.tup xs) ∧ atI xs i = some v ∧ Q v H
end Hv
namespace L
open PySem L2 Hv
variable {P : Program} {w : World} {K : PySem.W.Frag} {mg : Str → Option Value} {base : Heap}
abbrev s_Kind_name : Stmt := inClass (top 55) 1
abbrev N_Kind_name : List Str := ["self"]
abbrev P_Kind_name : List Str := ["self"]
theorem sc_Kind_name : FnScope N_Kind_name P_Kind_name (defScope s_Kind_name) := ⟨rfl, rfl, rfl, by decide +kernel, rfl, by decide +kernel, by decide +kernel⟩
theorem ok_Kind_name {C f : Addr} {fd : FuncData} (D : PropAt K C "name" "Kind.name" s_Kind_name P_Kind_name f fd) (c : Cls K C) (na : NoAttr K C "parts") : FnOk P w K mg base CX0 1 f fd P_Kind_name (sp_part C 0) := by
  refine D.fn.ok sc_Kind_name (fun vs H Q E h => ?_) (fun cdv A outer s H vs Q E hr h => ?_)
  · obtain ⟨a, dx, pt, xs, v, rfl, _⟩ := h
    rfl
  · obtain ⟨a, dx, pt, xs, v, rfl, ha, hp, hv, ret⟩ := h
    refine ⟨_, (pss_one (ps_ret (pe_ix ix_tup (pe_fld (pv 0) rfl) pe_int (fun _ _ => rfl)))), ?_⟩
    exact ⟨_, rfl, a, C, dx, _, _, rfl, ha, c, na, rfl, pt, xs, _, v, rfl, rfl, SqT.of hp, hv, ret⟩
abbrev s_Kind_talks : Stmt := inClass (top 55) 2
abbrev N_Kind_talks : List Str := ["self"]
abbrev P_Kind_talks : List Str := ["self"]
theorem sc_Kind_talks : FnScope N_Kind_talks P_Kind_talks (defScope s_Kind_talks) := ⟨rfl, rfl, rfl, by decide +kernel, rfl, by decide +kernel, by decide +kernel⟩
theorem ok_Kind_talks {C f : Addr} {fd : FuncData} (D : PropAt K C "talks" "Kind.talks" s_Kind_talks P_Kind_talks f fd) (c : Cls K C) (na : NoAttr K C "parts") : FnOk P w K mg base CX0 1 f fd P_Kind_talks (sp_part C 1) := by
  refine D.fn.ok sc_Kind_talks (fun vs H Q E h => ?_) (fun cdv A outer s H vs Q E hr h => ?_)
  · obtain ⟨a, dx, pt, xs, v, rfl, _⟩ := h
    rfl
  · obtain ⟨a, dx, pt, xs, v, rfl, ha, hp, hv, ret⟩ := h
    refine ⟨_, (pss_one (ps_ret (pe_ix ix_tup (pe_fld (pv 0) rfl) pe_int (fun _ _ => rfl)))), ?_⟩
    exact ⟨_, rfl, a, C, dx, _, _, rfl, ha, c, na, rfl, pt, xs, _, v, rfl, rfl, SqT.of hp, hv, ret⟩
abbrev s_Kind_needs : Stmt := inClass (top 55) 3
abbrev N_Kind_needs : List Str := ["self"]
abbrev P_Kind_needs : List Str := ["self"]
theorem sc_Kind_needs : FnScope N_Kind_needs P_Kind_needs (defScope s_Kind_needs) := ⟨rfl, rfl, rfl, by decide +kernel, rfl, by decide +kernel, by decide +kernel⟩
theorem ok_Kind_needs {C f : Addr} {fd : FuncData} (D : PropAt K C "needs" "Kind.needs" s_Kind_needs P_Kind_needs f fd) (c : Cls K C) (na : NoAttr K C "parts") : FnOk P w K mg base CX0 1 f fd P_Kind_needs (sp_part C 2) := by
  refine D.fn.ok sc_Kind_needs (fun vs H Q E h => ?_) (fun cdv A outer s H vs Q E hr h => ?_)
  · obtain ⟨a, dx, pt, xs, v, rfl, _⟩ := h
    rfl
  · obtain ⟨a, dx, pt, xs, v, rfl, ha, hp, hv, ret⟩ := h
    refine ⟨_, (pss_one (ps_ret (pe_ix ix_tup (pe_fld (pv 0) rfl) pe_int (fun _ _ => rfl)))), ?_⟩
    exact ⟨_, rfl, a, C, dx, _, _, rfl, ha, c, na, rfl, pt, xs, _, v, rfl, rfl, SqT.of hp, hv, ret⟩
abbrev s_Kind_closing : Stmt := inClass (top 55) 4
abbrev N_Kind_closing : List Str := ["self"]
abbrev P_Kind_closing : List Str := ["self"]
theorem sc_Kind_closing : FnScope N_Kind_closing P_Kind_closing (defScope s_Kind_closing) := ⟨rfl, rfl, rfl, by decide +kernel, rfl, by decide +kernel, by decide +kernel⟩
theorem ok_Kind_closing {C f : Addr} {fd : FuncData} (D : PropAt K C "closing" "Kind.closing" s_Kind_closing P_Kind_closing f fd) (c : Cls K C) (na : NoAttr K C "parts") : FnOk P w K mg base CX0 1 f fd P_Kind_closing (sp_part C 3) := by
  refine D.fn.ok sc_Kind_closing (fun vs H Q E h => ?_) (fun cdv A outer s H vs Q E hr h => ?_)
  · obtain ⟨a, dx, pt, xs, v, rfl, _⟩ := h
    rfl
  · obtain ⟨a, dx, pt, xs, v, rfl, ha, hp, hv, ret⟩ := h
    refine ⟨_, (pss_one (ps_ret (pe_ix ix_tup (pe_fld (pv 0) rfl) pe_int (fun _ _ => rfl)))), ?_⟩
    exact ⟨_, rfl, a, C, dx, _, _, rfl, ha, c, na, rfl, pt, xs, _, v, rfl, rfl, SqT.of hp, hv, ret⟩
abbrev s_Kind_ends : Stmt := inClass (top 55) 5
abbrev N_Kind_ends : List Str := ["self"]
abbrev P_Kind_ends : List Str := ["self"]
theorem sc_Kind_ends : FnScope N_Kind_ends P_Kind_ends (defScope s_Kind_ends) := ⟨rfl, rfl, rfl, by decide +kernel, rfl, by decide +kernel, by decide +kernel⟩
theorem ok_Kind_ends {C f : Addr} {fd : FuncData} (D : PropAt K C "ends" "Kind.ends" s_Kind_ends P_Kind_ends f fd) (c : Cls K C) (na : NoAttr K C "parts") : FnOk P w K mg base CX0 1 f fd P_Kind_ends (sp_part C 4) := by
  refine D.fn.ok sc_Kind_ends (fun vs H Q E h => ?_) (fun cdv A outer s H vs Q E hr h => ?_)
  · obtain ⟨a, dx, pt, xs, v, rfl, _⟩ := h
    rfl
  · obtain ⟨a, dx, pt, xs, v, rfl, ha, hp, hv, ret⟩ := h
    refine ⟨_, (pss_one (ps_ret (pe_ix ix_tup (pe_fld (pv 0) rfl) pe_int (fun _ _ => rfl)))), ?_⟩
    exact ⟨_, rfl, a, C, dx, _, _, rfl, ha, c, na, rfl, pt, xs, _, v, rfl, rfl, SqT.of hp, hv, ret⟩
abbrev s_Row_outer : Stmt := inClass (top 56) 1
abbrev N_Row_outer : List Str := ["self"]
abbrev P_Row_outer : List Str := ["self"]
theorem sc_Row_outer : FnScope N_Row_outer P_Row_outer (defScope s_Row_outer) := ⟨rfl, rfl, rfl, by decide +kernel, rfl, by decide +kernel, by decide +kernel⟩
theorem ok_Row_outer {C f : Addr} {fd : FuncData} (D : PropAt K C "outer" "Row.outer" s_Row_outer P_Row_outer f fd) (c : Cls K C) (na : NoAttr K C "parts") : FnOk P w K mg base CX0 1 f fd P_Row_outer (sp_part C 0) := by
  refine D.fn.ok sc_Row_outer (fun vs H Q E h => ?_) (fun cdv A outer s H vs Q E hr h => ?_)
  · obtain ⟨a, dx, pt, xs, v, rfl, _⟩ := h
    rfl
  · obtain ⟨a, dx, pt, xs, v, rfl, ha, hp, hv, ret⟩ := h
    refine ⟨_, (pss_one (ps_ret (pe_ix ix_tup (pe_fld (pv 0) rfl) pe_int (fun _ _ => rfl)))), ?_⟩
    exact ⟨_, rfl, a, C, dx, _, _, rfl, ha, c, na, rfl, pt, xs, _, v, rfl, rfl, SqT.of hp, hv, ret⟩
abbrev s_Row_inner : Stmt := inClass (top 56) 2
abbrev N_Row_inner : List Str := ["self"]
abbrev P_Row_inner : List Str := ["self"]
theorem sc_Row_inner : FnScope N_Row_inner P_Row_inner (defScope s_Row_inner) := ⟨rfl, rfl, rfl, by decide +kernel, rfl, by decide +kernel, by decide +kernel⟩
theorem ok_Row_inner {C f : Addr} {fd : FuncData} (D : PropAt K C "inner" "Row.inner" s_Row_inner P_Row_inner f fd) (c : Cls K C) (na : NoAttr K C "parts") : FnOk P w K mg base CX0 1 f fd P_Row_inner (sp_part C 1) := by
  refine D.fn.ok sc_Row_inner (fun vs H Q E h => ?_) (fun cdv A outer s H vs Q E hr h => ?_)
  · obtain ⟨a, dx, pt, xs, v, rfl, _⟩ := h
    rfl
  · obtain ⟨a, dx, pt, xs, v, rfl, ha, hp, hv, ret⟩ := h
    refine ⟨_, (pss_one (ps_ret (pe_ix ix_tup (pe_fld (pv 0) rfl) pe_int (fun _ _ => rfl)))), ?_⟩
    exact ⟨_, rfl, a, C, dx, _, _, rfl, ha, c, na, rfl, pt, xs, _, v, rfl, rfl, SqT.of hp, hv, ret⟩
abbrev s_Row_amount : Stmt := inClass (top 56) 3
abbrev N_Row_amount : List Str := ["self"]
abbrev P_Row_amount : List Str := ["self"]
theorem sc_Row_amount : FnScope N_Row_amount P_Row_amount (defScope s_Row_amount) := ⟨rfl, rfl, rfl, by decide +kernel, rfl, by decide +kernel, by decide +kernel⟩
theorem ok_Row_amount {C f : Addr} {fd : FuncData} (D : PropAt K C "amount" "Row.amount" s_Row_amount P_Row_amount f fd) (c : Cls K C) (na : NoAttr K C "parts") : FnOk P w K mg base CX0 1 f fd P_Row_amount (sp_part C 2) := by
  refine D.fn.ok sc_Row_amount (fun vs H Q E h => ?_) (fun cdv A outer s H vs Q E hr h => ?_)
  · obtain ⟨a, dx, pt, xs, v, rfl, _⟩ := h
    rfl
  · obtain ⟨a, dx, pt, xs, v, rfl, ha, hp, hv, ret⟩ := h
    refine ⟨_, (pss_one (ps_ret (pe_ix ix_tup (pe_fld (pv 0) rfl) pe_int (fun _ _ => rfl)))), ?_⟩
    exact ⟨_, rfl, a, C, dx, _, _, rfl, ha, c, na, rfl, pt, xs, _, v, rfl, rfl, SqT.of hp, hv, ret⟩
end L

namespace Hv
open PySem L2
/-- what the text has of a class with parts -/
structure OwnTxt (K : PySem.W.Frag) (mg : Str → Option Value) (x : Str) (C : Addr) : Prop where
  mg : mg x = some (.ref C)
  c : Cls K C
  na : NoAttr K C "parts"
  ha : PySem.W.findIn K (.ref C) "__class__" = some (some (.builtin "object.__class__"))
  hn : PySem.W.specialIn K (.builtin "object.__class__") "__get__" = some (some (.builtin "getset_descriptor.__get__"))
  htk : PySem.W.takesIn K (.builtin "object.__class__") = some true
  hm : PySem.W.mroIn K C (.type "object") = some true
  k1 : PySem.W.kitOne K (.ref C) (.ref C) = some true
  kp : PySem.W.keepIn K (.ref C) = true
/-- == of a class with parts -/
def sp_part_eq (K : PySem.W.Frag) (C : Addr) : Sp := fun vs H Q _ => ∃ (a dx pt : Addr) (y : V), vs = [.ref a, y] ∧ H a = some (.ins C dx [("parts", .ref pt)]) ∧
  ((∃ (b dy qt : Addr) (d e : PyData), y = .ref b ∧ H b = some (.ins C dy [("parts", .ref qt)]) ∧ Dp K H (.ref pt) d ∧ Dp K H (.ref qt) e ∧ SeqAt.shaped d = true ∧ SeqAt.shaped e = true ∧ Q (.bl (PyData.eqv d e)) H) ∨
   ∃ t, TyX K H y t ∧ PySem.W.kitOne K t (.ref C) = some false ∧ Q (.bl false) H)
end Hv
namespace L
open PySem L2 Hv
variable {P : Program} {w : World} {K : PySem.W.Frag} {mg : Str → Option Value} {base : Heap}
abbrev s_Kind_eq : Stmt := inClass (top 55) 6
abbrev N_Kind_eq : List Str := ["self", "other"]
abbrev P_Kind_eq : List Str := ["self", "other"]
theorem sc_Kind_eq : FnScope N_Kind_eq P_Kind_eq (defScope s_Kind_eq) := ⟨rfl, rfl, rfl, by decide +kernel, rfl, by decide +kernel, by decide +kernel⟩
theorem ok_Kind_eq {C f : Addr} {fd : FuncData} (D : MethAt K C "__eq__" "Kind.__eq__" s_Kind_eq P_Kind_eq f fd) (T : Txt K mg) (TL : OwnTxt K mg "Kind" C) : FnOk P w K mg base CX0 1 f fd P_Kind_eq (sp_part_eq K C) := by
  refine D.fn.ok sc_Kind_eq (fun vs H Q E h => ?_) (fun cdv A outer s H vs Q E hr h => ?_)
  · obtain ⟨a, dx, pt, y, rfl, _⟩ := h
    rfl
  · obtain ⟨a, dx, pt, y, rfl, ha, h⟩ := h
    refine ⟨_, (pss_one (ps_ret (pe_and (pe_callB call_isi (by rfl) T.isinstance (by decide +kernel) (pa_cons (pv 1) (pa_cons (pe_glob (v := .ref C) rfl TL.mg rfl) pa_nil))) (pe_one (pe_cmpR (op_eqD hr.units) (pe_fld (pv 0) rfl) (pe_fld (pv 1) rfl) (nomark _)))))), ?_⟩
    rcases h with ⟨b, dy, qt, d, e, rfl, hb, hd, he, sd, se, ret⟩ | ⟨t, ty, k, ret⟩
    · refine ⟨_, rfl, _, _, _, _, true, rfl, .own C, .base (.ins hb TL.c TL.ha TL.hn TL.htk TL.hm), TL.k1, _, rfl, ?_⟩
      refine iteT ⟨_, rfl, a, C, dx, _, _, rfl, ha, TL.c, TL.na, rfl, _, rfl, b, C, dy, _, _, rfl, hb, TL.c, TL.na, rfl, d, e, hd, he, sd, se, ret⟩
    · exact ⟨_, rfl, _, _, _, _, false, rfl, .own C, ty, k, _, rfl, iteF ret⟩
abbrev s_Row_eq : Stmt := inClass (top 56) 4
abbrev N_Row_eq : List Str := ["self", "other"]
abbrev P_Row_eq : List Str := ["self", "other"]
theorem sc_Row_eq : FnScope N_Row_eq P_Row_eq (defScope s_Row_eq) := ⟨rfl, rfl, rfl, by decide +kernel, rfl, by decide +kernel, by decide +kernel⟩
theorem ok_Row_eq {C f : Addr} {fd : FuncData} (D : MethAt K C "__eq__" "Row.__eq__" s_Row_eq P_Row_eq f fd) (T : Txt K mg) (TL : OwnTxt K mg "Row" C) : FnOk P w K mg base CX0 1 f fd P_Row_eq (sp_part_eq K C) := by
  refine D.fn.ok sc_Row_eq (fun vs H Q E h => ?_) (fun cdv A outer s H vs Q E hr h => ?_)
  · obtain ⟨a, dx, pt, y, rfl, _⟩ := h
    rfl
  · obtain ⟨a, dx, pt, y, rfl, ha, h⟩ := h
    refine ⟨_, (pss_one (ps_ret (pe_and (pe_callB call_isi (by rfl) T.isinstance (by decide +kernel) (pa_cons (pv 1) (pa_cons (pe_glob (v := .ref C) rfl TL.mg rfl) pa_nil))) (pe_one (pe_cmpR (op_eqD hr.units) (pe_fld (pv 0) rfl) (pe_fld (pv 1) rfl) (nomark _)))))), ?_⟩
    rcases h with ⟨b, dy, qt, d, e, rfl, hb, hd, he, sd, se, ret⟩ | ⟨t, ty, k, ret⟩
    · refine ⟨_, rfl, _, _, _, _, true, rfl, .own C, .base (.ins hb TL.c TL.ha TL.hn TL.htk TL.hm), TL.k1, _, rfl, ?_⟩
      refine iteT ⟨_, rfl, a, C, dx, _, _, rfl, ha, TL.c, TL.na, rfl, _, rfl, b, C, dy, _, _, rfl, hb, TL.c, TL.na, rfl, d, e, hd, he, sd, se, ret⟩
    · exact ⟨_, rfl, _, _, _, _, false, rfl, .own C, ty, k, _, rfl, iteF ret⟩
end L

namespace L
open PySem L2 Hv
variable {K : PySem.W.Frag}
def kwsK : List (Str × V) := [("talks", .int 0), ("needs", .int 1), ("closing", .non), ("ends", .non)]
abbrev FunK (K : PySem.W.Frag) (f : Addr) (fd : FuncData) : Prop := FunD K "__init__" "Kind.__init__" (defArgs s_Kind_init) (defBody s_Kind_init) (defScope s_Kind_init) [] kwsK f fd
def g_all {α : Type} (us mv ws : List α) : List α := match mv, ws with
  | [], [z0, z1, z2, z3, z4] => us ++ [z2, z4, z3, z1, z0]
  | _, _ => []
theorem kb_all {f : Addr} {fd : FuncData} (F : FunK K f fd) : ∃ mv : List Value, KBn K fd P_Kind_init 1 ["ends", "closing", "name", "needs", "talks"] (fun us ws => g_all us mv ws) (fun vs zs => g_all vs [] zs) := by
  refine F.kbinds0 1 ["ends", "closing", "name", "needs", "talks"] [] (fun {α} => g_all (α := α)) (by simp [kwsK]) (by simp [kwsK]) ?_ ?_
  · intro vs mz zs us mv ws r1 r2 r3
    cases r2 with
    | cons _ _ => first | exact .nil | (cases r3 <;> exact .nil)
    | nil =>
      cases r3 with
      | nil => exact .nil
      | cons b0 br0 =>
        cases br0 with
        | nil => exact .nil
        | cons b1 br1 =>
          cases br1 with
          | nil => exact .nil
          | cons b2 br2 =>
            cases br2 with
            | nil => exact .nil
            | cons b3 br3 =>
              cases br3 with
              | nil => exact .nil
              | cons b4 br4 =>
                cases br4 with
                | cons _ _ => first | exact .nil | (cases r3 <;> exact .nil)
                | nil =>
                  exact r1.append (.cons b2 (.cons b4 (.cons b3 (.cons b1 (.cons b0 .nil)))))
  · intro D doc pm an cdv ct us mv ws h1 h2 h3
    match us, mv, ws, h1, h2, h3 with
    | [_], [], [_, _, _, _, _], _, _, _ => exact rfl
def g_t {α : Type} (us mv ws : List α) : List α := match mv, ws with
  | [m0, m1, m2], [z0] => us ++ [z0, m0, m1, m2]
  | _, _ => []
theorem kb_t {f : Addr} {fd : FuncData} (F : FunK K f fd) : ∃ mv : List Value, KBn K fd P_Kind_init 2 ["talks"] (fun us ws => g_t us mv ws) (fun vs zs => g_t vs [(V.int 1), (V.non), (V.non)] zs) := by
  refine F.kbinds0 2 ["talks"] [("needs", .int 1), ("closing", .non), ("ends", .non)] (fun {α} => g_t (α := α)) (by simp [kwsK]) (by simp [kwsK]) ?_ ?_
  · intro vs mz zs us mv ws r1 r2 r3
    cases r2 with
    | nil => exact .nil
    | cons a0 ar0 =>
      cases ar0 with
      | nil => exact .nil
      | cons a1 ar1 =>
        cases ar1 with
        | nil => exact .nil
        | cons a2 ar2 =>
          cases ar2 with
          | cons _ _ => first | exact .nil | (cases r3 <;> exact .nil)
          | nil =>
            cases r3 with
            | nil => exact .nil
            | cons b0 br0 =>
              cases br0 with
              | cons _ _ => first | exact .nil | (cases r3 <;> exact .nil)
              | nil =>
                exact r1.append (.cons b0 (.cons a0 (.cons a1 (.cons a2 .nil))))
  · intro D doc pm an cdv ct us mv ws h1 h2 h3
    match us, mv, ws, h1, h2, h3 with
    | [_, _], [_, _, _], [_], _, _, _ => exact ⟨_, _, _, _, _, _, rfl, rfl, ⟨_, _, _, _, _, _, rfl, rfl, ⟨_, _, _, _, _, _, rfl, rfl, rfl⟩⟩⟩
def g_n {α : Type} (us mv ws : List α) : List α := match mv, ws with
  | [m0, m1, m2], [z0] => us ++ [m0, z0, m1, m2]
  | _, _ => []
theorem kb_n {f : Addr} {fd : FuncData} (F : FunK K f fd) : ∃ mv : List Value, KBn K fd P_Kind_init 2 ["needs"] (fun us ws => g_n us mv ws) (fun vs zs => g_n vs [(V.int 0), (V.non), (V.non)] zs) := by
  refine F.kbinds0 2 ["needs"] [("talks", .int 0), ("closing", .non), ("ends", .non)] (fun {α} => g_n (α := α)) (by simp [kwsK]) (by simp [kwsK]) ?_ ?_
  · intro vs mz zs us mv ws r1 r2 r3
    cases r2 with
    | nil => exact .nil
    | cons a0 ar0 =>
      cases ar0 with
      | nil => exact .nil
      | cons a1 ar1 =>
        cases ar1 with
        | nil => exact .nil
        | cons a2 ar2 =>
          cases ar2 with
          | cons _ _ => first | exact .nil | (cases r3 <;> exact .nil)
          | nil =>
            cases r3 with
            | nil => exact .nil
            | cons b0 br0 =>
              cases br0 with
              | cons _ _ => first | exact .nil | (cases r3 <;> exact .nil)
              | nil =>
                exact r1.append (.cons a0 (.cons b0 (.cons a1 (.cons a2 .nil))))
  · intro D doc pm an cdv ct us mv ws h1 h2 h3
    match us, mv, ws, h1, h2, h3 with
    | [_, _], [_, _, _], [_], _, _, _ => exact ⟨_, _, _, _, _, _, rfl, rfl, ⟨_, _, _, _, _, _, rfl, rfl, ⟨_, _, _, _, _, _, rfl, rfl, rfl⟩⟩⟩
def g_e {α : Type} (us mv ws : List α) : List α := match mv, ws with
  | [m0, m1, m2], [z0] => us ++ [m0, m1, m2, z0]
  | _, _ => []
theorem kb_e {f : Addr} {fd : FuncData} (F : FunK K f fd) : ∃ mv : List Value, KBn K fd P_Kind_init 2 ["ends"] (fun us ws => g_e us mv ws) (fun vs zs => g_e vs [(V.int 0), (V.int 1), (V.non)] zs) := by
  refine F.kbinds0 2 ["ends"] [("talks", .int 0), ("needs", .int 1), ("closing", .non)] (fun {α} => g_e (α := α)) (by simp [kwsK]) (by simp [kwsK]) ?_ ?_
  · intro vs mz zs us mv ws r1 r2 r3
    cases r2 with
    | nil => exact .nil
    | cons a0 ar0 =>
      cases ar0 with
      | nil => exact .nil
      | cons a1 ar1 =>
        cases ar1 with
        | nil => exact .nil
        | cons a2 ar2 =>
          cases ar2 with
          | cons _ _ => first | exact .nil | (cases r3 <;> exact .nil)
          | nil =>
            cases r3 with
            | nil => exact .nil
            | cons b0 br0 =>
              cases br0 with
              | cons _ _ => first | exact .nil | (cases r3 <;> exact .nil)
              | nil =>
                exact r1.append (.cons a0 (.cons a1 (.cons a2 (.cons b0 .nil))))
  · intro D doc pm an cdv ct us mv ws h1 h2 h3
    match us, mv, ws, h1, h2, h3 with
    | [_, _], [_, _, _], [_], _, _, _ => exact ⟨_, _, _, _, _, _, rfl, rfl, ⟨_, _, _, _, _, _, rfl, rfl, ⟨_, _, _, _, _, _, rfl, rfl, rfl⟩⟩⟩
def g_tc {α : Type} (us mv ws : List α) : List α := match mv, ws with
  | [m0, m1], [z0, z1] => us ++ [z0, m0, z1, m1]
  | _, _ => []
theorem kb_tc {f : Addr} {fd : FuncData} (F : FunK K f fd) : ∃ mv : List Value, KBn K fd P_Kind_init 2 ["talks", "closing"] (fun us ws => g_tc us mv ws) (fun vs zs => g_tc vs [(V.int 1), (V.non)] zs) := by
  refine F.kbinds0 2 ["talks", "closing"] [("needs", .int 1), ("ends", .non)] (fun {α} => g_tc (α := α)) (by simp [kwsK]) (by simp [kwsK]) ?_ ?_
  · intro vs mz zs us mv ws r1 r2 r3
    cases r2 with
    | nil => exact .nil
    | cons a0 ar0 =>
      cases ar0 with
      | nil => exact .nil
      | cons a1 ar1 =>
        cases ar1 with
        | cons _ _ => first | exact .nil | (cases r3 <;> exact .nil)
        | nil =>
          cases r3 with
          | nil => exact .nil
          | cons b0 br0 =>
            cases br0 with
            | nil => exact .nil
            | cons b1 br1 =>
              cases br1 with
              | cons _ _ => first | exact .nil | (cases r3 <;> exact .nil)
              | nil =>
                exact r1.append (.cons b0 (.cons a0 (.cons b1 (.cons a1 .nil))))
  · intro D doc pm an cdv ct us mv ws h1 h2 h3
    match us, mv, ws, h1, h2, h3 with
    | [_, _], [_, _], [_, _], _, _, _ => exact ⟨_, _, _, _, _, _, rfl, rfl, ⟨_, _, _, _, _, _, rfl, rfl, rfl⟩⟩
def g_cetn {α : Type} (us mv ws : List α) : List α := match mv, ws with
  | [], [z0, z1, z2, z3] => us ++ [z2, z3, z0, z1]
  | _, _ => []
theorem kb_cetn {f : Addr} {fd : FuncData} (F : FunK K f fd) : ∃ mv : List Value, KBn K fd P_Kind_init 2 ["closing", "ends", "talks", "needs"] (fun us ws => g_cetn us mv ws) (fun vs zs => g_cetn vs [] zs) := by
  refine F.kbinds0 2 ["closing", "ends", "talks", "needs"] [] (fun {α} => g_cetn (α := α)) (by simp [kwsK]) (by simp [kwsK]) ?_ ?_
  · intro vs mz zs us mv ws r1 r2 r3
    cases r2 with
    | cons _ _ => first | exact .nil | (cases r3 <;> exact .nil)
    | nil =>
      cases r3 with
      | nil => exact .nil
      | cons b0 br0 =>
        cases br0 with
        | nil => exact .nil
        | cons b1 br1 =>
          cases br1 with
          | nil => exact .nil
          | cons b2 br2 =>
            cases br2 with
            | nil => exact .nil
            | cons b3 br3 =>
              cases br3 with
              | cons _ _ => first | exact .nil | (cases r3 <;> exact .nil)
              | nil =>
                exact r1.append (.cons b2 (.cons b3 (.cons b0 (.cons b1 .nil))))
  · intro D doc pm an cdv ct us mv ws h1 h2 h3
    match us, mv, ws, h1, h2, h3 with
    | [_, _], [], [_, _, _, _], _, _, _ => exact rfl
theorem kb_none {f : Addr} {fd : FuncData} (F : FunK K f fd) : ∃ ds, Vals [.int 0, .int 1, .non, .non] ds ∧ Binds K fd P_Kind_init ds := by
  refine F.binds0 2 (by simp [kwsK]) rfl ?_
  intro D doc pm an cdv ct us ks h1 h2
  match us, ks, h1, h2 with
  | [_, _], [_, _, _, _], _, _ => exact ⟨_, _, _, _, _, _, rfl, rfl, ⟨_, _, _, _, _, _, rfl, rfl, ⟨_, _, _, _, _, _, rfl, rfl, ⟨_, _, _, _, _, _, rfl, rfl, rfl⟩⟩⟩⟩
end L

namespace Hv
open PySem L2
abbrev BLANK : Str := Str.ofString " "
/-- the word and the number of an amount -/
def sortOf (z : Str) : Option (Str × Nat) :=
  if z = Str.ofString "free" ∨ z = Str.ofString "again" then some (z, 0) else
  match numOf (Txt.partition z BLANK).2.2 3 with
  | some n => if ((Txt.partition z BLANK).1 = Str.ofString "each" ∨ (Txt.partition z BLANK).1 = Str.ofString "all") ∧ 1 ≤ n then some ((Txt.partition z BLANK).1, n) else none
  | none => none
theorem inV_two (z a b : Str) : inV (.str z) [.str a, .str b] = decide (z = a ∨ z = b) := by
  have e1 : (a = z) = (z = a) := propext ⟨Eq.symm, Eq.symm⟩
  have e2 : (b = z) = (z = b) := propext ⟨Eq.symm, Eq.symm⟩
  by_cases h1 : z = a <;> by_cases h2 : z = b <;> simp [inV, eqV, e1, e2, h1, h2]
def sp_sort_of (K : PySem.W.Frag) : Sp := fun vs H Q _ =>
  (∃ z : Str, vs = [.str z] ∧ z.length ≤ sizeLine ∧ (Txt.partition z BLANK).2.2.length ≤ sizeLine ∧ (sortOf z = none → ∀ H', Same H H' → Q .non H') ∧
    ∀ u n, sortOf z = some (u, n) → ∀ p H', H p = none → Same H H' → H' p = some (.tup [.str u, .int (n : Int)]) → Q (.ref p) H') ∨
  ∃ (v : V) (t : Value), vs = [v] ∧ TyX K H v t ∧ PySem.W.kitOne K t (.type "str") = some false ∧ Q .non H
/-- a row of these three parts -/
def RowAt (C : Addr) (H : Hp) (a : Addr) (o i m : Str) : Prop := ∃ dx pt, H a = some (.ins C dx [("parts", .ref pt)]) ∧ H pt = some (.tup [.str o, .str i, .str m])
structure RowOk (o i m : Str) : Prop where
  oOk : nameOk o = true
  ol : o.length ≤ sizeLine
  iOk : nameOk i = true
  il : i.length ≤ sizeLine
  mOk : (sortOf m).isSome = true
  ml : m.length ≤ sizeLine
  pl : (Txt.partition m BLANK).2.2.length ≤ sizeLine
def sp_row_init (C : Addr) : Sp := fun vs H Q _ => ∃ (x dx : Addr) (o i m : Str), vs = [.ref x, .str o, .str i, .str m] ∧ RowOk o i m ∧
  H x = some (.ins C dx []) ∧ H dx = some (.own x) ∧ dx ≠ x ∧ ∀ H', (∀ b o, b ≠ x → H b = some o → H' b = some o) → RowAt C H' x o i m → Q .non H'
end Hv
namespace L
open PySem L2 Hv
variable {P : Program} {w : World} {K : PySem.W.Frag} {mg : Str → Option Value} {base : Heap}
abbrev s_sort_of : Stmt := top 54
abbrev N_sort_of : List Str := ["amount", "word", "mark", "digits", "number"]
abbrev P_sort_of : List Str := ["amount"]
theorem sc_sort_of : FnScope N_sort_of P_sort_of (defScope s_sort_of) := ⟨rfl, rfl, rfl, by decide +kernel, rfl, by decide +kernel, by decide +kernel⟩
theorem ok_sort_of {f f1 : Addr} {fd fd1 : FuncData} (D : DefAt K mg "sort_of" s_sort_of P_sort_of f fd) (T : Txt K mg)
    (D_number_of : DefAt K mg "number_of" s_number_of P_number_of f1 fd1) (G_number_of : FnOk P w K mg base CX0 1 f1 fd1 P_number_of sp_number_of) : FnOk P w K mg base CX0 2 f fd P_sort_of (sp_sort_of K) := by
  refine D.fn.ok sc_sort_of (fun vs H Q E h => ?_) (fun cdv A outer s H vs Q E hr h => ?_)
  · rcases h with ⟨z, rfl, _⟩ | ⟨v, t, rfl, _⟩ <;> rfl
  · refine ⟨_, (pss_cons (ps_if (pt_not (pt_val (pe_callB call_isi (by rfl) T.isinstance (by decide +kernel) (pa_cons (pv 0) (pa_cons (pe_bltn (v := .ty "str") (u := .type "str") (by rfl) T.str (by decide +kernel) rfl) pa_nil)))))
      (pss_one (ps_ret pe_non))
      pss_nil)
      (pss_cons (ps_if (pt_cmpR op_in_seq (pv 0) (pe_tup (pa_cons pe_str (pa_cons pe_str pa_nil))) (by rfl))
      (pss_one (ps_ret (pe_tup (pa_cons (pv 0) (pa_cons pe_int pa_nil)))))
      pss_nil)
      (pss_cons (ps_asg (pe_partition (pv 0) pe_str) (pg_tup (by rfl) (pgs_cons (pg_name (i := 1) sc_sort_of.nd rfl (.inl rfl)) (pgs_cons (pg_name (i := 2) sc_sort_of.nd rfl (.inl rfl)) (pgs_cons (pg_name (i := 3) sc_sort_of.nd rfl (.inl rfl)) pgs_nil)))))
      (pss_cons (ps_asg (pe_call G_number_of (hr.mono (by decide)) rfl D_number_of.mg D_number_of.fn.kp D_number_of.bd .nil pass0 (pa_cons (pv 3) (pa_cons (pe_glob (v := .int 3) rfl T.cMOST_TIMES.choose_spec ⟨_, rfl⟩) pa_nil))) (pg_name (i := 4) sc_sort_of.nd rfl (.inl rfl)))
      (pss_one (ps_ret (pe_ifExp (PW.pt (pw_or (pt_cmpR op_notIn_seq (pv 1) (pe_tup (pa_cons pe_str (pa_cons pe_str pa_nil))) (by rfl)) (pw_or (pt_cmpR op_isN (pv 4) pe_non (nomark _)) (pw_or1 (pt_cmpR op_lt (pv 4) pe_int (nomark _)))))) pe_non (pe_tup (pa_cons (pv 1) (pa_cons (pv 4) pa_nil)))))))))), ?_⟩
    rcases h with ⟨z, rfl, hz, hp, rn, rs⟩ | ⟨v, t, rfl, ty, kit, ret⟩
    · refine ⟨_, rfl, _, _, _, _, _, rfl, .ty _, .base (.str z), kit_ty (r := true) (by decide +kernel), _, rfl, ?_⟩
      refine ⟨_, rfl, by decide, fun t ht => ⟨_, _, rfl, .inr (SqT.of upd_same), rfl, rfl, _, rfl, ?_⟩⟩
      rw [inV_two]
      by_cases c : z = Str.ofString "free" ∨ z = Str.ofString "again"
      · refine ifT c ⟨_, rfl, by show 2 ≤ sizeLine; decide, fun p hp0 => ?_⟩
        exact rs z 0 (by unfold sortOf; rw [if_pos c]) p _ ((same_new ht).free hp0) ((same_new ht).trans (same_new hp0)) upd_same
      · refine ifF c ?_
        have un : sortOf z = match numOf (Txt.partition z BLANK).2.2 3 with
            | some n => if ((Txt.partition z BLANK).1 = Str.ofString "each" ∨ (Txt.partition z BLANK).1 = Str.ofString "all") ∧ 1 ≤ n then some ((Txt.partition z BLANK).1, n) else none
            | none => none := by
          unfold sortOf
          rw [if_neg c]
          try rfl
        refine ⟨_, rfl, ⟨_, rfl⟩, _, _, rfl, rfl, by decide, hz, fun p hp0 => ?_⟩
        have s1 := (same_new (o := .tup [.str (Str.ofString "free"), .str (Str.ofString "again")]) ht).trans (same_new (o := .tup [.str (Txt.partition z BLANK).1, .str (Txt.partition z BLANK).2.1, .str (Txt.partition z BLANK).2.2]) hp0)
        refine ⟨p, _, rfl, SqT.of upd_same, rfl, _, _, rfl, _, _, rfl, _, _, rfl, rfl, ?_⟩
        refine ⟨_, rfl, _, 3, rfl, hp, by decide, fun H1 s2 => ?_⟩
        have s3 := s1.trans s2
        refine ⟨_, rfl, by decide, fun t2 ht2 => ⟨_, _, rfl, .inr (SqT.of upd_same), rfl, rfl, _, rfl, ?_⟩⟩
        have s4 := s3.trans (same_new (o := .tup [.str (Str.ofString "each"), .str (Str.ofString "all")]) ht2)
        show (if (!inV (.str (Txt.partition z BLANK).1) [.str (Str.ofString "each"), .str (Str.ofString "all")]) = true then _ else _)
        rw [inV_two]
        by_cases c1 : (Txt.partition z BLANK).1 = Str.ofString "each" ∨ (Txt.partition z BLANK).1 = Str.ofString "all"
        · refine ifNF c1 ?_
          cases en : numOf (Txt.partition z BLANK).2.2 3 with
          | none =>
            rw [en] at un
            exact ⟨_, rfl, rfl, _, rfl, ifT rfl (rn un _ s4)⟩
          | some n =>
            rw [en] at un
            refine ⟨_, rfl, rfl, _, rfl, ifF (by intro q; cases q) ⟨_, rfl, _, _, rfl, rfl, _, rfl, ?_⟩⟩
            by_cases c2 : 1 ≤ n
            · refine ifF (by omega) ⟨_, rfl, _, rfl, by show 2 ≤ sizeLine; decide, fun p2 hp2 => ?_⟩
              dsimp only at un
              rw [if_pos ⟨c1, c2⟩] at un
              exact rs _ n un p2 _ (s4.free hp2) (s4.trans (same_new hp2)) upd_same
            · dsimp only at un
              rw [if_neg (fun q => c2 q.2)] at un
              exact ifT (by omega) (rn un _ s4)
        · refine ifNT c1 (rn ?_ _ s4)
          rw [un]
          cases numOf (Txt.partition z BLANK).2.2 3 with
          | none => rfl
          | some n => exact if_neg fun q => c1 q.1
    · exact ⟨_, rfl, _, _, _, _, _, rfl, .ty _, ty, kit, _, rfl, ret⟩
end L

namespace Hv
open PySem L2 TL
theorem str_ext {a b : Str} (h : a.cps.toList = b.cps.toList) : a = b := by
  obtain ⟨⟨x⟩⟩ := a
  obtain ⟨⟨y⟩⟩ := b
  cases (show x = y from h)
  rfl
/-- the parts, put together again -/
def glue (c : Nat) : List (List Nat) → List Nat
  | [] => []
  | [p] => p
  | p :: q :: r => p ++ c :: glue c (q :: r)
theorem pre_one {c d : Nat} {r : List Nat} : pre [c] (d :: r) = decide (d = c) := by
  show (List.take 1 (d :: r) == [c]) = _
  rw [Bool.eq_iff_iff]
  simp
theorem spl_ne (c : Nat) : ∀ (l acc : List Nat), spl [c] 0 acc l ≠ []
  | [], acc => by rw [spl_nil]; simp
  | d :: r, acc => by
    by_cases h : d = c
    · rw [spl_hit (by rw [pre_one, decide_eq_true h])]
      simp
    · rw [spl_miss (by rw [pre_one, decide_eq_false h])]
      exact spl_ne c r _
theorem spl_glue (c : Nat) : ∀ (l acc : List Nat), glue c (spl [c] 0 acc l) = acc ++ l
  | [], acc => by rw [spl_nil]; simp [glue]
  | d :: r, acc => by
    by_cases h : d = c
    · rw [spl_hit (by rw [pre_one, decide_eq_true h])]
      show glue c (acc :: spl [c] 0 [] r) = _
      have ih := spl_glue c r []
      cases e : spl [c] 0 [] r with
      | nil => exact absurd e (spl_ne c r [])
      | cons p q =>
        rw [e] at ih
        show acc ++ c :: glue c (p :: q) = _
        rw [ih, h]
        rfl
    · rw [spl_miss (by rw [pre_one, decide_eq_false h]), spl_glue c r]
      simp
theorem spl_len (c : Nat) : ∀ (l acc : List Nat), ∀ p ∈ spl [c] 0 acc l, p.length ≤ acc.length + l.length
  | [], acc => by
    rw [spl_nil]
    intro p hp
    rw [List.mem_singleton.mp hp]
    exact Nat.le_refl _
  | d :: r, acc => by
    intro p hp
    by_cases h : d = c
    · rw [spl_hit (by rw [pre_one, decide_eq_true h])] at hp
      rcases List.mem_cons.mp hp with rfl | hp
      · omega
      · have := spl_len c r [] p hp
        simp at this ⊢
        omega
    · rw [spl_miss (by rw [pre_one, decide_eq_false h])] at hp
      have := spl_len c r _ p hp
      simp at this ⊢
      omega
theorem kind_slash (z : Str) : ¬ Builtin.Str.strKind z < Builtin.Str.strKind SLASH := by
  have : Builtin.Str.strKind SLASH = 1 := by decide +kernel
  rw [this]
  unfold Builtin.Str.strKind
  repeat' split
  all_goals decide
theorem slash_tl : SLASH.cps.toList = [47] := by decide +kernel
theorem split_tl (z : Str) : (Txt.split z SLASH).map tl = spl [47] 0 [] z.cps.toList := by
  have := split_spl z SLASH (by rw [show tl SLASH = [47] from slash_tl]; simp) (kind_slash z)
  rw [show tl SLASH = [47] from slash_tl] at this
  exact this
theorem split_two {z a b : Str} (h : Txt.split z SLASH = [a, b]) : z = a ++ SLASH ++ b := by
  have e := split_tl z
  rw [h] at e
  have g := spl_glue 47 z.cps.toList []
  rw [← e] at g
  apply str_ext
  have l : (a ++ SLASH ++ b).cps.toList = a.cps.toList ++ SLASH.cps.toList ++ b.cps.toList := by
    show (a.cps ++ SLASH.cps ++ b.cps).toList = _
    simp
  rw [l, slash_tl]
  have g' : a.cps.toList ++ 47 :: b.cps.toList = [] ++ z.cps.toList := g
  simp only [List.nil_append] at g'
  rw [← g']
  simp
theorem prefix_two (z : Str) : (isOver z = true ∧ z = MARK ++ Txt.removeprefix z MARK) ∨ (isOver z = false ∧ Txt.removeprefix z MARK = z) := by
  have ml : MARK.length = 5 := by decide +kernel
  by_cases h : Builtin.Str.subAt z MARK 0 = true
  · have h' : z.cps.extract 0 5 = MARK.cps := by
      unfold Builtin.Str.subAt at h
      rw [ml] at h
      exact eq_of_beq h
    have sz : 5 ≤ z.cps.size := by
      have := congrArg Array.size h'
      rw [Array.size_extract] at this
      have m2 : MARK.cps.size = 5 := ml
      omega
    left
    refine ⟨?_, ?_⟩
    · unfold isOver Txt.startswith
      rw [h, ml]
      simp
      exact sz
    · unfold Txt.removeprefix
      rw [if_pos h, ml]
      unfold Txt.affix
      have zl : z.length = z.cps.size := rfl
      dsimp only
      rw [if_neg (by rw [beq_iff_eq, zl]; omega)]
      apply str_ext
      show z.cps.toList = (MARK.cps ++ z.cps.extract 5 z.length).toList
      rw [← h']
      simp [zl]
      rw [List.take_of_length_le (by simp; omega)]
  · right
    refine ⟨?_, ?_⟩
    · unfold isOver Txt.startswith
      rw [Bool.eq_false_iff.mpr h]
      simp
    · unfold Txt.removeprefix
      rw [if_neg h]
      rfl
def inBL (z : Str) : Bool := BL.any fun x => decide (x = z)
theorem inBL_iff {z : Str} : inBL z = true ↔ z ∈ BL := by
  unfold inBL
  rw [List.any_eq_true]
  constructor
  · rintro ⟨x, hx, e⟩
    rw [← of_decide_eq_true e]
    exact hx
  · exact fun h => ⟨z, h, decide_eq_true rfl⟩
def blTab (q p : Nat) : Bool := !(decide (1 ≤ q) && Nat.gcd p q == 1) || ((!decide (p ≤ q) || inBL (text p ++ SLASH ++ text q)) && (!decide (p + 1 ≤ q) || inBL (MARK ++ (text p ++ SLASH ++ text q))))
theorem bl_mem0 : ((List.range 13).all fun q => (List.range 13).all fun p => blTab q p) = true := by decide +kernel
theorem bl_mem (q : Nat) (h1 : q < 13) (p : Nat) (h2 : p < 13) (h3 : 1 ≤ q) (h4 : Nat.gcd p q = 1) : (p ≤ q → text p ++ SLASH ++ text q ∈ BL) ∧ (p + 1 ≤ q → MARK ++ (text p ++ SLASH ++ text q) ∈ BL) := by
  have h := List.all_eq_true.mp (List.all_eq_true.mp bl_mem0 q (List.mem_range.mpr h1)) p (List.mem_range.mpr h2)
  unfold blTab at h
  rw [decide_eq_true h3, h4] at h
  simp only [BEq.rfl, Bool.and_self, Bool.not_true, Bool.false_or, Bool.and_eq_true, Bool.or_eq_true, Bool.not_eq_true', decide_eq_false_iff_not] at h
  exact ⟨fun q => inBL_iff.mp (h.1.resolve_left (fun z => z q)), fun q => inBL_iff.mp (h.2.resolve_left (fun z => z q))⟩
theorem frac_mem {z : Str} (h : (fracOf z).isSome = true) : z ∈ BL := by
  obtain ⟨⟨p, q⟩, e⟩ := Option.isSome_iff_exists.mp h
  have len : (Txt.split (Txt.removeprefix z MARK) SLASH).length = 2 := by
    by_cases l : (Txt.split (Txt.removeprefix z MARK) SLASH).length = 2
    · exact l
    · rw [fracOf_len l] at e
      cases e
  obtain ⟨a, b, hs⟩ := two_of len
  have hz := split_two hs
  rw [fracOf_two hs] at e
  cases e1 : numOf a 12 with
  | none => rw [e1] at e; cases e
  | some p1 =>
    cases e2 : numOf b 12 with
    | none => rw [e1, e2] at e; cases e
    | some q1 =>
      rw [e1, e2] at e
      dsimp only at e
      obtain ⟨l1, t1⟩ := numOf_some e1
      obtain ⟨l2, t2⟩ := numOf_some e2
      by_cases c : q1 < 1 ∨ 1 < Nat.gcd p1 q1
      · rw [if_pos c] at e
        cases e
      · have g : 0 < Nat.gcd p1 q1 := Nat.gcd_pos_of_pos_right _ (by omega)
        obtain ⟨m1, m2⟩ := bl_mem q1 (by omega) p1 (by omega) (by omega) (by omega)
        rw [if_neg c] at e
        rw [← t1, ← t2] at hz
        rcases prefix_two z with ⟨ov, ez⟩ | ⟨ov, ez⟩
        · rw [ov] at e
          by_cases d : p1 + 1 ≤ q1
          · rw [ez, hz]
            exact m2 d
          · rw [if_neg (by simpa using d)] at e
            cases e
        · rw [ov] at e
          by_cases d : p1 ≤ q1
          · rw [← ez, hz]
            exact m1 d
          · rw [if_neg (by simpa using d)] at e
            cases e
theorem bl_iff (z : Str) : (fracOf z).isSome = inBL z := by
  cases h : (fracOf z).isSome with
  | true => rw [inBL_iff.mpr (frac_mem h)]
  | false =>
    symm
    rw [Bool.eq_false_iff]
    intro m
    have m := inBL_iff.mp m
    obtain ⟨a, b, l⟩ := line_of m
    rw [l.fr] at h
    cases h
theorem textOk_of {z : Str} (h : z.length ≤ 100000) : TextOk z := by
  have s1 : 100002 ≤ sizeLine := by decide
  have l : (Txt.removeprefix z MARK).length ≤ z.length := by
    rcases prefix_two z with ⟨_, ez⟩ | ⟨_, ez⟩
    · have := congrArg Str.length ez
      rw [Str.length_append] at this
      omega
    · rw [ez]
      exact Nat.le_refl _
  refine ⟨by omega, by omega, fun p hp => ?_⟩
  have m : tl p ∈ spl [47] 0 [] (Txt.removeprefix z MARK).cps.toList := by
    rw [← split_tl]
    exact List.mem_map.mpr ⟨p, hp, rfl⟩
  have := spl_len 47 _ _ _ m
  have e1 : (tl p).length = p.length := str_len p
  have e2 := str_len (Txt.removeprefix z MARK)
  rw [e1, e2] at this
  simp only [List.length_nil, Nat.zero_add] at this
  omega
end Hv

namespace Hv
open PySem PySem.Spec PyProof.Rows L2
theorem rhU {k : Nat} {A : Around} (r : L2H.RoomH k A) : A.units + 64 < cLine := by have := r.un; omega
theorem rh65 {k : Nat} {A : Around} (r : L2H.RoomH k A) : A.units + 65 < cLine := by have := r.un; omega
/-- l.count(True), l a list of truths -/
def rCntB (K : PySem.W.Frag) : V → List V → Hp → VK → Prop := fun x xs H Q => ∃ (p : Addr) (bs : List Bool), x = .ref p ∧ xs = [.bl true] ∧ SqL K H p (bs.map V.bl) ∧ Q (.int (bs.count true : Nat)) H
theorem dp_bools {K : PySem.W.Frag} {H : Hp} : ∀ bs : List Bool, DpAll K H (bs.map V.bl) (bs.map PyData.bool)
  | [] => .nil
  | b :: bs => .cons (.bl b) (dp_bools bs)
theorem plain_bools : ∀ bs : List Bool, PyData.plainAll (bs.map PyData.bool) = true
  | [] => rfl
  | b :: bs => by
    show (PyData.plain (.bool b) && PyData.plainAll (bs.map PyData.bool)) = true
    rw [plain_bools bs]
    rfl
theorem count_bools : ∀ bs : List Bool, (bs.map PyData.bool).countP (fun y => PyData.eqv y (.bool true)) = bs.count true
  | [] => rfl
  | b :: bs => by
    rw [List.map_cons, List.countP_cons, count_bools bs, List.count_cons]
    cases b <;> simp [PyData.eqv]
theorem mt_countB {X : Cx} (hu : X.A.units + 65 < cLine) : MtR X "list.count" (rCntB X.K) := by
  intro pins s σ H x xs v us Q I rx rxs h
  obtain ⟨p, bs, rfl, rfl, hs, q⟩ := h
  cases rx
  obtain ⟨u, rfl, ru⟩ := rxs.one
  cases (show u = Value.bool true from ru)
  obtain ⟨its, rv, ⟨o, n, ho, hc, hdn, hd⟩, hlen⟩ := I.list hs
  obtain ⟨as, h4⟩ := Dp.readsAll I _ _ its (dp_bools bs) rv
  refine SeqAt.count_list_data (l := p) (vs := its.toArray) (xs := bs.map PyData.bool) (d := .bool true) ⟨o, ho, hc, n, hd⟩ h4 (.bool true) (plain_bools bs) rfl ?_ ?_
  · have e : min (PyData.depthAll (bs.map PyData.bool)) (PyData.depth (.bool true)) = 0 := Nat.min_eq_right (Nat.zero_le _)
    rw [e]
    omega
  · rw [count_bools]
    exact ⟨.int _, H, I.tok _, ⟨_, rfl⟩, q⟩
/-! the classes by their numbers -/
def TERMS : List Str := ["InvalidName", "InvalidNumber", "InvalidBound", "InvalidNeeds", "InvalidClosing", "InvalidEnds", "InvalidAmount", "InvalidText", "InvalidHouse", "InvalidShare", "InvalidLimit", "InvalidLength", "InvalidWish", "InvalidIndex", "NotRules", "InvalidKinds", "InvalidRows", "InvalidChanges", "InvalidWishes", "UnknownName", "UnknownMember", "InUse", "NotFinite", "Over", "IsClosed", "NotListed", "TooFew", "UsedUp", "CannotClose", "NothingToUndo", "Broken"]
def term (j : Nat) : Str := TERMS.getD j ""
def fieldOf (j : Nat) : Str := if j ∈ [15, 16, 17, 18, 21] then "index" else if j ∈ [24, 25, 26, 27, 28] then "kind" else "given"
/-- those with one field -/
def oneF (j : Nat) : Bool := decide (j < 30) && decide (j ≠ 23) && decide (j ≠ 29)
structure ErrNames (mg : Str → Option Value) (c : Nat → Addr) : Prop where
  n0 : mg "InvalidName" = some (.ref (c 0))
  n1 : mg "InvalidNumber" = some (.ref (c 1))
  n2 : mg "InvalidBound" = some (.ref (c 2))
  n3 : mg "InvalidNeeds" = some (.ref (c 3))
  n4 : mg "InvalidClosing" = some (.ref (c 4))
  n5 : mg "InvalidEnds" = some (.ref (c 5))
  n6 : mg "InvalidAmount" = some (.ref (c 6))
  n7 : mg "InvalidText" = some (.ref (c 7))
  n8 : mg "InvalidHouse" = some (.ref (c 8))
  n9 : mg "InvalidShare" = some (.ref (c 9))
  n10 : mg "InvalidLimit" = some (.ref (c 10))
  n11 : mg "InvalidLength" = some (.ref (c 11))
  n12 : mg "InvalidWish" = some (.ref (c 12))
  n13 : mg "InvalidIndex" = some (.ref (c 13))
  n14 : mg "NotRules" = some (.ref (c 14))
  n15 : mg "InvalidKinds" = some (.ref (c 15))
  n16 : mg "InvalidRows" = some (.ref (c 16))
  n17 : mg "InvalidChanges" = some (.ref (c 17))
  n18 : mg "InvalidWishes" = some (.ref (c 18))
  n19 : mg "UnknownName" = some (.ref (c 19))
  n20 : mg "UnknownMember" = some (.ref (c 20))
  n21 : mg "InUse" = some (.ref (c 21))
  n22 : mg "NotFinite" = some (.ref (c 22))
  n23 : mg "Over" = some (.ref (c 23))
  n24 : mg "IsClosed" = some (.ref (c 24))
  n25 : mg "NotListed" = some (.ref (c 25))
  n26 : mg "TooFew" = some (.ref (c 26))
  n27 : mg "UsedUp" = some (.ref (c 27))
  n28 : mg "CannotClose" = some (.ref (c 28))
  n29 : mg "NothingToUndo" = some (.ref (c 29))
  n30 : mg "Broken" = some (.ref (c 30))
  n31 : mg "WrongValue" = some (.ref (c 31))
  n32 : mg "WrongName" = some (.ref (c 32))
  n33 : mg "NotPossible" = some (.ref (c 33))
/-- what the text has of the error class with the number j -/
structure ErrIx (K : PySem.W.Frag) (c : Nat → Addr) (j : Nat) : Prop where
  isx : ExcC K (c j)
  xf : XfC K (c j)
  kits : ∀ i, i < 31 → PySem.W.kitOne K (.ref (c j)) (.ref (c i)) = some (decide (i = j))
  kV : PySem.W.kitOne K (.ref (c j)) (.ref (c 31)) = some (decide (j < 19))
  kN : PySem.W.kitOne K (.ref (c j)) (.ref (c 32)) = some (decide (18 < j) && decide (j < 22))
  kP : PySem.W.kitOne K (.ref (c j)) (.ref (c 33)) = some (decide (21 < j))
  tV : PySem.W.kitOne K (.ref (c j)) (.type "ValueError") = some (decide (j < 19))
  tL : PySem.W.kitOne K (.ref (c j)) (.type "LookupError") = some (decide (18 < j) && decide (j < 22))
  tA : PySem.W.kitOne K (.ref (c j)) (.type "ArithmeticError") = some (decide (21 < j))
  f_given : PySem.W.findIn K (.ref (c j)) "given" = some none
  f_index : PySem.W.findIn K (.ref (c j)) "index" = some none
  f_kind : PySem.W.findIn K (.ref (c j)) "kind" = some none
  f_house : PySem.W.findIn K (.ref (c j)) "house" = some none
  any : PySem.W.exmAny K (.ref (c j)) [.ref (c 31), .ref (c 32), .ref (c 33)] = some true
/-- the exception at p: of the class j, with its one field v -/
def ErrAt (c : Nat → Addr) (j : Nat) (p : Addr × Obj) (d : Option Addr) (v : V) (H : Hp) : Prop := Zc (.ref (c j)) d p.2 ∧ (∃ vs, p.2.data = .fields vs) ∧ XdAt H d [(fieldOf j, v)]
def bitsOf (j : Nat) : List Bool := (List.range 31).map fun i => decide (i = j)
theorem sort_count : ∀ j < 31, (bitsOf j).count true = 1 := by decide
theorem XdAt.same {H H' : Hp} {d : Option Addr} {fs : List (Str × V)} (h : XdAt H d fs) (e : Same H H') : XdAt H' d fs := by
  rcases h with h | ⟨dd, h1, h2⟩
  · exact .inl h
  · exact .inr ⟨dd, h1, e _ _ h2⟩
theorem ErrAt.same {c : Nat → Addr} {j : Nat} {p : Addr × Obj} {d : Option Addr} {v : V} {H H' : Hp} (h : ErrAt c j p d v H) (e : Same H H') : ErrAt c j p d v H' := ⟨h.1, h.2.1, h.2.2.same e⟩
section
variable {K : PySem.W.Frag} {c : Nat → Addr} {j : Nat} {p : Addr × Obj} {d : Option Addr} {v : V} {H : Hp} {Q : VK}
@[irreducible] def rIdx (K : PySem.W.Frag) : V → List V → Hp → VK → Prop := rIndexD K
theorem mt_idx {X : Cx} (hu : X.A.units + 65 < cLine) : MtR X "list.index" (rIdx X.K) := by
  unfold rIdx
  exact mt_indexD hu
theorem is_r (EX : ErrIx K c j) (E : ErrAt c j p d v H) {i : Nat} (hi : i < 31) (q : Q (.bl (decide (i = j))) H) : rIsP K p.1 (c j) d [.ref p.1, .ref (c i)] H Q := rIsP_in (fun _ r => r) (EX.kits i hi) E.2.2 q
theorem sort_index {a : Addr} (hj : j < 31) (hS : SqL K H a ((bitsOf j).map V.bl)) (q : Q (.int (j : Nat)) H) : rIdx K (.ref a) [.bl true] H Q := by
  unfold rIdx
  have h : ∀ j < 31, SeqAt.shaped (.list ((bitsOf j).map PyData.bool)) = true ∧ (bitsOf j)[j]? = some true ∧ ∀ m < 31, m < j → (bitsOf j)[m]? = some false := by decide +kernel
  obtain ⟨h1, h2, h3⟩ := h j hj
  refine ⟨a, _, .bool true, (bitsOf j).map PyData.bool, j, .bool true, rfl, rfl, .lst hS (dp_bools _), .bl true, h1, by decide +kernel, by rw [List.getElem?_map, h2]; rfl, by decide +kernel, fun m z hm hz => ?_, q⟩
  rw [List.getElem?_map, h3 m (by omega) hm] at hz
  cases hz
  decide +kernel
/-- the places of the three base classes -/
def baseOf (j : Nat) : Nat := if j < 19 then 0 else if j < 22 then 1 else 2
def dueBits (j : Nat) : List Bool := [decide (j < 19), decide (18 < j) && decide (j < 22), decide (21 < j)]
theorem due_index {a : Addr} (hj : j < 31) (hS : SqL K H a ((dueBits j).map V.bl)) (q : Q (.int (baseOf j : Nat)) H) : rIdx K (.ref a) [.bl true] H Q := by
  unfold rIdx
  have h : ∀ j < 31, SeqAt.shaped (.list ((dueBits j).map PyData.bool)) = true ∧ (dueBits j)[baseOf j]? = some true ∧ ∀ m < 31, m < baseOf j → (dueBits j)[m]? = some false := by decide +kernel
  obtain ⟨h1, h2, h3⟩ := h j hj
  have h4 : baseOf j < 31 := by
    unfold baseOf
    split
    · decide
    · split <;> decide
  refine ⟨a, _, .bool true, (dueBits j).map PyData.bool, baseOf j, .bool true, rfl, rfl, .lst hS (dp_bools _), .bl true, h1, by decide +kernel, by rw [List.getElem?_map, h2]; rfl, by decide +kernel, fun m z hm hz => ?_, q⟩
  rw [List.getElem?_map, h3 m (by omega) hm] at hz
  cases hz
  decide +kernel
theorem due_at : ∀ j < 31, atI ((dueBits j).map V.bl) (baseOf j : Nat) = some (.bl true) := by decide +kernel
theorem terms_at : ∀ j < 31, atI (TERMS.map V.str) (j : Nat) = some (.str (term j)) := by decide +kernel
theorem due_list (hj : j < 31) : [V.bl (decide ((j : Int) < 19)), .bl (decide ((18 : Int) < j) && decide ((j : Int) < 22)), .bl (decide ((21 : Int) < j))] = (dueBits j).map V.bl := by
  have e1 : decide ((j : Int) < 19) = decide (j < 19) := decide_eq_decide.mpr (by omega)
  have e2 : decide ((18 : Int) < j) = decide (18 < j) := decide_eq_decide.mpr (by omega)
  have e3 : decide ((j : Int) < 22) = decide (j < 22) := decide_eq_decide.mpr (by omega)
  have e4 : decide ((21 : Int) < j) = decide (21 < j) := decide_eq_decide.mpr (by omega)
  rw [e1, e2, e3, e4]
  rfl
theorem due_eqv : ∀ j < 31, PyData.eqv (.list ((dueBits j).map PyData.bool)) (.list ((dueBits j).map PyData.bool)) = true ∧ SeqAt.shaped (.list ((dueBits j).map PyData.bool)) = true := by decide +kernel
theorem chain_i {σ : L2.St} {i k : Int} {n : Nat} (hn : σ[n]? = some (some (.int i))) (q : Q (.bl (decide (k < i) && decide (i < 22))) H) :
    tChain (rI0 fun a b => .bl (decide (a < b))) (rI0 fun a b => .bl (decide (a < b))) (tC (.int k)) (tVar n) (tC (.int 22)) σ H Q := by
  refine ⟨_, hn, _, _, rfl, rfl, _, rfl, ?_⟩
  cases h : decide (k < i) with
  | true =>
    rw [h] at q
    exact iteT ⟨_, _, rfl, rfl, q⟩
  | false =>
    rw [h] at q
    exact iteF q
end
def sp_terms : Addr × Obj → Sp := fun _ vs H Q _ => vs = [] ∧ ∀ p H', H p = none → Same H H' → H' p = some (.lst (TERMS.map V.str)) → Q (.ref p) H'
def sp_sort (K : PySem.W.Frag) (c : Nat → Addr) : Addr × Obj → Sp := fun p vs H Q _ => ∃ (j : Nat) (d : Option Addr) (v : V), vs = [.ref p.1] ∧ j < 31 ∧ ErrIx K c j ∧ ErrAt c j p d v H ∧ ∀ H', Same H H' → Q (.str (term j)) H'
def sp_held (K : PySem.W.Frag) (c : Nat → Addr) : Addr × Obj → Sp := fun p vs H Q _ => ∃ (j : Nat) (d : Option Addr) (v : V), vs = [.ref p.1, .str (term j)] ∧ oneF j = true ∧ ErrIx K c j ∧ ErrAt c j p d v H ∧ ∀ H', Same H H' → Q v H'
end Hv
namespace L
open PySem L2 Hv
variable {P : Program} {w : World} {K : PySem.W.Frag} {mg : Str → Option Value} {base : Heap}
abbrev s_terms : Stmt := top 61
abbrev N_terms : List Str := ["_law_found"]
abbrev P_terms : List Str := []
theorem sc_terms : FnScope N_terms P_terms (defScope s_terms) := ⟨rfl, rfl, rfl, by decide +kernel, rfl, by decide +kernel, by decide +kernel⟩
theorem ok_terms {f : Addr} {fd : FuncData} (D : DefAt K mg "_law_terms" s_terms P_terms f fd) (T : Txt K mg) : FnP P w K mg base 1 f fd P_terms sp_terms := by
  refine fnP_of D.fn sc_terms (fun p vs H Q E h => ?_) (fun cdv A outer s H vs Q p hG hr h => ?_)
  · obtain ⟨rfl, _⟩ := h
    rfl
  · obtain ⟨rfl, ret⟩ := h
    have hp : p ∈ [p] := List.mem_singleton.mpr rfl
    refine ⟨_, (pss_cons (ps_asg (pe_lst (pa_cons pe_str (pa_cons pe_str (pa_cons pe_str (pa_cons pe_str (pa_cons pe_str (pa_cons pe_str pa_nil))))))) (pg_name (i := 0) sc_terms.nd rfl (.inl rfl)))
      (pss_cons (ps_asg (pe_op op_cat (pv 0) (pe_lst (pa_cons pe_str (pa_cons pe_str (pa_cons pe_str (pa_cons pe_str (pa_cons pe_str (pa_cons pe_str pa_nil)))))))) (pg_name (i := 0) sc_terms.nd rfl (.inl rfl)))
      (pss_cons (ps_asg (pe_op op_cat (pv 0) (pe_lst (pa_cons pe_str (pa_cons pe_str (pa_cons pe_str (pa_cons pe_str (pa_cons pe_str (pa_cons pe_str pa_nil)))))))) (pg_name (i := 0) sc_terms.nd rfl (.inl rfl)))
      (pss_cons (ps_asg (pe_op op_cat (pv 0) (pe_lst (pa_cons pe_str (pa_cons pe_str (pa_cons pe_str (pa_cons pe_str (pa_cons pe_str (pa_cons pe_str (pa_cons pe_str pa_nil))))))))) (pg_name (i := 0) sc_terms.nd rfl (.inl rfl)))
      (pss_one (ps_ret (pe_op op_cat (pv 0) (pe_lst (pa_cons pe_str (pa_cons pe_str (pa_cons pe_str (pa_cons pe_str (pa_cons pe_str (pa_cons pe_str pa_nil)))))))))))))), ?_⟩
    refine ⟨by show 6 ≤ sizeLine; decide, fun p1 n1 => ?_⟩
    refine ⟨_, rfl, by show 6 ≤ sizeLine; decide, fun q1 m1 => ⟨p1, q1, _, _, rfl, rfl, same_new m1 _ _ upd_same, upd_same, by show 12 ≤ sizeLine; decide, fun p2 n2 => ?_⟩⟩
    refine ⟨_, rfl, by show 6 ≤ sizeLine; decide, fun q2 m2 => ⟨p2, q2, _, _, rfl, rfl, same_new m2 _ _ upd_same, upd_same, by show 18 ≤ sizeLine; decide, fun p3 n3 => ?_⟩⟩
    refine ⟨_, rfl, by show 7 ≤ sizeLine; decide, fun q3 m3 => ⟨p3, q3, _, _, rfl, rfl, same_new m3 _ _ upd_same, upd_same, by show 25 ≤ sizeLine; decide, fun p4 n4 => ?_⟩⟩
    refine ⟨_, rfl, by show 6 ≤ sizeLine; decide, fun q4 m4 => ⟨p4, q4, _, _, rfl, rfl, same_new m4 _ _ upd_same, upd_same, by show 31 ≤ sizeLine; decide, fun p5 n5 => ?_⟩⟩
    have sm : ∀ {H1 H2 H3 H4 H5 H6 H7 H8 : Hp}, Same H H1 → Same H1 H2 → Same H2 H3 → Same H3 H4 → Same H4 H5 → Same H5 H6 → Same H6 H7 → Same H7 H8 → Same H H8 := fun a b c d e f g h => ((((((a.trans b).trans c).trans d).trans e).trans f).trans g).trans h
    refine ret p5 _ (Same.free ?_ n5) (Same.trans ?_ (same_new n5)) upd_same <;> exact sm (same_new n1) (same_new m1) (same_new n2) (same_new m2) (same_new n3) (same_new m3) (same_new n4) (same_new m4)
abbrev s_sort : Stmt := top 62
abbrev N_sort : List Str := ["_law_e", "_law_sorts", "_law_at", "_law_due_here", "_law_own"]
abbrev P_sort : List Str := ["_law_e"]
theorem sc_sort : FnScope N_sort P_sort (defScope s_sort) := ⟨rfl, rfl, rfl, by decide +kernel, rfl, by decide +kernel, by decide +kernel⟩
theorem ok_sort {f f1 : Addr} {fd fd1 : FuncData} {c : Nat → Addr} (D : DefAt K mg "_law_sort" s_sort P_sort f fd) (T : Txt K mg) (EN : ErrNames mg c) (D_terms : DefAt K mg "_law_terms" s_terms P_terms f1 fd1) : FnP P w K mg base 2 f fd P_sort (sp_sort K c) := by
  have G_terms : FnP P w K mg base 1 f1 fd1 P_terms sp_terms := ok_terms D_terms T
  refine fnP_of D.fn sc_sort (fun p vs H Q E h => ?_) (fun cdv A outer s H vs Q p hG hr h => ?_)
  · obtain ⟨j, d, v, rfl, _⟩ := h
    rfl
  · obtain ⟨j, d, v, rfl, hj, EX, EA, ret⟩ := h
    have hp : p ∈ [p] := List.mem_singleton.mpr rfl
    have hz := EA.1
    have hf := EA.2.1
    refine ⟨_, (pss_cons (ps_asg (pe_lst (pa_cons (pe_callB (call_isP EX.isx hp hz hf) (by rfl) T.isinstance (by decide +kernel) (pa_cons (pv 0) (pa_cons (pe_glob (v := .ref (c 0)) rfl EN.n0 rfl) pa_nil))) (pa_cons (pe_callB (call_isP EX.isx hp hz hf) (by rfl) T.isinstance (by decide +kernel) (pa_cons (pv 0) (pa_cons (pe_glob (v := .ref (c 1)) rfl EN.n1 rfl) pa_nil))) (pa_cons (pe_callB (call_isP EX.isx hp hz hf) (by rfl) T.isinstance (by decide +kernel) (pa_cons (pv 0) (pa_cons (pe_glob (v := .ref (c 2)) rfl EN.n2 rfl) pa_nil))) pa_nil)))) (pg_name (i := 1) sc_sort.nd rfl (.inl rfl)))
      (pss_cons (ps_asg (pe_op op_cat (pv 1) (pe_lst (pa_cons (pe_callB (call_isP EX.isx hp hz hf) (by rfl) T.isinstance (by decide +kernel) (pa_cons (pv 0) (pa_cons (pe_glob (v := .ref (c 3)) rfl EN.n3 rfl) pa_nil))) (pa_cons (pe_callB (call_isP EX.isx hp hz hf) (by rfl) T.isinstance (by decide +kernel) (pa_cons (pv 0) (pa_cons (pe_glob (v := .ref (c 4)) rfl EN.n4 rfl) pa_nil))) (pa_cons (pe_callB (call_isP EX.isx hp hz hf) (by rfl) T.isinstance (by decide +kernel) (pa_cons (pv 0) (pa_cons (pe_glob (v := .ref (c 5)) rfl EN.n5 rfl) pa_nil))) pa_nil))))) (pg_name (i := 1) sc_sort.nd rfl (.inl rfl)))
      (pss_cons (ps_asg (pe_op op_cat (pv 1) (pe_lst (pa_cons (pe_callB (call_isP EX.isx hp hz hf) (by rfl) T.isinstance (by decide +kernel) (pa_cons (pv 0) (pa_cons (pe_glob (v := .ref (c 6)) rfl EN.n6 rfl) pa_nil))) (pa_cons (pe_callB (call_isP EX.isx hp hz hf) (by rfl) T.isinstance (by decide +kernel) (pa_cons (pv 0) (pa_cons (pe_glob (v := .ref (c 7)) rfl EN.n7 rfl) pa_nil))) (pa_cons (pe_callB (call_isP EX.isx hp hz hf) (by rfl) T.isinstance (by decide +kernel) (pa_cons (pv 0) (pa_cons (pe_glob (v := .ref (c 8)) rfl EN.n8 rfl) pa_nil))) pa_nil))))) (pg_name (i := 1) sc_sort.nd rfl (.inl rfl)))
      (pss_cons (ps_asg (pe_op op_cat (pv 1) (pe_lst (pa_cons (pe_callB (call_isP EX.isx hp hz hf) (by rfl) T.isinstance (by decide +kernel) (pa_cons (pv 0) (pa_cons (pe_glob (v := .ref (c 9)) rfl EN.n9 rfl) pa_nil))) (pa_cons (pe_callB (call_isP EX.isx hp hz hf) (by rfl) T.isinstance (by decide +kernel) (pa_cons (pv 0) (pa_cons (pe_glob (v := .ref (c 10)) rfl EN.n10 rfl) pa_nil))) (pa_cons (pe_callB (call_isP EX.isx hp hz hf) (by rfl) T.isinstance (by decide +kernel) (pa_cons (pv 0) (pa_cons (pe_glob (v := .ref (c 11)) rfl EN.n11 rfl) pa_nil))) pa_nil))))) (pg_name (i := 1) sc_sort.nd rfl (.inl rfl)))
      (pss_cons (ps_asg (pe_op op_cat (pv 1) (pe_lst (pa_cons (pe_callB (call_isP EX.isx hp hz hf) (by rfl) T.isinstance (by decide +kernel) (pa_cons (pv 0) (pa_cons (pe_glob (v := .ref (c 12)) rfl EN.n12 rfl) pa_nil))) (pa_cons (pe_callB (call_isP EX.isx hp hz hf) (by rfl) T.isinstance (by decide +kernel) (pa_cons (pv 0) (pa_cons (pe_glob (v := .ref (c 13)) rfl EN.n13 rfl) pa_nil))) (pa_cons (pe_callB (call_isP EX.isx hp hz hf) (by rfl) T.isinstance (by decide +kernel) (pa_cons (pv 0) (pa_cons (pe_glob (v := .ref (c 14)) rfl EN.n14 rfl) pa_nil))) pa_nil))))) (pg_name (i := 1) sc_sort.nd rfl (.inl rfl)))
      (pss_cons (ps_asg (pe_op op_cat (pv 1) (pe_lst (pa_cons (pe_callB (call_isP EX.isx hp hz hf) (by rfl) T.isinstance (by decide +kernel) (pa_cons (pv 0) (pa_cons (pe_glob (v := .ref (c 15)) rfl EN.n15 rfl) pa_nil))) (pa_cons (pe_callB (call_isP EX.isx hp hz hf) (by rfl) T.isinstance (by decide +kernel) (pa_cons (pv 0) (pa_cons (pe_glob (v := .ref (c 16)) rfl EN.n16 rfl) pa_nil))) (pa_cons (pe_callB (call_isP EX.isx hp hz hf) (by rfl) T.isinstance (by decide +kernel) (pa_cons (pv 0) (pa_cons (pe_glob (v := .ref (c 17)) rfl EN.n17 rfl) pa_nil))) pa_nil))))) (pg_name (i := 1) sc_sort.nd rfl (.inl rfl)))
      (pss_cons (ps_asg (pe_op op_cat (pv 1) (pe_lst (pa_cons (pe_callB (call_isP EX.isx hp hz hf) (by rfl) T.isinstance (by decide +kernel) (pa_cons (pv 0) (pa_cons (pe_glob (v := .ref (c 18)) rfl EN.n18 rfl) pa_nil))) (pa_cons (pe_callB (call_isP EX.isx hp hz hf) (by rfl) T.isinstance (by decide +kernel) (pa_cons (pv 0) (pa_cons (pe_glob (v := .ref (c 19)) rfl EN.n19 rfl) pa_nil))) (pa_cons (pe_callB (call_isP EX.isx hp hz hf) (by rfl) T.isinstance (by decide +kernel) (pa_cons (pv 0) (pa_cons (pe_glob (v := .ref (c 20)) rfl EN.n20 rfl) pa_nil))) pa_nil))))) (pg_name (i := 1) sc_sort.nd rfl (.inl rfl)))
      (pss_cons (ps_asg (pe_op op_cat (pv 1) (pe_lst (pa_cons (pe_callB (call_isP EX.isx hp hz hf) (by rfl) T.isinstance (by decide +kernel) (pa_cons (pv 0) (pa_cons (pe_glob (v := .ref (c 21)) rfl EN.n21 rfl) pa_nil))) (pa_cons (pe_callB (call_isP EX.isx hp hz hf) (by rfl) T.isinstance (by decide +kernel) (pa_cons (pv 0) (pa_cons (pe_glob (v := .ref (c 22)) rfl EN.n22 rfl) pa_nil))) (pa_cons (pe_callB (call_isP EX.isx hp hz hf) (by rfl) T.isinstance (by decide +kernel) (pa_cons (pv 0) (pa_cons (pe_glob (v := .ref (c 23)) rfl EN.n23 rfl) pa_nil))) (pa_cons (pe_callB (call_isP EX.isx hp hz hf) (by rfl) T.isinstance (by decide +kernel) (pa_cons (pv 0) (pa_cons (pe_glob (v := .ref (c 24)) rfl EN.n24 rfl) pa_nil))) pa_nil)))))) (pg_name (i := 1) sc_sort.nd rfl (.inl rfl)))
      (pss_cons (ps_asg (pe_op op_cat (pv 1) (pe_lst (pa_cons (pe_callB (call_isP EX.isx hp hz hf) (by rfl) T.isinstance (by decide +kernel) (pa_cons (pv 0) (pa_cons (pe_glob (v := .ref (c 25)) rfl EN.n25 rfl) pa_nil))) (pa_cons (pe_callB (call_isP EX.isx hp hz hf) (by rfl) T.isinstance (by decide +kernel) (pa_cons (pv 0) (pa_cons (pe_glob (v := .ref (c 26)) rfl EN.n26 rfl) pa_nil))) (pa_cons (pe_callB (call_isP EX.isx hp hz hf) (by rfl) T.isinstance (by decide +kernel) (pa_cons (pv 0) (pa_cons (pe_glob (v := .ref (c 27)) rfl EN.n27 rfl) pa_nil))) pa_nil))))) (pg_name (i := 1) sc_sort.nd rfl (.inl rfl)))
      (pss_cons (ps_asg (pe_op op_cat (pv 1) (pe_lst (pa_cons (pe_callB (call_isP EX.isx hp hz hf) (by rfl) T.isinstance (by decide +kernel) (pa_cons (pv 0) (pa_cons (pe_glob (v := .ref (c 28)) rfl EN.n28 rfl) pa_nil))) (pa_cons (pe_callB (call_isP EX.isx hp hz hf) (by rfl) T.isinstance (by decide +kernel) (pa_cons (pv 0) (pa_cons (pe_glob (v := .ref (c 29)) rfl EN.n29 rfl) pa_nil))) (pa_cons (pe_callB (call_isP EX.isx hp hz hf) (by rfl) T.isinstance (by decide +kernel) (pa_cons (pv 0) (pa_cons (pe_glob (v := .ref (c 30)) rfl EN.n30 rfl) pa_nil))) pa_nil))))) (pg_name (i := 1) sc_sort.nd rfl (.inl rfl)))
      (pss_cons (ps_if (pt_cmpR op_ne (pe_bm PySem.F.plainAttrs_list PySem.F.slot_list_count PySem.F.type_list_count (mt_countB (rh65 hr)) (pv 1) (pa_cons pe_bl pa_nil)) pe_int (nomark _))
      (pss_one (ps_ret pe_str))
      pss_nil)
      (pss_cons (ps_asg (pe_bm PySem.F.plainAttrs_list PySem.F.slot_list_index PySem.F.type_list_index (mt_idx (rh65 hr)) (pv 1) (pa_cons pe_bl pa_nil)) (pg_name (i := 2) sc_sort.nd rfl (.inl rfl)))
      (pss_cons (ps_asg (pe_lst (pa_cons (pe_cmpR op_lt (pv 2) pe_int (nomark _)) (pa_cons (pe_chain op_lt op_lt pe_int (pv 2) pe_int) (pa_cons (pe_cmpR op_lt pe_int (pv 2) (nomark _)) pa_nil)))) (pg_name (i := 3) sc_sort.nd rfl (.inl rfl)))
      (pss_cons (ps_asg (pe_lst (pa_cons (pe_callB (call_isP EX.isx hp hz hf) (by rfl) T.isinstance (by decide +kernel) (pa_cons (pv 0) (pa_cons (pe_bltn (v := .ty "ValueError") (u := .type "ValueError") (by rfl) T.ValueError (by decide +kernel) rfl) pa_nil))) (pa_cons (pe_callB (call_isP EX.isx hp hz hf) (by rfl) T.isinstance (by decide +kernel) (pa_cons (pv 0) (pa_cons (pe_bltn (v := .ty "LookupError") (u := .type "LookupError") (by rfl) T.LookupError (by decide +kernel) rfl) pa_nil))) (pa_cons (pe_callB (call_isP EX.isx hp hz hf) (by rfl) T.isinstance (by decide +kernel) (pa_cons (pv 0) (pa_cons (pe_bltn (v := .ty "ArithmeticError") (u := .type "ArithmeticError") (by rfl) T.ArithmeticError (by decide +kernel) rfl) pa_nil))) pa_nil)))) (pg_name (i := 4) sc_sort.nd rfl (.inl rfl)))
      (pss_cons (ps_if (pt_cmpR (op_neD (rhU hr)) (pe_lst (pa_cons (pe_callB (call_isP EX.isx hp hz hf) (by rfl) T.isinstance (by decide +kernel) (pa_cons (pv 0) (pa_cons (pe_glob (v := .ref (c 31)) rfl EN.n31 rfl) pa_nil))) (pa_cons (pe_callB (call_isP EX.isx hp hz hf) (by rfl) T.isinstance (by decide +kernel) (pa_cons (pv 0) (pa_cons (pe_glob (v := .ref (c 32)) rfl EN.n32 rfl) pa_nil))) (pa_cons (pe_callB (call_isP EX.isx hp hz hf) (by rfl) T.isinstance (by decide +kernel) (pa_cons (pv 0) (pa_cons (pe_glob (v := .ref (c 33)) rfl EN.n33 rfl) pa_nil))) pa_nil)))) (pv 3) (nomark _))
      (pss_one (ps_ret pe_str))
      pss_nil)
      (pss_one (ps_ret (pe_ifExp (pt_val (pe_ix ix_list (pv 4) (pe_bm PySem.F.plainAttrs_list PySem.F.slot_list_index PySem.F.type_list_index (mt_idx (rh65 hr)) (pv 3) (pa_cons pe_bl pa_nil)) (fun _ _ => rfl))) (pe_ix ix_list (pe_call0P G_terms hG (hr.mono (by decide)) hp rfl D_terms.mg D_terms.fn.kp D_terms.bd) (pv 2) (fun _ _ => rfl)) pe_str)))))))))))))))))), ?_⟩
    refine ⟨_, rfl, is_r EX EA (i := 0) (by decide) ⟨_, rfl, is_r EX EA (i := 1) (by decide) ⟨_, rfl, is_r EX EA (i := 2) (by decide) ⟨by show 3 ≤ sizeLine; decide, fun q0 m0 => ?_⟩⟩⟩⟩
    have s1 := same_new (o := .lst [.bl (decide (0 = j)), .bl (decide (1 = j)), .bl (decide (2 = j))]) m0
    refine ⟨_, rfl, ⟨_, rfl, is_r EX (EA.same s1) (i := 3) (by decide) ⟨_, rfl, is_r EX (EA.same s1) (i := 4) (by decide) ⟨_, rfl, is_r EX (EA.same s1) (i := 5) (by decide) ⟨by show 3 ≤ sizeLine; decide, fun q1 m1 => ⟨_, q1, _, _, rfl, rfl, same_new m1 _ _ upd_same, upd_same, by show 6 ≤ sizeLine; decide, fun r1 n1 => ?_⟩⟩⟩⟩⟩⟩
    have s2 := (s1.trans (same_new (o := .lst [.bl (decide (3 = j)), .bl (decide (4 = j)), .bl (decide (5 = j))]) m1)).trans (same_new (o := .lst [.bl (decide (0 = j)), .bl (decide (1 = j)), .bl (decide (2 = j)), .bl (decide (3 = j)), .bl (decide (4 = j)), .bl (decide (5 = j))]) n1)
    clear s1
    refine ⟨_, rfl, ⟨_, rfl, is_r EX (EA.same s2) (i := 6) (by decide) ⟨_, rfl, is_r EX (EA.same s2) (i := 7) (by decide) ⟨_, rfl, is_r EX (EA.same s2) (i := 8) (by decide) ⟨by show 3 ≤ sizeLine; decide, fun q2 m2 => ⟨_, q2, _, _, rfl, rfl, same_new m2 _ _ upd_same, upd_same, by show 9 ≤ sizeLine; decide, fun r2 n2 => ?_⟩⟩⟩⟩⟩⟩
    have s3 := (s2.trans (same_new (o := .lst [.bl (decide (6 = j)), .bl (decide (7 = j)), .bl (decide (8 = j))]) m2)).trans (same_new (o := .lst [.bl (decide (0 = j)), .bl (decide (1 = j)), .bl (decide (2 = j)), .bl (decide (3 = j)), .bl (decide (4 = j)), .bl (decide (5 = j)), .bl (decide (6 = j)), .bl (decide (7 = j)), .bl (decide (8 = j))]) n2)
    clear s2
    refine ⟨_, rfl, ⟨_, rfl, is_r EX (EA.same s3) (i := 9) (by decide) ⟨_, rfl, is_r EX (EA.same s3) (i := 10) (by decide) ⟨_, rfl, is_r EX (EA.same s3) (i := 11) (by decide) ⟨by show 3 ≤ sizeLine; decide, fun q3 m3 => ⟨_, q3, _, _, rfl, rfl, same_new m3 _ _ upd_same, upd_same, by show 12 ≤ sizeLine; decide, fun r3 n3 => ?_⟩⟩⟩⟩⟩⟩
    have s4 := (s3.trans (same_new (o := .lst [.bl (decide (9 = j)), .bl (decide (10 = j)), .bl (decide (11 = j))]) m3)).trans (same_new (o := .lst [.bl (decide (0 = j)), .bl (decide (1 = j)), .bl (decide (2 = j)), .bl (decide (3 = j)), .bl (decide (4 = j)), .bl (decide (5 = j)), .bl (decide (6 = j)), .bl (decide (7 = j)), .bl (decide (8 = j)), .bl (decide (9 = j)), .bl (decide (10 = j)), .bl (decide (11 = j))]) n3)
    clear s3
    refine ⟨_, rfl, ⟨_, rfl, is_r EX (EA.same s4) (i := 12) (by decide) ⟨_, rfl, is_r EX (EA.same s4) (i := 13) (by decide) ⟨_, rfl, is_r EX (EA.same s4) (i := 14) (by decide) ⟨by show 3 ≤ sizeLine; decide, fun q4 m4 => ⟨_, q4, _, _, rfl, rfl, same_new m4 _ _ upd_same, upd_same, by show 15 ≤ sizeLine; decide, fun r4 n4 => ?_⟩⟩⟩⟩⟩⟩
    have s5 := (s4.trans (same_new (o := .lst [.bl (decide (12 = j)), .bl (decide (13 = j)), .bl (decide (14 = j))]) m4)).trans (same_new (o := .lst [.bl (decide (0 = j)), .bl (decide (1 = j)), .bl (decide (2 = j)), .bl (decide (3 = j)), .bl (decide (4 = j)), .bl (decide (5 = j)), .bl (decide (6 = j)), .bl (decide (7 = j)), .bl (decide (8 = j)), .bl (decide (9 = j)), .bl (decide (10 = j)), .bl (decide (11 = j)), .bl (decide (12 = j)), .bl (decide (13 = j)), .bl (decide (14 = j))]) n4)
    clear s4
    refine ⟨_, rfl, ⟨_, rfl, is_r EX (EA.same s5) (i := 15) (by decide) ⟨_, rfl, is_r EX (EA.same s5) (i := 16) (by decide) ⟨_, rfl, is_r EX (EA.same s5) (i := 17) (by decide) ⟨by show 3 ≤ sizeLine; decide, fun q5 m5 => ⟨_, q5, _, _, rfl, rfl, same_new m5 _ _ upd_same, upd_same, by show 18 ≤ sizeLine; decide, fun r5 n5 => ?_⟩⟩⟩⟩⟩⟩
    have s6 := (s5.trans (same_new (o := .lst [.bl (decide (15 = j)), .bl (decide (16 = j)), .bl (decide (17 = j))]) m5)).trans (same_new (o := .lst [.bl (decide (0 = j)), .bl (decide (1 = j)), .bl (decide (2 = j)), .bl (decide (3 = j)), .bl (decide (4 = j)), .bl (decide (5 = j)), .bl (decide (6 = j)), .bl (decide (7 = j)), .bl (decide (8 = j)), .bl (decide (9 = j)), .bl (decide (10 = j)), .bl (decide (11 = j)), .bl (decide (12 = j)), .bl (decide (13 = j)), .bl (decide (14 = j)), .bl (decide (15 = j)), .bl (decide (16 = j)), .bl (decide (17 = j))]) n5)
    clear s5
    refine ⟨_, rfl, ⟨_, rfl, is_r EX (EA.same s6) (i := 18) (by decide) ⟨_, rfl, is_r EX (EA.same s6) (i := 19) (by decide) ⟨_, rfl, is_r EX (EA.same s6) (i := 20) (by decide) ⟨by show 3 ≤ sizeLine; decide, fun q6 m6 => ⟨_, q6, _, _, rfl, rfl, same_new m6 _ _ upd_same, upd_same, by show 21 ≤ sizeLine; decide, fun r6 n6 => ?_⟩⟩⟩⟩⟩⟩
    have s7 := (s6.trans (same_new (o := .lst [.bl (decide (18 = j)), .bl (decide (19 = j)), .bl (decide (20 = j))]) m6)).trans (same_new (o := .lst [.bl (decide (0 = j)), .bl (decide (1 = j)), .bl (decide (2 = j)), .bl (decide (3 = j)), .bl (decide (4 = j)), .bl (decide (5 = j)), .bl (decide (6 = j)), .bl (decide (7 = j)), .bl (decide (8 = j)), .bl (decide (9 = j)), .bl (decide (10 = j)), .bl (decide (11 = j)), .bl (decide (12 = j)), .bl (decide (13 = j)), .bl (decide (14 = j)), .bl (decide (15 = j)), .bl (decide (16 = j)), .bl (decide (17 = j)), .bl (decide (18 = j)), .bl (decide (19 = j)), .bl (decide (20 = j))]) n6)
    clear s6
    refine ⟨_, rfl, ⟨_, rfl, is_r EX (EA.same s7) (i := 21) (by decide) ⟨_, rfl, is_r EX (EA.same s7) (i := 22) (by decide) ⟨_, rfl, is_r EX (EA.same s7) (i := 23) (by decide) ⟨_, rfl, is_r EX (EA.same s7) (i := 24) (by decide) ⟨by show 4 ≤ sizeLine; decide, fun q7 m7 => ⟨_, q7, _, _, rfl, rfl, same_new m7 _ _ upd_same, upd_same, by show 25 ≤ sizeLine; decide, fun r7 n7 => ?_⟩⟩⟩⟩⟩⟩⟩
    have s8 := (s7.trans (same_new (o := .lst [.bl (decide (21 = j)), .bl (decide (22 = j)), .bl (decide (23 = j)), .bl (decide (24 = j))]) m7)).trans (same_new (o := .lst [.bl (decide (0 = j)), .bl (decide (1 = j)), .bl (decide (2 = j)), .bl (decide (3 = j)), .bl (decide (4 = j)), .bl (decide (5 = j)), .bl (decide (6 = j)), .bl (decide (7 = j)), .bl (decide (8 = j)), .bl (decide (9 = j)), .bl (decide (10 = j)), .bl (decide (11 = j)), .bl (decide (12 = j)), .bl (decide (13 = j)), .bl (decide (14 = j)), .bl (decide (15 = j)), .bl (decide (16 = j)), .bl (decide (17 = j)), .bl (decide (18 = j)), .bl (decide (19 = j)), .bl (decide (20 = j)), .bl (decide (21 = j)), .bl (decide (22 = j)), .bl (decide (23 = j)), .bl (decide (24 = j))]) n7)
    clear s7
    refine ⟨_, rfl, ⟨_, rfl, is_r EX (EA.same s8) (i := 25) (by decide) ⟨_, rfl, is_r EX (EA.same s8) (i := 26) (by decide) ⟨_, rfl, is_r EX (EA.same s8) (i := 27) (by decide) ⟨by show 3 ≤ sizeLine; decide, fun q8 m8 => ⟨_, q8, _, _, rfl, rfl, same_new m8 _ _ upd_same, upd_same, by show 28 ≤ sizeLine; decide, fun r8 n8 => ?_⟩⟩⟩⟩⟩⟩
    have s9 := (s8.trans (same_new (o := .lst [.bl (decide (25 = j)), .bl (decide (26 = j)), .bl (decide (27 = j))]) m8)).trans (same_new (o := .lst [.bl (decide (0 = j)), .bl (decide (1 = j)), .bl (decide (2 = j)), .bl (decide (3 = j)), .bl (decide (4 = j)), .bl (decide (5 = j)), .bl (decide (6 = j)), .bl (decide (7 = j)), .bl (decide (8 = j)), .bl (decide (9 = j)), .bl (decide (10 = j)), .bl (decide (11 = j)), .bl (decide (12 = j)), .bl (decide (13 = j)), .bl (decide (14 = j)), .bl (decide (15 = j)), .bl (decide (16 = j)), .bl (decide (17 = j)), .bl (decide (18 = j)), .bl (decide (19 = j)), .bl (decide (20 = j)), .bl (decide (21 = j)), .bl (decide (22 = j)), .bl (decide (23 = j)), .bl (decide (24 = j)), .bl (decide (25 = j)), .bl (decide (26 = j)), .bl (decide (27 = j))]) n8)
    clear s8
    refine ⟨_, rfl, ⟨_, rfl, is_r EX (EA.same s9) (i := 28) (by decide) ⟨_, rfl, is_r EX (EA.same s9) (i := 29) (by decide) ⟨_, rfl, is_r EX (EA.same s9) (i := 30) (by decide) ⟨by show 3 ≤ sizeLine; decide, fun q9 m9 => ⟨_, q9, _, _, rfl, rfl, same_new m9 _ _ upd_same, upd_same, by show 31 ≤ sizeLine; decide, fun r9 n9 => ?_⟩⟩⟩⟩⟩⟩
    have s10 := (s9.trans (same_new (o := .lst [.bl (decide (28 = j)), .bl (decide (29 = j)), .bl (decide (30 = j))]) m9)).trans (same_new (o := .lst ([.bl (decide (0 = j)), .bl (decide (1 = j)), .bl (decide (2 = j)), .bl (decide (3 = j)), .bl (decide (4 = j)), .bl (decide (5 = j)), .bl (decide (6 = j)), .bl (decide (7 = j)), .bl (decide (8 = j)), .bl (decide (9 = j)), .bl (decide (10 = j)), .bl (decide (11 = j)), .bl (decide (12 = j)), .bl (decide (13 = j)), .bl (decide (14 = j)), .bl (decide (15 = j)), .bl (decide (16 = j)), .bl (decide (17 = j)), .bl (decide (18 = j)), .bl (decide (19 = j)), .bl (decide (20 = j)), .bl (decide (21 = j)), .bl (decide (22 = j)), .bl (decide (23 = j)), .bl (decide (24 = j)), .bl (decide (25 = j)), .bl (decide (26 = j)), .bl (decide (27 = j))] ++ [.bl (decide (28 = j)), .bl (decide (29 = j)), .bl (decide (30 = j))])) n9)
    clear s9
    dsimp only [gName]
    generalize hx : upd _ r9 _ = Hx at s10 ⊢
    have hLx : Hx r9 = some (.lst ((bitsOf j).map V.bl)) := by
      rw [← hx]
      exact upd_same
    clear hx
    have hL : SqL K Hx r9 ((bitsOf j).map V.bl) := SqL.of hLx
    refine ⟨_, rfl, .inl ⟨rfl, _, hL⟩, r9, bitsOf j, rfl, rfl, hL, rfl, _, rfl, ?_⟩
    rw [sort_count j hj]
    refine ifNF rfl ?_
    refine ⟨_, rfl, .inl ⟨rfl, _, hL⟩, sort_index hj hL ?_⟩
    refine ⟨_, rfl, _, _, rfl, rfl, chain_i (n := 2) rfl ⟨_, rfl, _, _, rfl, rfl, by show 3 ≤ sizeLine; decide, fun a1 b1 => ?_⟩⟩
    rw [due_list hj]
    have t1 := s10.trans (same_new (o := .lst ((dueBits j).map V.bl)) b1)
    have E1 := EA.same t1
    refine ⟨_, rfl, rIsP_in (cv := .type "ValueError") (fun _ r => r) EX.tV E1.2.2 ⟨_, rfl, rIsP_in (cv := .type "LookupError") (fun _ r => r) EX.tL E1.2.2 ⟨_, rfl, rIsP_in (cv := .type "ArithmeticError") (fun _ r => r) EX.tA E1.2.2 ⟨by show 3 ≤ sizeLine; decide, fun a2 b2 => ?_⟩⟩⟩⟩
    have t2 := t1.trans (same_new (o := .lst ((dueBits j).map V.bl)) b2)
    have E2 := EA.same t2
    have D2 := same_new (o := .lst ((dueBits j).map V.bl)) b2 _ _ (upd_same (H := Hx) (a := a1) (o := .lst ((dueBits j).map V.bl)))
    refine ⟨_, rfl, rIsP_in (cv := .ref (c 31)) (fun _ r => r) EX.kV E2.2.2 ⟨_, rfl, rIsP_in (cv := .ref (c 32)) (fun _ r => r) EX.kN E2.2.2 ⟨_, rfl, rIsP_in (cv := .ref (c 33)) (fun _ r => r) EX.kP E2.2.2 ⟨by show 3 ≤ sizeLine; decide, fun a3 b3 => ?_⟩⟩⟩⟩
    have t3 := t2.trans (same_new (o := .lst ((dueBits j).map V.bl)) b3)
    obtain ⟨e1, e2⟩ := due_eqv j hj
    refine ⟨_, rfl, .list ((dueBits j).map PyData.bool), .list ((dueBits j).map PyData.bool), .lst (SqL.of upd_same) (dp_bools (dueBits j)), .lst (SqL.of (same_new b3 _ _ D2)) (dp_bools (dueBits j)), e2, e2, _, rfl, ?_⟩
    rw [e1]
    refine iteF ?_
    have O3 := same_new (o := .lst ((dueBits j).map V.bl)) b3 _ _ (upd_same (a := a2) (o := .lst ((dueBits j).map V.bl)))
    have D3 := same_new (o := .lst ((dueBits j).map V.bl)) b3 _ _ D2
    refine ⟨_, rfl, _, rfl, .inl ⟨rfl, _, SqL.of D3⟩, due_index hj (SqL.of D3) ⟨_, _, _, _, rfl, rfl, SqL.of O3, due_at j hj, _, rfl, iteT ?_⟩⟩
    refine ⟨rfl, fun q H' q0 sq hq => ⟨_, rfl, q, _, _, _, rfl, rfl, SqL.of hq, terms_at j hj, ret _ (t3.trans sq)⟩⟩
end L

namespace Hv
open PySem L2
/-- all that the walks ask of the error class j, of the classes cs -/
def errB (K : PySem.W.Frag) (cs : List Addr) (j : Nat) : Bool :=
  let D := cs.getD j 0
  decide (PySem.W.findIn K (.ref D) "__getattribute__" = some (some (.builtin "BaseException.__getattribute__"))) && (decide (PySem.W.findIn K (.ref D) "__getattr__" = some none) && (decide (PySem.W.subIn K (.ref D) (.type "BaseException") = some true) && (PySem.W.hasDictIn K D &&
  (decide (PySem.W.findIn K (.ref D) "__class__" = some (some (.builtin "object.__class__"))) && (decide (PySem.W.specialIn K (.builtin "object.__class__") "__get__" = some (some (.builtin "getset_descriptor.__get__"))) && (decide (PySem.W.takesIn K (.builtin "object.__class__") = some true) &&
  (decide (PySem.W.mroIn K D (.type "object") = some true) && ((List.range 31).all (fun i => decide (PySem.W.kitOne K (.ref D) (.ref (cs.getD i 0)) = some (decide (i = j)))) && (decide (PySem.W.kitOne K (.ref D) (.ref (cs.getD 31 0)) = some (decide (j < 19))) &&
  (decide (PySem.W.kitOne K (.ref D) (.ref (cs.getD 32 0)) = some (decide (18 < j) && decide (j < 22))) && (decide (PySem.W.kitOne K (.ref D) (.ref (cs.getD 33 0)) = some (decide (21 < j))) && (decide (PySem.W.kitOne K (.ref D) (.type "ValueError") = some (decide (j < 19))) &&
  (decide (PySem.W.kitOne K (.ref D) (.type "LookupError") = some (decide (18 < j) && decide (j < 22))) && (decide (PySem.W.kitOne K (.ref D) (.type "ArithmeticError") = some (decide (21 < j))) && (decide (PySem.W.findIn K (.ref D) "given" = some none) && (decide (PySem.W.findIn K (.ref D) "index" = some none) &&
  (decide (PySem.W.findIn K (.ref D) "kind" = some none) && (decide (PySem.W.findIn K (.ref D) "house" = some none) && decide (PySem.W.exmAny K (.ref D) [.ref (cs.getD 31 0), .ref (cs.getD 32 0), .ref (cs.getD 33 0)] = some true)))))))))))))))))))
theorem errB_ok {K : PySem.W.Frag} {cs : List Addr} {j : Nat} (h : errB K cs j = true) : ErrIx K (fun i => cs.getD i 0) j := by
  unfold errB at h
  simp only [Bool.and_eq_true, decide_eq_true_eq, List.all_eq_true, List.mem_range] at h
  obtain ⟨h1, h2, h3, h4, h5, h6, h7, h8, h9, h10, h11, h12, h13, h14, h15, h16, h17, h18, h19, h20⟩ := h
  exact ⟨⟨h1, h2, h3, h4, h5, h6, h7, h8⟩, ⟨h1, h2, h3, h4⟩, fun i hi => h9 i hi, h10, h11, h12, h13, h14, h15, h16, h17, h18, h19, h20⟩
/-- what the top has left of an error class with one field -/
structure ErrIn (K : PySem.W.Frag) (C : Addr) (f : Str) : Prop where
  oex : OexC K C
  ini : ∃ (fI : Addr) (oc : Value) (od : Option Addr) (kV doc pm : Value) (an : Option Addr) (cd ct : Value) (sl : Array (Option Value)) (q : Str) (p1 p2 q1 q2 q3 q4 : Pos),
    PySem.W.findIn K (.ref C) "__init__" = some (some (.ref fI)) ∧ PySem.W.typeIn K (.ref fI) = some (.type "function") ∧
    K.lookup fI = some ⟨oc, od, .func (PySem.W.fnOf "__init__" q (eA f p1 p2) (eB f q1 q2 q3 q4) (eS f) .none kV doc pm an cd ct), sl⟩ ∧ PySem.W.codeIn K cd q = true
theorem errIn_mk {K : PySem.W.Frag} {C fI : Addr} {f : Str} {nm q0 : Str} {N : Addr} {bs bm : List Value} {sn sub ab col dd k0 k1 k2 k3 k5} {oc : Value} {od : Option Addr} {kV doc pm : Value} {an : Option Addr} {cd ct : Value} {sl : Array (Option Value)} {q : Str} {p1 p2 q1 q2 q3 q4 : Pos}
    (h1 : K.lookup C = some (excClassObj nm q0 C N bs bm true sn sub ab col dd k0 k1 k2 k3 k5 "ValueError.__new__")) (h2 : PySem.HandSPX.refsVE bm = true) (h3 : PySem.W.findIn K (.ref C) "__setattr__" = some (some (.builtin "object.__setattr__")))
    (h4 : PySem.W.subIn K (.ref C) (.type "BaseException") = some true) (h5 : PySem.W.typeIn K (.ref C) = some (.type "type")) (h6 : PySem.W.keepIn K (.ref C) = true) (h7 : PySem.W.findIn K (.ref C) "__init__" = some (some (.ref fI))) (h8 : PySem.W.typeIn K (.ref fI) = some (.type "function"))
    (h9 : K.lookup fI = some ⟨oc, od, .func (PySem.W.fnOf "__init__" q (eA f p1 p2) (eB f q1 q2 q3 q4) (eS f) .none kV doc pm an cd ct), sl⟩) (h10 : PySem.W.codeIn K cd q = true) : ErrIn K C f :=
  ⟨⟨⟨nm, q0, N, bs, bm, sn, sub, ab, col, dd, k0, k1, k2, k3, k5, h1, h2⟩, h3, h4, h5, h6⟩, fI, oc, od, kV, doc, pm, an, cd, ct, sl, q, p1, p2, q1, q2, q3, q4, h7, h8, h9, h10⟩
theorem ErrIn.txt {K : PySem.W.Frag} {mg : Str → Option Value} {C : Addr} {x f : Str} (h : ErrIn K C f) (hm : mg x = some (.ref C)) (hi : ExcC K C) (hn : PySem.W.findIn K (.ref C) f = some none) (hf : FldOk f) : ErrTxt K mg x f C := ⟨hm, hf, h.oex, hi, hn, h.ini⟩
theorem tabIn_code {K : PySem.W.Frag} {x : Str} {c P f : Addr} {oc : Value} {od : Option Addr} {fd : FuncData} {sl : Array (Option Value)} (t : TabIn K x c P) (h1 : PySem.W.nsIn K mainGlobals x = some (some (.ref f))) (h2 : K.lookup f = some ⟨oc, od, .func fd, sl⟩) : fd.code = .ref c := by
  obtain ⟨f', o, fd', e, dd, vs, sl', k1, k2, k3, k4, _⟩ := t
  rw [h1] at k1
  cases k1
  rw [h2] at k2
  cases k2
  cases k3
  exact k4
end Hv

namespace Hv
open PySem L2
def L1 : List V := [.str "InvalidKinds", .str "InvalidRows", .str "InvalidChanges", .str "InvalidWishes", .str "InUse"]
def L2' : List V := [.str "IsClosed", .str "NotListed", .str "TooFew", .str "UsedUp", .str "CannotClose"]
def L3 : List V := [.str "Over", .str "NothingToUndo", .str ""]
theorem held_tab : ∀ j < 31, oneF j = true → inV (.str (term j)) L1 = decide (fieldOf j = "index") ∧ inV (.str (term j)) L2' = decide (fieldOf j = "kind") ∧ inV (.str (term j)) L3 = false ∧ decide (V.str (term j) = V.str "Broken") = false ∧
    (fieldOf j ≠ "index" → fieldOf j ≠ "kind" → fieldOf j = "given") := by decide +kernel
theorem oneF_lt {j : Nat} (h : oneF j = true) : j < 31 := by
  unfold oneF at h
  simp only [Bool.and_eq_true, decide_eq_true_eq] at h
  omega
end Hv
namespace L
open PySem L2 Hv
variable {P : Program} {w : World} {K : PySem.W.Frag} {mg : Str → Option Value} {base : Heap}
abbrev s_held : Stmt := top 63
abbrev N_held : List Str := ["_law_e", "_law_term"]
abbrev P_held : List Str := ["_law_e", "_law_term"]
theorem sc_held : FnScope N_held P_held (defScope s_held) := ⟨rfl, rfl, rfl, by decide +kernel, rfl, by decide +kernel, by decide +kernel⟩
theorem ok_held {f : Addr} {fd : FuncData} {c : Nat → Addr} (D : DefAt K mg "_law_held" s_held P_held f fd) (T : Txt K mg) : FnP P w K mg base 1 f fd P_held (sp_held K c) := by
  refine fnP_of D.fn sc_held (fun p vs H Q E h => ?_) (fun cdv A outer s H vs Q p hG hr h => ?_)
  · obtain ⟨j, d, v, rfl, _⟩ := h
    rfl
  · obtain ⟨j, d, v, rfl, hj, EX, EA, ret⟩ := h
    have hp : p ∈ [p] := List.mem_singleton.mpr rfl
    have hz := EA.1
    have hf := EA.2.1
    have h31 := oneF_lt hj
    obtain ⟨t1, t2, t3, t4, t5⟩ := held_tab j h31 hj
    refine ⟨_, (pss_cons (ps_if (pt_cmpR op_in_seq (pv 1) (pe_lst (pa_cons pe_str (pa_cons pe_str (pa_cons pe_str (pa_cons pe_str (pa_cons pe_str pa_nil)))))) (by rfl))
      (pss_one (ps_ret (pe_xp EX.xf (EX.f_index) hp hz hf (pv 0))))
      pss_nil)
      (pss_cons (ps_if (pt_cmpR op_in_seq (pv 1) (pe_lst (pa_cons pe_str (pa_cons pe_str (pa_cons pe_str (pa_cons pe_str (pa_cons pe_str pa_nil)))))) (by rfl))
      (pss_one (ps_ret (pe_xp EX.xf (EX.f_kind) hp hz hf (pv 0))))
      pss_nil)
      (pss_cons (ps_if (pt_cmpR op_in_seq (pv 1) (pe_lst (pa_cons pe_str (pa_cons pe_str (pa_cons pe_str pa_nil)))) (by rfl))
      (pss_one (ps_ret pe_non))
      pss_nil)
      (pss_one (ps_ret (pe_ifExp (pt_cmpR op_eq (pv 1) pe_str (nomark _)) (pe_lst (pa_cons (pe_xp EX.xf (EX.f_index) hp hz hf (pv 0)) (pa_cons (pe_xp EX.xf (EX.f_house) hp hz hf (pv 0)) pa_nil))) (pe_xp EX.xf (EX.f_given) hp hz hf (pv 0)))))))), ?_⟩
    refine ⟨_, rfl, by show 5 ≤ sizeLine; decide, fun p1 n1 => ⟨p1, L1, rfl, .inl (SqL.of upd_same), rfl, rfl, _, rfl, ?_⟩⟩
    have s1 := same_new (o := .lst L1) n1
    rw [t1]
    by_cases f1 : fieldOf j = "index"
    · refine ifT f1 ⟨_, rfl, rfl, _, v, (EA.same s1).2.2, by rw [f1]; rfl, ret _ s1⟩
    · refine ifF f1 ?_
      refine ⟨_, rfl, by show 5 ≤ sizeLine; decide, fun p2 n2 => ⟨p2, L2', rfl, .inl (SqL.of upd_same), rfl, rfl, _, rfl, ?_⟩⟩
      have s2 := s1.trans (same_new (o := .lst L2') n2)
      rw [t2]
      by_cases f2 : fieldOf j = "kind"
      · refine ifT f2 ⟨_, rfl, rfl, _, v, (EA.same s2).2.2, by rw [f2]; rfl, ret _ s2⟩
      · refine ifF f2 ?_
        refine ⟨_, rfl, by show 3 ≤ sizeLine; decide, fun p3 n3 => ⟨p3, L3, rfl, .inl (SqL.of upd_same), rfl, rfl, _, rfl, ?_⟩⟩
        have s3 := s2.trans (same_new (o := .lst L3) n3)
        rw [t3]
        refine iteF ⟨_, rfl, rfl, _, rfl, ?_⟩
        rw [t4]
        refine iteF ⟨_, rfl, rfl, _, v, (EA.same s3).2.2, by rw [t5 f1 f2]; rfl, ret _ s3⟩
end L
namespace Hv
open PySem PySem.Spec PyProof.Rows L2
theorem pe_imp {X : Cx} {e : Expr} {t t' : TE} (he : PE X e t) (h : ∀ σ H Q, t' σ H Q → t σ H Q) : PE X e t' := ⟨fun pins s σ H Q I q => he.run pins s σ H Q I (h σ H Q q)⟩
/-- what the catcher makes of an error -/
def echQ (K : PySem.W.Frag) (c : Nat → Addr) (Q : VK) : XK := fun cls d H' => ∃ (j : Nat) (b : Addr) (v : V) (pd : PyData) (m n : Nat), cls = .ref (c j) ∧ oneF j = true ∧ ErrIx K c j ∧ XdAt H' d [(fieldOf j, v)] ∧ Dq K b H' v pd ∧ FitQ pd m n ∧ m ≤ 60 ∧ n ≤ 5000 ∧
  ∀ p H2, H' p = none → Same H' H2 → H2 p = some (.lst [.str (term j), .str pd.shown]) → Q (.ref p) H2
/-- what it makes of a value -/
def toldQ (K : PySem.W.Frag) (Q : VK) : VK := fun v H1 => ∃ v0 : V, (some (some v) : Option (Option V)) = some (some v0) ∧ rReprQ K [v0] H1 fun x H2 => 2 ≤ sizeLine ∧ ∀ p, H2 p = none → Q (.ref p) (upd H2 p (.lst [.str "told", x]))
/-- what the catcher makes of a call: tl is its reading -/
def TCaught (K : PySem.W.Frag) (c : Nat → Addr) : (XK → Hp → VK → Prop) → Hp → VK → Prop := fun tl H Q => tl (echQ K c Q) H (toldQ K Q)
end Hv
namespace L
open PySem PySem.Spec PyProof.Rows L2 Hv
abbrev s_caught : Stmt := top 64
abbrev N_caught : List Str := ["_law_act", "_law_told", "_law_e", "_law_term"]
abbrev P_caught : List Str := ["_law_act"]
theorem sc_caught : FnScope N_caught P_caught (defScope s_caught) := ⟨rfl, rfl, rfl, by decide +kernel, rfl, by decide +kernel, by decide +kernel⟩
theorem caught_gives {X : Cx} {c : Nat → Addr} {g f1 f2 : Addr} {fd1 fd2 : FuncData} {cdg : Value} {q : Str} (hX : Room 4 X.A) (hG : X.A.guards = some []) (T : Txt X.K X.mg) (EN : ErrNames X.mg c)
    (D_sort : DefAt X.K X.mg "_law_sort" s_sort P_sort f1 fd1) (G_sort : FnP X.prog X.w X.K X.mg X.base 2 f1 fd1 P_sort (sp_sort X.K c))
    (D_held : DefAt X.K X.mg "_law_held" s_held P_held f2 fd2) (G_held : FnP X.prog X.w X.K X.mg X.base 1 f2 fd2 P_held (sp_held X.K c)) :
    LamX.GivesTo X N_caught "_law_caught" (defScope s_caught) g cdg (defBody s_caught) "_law_act" q (TCaught X.K c) := by
  intro f c' s H Q tl act hc h
  have rm := (L2H.roomH_of (hX.deeper (envOfC "_law_caught" (defScope s_caught) s.heap.objs.size g cdg))).mono (by decide : 2 ≤ 3)
  have bR : bootBuiltins "repr" = some (.builtin "repr") := by decide +kernel
  have hr := hX.deeper (envOfC "_law_caught" (defScope s_caught) s.heap.objs.size g cdg)
  refine ⟨_, pss_cons (ps_try_tup (X := (cxOf CX0 X.prog X.w X.K X.mg X.base N_caught "_law_caught" (defScope s_caught) g cdg X.A X.stack s H E0).nox) (i := 2)
      (tb := fun W D σ H => ∃ Ech : XK, (∀ cls d σ' H', Ech cls d H' → W cls d σ' H') ∧ σ[0]? = some (some (.ref f)) ∧ H c' = some (LamX.CodeO c' q) ∧ tl Ech H (fun v H' => D.nx (σ.set 1 (some v)) H'))
      rfl rfl sc_caught.nd rfl rfl rfl rfl rfl EN.n31 EN.n32 EN.n33 (fun W pn xe tk _ => ?b) (fun a oe cls d pn hz hf => pss_cons (ps_asg (pe_imp (t' := fun σ H Q => ∃ (j : Nat) (v : V), cls = .ref (c j) ∧ σ[2]? = some (some (.ref a)) ∧ j < 31 ∧ ErrIx X.K c j ∧ XdAt H d [(fieldOf j, v)] ∧ ∀ H', Same H H' → Q (.str (term j)) H')
          (pe_callP (X := (cxOf CX0 X.prog X.w X.K X.mg X.base N_caught "_law_caught" (defScope s_caught) g cdg X.A X.stack s H E0).nox.suite a ((a, oe) :: pn)) (p := (a, oe)) (x := "_law_sort") G_sort hG ⟨rm.dp, rm.un⟩ List.mem_cons_self rfl D_sort.mg D_sort.fn.kp D_sort.bd (pa_cons (pv 2) pa_nil)) ?s1) (pg_name (i := 3) sc_caught.nd rfl (.inl rfl)))
        (pss_one (ps_ret (pe_lst (pa_cons (pv 3) (pa_cons (pe_callB (show CallR ((cxOf CX0 X.prog X.w X.K X.mg X.base N_caught "_law_caught" (defScope s_caught) g cdg X.A X.stack s H E0).nox.suite a ((a, oe) :: pn)) (.builtin "repr") (rReprQ X.K) from cr_reprQ hG hr.units) (by rfl) T.repr bR (pa_cons (pe_imp (t' := fun σ H Q => ∃ (j : Nat) (v : V), cls = .ref (c j) ∧ σ[2]? = some (some (.ref a)) ∧ σ[3]? = some (some (.str (term j))) ∧ oneF j = true ∧ ErrIx X.K c j ∧ XdAt H d [(fieldOf j, v)] ∧ ∀ H', Same H H' → Q v H')
            (pe_callP (X := (cxOf CX0 X.prog X.w X.K X.mg X.base N_caught "_law_caught" (defScope s_caught) g cdg X.A X.stack s H E0).nox.suite a ((a, oe) :: pn)) (p := (a, oe)) (x := "_law_held") G_held hG ⟨(rm.mono (by decide : 1 ≤ 2)).dp, (rm.mono (by decide : 1 ≤ 2)).un⟩ List.mem_cons_self rfl D_held.mg D_held.fn.kp D_held.bd (pa_cons (pv 2) (pa_cons (pv 3) pa_nil))) ?s2) pa_nil)) pa_nil)))))))
      (pss_one (ps_ret (pe_lst (pa_cons pe_str (pa_cons (pe_callB (cr_reprQ (X := (cxOf CX0 X.prog X.w X.K X.mg X.base N_caught "_law_caught" (defScope s_caught) g cdg X.A X.stack s H E0).nox) hG hr.units) (by rfl) T.repr bR (pa_cons (pv 1) pa_nil)) pa_nil))))), ?_⟩
  case b =>
    refine ⟨fun pins s' σ H' D I h' => ?_⟩
    obtain ⟨Ech, hW, h1, h2, h3⟩ := h'
    exact (pss_one (ps_asg (act W pn xe Ech _ _ tk hW) (pg_name (i := 1) sc_caught.nd rfl (.inl rfl)))).run pins s' σ H' D I ⟨h1, h2, h3⟩
  case s1 =>
    rintro σ H Q ⟨j, v, rfl, hs, hj, EX, xd, q⟩
    exact ⟨_, hs, j, d, v, rfl, hj, EX, ⟨hz, hf, xd⟩, q⟩
  case s2 =>
    rintro σ H Q ⟨j, v, rfl, hs, ht, hj, EX, xd, q⟩
    exact ⟨_, hs, _, ht, j, d, v, rfl, hj, EX, ⟨hz, hf, xd⟩, q⟩
  refine ⟨echQ X.K c Q, fun cls d σ' H' z => ?_, rfl, hc, ?_⟩
  · obtain ⟨j, b, v, pd, m, n, rfl, hj, EX, xd, hd, ft, hm, hn, ret⟩ := z
    intro len
    refine ⟨EX.any, fun a na => ?_⟩
    have len : σ'.length = 4 := len
    match σ', len with
    | [x0, x1, x2, x3], _ =>
    refine ⟨j, v, rfl, rfl, oneF_lt hj, EX, xd, fun H1 s1 => ?_⟩
    refine ⟨_, rfl, j, v, rfl, rfl, rfl, hj, EX, xd.same s1, fun H2 s2 => ?_⟩
    have s12 := s1.trans s2
    refine rd_reprQ (hd.same s12) ft hm hn ⟨by show 2 ≤ sizeLine; decide, fun p np => ?_⟩
    exact ret p _ (s12.free np) (s12.trans (same_new np)) upd_same
  · exact h
end L

namespace Hv
open PySem PySem.Spec PyProof.Rows L2
/-- the rule for a def, where no repr is under way; its code object is known -/
theorem okGc {P : Program} {w : World} {K : PySem.W.Frag} {mg : Str → Option Value} {base : Heap} {k : Nat} {f cR : Addr} {fd : FuncData} {ps : List Str} {sp : Sp} {x qual : Str} {st : Stmt} {N : List Str} (F : Fun K x qual st f fd) (S : FnScope N ps (defScope st)) (hcode : fd.code = .ref cR)
    (len : ∀ vs H Q E, sp vs H Q E → vs.length = ps.length)
    (body : ∀ (A : Around) (outer : List Env) (s : Shared) (H : Hp) (vs : List V) (Q : VK) (E : XK), A.guards = some [] → Room k (A.deeper (envOfC qual (defScope st) s.heap.objs.size f (.ref cR))) → sp vs H Q E →
      ∃ t, PSs (cxOf CX0 P w K mg base N qual (defScope st) f (.ref cR) A outer s H E).nox (defBody st) t ∧ t { nx := fun _ H' => Q .non H', rt := Q } (start N vs) H) : OkG P w K mg base CX0 (k + 1) f fd ps sp := by
  obtain ⟨oc, od, kV, doc, pm, an, cdv, ct, osl, rfl, lk, hcd⟩ := F.ex
  cases (show cdv = .ref cR from hcode)
  refine ⟨len, fun A outer s H args us vs Q E hg hr e0 hb r hsp => ?_⟩
  have X := e0.mod.kin.keeps (fun b o e => (e0.bs b o e).1)
  have lim := e0.mod.nolimit.keeps (fun b o e => (e0.bs b o e).1)
  have kinds : ∀ y ∈ ps.zip us, (defScope st).names.lookup y.1 = some .local ∨ ((defScope st).names.lookup y.1 = some .cell ∧ ((cellsFrom (s.heap.objs.size + 1) (defScope st).names []).lookup y.1).isSome = true) := by
    rintro ⟨n, v⟩ hy
    exact (S.par n (List.of_mem_zip hy).1).imp id fun q => ⟨q, PySem.W.cellsFrom_some _ _ _ (Or.inl q)⟩
  apply codeAny_call_function hr.depth (X _ _ lk) rfl S.co S.gen rfl (PySem.W.codeRec_of X hcd)
  apply hb
  refine wpAny_newFunctionEnv_cells S.kind kinds ?_
  rintro env rfl s1 x
  refine ⟨lim.keeps x.toInCall.keep, codeAny_func ?_⟩
  obtain ⟨t, ht, hq⟩ := body A outer s H vs Q E hg (hr.deeper _) hsp
  have I := inv_start (CX := CX0) (E := E) S hr.hd e0 (len _ _ _ _ hsp) r x
  apply wpAny_mono (ht.nox.run [] s1 (start N vs) H _ I hq)
  · intro fl s' hs
    cases fl with
    | ret u => obtain ⟨v, σ', H', J, rv, q⟩ := hs; exact ⟨v, H', J.os, J.bare, J.base, J.hok, rv, q⟩
    | next => obtain ⟨σ', H', J, q⟩ := hs; exact ⟨V.non, H', J.os, J.bare, J.base, J.hok, rfl, q⟩
    | brk => obtain ⟨_, _, _, q⟩ := hs; exact q.elim
    | cont => obtain ⟨_, _, _, q⟩ := hs; exact q.elim
  · exact fun e s' hs => hs
/-! ### all but the tables stays -/
theorem ext_seq {K : PySem.W.Frag} {H H' : Hp} {a : Addr} {xs : List V} (e : LamX.ExtN H H') (h : SqL K H a xs) : SqL K H' a xs := by
  rcases h with (h | ⟨o, h⟩) | h
  · exact .inl (.inl (e _ _ h (by intro ps q; cases q)))
  · exact .inl (.inr ⟨o, e _ _ h (by intro ps q; cases q)⟩)
  · exact .inr h
theorem ext_bag {H H' : Hp} {b : Addr} {n : Nat} (e : LamX.ExtN H H') (h : Bag H b n) : Bag H' b n := by
  obtain ⟨s, d, m, h1, h2⟩ := h
  exact ⟨s, d, m, e _ _ h1 (by intro ps q; cases q), h2⟩
theorem ext_free {H H' : Hp} {a : Addr} (e : LamX.ExtN H H') (h : H' a = none) : H a = none ∨ ∃ ps, H a = some (.tbl ps) := by
  cases q : H a with
  | none => exact .inl rfl
  | some o =>
    by_cases z : ∃ ps, o = .tbl ps
    · obtain ⟨ps, rfl⟩ := z
      exact .inr ⟨ps, rfl⟩
    · rw [e a o q (fun ps w => z ⟨ps, w⟩)] at h
      cases h
mutual
theorem dq_ext {K : PySem.W.Frag} {b : Addr} {H H' : Hp} (e : LamX.ExtN H H') : ∀ {d : PyData} {v : V}, Dq K b H v d → Dq K b H' v d
  | _, _, .non => .non
  | _, _, .bl k => .bl k
  | _, _, .int i => .int i
  | _, _, .str z => .str z
  | _, _, .lst h n t => .lst (e _ _ h (by intro ps q; cases q)) n (dq_extAll e t)
  | _, _, .tup h t => .tup (e _ _ h (by intro ps q; cases q)) (dq_extAll e t)
  | _, _, .emp h => .emp (e _ _ h (by intro ps q; cases q))
theorem dq_extAll {K : PySem.W.Frag} {b : Addr} {H H' : Hp} (e : LamX.ExtN H H') : ∀ {ds : List PyData} {vs : List V}, DqAll K b H vs ds → DqAll K b H' vs ds
  | _, _, .nil => .nil
  | _, _, .cons h t => .cons (dq_ext e h) (dq_extAll e t)
end
/-- all but b and the tables stays -/
def ExtB (b : Addr) (H H' : Hp) : Prop := ∀ a o, a ≠ b → H a = some o → (∀ ps, o ≠ .tbl ps) → H' a = some o
theorem ExtB.of {b : Addr} {H H' : Hp} (e : But b H H') : ExtB b H H' := fun a o n h _ => e a o n h
theorem ExtB.ofN {b : Addr} {H H' : Hp} (e : LamX.ExtN H H') : ExtB b H H' := fun a o _ h n => e a o h n
theorem ExtB.trans {b : Addr} {H H1 H2 : Hp} (x : ExtB b H H1) (y : ExtB b H1 H2) : ExtB b H H2 := fun a o n h z => y a o n (x a o n h z) z
theorem ExtB.seq {b a : Addr} {K : PySem.W.Frag} {H H' : Hp} {xs : List V} (e : ExtB b H H') (n : a ≠ b) (h : SqL K H a xs) : SqL K H' a xs := by
  rcases h with (h | ⟨o, h⟩) | h
  · exact .inl (.inl (e _ _ n h (by intro ps q; cases q)))
  · exact .inl (.inr ⟨o, e _ _ n h (by intro ps q; cases q)⟩)
  · exact .inr h
theorem tabs_but {T : List (Addr × Str)} {H H' : Hp} {b : Addr} {n : Nat} (t : LamX.Tabs T H) (hb : Bag H b n) (e : But b H H') : LamX.Tabs T H' := fun p hp => by
  obtain ⟨s, d, m, hb, _⟩ := hb
  obtain ⟨ps, h1, h2, h3⟩ := t p hp
  have nb : p.1 ≠ b := ne_of h1 hb (by intro q; cases q)
  refine ⟨ps, e _ _ nb h1, h2, fun pos cv hc => ?_⟩
  obtain ⟨c, e1, e2⟩ := h3 pos cv hc
  exact ⟨c, e1, e _ _ (ne_of e2 hb (by intro q; unfold LamX.CodeO at q; cases q)) e2⟩
theorem tabs_nil {T : List (Addr × Str)} {H : Hp} (h : ∀ p ∈ T, H p.1 = some (.tbl #[])) : LamX.Tabs T H := fun p hp => LamX.TabS.nil (h p hp)
end Hv
namespace L
open PySem PySem.Spec PyProof.Rows L2 Hv
/-- _law_caught(lambda: body) -/
theorem pe_caught {X : Cx} {c : Nat → Addr} {g f1 f2 cR PR : Addr} {fdg fd1 fd2 : FuncData} {k : Nat} {Tb : List (Addr × Str)} {params : Arguments} {body : Expr} {scope : Scope} {t : XK → TE} {p lpos pos : Pos} (hX : Room (k + 4) X.A) (hG : X.A.guards = some []) (T : Txt X.K X.mg) (EN : ErrNames X.mg c)
    (D_caught : DefAt X.K X.mg "_law_caught" s_caught P_caught g fdg) (D_sort : DefAt X.K X.mg "_law_sort" s_sort P_sort f1 fd1) (G_sort : FnP X.prog X.w X.K X.mg X.base 2 f1 fd1 P_sort (sp_sort X.K c))
    (D_held : DefAt X.K X.mg "_law_held" s_held P_held f2 fd2) (G_held : FnP X.prog X.w X.K X.mg X.base 1 f2 fd2 P_held (sp_held X.K c)) (hg : Gl X "_law_caught")
    (TB : LamX.TabB X.base X.mg cR PR) (hcode : X.env.code = .ref cR) (hmT : (PR, X.env.qual ++ "<lambda>") ∈ Tb) (hu : ∀ p ∈ Tb, p.1 = PR → p.2 = X.env.qual ++ "<lambda>") (L : LamX.LamS X.env.scope scope) (hdef : defaultsOf params X.env = ([], []))
    (hbind : ∀ (q : Str) (cl : List (Str × Addr)) (pm cv ctv : Value), bindArgs (PySem.W.kla_fn "<lambda>" q params body scope cl pm cv ctv) ⟨[], []⟩ = pure [])
    (hbody : ∀ (A : Around) (outer : List Env) (s : Shared) (H : Hp) (E : XK) (f c' : Addr), Room k (A.deeper (LamX.lamEnv X scope s.heap.objs.size f c')) → PE (LamX.lamCx X A outer s H E scope f c') body (t E)) :
    PE X (.Call (.Name "_law_caught" p) [.Lambda params body scope lpos] [] pos) (LamX.tLam Tb (TCaught X.K c) t) := by
  obtain ⟨oc, od, kV, doc, pm, an, cdv, ct, osl, hfd, lk, hcd⟩ := D_caught.fn.ex
  subst hfd
  exact LamX.pe_lamcall hg D_caught.mg D_caught.fn.kp lk hcd D_caught.bd sc_caught rfl (.inl rfl) (caught_gives (hX.mono (by omega)) hG T EN D_sort G_sort D_held G_held) TB hcode hmT hu (hX.mono (by omega)) L hdef hbind hbody
end L

namespace Hv
open PySem L2
def isIntD : PyData → Bool
  | .int _ => true
  | _ => false
def isStrD : PyData → Bool
  | .str _ => true
  | _ => false
def geD (d : PyData) (low : Int) : Bool := match d with
  | .int i => decide (low ≤ i)
  | _ => false
def lessD (d e : PyData) : Bool := match d, e with
  | .int i, .int j => decide (i < j)
  | _, _ => false
/-- texts of it are short -/
def shortD : PyData → Bool
  | .str z => decide (z.length ≤ 1000)
  | _ => true
/-- an error of the class j is let out, with v -/
def GivenE (c : Nat → Addr) (j : Nat) (E : XK) (H : Hp) (v : V) : Prop := ∀ d H', H d = none → Same H H' → H' d = some (.xd [(fieldOf j, v)]) → E (.ref (c j)) (some d) H'
theorem GivenE.at {c : Nat → Addr} {j : Nat} {E : XK} {H H1 : Hp} {v : V} (h : GivenE c j E H v) (s : Same H H1) : ∀ d, H1 d = none → E (.ref (c j)) (some d) (upd H1 d (.xd [(fieldOf j, v)])) := fun d hd =>
  h d _ (s.free hd) (s.trans (same_new hd)) upd_same
section
variable {K : PySem.W.Frag} {b : Addr} {H : Hp} {v : V} {d : PyData} {Q : VK} {E : XK}
theorem kit_int (d : PyData) : ∃ b1 b2, PySem.W.kitOne K (.type (tyName d)) (.type "int") = some b1 ∧ PySem.W.kitOne K (.type (tyName d)) (.type "bool") = some b2 ∧ (b1 && !b2) = isIntD d := by
  cases d with
  | none => exact ⟨false, false, kit_ty (by dsimp only [tyName, isStrD]; decide +kernel), kit_ty (by dsimp only [tyName, isStrD]; decide +kernel), rfl⟩
  | bool _ => exact ⟨true, true, kit_ty (by dsimp only [tyName, isStrD]; decide +kernel), kit_ty (by dsimp only [tyName, isStrD]; decide +kernel), rfl⟩
  | int _ => exact ⟨true, false, kit_ty (by dsimp only [tyName, isStrD]; decide +kernel), kit_ty (by dsimp only [tyName, isStrD]; decide +kernel), rfl⟩
  | str _ => exact ⟨false, false, kit_ty (by dsimp only [tyName, isStrD]; decide +kernel), kit_ty (by dsimp only [tyName, isStrD]; decide +kernel), rfl⟩
  | list _ => exact ⟨false, false, kit_ty (by dsimp only [tyName, isStrD]; decide +kernel), kit_ty (by dsimp only [tyName, isStrD]; decide +kernel), rfl⟩
  | tuple _ => exact ⟨false, false, kit_ty (by dsimp only [tyName, isStrD]; decide +kernel), kit_ty (by dsimp only [tyName, isStrD]; decide +kernel), rfl⟩
  | dict _ => exact ⟨false, false, kit_ty (by dsimp only [tyName, isStrD]; decide +kernel), kit_ty (by dsimp only [tyName, isStrD]; decide +kernel), rfl⟩
theorem kit_str (d : PyData) : PySem.W.kitOne K (.type (tyName d)) (.type "str") = some (isStrD d) := by
  cases d <;> exact kit_ty (by dsimp only [tyName, isStrD]; decide +kernel)
theorem is_int_d (h : Dq K b H v d) (q : Q (.bl (isIntD d)) H) : lk (sp_is_integer K) [v] H Q E := by
  refine lk_in ?_
  obtain ⟨b1, b2, k1, k2, e⟩ := kit_int (K := K) d
  rw [← e] at q
  exact ⟨v, _, b1, b2, rfl, h.ty, k1, k2, q⟩
end
end Hv

namespace Hv
open PySem L2 Evl
/-- data, no list of it where H0 has something -/
def Dn (K : PySem.W.Frag) (H0 H : Hp) (v : V) (d : PyData) : Prop := ∀ a, H0 a ≠ none → Dq K a H v d
def DnAll (K : PySem.W.Frag) (H0 H : Hp) (vs : List V) (ds : List PyData) : Prop := ∀ a, H0 a ≠ none → DqAll K a H vs ds
/-- an expression that makes data, an argument list that does -/
def EvQ (K : PySem.W.Frag) (H0 : Hp) (te : TE) (σ : L2.St) (H : Hp) (d : PyData) : Prop := ∀ H1, Ex H H1 → Ex H0 H1 → ∀ Q : VK, (∀ v H2, Ex H1 H2 → Dn K H0 H2 v d → Q v H2) → te σ H1 Q
def EvQA (K : PySem.W.Frag) (H0 : Hp) (ta : TA) (σ : L2.St) (H : Hp) (ds : List PyData) : Prop := ∀ H1, Ex H H1 → Ex H0 H1 → ∀ Q : List V → Hp → Prop, (∀ vs H2, Ex H1 H2 → vs.length = ds.length → DnAll K H0 H2 vs ds → Q vs H2) → ta σ H1 Q
theorem Dn.same {K : PySem.W.Frag} {H0 H H' : Hp} {v : V} {d : PyData} (h : Dn K H0 H v d) (e : Ex H H') : Dn K H0 H' v d := fun a ha => (h a ha).same e
theorem DnAll.same {K : PySem.W.Frag} {H0 H H' : Hp} {vs : List V} {ds : List PyData} (h : DnAll K H0 H vs ds) (e : Ex H H') : DnAll K H0 H' vs ds := fun a ha => (h a ha).same e
mutual
/-- the bag changes -/
theorem Dq.two {K : PySem.W.Frag} {a b : Addr} {n : Nat} {H H' : Hp} (hb : Bag H b n) (e : But b H H') : ∀ {d : PyData} {v : V}, Dq K b H v d → Dq K a H v d → Dq K a H' v d
  | _, _, .non, _ => .non
  | _, _, .bl k, _ => .bl k
  | _, _, .int i, _ => .int i
  | _, _, .str z, _ => .str z
  | _, _, .lst h nb t, h2 => by
    cases h2 with
    | lst h' na t' =>
      rw [h] at h'
      cases h'
      exact .lst (e _ _ nb h) na (DqAll.two hb e t t')
  | _, _, .tup h t, h2 => by
    cases h2 with
    | tup h' t' =>
      rw [h] at h'
      cases h'
      exact .tup (e _ _ (by obtain ⟨_, _, _, hb, _⟩ := hb; exact ne_of h hb (by intro q; cases q)) h) (DqAll.two hb e t t')
  | _, _, .emp h, _ => .emp (e _ _ (by obtain ⟨_, _, _, hb, _⟩ := hb; exact ne_of h hb (by intro q; cases q)) h)
theorem DqAll.two {K : PySem.W.Frag} {a b : Addr} {n : Nat} {H H' : Hp} (hb : Bag H b n) (e : But b H H') : ∀ {ds : List PyData} {vs : List V}, DqAll K b H vs ds → DqAll K a H vs ds → DqAll K a H' vs ds
  | _, _, .nil, _ => .nil
  | _, _, .cons h t, h2 => by
    cases h2 with
    | cons h' t' => exact .cons (Dq.two hb e h h') (DqAll.two hb e t t')
end
mutual
/-- a list is put in the place of a list that is none of the data's -/
theorem Dq.put {K : PySem.W.Frag} {a p : Addr} {xs : List V} {H : Hp} {o : HO} (hp : H p = some (.lst xs)) : ∀ {d : PyData} {v : V}, Dq K p H v d → Dq K a H v d → Dq K a (upd H p o) v d
  | _, _, .non, _ => .non
  | _, _, .bl k, _ => .bl k
  | _, _, .int i, _ => .int i
  | _, _, .str z, _ => .str z
  | _, _, .lst h nb t, h2 => by
    cases h2 with
    | lst h' na t' =>
      rw [h] at h'
      cases h'
      exact .lst (by rw [upd_ne nb]; exact h) na (DqAll.put hp t t')
  | _, _, .tup h t, h2 => by
    cases h2 with
    | tup h' t' =>
      rw [h] at h'
      cases h'
      exact .tup (by rw [upd_ne (ne_of h hp (by intro q; cases q))]; exact h) (DqAll.put hp t t')
  | _, _, .emp h, _ => .emp (by rw [upd_ne (ne_of h hp (by intro q; cases q))]; exact h)
theorem DqAll.put {K : PySem.W.Frag} {a p : Addr} {xs : List V} {H : Hp} {o : HO} (hp : H p = some (.lst xs)) : ∀ {ds : List PyData} {vs : List V}, DqAll K p H vs ds → DqAll K a H vs ds → DqAll K a (upd H p o) vs ds
  | _, _, .nil, _ => .nil
  | _, _, .cons h t, h2 => by
    cases h2 with
    | cons h' t' => exact .cons (Dq.put hp h h') (DqAll.put hp t t')
end
theorem DqAll.set {K : PySem.W.Frag} {b : Addr} {H : Hp} {v : V} {d : PyData} (h : Dq K b H v d) : ∀ {vs : List V} {ds : List PyData} (i : Nat), DqAll K b H vs ds → DqAll K b H (vs.set i v) (ds.set i d)
  | _, _, _, .nil => .nil
  | _, _, 0, .cons _ t => .cons h t
  | _, _, i + 1, .cons h' t => .cons h' (DqAll.set h i t)
theorem DqAll.len {K : PySem.W.Frag} {b : Addr} {H : Hp} : ∀ {vs : List V} {ds : List PyData}, DqAll K b H vs ds → vs.length = ds.length
  | _, _, .nil => rfl
  | _, _, .cons _ t => congrArg (· + 1) (DqAll.len t)
theorem DqAll.app {K : PySem.W.Frag} {b : Addr} {H : Hp} {ws : List V} {es : List PyData} (h2 : DqAll K b H ws es) : ∀ {vs : List V} {ds : List PyData}, DqAll K b H vs ds → DqAll K b H (vs ++ ws) (ds ++ es)
  | _, _, .nil => h2
  | _, _, .cons h t => .cons h (DqAll.app h2 t)
theorem DqAll.at {K : PySem.W.Frag} {b : Addr} {H : Hp} : ∀ {vs : List V} {ds : List PyData} (i : Nat), DqAll K b H vs ds → i < ds.length → ∃ v d, vs[i]? = some v ∧ ds[i]? = some d ∧ Dq K b H v d
  | _, _, _, .nil, h => absurd h (Nat.not_lt_zero _)
  | _, _, 0, .cons h _, _ => ⟨_, _, rfl, rfl, h⟩
  | _, _, i + 1, .cons _ t, hi => by
    obtain ⟨v, d, h1, h2, h3⟩ := DqAll.at i t (Nat.lt_of_succ_lt_succ hi)
    exact ⟨v, d, by simpa using h1, by simpa using h2, h3⟩
theorem ne_keep {H H1 : Hp} {b : Addr} (h : H b ≠ none) (e : Ex H H1) : H1 b ≠ none := by
  cases q : H b with
  | none => exact absurd q h
  | some o => rw [e b o q]; intro z; cases z
theorem Bag.some {H : Hp} {b : Addr} {n : Nat} (h : Bag H b n) : H b ≠ none := by
  obtain ⟨_, _, _, hb, _⟩ := h
  rw [hb]
  intro z
  cases z
section
variable {K : PySem.W.Frag} {H0 : Hp} {b : Addr} {σ : L2.St} {H : Hp} {te : TE} {ta : TA} {d : PyData} {ds es : List PyData}
theorem eq_non : EvQ K H0 (tC .non) σ H .none := fun H1 _ _ _ q => q _ H1 (Ex.refl H1) fun _ _ => .non
theorem eq_bl {k : Bool} : EvQ K H0 (tC (.bl k)) σ H (.bool k) := fun H1 _ _ _ q => q _ H1 (Ex.refl H1) fun _ _ => .bl k
theorem eq_int {i : Int} : EvQ K H0 (tC (.int i)) σ H (.int i) := fun H1 _ _ _ q => q _ H1 (Ex.refl H1) fun _ _ => .int i
theorem eq_str {z : Str} : EvQ K H0 (tC (.str z)) σ H (.str z) := fun H1 _ _ _ q => q _ H1 (Ex.refl H1) fun _ _ => .str z
theorem eq_ev {i : Int} (h : Ev te σ H (.int i)) : EvQ K H0 te σ H (.int i) := fun H1 e _ _ q => h H1 e _ fun H2 e2 => q _ H2 e2 fun _ _ => .int i
theorem eq_evs {z : Str} (h : Ev te σ H (.str z)) : EvQ K H0 te σ H (.str z) := fun H1 e _ _ q => h H1 e _ fun H2 e2 => q _ H2 e2 fun _ _ => .str z
theorem eq_var {i : Nat} {v : V} (h : σ[i]? = some (some v)) (hd : Dn K H0 H v d) : EvQ K H0 (tVar i) σ H d := fun H1 e _ _ q => ⟨v, h, q _ H1 (Ex.refl H1) (hd.same e)⟩
theorem new_ne {H2 : Hp} {p a : Addr} (e : Ex H0 H2) (np : H2 p = none) (ha : H0 a ≠ none) : p ≠ a := fun z => ne_keep ha e (z ▸ np)
theorem eq_tup (h : EvQA K H0 ta σ H ds) (hl : ds.length ≤ 1000 := by decide) : EvQ K H0 (tTup ta) σ H (.tuple ds) := fun H1 e nb _ q => h H1 e nb _ fun vs H2 e2 l2 q2 =>
  ⟨sz_of (by rw [l2]; omega), fun p np => q _ _ (e2.trans (Ex.new np)) fun a ha => .tup upd_same ((q2 a ha).same (Ex.new np))⟩
theorem eq_lst (h : EvQA K H0 ta σ H ds) (hl : ds.length ≤ 1000 := by decide) : EvQ K H0 (tLst ta) σ H (.list ds) := fun H1 e nb _ q => h H1 e nb _ fun vs H2 e2 l2 q2 =>
  ⟨sz_of (by rw [l2]; omega), fun p np => q _ _ (e2.trans (Ex.new np)) fun a ha => .lst upd_same (new_ne (nb.trans e2) np ha) ((q2 a ha).same (Ex.new np))⟩
theorem eq_emp : EvQ K H0 tDNewK σ H (.dict []) := fun H1 _ _ _ q p np => q _ _ (Ex.new np) fun _ _ => .emp upd_same
theorem eqa_nil : EvQA K H0 tNil σ H [] := fun H1 _ _ _ q => q _ H1 (Ex.refl H1) rfl fun _ _ => .nil
theorem eqa_cons (h : EvQ K H0 te σ H d) (t : EvQA K H0 ta σ H ds) : EvQA K H0 (tCons te ta) σ H (d :: ds) := fun H1 e nb _ q => h H1 e nb _ fun v H2 e2 q2 =>
  t H2 (e.trans e2) (nb.trans e2) _ fun vs H3 e3 l3 q3 => q _ H3 (e2.trans e3) (by rw [List.length_cons, List.length_cons, l3]) fun a ha => .cons ((q2 a ha).same e3) (q3 a ha)
/-- x = [..] -/
theorem q_asgQ {i : Nat} {D : Ends} {tz : TS} (h : EvQA K H0 ta σ H ds) (nb : Ex H0 H) (hl : ds.length ≤ 1000) (k : ∀ p vs H1, Ex H H1 → H1 p = some (.lst vs) → H p = none → vs.length = ds.length → DnAll K H0 H1 vs ds → tz D (σ.set i (some (.ref p))) H1) : tSeq (tAsg (tLst ta) (gName i)) tz D σ H :=
  h H (Ex.refl H) nb _ fun vs H2 e2 l2 q2 => ⟨sz_of (by rw [l2]; omega), fun p np => k p vs _ (e2.trans (Ex.new np)) upd_same (fresh_back e2 np) l2 (q2.same (Ex.new np))⟩
/-- x = y + [..] -/
theorem q_catQ {i j : Nat} {D : Ends} {tz : TS} {p : Addr} {vs : List V} (hs : σ[j]? = some (some (.ref p))) (hp : H p = some (.lst vs)) (hl0 : vs.length = ds.length) (hd : DnAll K H0 H vs ds) (h : EvQA K H0 ta σ H es) (nb : Ex H0 H) (hl : ds.length + es.length ≤ 1000)
    (k : ∀ q ws H1, Ex H H1 → H1 q = some (.lst ws) → H q = none → ws.length = (ds ++ es).length → DnAll K H0 H1 ws (ds ++ es) → tz D (σ.set i (some (.ref q))) H1) : tSeq (tAsg (tOp rCat (tVar j) (tLst ta)) (gName i)) tz D σ H :=
  ⟨_, hs, h H (Ex.refl H) nb _ fun ws H2 e2 l2 q2 => ⟨sz_of (by rw [l2]; omega), fun p2 n2 => ⟨p, p2, vs, ws, rfl, rfl, Ex.new n2 _ _ (e2 _ _ hp), upd_same, sz_of (by rw [hl0, l2]; exact Nat.le_trans hl (by decide)), fun q nq => by
    have e3 : Ex H (upd H2 p2 (.lst ws)) := e2.trans (Ex.new n2)
    exact k q _ _ (e3.trans (Ex.new nq)) upd_same (fresh_back e3 nq) (by rw [List.length_append, List.length_append, hl0, l2]) fun a ha => DqAll.app (((q2 a ha).same (Ex.new n2)).same (Ex.new nq)) (((hd a ha).same e3).same (Ex.new nq))⟩⟩⟩
end
def sp_odd (K : PySem.W.Frag) (ds : List PyData) : Sp := fun vs H Q _ => ∃ (b : Addr) (n : Nat), vs = [.ref b] ∧ Bag H b n ∧ n < 900000 ∧ ∀ (v : V) (d : PyData) (H' : Hp), d ∈ ds → But b H H' → Bag H' b (n + 1) → Dn K H H' v d → Q v H'
/-- return xs[take(bag, m)] -/
theorem s_oddat {K : PySem.W.Frag} {b p : Addr} {n i j : Nat} {σ : L2.St} {H H0 : Hp} {D : Ends} {vs : List V} {ds : List PyData} {m : Int} {ts : TE} (hb : Bag H0 b n) (hn : n < 900000) (e : Ex H0 H) (hs : σ[i]? = some (some (.ref p))) (hj : σ[j]? = some (some (.ref b)))
    (hp : H p = some (.lst vs)) (pn : H0 p = none) (hd : DnAll K H0 H vs ds) (hts : ∀ Q : VK, Q (.int m) H → ts σ H Q) (hm : m = (ds.length : Int)) (h0 : 0 < ds.length) (h1 : ds.length ≤ 1000)
    (ret : ∀ (v : V) (d : PyData) (H' : Hp), d ∈ ds → But b H0 H' → Bag H' b (n + 1) → Dn K H0 H' v d → D.rt v H') :
    tRet (tOp (rIxL K) (tVar i) (tCall sp_take [] E0 (tCons (tVar j) (tCons ts tNil)))) D σ H := by
  have pb : p ≠ b := hb.ne_none pn
  refine ⟨_, hs, _, hj, hts _ ⟨b, m, n, rfl, hb.same e, by omega, by omega, m_small (by omega) (by omega), fun r H1 u1 b1 r0 r1 => ?_⟩⟩
  obtain ⟨v, d, q1, q2, q3⟩ := (hd b hb.some).at r.toNat (by omega)
  obtain ⟨k, rfl⟩ := Int.eq_ofNat_of_zero_le r0
  refine ⟨p, vs, _, v, rfl, rfl, SqL.of (u1 _ _ pb hp), atI_nat q1, ret v d H1 (List.mem_of_getElem? q2) ((But.of e).trans u1) b1 fun a ha => ?_⟩
  obtain ⟨v', d', q1', q2', q3'⟩ := (hd a ha).at (k : Int).toNat (by omega)
  cases q1.symm.trans q1'
  cases q2.symm.trans q2'
  exact Dq.two (hb.same e) u1 q3 q3'
/-- what is asked of data that is drawn -/
def fitB (d : PyData) (m n : Nat) : Bool := d.showable && (decide (d.depth ≤ m) && (d.leavesShort 2000 && (decide (d.bulk ≤ n) && PyData.strOk d.shown)))
theorem fitB_ok {d : PyData} {m n : Nat} (h : fitB d m n = true) : FitQ d m n := by
  unfold fitB at h
  simp only [Bool.and_eq_true, decide_eq_true_eq] at h
  exact ⟨h.1, h.2.1, h.2.2.1, h.2.2.2.1, h.2.2.2.2⟩
theorem fit_mem {d : PyData} {ds : List PyData} {m n : Nat} (h : (ds.all fun d => fitB d m n) = true) (hd : d ∈ ds) : FitQ d m n := fitB_ok (List.all_eq_true.mp h d hd)
end Hv

namespace Hv
open PySem L2 TL
theorem FnOk.calm {P : Program} {w : World} {K : PySem.W.Frag} {mg : Str → Option Value} {base : Heap} {k : Nat} {f : Addr} {fd : FuncData} {ps : List Str} {sp : Sp} (F : FnOk P w K mg base (L2.CX P w) k f fd ps sp) : FnOk P w K mg base CX0 k f fd ps (fun vs H Q _ => sp vs H Q E0) := by
  refine ⟨fun vs H Q E h => F.len _ _ _ _ h, fun A outer s H args us vs Q E hr e0 hb r h => codeAny_mono (F.run A outer s H args us vs Q E0 hr e0 hb r h) fun r s' hq => ?_⟩
  match r, hq with
  | .error e, hq => obtain ⟨_, _, _, _, _, _, _, _, _, _, _, _, z⟩ := hq; exact z
  | .ok (.ret u), hq => exact hq
  | .ok .next, hq => exact hq
  | .ok .brk, hq => exact hq
  | .ok .cont, hq => exact hq
def nameD : PyData → Bool
  | .str z => nameOk z
  | _ => false
def amountD : PyData → Bool
  | .str z => (sortOf z).isSome
  | _ => false
/-! ### the amounts -/
theorem par_glue (c : Nat) : ∀ (l acc a b : List Nat), par [c] acc l = some (a, b) → acc ++ l = a ++ c :: b
  | [], acc, a, b, h => by cases h
  | d :: r, acc, a, b, h => by
    by_cases e : d = c
    · rw [par_hit (by rw [pre_one]; exact decide_eq_true e)] at h
      cases h
      rw [e]
      rfl
    · rw [par_miss (by rw [pre_one]; exact decide_eq_false e)] at h
      have := par_glue c r _ a b h
      simpa using this
theorem blank_tl : tl BLANK = [32] := by decide +kernel
theorem part_cases (z : Str) : Txt.partition z BLANK = (z, Str.empty, Str.empty) ∨ ∃ a b, Txt.partition z BLANK = (a, BLANK, b) ∧ z = a ++ BLANK ++ b := by
  have e := partition_par z BLANK (by rw [blank_tl]; simp)
  rw [blank_tl] at e
  cases q : par [32] [] (tl z) with
  | none =>
    rw [q] at e
    exact .inl e
  | some p =>
    obtain ⟨a, b⟩ := p
    rw [q] at e
    refine .inr ⟨_, _, e, ?_⟩
    have g := par_glue 32 (tl z) [] a b q
    apply str_ext
    have l : ∀ x y w : Str, (x ++ y ++ w).cps.toList = x.cps.toList ++ y.cps.toList ++ w.cps.toList := fun x y w => by
      show (x.cps ++ y.cps ++ w.cps).toList = _
      simp
    rw [l, show BLANK.cps.toList = [32] from blank_tl]
    have g' : z.cps.toList = a ++ 32 :: b := by simpa using g
    rw [g']
    simp
theorem part_len (z : Str) : (Txt.partition z BLANK).2.2.length ≤ z.length := by
  rcases part_cases z with e | ⟨a, b, e, h⟩
  · rw [e]
    exact Nat.zero_le _
  · rw [e]
    rw [h, Str.length_append, Str.length_append]
    show b.length ≤ _
    omega
def AMTS : List Str := [Str.ofString "each 1", Str.ofString "each 2", Str.ofString "each 3", Str.ofString "all 1", Str.ofString "all 2", Str.ofString "all 3", Str.ofString "free", Str.ofString "again"]
theorem amts_some : ∀ z ∈ AMTS, (sortOf z).isSome = true := by decide +kernel
theorem amts_free : Str.ofString "free" ∈ AMTS ∧ Str.ofString "again" ∈ AMTS := by decide +kernel
theorem amts_num : ∀ n < 4, 1 ≤ n → Str.ofString "each" ++ BLANK ++ text n ∈ AMTS ∧ Str.ofString "all" ++ BLANK ++ text n ∈ AMTS := by decide +kernel
theorem numOf_empty : numOf Str.empty 3 = none := by decide +kernel
theorem amount_mem {z : Str} (h : (sortOf z).isSome = true) : z ∈ AMTS := by
  unfold sortOf at h
  split at h
  · rename_i c
    rcases c with rfl | rfl
    · exact amts_free.1
    · exact amts_free.2
  · split at h
    · rename_i n hn
      split at h
      · rename_i c
        rcases part_cases z with e | ⟨a, b, e, hz⟩
        · rw [e, numOf_empty] at hn
          cases hn
        · rw [e] at hn c
          obtain ⟨h1, h2⟩ := numOf_some hn
          have := amts_num n (by omega) c.2
          rw [hz, ← show text n = b from h2]
          rcases c.1 with q | q
          · rw [show a = _ from q]; exact this.1
          · rw [show a = _ from q]; exact this.2
      · cases h
    · cases h
theorem amount_iff (z : Str) : (sortOf z).isSome = decide (z ∈ AMTS) := by
  by_cases h : z ∈ AMTS
  · rw [decide_eq_true h]
    exact amts_some z h
  · rw [decide_eq_false h]
    cases q : (sortOf z).isSome with
    | false => rfl
    | true => exact absurd (amount_mem q) h
/-! ### the tests, of data -/
section
variable {K : PySem.W.Frag} {b : Addr} {H : Hp} {v : V} {d : PyData} {Q : VK} {E : XK}
theorem line_of_short {z : Str} (sh : shortD (.str z) = true) : z.length ≤ sizeLine := by
  have : z.length ≤ 1000 := of_decide_eq_true sh
  have : 1000 ≤ sizeLine := by decide
  omega
theorem is_name_d (h : Dq K b H v d) (sh : shortD d = true) (q : ∀ H', Same H H' → Q (.bl (nameD d)) H') : lk (sp_is_name K) [v] H Q E := by
  refine lk_in ?_
  cases hd : isStrD d with
  | true =>
    cases h with
    | str z => exact .inl ⟨z, rfl, line_of_short sh, q⟩
    | _ => cases hd
  | false =>
    have e : nameD d = false := by cases d <;> first | rfl | cases hd
    have q := q H (Same.refl H)
    rw [e] at q
    have k := kit_str (K := K) d
    rw [hd] at k
    exact .inr ⟨v, _, rfl, h.ty, k, q⟩
theorem sort_of_d (h : Dq K b H v d) (sh : shortD d = true) (q0 : amountD d = false → ∀ H', Same H H' → Q .non H') (q1 : amountD d = true → ∀ p H', H p = none → Same H H' → Q (.ref p) H') : lk (sp_sort_of K) [v] H Q E := by
  refine lk_in ?_
  cases hd : isStrD d with
  | true =>
    cases h with
    | str z =>
      have hz := line_of_short sh
      refine .inl ⟨z, rfl, hz, Nat.le_trans (part_len z) hz, fun e => q0 ?_, fun u n e p H' np s _ => q1 ?_ p H' np s⟩
      · show (sortOf z).isSome = false
        rw [e]
        rfl
      · show (sortOf z).isSome = true
        rw [e]
        rfl
    | _ => cases hd
  | false =>
    have e : amountD d = false := by cases d <;> first | rfl | cases hd
    have k := kit_str (K := K) d
    rw [hd] at k
    exact .inr ⟨v, _, rfl, h.ty, k, q0 e H (Same.refl H)⟩
end
def rowD (d1 d2 d3 : PyData) : Bool := nameD d1 && nameD d2 && amountD d3
/-- a row's parts at x -/
def RowP (C : Addr) (H : Hp) (x : Addr) (v1 v2 v3 : V) : Prop := ∃ dx pt, H x = some (.ins C dx [("parts", .ref pt)]) ∧ H pt = some (.tup [v1, v2, v3])
theorem RowP.same {C : Addr} {H H' : Hp} {x : Addr} {v1 v2 v3 : V} (h : RowP C H x v1 v2 v3) (e : Same H H') : RowP C H' x v1 v2 v3 := by
  obtain ⟨dx, pt, h1, h2⟩ := h
  exact ⟨dx, pt, e _ _ h1, e _ _ h2⟩
/-- what is due of a row, at H: an error, or none -/
structure RowDue (c : Nat → Addr) (d1 d2 d3 : PyData) (v1 v2 v3 : V) (E : XK) (H : Hp) (ok : Prop) : Prop where
  e1 : nameD d1 = false → GivenE c 0 E H v1
  e2 : nameD d1 = true → nameD d2 = false → GivenE c 0 E H v2
  e3 : nameD d1 = true → nameD d2 = true → amountD d3 = false → GivenE c 6 E H v3
  fine : rowD d1 d2 d3 = true → ok
def sp_row_initX (K : PySem.W.Frag) (c : Nat → Addr) (C : Addr) : Sp := fun vs H Q E => ∃ (b x dx : Addr) (v1 v2 v3 : V) (d1 d2 d3 : PyData), vs = [.ref x, v1, v2, v3] ∧ Dq K b H v1 d1 ∧ Dq K b H v2 d2 ∧ Dq K b H v3 d3 ∧ shortD d1 = true ∧ shortD d2 = true ∧ shortD d3 = true ∧
  H x = some (.ins C dx []) ∧ H dx = some (.own x) ∧ dx ≠ x ∧ RowDue c d1 d2 d3 v1 v2 v3 E H (∀ H', (∀ b o, b ≠ x → H b = some o → H' b = some o) → RowP C H' x v1 v2 v3 → Q .non H')
end Hv
namespace L
open PySem L2 Hv
variable {P : Program} {w : World} {K : PySem.W.Frag} {mg : Str → Option Value} {base : Heap}
abbrev s_Row_init : Stmt := inClass (top 56) 0
abbrev N_Row_init : List Str := ["self", "outer", "inner", "amount"]
abbrev P_Row_init : List Str := ["self", "outer", "inner", "amount"]
theorem sc_Row_init : FnScope N_Row_init P_Row_init (defScope s_Row_init) := ⟨rfl, rfl, rfl, by decide +kernel, rfl, by decide +kernel, by decide +kernel⟩
theorem ok_Row_initX {C f f1 f2 : Addr} {fd fd1 fd2 : FuncData} {c : Nat → Addr} (D : MethAt K C "__init__" "Row.__init__" s_Row_init P_Row_init f fd) (T : Txt K mg) (cl : Cls K C) (na : NoAttr K C "parts") (ER_InvalidName : ErrTxt K mg "InvalidName" "given" (c 0)) (ER_InvalidAmount : ErrTxt K mg "InvalidAmount" "given" (c 6))
    (D_is_name : DefAt K mg "is_name" s_is_name P_is_name f1 fd1) (G_is_name : FnOk P w K mg base CX0 1 f1 fd1 P_is_name (sp_is_name K))
    (D_sort_of : DefAt K mg "sort_of" s_sort_of P_sort_of f2 fd2) (G_sort_of : FnOk P w K mg base CX0 2 f2 fd2 P_sort_of (sp_sort_of K)) :
    FnOk P w K mg base (L2.CX P w) 3 f fd P_Row_init (sp_row_initX K c C) := by
  have G_is_name := fn_lk G_is_name
  have G_sort_of := fn_lk G_sort_of
  refine D.fn.okX sc_Row_init (fun vs H Q E h => ?_) (fun cdv A outer s H vs Q E hr h => ?_)
  · obtain ⟨b, x, dx, v1, v2, v3, d1, d2, d3, rfl, _⟩ := h
    rfl
  · obtain ⟨b, x, dx, v1, v2, v3, d1, d2, d3, rfl, h1, h2, h3, t1, t2, t3, hx, hd, nd, due⟩ := h
    refine ⟨_, (pss_cons (ps_if (pt_not (pt_val (pe_call G_is_name (hr.mono (by decide)) rfl D_is_name.mg D_is_name.fn.kp D_is_name.bd .nil pass0 (pa_cons (pv 1) pa_nil))))
      (pss_one (ps_err ER_InvalidName (hr.mono (by decide)) rfl (takes_of rfl rfl rfl rfl) rfl (pv 1)))
      pss_nil)
      (pss_cons (ps_if (pt_not (pt_val (pe_call G_is_name (hr.mono (by decide)) rfl D_is_name.mg D_is_name.fn.kp D_is_name.bd .nil pass0 (pa_cons (pv 2) pa_nil))))
      (pss_one (ps_err ER_InvalidName (hr.mono (by decide)) rfl (takes_of rfl rfl rfl rfl) rfl (pv 2)))
      pss_nil)
      (pss_cons (ps_if (pt_cmpR op_isN (pe_call G_sort_of (hr.mono (by decide)) rfl D_sort_of.mg D_sort_of.fn.kp D_sort_of.bd .nil pass0 (pa_cons (pv 3) pa_nil)) pe_non (nomark _))
      (pss_one (ps_err ER_InvalidAmount (hr.mono (by decide)) rfl (takes_of rfl rfl rfl rfl) rfl (pv 3)))
      pss_nil)
      (pss_one (ps_fld (pv 0) (pe_tup (pa_cons (pv 1) (pa_cons (pv 2) (pa_cons (pv 3) pa_nil)))) rfl))))), ?_⟩
    refine ⟨_, rfl, is_name_d h1 t1 fun H1 s1 => ⟨_, rfl, ?_⟩⟩
    cases n1 : nameD d1 with
    | false => exact iteT ⟨_, rfl, (due.e1 n1).at s1⟩
    | true =>
      refine iteF ⟨_, rfl, is_name_d (h2.same s1) t2 fun H2 s2 => ⟨_, rfl, ?_⟩⟩
      have s2 := s1.trans s2
      cases n2 : nameD d2 with
      | false => exact iteT ⟨_, rfl, (due.e2 n1 n2).at s2⟩
      | true =>
        refine iteF ⟨_, rfl, sort_of_d (h3.same s2) t3 (fun n3 H3 s3 => ?_) (fun n3 p H3 np s3 => ?_)⟩
        · exact ⟨rfl, _, rfl, ifT rfl ⟨_, rfl, (due.e3 n1 n2 n3).at (s2.trans s3)⟩⟩
        · have s5 := s2.trans s3
          refine ⟨rfl, _, rfl, ifF (by intro q; cases q) ?_⟩
          refine ⟨_, rfl, _, rfl, _, rfl, by show 3 ≤ sizeLine; decide, fun t ht => ?_⟩
          have tx : t ≠ x := (ne_of_none (s5 _ _ hx) ht).symm
          refine ⟨_, rfl, x, C, dx, [], rfl, same_new ht _ _ (s5 _ _ hx), cl, na, by decide, ?_⟩
          refine due.fine (by unfold rowD; rw [n1, n2, n3]; rfl) _ (fun b o n e => ?_) ⟨dx, t, upd_same, by rw [upd_ne tx, upd_same]⟩
          rw [upd_ne n]
          exact same_new ht _ _ (s5 _ _ e)
end L

namespace Hv
open PySem L2
theorem inV_strs (z : Str) : ∀ l : List Str, inV (.str z) (l.map V.str) = l.any fun x => decide (x = z)
  | [] => rfl
  | x :: l => by
    have ih := inV_strs z l
    unfold inV at ih ⊢
    rw [List.map_cons, List.any_cons, List.any_cons, ih]
    congr 1
    try simp [eqV]
theorem flat_strs : ∀ l : List Str, ((l.map V.str).all flatV) = true
  | [] => rfl
  | x :: l => by
    rw [List.map_cons, List.all_cons, flat_strs l]
    rfl
end Hv
namespace Hv
open PySem L2
abbrev SIGNS : Str := Str.ofString "abcdefghijklmnopqrstuvwxyz0123456789"
theorem signs_let : ∀ j < 26, ∃ c, SIGNS.cps.toList[j]? = some c ∧ c ∈ LETS.cps.toList := by decide +kernel
theorem signs_ok : ∀ j < 36, ∃ c, SIGNS.cps.toList[j]? = some c ∧ signOk c = true := by decide +kernel
theorem atI_int {α : Type} {xs : List α} {r : Int} {c : α} (h0 : 0 ≤ r) (h : xs[r.toNat]? = some c) : atI xs r = some c := by
  have hl : r.toNat < xs.length := by
    rcases Nat.lt_or_ge r.toNat xs.length with q | q
    · exact q
    · rw [List.getElem?_eq_none q] at h
      cases h
  unfold atI ixN
  rw [if_pos h0, if_pos (by omega)]
  exact h
/-- the beginning of a name -/
def Tag (z : Str) (n : Nat) : Prop := z.length = n ∧ ∃ c cs, z.cps.toList = c :: cs ∧ c ∈ LETS.cps.toList ∧ (c :: cs).all signOk = true
theorem tag_one {c : Nat} (h : c ∈ LETS.cps.toList) : Tag ⟨#[c]⟩ 1 := by
  refine ⟨rfl, c, [], rfl, h, ?_⟩
  have : signOk c = true := by
    unfold signOk
    rw [decide_eq_true h]
    rfl
  simp [this]
theorem app_cps (a b : Str) : (a ++ b).cps.toList = a.cps.toList ++ b.cps.toList := by
  show (a.cps ++ b.cps).toList = _
  simp
theorem Tag.more {z : Str} {n c : Nat} (h : Tag z n) (hc : signOk c = true) : Tag (z ++ ⟨#[c]⟩) (n + 1) := by
  obtain ⟨h1, d, cs, h2, h3, h4⟩ := h
  refine ⟨by rw [Str.length_append, h1]; rfl, d, cs ++ [c], by rw [app_cps, h2]; rfl, h3, ?_⟩
  rw [← List.cons_append, List.all_append, h4]
  simp [hc]
theorem Tag.ok {z : Str} {n : Nat} (h : Tag z n) (hn : n ≤ 8) : nameOk z = true := by
  obtain ⟨h1, d, cs, h2, h3, h4⟩ := h
  unfold nameOk
  rw [h2]
  dsimp only
  rw [decide_eq_true (show z.length ≤ 8 by omega), decide_eq_true h3, h4]
  rfl
theorem Tag.of {z : Str} (h : nameOk z = true) : Tag z z.length ∧ z.length ≤ 8 := by
  unfold nameOk at h
  cases e : z.cps.toList with
  | nil => rw [e] at h; cases h
  | cons c cs =>
    rw [e] at h
    simp only [Bool.and_eq_true, decide_eq_true_eq] at h
    exact ⟨⟨rfl, c, cs, e, h.1.2, h.2⟩, h.1.1⟩
theorem cut_to (z : Str) (k : Nat) : (cutS z none (some (k : Int))).cps.toList = z.cps.toList.take k := by
  show ((z.cps.toList.drop (HT.sIx z.length 0 none)).take (HT.sIx z.length z.length (some (k : Int)) - HT.sIx z.length 0 none)) = _
  rw [HT.sIx_none, HT.sIx_nat, List.drop_zero, Nat.sub_zero, ← str_len z]
  by_cases h : k ≤ z.cps.toList.length
  · rw [Nat.min_eq_left h]
  · rw [Nat.min_eq_right (by omega), List.take_of_length_le (Nat.le_refl _), List.take_of_length_le (by omega)]
theorem cut_from (z : Str) (k : Nat) : (cutS z (some (k : Int)) none).cps.toList = z.cps.toList.drop k := by
  show ((z.cps.toList.drop (HT.sIx z.length 0 (some (k : Int)))).take (HT.sIx z.length z.length none - HT.sIx z.length 0 (some (k : Int)))) = _
  rw [HT.sIx_none, HT.sIx_nat, ← str_len z]
  by_cases h : k ≤ z.cps.toList.length
  · rw [Nat.min_eq_left h, List.take_of_length_le (by simp)]
  · rw [Nat.min_eq_right (by omega), List.drop_of_length_le (Nat.le_refl _), List.drop_of_length_le (by omega)]
    simp
theorem len_tl (z : Str) : z.length = z.cps.toList.length := (str_len z).symm
/-- a name with a letter put in the place of a sign -/
theorem Tag.swap {z : Str} {n k c : Nat} (h : Tag z n) (hk : k < n) (hc : c ∈ LETS.cps.toList) : Tag (cutS z none (some (k : Int)) ++ ⟨#[c]⟩ ++ cutS z (some ((k : Int) + 1)) none) n := by
  obtain ⟨h1, d, cs, h2, h3, h4⟩ := h
  have sc : signOk c = true := by unfold signOk; rw [decide_eq_true hc]; rfl
  have hl : (d :: cs).length = n := by rw [← h2, ← len_tl]; exact h1
  have e : (cutS z none (some (k : Int)) ++ ⟨#[c]⟩ ++ cutS z (some ((k : Int) + 1)) none).cps.toList = (d :: cs).take k ++ [c] ++ (d :: cs).drop (k + 1) := by
    rw [app_cps, app_cps, cut_to, show ((k : Int) + 1) = ((k + 1 : Nat) : Int) from rfl, cut_from, h2]
  have ha : ((d :: cs).take k ++ [c] ++ (d :: cs).drop (k + 1)).all signOk = true := by
    rw [List.all_eq_true] at h4 ⊢
    intro x hx
    simp only [List.mem_append, List.mem_singleton] at hx
    rcases hx with (hx | hx) | hx
    · exact h4 x (List.mem_of_mem_take hx)
    · rw [hx]; exact sc
    · exact h4 x (List.mem_of_mem_drop hx)
  refine ⟨?_, ?_⟩
  · rw [len_tl, e]
    simp at hl ⊢
    omega
  · cases k with
    | zero => exact ⟨c, _, e, hc, ha⟩
    | succ k => exact ⟨d, _, e, h3, ha⟩
/-- the beginning of a name -/
theorem Tag.front {z : Str} {n k : Nat} (h : Tag z n) (hk : k < n) : Tag (cutS z none (some ((k : Int) + 1))) (k + 1) := by
  obtain ⟨h1, d, cs, h2, h3, h4⟩ := h
  have hl : (d :: cs).length = n := by rw [← h2, ← len_tl]; exact h1
  have e : (cutS z none (some ((k : Int) + 1))).cps.toList = d :: cs.take k := by
    rw [show ((k : Int) + 1) = ((k + 1 : Nat) : Int) from rfl, cut_to, h2]
    rfl
  refine ⟨?_, d, _, e, h3, ?_⟩
  · rw [len_tl, e]
    simp at hl ⊢
    omega
  · rw [List.all_eq_true] at h4 ⊢
    intro x hx
    rcases List.mem_cons.mp hx with rfl | hx
    · exact h4 _ List.mem_cons_self
    · exact h4 x (List.mem_cons_of_mem _ (List.mem_of_mem_take hx))
theorem Tag.first {z : Str} {n : Nat} (h : Tag z n) : ∃ c, atI z.cps.toList 0 = some c ∧ c ∈ LETS.cps.toList := by
  obtain ⟨h1, d, cs, h2, h3, h4⟩ := h
  exact ⟨d, by rw [h2]; exact atI_zero d cs, h3⟩
theorem sub_len {α : Type} [DecidableEq α] : ∀ (l m : List α), l.Nodup → (∀ x ∈ l, x ∈ m) → l.length ≤ m.length
  | [], m, _, _ => Nat.zero_le _
  | x :: l, m, h1, h2 => by
    rw [List.nodup_cons] at h1
    have hx := h2 x List.mem_cons_self
    have ih := sub_len l (m.erase x) h1.2 fun y hy => (List.mem_erase_of_ne (fun q => h1.1 (by rw [← q]; exact hy))).mpr (h2 y (List.mem_cons_of_mem _ hy))
    rw [List.length_erase_of_mem hx] at ih
    have := List.length_pos_of_mem hx
    rw [List.length_cons]
    omega
def SPARE : List Str := [Str.ofString "x", Str.ofString "x0", Str.ofString "x1", Str.ofString "x2", Str.ofString "x3", Str.ofString "x4"]
theorem spare_nodup : SPARE.Nodup := by decide +kernel
theorem spare_ok : ∀ z ∈ SPARE, nameOk z = true ∧ z.length ≤ 8 := by decide +kernel
def spareOf (zs : List Str) (i : Nat) : List Str := (SPARE.take i).filter fun z => !decide (z ∈ zs)
theorem spare_succ (zs : List Str) {j : Nat} {y : Str} (h : SPARE[j]? = some y) : spareOf zs (j + 1) = spareOf zs j ++ if y ∈ zs then [] else [y] := by
  unfold spareOf
  rw [List.take_succ, h, List.filter_append]
  congr 1
  by_cases hm : y ∈ zs
  · rw [if_pos hm]
    simp [hm]
  · rw [if_neg hm]
    simp [hm]
theorem spare_some {zs : List Str} (h : zs.length < 6) : ∃ z l, spareOf zs 6 = z :: l ∧ z ∉ zs ∧ nameOk z = true ∧ z.length ≤ 8 := by
  cases e : spareOf zs 6 with
  | nil =>
    have : SPARE.length ≤ zs.length := sub_len SPARE zs spare_nodup fun x hx => by
      have := List.filter_eq_nil_iff.mp e x (by rw [List.take_of_length_le (by decide)]; exact hx)
      simpa using this
    have l6 : SPARE.length = 6 := rfl
    omega
  | cons z l =>
    have hz : z ∈ spareOf zs 6 := by rw [e]; exact List.mem_cons_self
    obtain ⟨h1, h2⟩ := List.mem_filter.mp hz
    have h3 := spare_ok z (List.mem_of_mem_take h1)
    exact ⟨z, l, rfl, by simpa using h2, h3.1, h3.2⟩
theorem inV_mem (z : Str) (l : List Str) : inV (.str z) (l.map V.str) = decide (z ∈ l) := by
  rw [inV_strs]
  induction l with
  | nil => rfl
  | cons x l ih =>
    rw [List.any_cons, ih]
    by_cases h : x = z
    · simp [h]
    · have : ¬ z = x := fun q => h q.symm
      simp [h, this]
theorem join_s {tt : TT} {tu tv tz : TS} {D : Ends} {σ : L2.St} {H : Hp} (S : L2.St → Hp → Prop) (h : ∀ N : L2.St → Hp → Prop, (∀ σ' H', S σ' H' → N σ' H') → tIfS tt tu tv { D with nx := N } σ H)
    (k : ∀ σ' H', S σ' H' → tz D σ' H') : tSeq (tIfS tt tu tv) tz D σ H := h (tz D) k
theorem But.mut {b p : Addr} {H H1 : Hp} {o : HO} (x : But b H H1) (hp : H p = none) : But b H (upd H1 p o) := fun a u n h => by
  rw [upd_ne (ne_of_none h hp)]
  exact x a u n h
/-- the names of a drawn list -/
structure Names (zs : List Str) : Prop where
  ok : ∀ z ∈ zs, nameOk z = true ∧ z.length ≤ 8
  nd : zs.Nodup
theorem Names.app {zs : List Str} {z : Str} (h : Names zs) (h1 : nameOk z = true) (h2 : z.length ≤ 8) (h3 : z ∉ zs) : Names (zs ++ [z]) := by
  refine ⟨fun x hx => ?_, ?_⟩
  · rcases List.mem_append.mp hx with q | q
    · exact h.ok x q
    · rw [List.mem_singleton.mp q]
      exact ⟨h1, h2⟩
  · rw [List.nodup_append]
    refine ⟨h.nd, by simp, ?_⟩
    intro a ha b hb
    rw [List.mem_singleton.mp hb]
    exact fun q => h3 (q ▸ ha)
def sp_tags : Sp := fun vs H Q _ => ∃ (b : Addr) (m n : Nat), vs = [.ref b, .int (m : Int)] ∧ Bag H b n ∧ n < 800000 ∧ m ≤ 6 ∧
  ∀ (p : Addr) (zs : List Str) (H' : Hp), H p = none → But b H H' → Bag H' b (n + 13 * m) → H' p = some (.lst (zs.map V.str)) → p ≠ b → zs.length = m → Names zs → Q (.ref p) H'
def sp_tag : Sp := fun vs H Q _ => ∃ (b : Addr) (k : Nat), vs = [.ref b] ∧ Bag H b k ∧ k < 900000 ∧ ∀ (z : Str) (H' : Hp), But b H H' → Bag H' b (k + 10) → nameOk z = true → z.length ≤ 8 → Q (.str z) H'
end Hv
namespace L
open PySem L2 Hv
variable {P : Program} {w : World} {K : PySem.W.Frag} {mg : Str → Option Value} {base : Heap}
abbrev s_tag : Stmt := top 65
abbrev N_tag : List Str := ["_law_bag_here", "_law_signs", "_law_made", "_law_k"]
abbrev P_tag : List Str := ["_law_bag_here"]
theorem sc_tag : FnScope N_tag P_tag (defScope s_tag) := ⟨rfl, rfl, rfl, by decide +kernel, rfl, by decide +kernel, by decide +kernel⟩
theorem ok_tag {f f1 : Addr} {fd fd1 : FuncData} (D : DefAt K mg "_law_tag" s_tag P_tag f fd) (T : Txt K mg) (D_take : DefAt K mg "_law_take" s_take P_take f1 fd1) : FnOk P w K mg base CX0 2 f fd P_tag sp_tag := by
  have G_take : FnOk P w K mg base CX0 1 f1 fd1 P_take sp_take := ok_take D_take T
  refine D.fn.ok sc_tag (fun vs H Q E h => ?_) (fun cdv A outer s H vs Q E hr h => ?_)
  · obtain ⟨b, k, rfl, _⟩ := h
    rfl
  · obtain ⟨b, k, rfl, hb, hk, ret⟩ := h
    refine ⟨_, (pss_cons (ps_asg pe_str (pg_name (i := 1) sc_tag.nd rfl (.inl rfl)))
      (pss_cons (ps_asg (pe_ix ix_str (pv 1) (pe_call G_take (hr.mono (by decide)) rfl D_take.mg D_take.fn.kp D_take.bd .nil pass0 (pa_cons (pv 0) (pa_cons pe_int pa_nil))) (fun _ _ => rfl)) (pg_name (i := 2) sc_tag.nd rfl (.inl rfl)))
      (pss_cons (ps_for PassesOwn.never rfl (pi_range1 (by rfl) T.range (pa_cons (pe_call G_take (hr.mono (by decide)) rfl D_take.mg D_take.fn.kp D_take.bd .nil pass0 (pa_cons (pv 0) (pa_cons pe_int pa_nil))) pa_nil)) (pg_name (i := 3) sc_tag.nd rfl (.inl rfl))
      (pss_one (ps_asg (pe_op op_add_str (pv 2) (pe_ix ix_str (pv 1) (pe_call G_take (hr.mono (by decide)) rfl D_take.mg D_take.fn.kp D_take.bd .nil pass0 (pa_cons (pv 0) (pa_cons pe_int pa_nil))) (fun _ _ => rfl))) (pg_name (i := 2) sc_tag.nd rfl (.inl rfl)))))
      (pss_one (ps_ret (pv 2)))))), ?_⟩
    refine ⟨_, rfl, _, rfl, b, 26, k, rfl, hb, by omega, by decide, by decide, fun r H1 u1 b1 r0 r1 => ?_⟩
    obtain ⟨c, hc, hl⟩ := signs_let r.toNat (by omega)
    refine ⟨_, _, c, rfl, rfl, by decide, atI_int r0 hc, ?_⟩
    refine ⟨_, rfl, b, 8, k + 1, rfl, b1, by omega, by decide, by decide, fun m H2 u2 b2 m0 m1 => ?_⟩
    refine ⟨m, rfl, by omega, by omega, for_range (lo := 0) (fun i σ' H' => ∃ z v, σ' = [some (.ref b), some (.str SIGNS), some (.str z), v] ∧ Tag z (i + 1) ∧ But b H H' ∧ Bag H' b (k + 2 + i)) ?_ ?_ ?_⟩
    · exact ⟨_, _, rfl, tag_one hl, u1.trans u2, b2⟩
    · rintro i σ' H' hi ⟨z, v, rfl, tg, u, bb⟩
      refine ⟨_, rfl, _, rfl, _, rfl, b, 36, k + 2 + i, rfl, bb, by omega, by decide, by decide, fun q H3 u3 b3 q0 q1 => ?_⟩
      obtain ⟨c2, hc2, hl2⟩ := signs_ok q.toNat (by omega)
      refine ⟨_, _, c2, rfl, rfl, by decide, atI_int q0 hc2, _, _, rfl, rfl, ?_, ?_⟩
      · have := tg.1
        exact Evl.sz_of (by rw [this]; show i + 1 + 1 ≤ 100000; omega)
      · exact ⟨_, _, rfl, tg.more hl2, u.trans u3, b3⟩
    · rintro σ' H' ⟨z, v, rfl, tg, u, bb⟩
      exact ⟨_, rfl, ret z H' u (bb.mono (by omega)) (tg.ok (by omega)) (by have := tg.1; omega)⟩
abbrev s_tags : Stmt := top 66
abbrev N_tags : List Str := ["_law_bag_here", "_law_many", "_law_found", "_law_k", "_law_made", "_law_way", "_law_old", "_law_at", "_law_spare", "_law_tag_here"]
abbrev P_tags : List Str := ["_law_bag_here", "_law_many"]
theorem sc_tags : FnScope N_tags P_tags (defScope s_tags) := ⟨rfl, rfl, rfl, by decide +kernel, rfl, by decide +kernel, by decide +kernel⟩
theorem ok_tags {f f1 f2 : Addr} {fd fd1 fd2 : FuncData} (D : DefAt K mg "_law_tags" s_tags P_tags f fd) (T : Txt K mg) (D_take : DefAt K mg "_law_take" s_take P_take f1 fd1) (D_tag : DefAt K mg "_law_tag" s_tag P_tag f2 fd2) : FnOk P w K mg base CX0 3 f fd P_tags sp_tags := by
  have G_take : FnOk P w K mg base CX0 1 f1 fd1 P_take sp_take := ok_take D_take T
  have G_tag : FnOk P w K mg base CX0 2 f2 fd2 P_tag sp_tag := ok_tag D_tag T D_take
  refine D.fn.ok sc_tags (fun vs H Q E h => ?_) (fun cdv A outer s H vs Q E hr h => ?_)
  · obtain ⟨b, m, n, rfl, _⟩ := h
    rfl
  · obtain ⟨b, m, n, rfl, hb, hn, hm, ret⟩ := h
    refine ⟨_, (pss_cons (ps_asg (pe_lst pa_nil) (pg_name (i := 2) sc_tags.nd rfl (.inr rfl)))
      (pss_cons (ps_for PassesOwn.never rfl (pi_range1 (by rfl) T.range (pa_cons (pv 1) pa_nil)) (pg_name (i := 3) sc_tags.nd rfl (.inl rfl))
      (pss_cons (ps_par (i := 4) (j := 5) (by rfl) sc_tags.nd rfl rfl (by decide) rfl rfl (pa_cons (pe_call G_tag (hr.mono (by decide)) rfl D_tag.mg D_tag.fn.kp D_tag.bd .nil pass0 (pa_cons (pv 0) pa_nil)) (pa_cons (pe_call G_take (hr.mono (by decide)) rfl D_take.mg D_take.fn.kp D_take.bd .nil pass0 (pa_cons (pv 0) (pa_cons pe_int pa_nil))) pa_nil)) (by rfl))
      (pss_cons (ps_if (PW.pt (pw_and (pt_cmpR op_gt (pv 3) pe_int (nomark _)) (pw_and1 (pt_cmpR op_lt (pv 5) pe_int (nomark _)))))
      (pss_cons (ps_asg (pe_ix ix_list (pv 2) (pe_call G_take (hr.mono (by decide)) rfl D_take.mg D_take.fn.kp D_take.bd .nil pass0 (pa_cons (pv 0) (pa_cons (pv 3) pa_nil))) (fun _ _ => rfl)) (pg_name (i := 6) sc_tags.nd rfl (.inl rfl)))
      (pss_cons (ps_asg (pe_call G_take (hr.mono (by decide)) rfl D_take.mg D_take.fn.kp D_take.bd .nil pass0 (pa_cons (pv 0) (pa_cons (pe_callB call_len_str (by rfl) T.len (by decide +kernel) (pa_cons (pv 6) pa_nil)) pa_nil))) (pg_name (i := 7) sc_tags.nd rfl (.inl rfl)))
      (pss_one (ps_asg (pe_ifExp (pt_cmpR op_eq (pv 5) pe_int (nomark _)) (pe_op op_add_str (pe_op op_add_str (pe_slice sl_str (pv 6) po_none (po_some (pv 7))) (pe_ix ix_str (pv 4) pe_int (fun _ _ => rfl))) (pe_slice sl_str (pv 6) (po_some (pe_op op_add (pv 7) pe_int)) po_none)) (pe_slice sl_str (pv 6) po_none (po_some (pe_op op_add (pv 7) pe_int)))) (pg_name (i := 4) sc_tags.nd rfl (.inl rfl))))))
      pss_nil)
      (pss_cons (ps_setLc (i := 8) (own := [("_law_tag_here", 9)]) (g := gName 9) rfl sc_tags.nd rfl rfl (sw_true rfl rfl rfl (by decide +kernel)) (pi_list (pe_lst (pa_cons pe_str (pa_cons pe_str (pa_cons pe_str (pa_cons pe_str (pa_cons pe_str (pa_cons pe_str pa_nil)))))))) (blkOk_by (own := [("_law_tag_here", 9)]) (N := N_tags) (sc := defScope s_tags) (by decide +kernel)) (fun _ _ _ _ _ => (pg_name (i := 9) sc_tags.nd rfl (.inl rfl))) (fun _ _ _ _ _ => (pts_one (pt_cmpR (show OpR _ (compareOp .NotIn) (rIn K true) from op_notIn_seq) (pv 9) (pv 2) (by rfl)))) (fun _ _ _ _ _ => (pv 9)))
      (pss_one (ps_expr (pe_bm PySem.F.plainAttrs_list PySem.F.slot_list_append PySem.F.type_list_append mt_append (pv 2) (pa_cons (pe_ifExp (pt_cmpR op_in_seq (pv 4) (pv 2) (by rfl)) (pe_ix ix_list (pv 8) pe_int (fun _ _ => rfl)) (pv 4)) pa_nil))))))))
      (pss_one (ps_ret (pv 2))))), ?_⟩
    refine ⟨by decide, fun p np => ?_⟩
    have pb : p ≠ b := hb.ne_none np
    refine ⟨_, rfl, m, rfl, by omega, by omega, for_range (lo := 0) (fun i σ' H' => ∃ zs v3 v4 v5 v6 v7 v8 v9, σ' = [some (.ref b), some (.int (m : Int)), some (.ref p), v3, v4, v5, v6, v7, v8, v9] ∧ H' p = some (.lst (zs.map V.str)) ∧ zs.length = i ∧ Names zs ∧ But b H H' ∧ Bag H' b (n + 13 * i)) ?_ ?_ ?_⟩
    · exact ⟨[], none, none, none, none, none, none, none, rfl, upd_same, rfl, ⟨(fun _ h => nomatch h), .nil⟩, But.of (same_new np), hb.same (same_new np)⟩
    · rintro i σ' H' hi ⟨zs, v3, v4, v5, v6, v7, v8, v9, rfl, hp, hl, nm, u, bb⟩
      have hk : n + 13 * i < 900000 := by omega
      refine ⟨_, rfl, b, n + 13 * i, rfl, bb, hk, fun z1 H1 u1 b1 z1k z1l => ?_⟩
      refine ⟨_, rfl, b, 4, n + 13 * i + 10, rfl, b1, by omega, by decide, m_small (by decide) (by decide), fun way H2 u2 b2 w0 w1 => ⟨_, _, rfl, ?_⟩⟩
      have hp2 : H2 p = some (.lst (zs.map V.str)) := u2 _ _ pb (u1 _ _ pb hp)
      have u12 := (u.trans u1).trans u2
      have big : 1000 ≤ sizeLine := by decide
      dsimp only
      refine join_s (fun σ' H' => ∃ z v6 v7, σ' = [some (.ref b), some (.int (m : Int)), some (.ref p), some (.int (0 + (i : Int))), some (.str z), some (.int way), v6, v7, v8, v9] ∧ nameOk z = true ∧ z.length ≤ 8 ∧ But b H2 H' ∧ Bag H' b (n + 13 * i + 13)) (fun N fin => ?_) ?_
      · have skip : N [some (.ref b), some (.int (m : Int)), some (.ref p), some (.int (0 + (i : Int))), some (.str z1), some (.int way), v6, v7, v8, v9] H2 := fin _ _ ⟨z1, v6, v7, rfl, z1k, z1l, But.refl, b2.mono (by omega)⟩
        refine ⟨_, rfl, _, _, rfl, rfl, _, rfl, ite2 (fun c1 => ?_) (fun c1 => skip)⟩
        refine ⟨_, rfl, _, _, rfl, rfl, _, rfl, ite2 (fun c2 => ?_) (fun c2 => skip)⟩
        have i0 : 0 < (0 : Int) + (i : Int) := by have := of_decide_eq_true c1; omega
        refine ⟨_, rfl, _, rfl, _, rfl, b, _, _, rfl, b2, by omega, i0, m_small (by omega) (by omega), fun r H3 u3 b3 r0 r1 => ?_⟩
        have hr : r.toNat < zs.length := by omega
        obtain ⟨ok, ol⟩ := nm.ok _ (List.getElem_mem hr)
        have tg := (Tag.of ok).1
        refine ⟨p, _, r, .str zs[r.toNat], rfl, rfl, SqL.of (u3 _ _ pb hp2), atI_int r0 (by simp [hr]), ?_⟩
        generalize zs[r.toNat] = old at ok ol tg
        have ozl : old.length ≤ sizeLine := by omega
        have o1 : 1 ≤ old.length := by
          obtain ⟨_, d, cs, e, _⟩ := tg
          rw [len_tl, e]
          simp
        refine ⟨_, rfl, _, rfl, _, rfl, ozl, b, _, _, rfl, b3, by omega, by omega, m_small (by omega) (by omega), fun at_ H4 u4 b4 a0 a1 => ?_⟩
        obtain ⟨k, rfl⟩ := Int.eq_ofNat_of_zero_le a0
        have hk : k < old.length := by omega
        have u24 := u3.trans u4
        obtain ⟨c, hc, hcl⟩ := (Tag.of z1k).1.first
        have cl : ∀ lo hi, (cutS old lo hi).length ≤ 8 := fun lo hi => Nat.le_trans (cutS_length old lo hi) ol
        have c1 : (⟨#[c]⟩ : Str).length = 1 := rfl
        refine ⟨_, rfl, rfl, _, rfl, ite2 (fun c3 => ?_) (fun c3 => ?_)⟩
        · refine ⟨_, rfl, _, rfl, _, rfl, old, rfl, ozl, _, rfl, _, _, c, rfl, rfl, by omega, hc, _, _, rfl, rfl, ?_, _, rfl, _, rfl, _, _, rfl, rfl, _, rfl, old, rfl, ozl, _, _, rfl, rfl, ?_, ?_⟩
          · have := cl none (some (k : Int)); omega
          · have := cl none (some (k : Int)); have := cl (some ((k : Int) + 1)) none; rw [Str.length_append]; omega
          · have t := tg.swap hk hcl
            exact fin _ _ ⟨_, _, _, rfl, t.ok ol, by rw [t.1]; exact ol, u24, b4⟩
        · refine ⟨_, rfl, _, rfl, _, _, rfl, rfl, _, rfl, old, rfl, ozl, ?_⟩
          have t := tg.front hk
          exact fin _ _ ⟨_, _, _, rfl, t.ok (by omega), by rw [t.1]; omega, u24, b4⟩
      rintro _ H5 ⟨z, v6, v7, rfl, zk, zl, u5, b5⟩
      have hp5 : H5 p = some (.lst (zs.map V.str)) := u5 _ _ pb hp2
      have u05 := u12.trans u5
      refine ⟨by show 6 ≤ sizeLine; decide, fun L nL => ⟨L, rfl, ⟨_, SqL.of upd_same⟩, fun C nC => ?_⟩⟩
      have s6 : Same H5 (upd H5 L (.lst (SPARE.map V.str))) := same_new nL
      have hp6 := s6 _ _ hp5
      have b6 := b5.same s6
      have u06 := u05.trans (But.of s6)
      have hL6 := upd_same (H := H5) (a := L) (o := .lst (SPARE.map V.str))
      change upd H5 L (.lst (SPARE.map V.str)) C = none at nC
      generalize hx : upd H5 L (.lst (SPARE.map V.str)) = H6 at hp6 b6 u06 hL6 nC
      have Cp : C ≠ p := (ne_of_none hp6 nC).symm
      have CL : C ≠ L := (ne_of_none hL6 nC).symm
      have Cb : C ≠ b := b6.ne_none nC
      refine lc_list (K := K) (a := L) (xs := SPARE.map V.str) (fun j H' => H' = upd H6 C (.lst ((spareOf zs j).map V.str))) (by rw [← hx]; rfl) ?_ ?_ ?_
      · rintro j H' _ rfl
        exact SqL.of (by rw [upd_ne CL.symm]; exact hL6)
      · rintro j x Hj hxj rfl
        obtain ⟨y, hy, rfl⟩ : ∃ y, SPARE[j]? = some y ∧ V.str y = x := by
          rw [List.getElem?_map] at hxj
          cases q : SPARE[j]? with
          | none => rw [q] at hxj; cases hxj
          | some y => rw [q] at hxj; cases hxj; exact ⟨y, rfl, rfl⟩
        refine ⟨rfl, _, rfl, _, rfl, p, _, rfl, .inl (SqL.of (by rw [upd_ne Cp.symm]; exact hp6)), rfl, flat_strs zs, _, rfl, ?_⟩
        have e := spare_succ zs hy
        show (if (!inV (.str y) (zs.map V.str)) = true then _ else _)
        rw [inV_mem]
        by_cases hm : y ∈ zs
        · refine ifNF hm ?_
          rw [if_pos hm, List.append_nil] at e
          rw [e]
        · rw [if_neg hm] at e
          refine ifNT hm ⟨_, rfl, _, upd_same, ?_, ?_⟩
          · rw [List.length_map]
            have h1 : (spareOf zs j).length ≤ 6 := Nat.le_trans (List.length_filter_le _ _) (Nat.le_trans (by rw [List.length_take]; exact Nat.min_le_right _ _) (by decide))
            omega
          · rw [upd_upd, e, List.map_append]
            rfl
      rintro H7 rfl
      have hp7 : upd H6 C (.lst ((spareOf zs 6).map V.str)) p = some (.lst (zs.map V.str)) := by rw [upd_ne Cp.symm]; exact hp6
      have s7 : Same H6 (upd H6 C (.lst ((spareOf zs 6).map V.str))) := same_new nC
      have fin : ∀ y, nameOk y = true → y.length ≤ 8 → y ∉ zs → ∀ w8, ∃ (zs' : List Str) (x3 x4 x5 x6 x7 x8 x9 : Option V), [some (.ref b), some (.int (m : Int)), some (.ref p), some (.int (0 + (i : Int))), some (.str z), some (.int way), v6, v7, w8, v9] = [some (.ref b), some (.int (m : Int)), some (.ref p), x3, x4, x5, x6, x7, x8, x9] ∧
          upd (upd H6 C (.lst ((spareOf zs 6).map V.str))) p (.lst (zs.map V.str ++ [.str y])) p = some (.lst (zs'.map V.str)) ∧ zs'.length = i + 1 ∧ Names zs' ∧ But b H (upd (upd H6 C (.lst ((spareOf zs 6).map V.str))) p (.lst (zs.map V.str ++ [.str y]))) ∧ Bag (upd (upd H6 C (.lst ((spareOf zs 6).map V.str))) p (.lst (zs.map V.str ++ [.str y]))) b (n + 13 * (i + 1)) := fun y h1 h2 h3 w8 =>
        ⟨zs ++ [y], _, _, _, _, _, _, _, rfl, by rw [upd_same, List.map_append]; rfl, by rw [List.length_append, hl]; rfl, nm.app h1 h2 h3, (u06.trans (But.of s7)).mut np, ((b6.same s7).put pb).mono (by omega)⟩
      refine ⟨_, rfl, .inl ⟨rfl, _, SqL.of hp7⟩, _, rfl, _, rfl, p, _, rfl, .inl (SqL.of hp7), rfl, flat_strs zs, _, rfl, ?_⟩
      have sz : (zs.map V.str).length < sizeLine := by rw [List.length_map, hl]; omega
      rw [inV_mem]
      by_cases hm : z ∈ zs
      · obtain ⟨y, l, e, yn, yk, yl⟩ := spare_some (zs := zs) (by omega)
        refine ifT hm ⟨_, rfl, C, _, _, .str y, rfl, rfl, SqL.of upd_same, ?_, p, _, _, rfl, rfl, hp7, sz, fin y yk yl yn _⟩
        show atI ((spareOf zs 6).map V.str) 0 = _
        rw [e]
        exact atI_zero _ _
      · exact ifF hm ⟨_, rfl, p, _, _, rfl, rfl, hp7, sz, fin z zk zl hm _⟩
    · rintro σ' H' ⟨zs, v3, v4, v5, v6, v7, v8, v9, rfl, hp, hl, nm, u, bb⟩
      exact ⟨_, rfl, ret p zs H' np u (by simpa using bb) hp pb (by simpa using hl) nm⟩
end L

namespace Hv
open PySem L2
theorem signs_app : SIGNS.cps.toList = LETS.cps.toList ++ DIGS.cps.toList := by decide +kernel
theorem signs_in (c : Nat) : decide (c ∈ SIGNS.cps.toList) = signOk c := by
  rw [signs_app]
  unfold signOk
  by_cases h1 : c ∈ LETS.cps.toList <;> by_cases h2 : c ∈ DIGS.cps.toList <;> simp [h1, h2]
theorem signs_cut : cutS SIGNS none (some 26) = LETS := by decide +kernel
def sp_is_tag (K : PySem.W.Frag) : Sp := fun vs H Q _ => ∃ (b : Addr) (v : V) (d : PyData), vs = [v] ∧ Dq K b H v d ∧ shortD d = true ∧ ∀ H', Same H H' → Q (.bl (nameD d)) H'
theorem is_tag_d {K : PySem.W.Frag} {b : Addr} {H : Hp} {v : V} {d : PyData} {Q : VK} {E : XK} (h : Dq K b H v d) (sh : shortD d = true) (q : ∀ H', Same H H' → Q (.bl (nameD d)) H') : lk (sp_is_tag K) [v] H Q E := lk_in ⟨b, v, d, rfl, h, sh, q⟩
end Hv
namespace L
open PySem L2 Hv
variable {P : Program} {w : World} {K : PySem.W.Frag} {mg : Str → Option Value} {base : Heap}
abbrev s_is_tag : Stmt := top 69
abbrev N_is_tag : List Str := ["_law_term", "_law_signs", "_law_sign"]
abbrev P_is_tag : List Str := ["_law_term"]
theorem sc_is_tag : FnScope N_is_tag P_is_tag (defScope s_is_tag) := ⟨rfl, rfl, rfl, by decide +kernel, rfl, by decide +kernel, by decide +kernel⟩
theorem ok_is_tag {f : Addr} {fd : FuncData} (D : DefAt K mg "_law_is_tag" s_is_tag P_is_tag f fd) (T : Txt K mg) : FnOk P w K mg base CX0 1 f fd P_is_tag (sp_is_tag K) := by
  refine D.fn.ok sc_is_tag (fun vs H Q E h => ?_) (fun cdv A outer s H vs Q E hr h => ?_)
  · obtain ⟨b, v, d, rfl, _⟩ := h
    rfl
  · obtain ⟨b, v, d, rfl, hd, sh, ret⟩ := h
    refine ⟨_, (pss_cons (ps_asg pe_str (pg_name (i := 1) sc_is_tag.nd rfl (.inr rfl)))
      (pss_cons (ps_if (PW.pt (pw_or (pt_not (pt_val (pe_callB call_isi (by rfl) T.isinstance (by decide +kernel) (pa_cons (pv 0) (pa_cons (pe_bltn (v := .ty "str") (u := .type "str") (by rfl) T.str (by decide +kernel) rfl) pa_nil))))) (pw_or (pt_not (pt_chain op_lt op_lt pe_int (pe_callB call_len_str (by rfl) T.len (by decide +kernel) (pa_cons (pv 0) pa_nil)) pe_int)) (pw_or1 (pt_cmpR op_notIn_sign (pe_ix ix_str (pv 0) pe_int (fun _ _ => rfl)) (pe_slice sl_str (pv 1) po_none (po_some pe_int)) (by rfl))))))
      (pss_one (ps_ret pe_bl))
      pss_nil)
      (pss_one (ps_ret (pe_callB (cr_all rfl) (by rfl) T.all (by decide +kernel) (pa_cons (pe_lc (own := [("_law_sign", 2)]) (g := gName 2) rfl sc_is_tag.nd (pi_str (pv 0)) (blkOk_by (own := [("_law_sign", 2)]) (N := N_is_tag) (sc := defScope s_is_tag) (by decide +kernel)) (fun _ _ _ _ _ => (pg_name (i := 2) sc_is_tag.nd rfl (.inl rfl))) (fun _ _ _ _ _ => pts_nil) (fun _ _ _ _ _ => (pe_cmpR op_in_sign (pv 2) (pv 1) (by rfl)))) pa_nil)))))), ?_⟩
    have k1 := kit_str (K := K) d
    refine ⟨_, rfl, _, _, _, _, _, rfl, .ty _, hd.ty, k1, _, rfl, ?_⟩
    cases hs : isStrD d with
    | false =>
      have e : nameD d = false := by cases d <;> first | rfl | cases hs
      rw [e] at ret
      exact iteT (ret _ (Same.refl H))
    | true =>
      refine iteF ?_
      cases hd with
      | str z =>
        have hz := line_of_short sh
        have no : nameOk z = false → ∀ H', Same H H' → Q (.bl false) H' := fun e H' sm => by
          have q : Q (.bl (nameOk z)) H' := ret H' sm
          rw [e] at q
          exact q
        refine ⟨_, rfl, _, rfl, hz, _, _, rfl, rfl, _, rfl, ?_⟩
        refine ite2 (fun h1 => ?_) (fun h1 => ?_)
        · have h1' : (0 : Int) < z.length := of_decide_eq_true h1
          refine ⟨_, _, rfl, rfl, _, rfl, ?_⟩
          have l := str_len z
          obtain ⟨c, cs, hc⟩ : ∃ c cs, z.cps.toList = c :: cs := by
            cases e : z.cps.toList with
            | nil => rw [e] at l; simp at l; omega
            | cons c cs => exact ⟨c, cs, rfl⟩
          have un : nameOk z = (decide (z.length ≤ 8) && decide (c ∈ LETS.cps.toList) && z.cps.toList.all signOk) := by
            unfold nameOk
            rw [hc]
          refine ite2 (fun h2 => ?_) (fun h2 => ?_)
          · refine no ?_ H (Same.refl H)
            have : ¬ ((z.length : Int) < 9) := nT h2
            rw [un, decide_eq_false (by omega)]
            rfl
          · have h8 : (z.length : Int) < 9 := nF h2
            refine ⟨_, rfl, _, _, c, rfl, rfl, hz, by rw [hc]; exact atI_zero c cs, _, rfl, _, rfl, _, rfl, by decide, ?_⟩
            rw [signs_cut]
            refine ⟨c, _, rfl, rfl, _, rfl, ?_⟩
            refine ite2 (fun h3 => ?_) (fun h3 => ?_)
            · refine no ?_ H (Same.refl H)
              rw [un, decide_eq_false (nT h3), Bool.and_false, Bool.false_and]
            · have h3' : c ∈ LETS.cps.toList := nF h3
              refine ⟨_, rfl, _, rfl, fun L hL => ?_⟩
              refine lc_it walk_str (fun i H' => H' = upd H L (.lst ((z.cps.toList.take i).map fun c => V.bl (signOk c)))) ?_ (fun _ _ _ _ => trivial) ?_ ?_
              · rfl
              · rintro i x H1 H2 hi rfl ⟨rfl, c, hc, rfl⟩
                have step : ∀ b, b = signOk c → ∃ xs, upd H L (.lst ((z.cps.toList.take i).map fun c => V.bl (signOk c))) L = some (.lst xs) ∧ xs.length < sizeLine ∧
                    upd (upd H L (.lst ((z.cps.toList.take i).map fun c => V.bl (signOk c)))) L (.lst (xs ++ [V.bl b])) = upd H L (.lst ((z.cps.toList.take (i + 1)).map fun c => V.bl (signOk c))) := by
                  rintro b rfl
                  refine ⟨_, upd_same, ?_, ?_⟩
                  · rw [List.length_map, List.length_take]
                    have s2 : 8 < sizeLine := by decide
                    omega
                  · rw [upd_upd, List.take_succ]
                    have e : z.cps.toList[i]? = some c := by simpa using hc
                    rw [e, List.map_append]
                    rfl
                exact ⟨rfl, _, rfl, _, rfl, c, _, rfl, rfl, step _ (signs_in c)⟩
              · rintro H1 rfl
                have e : List.take z.cps.size z.cps.toList = z.cps.toList := List.take_of_length_le (by simp)
                rw [e]
                refine ⟨_, z.cps.toList.map signOk, rfl, SqL.of (by rw [upd_same, List.map_map]; rfl), ?_⟩
                have q : Q (.bl (nameOk z)) _ := ret _ (same_new (o := .lst (z.cps.toList.map fun c => V.bl (signOk c))) hL)
                rw [un, decide_eq_true (show z.length ≤ 8 by omega), decide_eq_true h3', Bool.true_and, Bool.true_and] at q
                rw [List.all_map]
                exact q
        · refine ⟨_, rfl, iteT (no ?_ H (Same.refl H))⟩
          have : ¬ ((0 : Int) < z.length) := dF h1
          have l := str_len z
          unfold nameOk
          cases e : z.cps.toList with
          | nil => rfl
          | cons c cs => rw [e] at l; simp at l; omega
      | _ => cases hs
end L

namespace Hv
open PySem L2
theorem cutS_ok {z : Str} (h : PyData.strOk z = true) (lo hi : Option Int) : PyData.strOk (cutS z lo hi) = true := by
  rw [strOk_iff] at *
  intro c hc
  have : c ∈ (z.cps.toList.drop (HT.sIx z.length 0 lo)).take (HT.sIx z.length z.length hi - HT.sIx z.length 0 lo) := by
    unfold cutS at hc
    simpa using hc
  exact h c (List.mem_of_mem_drop (List.mem_of_mem_take this))
theorem atI_some {α : Type} {xs : List α} {r : Int} (h0 : 0 ≤ r) (h : r.toNat < xs.length) : atI xs r = some xs[r.toNat] := by
  unfold atI ixN
  rw [if_pos h0, if_pos (by omega)]
  simp [h]
theorem one_ok {c : Nat} (h : c < 0x110000) : PyData.strOk ⟨#[c]⟩ = true := by
  rw [strOk_iff]
  intro d hd
  simp at hd
  omega
abbrev SPOIL : Str := Str.ofString "abcdefghijklmnopqrstuvwxyz0123456789 _-/ABCZ.,:"
theorem spoil_len : SPOIL.cps.toList.length = 47 := by decide +kernel
theorem spoil_ok : ∀ c ∈ SPOIL.cps.toList, c < 0x110000 := by decide +kernel
theorem cut_two (z : Str) {k : Nat} (hk : k ≤ z.length) : (cutS z none (some (k : Int))).length = k ∧ (cutS z (some (k : Int)) none).length = z.length - k ∧ (cutS z (some ((k : Int) + 1)) none).length = z.length - (k + 1) := by
  refine ⟨?_, ?_, ?_⟩
  · rw [len_tl, cut_to, List.length_take, ← len_tl]
    omega
  · rw [len_tl, cut_from, List.length_drop, ← len_tl]
  · rw [len_tl, show ((k : Int) + 1) = ((k + 1 : Nat) : Int) from rfl, cut_from, List.length_drop, ← len_tl]
def sp_bent : Sp := fun vs H Q _ => ∃ (b : Addr) (z : Str) (n : Nat), vs = [.ref b, .str z] ∧ Bag H b n ∧ n < 800000 ∧ z.length ≤ 100 ∧ PyData.strOk z = true ∧ ∀ (r : Str) (H' : Hp), But b H H' → Bag H' b (n + 3) → r.length ≤ z.length + 1 → PyData.strOk r = true → Q (.str r) H'
end Hv
namespace L
open PySem L2 Hv
variable {P : Program} {w : World} {K : PySem.W.Frag} {mg : Str → Option Value} {base : Heap}
abbrev s_bent : Stmt := top 68
abbrev N_bent : List Str := ["_law_bag_here", "_law_line", "_law_signs", "_law_at", "_law_way", "_law_sign"]
abbrev P_bent : List Str := ["_law_bag_here", "_law_line"]
theorem sc_bent : FnScope N_bent P_bent (defScope s_bent) := ⟨rfl, rfl, rfl, by decide +kernel, rfl, by decide +kernel, by decide +kernel⟩
theorem ok_bent {f f1 : Addr} {fd fd1 : FuncData} (D : DefAt K mg "_law_bent" s_bent P_bent f fd) (T : Txt K mg) (D_take : DefAt K mg "_law_take" s_take P_take f1 fd1) : FnOk P w K mg base CX0 2 f fd P_bent sp_bent := by
  have G_take : FnOk P w K mg base CX0 1 f1 fd1 P_take sp_take := ok_take D_take T
  refine D.fn.ok sc_bent (fun vs H Q E h => ?_) (fun cdv A outer s H vs Q E hr h => ?_)
  · obtain ⟨b, z, n, rfl, _⟩ := h
    rfl
  · obtain ⟨b, z, n, rfl, hb, hn, hz, zk, ret⟩ := h
    have big : 1000 ≤ sizeLine := by decide
    have zs : z.length ≤ sizeLine := by omega
    refine ⟨_, (pss_cons (ps_asg pe_str (pg_name (i := 2) sc_bent.nd rfl (.inl rfl)))
      (pss_cons (ps_par (i := 3) (j := 4) (by rfl) sc_bent.nd rfl rfl (by decide) rfl rfl (pa_cons (pe_call G_take (hr.mono (by decide)) rfl D_take.mg D_take.fn.kp D_take.bd .nil pass0 (pa_cons (pv 0) (pa_cons (pe_op op_add (pe_callB call_len_str (by rfl) T.len (by decide +kernel) (pa_cons (pv 1) pa_nil)) pe_int) pa_nil))) (pa_cons (pe_call G_take (hr.mono (by decide)) rfl D_take.mg D_take.fn.kp D_take.bd .nil pass0 (pa_cons (pv 0) (pa_cons pe_int pa_nil))) pa_nil)) (by rfl))
      (pss_cons (ps_asg (pe_ix ix_str (pv 2) (pe_call G_take (hr.mono (by decide)) rfl D_take.mg D_take.fn.kp D_take.bd .nil pass0 (pa_cons (pv 0) (pa_cons pe_int pa_nil))) (fun _ _ => rfl)) (pg_name (i := 5) sc_bent.nd rfl (.inl rfl)))
      (pss_cons (ps_if (pt_cmpR op_eq (pv 4) pe_int (nomark _))
      (pss_one (ps_ret (pe_op op_add_str (pe_op op_add_str (pe_slice sl_str (pv 1) po_none (po_some (pv 3))) (pv 5)) (pe_slice sl_str (pv 1) (po_some (pv 3)) po_none))))
      pss_nil)
      (pss_one (ps_ret (pe_ifExp (pt_cmpR op_eq (pv 4) pe_int (nomark _)) (pe_op op_add_str (pe_op op_add_str (pe_slice sl_str (pv 1) po_none (po_some (pv 3))) (pv 5)) (pe_slice sl_str (pv 1) (po_some (pe_op op_add (pv 3) pe_int)) po_none)) (pe_op op_add_str (pe_slice sl_str (pv 1) po_none (po_some (pv 3))) (pe_slice sl_str (pv 1) (po_some (pe_op op_add (pv 3) pe_int)) po_none))))))))), ?_⟩
    refine ⟨_, rfl, _, rfl, _, rfl, zs, _, _, rfl, rfl, b, _, n, rfl, hb, by omega, by omega, m_small (by omega) (by omega), fun r H1 u1 b1 r0 r1 => ?_⟩
    refine ⟨_, rfl, b, 3, n + 1, rfl, b1, by omega, by decide, m_small (by decide) (by decide), fun way H2 u2 b2 w0 w1 => ⟨_, _, rfl, ?_⟩⟩
    refine ⟨_, rfl, _, rfl, b, 47, n + 2, rfl, b2, by omega, by decide, m_small (by decide) (by decide), fun q H3 u3 b3 q0 q1 => ?_⟩
    have ql : q.toNat < SPOIL.cps.toList.length := by rw [spoil_len]; omega
    have hc := spoil_ok _ (List.getElem_mem ql)
    refine ⟨_, _, _, rfl, rfl, by decide, atI_some q0 ql, ?_⟩
    generalize SPOIL.cps.toList[q.toNat] = c at hc
    have ck := one_ok hc
    have c1 : (⟨#[c]⟩ : Str).length = 1 := rfl
    have u := (u1.trans u2).trans u3
    obtain ⟨k, rfl⟩ := Int.eq_ofNat_of_zero_le r0
    obtain ⟨l1, l2, l3⟩ := cut_two z (show k ≤ z.length by omega)
    have al : ∀ a b : Str, (a ++ b).length = a.length + b.length := fun a b => Str.length_append a b
    refine ⟨_, rfl, rfl, _, rfl, ?_⟩
    refine ite2 (fun h1 => ?_) (fun h1 => ?_)
    · refine ⟨_, rfl, _, rfl, _, rfl, z, rfl, zs, _, rfl, _, _, rfl, rfl, ?_, _, rfl, _, rfl, _, rfl, z, rfl, zs, _, _, rfl, rfl, ?_, ret _ H3 u b3 ?_ (strOk_app (strOk_app (cutS_ok zk _ _) ck) (cutS_ok zk _ _))⟩
      · omega
      · rw [al]; omega
      · rw [al, al]; omega
    · refine ⟨_, rfl, rfl, _, rfl, ?_⟩
      refine ite2 (fun h2 => ?_) (fun h2 => ?_)
      · refine ⟨_, rfl, _, rfl, _, rfl, z, rfl, zs, _, rfl, _, _, rfl, rfl, ?_, _, rfl, _, rfl, _, _, rfl, rfl, _, rfl, z, rfl, zs, _, _, rfl, rfl, ?_, ret _ H3 u b3 ?_ (strOk_app (strOk_app (cutS_ok zk _ _) ck) (cutS_ok zk _ _))⟩
        · omega
        · rw [al]; omega
        · rw [al, al]; omega
      · refine ⟨_, rfl, _, rfl, _, rfl, z, rfl, zs, _, rfl, _, rfl, _, _, rfl, rfl, _, rfl, z, rfl, zs, _, _, rfl, rfl, ?_, ret _ H3 u b3 ?_ (strOk_app (cutS_ok zk _ _) (cutS_ok zk _ _))⟩
        · omega
        · rw [al]; omega
end L

namespace Hv
open PySem L2
section
variable {X : Cx} {e : Expr} {ta : TE} {C g : Addr} {f : Str} {pos : Pos} {n : Nat} {sp : Sp} {fd : FuncData} {ps : List Str}
theorem units65 {k : Nat} {A : Around} (r : Room k A) : A.units + 65 < cLine := by have := r.un; omega
theorem pe_propD (he : PE X e ta) (c : Cls X.K C) (p : PropK X.K C f g) (F : FnOk X.prog X.w X.K X.mg X.base CX0 n g fd ps sp) (hb : Binds X.K fd ps []) (hr : Room (n + 1) X.A)
    (hab : attributeBase e f X.env (eval e X.env) = eval e X.env := by rfl) : PE X (.Attribute e f pos) (tProp C sp [] E0 ta) := by
  obtain ⟨p, h1, h2, h3, h4⟩ := p.ex
  exact pe_prop he c ⟨h1, h2, h3, h4⟩ F hr hb .nil pass0 hab
end
structure KitNo (K : PySem.W.Frag) (C : Addr) : Prop where
  u1 : PySem.W.kitOne K (.type "NoneType") (.ref C) = some false
  u2 : PySem.W.kitOne K (.type "int") (.ref C) = some false
  u3 : PySem.W.kitOne K (.type "bool") (.ref C) = some false
  u4 : PySem.W.kitOne K (.type "str") (.ref C) = some false
  u5 : PySem.W.kitOne K (.type "list") (.ref C) = some false
  u6 : PySem.W.kitOne K (.type "tuple") (.ref C) = some false
theorem four_same (b : Bool) : [PyData.list [.bool true, .bool true, .bool true, .bool true], PyData.list [.bool false, .bool false, .bool false, .bool false]].any (fun z => PyData.eqv z (.list [.bool b, .bool b, .bool b, .bool b])) = true := by
  cases b <;> decide +kernel
end Hv

namespace Hv
open PySem L2
theorem dp_strs {K : PySem.W.Frag} {H : Hp} : ∀ l : List Str, DpAll K H (l.map V.str) (l.map PyData.str)
  | [] => .nil
  | z :: l => .cons (.str z) (dp_strs l)
theorem fit_strs : ∀ {l : List Str}, (∀ z ∈ l, Fit (.str z) 1 sizeLine) → ∃ n, FitAll (l.map PyData.str) 1 n
  | [], _ => ⟨0, .nil⟩
  | z :: l, h => by
    obtain ⟨n, f⟩ := fit_strs (l := l) fun x hx => h x (by simp [hx])
    exact ⟨_, .cons (h z (by simp)) f⟩
theorem shaped_strs {l : List Str} (h : ∀ z ∈ l, Fit (.str z) 1 sizeLine) : SeqAt.shaped (.list (l.map PyData.str)) = true := by
  obtain ⟨n, f⟩ := fit_strs h
  exact (Fit.list f).shaped (by decide)
theorem refl_strs {l : List Str} (h : ∀ z ∈ l, Fit (.str z) 1 sizeLine) : PyData.eqv (.list (l.map PyData.str)) (.list (l.map PyData.str)) = true := by
  obtain ⟨n, f⟩ := fit_strs h
  exact (Fit.list f).eqv
theorem eqv_nil (l : List Str) : PyData.eqv (.list (l.map PyData.str)) (.list []) = decide (l = []) := by
  cases l with
  | nil => decide +kernel
  | cons z l => simp [PyData.eqv, PyData.eqvAll]
/-- what the catcher tells, if due is due and d is what is told otherwise -/
def toldL (due : List Str) (d : PyData) : List Str := if due = [] then [Str.ofString "told", d.shown] else due
theorem told_fit {due : List Str} {d : PyData} {m n : Nat} (h : ∀ z ∈ due, Fit (.str z) 1 sizeLine) (f : FitQ d m n) (hn : n ≤ 5000) : ∀ z ∈ toldL due d, Fit (.str z) 1 sizeLine := by
  intro z hz
  unfold toldL at hz
  split at hz
  · simp only [List.mem_cons, List.not_mem_nil, or_false] at hz
    rcases hz with rfl | rfl
    · exact .str (strOk_of _) (by decide +kernel)
    · exact f.str hn
  · exact h z hz
section
variable {K : PySem.W.Frag} {b : Addr} {σ : L2.St} {H : Hp} {L U : Addr} {i j : Nat} {te : TE} {v : V} {d : PyData} {m n : Nat} {due : List Str} {Q : VK}
/-- due == [] -/
theorem due_nil {te' : TE} {U' : Addr} (hU : H U' = some (.lst (due.map V.str))) (hf : ∀ z ∈ due, Fit (.str z) 1 sizeLine) (ht : ∀ Q : VK, Q (.ref U') H → te' σ H Q) (q : ∀ H2, Same H H2 → Q (.bl (decide (due = []))) H2) : tOp (rEqD K) te' (tLst tNil) σ H Q := by
  refine ht _ ⟨by decide, fun e ne => ⟨.list (due.map PyData.str), .list [], .lst (SqL.of (same_new ne _ _ hU)) (dp_strs _), .lst (SqL.of upd_same) .nil, shaped_strs hf, by decide +kernel, ?_⟩⟩
  rw [eqv_nil]
  exact q _ (same_new ne)
theorem due_some {te' : TE} {U' : Addr} (hU : H U' = some (.lst (due.map V.str))) (hf : ∀ z ∈ due, Fit (.str z) 1 sizeLine) (ht : ∀ Q : VK, Q (.ref U') H → te' σ H Q) (q : ∀ H2, Same H H2 → Q (.bl (!decide (due = []))) H2) : tOp (rNeD K) te' (tLst tNil) σ H Q := by
  refine ht _ ⟨by decide, fun e ne => ⟨.list (due.map PyData.str), .list [], .lst (SqL.of (same_new ne _ _ hU)) (dp_strs _), .lst (SqL.of upd_same) .nil, shaped_strs hf, by decide +kernel, ?_⟩⟩
  rw [eqv_nil]
  exact q _ (same_new ne)
theorem due_someN {te' : TE} (hf : ∀ z ∈ due, Fit (.str z) 1 sizeLine) (ht : ∀ Q : VK, (∀ U' H1, Same H H1 → H1 U' = some (.lst (due.map V.str)) → Q (.ref U') H1) → te' σ H Q) (q : ∀ H2, Same H H2 → Q (.bl (!decide (due = []))) H2) : tOp (rNeD K) te' (tLst tNil) σ H Q := by
  refine ht _ fun U' H1 s1 hU => ⟨by decide, fun e ne => ⟨.list (due.map PyData.str), .list [], .lst (SqL.of (same_new ne _ _ hU)) (dp_strs _), .lst (SqL.of upd_same) .nil, shaped_strs hf, by decide +kernel, ?_⟩⟩
  rw [eqv_nil]
  exact q _ (s1.trans (same_new ne))
/-- ['told', repr(..)] if due == [] else due -/
theorem told_due (hj : σ[j]? = some (some (.ref U))) (hU : H U = some (.lst (due.map V.str))) (hf : ∀ z ∈ due, Fit (.str z) 1 sizeLine) (ht : ∀ H1 (Q : VK), Same H H1 → Q v H1 → te σ H1 Q) (hv : Dq K b H v d) (fv : FitQ d m n) (hm : m ≤ 60) (hn : n ≤ 5000)
    (q : ∀ p H2, Same H H2 → H2 p = some (.lst ((toldL due d).map V.str)) → Q (.ref p) H2) :
    tIf (tTest (tOp (rEqD K) (tVar j) (tLst tNil))) (tLst (tCons (tC (.str (Str.ofString "told"))) (tCons (tCB (rReprQ K) (tCons te tNil)) tNil))) (tVar j) σ H Q := by
  refine due_nil (U' := U) hU hf (fun Q q => ⟨_, hj, q⟩) fun H2 s2 => ⟨_, rfl, ?_⟩
  by_cases h : due = []
  · refine ifT h (ht H2 _ s2 (rd_reprQ (hv.same s2) fv hm hn ⟨by show 2 ≤ sizeLine; decide, fun p np => q p _ (s2.trans (same_new np)) ?_⟩))
    rw [upd_same]
    unfold toldL
    rw [if_pos h]
    rfl
  · refine ifF h ⟨_, hj, q U H2 s2 ?_⟩
    rw [s2 _ _ hU]
    unfold toldL
    rw [if_neg h]
/-- told != (that) -/
theorem told_ne (hi : σ[i]? = some (some (.ref L))) (hL : H L = some (.lst ((toldL due d).map V.str))) (hj : σ[j]? = some (some (.ref U))) (hU : H U = some (.lst (due.map V.str))) (hf : ∀ z ∈ due, Fit (.str z) 1 sizeLine) (ht : ∀ H1 (Q : VK), Same H H1 → Q v H1 → te σ H1 Q) (hv : Dq K b H v d)
    (fv : FitQ d m n) (hm : m ≤ 60) (hn : n ≤ 5000) (q : ∀ H2, Same H H2 → Q (.bl false) H2) :
    tOp (rNeD K) (tVar i) (tIf (tTest (tOp (rEqD K) (tVar j) (tLst tNil))) (tLst (tCons (tC (.str (Str.ofString "told"))) (tCons (tCB (rReprQ K) (tCons te tNil)) tNil))) (tVar j)) σ H Q := by
  have ft := told_fit hf fv hn
  refine ⟨_, hi, told_due hj hU hf ht hv fv hm hn fun p H2 s2 h2 => ⟨.list ((toldL due d).map PyData.str), .list ((toldL due d).map PyData.str), .lst (SqL.of (s2 _ _ hL)) (dp_strs _), .lst (SqL.of h2) (dp_strs _), shaped_strs ft, shaped_strs ft, ?_⟩⟩
  rw [refl_strs ft]
  exact q H2 s2
/-- told == (that) -/
theorem told_eq (hi : σ[i]? = some (some (.ref L))) (hL : H L = some (.lst ((toldL due d).map V.str))) (hj : σ[j]? = some (some (.ref U))) (hU : H U = some (.lst (due.map V.str))) (hf : ∀ z ∈ due, Fit (.str z) 1 sizeLine) (ht : ∀ H1 (Q : VK), Same H H1 → Q v H1 → te σ H1 Q) (hv : Dq K b H v d)
    (fv : FitQ d m n) (hm : m ≤ 60) (hn : n ≤ 5000) (q : ∀ H2, Same H H2 → Q (.bl true) H2) :
    tOp (rEqD K) (tVar i) (tIf (tTest (tOp (rEqD K) (tVar j) (tLst tNil))) (tLst (tCons (tC (.str (Str.ofString "told"))) (tCons (tCB (rReprQ K) (tCons te tNil)) tNil))) (tVar j)) σ H Q := by
  have ft := told_fit hf fv hn
  refine ⟨_, hi, told_due hj hU hf ht hv fv hm hn fun p H2 s2 h2 => ⟨.list ((toldL due d).map PyData.str), .list ((toldL due d).map PyData.str), .lst (SqL.of (s2 _ _ hL)) (dp_strs _), .lst (SqL.of h2) (dp_strs _), shaped_strs ft, shaped_strs ft, ?_⟩⟩
  rw [refl_strs ft]
  exact q H2 s2
end
/-- an error that is told: [its name, what it holds] -/
theorem ech_tell {K : PySem.W.Frag} {c : Nat → Addr} {H : Hp} {j : Nat} {b : Addr} {v : V} {d : PyData} {m n : Nat} {Q : VK} (hj : oneF j = true) (EX : ErrIx K c j) (hv : Dq K b H v d) (fv : FitQ d m n) (hm : m ≤ 60) (hn : n ≤ 5000)
    (q : ∀ p H2, H p = none → Same H H2 → H2 p = some (.lst [.str (term j), .str d.shown]) → Q (.ref p) H2) : GivenE c j (echQ K c Q) H v := fun dd H' hd s hx =>
  ⟨j, b, v, d, m, n, rfl, hj, EX, .inr ⟨dd, rfl, hx⟩, hv.same s, fv, hm, hn, fun p H2 hp s2 h => q p H2 (s.free hp) (s.trans s2) h⟩
end Hv

namespace Hv
open PySem L2
def ODD1 : List PyData := [.none, .bool true, .int 0, .int 1, .str (Str.ofString ""), .str (Str.ofString "each"), .str (Str.ofString "all"), .str (Str.ofString "each 0"), .str (Str.ofString "each 4"), .str (Str.ofString "all 0"), .str (Str.ofString "each 01"), .str (Str.ofString "each  1"), .str (Str.ofString "free 1"), .str (Str.ofString "Free")]
def ODD2 : List PyData := [.str (Str.ofString "each 1 "), .str (Str.ofString " all 2"), .tuple [.str (Str.ofString "each"), .int 1], .list [.str (Str.ofString "free")], .tuple [.str (Str.ofString "free")], .dict [], .str (Str.ofString "each -1"), .str (Str.ofString "all 10"), .str (Str.ofString "abcdefghi"), .str (Str.ofString "a b")]
def ODD : List PyData := ODD1 ++ ODD2
def goodD (d : PyData) : Bool := fitB d 2 60 && shortD d
theorem odd_good : (ODD.all goodD) = true := by decide +kernel
def sp_amounts : Sp := fun vs H Q _ => vs = [] ∧ ∀ p, H p = none → Q (.ref p) (upd H p (.lst (AMTS.map V.str)))
/-- a value that is drawn -/
structure GoodD (d : PyData) : Prop where
  fit : FitQ d 2 60
  sh : shortD d = true
theorem good_of {d : PyData} (this : goodD d = true) : GoodD d := by
  unfold goodD at this
  rw [Bool.and_eq_true] at this
  exact ⟨fitB_ok this.1, this.2⟩
theorem good_odd {d : PyData} (h : d ∈ ODD) : GoodD d := by
  have := List.all_eq_true.mp odd_good d h
  unfold goodD at this
  rw [Bool.and_eq_true] at this
  exact ⟨fitB_ok this.1, this.2⟩
theorem good_str {z : Str} (h : PyData.strOk z = true) (l : z.length ≤ 60) : GoodD (.str z) := ⟨(Fit.str h l).q, decide_eq_true (by omega)⟩
end Hv
namespace L
open PySem L2 Hv Evl
variable {P : Program} {w : World} {K : PySem.W.Frag} {mg : Str → Option Value} {base : Heap}
abbrev s_amounts : Stmt := top 67
abbrev N_amounts : List Str := []
abbrev P_amounts : List Str := []
theorem sc_amounts : FnScope N_amounts P_amounts (defScope s_amounts) := ⟨rfl, rfl, rfl, by decide +kernel, rfl, by decide +kernel, by decide +kernel⟩
theorem ok_amounts {f : Addr} {fd : FuncData} (D : DefAt K mg "_law_amounts" s_amounts P_amounts f fd) : FnOk P w K mg base CX0 1 f fd P_amounts sp_amounts := by
  refine D.fn.ok sc_amounts (fun vs H Q E h => ?_) (fun cdv A outer s H vs Q E hr h => ?_)
  · obtain ⟨rfl, _⟩ := h
    rfl
  · obtain ⟨rfl, ret⟩ := h
    refine ⟨_, (pss_one (ps_ret (pe_lst (pa_cons pe_str (pa_cons pe_str (pa_cons pe_str (pa_cons pe_str (pa_cons pe_str (pa_cons pe_str (pa_cons pe_str (pa_cons pe_str pa_nil))))))))))), ?_⟩
    exact ⟨by show 8 ≤ sizeLine; decide, fun p np => ret p np⟩
abbrev s_odd : Stmt := top 70
abbrev N_odd : List Str := ["_law_bag_here", "_law_some"]
abbrev P_odd : List Str := ["_law_bag_here"]
theorem sc_odd : FnScope N_odd P_odd (defScope s_odd) := ⟨rfl, rfl, rfl, by decide +kernel, rfl, by decide +kernel, by decide +kernel⟩
theorem ok_odd {f f1 : Addr} {fd fd1 : FuncData} (D : DefAt K mg "_law_odd" s_odd P_odd f fd) (T : Txt K mg) (D_take : DefAt K mg "_law_take" s_take P_take f1 fd1) : FnOk P w K mg base CX0 2 f fd P_odd (sp_odd K ODD) := by
  have G_take : FnOk P w K mg base CX0 1 f1 fd1 P_take sp_take := ok_take D_take T
  refine D.fn.ok sc_odd (fun vs H Q E h => ?_) (fun cdv A outer s H vs Q E hr h => ?_)
  · obtain ⟨b, n, rfl, _⟩ := h
    rfl
  · obtain ⟨b, n, rfl, hb, hn, ret⟩ := h
    refine ⟨_, (pss_cons (ps_asg (pe_lst (pa_cons pe_non (pa_cons pe_bl (pa_cons pe_int (pa_cons pe_int (pa_cons pe_str (pa_cons pe_str (pa_cons pe_str (pa_cons pe_str (pa_cons pe_str (pa_cons pe_str (pa_cons pe_str (pa_cons pe_str (pa_cons pe_str (pa_cons pe_str pa_nil))))))))))))))) (pg_name (i := 1) sc_odd.nd rfl (.inl rfl)))
      (pss_cons (ps_asg (pe_op op_cat (pv 1) (pe_lst (pa_cons pe_str (pa_cons pe_str (pa_cons (pe_tup (pa_cons pe_str (pa_cons pe_int pa_nil))) (pa_cons (pe_lst (pa_cons pe_str pa_nil)) (pa_cons (pe_tup (pa_cons pe_str pa_nil)) (pa_cons pe_dnewK (pa_cons pe_str (pa_cons pe_str (pa_cons pe_str (pa_cons pe_str pa_nil)))))))))))) (pg_name (i := 1) sc_odd.nd rfl (.inl rfl)))
      (pss_one (ps_ret (pe_ix ix_list (pv 1) (pe_call G_take (hr.mono (by decide)) rfl D_take.mg D_take.fn.kp D_take.bd .nil pass0 (pa_cons (pv 0) (pa_cons pe_int pa_nil))) (fun _ _ => rfl)))))), ?_⟩
    refine q_asgQ (show EvQA K H _ _ _ ODD1 from (eqa_cons eq_non (eqa_cons eq_bl (eqa_cons eq_int (eqa_cons eq_int (eqa_cons eq_str (eqa_cons eq_str (eqa_cons eq_str (eqa_cons eq_str (eqa_cons eq_str (eqa_cons eq_str (eqa_cons eq_str (eqa_cons eq_str (eqa_cons eq_str (eqa_cons eq_str eqa_nil))))))))))))))) (Ex.refl H) (by decide) fun p1 vs1 H1 e1 h1 n1 l1 d1 => ?_
    refine q_catQ (p := p1) rfl h1 l1 d1 (show EvQA K H _ _ _ ODD2 from (eqa_cons eq_str (eqa_cons eq_str (eqa_cons (eq_tup (eqa_cons eq_str (eqa_cons eq_int eqa_nil))) (eqa_cons (eq_lst (eqa_cons eq_str eqa_nil)) (eqa_cons (eq_tup (eqa_cons eq_str eqa_nil)) (eqa_cons eq_emp (eqa_cons eq_str (eqa_cons eq_str (eqa_cons eq_str (eqa_cons eq_str eqa_nil))))))))))) e1 (by decide) fun p2 vs2 H2 e2 h2 n2 l2 d2 => ?_
    exact s_oddat hb hn (e1.trans e2) rfl rfl h2 (fresh_back e1 n2) d2 (fun Q q => q) rfl (by decide) (by decide) ret
end L
namespace Hv
open PySem L2
/-- texts of it are good and not longer than 20 + k -/
def smallD (k : Nat) : PyData → Bool
  | .str z => PyData.strOk z && decide (z.length ≤ 20 + k)
  | _ => true
theorem odd_small : (ODD.all (smallD 0)) = true := by decide +kernel
theorem smallD.mono {k j : Nat} {d : PyData} (h : smallD k d = true) (l : k ≤ j) : smallD j d = true := by
  cases d with
  | str z =>
    unfold smallD at h ⊢
    rw [Bool.and_eq_true, decide_eq_true_eq] at h ⊢
    exact ⟨h.1, by omega⟩
  | _ => rfl
theorem smallD.str {k : Nat} {z : Str} (h : smallD k (.str z) = true) : PyData.strOk z = true ∧ z.length ≤ 20 + k := by
  unfold smallD at h
  rw [Bool.and_eq_true, decide_eq_true_eq] at h
  exact h
theorem smallD.of {k : Nat} {z : Str} (h : PyData.strOk z = true) (l : z.length ≤ 20 + k) : smallD k (.str z) = true := by
  show (PyData.strOk z && decide (z.length ≤ 20 + k)) = true
  rw [h, decide_eq_true l]
  rfl
theorem nameOk_str {z : Str} (h : nameOk z = true) : PyData.strOk z = true := by
  obtain ⟨⟨_, c, cs, e, _, ha⟩, _⟩ := Tag.of h
  rw [strOk_iff]
  intro x hx
  have hx : x ∈ z.cps.toList := by simpa using hx
  rw [e] at hx
  have := List.all_eq_true.mp ha x hx
  unfold signOk at this
  have l1 : ∀ c ∈ LETS.cps.toList, c < 0x110000 := by decide +kernel
  have l2 : ∀ c ∈ DIGS.cps.toList, c < 0x110000 := by decide +kernel
  rcases Bool.or_eq_true_iff.mp this with q | q
  · exact l1 x (of_decide_eq_true q)
  · exact l2 x (of_decide_eq_true q)
theorem amts_str : ∀ z ∈ AMTS, PyData.strOk z = true ∧ z.length ≤ 20 := by decide +kernel
theorem amts_at {j : Int} (h0 : 0 ≤ j) (h1 : j < 8) : ∃ z, atI (AMTS.map V.str) j = some (.str z) ∧ z ∈ AMTS := by
  have hl : j.toNat < AMTS.length := by
    have : AMTS.length = 8 := rfl
    omega
  refine ⟨AMTS[j.toNat], ?_, List.getElem_mem hl⟩
  have := atI_some (xs := AMTS.map V.str) h0 (by simpa using hl)
  simpa using this
/-- all that is known of a drawn value -/
structure Val (d : PyData) (k : Nat) : Prop where
  good : GoodD d
  small : smallD k d = true
theorem val_str {z : Str} {k : Nat} (h : PyData.strOk z = true) (l : z.length ≤ 20 + k) (hk : k ≤ 10) : Val (.str z) k := ⟨good_str h (by omega), smallD.of h l⟩
theorem val_odd {d : PyData} {k : Nat} (h : d ∈ ODD) : Val d k := ⟨good_odd h, (smallD.mono (List.all_eq_true.mp odd_small d h) (Nat.zero_le k))⟩
def sp_drawn (K : PySem.W.Frag) : Sp := fun vs H Q _ => ∃ (b : Addr) (n : Nat), vs = [.ref b] ∧ Bag H b n ∧ n < 700000 ∧
  ∀ (p : Addr) (v1 v2 v3 : V) (d1 d2 d3 : PyData) (H' : Hp), H p = none → But b H H' → Bag H' b (n + 60) → H' p = some (.lst [v1, v2, v3]) → p ≠ b → Dq K b H' v1 d1 → Dq K b H' v2 d2 → Dq K b H' v3 d3 → GoodD d1 → GoodD d2 → GoodD d3 → Q (.ref p) H'
theorem names_at {zs : List Str} (h : Names zs) (hl : zs.length = 2) {j : Int} (h0 : 0 ≤ j) (h1 : j < 2) : ∃ z, atI (zs.map V.str) j = some (.str z) ∧ nameOk z = true ∧ z.length ≤ 8 := by
  have hj : j.toNat < zs.length := by omega
  refine ⟨zs[j.toNat], ?_, h.ok _ (List.getElem_mem hj)⟩
  have := atI_some (xs := zs.map V.str) h0 (by simpa using hj)
  simpa using this
theorem three {α : Type} {l : List α} (h : l.length = 3) : ∃ a b c, l = [a, b, c] := by
  match l, h with
  | [a, b, c], _ => exact ⟨a, b, c, rfl⟩
end Hv
namespace L
open PySem L2 Hv Evl
variable {P : Program} {w : World} {K : PySem.W.Frag} {mg : Str → Option Value} {base : Heap}
abbrev s_drawn : Stmt := top 71
abbrev N_drawn : List Str := ["_law_bag_here", "_law_tags_here", "_law_made", "_law_turn", "_law_at", "_law_way"]
abbrev P_drawn : List Str := ["_law_bag_here"]
theorem sc_drawn : FnScope N_drawn P_drawn (defScope s_drawn) := ⟨rfl, rfl, rfl, by decide +kernel, rfl, by decide +kernel, by decide +kernel⟩
theorem ok_drawn {f f1 f2 f3 f4 f5 f6 : Addr} {fd fd1 fd2 fd3 fd4 fd5 fd6 : FuncData} (D : DefAt K mg "_law_drawn" s_drawn P_drawn f fd) (T : Txt K mg) (D_take : DefAt K mg "_law_take" s_take P_take f1 fd1) (D_tag : DefAt K mg "_law_tag" s_tag P_tag f2 fd2) (D_tags : DefAt K mg "_law_tags" s_tags P_tags f3 fd3)
    (D_amounts : DefAt K mg "_law_amounts" s_amounts P_amounts f4 fd4) (D_odd : DefAt K mg "_law_odd" s_odd P_odd f5 fd5) (D_bent : DefAt K mg "_law_bent" s_bent P_bent f6 fd6) : FnOk P w K mg base CX0 4 f fd P_drawn (sp_drawn K) := by
  have G_take : FnOk P w K mg base CX0 1 f1 fd1 P_take sp_take := ok_take D_take T
  have G_tags : FnOk P w K mg base CX0 3 f3 fd3 P_tags sp_tags := ok_tags D_tags T D_take D_tag
  have G_amounts : FnOk P w K mg base CX0 1 f4 fd4 P_amounts sp_amounts := ok_amounts D_amounts
  have G_odd : FnOk P w K mg base CX0 2 f5 fd5 P_odd (sp_odd K ODD) := ok_odd D_odd T D_take
  have G_bent : FnOk P w K mg base CX0 2 f6 fd6 P_bent sp_bent := ok_bent D_bent T D_take
  refine D.fn.ok sc_drawn (fun vs H Q E h => ?_) (fun cdv A outer s H vs Q E hr h => ?_)
  · obtain ⟨b, n, rfl, _⟩ := h
    rfl
  · obtain ⟨b, n, rfl, hb, hn, ret⟩ := h
    refine ⟨_, (pss_cons (ps_asg (pe_call G_tags (hr.mono (by decide)) rfl D_tags.mg D_tags.fn.kp D_tags.bd .nil pass0 (pa_cons (pv 0) (pa_cons pe_int pa_nil))) (pg_name (i := 1) sc_drawn.nd rfl (.inl rfl)))
      (pss_cons (ps_asg (pe_lst (pa_cons (pe_ix ix_list (pv 1) pe_int (fun _ _ => rfl)) (pa_cons (pe_ix ix_list (pv 1) (pe_call G_take (hr.mono (by decide)) rfl D_take.mg D_take.fn.kp D_take.bd .nil pass0 (pa_cons (pv 0) (pa_cons pe_int pa_nil))) (fun _ _ => rfl)) (pa_cons (pe_ix ix_list (pe_call0 G_amounts (hr.mono (by decide)) rfl D_amounts.mg D_amounts.fn.kp D_amounts.bd .nil pass0) (pe_call G_take (hr.mono (by decide)) rfl D_take.mg D_take.fn.kp D_take.bd .nil pass0 (pa_cons (pv 0) (pa_cons pe_int pa_nil))) (fun _ _ => rfl)) pa_nil)))) (pg_name (i := 2) sc_drawn.nd rfl (.inl rfl)))
      (pss_cons (ps_for PassesOwn.never rfl (pi_range1 (by rfl) T.range (pa_cons (pe_call G_take (hr.mono (by decide)) rfl D_take.mg D_take.fn.kp D_take.bd .nil pass0 (pa_cons (pv 0) (pa_cons pe_int pa_nil))) pa_nil)) (pg_name (i := 3) sc_drawn.nd rfl (.inl rfl))
      (pss_cons (ps_par (i := 4) (j := 5) (by rfl) sc_drawn.nd rfl rfl (by decide) rfl rfl (pa_cons (pe_call G_take (hr.mono (by decide)) rfl D_take.mg D_take.fn.kp D_take.bd .nil pass0 (pa_cons (pv 0) (pa_cons pe_int pa_nil))) (pa_cons (pe_call G_take (hr.mono (by decide)) rfl D_take.mg D_take.fn.kp D_take.bd .nil pass0 (pa_cons (pv 0) (pa_cons pe_int pa_nil))) pa_nil)) (by rfl))
      (pss_one (ps_asg (pe_ifExp (PW.pt (pw_or (pt_cmpR op_eq (pv 5) pe_int (nomark _)) (pw_or1 (pt_not (pt_val (pe_callB call_isi (by rfl) T.isinstance (by decide +kernel) (pa_cons (pe_ix ix_list (pv 2) (pv 4) (fun _ _ => rfl)) (pa_cons (pe_bltn (v := .ty "str") (u := .type "str") (by rfl) T.str (by decide +kernel) rfl) pa_nil)))))))) (pe_call G_odd (hr.mono (by decide)) rfl D_odd.mg D_odd.fn.kp D_odd.bd .nil pass0 (pa_cons (pv 0) pa_nil)) (pe_call G_bent (hr.mono (by decide)) rfl D_bent.mg D_bent.fn.kp D_bent.bd .nil pass0 (pa_cons (pv 0) (pa_cons (pe_ix ix_list (pv 2) (pv 4) (fun _ _ => rfl)) pa_nil)))) (pg_sub (pv 2) (pv 4) set_list)))))
      (pss_one (ps_ret (pv 2)))))), ?_⟩
    refine ⟨_, rfl, b, 2, n, rfl, hb, by omega, by decide, fun pt zs H1 npt u1 b1 ht tb hl nm => ?_⟩
    obtain ⟨z1, a1, k1, l1⟩ := names_at nm hl (j := 0) (by decide) (by decide)
    refine ⟨_, rfl, pt, _, _, _, rfl, rfl, SqL.of ht, a1, ?_⟩
    refine ⟨_, rfl, _, rfl, b, 2, n + 26, rfl, b1, by omega, by decide, m_small (by decide) (by decide), fun r H2 u2 b2 r0 r1 => ?_⟩
    obtain ⟨z2, a2, k2, l2⟩ := names_at nm hl r0 r1
    refine ⟨pt, _, _, _, rfl, rfl, SqL.of (u2 _ _ tb ht), a2, ?_⟩
    refine ⟨rfl, fun pa npa => ?_⟩
    have s3 := same_new (o := .lst (AMTS.map V.str)) npa
    have pab : pa ≠ b := b2.ne_none npa
    refine ⟨_, rfl, b, 8, n + 27, rfl, b2.same s3, by omega, by decide, m_small (by decide) (by decide), fun q H4 u4 b4 q0 q1 => ?_⟩
    obtain ⟨z3, a3, m3⟩ := amts_at q0 q1
    obtain ⟨k3, l3⟩ := amts_str z3 m3
    refine ⟨pa, _, _, _, rfl, rfl, SqL.of (u4 _ _ pab upd_same), a3, by show 3 ≤ sizeLine; decide, fun p np => ?_⟩
    have u5 := (u1.trans u2).trans ((But.of s3).trans u4)
    have pb : p ≠ b := b4.ne_none np
    have np0 : H p = none := (u5.free pb np)
    have s5 := same_new (o := .lst [.str z1, .str z2, .str z3]) np
    refine ⟨_, rfl, b, 4, n + 28, rfl, b4.same s5, by omega, by decide, m_small (by decide) (by decide), fun m H6 u6 b6 m0 m1 => ?_⟩
    have hp6 : H6 p = some (.lst [.str z1, .str z2, .str z3]) := u6 _ _ pb upd_same
    refine ⟨m, rfl, by omega, by omega, for_range (lo := 0) (fun i σ' H' => ∃ vs ds x3 x4 x5, σ' = [some (.ref b), some (.ref pt), some (.ref p), x3, x4, x5] ∧ H' p = some (.lst vs) ∧ vs.length = 3 ∧ ds.length = 3 ∧ DqAll K b H' vs ds ∧ DqAll K p H' vs ds ∧ (∀ d ∈ ds, Val d i) ∧ But b H H' ∧ Bag H' b (n + 29 + 6 * i)) ?_ ?_ ?_⟩
    · refine ⟨_, [.str z1, .str z2, .str z3], none, none, none, rfl, hp6, rfl, rfl, .cons (.str _) (.cons (.str _) (.cons (.str _) .nil)), .cons (.str _) (.cons (.str _) (.cons (.str _) .nil)), ?_, (u5.trans (But.of s5)).trans u6, b6⟩
      intro d hd
      simp only [List.mem_cons, List.not_mem_nil, or_false] at hd
      rcases hd with rfl | rfl | rfl
      · exact val_str (nameOk_str k1) (by omega) (by decide)
      · exact val_str (nameOk_str k2) (by omega) (by decide)
      · exact val_str k3 (by omega) (by decide)
    · rintro i σ' H' hi ⟨vs, ds, x3, x4, x5, rfl, hp, vl, dl, qb, qp, vals, u, bb⟩
      refine ⟨_, rfl, b, 3, _, rfl, bb, by omega, by decide, m_small (by decide) (by decide), fun at_ H7 u7 b7 a0 a1 => ?_⟩
      refine ⟨_, rfl, b, 2, _, rfl, b7, by omega, by decide, m_small (by decide) (by decide), fun way H8 u8 b8 w0 w1 => ⟨_, _, rfl, ?_⟩⟩
      have u78 := u7.trans u8
      have hp8 := u78 _ _ pb hp
      have qb8 := qb.but bb u78
      have qp8 := DqAll.two bb u78 qb qp
      have ha : at_.toNat < ds.length := by omega
      obtain ⟨v, d, e1, e2, qv⟩ := qb8.at at_.toNat ha
      have vd := vals d (List.mem_of_getElem? e2)
      have hat : atI vs at_ = some v := atI_int a0 e1
      have ix : ixN vs.length at_ = some at_.toNat := by
        unfold ixN
        rw [if_pos a0, if_pos (by omega)]
      -- what follows the value
      have fin : ∀ (v : V) (d : PyData) (H9 : Hp), But b H8 H9 → Bag H9 b (n + 29 + 6 * i + 5) → Dq K b H9 v d → Dq K p H9 v d → Val d (i + 1) →
          gSub (tVar 2) (tVar 4) rSetL v [some (.ref b), some (.ref pt), some (.ref p), some (.int (0 + (i : Int))), some (.int at_), some (.int way)] H9 (fun σ' H' => ∃ vs ds x3 x4 x5, σ' = [some (.ref b), some (.ref pt), some (.ref p), x3, x4, x5] ∧ H' p = some (.lst vs) ∧ vs.length = 3 ∧ ds.length = 3 ∧ DqAll K b H' vs ds ∧ DqAll K p H' vs ds ∧ (∀ d ∈ ds, Val d (i + 1)) ∧ But b H H' ∧ Bag H' b (n + 29 + 6 * (i + 1))) := by
        intro v d H9 u9 b9 h1 h2 h3
        have hp9 := u9 _ _ pb hp8
        have qb9 := qb8.but b8 u9
        have qp9 := DqAll.two b8 u9 qb8 qp8
        refine ⟨_, rfl, _, rfl, p, _, _, _, rfl, rfl, hp9, ix, vs.set at_.toNat v, ds.set at_.toNat d, _, _, _, rfl, upd_same, by simp [vl], by simp [dl], ?_, ?_, ?_, ?_, ?_⟩
        · exact DqAll.set (Dq.put hp9 h2 h1) _ (DqAll.put hp9 qp9 qb9)
        · exact DqAll.set (Dq.put hp9 h2 h2) _ (DqAll.put hp9 qp9 qp9)
        · intro x hx
          rcases List.mem_or_eq_of_mem_set hx with q | rfl
          · exact ⟨(vals x q).good, smallD.mono (vals x q).small (by omega)⟩
          · exact h3
        · exact ((u.trans u78).trans u9).mut np0
        · exact (b9.put pb).mono (by omega)
      have odd : ∀ (D : VK), (∀ (v : V) (d : PyData) (H9 : Hp), But b H8 H9 → Bag H9 b (n + 29 + 6 * i + 5) → Dq K b H9 v d → Dq K p H9 v d → Val d (i + 1) → D v H9) → tCall (sp_odd K ODD) [] E0 (tCons (tVar 0) tNil) [some (.ref b), some (.ref pt), some (.ref p), some (.int (0 + (i : Int))), some (.int at_), some (.int way)] H8 D := fun D k =>
        ⟨_, rfl, b, _, rfl, b8, by omega, fun v d H9 hd u9 b9 dn => k v d H9 u9 (b9.mono (by omega)) (dn b b8.some) (dn p (by rw [hp8]; intro z; cases z)) (val_odd hd)⟩
      refine ⟨_, rfl, rfl, _, rfl, ite2 (fun c1 => odd _ fin) (fun c1 => ?_)⟩
      refine ⟨_, rfl, _, rfl, p, _, _, v, rfl, rfl, SqL.of hp8, hat, _, _, _, _, isStrD d, rfl, .ty _, qv.ty, kit_str (K := K) d, _, rfl, ?_⟩
      cases hs : isStrD d with
      | false => exact iteT (odd _ fin)
      | true =>
        refine iteF ?_
        cases qv with
        | str z =>
          obtain ⟨zk, zl⟩ := smallD.str vd.small
          exact ⟨_, rfl, _, rfl, _, rfl, p, _, _, _, rfl, rfl, SqL.of hp8, hat, b, z, _, rfl, b8, by omega, by omega, zk, fun r H9 u9 b9 rl rk => fin (.str r) (.str r) H9 u9 b9 (.str r) (.str r) (val_str rk (by omega) (by omega))⟩
        | _ => cases hs
    · rintro σ' H' ⟨vs, ds, x3, x4, x5, rfl, hp, vl, dl, qb, qp, vals, u, bb⟩
      obtain ⟨v1, v2, v3, rfl⟩ := three vl
      obtain ⟨d1, d2, d3, rfl⟩ := three dl
      cases qb with
      | cons g1 qb => cases qb with
        | cons g2 qb => cases qb with
          | cons g3 _ => exact ⟨_, rfl, ret p v1 v2 v3 d1 d2 d3 H' np0 u (bb.mono (by omega)) hp pb g1 g2 g3 (vals d1 (by simp)).good (vals d2 (by simp)).good (vals d3 (by simp)).good⟩
end L
namespace Hv
open PySem L2
def dueR (d1 d2 d3 : PyData) : List Str :=
  if nameD d1 = false then [Str.ofString "InvalidName", d1.shown] else if nameD d2 = false then [Str.ofString "InvalidName", d2.shown] else if amountD d3 = false then [Str.ofString "InvalidAmount", d3.shown] else []
/-- a drawn row at p -/
structure Link (K : PySem.W.Frag) (b p : Addr) (H : Hp) (v1 v2 v3 : V) (d1 d2 d3 : PyData) : Prop where
  hp : H p = some (.lst [v1, v2, v3])
  pb : p ≠ b
  q1 : Dq K b H v1 d1
  q2 : Dq K b H v2 d2
  q3 : Dq K b H v3 d3
  g1 : GoodD d1
  g2 : GoodD d2
  g3 : GoodD d3
section
variable {K : PySem.W.Frag} {b p : Addr} {H H' : Hp} {v1 v2 v3 : V} {d1 d2 d3 : PyData} {n : Nat}
theorem Link.same (h : Link K b p H v1 v2 v3 d1 d2 d3) (e : Same H H') : Link K b p H' v1 v2 v3 d1 d2 d3 := ⟨e _ _ h.hp, h.pb, h.q1.same e, h.q2.same e, h.q3.same e, h.g1, h.g2, h.g3⟩
theorem Link.but (h : Link K b p H v1 v2 v3 d1 d2 d3) (hb : Bag H b n) (e : But b H H') : Link K b p H' v1 v2 v3 d1 d2 d3 := ⟨e _ _ h.pb h.hp, h.pb, h.q1.but hb e, h.q2.but hb e, h.q3.but hb e, h.g1, h.g2, h.g3⟩
theorem Link.ext (h : Link K b p H v1 v2 v3 d1 d2 d3) (x : LamX.ExtN H H') : Link K b p H' v1 v2 v3 d1 d2 d3 := ⟨x _ _ h.hp (by intro ps q; cases q), h.pb, dq_ext x h.q1, dq_ext x h.q2, dq_ext x h.q3, h.g1, h.g2, h.g3⟩
theorem Link.sq (h : Link K b p H v1 v2 v3 d1 d2 d3) : SqL K H p [v1, v2, v3] := SqL.of h.hp
theorem Link.dq (h : Link K b p H v1 v2 v3 d1 d2 d3) : Dq K b H (.ref p) (.list [d1, d2, d3]) := .lst h.hp h.pb (.cons h.q1 (.cons h.q2 (.cons h.q3 .nil)))
theorem Link.fit (h : Link K b p H v1 v2 v3 d1 d2 d3) : FitQ (.list [d1, d2, d3]) 3 183 := (FitQ.list (.cons h.g1.fit (.cons h.g2.fit (.cons h.g3.fit (.nil (n := 0)))))).mono (by decide) (by decide)
end
def sp_due (K : PySem.W.Frag) : Sp := fun vs H Q _ => ∃ (b p : Addr) (v1 v2 v3 : V) (d1 d2 d3 : PyData), vs = [.ref p] ∧ Link K b p H v1 v2 v3 d1 d2 d3 ∧ ∀ q H', H q = none → Same H H' → H' q = some (.lst ((dueR d1 d2 d3).map V.str)) → Q (.ref q) H'
def sp_rshown (C : Addr) : Sp := fun vs H Q _ => ∃ (x : Addr) (v1 v2 v3 : V), vs = [.ref x] ∧ RowP C H x v1 v2 v3 ∧ ∀ p, H p = none → Q (.ref p) (upd H p (.lst [v1, v2, v3]))
theorem new_list {H H1 : Hp} {Q : VK} {L L' : List Str} {xs : List V} (s : Same H H1) (ret : ∀ q H', H q = none → Same H H' → H' q = some (.lst (L.map V.str)) → Q (.ref q) H') (e : L = L') (e2 : xs = L'.map V.str) : ∀ p, H1 p = none → Q (.ref p) (upd H1 p (.lst xs)) := fun p np => by
  subst e e2
  exact ret p _ (s.free np) (s.trans (same_new np)) upd_same
end Hv
namespace L
open PySem L2 Hv
variable {P : Program} {w : World} {K : PySem.W.Frag} {mg : Str → Option Value} {base : Heap}
abbrev s_due : Stmt := top 72
abbrev N_due : List Str := ["_law_link", "_law_at"]
abbrev P_due : List Str := ["_law_link"]
theorem sc_due : FnScope N_due P_due (defScope s_due) := ⟨rfl, rfl, rfl, by decide +kernel, rfl, by decide +kernel, by decide +kernel⟩
theorem ok_due {f f1 f2 : Addr} {fd fd1 fd2 : FuncData} (D : DefAt K mg "_law_due" s_due P_due f fd) (T : Txt K mg) (D_is_tag : DefAt K mg "_law_is_tag" s_is_tag P_is_tag f1 fd1) (D_amounts : DefAt K mg "_law_amounts" s_amounts P_amounts f2 fd2) : OkG P w K mg base CX0 2 f fd P_due (sp_due K) := by
  have G_is_tag := fn_lk (ok_is_tag (P := P) (w := w) (base := base) D_is_tag T)
  have G_amounts : FnOk P w K mg base CX0 1 f2 fd2 P_amounts sp_amounts := ok_amounts D_amounts
  refine okG0 D.fn sc_due (fun vs H Q E h => ?_) (fun cdv A outer s H vs Q E hG hr h => ?_)
  · obtain ⟨b, p, v1, v2, v3, d1, d2, d3, rfl, _⟩ := h
    rfl
  · obtain ⟨b, p, v1, v2, v3, d1, d2, d3, rfl, lk0, ret⟩ := h
    refine ⟨_, (pss_cons (ps_for PassesOwn.never rfl (pi_list (pe_lst (pa_cons pe_int (pa_cons pe_int pa_nil)))) (pg_name (i := 1) sc_due.nd rfl (.inl rfl))
      (pss_one (ps_if (pt_not (pt_val (pe_call G_is_tag (hr.mono (by decide)) rfl D_is_tag.mg D_is_tag.fn.kp D_is_tag.bd .nil pass0 (pa_cons (pe_ix ix_list (pv 0) (pv 1) (fun _ _ => rfl)) pa_nil))))
      (pss_one (ps_ret (pe_lst (pa_cons pe_str (pa_cons (pe_callB (cr_reprQ hG hr.units) (by rfl) T.repr (by decide +kernel) (pa_cons (pe_ix ix_list (pv 0) (pv 1) (fun _ _ => rfl)) pa_nil)) pa_nil)))))
      pss_nil)))
      (pss_cons (ps_if (PW.pt (pw_or (pt_not (pt_val (pe_callB call_isi (by rfl) T.isinstance (by decide +kernel) (pa_cons (pe_ix ix_list (pv 0) pe_int (fun _ _ => rfl)) (pa_cons (pe_bltn (v := .ty "str") (u := .type "str") (by rfl) T.str (by decide +kernel) rfl) pa_nil))))) (pw_or1 (pt_cmpR op_notIn_seq (pe_ix ix_list (pv 0) pe_int (fun _ _ => rfl)) (pe_call0 G_amounts (hr.mono (by decide)) rfl D_amounts.mg D_amounts.fn.kp D_amounts.bd .nil pass0) (by rfl)))))
      (pss_one (ps_ret (pe_lst (pa_cons pe_str (pa_cons (pe_callB (cr_reprQ hG hr.units) (by rfl) T.repr (by decide +kernel) (pa_cons (pe_ix ix_list (pv 0) pe_int (fun _ _ => rfl)) pa_nil)) pa_nil)))))
      pss_nil)
      (pss_one (ps_ret (pe_lst pa_nil))))), ?_⟩
    refine ⟨by show 2 ≤ sizeLine; decide, fun L nL => ⟨L, rfl, ⟨_, SqL.of upd_same⟩, for_list (K := K) (a := L) (xs := [.int 0, .int 1]) (fun i σ' H' => (∃ x1, σ' = [some (.ref p), x1]) ∧ Same H H' ∧ H' L = some (.lst [.int 0, .int 1]) ∧ (1 ≤ i → nameD d1 = true) ∧ (2 ≤ i → nameD d2 = true))
      ⟨⟨none, rfl⟩, same_new nL, upd_same, (fun h => by omega), fun h => by omega⟩ ?_ ?_ ?_⟩⟩
    · rintro i σ' H' _ ⟨_, _, hL, _⟩
      exact SqL.of hL
    · rintro i x σ' H' hx ⟨⟨x1, rfl⟩, s1, hL, n1, n2⟩
      have lk1 := lk0.same s1
      match i, hx with
      | 0, hx =>
        cases hx
        refine ⟨_, rfl, _, rfl, p, _, _, v1, rfl, rfl, lk1.sq, rfl, is_tag_d lk1.q1 lk1.g1.sh fun H2 s2 => ⟨_, rfl, ?_⟩⟩
        have lk2 := lk1.same s2
        cases hn : nameD d1 with
        | false =>
          refine iteT ⟨_, rfl, _, rfl, p, _, _, v1, rfl, rfl, lk2.sq, rfl, rd_reprQ lk2.q1 lk2.g1.fit (by decide) (by decide) ⟨by show 2 ≤ sizeLine; decide, new_list (L' := [_, _]) (s1.trans s2) ret ?_ rfl⟩⟩
          unfold dueR
          rw [if_pos hn]
        | true => exact iteF ⟨⟨_, rfl⟩, s1.trans s2, s2 _ _ hL, fun _ => rfl, fun h => by omega⟩
      | 1, hx =>
        cases hx
        have k1 := n1 (by decide)
        refine ⟨_, rfl, _, rfl, p, _, _, v2, rfl, rfl, lk1.sq, rfl, is_tag_d lk1.q2 lk1.g2.sh fun H2 s2 => ⟨_, rfl, ?_⟩⟩
        have lk2 := lk1.same s2
        cases hn : nameD d2 with
        | false =>
          refine iteT ⟨_, rfl, _, rfl, p, _, _, v2, rfl, rfl, lk2.sq, rfl, rd_reprQ lk2.q2 lk2.g2.fit (by decide) (by decide) ⟨by show 2 ≤ sizeLine; decide, new_list (L' := [_, _]) (s1.trans s2) ret ?_ rfl⟩⟩
          unfold dueR
          rw [if_neg (by rw [k1]; decide), if_pos hn]
        | true => exact iteF ⟨⟨_, rfl⟩, s1.trans s2, s2 _ _ hL, fun _ => k1, fun _ => rfl⟩
      | i + 2, hx => simp at hx
    · rintro σ' H' ⟨⟨x1, rfl⟩, s1, hL, n1, n2⟩
      have lk1 := lk0.same s1
      have k1 := n1 (by decide)
      have k2 := n2 (by decide)
      dsimp only
      refine join_ifs (fun k H' => k = !amountD d3 ∧ Same H H') (fun Q' fin => ?_) ?_
      · refine ⟨_, rfl, p, _, _, v3, rfl, rfl, lk1.sq, rfl, _, _, _, _, isStrD d3, rfl, .ty _, lk1.q3.ty, kit_str (K := K) d3, _, rfl, ?_⟩
        cases hs : isStrD d3 with
        | false =>
          have e : amountD d3 = false := by cases d3 <;> first | rfl | cases hs
          exact iteT (fin _ _ ⟨by rw [e]; rfl, s1⟩)
        | true =>
          refine iteF ⟨_, rfl, p, _, _, v3, rfl, rfl, lk1.sq, rfl, rfl, fun pa npa => ?_⟩
          have q3 := lk1.q3
          cases q3 with
          | str z =>
            refine ⟨pa, _, rfl, .inl (SqL.of upd_same), rfl, flat_strs AMTS, _, rfl, fin _ _ ⟨?_, s1.trans (same_new npa)⟩⟩
            show (!inV (.str z) (AMTS.map V.str)) = _
            rw [inV_mem, ← amount_iff]
            rfl
          | _ => cases hs
      rintro _ H2 ⟨rfl, s2⟩
      have lk2 := lk0.same s2
      cases hm : amountD d3 with
      | false =>
        refine iteT ⟨_, rfl, p, _, _, v3, rfl, rfl, lk2.sq, rfl, rd_reprQ lk2.q3 lk2.g3.fit (by decide) (by decide) ⟨by show 2 ≤ sizeLine; decide, new_list (L' := [_, _]) s2 ret ?_ rfl⟩⟩
        unfold dueR
        rw [if_neg (by rw [k1]; decide), if_neg (by rw [k2]; decide), if_pos hm]
      | true =>
        refine iteF ⟨by decide, new_list (L' := []) s2 ret ?_ rfl⟩
        unfold dueR
        rw [if_neg (by rw [k1]; decide), if_neg (by rw [k2]; decide), if_neg (by rw [hm]; decide)]
abbrev s_shown : Stmt := top 73
abbrev N_shown : List Str := ["_law_box"]
abbrev P_shown : List Str := ["_law_box"]
theorem sc_shown : FnScope N_shown P_shown (defScope s_shown) := ⟨rfl, rfl, rfl, by decide +kernel, rfl, by decide +kernel, by decide +kernel⟩
theorem ok_shown {C f f1 f2 f3 : Addr} {fd fd1 fd2 fd3 : FuncData} (D : DefAt K mg "_law_shown" s_shown P_shown f fd) (TL : OwnTxt K mg "Row" C)
    (D_Row_outer : PropAt K C "outer" "Row.outer" s_Row_outer P_Row_outer f1 fd1) (D_Row_inner : PropAt K C "inner" "Row.inner" s_Row_inner P_Row_inner f2 fd2) (D_Row_amount : PropAt K C "amount" "Row.amount" s_Row_amount P_Row_amount f3 fd3) : FnOk P w K mg base CX0 3 f fd P_shown (sp_rshown C) := by
  have G_Row_outer : FnOk P w K mg base CX0 1 f1 fd1 P_Row_outer (sp_part C 0) := ok_Row_outer D_Row_outer TL.c TL.na
  have G_Row_inner : FnOk P w K mg base CX0 1 f2 fd2 P_Row_inner (sp_part C 1) := ok_Row_inner D_Row_inner TL.c TL.na
  have G_Row_amount : FnOk P w K mg base CX0 1 f3 fd3 P_Row_amount (sp_part C 2) := ok_Row_amount D_Row_amount TL.c TL.na
  refine D.fn.ok sc_shown (fun vs H Q E h => ?_) (fun cdv A outer s H vs Q E hr h => ?_)
  · obtain ⟨x, v1, v2, v3, rfl, _⟩ := h
    rfl
  · obtain ⟨x, v1, v2, v3, rfl, ⟨dx, pt, h1, h2⟩, ret⟩ := h
    refine ⟨_, (pss_one (ps_ret (pe_lst (pa_cons (pe_propD (pv 0) TL.c D_Row_outer.pr G_Row_outer D_Row_outer.bd (hr.mono (by decide))) (pa_cons (pe_propD (pv 0) TL.c D_Row_inner.pr G_Row_inner D_Row_inner.bd (hr.mono (by decide))) (pa_cons (pe_propD (pv 0) TL.c D_Row_amount.pr G_Row_amount D_Row_amount.bd (hr.mono (by decide))) pa_nil)))))), ?_⟩
    have at_ : ∀ (i : Int) (v : V) (Q' : VK), atI [v1, v2, v3] i = some v → Q' v H → tProp C (sp_part C i) [] E0 (tVar 0) (start N_shown [.ref x]) H Q' := fun i v Q' e q =>
      ⟨_, rfl, x, dx, _, rfl, h1, x, dx, pt, _, v, rfl, h1, h2, e, q⟩
    exact at_ 0 _ _ rfl (at_ 1 _ _ rfl (at_ 2 _ _ rfl ⟨by show 3 ≤ sizeLine; decide, fun p np => ret p np⟩))
end L
namespace Hv
open PySem L2
/-- a row of texts -/
structure TxtRow (C : Addr) (H : Hp) (x : Addr) (o i m : Str) : Prop where
  at_ : RowP C H x (.str o) (.str i) (.str m)
  fo : Fit (.str o) 1 60
  fi : Fit (.str i) 1 60
  fm : Fit (.str m) 1 60
theorem TxtRow.same {C : Addr} {H H' : Hp} {x : Addr} {o i m : Str} (h : TxtRow C H x o i m) (e : Same H H') : TxtRow C H' x o i m := ⟨h.at_.same e, h.fo, h.fi, h.fm⟩
abbrev trip (o i m : Str) : List PyData := [.str o, .str i, .str m]
theorem TxtRow.fit {C : Addr} {H : Hp} {x : Addr} {o i m : Str} (h : TxtRow C H x o i m) : FitAll (trip o i m) 1 183 := by
  have h2 := FitAll.cons h.fo (.cons h.fi (.cons h.fm (.nil (n := 0))))
  exact ⟨h2.lay, h2.sh, h2.dp, h2.lv, h2.bk⟩
def sp_rsame (K : PySem.W.Frag) (C CK : Addr) : Sp := fun vs H Q _ => ∃ (x : Addr) (o i m : Str) (y : V), vs = [.ref x, y] ∧ TxtRow C H x o i m ∧
  ((∃ z o2 i2 m2, y = .ref z ∧ TxtRow C H z o2 i2 m2 ∧ ∀ H', Same H H' → Q (.bl (PyData.eqv (.tuple (trip o i m)) (.tuple (trip o2 i2 m2)))) H') ∨
   (∃ T, Oth K H y ∧ TyX K H y (.type T) ∧ PySem.W.kitOne K (.type T) (.ref C) = some false ∧ ∀ H', Same H H' → Q (.bl false) H') ∨
   (∃ z dz pt, y = .ref z ∧ H z = some (.ins CK dz [("parts", .ref pt)]) ∧ ∀ H', Same H H' → Q (.bl false) H'))
theorem row_eq {K : PySem.W.Frag} {C x z : Addr} {H : Hp} {o i m o2 i2 m2 : Str} {Q : VK} {E : XK} (hx : TxtRow C H x o i m) (hz : TxtRow C H z o2 i2 m2) (q : Q (.bl (PyData.eqv (.tuple (trip o i m)) (.tuple (trip o2 i2 m2)))) H) :
    sp_part_eq K C [.ref x, .ref z] H Q E := by
  have f1 := hx.fit
  have f2 := hz.fit
  obtain ⟨dx, pt, h1, h2⟩ := hx.at_
  obtain ⟨dz, qt, g1, g2⟩ := hz.at_
  exact ⟨x, dx, pt, _, rfl, h1, .inl ⟨z, dz, qt, _, _, rfl, g1, .tup (SqT.of h2) (.cons (.str _) (.cons (.str _) (.cons (.str _) .nil))), .tup (SqT.of g2) (.cons (.str _) (.cons (.str _) (.cons (.str _) .nil))), (Fit.tuple f1).shaped (by decide), (Fit.tuple f2).shaped (by decide), q⟩⟩
end Hv
namespace L
open PySem L2 Hv
variable {P : Program} {w : World} {K : PySem.W.Frag} {mg : Str → Option Value} {base : Heap}
abbrev s_same : Stmt := top 74
abbrev N_same : List Str := ["_law_box", "_law_other", "_law_told"]
abbrev P_same : List Str := ["_law_box", "_law_other"]
theorem sc_same : FnScope N_same P_same (defScope s_same) := ⟨rfl, rfl, rfl, by decide +kernel, rfl, by decide +kernel, by decide +kernel⟩
theorem ok_same {C CR f f1 f2 : Addr} {fd fd1 fd2 : FuncData} (D : DefAt K mg "_law_same" s_same P_same f fd) (T : Txt K mg) (TL : OwnTxt K mg "Row" C) (TR : OwnTxt K mg "Kind" CR)
    (D_Row_eq : MethAt K C "__eq__" "Row.__eq__" s_Row_eq P_Row_eq f1 fd1) (D_Kind_eq : MethAt K CR "__eq__" "Kind.__eq__" s_Kind_eq P_Kind_eq f2 fd2) (EK : EqO K C f1) (ER : EqO K CR f2)
    (n1 : PySem.W.notFirst K C (.ref C) = true) (n2 : PySem.W.notFirst K C (.ref CR) = true) (n3 : PySem.W.notFirst K CR (.ref C) = true)
    (k1 : PySem.W.kitOne K (.ref CR) (.ref C) = some false) (k2 : PySem.W.kitOne K (.ref C) (.ref CR) = some false) : FnOk P w K mg base CX0 3 f fd P_same (sp_rsame K C CR) := by
  have R_Row_eq : FnR P w K mg base CX0 1 f1 (sp_part_eq K C) := raw_ok (ok_Row_eq D_Row_eq T TL) D_Row_eq.bd
  have R_Kind_eq : FnR P w K mg base CX0 1 f2 (sp_part_eq K CR) := raw_ok (ok_Kind_eq D_Kind_eq T TR) D_Kind_eq.bd
  refine D.fn.ok sc_same (fun vs H Q E h => ?_) (fun cdv A outer s H vs Q E hr h => ?_)
  · obtain ⟨x, o, i, m, y, rfl, _⟩ := h
    rfl
  · obtain ⟨x, o, i, m, y, rfl, hx, h⟩ := h
    refine ⟨_, (pss_cons (ps_asg (pe_lst (pa_cons (pe_cmpR (op_eqOwnL EK R_Row_eq (hr.mono (by decide)) pass0) (pv 0) (pv 1) (nomark _)) (pa_cons (pe_cmpR (op_or (op_eqOwnL EK R_Row_eq (hr.mono (by decide)) pass0) (op_or (op_eqOwnL ER R_Kind_eq (hr.mono (by decide)) pass0) (op_eqOwnR EK R_Row_eq (hr.mono (by decide)) pass0))) (pv 1) (pv 0) (nomark _)) (pa_cons (pe_not (pe_cmpR (op_neOwnL EK R_Row_eq (hr.mono (by decide)) pass0) (pv 0) (pv 1) (nomark _))) (pa_cons (pe_not (pe_cmpR (op_or (op_neOwnL EK R_Row_eq (hr.mono (by decide)) pass0) (op_or (op_neOwnL ER R_Kind_eq (hr.mono (by decide)) pass0) (op_neOwnR EK R_Row_eq (hr.mono (by decide)) pass0))) (pv 1) (pv 0) (nomark _))) pa_nil))))) (pg_name (i := 2) sc_same.nd rfl (.inl rfl)))
      (pss_one (ps_ret (pe_ifExp (pt_cmpR (op_inD (units65 hr)) (pv 2) (pe_lst (pa_cons (pe_op op_rep (pe_lst (pa_cons pe_bl pa_nil)) pe_int) (pa_cons (pe_op op_rep (pe_lst (pa_cons pe_bl pa_nil)) pe_int) pa_nil))) (by rfl)) (pe_ix ix_list (pv 2) pe_int (fun _ _ => rfl)) pe_non)))), ?_⟩
    obtain ⟨dx, pt, h1, h2⟩ := hx.at_
    refine join_asg (fun v H' => ∃ t b, v = .ref t ∧ H t = none ∧ H' = upd H t (.lst [.bl b, .bl b, .bl b, .bl b]) ∧ ∀ H', Same H H' → Q (.bl b) H') (fun Q' fin => ?_) ?_
    · rcases h with ⟨z, o2, i2, m2, rfl, hz, ret⟩ | ⟨T', oth, ty, kt, ret⟩ | ⟨z, dz, qt, rfl, hz, ret⟩
      · obtain ⟨dz, qt, g1, g2⟩ := hz.at_
        have m1 : Mate K C H (.ref z) := .inr ⟨z, C, dz, _, rfl, g1, n1⟩
        have m2 : Mate K C H (.ref x) := .inr ⟨x, C, dx, _, rfl, h1, n1⟩
        refine ⟨_, rfl, _, rfl, x, dx, _, rfl, h1, m1, row_eq hx hz ⟨_, rfl, ?_⟩⟩
        refine ⟨_, rfl, _, rfl, .inl ⟨z, dz, _, rfl, g1, m2, row_eq hz hx ⟨_, rfl, ?_⟩⟩⟩
        refine ⟨_, rfl, _, rfl, x, dx, _, rfl, h1, m1, row_eq hx hz ⟨_, rfl, ?_⟩⟩
        refine ⟨_, rfl, _, rfl, _, rfl, .inl ⟨z, dz, _, rfl, g1, m2, row_eq hz hx ⟨_, rfl, ?_⟩⟩⟩
        refine ⟨_, rfl, by show 4 ≤ sizeLine; decide, fun t nt => fin _ _ ⟨t, _, rfl, nt, ?_, ret⟩⟩
        rw [PySem.W.eqv_comm (.tuple (trip o2 i2 _)) (.tuple (trip o i m))]
        simp
      · have no : ∀ (Q : VK), Q (.bl false) H → sp_part_eq K C [.ref x, y] H Q E0 := fun Q q => ⟨x, dx, pt, y, rfl, h1, .inr ⟨_, ty, kt, q⟩⟩
        refine ⟨_, rfl, _, rfl, x, dx, _, rfl, h1, .inl oth, no _ ⟨_, rfl, ?_⟩⟩
        refine ⟨_, rfl, _, rfl, .inr (.inr ⟨x, dx, _, rfl, h1, oth, no _ ⟨_, rfl, ?_⟩⟩)⟩
        refine ⟨_, rfl, _, rfl, x, dx, _, rfl, h1, .inl oth, no _ ⟨_, rfl, ?_⟩⟩
        refine ⟨_, rfl, _, rfl, _, rfl, .inr (.inr ⟨x, dx, _, rfl, h1, oth, no _ ⟨_, rfl, ?_⟩⟩)⟩
        exact ⟨_, rfl, by show 4 ≤ sizeLine; decide, fun t nt => fin _ _ ⟨t, false, rfl, nt, rfl, ret⟩⟩
      · have no : ∀ (Q : VK), Q (.bl false) H → sp_part_eq K C [.ref x, .ref z] H Q E0 := fun Q q => ⟨x, dx, pt, _, rfl, h1, .inr ⟨_, .base (.ins hz TR.c TR.ha TR.hn TR.htk TR.hm), k1, q⟩⟩
        have no2 : ∀ (Q : VK), Q (.bl false) H → sp_part_eq K CR [.ref z, .ref x] H Q E0 := fun Q q => ⟨z, dz, qt, _, rfl, hz, .inr ⟨_, .base (.ins h1 TL.c TL.ha TL.hn TL.htk TL.hm), k2, q⟩⟩
        have m1 : Mate K C H (.ref z) := .inr ⟨z, CR, dz, _, rfl, hz, n2⟩
        have m2 : Mate K CR H (.ref x) := .inr ⟨x, C, dx, _, rfl, h1, n3⟩
        refine ⟨_, rfl, _, rfl, x, dx, _, rfl, h1, m1, no _ ⟨_, rfl, ?_⟩⟩
        refine ⟨_, rfl, _, rfl, .inr (.inl ⟨z, dz, _, rfl, hz, m2, no2 _ ⟨_, rfl, ?_⟩⟩)⟩
        refine ⟨_, rfl, _, rfl, x, dx, _, rfl, h1, m1, no _ ⟨_, rfl, ?_⟩⟩
        refine ⟨_, rfl, _, rfl, _, rfl, .inr (.inl ⟨z, dz, _, rfl, hz, m2, no2 _ ⟨_, rfl, ?_⟩⟩)⟩
        exact ⟨_, rfl, by show 4 ≤ sizeLine; decide, fun t nt => fin _ _ ⟨t, false, rfl, nt, rfl, ret⟩⟩
    rintro _ _ ⟨t, b, rfl, nt, rfl, ret⟩
    have s0 := same_new (o := .lst [.bl b, .bl b, .bl b, .bl b]) nt
    refine ⟨_, rfl, by show 1 ≤ sizeLine; decide, fun p1 n1 => ⟨p1, _, _, rfl, rfl, upd_same, by decide, by decide, by decide, fun p2 n2 => ?_⟩⟩
    have s2 := (same_new (o := .lst [.bl true]) n1).trans (same_new (o := .lst [.bl true, .bl true, .bl true, .bl true]) n2)
    refine ⟨by show 1 ≤ sizeLine; decide, fun p3 n3 => ⟨p3, _, _, rfl, rfl, upd_same, by decide, by decide, by decide, fun p4 n4 => ?_⟩⟩
    have s4 := (same_new (o := .lst [.bl false]) n3).trans (same_new (o := .lst [.bl false, .bl false, .bl false, .bl false]) n4)
    refine ⟨by show 2 ≤ sizeLine; decide, fun p5 n5 => ?_⟩
    have s5 := same_new (o := .lst [.ref p2, .ref p4]) n5
    have h0 := s5 _ _ (s4 _ _ (s2 _ _ (upd_same (H := H) (a := t) (o := .lst [.bl b, .bl b, .bl b, .bl b]))))
    refine ⟨.list [.bool b, .bool b, .bool b, .bool b], [.list [.bool true, .bool true, .bool true, .bool true], .list [.bool false, .bool false, .bool false, .bool false]],
      .lst (SqL.of h0) (.cons (.bl _) (.cons (.bl _) (.cons (.bl _) (.cons (.bl _) .nil)))),
      .lst (SqL.of upd_same) (.cons (.lst (SqL.of (s5 _ _ (s4 _ _ upd_same))) (.cons (.bl _) (.cons (.bl _) (.cons (.bl _) (.cons (.bl _) .nil)))))
        (.cons (.lst (SqL.of (s5 _ _ upd_same)) (.cons (.bl _) (.cons (.bl _) (.cons (.bl _) (.cons (.bl _) .nil))))) .nil)), by cases b <;> decide +kernel, by decide +kernel, _, rfl, ?_⟩
    rw [four_same b]
    refine iteT ⟨_, rfl, t, _, _, _, rfl, rfl, SqL.of h0, rfl, ret _ (((s0.trans s2).trans s4).trans s5)⟩
end L

namespace Hv
open PySem L2
theorem term0 : term 0 = Str.ofString "InvalidName" := by decide +kernel
theorem term6 : term 6 = Str.ofString "InvalidAmount" := by decide +kernel
section
variable {K : PySem.W.Frag} {c : Nat → Addr} {C b p x dx : Addr} {H : Hp} {v1 v2 v3 : V} {d1 d2 d3 : PyData} {Q QR : VK} {E : XK}
theorem made_same {H1 : Hp} (nx : H1 x = none) (nd : H1 dx = none) : Same H1 (upd (upd H1 dx (.own x)) x (.ins C dx [])) := fun b o e => by
  rw [upd_ne (ne_of_none e nx), upd_ne (ne_of_none e nd)]
  exact e
theorem due_fit (l : Link K b p H v1 v2 v3 d1 d2 d3) : ∀ z ∈ dueR d1 d2 d3, Fit (.str z) 1 sizeLine := by
  have k1 : Fit (.str (Str.ofString "InvalidName")) 1 sizeLine := .str (strOk_of _) (by decide +kernel)
  have k2 : Fit (.str (Str.ofString "InvalidAmount")) 1 sizeLine := .str (strOk_of _) (by decide +kernel)
  intro z hz
  unfold dueR at hz
  split at hz
  · simp only [List.mem_cons, List.not_mem_nil, or_false] at hz
    rcases hz with rfl | rfl
    · exact k1
    · exact l.g1.fit.str (by decide)
  · split at hz
    · simp only [List.mem_cons, List.not_mem_nil, or_false] at hz
      rcases hz with rfl | rfl
      · exact k1
      · exact l.g2.fit.str (by decide)
    · split at hz
      · simp only [List.mem_cons, List.not_mem_nil, or_false] at hz
        rcases hz with rfl | rfl
        · exact k2
        · exact l.g3.fit.str (by decide)
      · cases hz
theorem due_row : dueR d1 d2 d3 = [] ↔ rowD d1 d2 d3 = true := by
  unfold dueR rowD
  cases nameD d1 <;> cases nameD d2 <;> cases amountD d3 <;> simp
/-- Row(..) of three values, within the catcher -/
theorem row_tl0 (q1 : Dq K b H v1 d1) (q2 : Dq K b H v2 d2) (q3 : Dq K b H v3 d3) (g1 : GoodD d1) (g2 : GoodD d2) (g3 : GoodD d3) (EX0 : ErrIx K c 0) (EX6 : ErrIx K c 6) (nx : H x = none) (nd : H dx = none) (ne : dx ≠ x)
    (bad : dueR d1 d2 d3 ≠ [] → ∀ q H2, H q = none → Same H H2 → H2 q = some (.lst ((dueR d1 d2 d3).map V.str)) → Q (.ref q) H2)
    (fine : dueR d1 d2 d3 = [] → ∀ H2, Same H H2 → RowP C H2 x v1 v2 v3 → QR .non H2) :
    lk (sp_row_initX K c C) [.ref x, v1, v2, v3] (upd (upd H dx (.own x)) x (.ins C dx [])) QR (echQ K c Q) := by
  have s1 := made_same (C := C) nx nd
  refine lk_in ⟨b, x, dx, v1, v2, v3, d1, d2, d3, rfl, q1.same s1, q2.same s1, q3.same s1, g1.sh, g2.sh, g3.sh, upd_same, by rw [upd_ne ne, upd_same], ne, ⟨fun n1 => ?_, fun n1 n2 => ?_, fun n1 n2 n3 => ?_, fun r H2 keep hr => ?_⟩⟩
  · have e : dueR d1 d2 d3 = [term 0, d1.shown] := by
      unfold dueR
      rw [if_pos n1, term0]
    exact ech_tell (by decide) EX0 (q1.same s1) g1.fit (by decide) (by decide) fun q H2 nq s2 h => bad (by rw [e]; intro z; cases z) q H2 (s1.free nq) (s1.trans s2) (by rw [e]; exact h)
  · have e : dueR d1 d2 d3 = [term 0, d2.shown] := by
      unfold dueR
      rw [if_neg (by rw [n1]; decide), if_pos n2, term0]
    exact ech_tell (by decide) EX0 (q2.same s1) g2.fit (by decide) (by decide) fun q H2 nq s2 h => bad (by rw [e]; intro z; cases z) q H2 (s1.free nq) (s1.trans s2) (by rw [e]; exact h)
  · have e : dueR d1 d2 d3 = [term 6, d3.shown] := by
      unfold dueR
      rw [if_neg (by rw [n1]; decide), if_neg (by rw [n2]; decide), if_pos n3, term6]
    exact ech_tell (by decide) EX6 (q3.same s1) g3.fit (by decide) (by decide) fun q H2 nq s2 h => bad (by rw [e]; intro z; cases z) q H2 (s1.free nq) (s1.trans s2) (by rw [e]; exact h)
  · exact fine (due_row.mpr r) H2 (fun a o e => keep a o (ne_of_none e nx) (s1 _ _ e)) hr
theorem row_tl (l : Link K b p H v1 v2 v3 d1 d2 d3) (EX0 : ErrIx K c 0) (EX6 : ErrIx K c 6) (nx : H x = none) (nd : H dx = none) (ne : dx ≠ x)
    (bad : dueR d1 d2 d3 ≠ [] → ∀ q H2, H q = none → Same H H2 → H2 q = some (.lst ((dueR d1 d2 d3).map V.str)) → Q (.ref q) H2)
    (fine : dueR d1 d2 d3 = [] → ∀ H2, Same H H2 → RowP C H2 x v1 v2 v3 → QR .non H2) :
    lk (sp_row_initX K c C) [.ref x, v1, v2, v3] (upd (upd H dx (.own x)) x (.ins C dx [])) QR (echQ K c Q) := row_tl0 l.q1 l.q2 l.q3 l.g1 l.g2 l.g3 EX0 EX6 nx nd ne bad fine
/-- Row(..) of three written texts that is refused -/
theorem row_lit {o i m a u : Str} (g1 : goodD (.str o) = true) (g2 : goodD (.str i) = true) (g3 : goodD (.str m) = true) (h : dueR (.str o) (.str i) (.str m) = [a, u]) (EX0 : ErrIx K c 0) (EX6 : ErrIx K c 6)
    (ret : ∀ q H2, H q = none → Same H H2 → H2 q = some (.lst [.str a, .str u]) → Q (.ref q) H2) :
    ∀ x dx, H x = none → H dx = none → dx ≠ x → lk (sp_row_initX K c C) [.ref x, .str o, .str i, .str m] (upd (upd H dx (.own x)) x (.ins C dx [])) QR (echQ K c Q) := fun x dx nx nd ne =>
  row_tl0 (b := 0) (.str o) (.str i) (.str m) (good_of g1) (good_of g2) (good_of g3) EX0 EX6 nx nd ne (fun _ q H2 nq s2 hq => ret q H2 nq s2 (by rw [h] at hq; exact hq)) fun e => by rw [h] at e; cases e
/-- _law_shown(Row(..)) of a drawn row, within the catcher -/
theorem row_caught (l : Link K b p H v1 v2 v3 d1 d2 d3) (EX0 : ErrIx K c 0) (EX6 : ErrIx K c 6) (hb : H b ≠ none) (ret : ∀ q H2, H q = none → Same H H2 → H2 q = some (.lst ((toldL (dueR d1 d2 d3) (.list [d1, d2, d3])).map V.str)) → Q (.ref q) H2) :
    ∀ x dx, H x = none → H dx = none → dx ≠ x → lk (sp_row_initX K c C) [.ref x, v1, v2, v3] (upd (upd H dx (.own x)) x (.ins C dx [])) (fun v H2 => v = .non ∧ sp_rshown C [.ref x] H2 (toldQ K Q) E0) (echQ K c Q) := by
  intro x dx nx nd ne
  refine row_tl l EX0 EX6 nx nd ne (fun h q H2 nq s2 hq => ret q H2 nq s2 ?_) (fun h H2 s2 hr => ⟨rfl, x, v1, v2, v3, rfl, hr, fun r nr => ?_⟩)
  · unfold toldL
    rw [if_neg h]
    exact hq
  · have s3 := s2.trans (same_new (o := .lst [v1, v2, v3]) nr)
    have rb : r ≠ b := fun z => by
      cases q : H b with
      | none => exact hb q
      | some o => rw [z, s2 _ _ q] at nr; cases nr
    have l3 := l.same s3
    refine ⟨_, rfl, rd_reprQ (b := b) (.lst upd_same rb (.cons l3.q1 (.cons l3.q2 (.cons l3.q3 .nil)))) l.fit (by decide) (by decide) ⟨by decide, fun q nq => ret q _ (s3.free nq) (s3.trans (same_new nq)) ?_⟩⟩
    rw [upd_same]
    unfold toldL
    rw [if_pos h]
    rfl
end
end Hv
namespace Hv
open PySem L2
section
variable {K : PySem.W.Frag} {c : Nat → Addr} {C b p x dx : Addr} {H : Hp} {v1 v2 v3 : V} {d1 d2 d3 : PyData} {Q QR : VK} {E : XK}
theorem name_is {v : V} {d : PyData} (h : Dq K b H v d) (n : nameD d = true) : ∃ o, v = .str o ∧ d = .str o ∧ nameOk o = true := by
  cases h with
  | str z => exact ⟨z, rfl, rfl, n⟩
  | _ => cases n
theorem amount_is {v : V} {d : PyData} (h : Dq K b H v d) (n : amountD d = true) : ∃ o, v = .str o ∧ d = .str o ∧ o ∈ AMTS := by
  cases h with
  | str z => exact ⟨z, rfl, rfl, amount_mem n⟩
  | _ => cases n
theorem link_fine (l : Link K b p H v1 v2 v3 d1 d2 d3) (h : dueR d1 d2 d3 = []) : ∃ o i m, v1 = .str o ∧ v2 = .str i ∧ v3 = .str m ∧ d1 = .str o ∧ d2 = .str i ∧ d3 = .str m ∧ nameOk o = true ∧ nameOk i = true ∧ m ∈ AMTS := by
  have r := due_row.mp h
  unfold rowD at r
  rw [Bool.and_eq_true, Bool.and_eq_true] at r
  obtain ⟨o, rfl, rfl, ho⟩ := name_is l.q1 r.1.1
  obtain ⟨i, rfl, rfl, hi⟩ := name_is l.q2 r.1.2
  obtain ⟨m, rfl, rfl, hm⟩ := amount_is l.q3 r.2
  exact ⟨o, i, m, rfl, rfl, rfl, rfl, rfl, rfl, ho, hi, hm⟩
/-- the three texts of a right row -/
structure Right3 (o i m : Str) : Prop where
  ok : nameOk o = true
  ik : nameOk i = true
  ak : m ∈ AMTS
theorem name_fit {o : Str} (h : nameOk o = true) : Fit (.str o) 1 60 := .str (nameOk_str h) (by have := (Tag.of h).2; omega)
theorem amt_fit {m : Str} (h : m ∈ AMTS) : Fit (.str m) 1 60 := .str (amts_str m h).1 (by have := (amts_str m h).2; omega)
theorem str_short {z : Str} (h : z.length ≤ 60) : shortD (.str z) = true := decide_eq_true (by omega)
/-- Row(..) of three right texts -/
theorem row_new {o i m : Str} (r : Right3 o i m) (nx : H x = none) (nd : H dx = none) (ne : dx ≠ x) (fine : ∀ H2, Same H H2 → TxtRow C H2 x o i m → QR .non H2) :
    sp_row_initX K c C [.ref x, .str o, .str i, .str m] (upd (upd H dx (.own x)) x (.ins C dx [])) QR E0 := by
  have s1 := made_same (C := C) nx nd
  have l1 := (Tag.of r.ok).2
  have l2 := (Tag.of r.ik).2
  have l3 := (amts_str m r.ak).2
  refine ⟨x, x, dx, _, _, _, .str o, .str i, .str m, rfl, .str o, .str i, .str m, str_short (by omega), str_short (by omega), str_short (by omega), upd_same, by rw [upd_ne ne, upd_same], ne, ⟨fun n1 => ?_, fun n1 n2 => ?_, fun n1 n2 n3 => ?_, fun _ H2 keep hr => ?_⟩⟩
  · rw [show nameD (.str o) = nameOk o from rfl, r.ok] at n1
    cases n1
  · rw [show nameD (.str i) = nameOk i from rfl, r.ik] at n2
    cases n2
  · rw [show amountD (.str m) = (sortOf m).isSome from rfl, amts_some m r.ak] at n3
    cases n3
  · exact fine H2 (fun a o e => keep a o (ne_of_none e nx) (s1 _ _ e)) ⟨hr, name_fit r.ok, name_fit r.ik, amt_fit r.ak⟩
theorem kind_plain {o : Str} (h : nameOk o = true) (nx : H x = none) (nd : H dx = none) (ne : dx ≠ x) (ret : ∀ H2 dz pt, Same H H2 → H2 x = some (.ins C dz [("parts", .ref pt)]) → QR .non H2) :
    sp_kind_init K C [.ref x, .str o, .int 0, .int 1, .non, .non] (upd (upd H dx (.own x)) x (.ins C dx [])) QR E := by
  have s1 := made_same (C := C) nx nd
  have hl : o.length ≤ sizeLine := by
    have := (Tag.of h).2
    have : 1000 ≤ sizeLine := by decide
    omega
  refine ⟨x, dx, ⟨o, 0, .int 1, none, none⟩, .non, rfl, ⟨h, hl, ⟨Int.le_refl 0, by show (0 : Int) ≤ 3; decide⟩, .inl ⟨1, rfl, by decide, by decide⟩, (fun _ _ e => nomatch e), fun _ e => nomatch e⟩, rfl, upd_same, by rw [upd_ne ne, upd_same], ne, fun H2 keep hk => ?_⟩
  obtain ⟨dx', pt, cl, h1, _⟩ := hk
  exact ret H2 dx' pt (fun a o e => keep a o (ne_of_none e nx) (s1 _ _ e)) h1
end
/-- a value that is no row -/
def NoRow (K : PySem.W.Frag) (C CK : Addr) (H : Hp) (y : V) : Prop := (∃ T, PySem.W.kitOne K (.type T) (.ref C) = some false ∧ ∀ H', Same H H' → Oth K H' y ∧ TyX K H' y (.type T)) ∨ ∃ z dz pt, y = .ref z ∧ H z = some (.ins CK dz [("parts", .ref pt)])
end Hv
namespace L
open PySem L2 Hv
variable {P : Program} {w : World} {K : PySem.W.Frag} {mg : Str → Option Value} {base : Heap}
theorem kb_row {f : Addr} {fd : FuncData} (F : Fun K "__init__" "Row.__init__" s_Row_init f fd) : KBn K fd P_Row_init 1 ["amount", "inner", "outer"] (fun us ws => match us, ws with | [u], [a, i, o] => [u, o, i, a] | _, _ => []) (fun us ws => match us, ws with | [u], [a, i, o] => [u, o, i, a] | _, _ => []) := by
  obtain ⟨oc, od, kV, doc, pm, an, cdv, ct, osl, rfl, lk, hcd⟩ := F.ex
  refine ⟨fun s us ws _ h1 h2 => ?_, fun {vs us zs ws} r rz => ?_⟩
  · match us, ws, h1, h2 with
    | [_], [_, _, _], _, _ => exact .of_eq rfl
  · cases r with
    | nil => exact .nil
    | cons r0 t0 =>
      cases t0 with
      | cons _ _ => exact .nil
      | nil =>
        cases rz with
        | nil => exact .nil
        | cons z0 q0 =>
          cases q0 with
          | nil => exact .nil
          | cons z1 q1 =>
            cases q1 with
            | nil => exact .nil
            | cons z2 q2 =>
              cases q2 with
              | cons _ _ => exact .nil
              | nil => exact .cons r0 (.cons z2 (.cons z1 (.cons z0 .nil)))
def sp_right (K : PySem.W.Frag) (Tb : List (Addr × Str)) : Sp := fun vs H Q _ => ∃ (b : Addr) (n : Nat), vs = [.ref b] ∧ Bag H b n ∧ n < 600000 ∧ LamX.Tabs Tb H ∧ ∀ H', ExtB b H H' → Bag H' b (n + 130) → LamX.Tabs Tb H' → Q (.bl true) H'
abbrev s_right : Stmt := top 75
abbrev N_right : List Str := ["_law_bag_here", "_law_link", "_law_mate", "_law_due_here", "_law_before", "_law_told", "_law_box", "_law_other", "_law_odd_here"]
abbrev P_right : List Str := ["_law_bag_here"]
theorem sc_right : FnScope N_right P_right (defScope s_right) := ⟨rfl, rfl, rfl, by decide +kernel, rfl, by decide +kernel, by decide +kernel⟩
abbrev qR : Str := (PyProof.Rows.envOfC "_law_right" (defScope s_right) 0 0 .none).qual
theorem ok_right {C CK f f1 f2 f3 f4 f5 f7 f8 f9 fI fK cR PR : Addr} {fd fd1 fd2 fd3 fd4 fd5 fd7 fd8 fd9 fdI fdK : FuncData} {c : Nat → Addr} {Tb : List (Addr × Str)} (D : DefAt K mg "_law_right" s_right P_right f fd) (T : Txt K mg) (EN : ErrNames mg c) (hcode : fd.code = .ref cR) (TB : LamX.TabB base mg cR PR)
    (hmT : (PR, qR ++ "<lambda>") ∈ Tb) (hu : ∀ p ∈ Tb, p.1 = PR → p.2 = qR ++ "<lambda>") (EX0 : ErrIx K c 0) (EX6 : ErrIx K c 6) (TR : OwnTxt K mg "Row" C) (TK : OwnTxt K mg "Kind" CK) (kn : KitNo K C)
    (D_take : DefAt K mg "_law_take" s_take P_take f1 fd1) (D_drawn : DefAt K mg "_law_drawn" s_drawn P_drawn f2 fd2) (G_drawn : FnOk P w K mg base CX0 4 f2 fd2 P_drawn (sp_drawn K)) (D_due : DefAt K mg "_law_due" s_due P_due f3 fd3) (G_due : OkG P w K mg base CX0 2 f3 fd3 P_due (sp_due K))
    (D_shown : DefAt K mg "_law_shown" s_shown P_shown f4 fd4) (G_shown : FnOk P w K mg base CX0 3 f4 fd4 P_shown (sp_rshown C)) (D_same : DefAt K mg "_law_same" s_same P_same f5 fd5) (G_same : FnOk P w K mg base CX0 3 f5 fd5 P_same (sp_rsame K C CK))
    (D_caught : DefAt K mg "_law_caught" s_caught P_caught f7 fd7) (D_sort : DefAt K mg "_law_sort" s_sort P_sort f8 fd8) (G_sort : FnP P w K mg base 2 f8 fd8 P_sort (sp_sort K c)) (D_held : DefAt K mg "_law_held" s_held P_held f9 fd9) (G_held : FnP P w K mg base 1 f9 fd9 P_held (sp_held K c))
    (M_Row : Mk K C fI) (D_Row_init : MethAt K C "__init__" "Row.__init__" s_Row_init P_Row_init fI fdI) (G_Row_initX : FnOk P w K mg base (L2.CX P w) 3 fI fdI P_Row_init (sp_row_initX K c C))
    (M_Kind : Mk K CK fK) (FK : FunK K fK fdK) (G_Kind_init : FnOk P w K mg base CX0 5 fK fdK P_Kind_init (sp_kind_init K CK)) : OkG P w K mg base CX0 10 f fd P_right (sp_right K Tb) := by
  have G_take : FnOk P w K mg base CX0 1 f1 fd1 P_take sp_take := ok_take D_take T
  have G_Row_init := Hv.FnOk.calm G_Row_initX
  have G_Row_initX := fn_lk G_Row_initX
  have KB_amount_inner_outer := kb_row D_Row_init.fn
  obtain ⟨ds, KV0, KB0⟩ := kb_none FK
  refine okGc D.fn sc_right hcode (fun vs H Q E h => ?_) (fun A outer s H vs Q E hG hr h => ?_)
  · obtain ⟨b, n, rfl, _⟩ := h
    rfl
  · obtain ⟨b, n, rfl, hb, hn, hT, ret⟩ := h
    refine ⟨_, (pss_cons (ps_asg (pe_tup (pa_cons (pe_call G_drawn (hr.mono (by decide)) rfl D_drawn.mg D_drawn.fn.kp D_drawn.bd .nil pass0 (pa_cons (pv 0) pa_nil)) (pa_cons (pe_call G_drawn (hr.mono (by decide)) rfl D_drawn.mg D_drawn.fn.kp D_drawn.bd .nil pass0 (pa_cons (pv 0) pa_nil)) pa_nil))) (pg_tup (by rfl) (pgs_cons (pg_name (i := 1) sc_right.nd rfl (.inr rfl)) (pgs_cons (pg_name (i := 2) sc_right.nd rfl (.inl rfl)) pgs_nil))))
      (pss_cons (ps_par (i := 3) (j := 4) (by rfl) sc_right.nd rfl rfl (by decide) rfl rfl (pa_cons (pe_callG G_due hG (hr.mono (by decide)) rfl D_due.mg D_due.fn.kp D_due.bd .nil pass0 (pa_cons (pv 1) pa_nil)) (pa_cons (pe_callB (cr_reprQ hG hr.units) (by rfl) T.repr (by decide +kernel) (pa_cons (pv 1) pa_nil)) pa_nil)) (by rfl))
      (pss_cons (ps_asg (pe_caught (k := 5) (hr.mono (by decide)) hG T EN D_caught D_sort G_sort D_held G_held rfl TB rfl hmT hu (LamX.lamS_by (sc := defScope s_right) (by decide +kernel)) rfl (fun _ _ _ _ _ => rfl) (fun A1 outer1 s1 H1 E1 f1 c1 hr1 => (pe_call G_shown (hr1.mono (by decide)) rfl D_shown.mg D_shown.fn.kp D_shown.bd .nil pass0 (pa_cons (pe_make (E := E1) M_Row G_Row_initX (hr1.mono (by decide)) rfl TR.mg D_Row_init.bd .nil (passes_call (takes_of rfl rfl rfl rfl) (fun _ _ _ _ z => z)) (pa_cons (pe_ix (show IxR _ (rIxL K) from ix_list) (pv 1) pe_int (fun _ _ => rfl)) (pa_cons (pe_ix (show IxR _ (rIxL K) from ix_list) (pv 1) pe_int (fun _ _ => rfl)) (pa_cons (pe_ix (show IxR _ (rIxL K) from ix_list) (pv 1) pe_int (fun _ _ => rfl)) pa_nil)))) pa_nil)))) (pg_name (i := 5) sc_right.nd rfl (.inl rfl)))
      (pss_cons (ps_if (pt_cmpR (op_neD hr.units) (pv 5) (pe_ifExp (pt_cmpR (op_eqD hr.units) (pv 3) (pe_lst pa_nil) (nomark _)) (pe_lst (pa_cons pe_str (pa_cons (pe_callB (cr_reprQ hG hr.units) (by rfl) T.repr (by decide +kernel) (pa_cons (pv 1) pa_nil)) pa_nil))) (pv 3)) (nomark _))
      (pss_one (ps_ret pe_bl))
      pss_nil)
      (pss_cons (ps_asg (pe_caught (k := 5) (hr.mono (by decide)) hG T EN D_caught D_sort G_sort D_held G_held rfl TB rfl hmT hu (LamX.lamS_by (sc := defScope s_right) (by decide +kernel)) rfl (fun _ _ _ _ _ => rfl) (fun A1 outer1 s1 H1 E1 f1 c1 hr1 => (pe_call G_shown (hr1.mono (by decide)) rfl D_shown.mg D_shown.fn.kp D_shown.bd .nil pass0 (pa_cons (pe_makeK0 (E := E1) M_Row G_Row_initX (hr1.mono (by decide)) rfl TR.mg KB_amount_inner_outer (passes_call (takes_of rfl rfl rfl rfl) (fun _ _ _ _ z => z)) (pk_cons (pe_ix (show IxR _ (rIxL K) from ix_list) (pv 1) pe_int (fun _ _ => rfl)) (pk_cons (pe_ix (show IxR _ (rIxL K) from ix_list) (pv 1) pe_int (fun _ _ => rfl)) (pk_cons (pe_ix (show IxR _ (rIxL K) from ix_list) (pv 1) pe_int (fun _ _ => rfl)) pk_nil)))) pa_nil)))) (pg_name (i := 5) sc_right.nd rfl (.inl rfl)))
      (pss_cons (ps_if (PW.pt (pw_or (pt_cmpR (op_neD hr.units) (pv 5) (pe_ifExp (pt_cmpR (op_eqD hr.units) (pv 3) (pe_lst pa_nil) (nomark _)) (pe_lst (pa_cons pe_str (pa_cons (pe_callB (cr_reprQ hG hr.units) (by rfl) T.repr (by decide +kernel) (pa_cons (pv 1) pa_nil)) pa_nil))) (pv 3)) (nomark _)) (pw_or1 (pt_cmpR op_ne (pe_callB (cr_reprQ hG hr.units) (by rfl) T.repr (by decide +kernel) (pa_cons (pv 1) pa_nil)) (pv 4) (nomark _)))))
      (pss_one (ps_ret pe_bl))
      pss_nil)
      (pss_cons (ps_if (PW.pt (pw_or (pt_cmpR (op_neD hr.units) (pv 3) (pe_lst pa_nil) (nomark _)) (pw_or1 (pt_cmpR (op_neD hr.units) (pe_callG G_due hG (hr.mono (by decide)) rfl D_due.mg D_due.fn.kp D_due.bd .nil pass0 (pa_cons (pv 2) pa_nil)) (pe_lst pa_nil) (nomark _)))))
      (pss_one (ps_ret pe_bl))
      pss_nil)
      (pss_cons (ps_asg (pe_ix ix_list (pe_lst (pa_cons (pv 1) (pa_cons (pe_lst (pa_cons (pe_ix ix_list (pv 1) pe_int (fun _ _ => rfl)) (pa_cons (pe_ix ix_list (pv 1) pe_int (fun _ _ => rfl)) (pa_cons (pe_ix ix_list (pv 1) pe_int (fun _ _ => rfl)) pa_nil)))) (pa_cons (pe_lst (pa_cons (pe_ix ix_list (pv 1) pe_int (fun _ _ => rfl)) (pa_cons (pe_ix ix_list (pv 1) pe_int (fun _ _ => rfl)) (pa_cons (pe_ix ix_list (pv 2) pe_int (fun _ _ => rfl)) pa_nil)))) (pa_cons (pv 2) pa_nil))))) (pe_call G_take (hr.mono (by decide)) rfl D_take.mg D_take.fn.kp D_take.bd .nil pass0 (pa_cons (pv 0) (pa_cons pe_int pa_nil))) (fun _ _ => rfl)) (pg_name (i := 2) sc_right.nd rfl (.inl rfl)))
      (pss_cons (ps_par (i := 6) (j := 7) (by rfl) sc_right.nd rfl rfl (by decide) rfl rfl (pa_cons (pe_make M_Row G_Row_init (hr.mono (by decide)) rfl TR.mg D_Row_init.bd .nil pass0 (pa_cons (pe_ix ix_list (pv 1) pe_int (fun _ _ => rfl)) (pa_cons (pe_ix ix_list (pv 1) pe_int (fun _ _ => rfl)) (pa_cons (pe_ix ix_list (pv 1) pe_int (fun _ _ => rfl)) pa_nil)))) (pa_cons (pe_make M_Row G_Row_init (hr.mono (by decide)) rfl TR.mg D_Row_init.bd .nil pass0 (pa_cons (pe_ix ix_list (pv 2) pe_int (fun _ _ => rfl)) (pa_cons (pe_ix ix_list (pv 2) pe_int (fun _ _ => rfl)) (pa_cons (pe_ix ix_list (pv 2) pe_int (fun _ _ => rfl)) pa_nil)))) pa_nil)) (by rfl))
      (pss_cons (ps_asg (pe_ix ix_list (pe_lst (pa_cons (pe_ix ix_list (pv 1) pe_int (fun _ _ => rfl)) (pa_cons (pe_callTy call_tuple_of (by rfl) T.tuple (by decide +kernel) (pa_cons (pv 1) pa_nil)) (pa_cons (pe_callTy call_list_of (by rfl) T.list (by decide +kernel) (pa_cons (pv 1) pa_nil)) (pa_cons pe_non (pa_cons (pe_make M_Kind G_Kind_init (hr.mono (by decide)) rfl TK.mg KB0 KV0 pass0 (pa_cons (pe_ix ix_list (pv 1) pe_int (fun _ _ => rfl)) pa_nil)) (pa_cons (pe_join pe_str (pv 1)) pa_nil))))))) (pe_call G_take (hr.mono (by decide)) rfl D_take.mg D_take.fn.kp D_take.bd .nil pass0 (pa_cons (pv 0) (pa_cons pe_int pa_nil))) (fun _ _ => rfl)) (pg_name (i := 8) sc_right.nd rfl (.inl rfl)))
      (pss_one (ps_ret (pe_and (pe_cmpR op_eq (pe_call G_same (hr.mono (by decide)) rfl D_same.mg D_same.fn.kp D_same.bd .nil pass0 (pa_cons (pv 6) (pa_cons (pv 7) pa_nil))) (pe_cmpR (op_eqD hr.units) (pv 1) (pv 2) (nomark _)) (nomark _)) (pe_and (pe_cmpR op_isBl (pe_call G_same (hr.mono (by decide)) rfl D_same.mg D_same.fn.kp D_same.bd .nil pass0 (pa_cons (pv 6) (pa_cons (pv 8) pa_nil))) pe_bl (nomark _)) (pe_one (pe_cmpR (op_eqD hr.units) (pe_call G_shown (hr.mono (by decide)) rfl D_shown.mg D_shown.fn.kp D_shown.bd .nil pass0 (pa_cons (pv 6) pa_nil)) (pv 1) (nomark _))))))))))))))))), ?_⟩
    refine ⟨_, rfl, b, n, rfl, hb, by omega, fun p v1 v2 v3 d1 d2 d3 H1 np u1 b1 hp pb q1 q2 q3 g1 g2 g3 => ?_⟩
    have L1 : Link K b p H1 v1 v2 v3 d1 d2 d3 := ⟨hp, pb, q1, q2, q3, g1, g2, g3⟩
    refine ⟨_, rfl, b, n + 60, rfl, b1, by omega, fun pm w1 w2 w3 e1 e2 e3 H2 npm u2 b2 hpm pmb r1 r2 r3 h1 h2 h3 => ?_⟩
    have M1 : Link K b pm H2 w1 w2 w3 e1 e2 e3 := ⟨hpm, pmb, r1, r2, r3, h1, h2, h3⟩
    have L2 := L1.but b1 u2
    have hT2 := tabs_but (tabs_but hT hb u1) b1 u2
    have x2 : ExtB b H H2 := ExtB.of (u1.trans u2)
    clear L1 u1 u2 hp q1 q2 q3 g1 g2 g3 hpm r1 r2 r3 h1 h2 h3 b1
    refine ⟨by show 2 ≤ sizeLine; decide, fun t nt => ⟨t, _, rfl, SqT.of upd_same, rfl, _, _, rfl, _, _, rfl, rfl, ?_⟩⟩
    have s3 := same_new (o := .tup [.ref p, .ref pm]) nt
    have L3 := L2.same s3
    have M3 := M1.same s3
    have hT3 := hT2.ext s3
    have b3 := b2.same s3
    have x3 : ExtB b H _ := x2.trans (ExtB.of (But.of s3))
    generalize hx : upd H2 t _ = H3 at s3 L3 M3 hT3 b3 x3 ⊢
    clear hx s3 nt L2 M1 hT2 x2 b2
    -- due, before
    refine ⟨_, rfl, b, p, v1, v2, v3, d1, d2, d3, rfl, L3, fun du H4 du0 s4 hdu => ⟨_, rfl, rd_reprQ (L3.same s4).dq L3.fit (by decide) (by decide) ⟨_, _, rfl, ?_⟩⟩⟩
    have df := due_fit L3
    have dub : du ≠ b := b3.ne_none du0
    -- the first call
    refine ⟨hT3.ext s4, fun H5 x5 T5 => ?_⟩
    have L5 := (L3.same s4).ext x5
    have M5 := (M3.same s4).ext x5
    have hdu5 := x5 _ _ hdu (by intro ps q; cases q)
    have b5 := ext_bag x5 (b3.same s4)
    have y5 : ExtB b H H5 := (x3.trans (ExtB.of (But.of s4))).trans (ExtB.ofN x5)
    refine ⟨_, rfl, p, _, _, v1, rfl, rfl, L5.sq, rfl, _, rfl, p, _, _, v2, rfl, rfl, L5.sq, rfl, _, rfl, p, _, _, v3, rfl, rfl, L5.sq, rfl, row_caught L5 EX0 EX6 b5.some fun tl1 H6 ntl s6 htl => ?_⟩
    have L6 := L5.same s6
    have M6 := M5.same s6
    have hdu6 := s6 _ _ hdu5
    have b6 := b5.same s6
    have T6 := T5.ext s6
    have y6 := y5.trans (ExtB.of (But.of s6))
    clear L5 M5 hdu5 b5 T5 y5 s6 x5 s4 hdu L3 M3 hT3 b3 x3
    dsimp only [gName]
    refine join_no (fun H' => Same H6 H') (fun Q' fin => ?_) ?_
    · exact told_ne (i := 5) (j := 3) (te := tVar 1) rfl htl rfl hdu6 df (fun H1 Q s1 q => ⟨_, rfl, q⟩) L6.dq L6.fit (by decide) (by decide) fun H7 s7 => ⟨_, rfl, fin _ _ rfl s7⟩
    intro H7 s7
    have L7 := L6.same s7
    have M7 := M6.same s7
    have hdu7 := s7 _ _ hdu6
    have b7 := b6.same s7
    have T7 := T6.ext s7
    have y7 := y6.trans (ExtB.of (But.of s7))
    clear L6 M6 hdu6 b6 T6 y6 s7 htl
    -- the second call
    refine ⟨T7, fun H8 x8 T8 => ?_⟩
    have L8 := L7.ext x8
    have M8 := M7.ext x8
    have hdu8 := x8 _ _ hdu7 (by intro ps q; cases q)
    have b8 := ext_bag x8 b7
    have y8 := y7.trans (ExtB.ofN x8)
    refine ⟨_, rfl, p, _, _, v3, rfl, rfl, L8.sq, rfl, _, rfl, p, _, _, v2, rfl, rfl, L8.sq, rfl, _, rfl, p, _, _, v1, rfl, rfl, L8.sq, rfl, rfl, rfl, row_caught L8 EX0 EX6 b8.some fun tl2 H9 ntl s9 htl => ?_⟩
    have L9 := L8.same s9
    have M9 := M8.same s9
    have hdu9 := s9 _ _ hdu8
    have b9 := b8.same s9
    have T9 := T8.ext s9
    have y9 := y8.trans (ExtB.of (But.of s9))
    clear L8 M8 hdu8 b8 T8 y8 s9 x8 L7 M7 hdu7 b7 T7 y7
    dsimp only [gName]
    refine join_no (fun H' => Same H9 H') (fun Q' fin => ?_) ?_
    · refine told_ne (i := 5) (j := 3) (te := tVar 1) rfl htl rfl hdu9 df (fun H1 Q s1 q => ⟨_, rfl, q⟩) L9.dq L9.fit (by decide) (by decide) fun Ha sa => ⟨_, rfl, iteF ?_⟩
      refine ⟨_, rfl, rd_reprQ (L9.same sa).dq L9.fit (by decide) (by decide) ⟨_, rfl, rfl, _, rfl, fin _ _ ?_ sa⟩⟩
      rw [decide_eq_true rfl]
      rfl
    intro Ha sa
    have La := L9.same sa
    have Ma := M9.same sa
    have hdua := sa _ _ hdu9
    have ba := b9.same sa
    have Ta := T9.ext sa
    have ya := y9.trans (ExtB.of (But.of sa))
    clear L9 M9 hdu9 b9 T9 y9 sa htl
    -- are both right?
    refine due_some (U' := du) hdua df (fun Q q => ⟨_, rfl, q⟩) fun Hb sb => ⟨_, rfl, ?_⟩
    have Lb := La.same sb
    have Mb := Ma.same sb
    have bb := ba.same sb
    have Tb' := Ta.ext sb
    have yb := ya.trans (ExtB.of (But.of sb))
    clear La Ma ba Ta ya sb
    by_cases h0 : dueR d1 d2 d3 = []
    case neg => exact ifNT h0 (iteT (ret _ yb (bb.mono (by omega)) Tb'))
    refine ifNF h0 ?_
    refine due_someN (due := dueR e1 e2 e3) (due_fit Mb) (fun Q q => ⟨_, rfl, b, pm, w1, w2, w3, e1, e2, e3, rfl, Mb, fun du2 Hc du20 sc hdu2 => q du2 Hc sc hdu2⟩) fun Hc sc => ⟨_, rfl, ?_⟩
    have Lc := Lb.same sc
    have Mc := Mb.same sc
    have bc := bb.same sc
    have Tc := Tb'.ext sc
    have yc := yb.trans (ExtB.of (But.of sc))
    clear Lb Mb bb Tb' yb sc
    by_cases h1 : dueR e1 e2 e3 = []
    case neg => exact ifNT h1 (ret _ yc (bc.mono (by omega)) Tc)
    refine ifNF h1 ?_
    obtain ⟨o, i, m, rfl, rfl, rfl, rfl, rfl, rfl, ok, ik, ak⟩ := link_fine Lc h0
    obtain ⟨o2, i2, m2, rfl, rfl, rfl, rfl, rfl, rfl, ok2, ik2, ak2⟩ := link_fine Mc h1
    have R1 : Right3 o i m := ⟨ok, ik, ak⟩
    have hp := Lc.hp
    have hm := Mc.hp
    clear h0 h1 df hdua
    -- the mate
    dsimp only [tNext]
    refine join_asg (fun v H' => ∃ q o' i' m', v = .ref q ∧ H' q = some (.lst [.str o', .str i', .str m']) ∧ q ≠ b ∧ Right3 o' i' m' ∧ But b Hc H' ∧ Bag H' b (n + 121)) (fun Q' fin => ?_) ?_
    · have sq := SqL.of (K := K) hp
      refine ⟨_, rfl, _, rfl, p, _, _, _, rfl, rfl, sq, rfl, _, rfl, p, _, _, _, rfl, rfl, sq, rfl, _, rfl, p, _, _, _, rfl, rfl, sq, rfl, by show 3 ≤ sizeLine; decide, fun l2 n2 => ?_⟩
      have s2 := same_new (o := .lst [.str i, .str o, .str m]) n2
      have sq2 := SqL.of (K := K) (s2 _ _ hp)
      refine ⟨_, rfl, p, _, _, _, rfl, rfl, sq2, rfl, _, rfl, p, _, _, _, rfl, rfl, sq2, rfl, _, rfl, pm, _, _, _, rfl, rfl, SqL.of (s2 _ _ hm), rfl, by show 3 ≤ sizeLine; decide, fun l3 n3 => ?_⟩
      have s3 := same_new (o := .lst [.str o, .str i, .str m2]) n3
      refine ⟨_, rfl, by show 4 ≤ sizeLine; decide, fun l4 n4 => ?_⟩
      have s4 := same_new (o := .lst [.ref p, .ref l2, .ref l3, .ref pm]) n4
      have s24 := (s2.trans s3).trans s4
      have h2 := s4 _ _ (s3 _ _ (upd_same (H := Hc) (a := l2) (o := .lst [.str i, .str o, .str m])))
      have h3 := s4 _ _ (upd_same (H := upd Hc l2 (.lst [.str i, .str o, .str m])) (a := l3) (o := .lst [.str o, .str i, .str m2]))
      have l2b : l2 ≠ b := bc.ne_none n2
      have l3b : l3 ≠ b := (bc.same s2).ne_none n3
      have l4b : l4 ≠ b := ((bc.same s2).same s3).ne_none n4
      refine ⟨_, rfl, b, 4, n + 120, rfl, bc.same s24, by omega, by decide, m_small (by decide) (by decide), fun r Hd ud bd r0 r1 => ?_⟩
      have h4 := ud _ _ l4b upd_same
      have go : ∀ q o' i' m', Hd q = some (.lst [.str o', .str i', .str m']) → q ≠ b → Right3 o' i' m' → Q' (.ref q) Hd := fun q o' i' m' e qb rr => fin _ _ ⟨q, o', i', m', rfl, e, qb, rr, (But.of s24).trans ud, bd⟩
      rcases (show r = 0 ∨ r = 1 ∨ r = 2 ∨ r = 3 by omega) with rfl | rfl | rfl | rfl
      · exact ⟨l4, _, _, _, rfl, rfl, SqL.of h4, rfl, go p o i m (ud _ _ pb (s24 _ _ hp)) pb R1⟩
      · exact ⟨l4, _, _, _, rfl, rfl, SqL.of h4, rfl, go l2 i o m (ud _ _ l2b h2) l2b ⟨ik, ok, ak⟩⟩
      · exact ⟨l4, _, _, _, rfl, rfl, SqL.of h4, rfl, go l3 o i m2 (ud _ _ l3b h3) l3b ⟨ok, ik, ak2⟩⟩
      · exact ⟨l4, _, _, _, rfl, rfl, SqL.of h4, rfl, go pm o2 i2 m2 (ud _ _ pmb (s24 _ _ hm)) pmb ⟨ok2, ik2, ak2⟩⟩
    rintro _ Hd ⟨q, o', i', m', rfl, hq, qb, R2, ud, bd⟩
    have hpd := ud _ _ pb hp
    have Td := tabs_but Tc bc ud
    have yd := yc.trans (ExtB.of ud)
    clear hp hm Lc Mc Tc yc ud bc
    -- two rows
    have sqp := SqL.of (K := K) hpd
    refine ⟨_, rfl, p, _, _, _, rfl, rfl, sqp, rfl, _, rfl, p, _, _, _, rfl, rfl, sqp, rfl, _, rfl, p, _, _, _, rfl, rfl, sqp, rfl, fun x dx nx nd ne => row_new R1 nx nd ne fun He se rowx => ⟨rfl, ?_⟩⟩
    have sqq := SqL.of (K := K) (se _ _ hq)
    refine ⟨_, rfl, q, _, _, _, rfl, rfl, sqq, rfl, _, rfl, q, _, _, _, rfl, rfl, sqq, rfl, _, rfl, q, _, _, _, rfl, rfl, sqq, rfl, fun z dz nz ndz nez => row_new R2 nz ndz nez fun Hf sf rowz => ⟨rfl, _, _, rfl, ?_⟩⟩
    have sdf := se.trans sf
    have rowx := rowx.same sf
    have hpf := sdf _ _ hpd
    have hqf := sdf _ _ hq
    have bf := bd.same sdf
    have Tf := Td.ext sdf
    have yf := yd.trans (ExtB.of (But.of sdf))
    clear hpd hq bd Td yd sdf se sf sqp sqq nx nd ne nz ndz nez
    -- a value that is no row
    dsimp only
    refine join_asg (fun v H' => NoRow K C CK H' v ∧ But b Hf H' ∧ Bag H' b (n + 122)) (fun Q' fin => ?_) ?_
    · have sq := SqL.of (K := K) hpf
      refine ⟨_, rfl, p, _, _, _, rfl, rfl, sq, rfl, _, rfl, p, _, rfl, .inl ⟨sq, fun t1 n1 => ?_⟩⟩
      have s1 := same_new (o := .tup [.str o, .str i, .str m]) n1
      refine ⟨_, rfl, p, _, rfl, .inl (SqL.of (s1 _ _ hpf)), fun t2 n2 => ?_⟩
      have s2 := s1.trans (same_new (o := .lst [.str o, .str i, .str m]) n2)
      have g1 := same_new (o := .lst [.str o, .str i, .str m]) n2 _ _ (upd_same (H := Hf) (a := t1) (o := .tup [.str o, .str i, .str m]))
      have g2 := upd_same (H := upd Hf t1 (.tup [.str o, .str i, .str m])) (a := t2) (o := .lst [.str o, .str i, .str m])
      have t2b : t2 ≠ b := (bf.same s1).ne_none n2
      generalize hx : upd (upd Hf t1 _) t2 _ = Hg at s2 g1 g2 ⊢
      refine ⟨_, rfl, p, _, _, _, rfl, rfl, SqL.of (s2 _ _ hpf), rfl, fun k dk nk ndk nek => kind_plain R1.ok nk ndk nek fun Hh dzk ptk sh hk => ⟨rfl, ?_⟩⟩
      have s3 := s2.trans sh
      have ls : ([o, i, m].map (·.length)).sum + [o, i, m].length * (Str.ofString " ").length ≤ 16777216 := by
        have l1 := (Tag.of R1.ok).2
        have l2 := (Tag.of R1.ik).2
        have l3 := (amts_str m R1.ak).2
        have l4 : (Str.ofString " ").length = 1 := by decide +kernel
        simp [l4]
        omega
      refine ⟨⟨_, rfl⟩, _, rfl, _, p, [o, i, m], rfl, rfl, .inl (SqL.of (s3 _ _ hpf)), ls, by show 6 ≤ sizeLine; decide, fun L nL => ?_⟩
      have s4 := same_new (o := .lst [.str o, .ref t1, .ref t2, .non, .ref k, .str (Txt.join (Str.ofString " ") [o, i, m])]) nL
      have s34 := s3.trans s4
      have Lb : L ≠ b := (bf.same s3).ne_none nL
      refine ⟨_, rfl, b, 6, n + 121, rfl, bf.same s34, by omega, by decide, m_small (by decide) (by decide), fun r Hi ui bi r0 r1 => ?_⟩
      have hL := ui _ _ Lb upd_same
      have no : ∀ {a : Addr} {ob : HO}, Hh a = some ob → (∀ xs, ob ≠ .lst xs) → Hi a = some ob := fun {a ob} e ne => by
        refine ui _ _ (fun z => ?_) (s4 _ _ e)
        obtain ⟨_, _, _, hb, _⟩ := bf.same s3
        rw [z, hb] at e
        exact ne _ (Option.some.inj e).symm
      have i1 := no (sh _ _ g1) (by intro xs z; cases z)
      have i2 := ui _ _ t2b (s4 _ _ (sh _ _ g2))
      have i3 := no hk (by intro xs z; cases z)
      have go : ∀ v, NoRow K C CK Hi v → Q' v Hi := fun v h => fin _ _ ⟨h, (But.of s34).trans ui, bi⟩
      rcases (show r = 0 ∨ r = 1 ∨ r = 2 ∨ r = 3 ∨ r = 4 ∨ r = 5 by omega) with rfl | rfl | rfl | rfl | rfl | rfl
      · exact ⟨L, _, _, _, rfl, rfl, SqL.of hL, rfl, go _ (.inl ⟨_, kn.u4, fun H' s' => ⟨.str _, .base (.str _)⟩⟩)⟩
      · exact ⟨L, _, _, _, rfl, rfl, SqL.of hL, rfl, go _ (.inl ⟨_, kn.u6, fun H' s' => ⟨.tup _ _ (SqT.of (s' _ _ i1)), .base (.tup (s' _ _ i1))⟩⟩)⟩
      · exact ⟨L, _, _, _, rfl, rfl, SqL.of hL, rfl, go _ (.inl ⟨_, kn.u5, fun H' s' => ⟨.lst _ _ (s' _ _ i2), .base (.lst (s' _ _ i2))⟩⟩)⟩
      · exact ⟨L, _, _, _, rfl, rfl, SqL.of hL, rfl, go _ (.inl ⟨_, kn.u1, fun H' s' => ⟨.non, .base .non⟩⟩)⟩
      · exact ⟨L, _, _, _, rfl, rfl, SqL.of hL, rfl, go _ (.inr ⟨k, dzk, ptk, rfl, i3⟩)⟩
      · exact ⟨L, _, _, _, rfl, rfl, SqL.of hL, rfl, go _ (.inl ⟨_, kn.u4, fun H' s' => ⟨.str _, .base (.str _)⟩⟩)⟩
    rintro odd Hi ⟨ho, ui, bi⟩
    have nob : ∀ {a : Addr} {ob : HO}, Hf a = some ob → (∀ xs, ob ≠ .lst xs) → Hi a = some ob := fun {a ob} e ne => by
      refine ui _ _ (fun z => ?_) e
      obtain ⟨_, _, _, hb, _⟩ := bf
      rw [z, hb] at e
      exact ne _ (Option.some.inj e).symm
    have rowb : ∀ {x : Addr} {o i m : Str}, TxtRow C Hf x o i m → TxtRow C Hi x o i m := fun {x o i m} h => by
      obtain ⟨dx, pt, h1, h2⟩ := h.at_
      exact ⟨⟨dx, pt, nob h1 (by intro xs z; cases z), nob h2 (by intro xs z; cases z)⟩, h.fo, h.fi, h.fm⟩
    have rowx := rowb rowx
    have rowz := rowb rowz
    have hpi := ui _ _ pb hpf
    have hqi := ui _ _ qb hqf
    have Ti := tabs_but Tf bf ui
    have yi := yf.trans (ExtB.of ui)
    clear rowb nob ui Tf yf bf hpf hqf
    have ff : ∀ {o i m : Str}, FitAll (trip o i m) 1 183 → Fit (.list (trip o i m)) 2 183 := fun h => Fit.list h
    have dpt : ∀ {H : Hp} {a : Addr} {o i m : Str}, H a = some (.lst [.str o, .str i, .str m]) → Dp K H (.ref a) (.list (trip o i m)) := fun e => .lst (SqL.of e) (.cons (.str _) (.cons (.str _) (.cons (.str _) .nil)))
    refine ⟨_, rfl, _, rfl, x, o, i, m, _, rfl, rowx, .inl ⟨z, o', i', m', rfl, rowz, fun Hj sj => ?_⟩⟩
    refine ⟨_, rfl, _, rfl, _, _, dpt (sj _ _ hpi), dpt (sj _ _ hqi), (ff rowx.fit).shaped (by decide), (ff rowz.fit).shaped (by decide), rfl, _, rfl, ?_⟩
    refine ifT (by rfl) ?_
    have last : ∀ Hk, Same Hi Hk → tOp (rEqD K) (tCall (sp_rshown C) [] E0 (tCons (tVar 6) tNil)) (tVar 1) [some (.ref b), some (.ref p), some (.ref q), some (.ref du), some (.str (PyData.list [.str o, .str i, .str m]).shown), some (.ref tl2), some (.ref x), some (.ref z), some odd] Hk Q := fun Hk sk =>
      ⟨_, rfl, x, _, _, _, rfl, (rowx.same sk).at_, fun r nr => ⟨_, rfl, .list (trip o i m), .list (trip o i m), dpt upd_same, dpt (same_new nr _ _ (sk _ _ hpi)), (ff rowx.fit).shaped (by decide), (ff rowx.fit).shaped (by decide), by
        rw [(ff rowx.fit).eqv]
        exact ret _ (yi.trans (ExtB.of (But.of (sk.trans (same_new nr))))) ((bi.same (sk.trans (same_new nr))).mono (by omega)) (Ti.ext (sk.trans (same_new nr)))⟩⟩
    rcases ho with ⟨T', h1, h2⟩ | ⟨z', dz', pt', rfl, hz'⟩
    · exact ⟨_, rfl, _, rfl, x, o, i, m, _, rfl, rowx.same sj, .inr (.inl ⟨T', (h2 _ sj).1, (h2 _ sj).2, h1, fun Hk sk => ⟨_, _, rfl, rfl, _, rfl, iteT (last Hk (sj.trans sk))⟩⟩)⟩
    · refine ⟨_, rfl, _, rfl, x, o, i, m, _, rfl, rowx.same sj, .inr (.inr ⟨z', dz', pt', rfl, sj _ _ hz', fun Hk sk => ⟨_, _, rfl, rfl, _, rfl, iteT (last Hk (sj.trans sk))⟩⟩)⟩
end L
namespace Hv
open PySem L2
theorem due1 : dueR (.str (Str.ofString "A")) (.str (Str.ofString "B")) (.str (Str.ofString "c")) = [Str.ofString "InvalidName", Str.ofString "'A'"] := by decide +kernel
theorem due2 : dueR (.str (Str.ofString "a")) (.str (Str.ofString "B")) (.str (Str.ofString "c")) = [Str.ofString "InvalidName", Str.ofString "'B'"] := by decide +kernel
theorem due3 : dueR (.str (Str.ofString "free")) (.str (Str.ofString "each")) (.str (Str.ofString "each 4")) = [Str.ofString "InvalidAmount", Str.ofString "'each 4'"] := by decide +kernel
def sp_law (K : PySem.W.Frag) (Tb : List (Addr × Str)) : Sp := fun vs H Q _ => ∃ (a : Addr) (ns : List Int), vs = [.ref a] ∧ SqL K H a (ns.map V.int) ∧ ns.length ≤ 63 ∧ (∀ z ∈ ns, Builtin.Int.intBits z ≤ 1048576) ∧ LamX.Tabs Tb H ∧ ∀ H', Q (.bl true) H'
/-- a list is put in the place of a list -/
theorem tabs_put {T : List (Addr × Str)} {H : Hp} {L : Addr} {xs ys : List V} (t : LamX.Tabs T H) (hL : H L = some (.lst xs)) : LamX.Tabs T (upd H L (.lst ys)) := by
  intro p hp
  obtain ⟨ps, z1, z2, z3⟩ := t p hp
  refine ⟨ps, by rw [upd_ne (ne_of z1 hL (by intro q; cases q))]; exact z1, z2, fun pos cv hc => ?_⟩
  obtain ⟨cc, e1, e2⟩ := z3 pos cv hc
  exact ⟨cc, e1, by rw [upd_ne (ne_of e2 hL (by intro q; unfold LamX.CodeO at q; cases q))]; exact e2⟩
mutual
theorem Dq.dp {K : PySem.W.Frag} {b : Addr} {H : Hp} : ∀ {d : PyData} {v : V}, Dq K b H v d → d.canLay0 = true → Dp K H v d
  | _, _, .non, _ => .non
  | _, _, .bl k, _ => .bl k
  | _, _, .int i, _ => .int i
  | _, _, .str z, _ => .str z
  | _, _, .lst h _ t, c => .lst (SqL.of h) (DqAll.dp t (by simpa [PyData.canLay0] using c))
  | _, _, .tup h t, c => .tup (SqT.of h) (DqAll.dp t (by simpa [PyData.canLay0] using c))
  | _, _, .emp _, c => by simp [PyData.canLay0] at c
theorem DqAll.dp {K : PySem.W.Frag} {b : Addr} {H : Hp} : ∀ {ds : List PyData} {vs : List V}, DqAll K b H vs ds → PyData.canLayAll0 ds = true → DpAll K H vs ds
  | _, _, .nil, _ => .nil
  | _, _, .cons h t, c => by
    simp only [PyData.canLayAll0, Bool.and_eq_true] at c
    exact .cons (Dq.dp h c.1) (DqAll.dp t c.2)
end
def rowsD (j : Nat) : List PyData := (AMTS.take j).map fun z => .list [.str (Str.ofString "a"), .str (Str.ofString "a"), .str z]
theorem rows_succ {j : Nat} {z : Str} (h : AMTS[j]? = some z) : rowsD (j + 1) = rowsD j ++ [.list [.str (Str.ofString "a"), .str (Str.ofString "a"), .str z]] := by
  unfold rowsD
  rw [List.take_succ, h, List.map_append]
  rfl
theorem rows_lay : SeqAt.shaped (.list (rowsD 8)) = true ∧ PyData.eqv (.list (rowsD 8)) (.list (rowsD 8)) = true := by decide +kernel
theorem rows_lay2 : PyData.canLayAll0 (rowsD 8) = true := by decide +kernel
/-- the list D grows by a new list r of data -/
theorem grow {K : PySem.W.Frag} {D r : Addr} {H0 H1 : Hp} {vs ws : List V} {ds es : List PyData} (hD : H0 D = some (.lst vs)) (q : DqAll K D H0 vs ds) (s : Same H0 H1) (nr : H1 r = none) (e : ∀ H', Same H1 H' → DqAll K D H' ws es) :
    upd H1 r (.lst ws) D = some (.lst vs) ∧ DqAll K D (upd (upd H1 r (.lst ws)) D (.lst (vs ++ [.ref r]))) (vs ++ [.ref r]) (ds ++ [.list es]) := by
  have s2 := s.trans (same_new (o := .lst ws) nr)
  have rD : r ≠ D := (ne_of_none (s _ _ hD) nr).symm
  have hD2 := s2 _ _ hD
  refine ⟨hD2, ?_⟩
  have q2 := q.same s2
  have e2 : Dq K D (upd H1 r (.lst ws)) (.ref r) (.list es) := .lst upd_same rD (e _ (same_new nr))
  exact DqAll.put hD2 (DqAll.app (.cons e2 .nil) q2) (DqAll.app (.cons e2 .nil) q2)
end Hv
namespace L
open PySem L2 Hv
variable {P : Program} {w : World} {K : PySem.W.Frag} {mg : Str → Option Value} {base : Heap}
abbrev s_law : Stmt := top 76
abbrev N_law : List Str := ["_law_script", "_law_told", "_law_k", "_law_bag_here", "_law_term", "_law_turn"]
abbrev P_law : List Str := ["_law_script"]
theorem sc_law : FnScope N_law P_law (defScope s_law) := ⟨rfl, rfl, rfl, by decide +kernel, rfl, by decide +kernel, by decide +kernel⟩
abbrev qL : Str := (PyProof.Rows.envOfC "law" (defScope s_law) 0 0 .none).qual
theorem ok_law {C f f1 f2 f3 f4 f5 f7 f8 f9 fI cL PL : Addr} {fd fd1 fd2 fd3 fd4 fd5 fd7 fd8 fd9 fdI : FuncData} {c : Nat → Addr} {Tb : List (Addr × Str)} (D : Fun K "law" "law" s_law f fd) (T : Txt K mg) (EN : ErrNames mg c) (hcode : fd.code = .ref cL) (TB : LamX.TabB base mg cL PL)
    (hmT : (PL, qL ++ "<lambda>") ∈ Tb) (hu : ∀ p ∈ Tb, p.1 = PL → p.2 = qL ++ "<lambda>") (EX0 : ErrIx K c 0) (EX6 : ErrIx K c 6) (TR : OwnTxt K mg "Row" C)
    (D_bag : DefAt K mg "_law_bag" s_bag P_bag f1 fd1) (D_seed : DefAt K mg "_law_seed" s_seed P_seed f2 fd2) (D_amounts : DefAt K mg "_law_amounts" s_amounts P_amounts f3 fd3) (D_shown : DefAt K mg "_law_shown" s_shown P_shown f4 fd4) (G_shown : FnOk P w K mg base CX0 3 f4 fd4 P_shown (sp_rshown C))
    (D_right : DefAt K mg "_law_right" s_right P_right f5 fd5) (G_right : OkG P w K mg base CX0 10 f5 fd5 P_right (sp_right K Tb)) (D_caught : DefAt K mg "_law_caught" s_caught P_caught f7 fd7)
    (D_sort : DefAt K mg "_law_sort" s_sort P_sort f8 fd8) (G_sort : FnP P w K mg base 2 f8 fd8 P_sort (sp_sort K c)) (D_held : DefAt K mg "_law_held" s_held P_held f9 fd9) (G_held : FnP P w K mg base 1 f9 fd9 P_held (sp_held K c))
    (M_Row : Mk K C fI) (D_Row_init : MethAt K C "__init__" "Row.__init__" s_Row_init P_Row_init fI fdI) (G_Row_initX : FnOk P w K mg base (L2.CX P w) 3 fI fdI P_Row_init (sp_row_initX K c C)) : OkG P w K mg base CX0 11 f fd P_law (sp_law K Tb) := by
  have G_bag : FnOk P w K mg base CX0 1 f1 fd1 P_bag sp_bag := ok_bag D_bag T
  have G_seed : FnOk P w K mg base CX0 1 f2 fd2 P_seed (sp_seed K) := ok_seed D_seed T
  have G_amounts : FnOk P w K mg base CX0 1 f3 fd3 P_amounts sp_amounts := ok_amounts D_amounts
  have G_Row_init := Hv.FnOk.calm G_Row_initX
  have G_Row_initX := fn_lk G_Row_initX
  refine okGc D sc_law hcode (fun vs H Q E h => ?_) (fun A outer s H vs Q E hG hr h => ?_)
  · obtain ⟨a, ns, rfl, _⟩ := h
    rfl
  · obtain ⟨a, ns, rfl, hS, hlen, bits, hT, ret⟩ := h
    refine ⟨_, (pss_cons (ps_asg (pe_lst (pa_cons (pe_caught (k := 5) (hr.mono (by decide)) hG T EN D_caught D_sort G_sort D_held G_held rfl TB rfl hmT hu (LamX.lamS_by (sc := defScope s_law) (by decide +kernel)) rfl (fun _ _ _ _ _ => rfl) (fun A1 outer1 s1 H1 E1 f1 c1 hr1 => (pe_make (E := E1) M_Row G_Row_initX (hr1.mono (by decide)) rfl TR.mg D_Row_init.bd .nil (passes_call (takes_of rfl rfl rfl rfl) (fun _ _ _ _ z => z)) (pa_cons pe_str (pa_cons pe_str (pa_cons pe_str pa_nil)))))) pa_nil)) (pg_name (i := 1) sc_law.nd rfl (.inl rfl)))
      (pss_cons (ps_expr (pe_bm PySem.F.plainAttrs_list PySem.F.slot_list_append PySem.F.type_list_append mt_append (pv 1) (pa_cons (pe_caught (k := 5) (hr.mono (by decide)) hG T EN D_caught D_sort G_sort D_held G_held rfl TB rfl hmT hu (LamX.lamS_by (sc := defScope s_law) (by decide +kernel)) rfl (fun _ _ _ _ _ => rfl) (fun A1 outer1 s1 H1 E1 f1 c1 hr1 => (pe_make (E := E1) M_Row G_Row_initX (hr1.mono (by decide)) rfl TR.mg D_Row_init.bd .nil (passes_call (takes_of rfl rfl rfl rfl) (fun _ _ _ _ z => z)) (pa_cons pe_str (pa_cons pe_str (pa_cons pe_str pa_nil)))))) pa_nil)))
      (pss_cons (ps_expr (pe_bm PySem.F.plainAttrs_list PySem.F.slot_list_append PySem.F.type_list_append mt_append (pv 1) (pa_cons (pe_caught (k := 5) (hr.mono (by decide)) hG T EN D_caught D_sort G_sort D_held G_held rfl TB rfl hmT hu (LamX.lamS_by (sc := defScope s_law) (by decide +kernel)) rfl (fun _ _ _ _ _ => rfl) (fun A1 outer1 s1 H1 E1 f1 c1 hr1 => (pe_make (E := E1) M_Row G_Row_initX (hr1.mono (by decide)) rfl TR.mg D_Row_init.bd .nil (passes_call (takes_of rfl rfl rfl rfl) (fun _ _ _ _ z => z)) (pa_cons pe_str (pa_cons pe_str (pa_cons pe_str pa_nil)))))) pa_nil)))
      (pss_cons (ps_if (pt_cmpR (op_neD hr.units) (pv 1) (pe_lst (pa_cons (pe_lst (pa_cons pe_str (pa_cons pe_str pa_nil))) (pa_cons (pe_lst (pa_cons pe_str (pa_cons pe_str pa_nil))) (pa_cons (pe_lst (pa_cons pe_str (pa_cons pe_str pa_nil))) pa_nil)))) (nomark _))
      (pss_one (ps_ret pe_bl))
      pss_nil)
      (pss_cons (ps_if (pt_cmpR (op_neD hr.units) (pe_lc (own := [("_law_term", 4)]) (g := gName 4) rfl sc_law.nd (pi_list (pe_call0 G_amounts (hr.mono (by decide)) rfl D_amounts.mg D_amounts.fn.kp D_amounts.bd .nil pass0)) (blkOk_by (own := [("_law_term", 4)]) (N := N_law) (sc := defScope s_law) (by decide +kernel)) (fun _ _ _ _ _ => (pg_name (i := 4) sc_law.nd rfl (.inl rfl))) (fun _ _ _ _ _ => pts_nil) (fun _ _ _ _ _ => (pe_call G_shown (hr.mono (by decide)) rfl D_shown.mg D_shown.fn.kp D_shown.bd .nil pass0 (pa_cons (pe_make M_Row G_Row_init (hr.mono (by decide)) rfl TR.mg D_Row_init.bd .nil pass0 (pa_cons pe_str (pa_cons pe_str (pa_cons (pv 4) pa_nil)))) pa_nil)))) (pe_lc (own := [("_law_term", 4)]) (g := gName 4) rfl sc_law.nd (pi_list (pe_call0 G_amounts (hr.mono (by decide)) rfl D_amounts.mg D_amounts.fn.kp D_amounts.bd .nil pass0)) (blkOk_by (own := [("_law_term", 4)]) (N := N_law) (sc := defScope s_law) (by decide +kernel)) (fun _ _ _ _ _ => (pg_name (i := 4) sc_law.nd rfl (.inl rfl))) (fun _ _ _ _ _ => pts_nil) (fun _ _ _ _ _ => (pe_lst (pa_cons pe_str (pa_cons pe_str (pa_cons (pv 4) pa_nil)))))) (nomark _))
      (pss_one (ps_ret pe_bl))
      pss_nil)
      (pss_cons (ps_for PassesOwn.never rfl (pi_range1 (by rfl) T.range (pa_cons (pe_callB (call_max2 rfl) (by rfl) T.max (by decide +kernel) (pa_cons pe_int (pa_cons (pe_callB (call_min2 rfl) (by rfl) T.min (by decide +kernel) (pa_cons (pe_callB call_len_seq (by rfl) T.len (by decide +kernel) (pa_cons (pv 0) pa_nil)) (pa_cons pe_int pa_nil))) pa_nil))) pa_nil)) (pg_name (i := 2) sc_law.nd rfl (.inl rfl))
      (pss_cons (ps_asg (pe_call G_bag (hr.mono (by decide)) rfl D_bag.mg D_bag.fn.kp D_bag.bd .nil pass0 (pa_cons (pe_call G_seed (hr.mono (by decide)) rfl D_seed.mg D_seed.fn.kp D_seed.bd .nil pass0 (pa_cons (pv 0) (pa_cons (pv 2) pa_nil))) pa_nil)) (pg_name (i := 3) sc_law.nd rfl (.inr rfl)))
      (pss_one (ps_if (pt_not (pt_val (pe_callB (cr_all rfl) (by rfl) T.all (by decide +kernel) (pa_cons (pe_lc (own := [("_law_turn", 5)]) (g := gName 5) rfl sc_law.nd (pi_range1 (by rfl) T.range (pa_cons pe_int pa_nil)) (blkOk_by (own := [("_law_turn", 5)]) (N := N_law) (sc := defScope s_law) (by decide +kernel)) (fun _ _ _ _ _ => (pg_name (i := 5) sc_law.nd rfl (.inl rfl))) (fun _ _ _ _ _ => pts_nil) (fun _ _ _ _ _ => (pe_callG G_right hG (hr.mono (by decide)) rfl D_right.mg D_right.fn.kp D_right.bd .nil pass0 (pa_cons (pv 3) pa_nil)))) pa_nil))))
      (pss_one (ps_ret pe_bl))
      pss_nil))))
      (pss_one (ps_ret pe_bl)))))))), ?_⟩
    refine ⟨hT, fun H2 x2 T2 => fun x dx nx nd ne => row_lit (by decide +kernel) (by decide +kernel) (by decide +kernel) due1 EX0 EX6 (fun p1 H3 p10 s3 hp1 => ?_) x dx nx nd ne⟩
    refine ⟨by show 1 ≤ sizeLine; decide, fun L nL => ?_⟩
    have p1L : p1 ≠ L := ne_of_none hp1 nL
    have s4 := s3.trans (same_new (o := .lst [.ref p1]) nL)
    have hp4 := same_new (o := .lst [.ref p1]) nL _ _ hp1
    refine ⟨_, rfl, .inl ⟨rfl, _, SqL.of upd_same⟩, T2.ext s4, fun H5 x5 T5 => ?_⟩
    have hL5 := x5 _ _ (upd_same (H := H3) (a := L) (o := .lst [.ref p1])) (by intro ps q; cases q)
    have hp5 := x5 _ _ hp4 (by intro ps q; cases q)
    refine fun x dx nx nd ne => row_lit (by decide +kernel) (by decide +kernel) (by decide +kernel) due2 EX0 EX6 (fun p2 H6 p20 s6 hp2 => ?_) x dx nx nd ne
    have hL6 := s6 _ _ hL5
    have p2L : p2 ≠ L := (ne_of_none hL5 p20).symm
    refine ⟨L, _, _, rfl, rfl, hL6, by show 1 < sizeLine; decide, ?_⟩
    have T7 : LamX.Tabs Tb (upd H6 L (.lst ([.ref p1] ++ [.ref p2]))) := tabs_put (T5.ext s6) hL6
    have hp17 : upd H6 L (.lst ([.ref p1] ++ [.ref p2])) p1 = some (.lst [.str (Str.ofString "InvalidName"), .str (Str.ofString "'A'")]) := by rw [upd_ne p1L]; exact s6 _ _ hp5
    have hp27 : upd H6 L (.lst ([.ref p1] ++ [.ref p2])) p2 = some (.lst [.str (Str.ofString "InvalidName"), .str (Str.ofString "'B'")]) := by rw [upd_ne p2L]; exact hp2
    have hL7 : upd H6 L (.lst ([.ref p1] ++ [.ref p2])) L = some (.lst [.ref p1, .ref p2]) := upd_same
    have old7 : ∀ d o, H d = some o → (∀ ps, o ≠ .tbl ps) → upd H6 L (.lst ([.ref p1] ++ [.ref p2])) d = some o := fun d o e nt => by
      have e3 := s3 _ _ (x2 _ _ e nt)
      rw [upd_ne (ne_of_none e3 nL)]
      exact s6 _ _ (x5 _ _ (same_new nL _ _ e3) nt)
    generalize upd H6 L _ = H7 at T7 hp17 hp27 hL7 old7 ⊢
    refine ⟨_, rfl, .inl ⟨rfl, _, SqL.of hL7⟩, T7, fun H8 x8 T8 => ?_⟩
    refine fun x dx nx nd ne => row_lit (by decide +kernel) (by decide +kernel) (by decide +kernel) due3 EX0 EX6 (fun p3 H9 p30 s9 hp3 => ?_) x dx nx nd ne
    have hL8 := x8 _ _ hL7 (by intro ps q; cases q)
    have hL9 := s9 _ _ hL8
    have p3L : p3 ≠ L := (ne_of_none hL8 p30).symm
    refine ⟨L, _, _, rfl, rfl, hL9, by show 2 < sizeLine; decide, ?_⟩
    have Tx : LamX.Tabs Tb (upd H9 L (.lst ([.ref p1, .ref p2] ++ [.ref p3]))) := tabs_put (T8.ext s9) hL9
    have g1 : upd H9 L (.lst ([.ref p1, .ref p2] ++ [.ref p3])) p1 = some (.lst [.str (Str.ofString "InvalidName"), .str (Str.ofString "'A'")]) := by rw [upd_ne p1L]; exact s9 _ _ (x8 _ _ hp17 (by intro ps q; cases q))
    have g2 : upd H9 L (.lst ([.ref p1, .ref p2] ++ [.ref p3])) p2 = some (.lst [.str (Str.ofString "InvalidName"), .str (Str.ofString "'B'")]) := by rw [upd_ne p2L]; exact s9 _ _ (x8 _ _ hp27 (by intro ps q; cases q))
    have g3 : upd H9 L (.lst ([.ref p1, .ref p2] ++ [.ref p3])) p3 = some (.lst [.str (Str.ofString "InvalidAmount"), .str (Str.ofString "'each 4'")]) := by rw [upd_ne p3L]; exact hp3
    have g4 : upd H9 L (.lst ([.ref p1, .ref p2] ++ [.ref p3])) L = some (.lst [.ref p1, .ref p2, .ref p3]) := upd_same
    have oldx : ∀ d o, H d = some o → (∀ ps, o ≠ .tbl ps) → upd H9 L (.lst ([.ref p1, .ref p2] ++ [.ref p3])) d = some o := fun d o e nt => by
      have e3 := s3 _ _ (x2 _ _ e nt)
      rw [upd_ne (ne_of_none e3 nL)]
      exact s9 _ _ (x8 _ _ (old7 _ _ e nt) nt)
    generalize upd H9 L _ = Hx at Tx g1 g2 g3 g4 oldx ⊢
    have hSx : SqL K Hx a (ns.map V.int) := ext_seq oldx hS
    clear oldx old7
    dsimp only
    refine join_no (fun H' => Same Hx H') (fun Q' fin => ?_) ?_
    · refine ⟨_, rfl, by show 2 ≤ sizeLine; decide, fun y1 m1 => ⟨by show 2 ≤ sizeLine; decide, fun y2 m2 => ⟨by show 2 ≤ sizeLine; decide, fun y3 m3 => ⟨by show 3 ≤ sizeLine; decide, fun y4 m4 => ?_⟩⟩⟩⟩
      have z1 := same_new (o := .lst [.str (Str.ofString "InvalidName"), .str (Str.ofString "'A'")]) m1
      have z2 := same_new (o := .lst [.str (Str.ofString "InvalidName"), .str (Str.ofString "'B'")]) m2
      have z3 := same_new (o := .lst [.str (Str.ofString "InvalidAmount"), .str (Str.ofString "'each 4'")]) m3
      have z4 := same_new (o := .lst [.ref y1, .ref y2, .ref y3]) m4
      have z := ((z1.trans z2).trans z3).trans z4
      refine ⟨.list [.list [.str (Str.ofString "InvalidName"), .str (Str.ofString "'A'")], .list [.str (Str.ofString "InvalidName"), .str (Str.ofString "'B'")], .list [.str (Str.ofString "InvalidAmount"), .str (Str.ofString "'each 4'")]],
        .list [.list [.str (Str.ofString "InvalidName"), .str (Str.ofString "'A'")], .list [.str (Str.ofString "InvalidName"), .str (Str.ofString "'B'")], .list [.str (Str.ofString "InvalidAmount"), .str (Str.ofString "'each 4'")]],
        .lst (SqL.of (z _ _ g4)) (.cons (.lst (SqL.of (z _ _ g1)) (.cons (.str _) (.cons (.str _) .nil))) (.cons (.lst (SqL.of (z _ _ g2)) (.cons (.str _) (.cons (.str _) .nil))) (.cons (.lst (SqL.of (z _ _ g3)) (.cons (.str _) (.cons (.str _) .nil))) .nil))),
        .lst (SqL.of upd_same) (.cons (.lst (SqL.of (z4 _ _ (z3 _ _ (z2 _ _ upd_same)))) (.cons (.str _) (.cons (.str _) .nil))) (.cons (.lst (SqL.of (z4 _ _ (z3 _ _ upd_same))) (.cons (.str _) (.cons (.str _) .nil))) (.cons (.lst (SqL.of (z4 _ _ upd_same)) (.cons (.str _) (.cons (.str _) .nil))) .nil))),
        by decide +kernel, by decide +kernel, _, rfl, fin _ _ (by decide +kernel) z⟩
    intro Hy sy
    have hSy : SqL K Hy a (ns.map V.int) := sy.seq hSx
    have Ty := Tx.ext sy
    clear g1 g2 g3 g4 Tx hSx sy
    -- all amounts
    refine join_no (fun H' => Same Hy H') (fun Q' fin => ?_) ?_
    · refine ⟨rfl, fun pa npa => ⟨pa, rfl, ⟨_, SqL.of upd_same⟩, fun C1 nC1 => ?_⟩⟩
      have e0 : ∀ (j : Nat) (x : V), (AMTS.map V.str)[j]? = some x → ∃ z, AMTS[j]? = some z ∧ x = .str z := fun j x h => by
        rw [List.getElem?_map] at h
        cases q : AMTS[j]? with
        | none => rw [q] at h; cases h
        | some y => rw [q] at h; cases h; exact ⟨y, rfl, rfl⟩
      have an : nameOk (Str.ofString "a") = true := by decide +kernel
      have sz : ∀ {j : Nat} {z : Str}, AMTS[j]? = some z → j < sizeLine := fun {j z} h => by
        have h1 : j < AMTS.length := by
          rcases Nat.lt_or_ge j AMTS.length with q | q
          · exact q
          · rw [List.getElem?_eq_none q] at h; cases h
        have : AMTS.length = 8 := rfl
        have : 8 < sizeLine := by decide
        omega
      refine lc_list (K := K) (a := pa) (xs := AMTS.map V.str) (fun j H' => Same (upd Hy pa (.lst (AMTS.map V.str))) H' ∧ ∃ vs, H' C1 = some (.lst vs) ∧ vs.length = j ∧ DqAll K C1 H' vs (rowsD j)) ⟨same_new nC1, [], upd_same, rfl, .nil⟩ ?_ ?_ ?_
      · rintro j H' _ ⟨s1, _⟩
        exact SqL.of (s1 _ _ upd_same)
      · rintro j x Hj hxj ⟨sj, vs, hC, vl, q⟩
        obtain ⟨z, hz, rfl⟩ := e0 j x hxj
        refine ⟨rfl, ?_⟩
        dsimp only [tYes]
        rw [if_pos rfl]
        refine ⟨_, rfl, fun x dx nx nd ne => row_new (show Right3 (Str.ofString "a") (Str.ofString "a") z from ⟨an, an, List.mem_of_getElem? hz⟩) nx nd ne fun H2 s2 row => ⟨rfl, x, _, _, _, rfl, row.at_, fun r nr => ?_⟩⟩
        obtain ⟨h1, h2⟩ := grow (es := [.str (Str.ofString "a"), .str (Str.ofString "a"), .str z]) hC q s2 nr (fun H' _ => .cons (.str _) (.cons (.str _) (.cons (.str _) .nil)))
        exact ⟨vs, h1, by rw [vl]; exact sz hz, same_put (sj.trans (s2.trans (same_new nr))) nC1, vs ++ [.ref r], upd_same, by simp [vl], by rw [rows_succ hz]; exact h2⟩
      rintro H1 ⟨s1, vs1, hC1, vl1, q1⟩
      refine ⟨rfl, fun pb npb => ⟨pb, rfl, ⟨_, SqL.of upd_same⟩, fun C2 nC2 => ?_⟩⟩
      refine lc_list (K := K) (a := pb) (xs := AMTS.map V.str) (fun j H' => Same (upd H1 pb (.lst (AMTS.map V.str))) H' ∧ ∃ vs, H' C2 = some (.lst vs) ∧ vs.length = j ∧ DqAll K C2 H' vs (rowsD j)) ⟨same_new nC2, [], upd_same, rfl, .nil⟩ ?_ ?_ ?_
      · rintro j H' _ ⟨s1, _⟩
        exact SqL.of (s1 _ _ upd_same)
      · rintro j x Hj hxj ⟨sj, vs, hC, vl, q⟩
        obtain ⟨z, hz, rfl⟩ := e0 j x hxj
        refine ⟨rfl, ?_⟩
        dsimp only [tYes]
        rw [if_pos rfl]
        refine ⟨_, rfl, by show 3 ≤ sizeLine; decide, fun r nr => ?_⟩
        obtain ⟨h1, h2⟩ := grow (es := [.str (Str.ofString "a"), .str (Str.ofString "a"), .str z]) hC q (Same.refl _) nr (fun H' _ => .cons (.str _) (.cons (.str _) (.cons (.str _) .nil)))
        exact ⟨vs, h1, by rw [vl]; exact sz hz, same_put (sj.trans (same_new nr)) nC2, vs ++ [.ref r], upd_same, by simp [vl], by rw [rows_succ hz]; exact h2⟩
      rintro H2 ⟨s2, vs2, hC2, vl2, q2⟩
      have s12 := (same_new (o := .lst (AMTS.map V.str)) npb).trans s2
      refine ⟨.list (rowsD 8), .list (rowsD 8), .lst (SqL.of (s12 _ _ hC1)) (DqAll.dp (q1.same s12) rows_lay2), .lst (SqL.of hC2) (DqAll.dp q2 rows_lay2), rows_lay.1, rows_lay.1, _, rfl, fin _ _ (by rw [rows_lay.2]; rfl) (((same_new npa).trans s1).trans s12)⟩
    intro Hz sz
    have hSz := sz.seq hSy
    have Tz := Ty.ext sz
    clear hSy Ty sz
    refine ⟨_, rfl, _, _, rfl, .inl hSz, _, _, rfl, _, _, rfl, _, rfl, ?_, ?_, for_range (lo := 0) (fun i σ' H' => ∃ v2 v3 v4 v5, σ' = [some (.ref a), some (.ref L), v2, v3, v4, v5] ∧
      SqL K H' a (ns.map V.int) ∧ LamX.Tabs Tb H') ⟨none, none, none, none, rfl, hSz, Tz⟩ ?_ ?_⟩
    · split <;> split <;> omega
    · split <;> split <;> omega
    · rintro i σ' H' hi ⟨v2, v3, v4, v5, rfl, hS1, T1⟩
      have hi' : i < 1000 := by
        refine Nat.lt_of_lt_of_le hi ?_
        split <;> split <;> omega
      refine ⟨_, rfl, _, rfl, a, ns, _, rfl, hS1, bits, by omega, by omega, fun n H2 s2 nb2 => ⟨n, rfl, nb2, fun p H3 np s3 bg => ?_⟩⟩
      refine ⟨8, rfl, by decide, by decide, fun C hC => ?_⟩
      have nCp : C ≠ p := bg.ne_none hC
      have s23 := s2.trans s3
      have C2 : H2 C = none := s3.free hC
      refine lc_range (lo := 0) (n := 8) (fun j H' => LamX.ExtN H2 H' ∧ LamX.Tabs Tb H' ∧ Bag H' p (130 * j) ∧ H' C = some (.lst (List.replicate j (.bl true))))
        ⟨LamX.ExtN.of (s3.trans (same_new hC)), T1.ext (s23.trans (same_new hC)), bg.same (same_new hC), upd_same⟩ ?_ ?_
      · rintro j H4 hj ⟨j1, j3, j4, j5⟩
        refine ⟨rfl, _, rfl, p, 130 * j, rfl, j4, by omega, j3, fun H5 e5 b5 T5 => ⟨_, e5 _ _ nCp j5 (by intro ps q; cases q), ?_, ?_⟩⟩
        · rw [List.length_replicate]
          exact Nat.lt_trans hj (by decide)
        · have hC5 := e5 _ _ nCp j5 (by intro ps q; cases q)
          refine ⟨fun d o e nt => ?_, tabs_put T5 hC5, (b5.put nCp).mono (by omega), ?_⟩
          · rw [upd_ne (ne_of_none e C2)]
            exact e5 _ _ (ne_of_none e np) (j1 _ _ e nt) nt
          · rw [upd_same, List.replicate_succ']
      rintro H4 ⟨j1, j3, j4, j5⟩
      refine ⟨C, List.replicate 8 true, rfl, SqL.of j5, _, rfl, ?_⟩
      refine iteF ?_
      exact ⟨_, _, _, _, rfl, ext_seq j1 (s2.seq hS1), j3⟩
    · rintro σ' H' ⟨v2, v3, v4, v5, rfl, _⟩
      exact ret _
end L

namespace Hv
open PySem PySem.Spec PyProof.Rows L2
/-! ### the part of the heap that is told -/
abbrev Look := Addr → Option Obj
def names1 (g : Look) (x : Str) : Addr := He.ga (He.frG g [mainGlobals]) x
def next1 (g : Look) (a : Addr) : List Addr := match g a with
  | some o => He.refsD o
  | none => []
/-- a function: what it names; another object: what that names, and so on -/
def next2 (g : Look) (a : Addr) : List Addr := match g a with
  | some ⟨_, _, .func fd, _⟩ => He.refV fd.code ++ He.refV fd.defaults ++ He.refV fd.kwdefaults
  | some o => He.refsD o ++ (He.refsD o).flatMap (next1 g)
  | none => []
def ofCls (g : Look) (C : Addr) : List Addr := C :: match g C with
  | some ⟨_, _, .cls cd, _⟩ => cd.ns :: (next1 g cd.ns).flatMap fun a => a :: next2 g a
  | _ => []
/-- the defs fs, the classes cs with all their methods, the classes ds without -/
def asO (g : Look) (fs cs ds : List Str) : List Addr := mainGlobals :: ((fs.flatMap fun x => names1 g x :: next1 g (names1 g x)) ++ ((cs.flatMap fun x => ofCls g (names1 g x)) ++ ds.flatMap fun x => names1 g x :: match g (names1 g x) with
  | some ⟨_, _, .cls cd, _⟩ => [cd.ns]
  | _ => []))
/-! ### a def at a place -/
structure DefQ where
  at_ : PySem.W.Frag → Addr
  name : Str
  qual : Str
  st : Stmt
  dfl : List He.Dv := []
def DefQ.val (d : DefQ) : He.FnW := some (d.name, d.qual, defArgs d.st, .stmts (defBody d.st), defScope d.st, mainGlobals, [], builtinsNs)
def DefQ.obs (K : PySem.W.Frag) (d : DefQ) : He.FnW := match K.lookup (d.at_ K) with
  | some ⟨_, _, .func fd, _⟩ => some (fd.name, fd.qualname, fd.params, fd.body, fd.scope, fd.globals, fd.closure, fd.builtins)
  | _ => none
def DefQ.dvs (K : PySem.W.Frag) (d : DefQ) : List V := d.dfl.map (He.Dv.v K)
def DefQ.ok (K : PySem.W.Frag) (d : DefQ) : Bool := PySem.W.keepIn K (.ref (d.at_ K)) && (match K.lookup (d.at_ K) with
  | some ⟨_, _, .func fd, _⟩ => PySem.W.codeIn K fd.code d.qual && He.dflB K fd.defaults (d.dvs K)
  | _ => false)
/-- what is known of it -/
def DefO (K : PySem.W.Frag) (d : DefQ) : Prop := ∃ (oc : Value) (od : Option Addr) (dV kV doc pm : Value) (an : Option Addr) (cd ct : Value) (sl : Array (Option Value)),
  K.lookup (d.at_ K) = some ⟨oc, od, .func (PySem.W.fnOf d.name d.qual (defArgs d.st) (defBody d.st) (defScope d.st) dV kV doc pm an cd ct), sl⟩ ∧ PySem.W.codeIn K cd d.qual = true ∧ DflV K dV (d.dvs K) ∧ PySem.W.keepIn K (.ref (d.at_ K)) = true
theorem DefQ.out {K : PySem.W.Frag} {d : DefQ} (e : d.obs K = d.val) (c : d.ok K = true) : DefO K d := by
  obtain ⟨kp, c2⟩ := He.ba c
  unfold DefQ.obs at e
  cases q : K.lookup (d.at_ K) with
  | none =>
    rw [q] at c2
    cases c2
  | some o =>
    obtain ⟨oc, od, dt, osl⟩ := o
    rw [q] at c2 e
    cases dt with
    | func fd =>
      obtain ⟨n1, n2, n3, n4, n5, n6, n7, n8, n9, n10, n11, n12, n13, n14, n15⟩ := fd
      have e2 : (some (n1, n2, n3, n4, n5, n6, n7, n15) : He.FnW) = some (d.name, d.qual, defArgs d.st, .stmts (defBody d.st), defScope d.st, mainGlobals, [], builtinsNs) := e
      simp only [Option.some.injEq, Prod.mk.injEq] at e2
      obtain ⟨h1, h2, h3, h4, h5, h6, h7, h8⟩ := e2
      subst h1 h2 h3 h4 h5 h6 h7 h8
      obtain ⟨k1, k2⟩ := He.ba (show (PySem.W.codeIn K n13 d.qual && He.dflB K n8 (d.dvs K)) = true from c2)
      exact ⟨oc, od, n8, n9, n10, n11, n12, n13, n14, osl, q, k1, He.dflB_ok k2, kp⟩
    | _ => cases c2
/-! ### the Hook -/
abbrev Fb := PySem.W.Frag → Bool
def tabB (g : Look) (K : PySem.W.Frag) (x : Str) : Bool := PySem.W.codeHdIn K (He.cT K (x, none)).1 (He.cT K (x, none)).2 && (match g (He.cT K (x, none)).2 with
  | some o => He.emptyTab o
  | none => false)
abbrev Ob := Bool × List He.FnW
def obO (fb : List Fb) (fn : List DefQ) (tf : List Str) (g : Look) (K : PySem.W.Frag) : Ob := ((fb.all fun b => b K) && (fn.all (fun d => d.ok K) && tf.all (fun x => tabB g K x)), fn.map fun d => d.obs K)
structure Says (fb : List Fb) (fn : List DefQ) (tf : List Str) (h : Heap) (K : PySem.W.Frag) : Prop where
  kin : K.In h
  bs : ∀ b ∈ fb, b K = true
  df : ∀ d ∈ fn, DefO K d
  hd : ∀ x ∈ tf, PySem.W.codeHdIn K (He.cT K (x, none)).1 (He.cT K (x, none)).2 = true
  no : ∀ x ∈ tf, K.lookup (He.cT K (x, none)).2 = none
  em : ∀ x ∈ tf, h.get? (He.cT K (x, none)).2 = some tab0
theorem says_of {fb : List Fb} {fn : List DefQ} {tf : List Str} {h : Heap} {as : List Addr} (e : obO fb fn tf h.get? (He.frT h.get? as) = (true, fn.map DefQ.val)) : Says fb fn tf h (He.frT h.get? as) := by
  obtain ⟨e1, e2⟩ := Prod.mk.inj e
  obtain ⟨h1, h2⟩ := He.ba e1
  obtain ⟨h3, h4⟩ := He.ba h2
  have key : ∀ x ∈ tf, PySem.W.codeHdIn (He.frT h.get? as) (He.cT (He.frT h.get? as) (x, none)).1 (He.cT (He.frT h.get? as) (x, none)).2 = true ∧ ∃ o, h.get? (He.cT (He.frT h.get? as) (x, none)).2 = some o ∧ He.emptyTab o = true := fun x hx => by
    obtain ⟨k1, k2⟩ := He.ba (List.all_eq_true.mp h4 x hx)
    refine ⟨k1, ?_⟩
    cases q : h.get? (He.cT (He.frT h.get? as) (x, none)).2 with
    | none =>
      rw [q] at k2
      cases k2
    | some o =>
      rw [q] at k2
      exact ⟨o, rfl, k2⟩
  refine ⟨He.frT_in, fun b hb => List.all_eq_true.mp h1 b hb, fun d hd => ?_, fun x hx => (key x hx).1, fun x hx => ?_, fun x hx => ?_⟩
  · refine DefQ.out ?_ (List.all_eq_true.mp h3 d hd)
    exact List.map_inj_left.mp e2 d hd
  · obtain ⟨_, o, q, z⟩ := key x hx
    exact He.frT_none q z
  · obtain ⟨_, o, q, z⟩ := key x hx
    rw [q, He.emptyTab_eq z]
def hookO (fs cs ds : List Str) (fb : List Fb) (fn : List DefQ) (tf : List Str) : PySem.W.Hook where
  α := Ob
  obs := fun s => obO fb fn tf s.heap.get? (He.frT s.heap.get? (asO s.heap.get? fs cs ds))
  val := fun _ => (true, fn.map DefQ.val)
  says := fun _ h => ∃ K : PySem.W.Frag, Says fb fn tf h K
  of := fun _ _ e => ⟨_, says_of e⟩
  keeps := fun _ _ _ ⟨K, c⟩ k => ⟨K, PySem.W.Frag.In.keeps c.kin k, c.bs, c.df, c.hd, c.no, fun x hx => k _ _ (c.em x hx)⟩
def obT (fs cs ds : List Str) (fb : List Fb) (fn : List DefQ) (tf : List Str) (s : PySem.W.SharedT) : Ob := obO fb fn tf (HandSHeadRun.getT s) (He.frT (HandSHeadRun.getT s) (asO (HandSHeadRun.getT s) fs cs ds))
theorem obT_eq {fs cs ds : List Str} {fb : List Fb} {fn : List DefQ} {tf : List Str} (s : PySem.W.SharedT) : obT fs cs ds fb fn tf s = (hookO fs cs ds fb fn tf).obs s.abs := by
  have e : HandSHeadRun.getT s = s.abs.heap.get? := funext (HandSHeadRun.getT_eq s)
  unfold obT
  rw [e]
  rfl
section
variable {fb : List Fb} {fn : List DefQ} {tf : List Str} {h : Heap} {K : PySem.W.Frag}
theorem Says.b (c : Says fb fn tf h K) (i : Nat) {f : Fb} (hf : fb[i]? = some f := by rfl) : f K = true := c.bs f (List.mem_of_getElem? hf)
theorem Says.d (c : Says fb fn tf h K) (i : Nat) {f : DefQ} (hf : fn[i]? = some f := by rfl) : DefO K f := c.df f (List.mem_of_getElem? hf)
theorem dfl_none {dV : Value} (h : DflV K dV []) : dV = .none := by
  rcases h with ⟨_, h⟩ | ⟨h, _⟩
  · exact h
  · exact absurd rfl h
/-- a def of the module -/
abbrev defG (x : Str) (st : Stmt) : DefQ := ⟨fun K => He.ga K x, x, x, st, []⟩
theorem defIn_of {x : Str} {st : Stmt} (h : DefO K (defG x st)) (hg : PySem.W.nsIn K mainGlobals x = some (some (.ref (He.ga K x)))) : DefIn K x st := by
  obtain ⟨oc, od, dV, kV, doc, pm, an, cd, ct, sl, h1, h2, h3, h4⟩ := h
  cases dfl_none h3
  exact ⟨_, oc, od, kV, doc, pm, an, cd, ct, sl, hg, h1, h2, h4⟩
theorem tabIn_of {x : Str} {st : Stmt} (c : Says fb fn tf h K) (hx : x ∈ tf) (d : DefO K (defG x st)) (hg : PySem.W.nsIn K mainGlobals x = some (some (.ref (He.ga K x)))) : TabIn K x (He.cT K (x, none)).1 (He.cT K (x, none)).2 := by
  obtain ⟨oc, od, dV, kV, doc, pm, an, cd, ct, sl, h1, h2, h3, h4⟩ := d
  obtain ⟨cc, rfl⟩ := He.codeIn_ref h2
  have e : (He.cT K (x, none)).1 = cc := He.codeOf_eq (p := (x, none)) h1 rfl
  have hd := c.hd x hx
  have no := c.no x hx
  generalize (He.cT K (x, none)).2 = P at hd no ⊢
  rw [e] at hd ⊢
  unfold PySem.W.codeHdIn at hd
  split at hd
  · rename_i dd vs sl2 hk
    simp only [Bool.and_eq_true] at hd
    obtain ⟨⟨⟨⟨⟨q, _⟩, _⟩, _⟩, _⟩, _⟩ := hd
    have hv : vs[11]? = some (.ref P) := by
      split at q
      · rename_i P' e'
        rw [e', beq_iff_eq.mp q]
      · cases q
    exact ⟨_, _, _, _, _, _, _, hg, h1, rfl, rfl, hk, hv, no⟩
  · cases hd
end
/-! ### an error class -/
def excB (K : PySem.W.Frag) (C : Addr) : Bool := match K.lookup C with
  | some ⟨.type c, _, .cls cd, sl⟩ => (match cd.mro, sl.toList with
    | .ref C' :: bm, [_, _, _, _, some (.builtin n), _] => decide (c = "type") && (decide (C' = C) && (decide (n = "ValueError.__new__") && (!cd.hasDel && (cd.hasDict && PySem.HandSPX.refsVE bm))))
    | _, _ => false)
  | _ => false
theorem excB_ok {K : PySem.W.Frag} {C : Addr} (h : excB K C = true) : ∃ nm q N bs bm sn sub ab col dd k0 k1 k2 k3 k5, K.lookup C = some (excClassObj nm q C N bs bm true sn sub ab col dd k0 k1 k2 k3 k5 "ValueError.__new__") ∧ PySem.HandSPX.refsVE bm = true := by
  unfold excB at h
  split at h
  · rename_i c dd cd sl hk
    split at h
    · rename_i C' bm k0 k1 k2 k3 n k5 hm hs
      simp only [Bool.and_eq_true, decide_eq_true_eq, Bool.not_eq_true'] at h
      obtain ⟨rfl, rfl, rfl, hdel, hdict, hr⟩ := h
      obtain ⟨nm, bs, mro, ns, qn, hd, sn, sub, ab, col, del⟩ := cd
      dsimp only at hm hdel hdict
      subst hm hdel hdict
      have hsl : sl = #[k0, k1, k2, k3, some (.builtin "ValueError.__new__"), k5] := by
        obtain ⟨l⟩ := sl
        simp only at hs
        rw [hs]
      subst hsl
      exact ⟨nm, qn, ns, bs, bm, sn, sub, ab, col, dd, k0, k1, k2, k3, k5, hk, hr⟩
    · cases h
  · cases h
/-- all of it, for the class named x -/
def errInB (x : Str) : Fb := fun K => excB K (He.ga K x) && (decide (PySem.W.findIn K (.ref (He.ga K x)) "__setattr__" = some (some (.builtin "object.__setattr__"))) && (decide (PySem.W.subIn K (.ref (He.ga K x)) (.type "BaseException") = some true) && (decide (PySem.W.typeIn K (.ref (He.ga K x)) = some (.type "type")) &&
  (PySem.W.keepIn K (.ref (He.ga K x)) && (decide (PySem.W.findIn K (.ref (He.ga K x)) "__init__" = some (some (.ref (He.ma K (He.ga K x) "__init__")))) && decide (PySem.W.typeIn K (.ref (He.ma K (He.ga K x) "__init__")) = some (.type "function")))))))
abbrev defM (C m q : Str) (st : Stmt) (dfl : List He.Dv := []) : DefQ := ⟨fun K => He.ma K (He.ga K C) m, m, q, st, dfl⟩
theorem errIn_of {K : PySem.W.Frag} {x f q : Str} {st : Stmt} (h : errInB x K = true) (d : DefO K (defM x "__init__" q st)) (ha : ∃ p1 p2, defArgs st = eA f p1 p2) (hb : ∃ q1 q2 q3 q4, defBody st = eB f q1 q2 q3 q4) (hs : defScope st = eS f) : ErrIn K (He.ga K x) f := by
  unfold errInB at h
  simp only [Bool.and_eq_true, decide_eq_true_eq] at h
  obtain ⟨h1, h2, h3, h4, h5, h6, h7⟩ := h
  obtain ⟨oc, od, dV, kV, doc, pm, an, cd, ct, sl, d1, d2, d3, d4⟩ := d
  cases dfl_none d3
  obtain ⟨p1, p2, ha⟩ := ha
  obtain ⟨q1, q2, q3, q4, hb⟩ := hb
  refine ⟨⟨excB_ok h1, h2, h3, h4, h5⟩, _, oc, od, kV, doc, pm, an, cd, ct, sl, q, p1, p2, q1, q2, q3, q4, h6, h7, ?_, d2⟩
  rw [← ha, ← hb, ← hs]
  exact d1
/-! ### a method, a property -/
def methB (C m : Str) : Fb := fun K => decide (PySem.W.findIn K (.ref (He.ga K C)) m = some (some (.ref (He.ma K (He.ga K C) m)))) && PySem.W.isFn K (.ref (He.ma K (He.ga K C) m))
theorem methIn_of {K : PySem.W.Frag} {C m q : Str} {st : Stmt} (h : methB C m K = true) (d : DefO K (defM C m q st)) : MethIn K (He.ga K C) m q st := by
  unfold methB at h
  simp only [Bool.and_eq_true, decide_eq_true_eq] at h
  obtain ⟨oc, od, dV, kV, doc, pm, an, cd, ct, sl, d1, d2, d3, d4⟩ := d
  cases dfl_none d3
  exact ⟨_, oc, od, kV, doc, pm, an, cd, ct, sl, h.1, h.2, d1, d2, d4⟩
def pg (C m : Str) (K : PySem.W.Frag) : Addr := match PySem.W.recIn K (He.ma K (He.ga K C) m) "property" with
  | some (.ref g :: _) => g
  | _ => 0
def propB (C m : Str) : Fb := fun K => decide (PySem.W.findIn K (.ref (He.ga K C)) m = some (some (.ref (He.ma K (He.ga K C) m)))) && (decide (PySem.W.specialIn K (.ref (He.ma K (He.ga K C) m)) "__get__" = some (some (.builtin "property.__get__"))) && (decide (PySem.W.takesIn K (.ref (He.ma K (He.ga K C) m)) = some true) &&
  (match PySem.W.recIn K (He.ma K (He.ga K C) m) "property" with
  | some (.ref _ :: _) => true
  | _ => false)))
abbrev defP (C m q : Str) (st : Stmt) : DefQ := ⟨pg C m, m, q, st, []⟩
theorem propIn_of {K : PySem.W.Frag} {C m q : Str} {st : Stmt} (h : propB C m K = true) (d : DefO K (defP C m q st)) : PropIn K (He.ga K C) m q st := by
  unfold propB at h
  simp only [Bool.and_eq_true, decide_eq_true_eq] at h
  obtain ⟨h1, h2, h3, h4⟩ := h
  obtain ⟨oc, od, dV, kV, doc, pm, an, cd, ct, sl, d1, d2, d3, d4⟩ := d
  cases dfl_none d3
  split at h4
  · rename_i g rest e
    have eg : pg C m K = g := by
      unfold pg
      rw [e]
    rw [show (defP C m q st).at_ K = g from eg] at d1 d4
    exact ⟨g, oc, od, kV, doc, pm, an, cd, ct, sl, ⟨_, h1, h2, h3, rest, e⟩, d1, d2, d4⟩
  · cases h4
/-! ### constants -/
def intB (x : Str) (i : Int) : Fb := fun K => match PySem.W.nsIn K mainGlobals x with
  | some (some (.int j _)) => decide (j = i)
  | _ => false
theorem intIn_of {K : PySem.W.Frag} {x : Str} {i : Int} (h : intB x i K = true) : ∃ v, PySem.W.nsIn K mainGlobals x = some (some v) ∧ ∃ t, v = .int i t := by
  unfold intB at h
  split at h
  · rename_i j t e
    cases of_decide_eq_true h
    exact ⟨_, e, _, rfl⟩
  · cases h
def strB (x z : Str) : Fb := fun K => match PySem.W.nsIn K mainGlobals x with
  | some (some (.str y _)) => decide (y = z)
  | _ => false
theorem strIn_of {K : PySem.W.Frag} {x z : Str} (h : strB x z K = true) : ∃ v, PySem.W.nsIn K mainGlobals x = some (some v) ∧ ∃ t, v = .str z t := by
  unfold strB at h
  split at h
  · rename_i y t e
    cases of_decide_eq_true h
    exact ⟨_, e, _, rfl⟩
  · cases h
/-! ### the end -/
theorem walkTE {l : PySem.W.OpenLaw} {n k : Nat} {q : Program} {loose : List Str} {XP : (Str → Option Value) → Heap → Prop} {YP : World → Heap → Prop} {d : DefRec} {x : Str} {fb : List Fb} {fn : List DefQ} (xs : List Str)
    (hn : l.most = some n) (hn2 : n ≤ sizeLine) (hdf : d.params.defaults = []) (hr : Room k callerA) (hY : ∀ (w : World) (h : Heap), YP w h → ∃ K, Says fb fn xs h K)
    (F : ∀ (w : World) (mg : Str → Option Value) (fa : Addr) (h : Heap) (K : PySem.W.Frag), Says fb fn xs h K → h.Ns mainGlobals mg → mg d.name = some (.ref fa) → LawT l w K k n x mg fa xs) :
    PySem.W.WalkO q loose XP YP l.row.toRowW d [] (fun f vs => PySem.call f vs) := by
  refine Att.attach_callB hn hdf ?_
  intro w s₀ s₁ mg mb fa o pm cd doc a vs ns G Y ho hd hcd hmg hobj hints hlen hbits hg
  obtain ⟨K, c⟩ := hY w _ Y
  have X := c.kin
  obtain ⟨fd, cs, sp, ht, hb, hsp, hF⟩ := F w mg fa _ K c G.T.g hmg
  have key : ∀ p ∈ cs, ∃ y ∈ xs, p = He.cT K (y, none) := fun p hp => by
    obtain ⟨y, hy, f, o, fd, e, dd, us, sl, k1, k2, k3, k4, k5, k6, _⟩ := ht p hp
    refine ⟨y, hy, ?_⟩
    have eg : He.fAd K (y, none) = f := by
      show He.ga K y = f
      unfold He.ga
      rw [k1]
    obtain ⟨oc, od, dt, osl⟩ := o
    cases k3
    have e1 : He.codeOf K (y, none) = p.1 := He.codeOf_eq (by rw [eg]; exact k2) k4
    have e2 : He.tabOf K p.1 = p.2 := by
      unfold He.tabOf
      rw [k5]
      show (match us.getD 11 .none with | .ref P => P | _ => 0) = p.2
      rw [Array.getD_eq_getD_getElem?, k6]
      rfl
    unfold He.cT
    rw [e1, e2]
  refine call_lawT X G.T.g G.T.b G.T.builtins G.T.nolimit hg (fun p hp => ?_) (fun p hp => ?_) (fun p hp => ?_) G.T.bmain hobj hints (Nat.le_trans hlen hn2) hr hF hb fun H hC hS => hsp H a ns hlen hbits hC hS
  · obtain ⟨y, hy, rfl⟩ := key p hp
    exact c.em y hy
  · obtain ⟨y, hy, rfl⟩ := key p hp
    exact c.no y hy
  · obtain ⟨y, hy, rfl⟩ := key p hp
    exact PySem.W.codeHd_of_K X (c.hd y hy)
end Hv

namespace L
open PySem L2 Hv
/-- Kind.__init__ as the top has left it -/
def KindInitIn (K : PySem.W.Frag) (C : Addr) : Prop := ∃ (f : Addr) (fd : FuncData), FunK K f fd ∧ PySem.W.findIn K (.ref C) "__init__" = some (some (.ref f)) ∧ PySem.W.isFn K (.ref f) = true
def isInt (i : Int) : Option (Option Value) → Bool
  | some (some (.int j _)) => decide (j = i)
  | _ => false
theorem isInt_ok {i : Int} {o : Option (Option Value)} (h : isInt i o = true) : ∃ v, o = some (some v) ∧ ∃ t, v = .int i t := by
  unfold isInt at h
  split at h
  · cases of_decide_eq_true h
    exact ⟨_, rfl, _, rfl⟩
  · cases h
def isNone : Option (Option Value) → Bool
  | some (some .none) => true
  | _ => false
theorem isNone_ok {o : Option (Option Value)} (h : isNone o = true) : o = some (some .none) := by
  unfold isNone at h
  split at h
  · rfl
  · cases h
def kindKwB : Hv.Fb := fun K => match K.lookup (He.ma K (He.ga K "Kind") "__init__") with
  | some ⟨_, _, .func fd, _⟩ => (match fd.kwdefaults with
    | .ref DD => isInt 0 (PySem.W.nsIn K DD "talks") && (isInt 1 (PySem.W.nsIn K DD "needs") && (isNone (PySem.W.nsIn K DD "closing") && isNone (PySem.W.nsIn K DD "ends")))
    | _ => false)
  | _ => false
theorem kindInit_of {K : PySem.W.Frag} (h : Hv.methB "Kind" "__init__" K = true) (kw : kindKwB K = true) (d : Hv.DefO K (Hv.defM "Kind" "__init__" "Kind.__init__" s_Kind_init)) : KindInitIn K (He.ga K "Kind") := by
  unfold Hv.methB at h
  simp only [Bool.and_eq_true, decide_eq_true_eq] at h
  obtain ⟨oc, od, dV, kV, doc, pm, an, cd, ct, sl, d1, d2, d3, d4⟩ := d
  cases Hv.dfl_none d3
  unfold kindKwB at kw
  rw [show K.lookup (He.ma K (He.ga K "Kind") "__init__") = _ from d1] at kw
  cases kV with
  | ref DD =>
    have kw : (isInt 0 (PySem.W.nsIn K DD "talks") && (isInt 1 (PySem.W.nsIn K DD "needs") && (isNone (PySem.W.nsIn K DD "closing") && isNone (PySem.W.nsIn K DD "ends")))) = true := kw
    simp only [Bool.and_eq_true] at kw
    obtain ⟨k1, k2, k3, k4⟩ := kw
    obtain ⟨u1, n1, r1⟩ := isInt_ok k1
    obtain ⟨u2, n2, r2⟩ := isInt_ok k2
    have n3 := isNone_ok k3
    have n4 := isNone_ok k4
    refine ⟨_, _, ⟨⟨oc, od, .none, .ref DD, doc, pm, an, cd, ct, sl, rfl, d1, d2, .inl ⟨rfl, rfl⟩, .inr ⟨DD, rfl, ?_⟩⟩, d4⟩, h.1, h.2⟩
    intro q hq
    simp only [kwsK, List.mem_cons, List.not_mem_nil, or_false] at hq
    rcases hq with rfl | rfl | rfl | rfl
    · exact ⟨u1, n1, r1⟩
    · exact ⟨u2, n2, r2⟩
    · exact ⟨.none, n3, rfl⟩
    · exact ⟨.none, n4, rfl⟩
  | _ => exact absurd kw (by intro z; cases z)
end L

namespace L
open PySem L2 Hv
theorem all_mk {l : PySem.W.OpenLaw} {w : World} {K : PySem.W.Frag} {h : Heap} {mg : Str → Option Value} {fa : Addr} (X : K.In h) (G : h.Ns mainGlobals mg) (hfa : mg "law" = some (.ref fa))
    {C CR : Addr}
    (o_Kind_a : PySem.W.nsIn K mainGlobals "Kind" = some (some (.ref C)))
    (o_Kind_pg : PySem.W.plainGet K C Str.empty = true)
    (o_Kind_hd : PySem.W.hasDictIn K C = true)
    (o_Kind_po : PySem.W.plainOver K C = true)
    (o_Kind_sa : PySem.W.findIn K (.ref C) "__setattr__" = some (some (.builtin "object.__setattr__")))
    (o_Kind_ha : PySem.W.findIn K (.ref C) "__class__" = some (some (.builtin "object.__class__")))
    (o_Kind_hm : PySem.W.mroIn K C (.type "object") = some true)
    (o_Kind_kp : PySem.W.keepIn K (.ref C) = true)
    (o_Kind_mk : PySem.W.makesIn K C = true)
    (o_Kind_ne : PySem.W.findIn K (.ref C) "__ne__" = some (some (.builtin "object.__ne__")))
    (o_Kind_bo : PySem.W.findIn K (.ref C) "__bool__" = some none)
    (o_Kind_le : PySem.W.findIn K (.ref C) "__len__" = some none)
    (o_Kind_na_parts : PySem.W.findIn K (.ref C) "parts" = some none)
    (o_Kind_s0 : PySem.W.subIn K (.ref C) (.type "NoneType") = some false)
    (o_Kind_s1 : PySem.W.subIn K (.ref C) (.type "int") = some false)
    (o_Kind_s2 : PySem.W.subIn K (.ref C) (.type "bool") = some false)
    (o_Kind_s3 : PySem.W.subIn K (.ref C) (.type "str") = some false)
    (o_Kind_s4 : PySem.W.subIn K (.ref C) (.type "list") = some false)
    (o_Kind_s5 : PySem.W.subIn K (.ref C) (.type "tuple") = some false)
    (o_Kind_u0 : PySem.W.subIn K (.type "NoneType") (.ref C) = some false)
    (o_Kind_u1 : PySem.W.subIn K (.type "int") (.ref C) = some false)
    (o_Kind_u2 : PySem.W.subIn K (.type "bool") (.ref C) = some false)
    (o_Kind_u3 : PySem.W.subIn K (.type "str") (.ref C) = some false)
    (o_Kind_u4 : PySem.W.subIn K (.type "list") (.ref C) = some false)
    (o_Kind_u5 : PySem.W.subIn K (.type "tuple") (.ref C) = some false)
    (o_Kind_nf : PySem.W.notFirst K C (.ref C) = true)
    (o_Kind_k1 : PySem.W.kitOne K (.ref C) (.ref C) = some true)
    (o_Kind_q0 : PySem.W.kitOne K (.type "NoneType") (.ref C) = some false)
    (o_Kind_q1 : PySem.W.kitOne K (.type "int") (.ref C) = some false)
    (o_Kind_q2 : PySem.W.kitOne K (.type "bool") (.ref C) = some false)
    (o_Kind_q3 : PySem.W.kitOne K (.type "str") (.ref C) = some false)
    (o_Kind_q4 : PySem.W.kitOne K (.type "list") (.ref C) = some false)
    (o_Kind_q5 : PySem.W.kitOne K (.type "tuple") (.ref C) = some false)
    (o_cls1 : PySem.W.specialIn K (.builtin "object.__class__") "__get__" = some (some (.builtin "getset_descriptor.__get__")))
    (o_cls2 : PySem.W.takesIn K (.builtin "object.__class__") = some true)
    (o_Row_a : PySem.W.nsIn K mainGlobals "Row" = some (some (.ref CR)))
    (o_Row_pg : PySem.W.plainGet K CR Str.empty = true)
    (o_Row_hd : PySem.W.hasDictIn K CR = true)
    (o_Row_po : PySem.W.plainOver K CR = true)
    (o_Row_sa : PySem.W.findIn K (.ref CR) "__setattr__" = some (some (.builtin "object.__setattr__")))
    (o_Row_ha : PySem.W.findIn K (.ref CR) "__class__" = some (some (.builtin "object.__class__")))
    (o_Row_hm : PySem.W.mroIn K CR (.type "object") = some true)
    (o_Row_kp : PySem.W.keepIn K (.ref CR) = true)
    (o_Row_mk : PySem.W.makesIn K CR = true)
    (o_Row_ne : PySem.W.findIn K (.ref CR) "__ne__" = some (some (.builtin "object.__ne__")))
    (o_Row_bo : PySem.W.findIn K (.ref CR) "__bool__" = some none)
    (o_Row_le : PySem.W.findIn K (.ref CR) "__len__" = some none)
    (o_Row_na_parts : PySem.W.findIn K (.ref CR) "parts" = some none)
    (o_Row_s0 : PySem.W.subIn K (.ref CR) (.type "NoneType") = some false)
    (o_Row_s1 : PySem.W.subIn K (.ref CR) (.type "int") = some false)
    (o_Row_s2 : PySem.W.subIn K (.ref CR) (.type "bool") = some false)
    (o_Row_s3 : PySem.W.subIn K (.ref CR) (.type "str") = some false)
    (o_Row_s4 : PySem.W.subIn K (.ref CR) (.type "list") = some false)
    (o_Row_s5 : PySem.W.subIn K (.ref CR) (.type "tuple") = some false)
    (o_Row_u0 : PySem.W.subIn K (.type "NoneType") (.ref CR) = some false)
    (o_Row_u1 : PySem.W.subIn K (.type "int") (.ref CR) = some false)
    (o_Row_u2 : PySem.W.subIn K (.type "bool") (.ref CR) = some false)
    (o_Row_u3 : PySem.W.subIn K (.type "str") (.ref CR) = some false)
    (o_Row_u4 : PySem.W.subIn K (.type "list") (.ref CR) = some false)
    (o_Row_u5 : PySem.W.subIn K (.type "tuple") (.ref CR) = some false)
    (o_Row_nf : PySem.W.notFirst K CR (.ref CR) = true)
    (o_Row_k1 : PySem.W.kitOne K (.ref CR) (.ref CR) = some true)
    (o_Row_q0 : PySem.W.kitOne K (.type "NoneType") (.ref CR) = some false)
    (o_Row_q1 : PySem.W.kitOne K (.type "int") (.ref CR) = some false)
    (o_Row_q2 : PySem.W.kitOne K (.type "bool") (.ref CR) = some false)
    (o_Row_q3 : PySem.W.kitOne K (.type "str") (.ref CR) = some false)
    (o_Row_q4 : PySem.W.kitOne K (.type "list") (.ref CR) = some false)
    (o_Row_q5 : PySem.W.kitOne K (.type "tuple") (.ref CR) = some false)
    (o_Kind_Row_nf : PySem.W.notFirst K C (.ref CR) = true)
    (o_Kind_Row_kt : PySem.W.kitOne K (.ref C) (.ref CR) = some false)
    (o_Row_Kind_nf : PySem.W.notFirst K CR (.ref C) = true)
    (o_Row_Kind_kt : PySem.W.kitOne K (.ref CR) (.ref C) = some false)
    (m_Kind_init : KindInitIn K C)
    (m_Kind_eq : MethIn K C "__eq__" "Kind.__eq__" s_Kind_eq)
    (m_Row_init : MethIn K CR "__init__" "Row.__init__" s_Row_init)
    (m_Row_outer : PropIn K CR "outer" "Row.outer" s_Row_outer)
    (m_Row_inner : PropIn K CR "inner" "Row.inner" s_Row_inner)
    (m_Row_amount : PropIn K CR "amount" "Row.amount" s_Row_amount)
    (m_Row_eq : MethIn K CR "__eq__" "Row.__eq__" s_Row_eq)
    {E0 E1 E2 E3 E4 E5 E6 E7 E8 E9 E10 E11 E12 E13 E14 E15 E16 E17 E18 E19 E20 E21 E22 E23 E24 E25 E26 E27 E28 E29 E30 E31 E32 E33 : Addr}
    (n_E0 : PySem.W.nsIn K mainGlobals "InvalidName" = some (some (.ref E0)))
    (n_E1 : PySem.W.nsIn K mainGlobals "InvalidNumber" = some (some (.ref E1)))
    (n_E2 : PySem.W.nsIn K mainGlobals "InvalidBound" = some (some (.ref E2)))
    (n_E3 : PySem.W.nsIn K mainGlobals "InvalidNeeds" = some (some (.ref E3)))
    (n_E4 : PySem.W.nsIn K mainGlobals "InvalidClosing" = some (some (.ref E4)))
    (n_E5 : PySem.W.nsIn K mainGlobals "InvalidEnds" = some (some (.ref E5)))
    (n_E6 : PySem.W.nsIn K mainGlobals "InvalidAmount" = some (some (.ref E6)))
    (n_E7 : PySem.W.nsIn K mainGlobals "InvalidText" = some (some (.ref E7)))
    (n_E8 : PySem.W.nsIn K mainGlobals "InvalidHouse" = some (some (.ref E8)))
    (n_E9 : PySem.W.nsIn K mainGlobals "InvalidShare" = some (some (.ref E9)))
    (n_E10 : PySem.W.nsIn K mainGlobals "InvalidLimit" = some (some (.ref E10)))
    (n_E11 : PySem.W.nsIn K mainGlobals "InvalidLength" = some (some (.ref E11)))
    (n_E12 : PySem.W.nsIn K mainGlobals "InvalidWish" = some (some (.ref E12)))
    (n_E13 : PySem.W.nsIn K mainGlobals "InvalidIndex" = some (some (.ref E13)))
    (n_E14 : PySem.W.nsIn K mainGlobals "NotRules" = some (some (.ref E14)))
    (n_E15 : PySem.W.nsIn K mainGlobals "InvalidKinds" = some (some (.ref E15)))
    (n_E16 : PySem.W.nsIn K mainGlobals "InvalidRows" = some (some (.ref E16)))
    (n_E17 : PySem.W.nsIn K mainGlobals "InvalidChanges" = some (some (.ref E17)))
    (n_E18 : PySem.W.nsIn K mainGlobals "InvalidWishes" = some (some (.ref E18)))
    (n_E19 : PySem.W.nsIn K mainGlobals "UnknownName" = some (some (.ref E19)))
    (n_E20 : PySem.W.nsIn K mainGlobals "UnknownMember" = some (some (.ref E20)))
    (n_E21 : PySem.W.nsIn K mainGlobals "InUse" = some (some (.ref E21)))
    (n_E22 : PySem.W.nsIn K mainGlobals "NotFinite" = some (some (.ref E22)))
    (n_E23 : PySem.W.nsIn K mainGlobals "Over" = some (some (.ref E23)))
    (n_E24 : PySem.W.nsIn K mainGlobals "IsClosed" = some (some (.ref E24)))
    (n_E25 : PySem.W.nsIn K mainGlobals "NotListed" = some (some (.ref E25)))
    (n_E26 : PySem.W.nsIn K mainGlobals "TooFew" = some (some (.ref E26)))
    (n_E27 : PySem.W.nsIn K mainGlobals "UsedUp" = some (some (.ref E27)))
    (n_E28 : PySem.W.nsIn K mainGlobals "CannotClose" = some (some (.ref E28)))
    (n_E29 : PySem.W.nsIn K mainGlobals "NothingToUndo" = some (some (.ref E29)))
    (n_E30 : PySem.W.nsIn K mainGlobals "Broken" = some (some (.ref E30)))
    (n_E31 : PySem.W.nsIn K mainGlobals "WrongValue" = some (some (.ref E31)))
    (n_E32 : PySem.W.nsIn K mainGlobals "WrongName" = some (some (.ref E32)))
    (n_E33 : PySem.W.nsIn K mainGlobals "NotPossible" = some (some (.ref E33)))
    (x_E0 : errB K [E0, E1, E2, E3, E4, E5, E6, E7, E8, E9, E10, E11, E12, E13, E14, E15, E16, E17, E18, E19, E20, E21, E22, E23, E24, E25, E26, E27, E28, E29, E30, E31, E32, E33] 0 = true)
    (y_E0 : ErrIn K E0 "given")
    (x_E6 : errB K [E0, E1, E2, E3, E4, E5, E6, E7, E8, E9, E10, E11, E12, E13, E14, E15, E16, E17, E18, E19, E20, E21, E22, E23, E24, E25, E26, E27, E28, E29, E30, E31, E32, E33] 6 = true)
    (y_E6 : ErrIn K E6 "given")
    {tc_right tp_right tc_law tp_law : Addr}
    (t_right : TabIn K "_law_right" tc_right tp_right)
    (t_law : TabIn K "law" tc_law tp_law)
    (tn_right_law : tp_right ≠ tp_law)
    (d_is_integer : DefIn K "is_integer" s_is_integer)
    (d_is_name : DefIn K "is_name" s_is_name)
    (d_common_divisor : DefIn K "common_divisor" s_common_divisor)
    (d_number_of : DefIn K "number_of" s_number_of)
    (d_fraction_of : DefIn K "fraction_of" s_fraction_of)
    (d_is_bound : DefIn K "is_bound" s_is_bound)
    (d_is_needs : DefIn K "is_needs" s_is_needs)
    (d_is_closing : DefIn K "is_closing" s_is_closing)
    (d_sort_of : DefIn K "sort_of" s_sort_of)
    (d_seed : DefIn K "_law_seed" s_seed)
    (d_bag : DefIn K "_law_bag" s_bag)
    (d_take : DefIn K "_law_take" s_take)
    (d_terms : DefIn K "_law_terms" s_terms)
    (d_sort : DefIn K "_law_sort" s_sort)
    (d_held : DefIn K "_law_held" s_held)
    (d_caught : DefIn K "_law_caught" s_caught)
    (d_tag : DefIn K "_law_tag" s_tag)
    (d_tags : DefIn K "_law_tags" s_tags)
    (d_amounts : DefIn K "_law_amounts" s_amounts)
    (d_bent : DefIn K "_law_bent" s_bent)
    (d_is_tag : DefIn K "_law_is_tag" s_is_tag)
    (d_odd : DefIn K "_law_odd" s_odd)
    (d_drawn : DefIn K "_law_drawn" s_drawn)
    (d_due : DefIn K "_law_due" s_due)
    (d_shown : DefIn K "_law_shown" s_shown)
    (d_same : DefIn K "_law_same" s_same)
    (d_right : DefIn K "_law_right" s_right)
    (d_law : DefIn K "law" s_law)
    (b_ArithmeticError : PySem.W.nsIn K mainGlobals "ArithmeticError" = some none)
    (b_LookupError : PySem.W.nsIn K mainGlobals "LookupError" = some none)
    (b_ValueError : PySem.W.nsIn K mainGlobals "ValueError" = some none)
    (b_abs : PySem.W.nsIn K mainGlobals "abs" = some none)
    (b_all : PySem.W.nsIn K mainGlobals "all" = some none)
    (b_any : PySem.W.nsIn K mainGlobals "any" = some none)
    (b_bool : PySem.W.nsIn K mainGlobals "bool" = some none)
    (b_divmod : PySem.W.nsIn K mainGlobals "divmod" = some none)
    (b_int : PySem.W.nsIn K mainGlobals "int" = some none)
    (b_isinstance : PySem.W.nsIn K mainGlobals "isinstance" = some none)
    (b_len : PySem.W.nsIn K mainGlobals "len" = some none)
    (b_list : PySem.W.nsIn K mainGlobals "list" = some none)
    (b_max : PySem.W.nsIn K mainGlobals "max" = some none)
    (b_min : PySem.W.nsIn K mainGlobals "min" = some none)
    (b_property : PySem.W.nsIn K mainGlobals "property" = some none)
    (b_range : PySem.W.nsIn K mainGlobals "range" = some none)
    (b_repr : PySem.W.nsIn K mainGlobals "repr" = some none)
    (b_str : PySem.W.nsIn K mainGlobals "str" = some none)
    (b_tuple : PySem.W.nsIn K mainGlobals "tuple" = some none)
    (c_MOST_TALKS : ∃ v, PySem.W.nsIn K mainGlobals "MOST_TALKS" = some (some v) ∧ ∃ t, v = (.int (3) t))
    (c_MOST_TIMES : ∃ v, PySem.W.nsIn K mainGlobals "MOST_TIMES" = some (some v) ∧ ∃ t, v = (.int (3) t))
    (c_MOST_AFTER : ∃ v, PySem.W.nsIn K mainGlobals "MOST_AFTER" = some (some v) ∧ ∃ t, v = (.int (3) t))
    (c_MOST_NEEDS : ∃ v, PySem.W.nsIn K mainGlobals "MOST_NEEDS" = some (some v) ∧ ∃ t, v = (.int (9) t))
    (c_MOST_PART : ∃ v, PySem.W.nsIn K mainGlobals "MOST_PART" = some (some v) ∧ ∃ t, v = (.int (12) t))
    (c_DIGITS : ∃ v, PySem.W.nsIn K mainGlobals "DIGITS" = some (some v) ∧ ∃ t, v = (.str "0123456789" t))
    (c_LETTERS : ∃ v, PySem.W.nsIn K mainGlobals "LETTERS" = some (some v) ∧ ∃ t, v = (.str "abcdefghijklmnopqrstuvwxyz" t))
    (c_MARK : ∃ v, PySem.W.nsIn K mainGlobals "MARK" = some (some v) ∧ ∃ t, v = (.str "over " t))
    : LawT l w K 11 63 "_law_script" mg fa ["_law_right", "law"] := by
  have T : Txt K mg := ⟨PySem.W.mg_none_of X G b_ArithmeticError, PySem.W.mg_none_of X G b_LookupError, PySem.W.mg_none_of X G b_ValueError, PySem.W.mg_none_of X G b_abs, PySem.W.mg_none_of X G b_all, PySem.W.mg_none_of X G b_any, PySem.W.mg_none_of X G b_bool, PySem.W.mg_none_of X G b_divmod, PySem.W.mg_none_of X G b_int, PySem.W.mg_none_of X G b_isinstance, PySem.W.mg_none_of X G b_len, PySem.W.mg_none_of X G b_list, PySem.W.mg_none_of X G b_max, PySem.W.mg_none_of X G b_min, PySem.W.mg_none_of X G b_property, PySem.W.mg_none_of X G b_range, PySem.W.mg_none_of X G b_repr, PySem.W.mg_none_of X G b_str, PySem.W.mg_none_of X G b_tuple, (by obtain ⟨v, e, t, rfl⟩ := c_MOST_TALKS; exact ⟨t, PySem.W.mg_of X G e⟩), (by obtain ⟨v, e, t, rfl⟩ := c_MOST_TIMES; exact ⟨t, PySem.W.mg_of X G e⟩), (by obtain ⟨v, e, t, rfl⟩ := c_MOST_AFTER; exact ⟨t, PySem.W.mg_of X G e⟩), (by obtain ⟨v, e, t, rfl⟩ := c_MOST_NEEDS; exact ⟨t, PySem.W.mg_of X G e⟩), (by obtain ⟨v, e, t, rfl⟩ := c_MOST_PART; exact ⟨t, PySem.W.mg_of X G e⟩), (by obtain ⟨v, e, t, rfl⟩ := c_DIGITS; exact ⟨t, PySem.W.mg_of X G e⟩), (by obtain ⟨v, e, t, rfl⟩ := c_LETTERS; exact ⟨t, PySem.W.mg_of X G e⟩), (by obtain ⟨v, e, t, rfl⟩ := c_MARK; exact ⟨t, PySem.W.mg_of X G e⟩)⟩
  obtain ⟨f_is_integer, fd_is_integer, D_is_integer⟩ := d_is_integer.at X G (ps := P_is_integer) (fun _ _ _ _ _ _ us hl => match us, hl with | [_], _ => rfl)
  obtain ⟨f_is_name, fd_is_name, D_is_name⟩ := d_is_name.at X G (ps := P_is_name) (fun _ _ _ _ _ _ us hl => match us, hl with | [_], _ => rfl)
  obtain ⟨f_common_divisor, fd_common_divisor, D_common_divisor⟩ := d_common_divisor.at X G (ps := P_common_divisor) (fun _ _ _ _ _ _ us hl => match us, hl with | [_, _], _ => rfl)
  obtain ⟨f_number_of, fd_number_of, D_number_of⟩ := d_number_of.at X G (ps := P_number_of) (fun _ _ _ _ _ _ us hl => match us, hl with | [_, _], _ => rfl)
  obtain ⟨f_fraction_of, fd_fraction_of, D_fraction_of⟩ := d_fraction_of.at X G (ps := P_fraction_of) (fun _ _ _ _ _ _ us hl => match us, hl with | [_], _ => rfl)
  obtain ⟨f_is_bound, fd_is_bound, D_is_bound⟩ := d_is_bound.at X G (ps := P_is_bound) (fun _ _ _ _ _ _ us hl => match us, hl with | [_], _ => rfl)
  obtain ⟨f_is_needs, fd_is_needs, D_is_needs⟩ := d_is_needs.at X G (ps := P_is_needs) (fun _ _ _ _ _ _ us hl => match us, hl with | [_], _ => rfl)
  obtain ⟨f_is_closing, fd_is_closing, D_is_closing⟩ := d_is_closing.at X G (ps := P_is_closing) (fun _ _ _ _ _ _ us hl => match us, hl with | [_], _ => rfl)
  obtain ⟨f_sort_of, fd_sort_of, D_sort_of⟩ := d_sort_of.at X G (ps := P_sort_of) (fun _ _ _ _ _ _ us hl => match us, hl with | [_], _ => rfl)
  obtain ⟨f_seed, fd_seed, D_seed⟩ := d_seed.at X G (ps := P_seed) (fun _ _ _ _ _ _ us hl => match us, hl with | [_, _], _ => rfl)
  obtain ⟨f_bag, fd_bag, D_bag⟩ := d_bag.at X G (ps := P_bag) (fun _ _ _ _ _ _ us hl => match us, hl with | [_], _ => rfl)
  obtain ⟨f_take, fd_take, D_take⟩ := d_take.at X G (ps := P_take) (fun _ _ _ _ _ _ us hl => match us, hl with | [_, _], _ => rfl)
  obtain ⟨f_terms, fd_terms, D_terms⟩ := d_terms.at X G (ps := P_terms) (fun _ _ _ _ _ _ us hl => match us, hl with | [], _ => rfl)
  obtain ⟨f_sort, fd_sort, D_sort⟩ := d_sort.at X G (ps := P_sort) (fun _ _ _ _ _ _ us hl => match us, hl with | [_], _ => rfl)
  obtain ⟨f_held, fd_held, D_held⟩ := d_held.at X G (ps := P_held) (fun _ _ _ _ _ _ us hl => match us, hl with | [_, _], _ => rfl)
  obtain ⟨f_caught, fd_caught, D_caught⟩ := d_caught.at X G (ps := P_caught) (fun _ _ _ _ _ _ us hl => match us, hl with | [_], _ => rfl)
  obtain ⟨f_tag, fd_tag, D_tag⟩ := d_tag.at X G (ps := P_tag) (fun _ _ _ _ _ _ us hl => match us, hl with | [_], _ => rfl)
  obtain ⟨f_tags, fd_tags, D_tags⟩ := d_tags.at X G (ps := P_tags) (fun _ _ _ _ _ _ us hl => match us, hl with | [_, _], _ => rfl)
  obtain ⟨f_amounts, fd_amounts, D_amounts⟩ := d_amounts.at X G (ps := P_amounts) (fun _ _ _ _ _ _ us hl => match us, hl with | [], _ => rfl)
  obtain ⟨f_bent, fd_bent, D_bent⟩ := d_bent.at X G (ps := P_bent) (fun _ _ _ _ _ _ us hl => match us, hl with | [_, _], _ => rfl)
  obtain ⟨f_is_tag, fd_is_tag, D_is_tag⟩ := d_is_tag.at X G (ps := P_is_tag) (fun _ _ _ _ _ _ us hl => match us, hl with | [_], _ => rfl)
  obtain ⟨f_odd, fd_odd, D_odd⟩ := d_odd.at X G (ps := P_odd) (fun _ _ _ _ _ _ us hl => match us, hl with | [_], _ => rfl)
  obtain ⟨f_drawn, fd_drawn, D_drawn⟩ := d_drawn.at X G (ps := P_drawn) (fun _ _ _ _ _ _ us hl => match us, hl with | [_], _ => rfl)
  obtain ⟨f_due, fd_due, D_due⟩ := d_due.at X G (ps := P_due) (fun _ _ _ _ _ _ us hl => match us, hl with | [_], _ => rfl)
  obtain ⟨f_shown, fd_shown, D_shown⟩ := d_shown.at X G (ps := P_shown) (fun _ _ _ _ _ _ us hl => match us, hl with | [_], _ => rfl)
  obtain ⟨f_same, fd_same, D_same⟩ := d_same.at X G (ps := P_same) (fun _ _ _ _ _ _ us hl => match us, hl with | [_, _], _ => rfl)
  obtain ⟨f_right, fd_right, D_right⟩ := d_right.at X G (ps := P_right) (fun _ _ _ _ _ _ us hl => match us, hl with | [_], _ => rfl)
  obtain ⟨f_Kind_eq, fd_Kind_eq, D_Kind_eq⟩ := m_Kind_eq.at (ps := P_Kind_eq) (fun _ _ _ _ _ _ us hl => match us, hl with | [_, _], _ => rfl)
  obtain ⟨f_Row_init, fd_Row_init, D_Row_init⟩ := m_Row_init.at (ps := P_Row_init) (fun _ _ _ _ _ _ us hl => match us, hl with | [_, _, _, _], _ => rfl)
  obtain ⟨f_Row_outer, fd_Row_outer, D_Row_outer⟩ := m_Row_outer.at (ps := P_Row_outer) (fun _ _ _ _ _ _ us hl => match us, hl with | [_], _ => rfl)
  obtain ⟨f_Row_inner, fd_Row_inner, D_Row_inner⟩ := m_Row_inner.at (ps := P_Row_inner) (fun _ _ _ _ _ _ us hl => match us, hl with | [_], _ => rfl)
  obtain ⟨f_Row_amount, fd_Row_amount, D_Row_amount⟩ := m_Row_amount.at (ps := P_Row_amount) (fun _ _ _ _ _ _ us hl => match us, hl with | [_], _ => rfl)
  obtain ⟨f_Row_eq, fd_Row_eq, D_Row_eq⟩ := m_Row_eq.at (ps := P_Row_eq) (fun _ _ _ _ _ _ us hl => match us, hl with | [_, _], _ => rfl)
  have TX_Kind : OwnTxt K mg "Kind" C := ⟨PySem.W.mg_of X G o_Kind_a, ⟨o_Kind_pg, o_Kind_hd, o_Kind_po, o_Kind_sa⟩, o_Kind_na_parts, o_Kind_ha, o_cls1, o_cls2, o_Kind_hm, o_Kind_k1, o_Kind_kp⟩
  have KN_Kind : KitNo K C := ⟨o_Kind_q0, o_Kind_q1, o_Kind_q2, o_Kind_q3, o_Kind_q4, o_Kind_q5⟩
  have TRU_Kind := And.intro o_Kind_bo o_Kind_le
  have TX_Row : OwnTxt K mg "Row" CR := ⟨PySem.W.mg_of X G o_Row_a, ⟨o_Row_pg, o_Row_hd, o_Row_po, o_Row_sa⟩, o_Row_na_parts, o_Row_ha, o_cls1, o_cls2, o_Row_hm, o_Row_k1, o_Row_kp⟩
  have KN_Row : KitNo K CR := ⟨o_Row_q0, o_Row_q1, o_Row_q2, o_Row_q3, o_Row_q4, o_Row_q5⟩
  have TRU_Row := And.intro o_Row_bo o_Row_le
  have EN : ErrNames mg (fun i => ([E0, E1, E2, E3, E4, E5, E6, E7, E8, E9, E10, E11, E12, E13, E14, E15, E16, E17, E18, E19, E20, E21, E22, E23, E24, E25, E26, E27, E28, E29, E30, E31, E32, E33] : List Addr).getD i 0) := ⟨PySem.W.mg_of X G n_E0, PySem.W.mg_of X G n_E1, PySem.W.mg_of X G n_E2, PySem.W.mg_of X G n_E3, PySem.W.mg_of X G n_E4, PySem.W.mg_of X G n_E5, PySem.W.mg_of X G n_E6, PySem.W.mg_of X G n_E7, PySem.W.mg_of X G n_E8, PySem.W.mg_of X G n_E9, PySem.W.mg_of X G n_E10, PySem.W.mg_of X G n_E11, PySem.W.mg_of X G n_E12, PySem.W.mg_of X G n_E13, PySem.W.mg_of X G n_E14, PySem.W.mg_of X G n_E15, PySem.W.mg_of X G n_E16, PySem.W.mg_of X G n_E17, PySem.W.mg_of X G n_E18, PySem.W.mg_of X G n_E19, PySem.W.mg_of X G n_E20, PySem.W.mg_of X G n_E21, PySem.W.mg_of X G n_E22, PySem.W.mg_of X G n_E23, PySem.W.mg_of X G n_E24, PySem.W.mg_of X G n_E25, PySem.W.mg_of X G n_E26, PySem.W.mg_of X G n_E27, PySem.W.mg_of X G n_E28, PySem.W.mg_of X G n_E29, PySem.W.mg_of X G n_E30, PySem.W.mg_of X G n_E31, PySem.W.mg_of X G n_E32, PySem.W.mg_of X G n_E33⟩
  have EX0 := errB_ok x_E0
  have ER_InvalidName : ErrTxt K mg "InvalidName" "given" E0 := y_E0.txt (PySem.W.mg_of X G n_E0) EX0.isx EX0.f_given fld_given
  have EX6 := errB_ok x_E6
  have ER_InvalidAmount : ErrTxt K mg "InvalidAmount" "given" E6 := y_E6.txt (PySem.W.mg_of X G n_E6) EX6.isx EX6.f_given fld_given
  have EO_Kind : EqO K C f_Kind_eq := ⟨D_Kind_eq.at_, D_Kind_eq.isf, o_Kind_ne, o_Kind_hm, ⟨o_Kind_s0, o_Kind_s1, o_Kind_s2, o_Kind_s3, o_Kind_s4, o_Kind_s5⟩, o_Kind_u0, o_Kind_u1, o_Kind_u2, o_Kind_u3, o_Kind_u4, o_Kind_u5⟩
  have EO_Row : EqO K CR f_Row_eq := ⟨D_Row_eq.at_, D_Row_eq.isf, o_Row_ne, o_Row_hm, ⟨o_Row_s0, o_Row_s1, o_Row_s2, o_Row_s3, o_Row_s4, o_Row_s5⟩, o_Row_u0, o_Row_u1, o_Row_u2, o_Row_u3, o_Row_u4, o_Row_u5⟩
  obtain ⟨f_law, oc, od, kV, doc, pm, an, cd, ct, sl, e_law, l_law, c_law, k_law⟩ := d_law
  have e := hfa.symm.trans (PySem.W.mg_of X G e_law)
  cases e
  have D_law := fun_mk (st := s_law) l_law c_law k_law
  have hcL := tabIn_code t_law e_law l_law
  obtain ⟨oc1, od1, kV1, doc1, pm1, an1, cdv1, ct1, osl1, hfd1, lk1, hcd1⟩ := D_right.fn.ex
  have hcR : fd_right.code = .ref tc_right := by
    obtain ⟨f', o, fd', e, dd, vs, sl', k1, k2, k3, k4, _⟩ := t_right
    have e1 := D_right.mg.symm.trans (PySem.W.mg_of X G k1)
    cases e1
    rw [lk1] at k2
    cases k2
    cases k3
    exact k4
  obtain ⟨fI, fdI, FK, fIa, fIi⟩ := m_Kind_init
  have M_Kind : Mk K C fI := ⟨o_Kind_mk, fIa, fIi, o_Kind_kp⟩
  have M_Row : Mk K CR f_Row_init := ⟨o_Row_mk, D_Row_init.at_, D_Row_init.isf, o_Row_kp⟩
  refine ⟨PySem.W.fnOf "law" "law" (defArgs s_law) (defBody s_law) (defScope s_law) .none kV doc pm an cd ct, [(tc_right, tp_right), (tc_law, tp_law)], sp_law K [(tp_right, qR ++ "<lambda>"), (tp_law, qL ++ "<lambda>")], ?_, fun s v => .of_eq rfl, ?_, fun base hK hg hB => ?_⟩
  · intro p hp
    simp only [List.mem_cons, List.not_mem_nil, or_false] at hp
    rcases hp with rfl | rfl
    · exact ⟨_, by simp, t_right⟩
    · exact ⟨_, by simp, t_law⟩
  · intro H a ns hl hb hC hS
    refine ⟨a, ns, rfl, hS, hl, hb, tabs_nil ?_, fun _ => rfl⟩
    intro p hp
    simp only [List.mem_cons, List.not_mem_nil, or_false] at hp
    rcases hp with rfl | rfl
    · exact hC (tc_right, tp_right) (by simp)
    · exact hC (tc_law, tp_law) (by simp)
  · have G_is_integer : FnOk l.prog w K mg base CX0 1 f_is_integer fd_is_integer P_is_integer (sp_is_integer K) := ok_is_integer D_is_integer T
    have G_is_name : FnOk l.prog w K mg base CX0 1 f_is_name fd_is_name P_is_name (sp_is_name K) := ok_is_name D_is_name T
    have G_number_of : FnOk l.prog w K mg base CX0 1 f_number_of fd_number_of P_number_of sp_number_of := ok_number_of D_number_of T
    have G_fraction_of : FnOk l.prog w K mg base CX0 2 f_fraction_of fd_fraction_of P_fraction_of (sp_fraction_of K) := ok_fraction_of D_fraction_of T D_number_of D_common_divisor
    have G_is_bound : FnOk l.prog w K mg base CX0 3 f_is_bound fd_is_bound P_is_bound (sp_is_bound K) := ok_is_bound D_is_bound D_fraction_of G_fraction_of
    have G_is_needs : FnOk l.prog w K mg base CX0 4 f_is_needs fd_is_needs P_is_needs (sp_is_needs K) := ok_is_needs D_is_needs T D_is_bound G_is_bound D_is_integer G_is_integer
    have G_is_closing : FnOk l.prog w K mg base CX0 4 f_is_closing fd_is_closing P_is_closing (sp_is_closing K) := ok_is_closing D_is_closing T D_is_bound G_is_bound D_is_integer G_is_integer
    have G_sort_of : FnOk l.prog w K mg base CX0 2 f_sort_of fd_sort_of P_sort_of (sp_sort_of K) := ok_sort_of D_sort_of T D_number_of G_number_of
    have G_Kind_init : FnOk l.prog w K mg base CX0 5 fI fdI P_Kind_init (sp_kind_init K C) := ok_Kind_init FK T TX_Kind.c TX_Kind.na D_is_name G_is_name D_is_bound G_is_bound D_is_integer G_is_integer D_is_needs G_is_needs D_is_closing G_is_closing
    have G_Row_initX := ok_Row_initX (P := l.prog) (w := w) (base := base) (c := fun i => ([E0, E1, E2, E3, E4, E5, E6, E7, E8, E9, E10, E11, E12, E13, E14, E15, E16, E17, E18, E19, E20, E21, E22, E23, E24, E25, E26, E27, E28, E29, E30, E31, E32, E33] : List Addr).getD i 0) D_Row_init T TX_Row.c TX_Row.na ER_InvalidName ER_InvalidAmount D_is_name G_is_name D_sort_of G_sort_of
    have G_sort := ok_sort (P := l.prog) (w := w) (base := base) D_sort T EN D_terms
    have G_held := ok_held (P := l.prog) (w := w) (base := base) (c := fun i => ([E0, E1, E2, E3, E4, E5, E6, E7, E8, E9, E10, E11, E12, E13, E14, E15, E16, E17, E18, E19, E20, E21, E22, E23, E24, E25, E26, E27, E28, E29, E30, E31, E32, E33] : List Addr).getD i 0) D_held T
    have hu1 : ∀ p ∈ [(tp_right, qR ++ ("<lambda>" : Str)), (tp_law, qL ++ ("<lambda>" : Str))], p.1 = tp_right → p.2 = qR ++ ("<lambda>" : Str) := by
      intro p hp e
      simp only [List.mem_cons, List.not_mem_nil, or_false] at hp
      rcases hp with rfl | rfl
      · rfl
      · exact absurd e.symm tn_right_law
    have hu2 : ∀ p ∈ [(tp_right, qR ++ ("<lambda>" : Str)), (tp_law, qL ++ ("<lambda>" : Str))], p.1 = tp_law → p.2 = qL ++ ("<lambda>" : Str) := by
      intro p hp e
      simp only [List.mem_cons, List.not_mem_nil, or_false] at hp
      rcases hp with rfl | rfl
      · exact absurd e tn_right_law
      · rfl
    have G_drawn : FnOk l.prog w K mg base CX0 4 f_drawn fd_drawn P_drawn (sp_drawn K) := ok_drawn D_drawn T D_take D_tag D_tags D_amounts D_odd D_bent
    have G_due : OkG l.prog w K mg base CX0 2 f_due fd_due P_due (sp_due K) := ok_due D_due T D_is_tag D_amounts
    have G_shown : FnOk l.prog w K mg base CX0 3 f_shown fd_shown P_shown (sp_rshown CR) := ok_shown D_shown TX_Row D_Row_outer D_Row_inner D_Row_amount
    have G_same : FnOk l.prog w K mg base CX0 3 f_same fd_same P_same (sp_rsame K CR C) := ok_same D_same T TX_Row TX_Kind D_Row_eq D_Kind_eq EO_Row EO_Kind o_Row_nf o_Row_Kind_nf o_Kind_Row_nf o_Kind_Row_kt o_Row_Kind_kt
    exact ok_law D_law T EN hcL (hB (tc_law, tp_law) (by simp)) (by simp) hu2 EX0 EX6 TX_Row D_bag D_seed D_amounts D_shown G_shown D_right
      (ok_right D_right T EN hcR (hB (tc_right, tp_right) (by simp)) (by simp) hu1 EX0 EX6 TX_Row TX_Kind KN_Row D_take D_drawn G_drawn D_due G_due D_shown G_shown D_same G_same D_caught D_sort G_sort D_held G_held M_Row D_Row_init G_Row_initX M_Kind FK G_Kind_init)
      D_caught D_sort G_sort D_held G_held M_Row D_Row_init G_Row_initX
/-! ### the head -/
abbrev R : PySem.W.OpenRow := PySem.W.OpenLaw.row PySem.Challenge.rw_heldvotes_k06_rows_made_and_refused
def fb_0 : Hv.Fb := fun K => decide (PySem.W.nsIn K mainGlobals "Kind" = some (some (.ref (He.ga K "Kind"))))
def fb_1 : Hv.Fb := fun K => decide (PySem.W.plainGet K (He.ga K "Kind") Str.empty = true)
def fb_2 : Hv.Fb := fun K => decide (PySem.W.hasDictIn K (He.ga K "Kind") = true)
def fb_3 : Hv.Fb := fun K => decide (PySem.W.plainOver K (He.ga K "Kind") = true)
def fb_4 : Hv.Fb := fun K => decide (PySem.W.findIn K (.ref (He.ga K "Kind")) "__setattr__" = some (some (.builtin "object.__setattr__")))
def fb_5 : Hv.Fb := fun K => decide (PySem.W.findIn K (.ref (He.ga K "Kind")) "__class__" = some (some (.builtin "object.__class__")))
def fb_6 : Hv.Fb := fun K => decide (PySem.W.mroIn K (He.ga K "Kind") (.type "object") = some true)
def fb_7 : Hv.Fb := fun K => decide (PySem.W.keepIn K (.ref (He.ga K "Kind")) = true)
def fb_8 : Hv.Fb := fun K => decide (PySem.W.makesIn K (He.ga K "Kind") = true)
def fb_9 : Hv.Fb := fun K => decide (PySem.W.findIn K (.ref (He.ga K "Kind")) "__ne__" = some (some (.builtin "object.__ne__")))
def fb_10 : Hv.Fb := fun K => decide (PySem.W.findIn K (.ref (He.ga K "Kind")) "__bool__" = some none)
def fb_11 : Hv.Fb := fun K => decide (PySem.W.findIn K (.ref (He.ga K "Kind")) "__len__" = some none)
def fb_12 : Hv.Fb := fun K => decide (PySem.W.findIn K (.ref (He.ga K "Kind")) "parts" = some none)
def fb_13 : Hv.Fb := fun K => decide (PySem.W.subIn K (.ref (He.ga K "Kind")) (.type "NoneType") = some false)
def fb_14 : Hv.Fb := fun K => decide (PySem.W.subIn K (.ref (He.ga K "Kind")) (.type "int") = some false)
def fb_15 : Hv.Fb := fun K => decide (PySem.W.subIn K (.ref (He.ga K "Kind")) (.type "bool") = some false)
def fb_16 : Hv.Fb := fun K => decide (PySem.W.subIn K (.ref (He.ga K "Kind")) (.type "str") = some false)
def fb_17 : Hv.Fb := fun K => decide (PySem.W.subIn K (.ref (He.ga K "Kind")) (.type "list") = some false)
def fb_18 : Hv.Fb := fun K => decide (PySem.W.subIn K (.ref (He.ga K "Kind")) (.type "tuple") = some false)
def fb_19 : Hv.Fb := fun K => decide (PySem.W.subIn K (.type "NoneType") (.ref (He.ga K "Kind")) = some false)
def fb_20 : Hv.Fb := fun K => decide (PySem.W.subIn K (.type "int") (.ref (He.ga K "Kind")) = some false)
def fb_21 : Hv.Fb := fun K => decide (PySem.W.subIn K (.type "bool") (.ref (He.ga K "Kind")) = some false)
def fb_22 : Hv.Fb := fun K => decide (PySem.W.subIn K (.type "str") (.ref (He.ga K "Kind")) = some false)
def fb_23 : Hv.Fb := fun K => decide (PySem.W.subIn K (.type "list") (.ref (He.ga K "Kind")) = some false)
def fb_24 : Hv.Fb := fun K => decide (PySem.W.subIn K (.type "tuple") (.ref (He.ga K "Kind")) = some false)
def fb_25 : Hv.Fb := fun K => decide (PySem.W.notFirst K (He.ga K "Kind") (.ref (He.ga K "Kind")) = true)
def fb_26 : Hv.Fb := fun K => decide (PySem.W.kitOne K (.ref (He.ga K "Kind")) (.ref (He.ga K "Kind")) = some true)
def fb_27 : Hv.Fb := fun K => decide (PySem.W.kitOne K (.type "NoneType") (.ref (He.ga K "Kind")) = some false)
def fb_28 : Hv.Fb := fun K => decide (PySem.W.kitOne K (.type "int") (.ref (He.ga K "Kind")) = some false)
def fb_29 : Hv.Fb := fun K => decide (PySem.W.kitOne K (.type "bool") (.ref (He.ga K "Kind")) = some false)
def fb_30 : Hv.Fb := fun K => decide (PySem.W.kitOne K (.type "str") (.ref (He.ga K "Kind")) = some false)
def fb_31 : Hv.Fb := fun K => decide (PySem.W.kitOne K (.type "list") (.ref (He.ga K "Kind")) = some false)
def fb_32 : Hv.Fb := fun K => decide (PySem.W.kitOne K (.type "tuple") (.ref (He.ga K "Kind")) = some false)
def fb_33 : Hv.Fb := fun K => decide (PySem.W.specialIn K (.builtin "object.__class__") "__get__" = some (some (.builtin "getset_descriptor.__get__")))
def fb_34 : Hv.Fb := fun K => decide (PySem.W.takesIn K (.builtin "object.__class__") = some true)
def fb_35 : Hv.Fb := fun K => decide (PySem.W.nsIn K mainGlobals "Row" = some (some (.ref (He.ga K "Row"))))
def fb_36 : Hv.Fb := fun K => decide (PySem.W.plainGet K (He.ga K "Row") Str.empty = true)
def fb_37 : Hv.Fb := fun K => decide (PySem.W.hasDictIn K (He.ga K "Row") = true)
def fb_38 : Hv.Fb := fun K => decide (PySem.W.plainOver K (He.ga K "Row") = true)
def fb_39 : Hv.Fb := fun K => decide (PySem.W.findIn K (.ref (He.ga K "Row")) "__setattr__" = some (some (.builtin "object.__setattr__")))
def fb_40 : Hv.Fb := fun K => decide (PySem.W.findIn K (.ref (He.ga K "Row")) "__class__" = some (some (.builtin "object.__class__")))
def fb_41 : Hv.Fb := fun K => decide (PySem.W.mroIn K (He.ga K "Row") (.type "object") = some true)
def fb_42 : Hv.Fb := fun K => decide (PySem.W.keepIn K (.ref (He.ga K "Row")) = true)
def fb_43 : Hv.Fb := fun K => decide (PySem.W.makesIn K (He.ga K "Row") = true)
def fb_44 : Hv.Fb := fun K => decide (PySem.W.findIn K (.ref (He.ga K "Row")) "__ne__" = some (some (.builtin "object.__ne__")))
def fb_45 : Hv.Fb := fun K => decide (PySem.W.findIn K (.ref (He.ga K "Row")) "__bool__" = some none)
def fb_46 : Hv.Fb := fun K => decide (PySem.W.findIn K (.ref (He.ga K "Row")) "__len__" = some none)
def fb_47 : Hv.Fb := fun K => decide (PySem.W.findIn K (.ref (He.ga K "Row")) "parts" = some none)
def fb_48 : Hv.Fb := fun K => decide (PySem.W.subIn K (.ref (He.ga K "Row")) (.type "NoneType") = some false)
def fb_49 : Hv.Fb := fun K => decide (PySem.W.subIn K (.ref (He.ga K "Row")) (.type "int") = some false)
def fb_50 : Hv.Fb := fun K => decide (PySem.W.subIn K (.ref (He.ga K "Row")) (.type "bool") = some false)
def fb_51 : Hv.Fb := fun K => decide (PySem.W.subIn K (.ref (He.ga K "Row")) (.type "str") = some false)
def fb_52 : Hv.Fb := fun K => decide (PySem.W.subIn K (.ref (He.ga K "Row")) (.type "list") = some false)
def fb_53 : Hv.Fb := fun K => decide (PySem.W.subIn K (.ref (He.ga K "Row")) (.type "tuple") = some false)
def fb_54 : Hv.Fb := fun K => decide (PySem.W.subIn K (.type "NoneType") (.ref (He.ga K "Row")) = some false)
def fb_55 : Hv.Fb := fun K => decide (PySem.W.subIn K (.type "int") (.ref (He.ga K "Row")) = some false)
def fb_56 : Hv.Fb := fun K => decide (PySem.W.subIn K (.type "bool") (.ref (He.ga K "Row")) = some false)
def fb_57 : Hv.Fb := fun K => decide (PySem.W.subIn K (.type "str") (.ref (He.ga K "Row")) = some false)
def fb_58 : Hv.Fb := fun K => decide (PySem.W.subIn K (.type "list") (.ref (He.ga K "Row")) = some false)
def fb_59 : Hv.Fb := fun K => decide (PySem.W.subIn K (.type "tuple") (.ref (He.ga K "Row")) = some false)
def fb_60 : Hv.Fb := fun K => decide (PySem.W.notFirst K (He.ga K "Row") (.ref (He.ga K "Row")) = true)
def fb_61 : Hv.Fb := fun K => decide (PySem.W.kitOne K (.ref (He.ga K "Row")) (.ref (He.ga K "Row")) = some true)
def fb_62 : Hv.Fb := fun K => decide (PySem.W.kitOne K (.type "NoneType") (.ref (He.ga K "Row")) = some false)
def fb_63 : Hv.Fb := fun K => decide (PySem.W.kitOne K (.type "int") (.ref (He.ga K "Row")) = some false)
def fb_64 : Hv.Fb := fun K => decide (PySem.W.kitOne K (.type "bool") (.ref (He.ga K "Row")) = some false)
def fb_65 : Hv.Fb := fun K => decide (PySem.W.kitOne K (.type "str") (.ref (He.ga K "Row")) = some false)
def fb_66 : Hv.Fb := fun K => decide (PySem.W.kitOne K (.type "list") (.ref (He.ga K "Row")) = some false)
def fb_67 : Hv.Fb := fun K => decide (PySem.W.kitOne K (.type "tuple") (.ref (He.ga K "Row")) = some false)
def fb_68 : Hv.Fb := fun K => decide (PySem.W.notFirst K (He.ga K "Kind") (.ref (He.ga K "Row")) = true)
def fb_69 : Hv.Fb := fun K => decide (PySem.W.kitOne K (.ref (He.ga K "Kind")) (.ref (He.ga K "Row")) = some false)
def fb_70 : Hv.Fb := fun K => decide (PySem.W.notFirst K (He.ga K "Row") (.ref (He.ga K "Kind")) = true)
def fb_71 : Hv.Fb := fun K => decide (PySem.W.kitOne K (.ref (He.ga K "Row")) (.ref (He.ga K "Kind")) = some false)
def fb_72 : Hv.Fb := fun K => Hv.methB "Kind" "__init__" K
def fb_73 : Hv.Fb := fun K => kindKwB K
def fb_74 : Hv.Fb := fun K => Hv.methB "Kind" "__eq__" K
def fb_75 : Hv.Fb := fun K => Hv.methB "Row" "__init__" K
def fb_76 : Hv.Fb := fun K => Hv.propB "Row" "outer" K
def fb_77 : Hv.Fb := fun K => Hv.propB "Row" "inner" K
def fb_78 : Hv.Fb := fun K => Hv.propB "Row" "amount" K
def fb_79 : Hv.Fb := fun K => Hv.methB "Row" "__eq__" K
def fb_80 : Hv.Fb := fun K => decide (PySem.W.nsIn K mainGlobals "InvalidName" = some (some (.ref (He.ga K "InvalidName"))))
def fb_81 : Hv.Fb := fun K => decide (PySem.W.nsIn K mainGlobals "InvalidNumber" = some (some (.ref (He.ga K "InvalidNumber"))))
def fb_82 : Hv.Fb := fun K => decide (PySem.W.nsIn K mainGlobals "InvalidBound" = some (some (.ref (He.ga K "InvalidBound"))))
def fb_83 : Hv.Fb := fun K => decide (PySem.W.nsIn K mainGlobals "InvalidNeeds" = some (some (.ref (He.ga K "InvalidNeeds"))))
def fb_84 : Hv.Fb := fun K => decide (PySem.W.nsIn K mainGlobals "InvalidClosing" = some (some (.ref (He.ga K "InvalidClosing"))))
def fb_85 : Hv.Fb := fun K => decide (PySem.W.nsIn K mainGlobals "InvalidEnds" = some (some (.ref (He.ga K "InvalidEnds"))))
def fb_86 : Hv.Fb := fun K => decide (PySem.W.nsIn K mainGlobals "InvalidAmount" = some (some (.ref (He.ga K "InvalidAmount"))))
def fb_87 : Hv.Fb := fun K => decide (PySem.W.nsIn K mainGlobals "InvalidText" = some (some (.ref (He.ga K "InvalidText"))))
def fb_88 : Hv.Fb := fun K => decide (PySem.W.nsIn K mainGlobals "InvalidHouse" = some (some (.ref (He.ga K "InvalidHouse"))))
def fb_89 : Hv.Fb := fun K => decide (PySem.W.nsIn K mainGlobals "InvalidShare" = some (some (.ref (He.ga K "InvalidShare"))))
def fb_90 : Hv.Fb := fun K => decide (PySem.W.nsIn K mainGlobals "InvalidLimit" = some (some (.ref (He.ga K "InvalidLimit"))))
def fb_91 : Hv.Fb := fun K => decide (PySem.W.nsIn K mainGlobals "InvalidLength" = some (some (.ref (He.ga K "InvalidLength"))))
def fb_92 : Hv.Fb := fun K => decide (PySem.W.nsIn K mainGlobals "InvalidWish" = some (some (.ref (He.ga K "InvalidWish"))))
def fb_93 : Hv.Fb := fun K => decide (PySem.W.nsIn K mainGlobals "InvalidIndex" = some (some (.ref (He.ga K "InvalidIndex"))))
def fb_94 : Hv.Fb := fun K => decide (PySem.W.nsIn K mainGlobals "NotRules" = some (some (.ref (He.ga K "NotRules"))))
def fb_95 : Hv.Fb := fun K => decide (PySem.W.nsIn K mainGlobals "InvalidKinds" = some (some (.ref (He.ga K "InvalidKinds"))))
def fb_96 : Hv.Fb := fun K => decide (PySem.W.nsIn K mainGlobals "InvalidRows" = some (some (.ref (He.ga K "InvalidRows"))))
def fb_97 : Hv.Fb := fun K => decide (PySem.W.nsIn K mainGlobals "InvalidChanges" = some (some (.ref (He.ga K "InvalidChanges"))))
def fb_98 : Hv.Fb := fun K => decide (PySem.W.nsIn K mainGlobals "InvalidWishes" = some (some (.ref (He.ga K "InvalidWishes"))))
def fb_99 : Hv.Fb := fun K => decide (PySem.W.nsIn K mainGlobals "UnknownName" = some (some (.ref (He.ga K "UnknownName"))))
def fb_100 : Hv.Fb := fun K => decide (PySem.W.nsIn K mainGlobals "UnknownMember" = some (some (.ref (He.ga K "UnknownMember"))))
def fb_101 : Hv.Fb := fun K => decide (PySem.W.nsIn K mainGlobals "InUse" = some (some (.ref (He.ga K "InUse"))))
def fb_102 : Hv.Fb := fun K => decide (PySem.W.nsIn K mainGlobals "NotFinite" = some (some (.ref (He.ga K "NotFinite"))))
def fb_103 : Hv.Fb := fun K => decide (PySem.W.nsIn K mainGlobals "Over" = some (some (.ref (He.ga K "Over"))))
def fb_104 : Hv.Fb := fun K => decide (PySem.W.nsIn K mainGlobals "IsClosed" = some (some (.ref (He.ga K "IsClosed"))))
def fb_105 : Hv.Fb := fun K => decide (PySem.W.nsIn K mainGlobals "NotListed" = some (some (.ref (He.ga K "NotListed"))))
def fb_106 : Hv.Fb := fun K => decide (PySem.W.nsIn K mainGlobals "TooFew" = some (some (.ref (He.ga K "TooFew"))))
def fb_107 : Hv.Fb := fun K => decide (PySem.W.nsIn K mainGlobals "UsedUp" = some (some (.ref (He.ga K "UsedUp"))))
def fb_108 : Hv.Fb := fun K => decide (PySem.W.nsIn K mainGlobals "CannotClose" = some (some (.ref (He.ga K "CannotClose"))))
def fb_109 : Hv.Fb := fun K => decide (PySem.W.nsIn K mainGlobals "NothingToUndo" = some (some (.ref (He.ga K "NothingToUndo"))))
def fb_110 : Hv.Fb := fun K => decide (PySem.W.nsIn K mainGlobals "Broken" = some (some (.ref (He.ga K "Broken"))))
def fb_111 : Hv.Fb := fun K => decide (PySem.W.nsIn K mainGlobals "WrongValue" = some (some (.ref (He.ga K "WrongValue"))))
def fb_112 : Hv.Fb := fun K => decide (PySem.W.nsIn K mainGlobals "WrongName" = some (some (.ref (He.ga K "WrongName"))))
def fb_113 : Hv.Fb := fun K => decide (PySem.W.nsIn K mainGlobals "NotPossible" = some (some (.ref (He.ga K "NotPossible"))))
def fb_114 : Hv.Fb := fun K => decide (errB K [(He.ga K "InvalidName"), (He.ga K "InvalidNumber"), (He.ga K "InvalidBound"), (He.ga K "InvalidNeeds"), (He.ga K "InvalidClosing"), (He.ga K "InvalidEnds"), (He.ga K "InvalidAmount"), (He.ga K "InvalidText"), (He.ga K "InvalidHouse"), (He.ga K "InvalidShare"), (He.ga K "InvalidLimit"), (He.ga K "InvalidLength"), (He.ga K "InvalidWish"), (He.ga K "InvalidIndex"), (He.ga K "NotRules"), (He.ga K "InvalidKinds"), (He.ga K "InvalidRows"), (He.ga K "InvalidChanges"), (He.ga K "InvalidWishes"), (He.ga K "UnknownName"), (He.ga K "UnknownMember"), (He.ga K "InUse"), (He.ga K "NotFinite"), (He.ga K "Over"), (He.ga K "IsClosed"), (He.ga K "NotListed"), (He.ga K "TooFew"), (He.ga K "UsedUp"), (He.ga K "CannotClose"), (He.ga K "NothingToUndo"), (He.ga K "Broken"), (He.ga K "WrongValue"), (He.ga K "WrongName"), (He.ga K "NotPossible")] 0 = true)
def fb_115 : Hv.Fb := fun K => Hv.errInB "InvalidName" K
def fb_116 : Hv.Fb := fun K => decide (errB K [(He.ga K "InvalidName"), (He.ga K "InvalidNumber"), (He.ga K "InvalidBound"), (He.ga K "InvalidNeeds"), (He.ga K "InvalidClosing"), (He.ga K "InvalidEnds"), (He.ga K "InvalidAmount"), (He.ga K "InvalidText"), (He.ga K "InvalidHouse"), (He.ga K "InvalidShare"), (He.ga K "InvalidLimit"), (He.ga K "InvalidLength"), (He.ga K "InvalidWish"), (He.ga K "InvalidIndex"), (He.ga K "NotRules"), (He.ga K "InvalidKinds"), (He.ga K "InvalidRows"), (He.ga K "InvalidChanges"), (He.ga K "InvalidWishes"), (He.ga K "UnknownName"), (He.ga K "UnknownMember"), (He.ga K "InUse"), (He.ga K "NotFinite"), (He.ga K "Over"), (He.ga K "IsClosed"), (He.ga K "NotListed"), (He.ga K "TooFew"), (He.ga K "UsedUp"), (He.ga K "CannotClose"), (He.ga K "NothingToUndo"), (He.ga K "Broken"), (He.ga K "WrongValue"), (He.ga K "WrongName"), (He.ga K "NotPossible")] 6 = true)
def fb_117 : Hv.Fb := fun K => Hv.errInB "InvalidAmount" K
def fb_118 : Hv.Fb := fun K => decide (PySem.W.nsIn K mainGlobals "_law_right" = some (some (.ref (He.ga K "_law_right"))))
def fb_119 : Hv.Fb := fun K => decide (PySem.W.nsIn K mainGlobals "law" = some (some (.ref (He.ga K "law"))))
def fb_120 : Hv.Fb := fun K => decide ((He.cT K ("_law_right", none)).2 ≠ (He.cT K ("law", none)).2)
def fb_121 : Hv.Fb := fun K => decide (PySem.W.nsIn K mainGlobals "is_integer" = some (some (.ref (He.ga K "is_integer"))))
def fb_122 : Hv.Fb := fun K => decide (PySem.W.nsIn K mainGlobals "is_name" = some (some (.ref (He.ga K "is_name"))))
def fb_123 : Hv.Fb := fun K => decide (PySem.W.nsIn K mainGlobals "common_divisor" = some (some (.ref (He.ga K "common_divisor"))))
def fb_124 : Hv.Fb := fun K => decide (PySem.W.nsIn K mainGlobals "number_of" = some (some (.ref (He.ga K "number_of"))))
def fb_125 : Hv.Fb := fun K => decide (PySem.W.nsIn K mainGlobals "fraction_of" = some (some (.ref (He.ga K "fraction_of"))))
def fb_126 : Hv.Fb := fun K => decide (PySem.W.nsIn K mainGlobals "is_bound" = some (some (.ref (He.ga K "is_bound"))))
def fb_127 : Hv.Fb := fun K => decide (PySem.W.nsIn K mainGlobals "is_needs" = some (some (.ref (He.ga K "is_needs"))))
def fb_128 : Hv.Fb := fun K => decide (PySem.W.nsIn K mainGlobals "is_closing" = some (some (.ref (He.ga K "is_closing"))))
def fb_129 : Hv.Fb := fun K => decide (PySem.W.nsIn K mainGlobals "sort_of" = some (some (.ref (He.ga K "sort_of"))))
def fb_130 : Hv.Fb := fun K => decide (PySem.W.nsIn K mainGlobals "_law_seed" = some (some (.ref (He.ga K "_law_seed"))))
def fb_131 : Hv.Fb := fun K => decide (PySem.W.nsIn K mainGlobals "_law_bag" = some (some (.ref (He.ga K "_law_bag"))))
def fb_132 : Hv.Fb := fun K => decide (PySem.W.nsIn K mainGlobals "_law_take" = some (some (.ref (He.ga K "_law_take"))))
def fb_133 : Hv.Fb := fun K => decide (PySem.W.nsIn K mainGlobals "_law_terms" = some (some (.ref (He.ga K "_law_terms"))))
def fb_134 : Hv.Fb := fun K => decide (PySem.W.nsIn K mainGlobals "_law_sort" = some (some (.ref (He.ga K "_law_sort"))))
def fb_135 : Hv.Fb := fun K => decide (PySem.W.nsIn K mainGlobals "_law_held" = some (some (.ref (He.ga K "_law_held"))))
def fb_136 : Hv.Fb := fun K => decide (PySem.W.nsIn K mainGlobals "_law_caught" = some (some (.ref (He.ga K "_law_caught"))))
def fb_137 : Hv.Fb := fun K => decide (PySem.W.nsIn K mainGlobals "_law_tag" = some (some (.ref (He.ga K "_law_tag"))))
def fb_138 : Hv.Fb := fun K => decide (PySem.W.nsIn K mainGlobals "_law_tags" = some (some (.ref (He.ga K "_law_tags"))))
def fb_139 : Hv.Fb := fun K => decide (PySem.W.nsIn K mainGlobals "_law_amounts" = some (some (.ref (He.ga K "_law_amounts"))))
def fb_140 : Hv.Fb := fun K => decide (PySem.W.nsIn K mainGlobals "_law_bent" = some (some (.ref (He.ga K "_law_bent"))))
def fb_141 : Hv.Fb := fun K => decide (PySem.W.nsIn K mainGlobals "_law_is_tag" = some (some (.ref (He.ga K "_law_is_tag"))))
def fb_142 : Hv.Fb := fun K => decide (PySem.W.nsIn K mainGlobals "_law_odd" = some (some (.ref (He.ga K "_law_odd"))))
def fb_143 : Hv.Fb := fun K => decide (PySem.W.nsIn K mainGlobals "_law_drawn" = some (some (.ref (He.ga K "_law_drawn"))))
def fb_144 : Hv.Fb := fun K => decide (PySem.W.nsIn K mainGlobals "_law_due" = some (some (.ref (He.ga K "_law_due"))))
def fb_145 : Hv.Fb := fun K => decide (PySem.W.nsIn K mainGlobals "_law_shown" = some (some (.ref (He.ga K "_law_shown"))))
def fb_146 : Hv.Fb := fun K => decide (PySem.W.nsIn K mainGlobals "_law_same" = some (some (.ref (He.ga K "_law_same"))))
def fb_147 : Hv.Fb := fun K => decide (PySem.W.nsIn K mainGlobals "ArithmeticError" = some none)
def fb_148 : Hv.Fb := fun K => decide (PySem.W.nsIn K mainGlobals "LookupError" = some none)
def fb_149 : Hv.Fb := fun K => decide (PySem.W.nsIn K mainGlobals "ValueError" = some none)
def fb_150 : Hv.Fb := fun K => decide (PySem.W.nsIn K mainGlobals "abs" = some none)
def fb_151 : Hv.Fb := fun K => decide (PySem.W.nsIn K mainGlobals "all" = some none)
def fb_152 : Hv.Fb := fun K => decide (PySem.W.nsIn K mainGlobals "any" = some none)
def fb_153 : Hv.Fb := fun K => decide (PySem.W.nsIn K mainGlobals "bool" = some none)
def fb_154 : Hv.Fb := fun K => decide (PySem.W.nsIn K mainGlobals "divmod" = some none)
def fb_155 : Hv.Fb := fun K => decide (PySem.W.nsIn K mainGlobals "int" = some none)
def fb_156 : Hv.Fb := fun K => decide (PySem.W.nsIn K mainGlobals "isinstance" = some none)
def fb_157 : Hv.Fb := fun K => decide (PySem.W.nsIn K mainGlobals "len" = some none)
def fb_158 : Hv.Fb := fun K => decide (PySem.W.nsIn K mainGlobals "list" = some none)
def fb_159 : Hv.Fb := fun K => decide (PySem.W.nsIn K mainGlobals "max" = some none)
def fb_160 : Hv.Fb := fun K => decide (PySem.W.nsIn K mainGlobals "min" = some none)
def fb_161 : Hv.Fb := fun K => decide (PySem.W.nsIn K mainGlobals "property" = some none)
def fb_162 : Hv.Fb := fun K => decide (PySem.W.nsIn K mainGlobals "range" = some none)
def fb_163 : Hv.Fb := fun K => decide (PySem.W.nsIn K mainGlobals "repr" = some none)
def fb_164 : Hv.Fb := fun K => decide (PySem.W.nsIn K mainGlobals "str" = some none)
def fb_165 : Hv.Fb := fun K => decide (PySem.W.nsIn K mainGlobals "tuple" = some none)
def fb_166 : Hv.Fb := fun K => Hv.intB "MOST_TALKS" (3) K
def fb_167 : Hv.Fb := fun K => Hv.intB "MOST_TIMES" (3) K
def fb_168 : Hv.Fb := fun K => Hv.intB "MOST_AFTER" (3) K
def fb_169 : Hv.Fb := fun K => Hv.intB "MOST_NEEDS" (9) K
def fb_170 : Hv.Fb := fun K => Hv.intB "MOST_PART" (12) K
def fb_171 : Hv.Fb := fun K => Hv.strB "DIGITS" "0123456789" K
def fb_172 : Hv.Fb := fun K => Hv.strB "LETTERS" "abcdefghijklmnopqrstuvwxyz" K
def fb_173 : Hv.Fb := fun K => Hv.strB "MARK" "over " K
def fbs_0 : List Hv.Fb := [fb_0, fb_1, fb_2, fb_3, fb_4, fb_5, fb_6, fb_7, fb_8, fb_9, fb_10, fb_11, fb_12, fb_13, fb_14, fb_15, fb_16, fb_17, fb_18, fb_19, fb_20, fb_21, fb_22, fb_23, fb_24, fb_25, fb_26, fb_27, fb_28, fb_29]
def fbs_1 : List Hv.Fb := [fb_30, fb_31, fb_32, fb_33, fb_34, fb_35, fb_36, fb_37, fb_38, fb_39, fb_40, fb_41, fb_42, fb_43, fb_44, fb_45, fb_46, fb_47, fb_48, fb_49, fb_50, fb_51, fb_52, fb_53, fb_54, fb_55, fb_56, fb_57, fb_58, fb_59]
def fbs_2 : List Hv.Fb := [fb_60, fb_61, fb_62, fb_63, fb_64, fb_65, fb_66, fb_67, fb_68, fb_69, fb_70, fb_71, fb_72, fb_73, fb_74, fb_75, fb_76, fb_77, fb_78, fb_79, fb_80, fb_81, fb_82, fb_83, fb_84, fb_85, fb_86, fb_87, fb_88, fb_89]
def fbs_3 : List Hv.Fb := [fb_90, fb_91, fb_92, fb_93, fb_94, fb_95, fb_96, fb_97, fb_98, fb_99, fb_100, fb_101, fb_102, fb_103, fb_104, fb_105, fb_106, fb_107, fb_108, fb_109, fb_110, fb_111, fb_112, fb_113, fb_114, fb_115, fb_116, fb_117, fb_118, fb_119]
def fbs_4 : List Hv.Fb := [fb_120, fb_121, fb_122, fb_123, fb_124, fb_125, fb_126, fb_127, fb_128, fb_129, fb_130, fb_131, fb_132, fb_133, fb_134, fb_135, fb_136, fb_137, fb_138, fb_139, fb_140, fb_141, fb_142, fb_143, fb_144, fb_145, fb_146, fb_147, fb_148, fb_149]
def fbs_5 : List Hv.Fb := [fb_150, fb_151, fb_152, fb_153, fb_154, fb_155, fb_156, fb_157, fb_158, fb_159, fb_160, fb_161, fb_162, fb_163, fb_164, fb_165, fb_166, fb_167, fb_168, fb_169, fb_170, fb_171, fb_172, fb_173]
def fbs : List Hv.Fb := fbs_0 ++ (fbs_1 ++ (fbs_2 ++ (fbs_3 ++ (fbs_4 ++ (fbs_5)))))
def fns_0 : List Hv.DefQ := [Hv.defM "Kind" "__init__" "Kind.__init__" s_Kind_init, Hv.defM "Kind" "__eq__" "Kind.__eq__" s_Kind_eq, Hv.defM "Row" "__init__" "Row.__init__" s_Row_init, Hv.defP "Row" "outer" "Row.outer" s_Row_outer, Hv.defP "Row" "inner" "Row.inner" s_Row_inner, Hv.defP "Row" "amount" "Row.amount" s_Row_amount, Hv.defM "Row" "__eq__" "Row.__eq__" s_Row_eq, Hv.defM "InvalidName" "__init__" "InvalidName.__init__" (inClass (top 2) 0), Hv.defM "InvalidAmount" "__init__" "InvalidAmount.__init__" (inClass (top 8) 0), Hv.defG "_law_right" s_right, Hv.defG "law" s_law, Hv.defG "is_integer" s_is_integer, Hv.defG "is_name" s_is_name, Hv.defG "common_divisor" s_common_divisor, Hv.defG "number_of" s_number_of, Hv.defG "fraction_of" s_fraction_of, Hv.defG "is_bound" s_is_bound, Hv.defG "is_needs" s_is_needs, Hv.defG "is_closing" s_is_closing, Hv.defG "sort_of" s_sort_of, Hv.defG "_law_seed" s_seed, Hv.defG "_law_bag" s_bag, Hv.defG "_law_take" s_take, Hv.defG "_law_terms" s_terms, Hv.defG "_law_sort" s_sort, Hv.defG "_law_held" s_held, Hv.defG "_law_caught" s_caught, Hv.defG "_law_tag" s_tag, Hv.defG "_law_tags" s_tags, Hv.defG "_law_amounts" s_amounts]
def fns_1 : List Hv.DefQ := [Hv.defG "_law_bent" s_bent, Hv.defG "_law_is_tag" s_is_tag, Hv.defG "_law_odd" s_odd, Hv.defG "_law_drawn" s_drawn, Hv.defG "_law_due" s_due, Hv.defG "_law_shown" s_shown, Hv.defG "_law_same" s_same]
def fns : List Hv.DefQ := fns_0 ++ (fns_1)
def hfs_0 : List Str := ["is_integer", "is_name", "common_divisor", "number_of", "fraction_of", "is_bound", "is_needs", "is_closing", "sort_of", "_law_seed", "_law_bag", "_law_take", "_law_terms", "_law_sort", "_law_held", "_law_caught", "_law_tag", "_law_tags", "_law_amounts", "_law_bent", "_law_is_tag", "_law_odd", "_law_drawn", "_law_due", "_law_shown", "_law_same", "_law_right", "law"]
def hfs : List Str := hfs_0
def hcs_0 : List Str := ["Kind", "Row", "InvalidName", "InvalidAmount"]
def hcs : List Str := hcs_0
def hds_0 : List Str := ["InvalidNumber", "InvalidBound", "InvalidNeeds", "InvalidClosing", "InvalidEnds", "InvalidText", "InvalidHouse", "InvalidShare", "InvalidLimit", "InvalidLength", "InvalidWish", "InvalidIndex", "NotRules", "InvalidKinds", "InvalidRows", "InvalidChanges", "InvalidWishes", "UnknownName", "UnknownMember", "InUse", "NotFinite", "Over", "IsClosed", "NotListed", "TooFew", "UsedUp", "CannotClose", "NothingToUndo", "Broken", "WrongValue"]
def hds_1 : List Str := ["WrongName", "NotPossible"]
def hds : List Str := hds_0 ++ (hds_1)
def htf_0 : List Str := ["_law_right", "law"]
def htf : List Str := htf_0
def loose_0 : List Str := ["__name__", "WrongValue", "InvalidName", "InvalidNumber", "InvalidBound", "InvalidNeeds", "InvalidClosing", "InvalidEnds", "InvalidAmount", "InvalidText", "InvalidHouse", "InvalidShare", "InvalidLimit", "InvalidLength", "InvalidWish", "InvalidIndex", "NotRules", "InvalidKinds", "InvalidRows", "InvalidChanges", "InvalidWishes", "WrongName", "UnknownName", "UnknownMember", "InUse", "NotPossible", "NotFinite", "Over", "IsClosed", "NotListed"]
def loose_1 : List Str := ["TooFew", "UsedUp", "CannotClose", "NothingToUndo", "Broken", "MOST_TALKS", "MOST_TIMES", "MOST_AFTER", "MOST_NEEDS", "MOST_PART", "DIGITS", "LETTERS", "is_integer", "is_name", "common_divisor", "number_of", "MARK", "fraction_of", "is_bound", "is_needs", "is_closing", "sort_of", "Kind", "Row", "_law_seed", "_law_bag", "_law_take", "_law_terms", "_law_sort", "_law_held"]
def loose_2 : List Str := ["_law_caught", "_law_tag", "_law_tags", "_law_amounts", "_law_bent", "_law_is_tag", "_law_odd", "_law_drawn", "_law_due", "_law_shown", "_law_same", "_law_right"]
def loose : List Str := loose_0 ++ (loose_1 ++ (loose_2))
abbrev hk : PySem.W.Hook := Hv.hookO hfs hcs hds fbs fns htf
def ob (s : PySem.W.SharedT) : Hv.Ob := Hv.obT hfs hcs hds fbs fns htf s
theorem ob_eq (s : PySem.W.SharedT) : ob s = hk.obs s.abs := Hv.obT_eq s
theorem run (w : World) : HandSHeadRun.RunEq R (PySem.W.view R.prog [76]) hk ob 60000 loose w := by
  intro os
  kernel_rfl
theorem all_in {w : World} {mg : Str → Option Value} {fa : Addr} {h : Heap} {K : PySem.W.Frag} (c : Hv.Says fbs fns htf h K) (G : h.Ns mainGlobals mg) (hfa : mg "law" = some (.ref fa)) : Hv.LawT PySem.Challenge.rw_heldvotes_k06_rows_made_and_refused w K 11 63 "_law_script" mg fa htf :=
  all_mk c.kin G hfa (C := (He.ga K "Kind")) (CR := (He.ga K "Row")) (E0 := (He.ga K "InvalidName")) (E1 := (He.ga K "InvalidNumber")) (E2 := (He.ga K "InvalidBound")) (E3 := (He.ga K "InvalidNeeds")) (E4 := (He.ga K "InvalidClosing")) (E5 := (He.ga K "InvalidEnds")) (E6 := (He.ga K "InvalidAmount")) (E7 := (He.ga K "InvalidText")) (E8 := (He.ga K "InvalidHouse")) (E9 := (He.ga K "InvalidShare")) (E10 := (He.ga K "InvalidLimit")) (E11 := (He.ga K "InvalidLength")) (E12 := (He.ga K "InvalidWish")) (E13 := (He.ga K "InvalidIndex")) (E14 := (He.ga K "NotRules")) (E15 := (He.ga K "InvalidKinds")) (E16 := (He.ga K "InvalidRows")) (E17 := (He.ga K "InvalidChanges")) (E18 := (He.ga K "InvalidWishes")) (E19 := (He.ga K "UnknownName")) (E20 := (He.ga K "UnknownMember")) (E21 := (He.ga K "InUse")) (E22 := (He.ga K "NotFinite")) (E23 := (He.ga K "Over")) (E24 := (He.ga K "IsClosed")) (E25 := (He.ga K "NotListed")) (E26 := (He.ga K "TooFew")) (E27 := (He.ga K "UsedUp")) (E28 := (He.ga K "CannotClose")) (E29 := (He.ga K "NothingToUndo")) (E30 := (He.ga K "Broken")) (E31 := (He.ga K "WrongValue")) (E32 := (He.ga K "WrongName")) (E33 := (He.ga K "NotPossible")) (tc_right := (He.cT K ("_law_right", none)).1) (tp_right := (He.cT K ("_law_right", none)).2) (tc_law := (He.cT K ("law", none)).1) (tp_law := (He.cT K ("law", none)).2)
    (o_Kind_a := (of_decide_eq_true (c.b 0 (f := fb_0) rfl)))
    (o_Kind_pg := (of_decide_eq_true (c.b 1 (f := fb_1) rfl)))
    (o_Kind_hd := (of_decide_eq_true (c.b 2 (f := fb_2) rfl)))
    (o_Kind_po := (of_decide_eq_true (c.b 3 (f := fb_3) rfl)))
    (o_Kind_sa := (of_decide_eq_true (c.b 4 (f := fb_4) rfl)))
    (o_Kind_ha := (of_decide_eq_true (c.b 5 (f := fb_5) rfl)))
    (o_Kind_hm := (of_decide_eq_true (c.b 6 (f := fb_6) rfl)))
    (o_Kind_kp := (of_decide_eq_true (c.b 7 (f := fb_7) rfl)))
    (o_Kind_mk := (of_decide_eq_true (c.b 8 (f := fb_8) rfl)))
    (o_Kind_ne := (of_decide_eq_true (c.b 9 (f := fb_9) rfl)))
    (o_Kind_bo := (of_decide_eq_true (c.b 10 (f := fb_10) rfl)))
    (o_Kind_le := (of_decide_eq_true (c.b 11 (f := fb_11) rfl)))
    (o_Kind_na_parts := (of_decide_eq_true (c.b 12 (f := fb_12) rfl)))
    (o_Kind_s0 := (of_decide_eq_true (c.b 13 (f := fb_13) rfl)))
    (o_Kind_s1 := (of_decide_eq_true (c.b 14 (f := fb_14) rfl)))
    (o_Kind_s2 := (of_decide_eq_true (c.b 15 (f := fb_15) rfl)))
    (o_Kind_s3 := (of_decide_eq_true (c.b 16 (f := fb_16) rfl)))
    (o_Kind_s4 := (of_decide_eq_true (c.b 17 (f := fb_17) rfl)))
    (o_Kind_s5 := (of_decide_eq_true (c.b 18 (f := fb_18) rfl)))
    (o_Kind_u0 := (of_decide_eq_true (c.b 19 (f := fb_19) rfl)))
    (o_Kind_u1 := (of_decide_eq_true (c.b 20 (f := fb_20) rfl)))
    (o_Kind_u2 := (of_decide_eq_true (c.b 21 (f := fb_21) rfl)))
    (o_Kind_u3 := (of_decide_eq_true (c.b 22 (f := fb_22) rfl)))
    (o_Kind_u4 := (of_decide_eq_true (c.b 23 (f := fb_23) rfl)))
    (o_Kind_u5 := (of_decide_eq_true (c.b 24 (f := fb_24) rfl)))
    (o_Kind_nf := (of_decide_eq_true (c.b 25 (f := fb_25) rfl)))
    (o_Kind_k1 := (of_decide_eq_true (c.b 26 (f := fb_26) rfl)))
    (o_Kind_q0 := (of_decide_eq_true (c.b 27 (f := fb_27) rfl)))
    (o_Kind_q1 := (of_decide_eq_true (c.b 28 (f := fb_28) rfl)))
    (o_Kind_q2 := (of_decide_eq_true (c.b 29 (f := fb_29) rfl)))
    (o_Kind_q3 := (of_decide_eq_true (c.b 30 (f := fb_30) rfl)))
    (o_Kind_q4 := (of_decide_eq_true (c.b 31 (f := fb_31) rfl)))
    (o_Kind_q5 := (of_decide_eq_true (c.b 32 (f := fb_32) rfl)))
    (o_cls1 := (of_decide_eq_true (c.b 33 (f := fb_33) rfl)))
    (o_cls2 := (of_decide_eq_true (c.b 34 (f := fb_34) rfl)))
    (o_Row_a := (of_decide_eq_true (c.b 35 (f := fb_35) rfl)))
    (o_Row_pg := (of_decide_eq_true (c.b 36 (f := fb_36) rfl)))
    (o_Row_hd := (of_decide_eq_true (c.b 37 (f := fb_37) rfl)))
    (o_Row_po := (of_decide_eq_true (c.b 38 (f := fb_38) rfl)))
    (o_Row_sa := (of_decide_eq_true (c.b 39 (f := fb_39) rfl)))
    (o_Row_ha := (of_decide_eq_true (c.b 40 (f := fb_40) rfl)))
    (o_Row_hm := (of_decide_eq_true (c.b 41 (f := fb_41) rfl)))
    (o_Row_kp := (of_decide_eq_true (c.b 42 (f := fb_42) rfl)))
    (o_Row_mk := (of_decide_eq_true (c.b 43 (f := fb_43) rfl)))
    (o_Row_ne := (of_decide_eq_true (c.b 44 (f := fb_44) rfl)))
    (o_Row_bo := (of_decide_eq_true (c.b 45 (f := fb_45) rfl)))
    (o_Row_le := (of_decide_eq_true (c.b 46 (f := fb_46) rfl)))
    (o_Row_na_parts := (of_decide_eq_true (c.b 47 (f := fb_47) rfl)))
    (o_Row_s0 := (of_decide_eq_true (c.b 48 (f := fb_48) rfl)))
    (o_Row_s1 := (of_decide_eq_true (c.b 49 (f := fb_49) rfl)))
    (o_Row_s2 := (of_decide_eq_true (c.b 50 (f := fb_50) rfl)))
    (o_Row_s3 := (of_decide_eq_true (c.b 51 (f := fb_51) rfl)))
    (o_Row_s4 := (of_decide_eq_true (c.b 52 (f := fb_52) rfl)))
    (o_Row_s5 := (of_decide_eq_true (c.b 53 (f := fb_53) rfl)))
    (o_Row_u0 := (of_decide_eq_true (c.b 54 (f := fb_54) rfl)))
    (o_Row_u1 := (of_decide_eq_true (c.b 55 (f := fb_55) rfl)))
    (o_Row_u2 := (of_decide_eq_true (c.b 56 (f := fb_56) rfl)))
    (o_Row_u3 := (of_decide_eq_true (c.b 57 (f := fb_57) rfl)))
    (o_Row_u4 := (of_decide_eq_true (c.b 58 (f := fb_58) rfl)))
    (o_Row_u5 := (of_decide_eq_true (c.b 59 (f := fb_59) rfl)))
    (o_Row_nf := (of_decide_eq_true (c.b 60 (f := fb_60) rfl)))
    (o_Row_k1 := (of_decide_eq_true (c.b 61 (f := fb_61) rfl)))
    (o_Row_q0 := (of_decide_eq_true (c.b 62 (f := fb_62) rfl)))
    (o_Row_q1 := (of_decide_eq_true (c.b 63 (f := fb_63) rfl)))
    (o_Row_q2 := (of_decide_eq_true (c.b 64 (f := fb_64) rfl)))
    (o_Row_q3 := (of_decide_eq_true (c.b 65 (f := fb_65) rfl)))
    (o_Row_q4 := (of_decide_eq_true (c.b 66 (f := fb_66) rfl)))
    (o_Row_q5 := (of_decide_eq_true (c.b 67 (f := fb_67) rfl)))
    (o_Kind_Row_nf := (of_decide_eq_true (c.b 68 (f := fb_68) rfl)))
    (o_Kind_Row_kt := (of_decide_eq_true (c.b 69 (f := fb_69) rfl)))
    (o_Row_Kind_nf := (of_decide_eq_true (c.b 70 (f := fb_70) rfl)))
    (o_Row_Kind_kt := (of_decide_eq_true (c.b 71 (f := fb_71) rfl)))
    (m_Kind_init := (kindInit_of (c.b 72 (f := fb_72) rfl) (c.b 73 (f := fb_73) rfl) (c.d 0 (f := Hv.defM "Kind" "__init__" "Kind.__init__" s_Kind_init) rfl)))
    (m_Kind_eq := (Hv.methIn_of (c.b 74 (f := fb_74) rfl) (c.d 1 (f := Hv.defM "Kind" "__eq__" "Kind.__eq__" s_Kind_eq) rfl)))
    (m_Row_init := (Hv.methIn_of (c.b 75 (f := fb_75) rfl) (c.d 2 (f := Hv.defM "Row" "__init__" "Row.__init__" s_Row_init) rfl)))
    (m_Row_outer := (Hv.propIn_of (c.b 76 (f := fb_76) rfl) (c.d 3 (f := Hv.defP "Row" "outer" "Row.outer" s_Row_outer) rfl)))
    (m_Row_inner := (Hv.propIn_of (c.b 77 (f := fb_77) rfl) (c.d 4 (f := Hv.defP "Row" "inner" "Row.inner" s_Row_inner) rfl)))
    (m_Row_amount := (Hv.propIn_of (c.b 78 (f := fb_78) rfl) (c.d 5 (f := Hv.defP "Row" "amount" "Row.amount" s_Row_amount) rfl)))
    (m_Row_eq := (Hv.methIn_of (c.b 79 (f := fb_79) rfl) (c.d 6 (f := Hv.defM "Row" "__eq__" "Row.__eq__" s_Row_eq) rfl)))
    (n_E0 := (of_decide_eq_true (c.b 80 (f := fb_80) rfl)))
    (n_E1 := (of_decide_eq_true (c.b 81 (f := fb_81) rfl)))
    (n_E2 := (of_decide_eq_true (c.b 82 (f := fb_82) rfl)))
    (n_E3 := (of_decide_eq_true (c.b 83 (f := fb_83) rfl)))
    (n_E4 := (of_decide_eq_true (c.b 84 (f := fb_84) rfl)))
    (n_E5 := (of_decide_eq_true (c.b 85 (f := fb_85) rfl)))
    (n_E6 := (of_decide_eq_true (c.b 86 (f := fb_86) rfl)))
    (n_E7 := (of_decide_eq_true (c.b 87 (f := fb_87) rfl)))
    (n_E8 := (of_decide_eq_true (c.b 88 (f := fb_88) rfl)))
    (n_E9 := (of_decide_eq_true (c.b 89 (f := fb_89) rfl)))
    (n_E10 := (of_decide_eq_true (c.b 90 (f := fb_90) rfl)))
    (n_E11 := (of_decide_eq_true (c.b 91 (f := fb_91) rfl)))
    (n_E12 := (of_decide_eq_true (c.b 92 (f := fb_92) rfl)))
    (n_E13 := (of_decide_eq_true (c.b 93 (f := fb_93) rfl)))
    (n_E14 := (of_decide_eq_true (c.b 94 (f := fb_94) rfl)))
    (n_E15 := (of_decide_eq_true (c.b 95 (f := fb_95) rfl)))
    (n_E16 := (of_decide_eq_true (c.b 96 (f := fb_96) rfl)))
    (n_E17 := (of_decide_eq_true (c.b 97 (f := fb_97) rfl)))
    (n_E18 := (of_decide_eq_true (c.b 98 (f := fb_98) rfl)))
    (n_E19 := (of_decide_eq_true (c.b 99 (f := fb_99) rfl)))
    (n_E20 := (of_decide_eq_true (c.b 100 (f := fb_100) rfl)))
    (n_E21 := (of_decide_eq_true (c.b 101 (f := fb_101) rfl)))
    (n_E22 := (of_decide_eq_true (c.b 102 (f := fb_102) rfl)))
    (n_E23 := (of_decide_eq_true (c.b 103 (f := fb_103) rfl)))
    (n_E24 := (of_decide_eq_true (c.b 104 (f := fb_104) rfl)))
    (n_E25 := (of_decide_eq_true (c.b 105 (f := fb_105) rfl)))
    (n_E26 := (of_decide_eq_true (c.b 106 (f := fb_106) rfl)))
    (n_E27 := (of_decide_eq_true (c.b 107 (f := fb_107) rfl)))
    (n_E28 := (of_decide_eq_true (c.b 108 (f := fb_108) rfl)))
    (n_E29 := (of_decide_eq_true (c.b 109 (f := fb_109) rfl)))
    (n_E30 := (of_decide_eq_true (c.b 110 (f := fb_110) rfl)))
    (n_E31 := (of_decide_eq_true (c.b 111 (f := fb_111) rfl)))
    (n_E32 := (of_decide_eq_true (c.b 112 (f := fb_112) rfl)))
    (n_E33 := (of_decide_eq_true (c.b 113 (f := fb_113) rfl)))
    (x_E0 := (of_decide_eq_true (c.b 114 (f := fb_114) rfl)))
    (y_E0 := (Hv.errIn_of (st := inClass (top 2) 0) (c.b 115 (f := fb_115) rfl) (c.d 7 (f := Hv.defM "InvalidName" "__init__" "InvalidName.__init__" (inClass (top 2) 0)) rfl) ⟨_, _, rfl⟩ ⟨_, _, _, _, rfl⟩ rfl))
    (x_E6 := (of_decide_eq_true (c.b 116 (f := fb_116) rfl)))
    (y_E6 := (Hv.errIn_of (st := inClass (top 8) 0) (c.b 117 (f := fb_117) rfl) (c.d 8 (f := Hv.defM "InvalidAmount" "__init__" "InvalidAmount.__init__" (inClass (top 8) 0)) rfl) ⟨_, _, rfl⟩ ⟨_, _, _, _, rfl⟩ rfl))
    (t_right := (Hv.tabIn_of c (by decide) (c.d 9 (f := Hv.defG "_law_right" s_right) rfl) (of_decide_eq_true (c.b 118 (f := fb_118) rfl))))
    (t_law := (Hv.tabIn_of c (by decide) (c.d 10 (f := Hv.defG "law" s_law) rfl) (of_decide_eq_true (c.b 119 (f := fb_119) rfl))))
    (tn_right_law := (of_decide_eq_true (c.b 120 (f := fb_120) rfl)))
    (d_is_integer := (Hv.defIn_of (c.d 11 (f := Hv.defG "is_integer" s_is_integer) rfl) (of_decide_eq_true (c.b 121 (f := fb_121) rfl))))
    (d_is_name := (Hv.defIn_of (c.d 12 (f := Hv.defG "is_name" s_is_name) rfl) (of_decide_eq_true (c.b 122 (f := fb_122) rfl))))
    (d_common_divisor := (Hv.defIn_of (c.d 13 (f := Hv.defG "common_divisor" s_common_divisor) rfl) (of_decide_eq_true (c.b 123 (f := fb_123) rfl))))
    (d_number_of := (Hv.defIn_of (c.d 14 (f := Hv.defG "number_of" s_number_of) rfl) (of_decide_eq_true (c.b 124 (f := fb_124) rfl))))
    (d_fraction_of := (Hv.defIn_of (c.d 15 (f := Hv.defG "fraction_of" s_fraction_of) rfl) (of_decide_eq_true (c.b 125 (f := fb_125) rfl))))
    (d_is_bound := (Hv.defIn_of (c.d 16 (f := Hv.defG "is_bound" s_is_bound) rfl) (of_decide_eq_true (c.b 126 (f := fb_126) rfl))))
    (d_is_needs := (Hv.defIn_of (c.d 17 (f := Hv.defG "is_needs" s_is_needs) rfl) (of_decide_eq_true (c.b 127 (f := fb_127) rfl))))
    (d_is_closing := (Hv.defIn_of (c.d 18 (f := Hv.defG "is_closing" s_is_closing) rfl) (of_decide_eq_true (c.b 128 (f := fb_128) rfl))))
    (d_sort_of := (Hv.defIn_of (c.d 19 (f := Hv.defG "sort_of" s_sort_of) rfl) (of_decide_eq_true (c.b 129 (f := fb_129) rfl))))
    (d_seed := (Hv.defIn_of (c.d 20 (f := Hv.defG "_law_seed" s_seed) rfl) (of_decide_eq_true (c.b 130 (f := fb_130) rfl))))
    (d_bag := (Hv.defIn_of (c.d 21 (f := Hv.defG "_law_bag" s_bag) rfl) (of_decide_eq_true (c.b 131 (f := fb_131) rfl))))
    (d_take := (Hv.defIn_of (c.d 22 (f := Hv.defG "_law_take" s_take) rfl) (of_decide_eq_true (c.b 132 (f := fb_132) rfl))))
    (d_terms := (Hv.defIn_of (c.d 23 (f := Hv.defG "_law_terms" s_terms) rfl) (of_decide_eq_true (c.b 133 (f := fb_133) rfl))))
    (d_sort := (Hv.defIn_of (c.d 24 (f := Hv.defG "_law_sort" s_sort) rfl) (of_decide_eq_true (c.b 134 (f := fb_134) rfl))))
    (d_held := (Hv.defIn_of (c.d 25 (f := Hv.defG "_law_held" s_held) rfl) (of_decide_eq_true (c.b 135 (f := fb_135) rfl))))
    (d_caught := (Hv.defIn_of (c.d 26 (f := Hv.defG "_law_caught" s_caught) rfl) (of_decide_eq_true (c.b 136 (f := fb_136) rfl))))
    (d_tag := (Hv.defIn_of (c.d 27 (f := Hv.defG "_law_tag" s_tag) rfl) (of_decide_eq_true (c.b 137 (f := fb_137) rfl))))
    (d_tags := (Hv.defIn_of (c.d 28 (f := Hv.defG "_law_tags" s_tags) rfl) (of_decide_eq_true (c.b 138 (f := fb_138) rfl))))
    (d_amounts := (Hv.defIn_of (c.d 29 (f := Hv.defG "_law_amounts" s_amounts) rfl) (of_decide_eq_true (c.b 139 (f := fb_139) rfl))))
    (d_bent := (Hv.defIn_of (c.d 30 (f := Hv.defG "_law_bent" s_bent) rfl) (of_decide_eq_true (c.b 140 (f := fb_140) rfl))))
    (d_is_tag := (Hv.defIn_of (c.d 31 (f := Hv.defG "_law_is_tag" s_is_tag) rfl) (of_decide_eq_true (c.b 141 (f := fb_141) rfl))))
    (d_odd := (Hv.defIn_of (c.d 32 (f := Hv.defG "_law_odd" s_odd) rfl) (of_decide_eq_true (c.b 142 (f := fb_142) rfl))))
    (d_drawn := (Hv.defIn_of (c.d 33 (f := Hv.defG "_law_drawn" s_drawn) rfl) (of_decide_eq_true (c.b 143 (f := fb_143) rfl))))
    (d_due := (Hv.defIn_of (c.d 34 (f := Hv.defG "_law_due" s_due) rfl) (of_decide_eq_true (c.b 144 (f := fb_144) rfl))))
    (d_shown := (Hv.defIn_of (c.d 35 (f := Hv.defG "_law_shown" s_shown) rfl) (of_decide_eq_true (c.b 145 (f := fb_145) rfl))))
    (d_same := (Hv.defIn_of (c.d 36 (f := Hv.defG "_law_same" s_same) rfl) (of_decide_eq_true (c.b 146 (f := fb_146) rfl))))
    (d_right := (Hv.defIn_of (c.d 9 (f := Hv.defG "_law_right" s_right) rfl) (of_decide_eq_true (c.b 118 (f := fb_118) rfl))))
    (d_law := (Hv.defIn_of (c.d 10 (f := Hv.defG "law" s_law) rfl) (of_decide_eq_true (c.b 119 (f := fb_119) rfl))))
    (b_ArithmeticError := (of_decide_eq_true (c.b 147 (f := fb_147) rfl)))
    (b_LookupError := (of_decide_eq_true (c.b 148 (f := fb_148) rfl)))
    (b_ValueError := (of_decide_eq_true (c.b 149 (f := fb_149) rfl)))
    (b_abs := (of_decide_eq_true (c.b 150 (f := fb_150) rfl)))
    (b_all := (of_decide_eq_true (c.b 151 (f := fb_151) rfl)))
    (b_any := (of_decide_eq_true (c.b 152 (f := fb_152) rfl)))
    (b_bool := (of_decide_eq_true (c.b 153 (f := fb_153) rfl)))
    (b_divmod := (of_decide_eq_true (c.b 154 (f := fb_154) rfl)))
    (b_int := (of_decide_eq_true (c.b 155 (f := fb_155) rfl)))
    (b_isinstance := (of_decide_eq_true (c.b 156 (f := fb_156) rfl)))
    (b_len := (of_decide_eq_true (c.b 157 (f := fb_157) rfl)))
    (b_list := (of_decide_eq_true (c.b 158 (f := fb_158) rfl)))
    (b_max := (of_decide_eq_true (c.b 159 (f := fb_159) rfl)))
    (b_min := (of_decide_eq_true (c.b 160 (f := fb_160) rfl)))
    (b_property := (of_decide_eq_true (c.b 161 (f := fb_161) rfl)))
    (b_range := (of_decide_eq_true (c.b 162 (f := fb_162) rfl)))
    (b_repr := (of_decide_eq_true (c.b 163 (f := fb_163) rfl)))
    (b_str := (of_decide_eq_true (c.b 164 (f := fb_164) rfl)))
    (b_tuple := (of_decide_eq_true (c.b 165 (f := fb_165) rfl)))
    (c_MOST_TALKS := (Hv.intIn_of (c.b 166 (f := fb_166) rfl)))
    (c_MOST_TIMES := (Hv.intIn_of (c.b 167 (f := fb_167) rfl)))
    (c_MOST_AFTER := (Hv.intIn_of (c.b 168 (f := fb_168) rfl)))
    (c_MOST_NEEDS := (Hv.intIn_of (c.b 169 (f := fb_169) rfl)))
    (c_MOST_PART := (Hv.intIn_of (c.b 170 (f := fb_170) rfl)))
    (c_DIGITS := (Hv.strIn_of (c.b 171 (f := fb_171) rfl)))
    (c_LETTERS := (Hv.strIn_of (c.b 172 (f := fb_172) rfl)))
    (c_MARK := (Hv.strIn_of (c.b 173 (f := fb_173) rfl)))
end L

open PySem PySem.W PySem.Calls PyProof.Rows in
set_option maxRecDepth 100000 in
set_option maxHeartbeats 0 in
theorem PySem.Challenge.cw_heldvotes_k06_rows_made_and_refused_holds : PySem.Challenge.rw_heldvotes_k06_rows_made_and_refused.Holds := by
  w_on; o_law
  refine HandSHeadRun.head_any (r := OpenLaw.row PySem.Challenge.rw_heldvotes_k06_rows_made_and_refused) (q := view (OpenLaw.row PySem.Challenge.rw_heldvotes_k06_rows_made_and_refused).prog [76]) (H := L.hk) (ob := L.ob) (M := 60000) (loose := L.loose) (d := HandSHeadRun.topDef (OpenLaw.row PySem.Challenge.rw_heldvotes_k06_rows_made_and_refused).prog 76) (kwd := []) L.ob_eq
    (by kernel_rfl) (fun s => by kernel_rfl) L.run (by kernel_rfl) (by kernel_rfl) (by kernel_rfl) (by rfl) (by first | assumption | decide +kernel) (by decide +kernel) ⟨rfl, rfl, rfl, rfl, rfl, by decide +kernel⟩ ?hw ?hc
  case hw => w_witness2
  case hc =>
    refine Hv.walkTE (l := PySem.Challenge.rw_heldvotes_k06_rows_made_and_refused) (n := 63) (k := 11) (x := "_law_script") (fb := L.fbs) (fn := L.fns) L.htf rfl (by decide) (by kernel_rfl) ⟨rfl, by decide, by decide⟩ (fun w h Y => Y) ?F
    intro w mg fa h K c G hmg0
    have hmg : mg ("law" : PySem.Str) = some (.ref fa) := by
      have e : (HandSHeadRun.topDef (OpenLaw.row PySem.Challenge.rw_heldvotes_k06_rows_made_and_refused).prog 76).name = ("law" : PySem.Str) := by kernel_rfl
      rw [← e]
      exact hmg0
    exact L.all_in c G hmg


