import PyProof.Rows.All
import Wide.All
import OpenK.AllK
import Wide.FinOn
import HandS.ForMost
import HandS.ForExc
import HandS.EndBits
import HandS.Wide
import HandS.WideBits
import HandS.IsInst
import HandS.StrMore
import HandS.Style
import HandS.Evl
import PyProof.ReprRoads
import HandS.ReplaceDef
import HandS.ReplaceLit
import HandS.NoneIn
import HandS.Walk
import HandS.Codes
import KE.KOpsOwn
import KE.KCallOwn
import HandS.SlotsOwn
import HandS.More
import PyProof.TwoTypes
import PyProof.StrReplace2
import HandS.FStr
import HandS.TupLe
import KE.RegKIsAll
import PyProof.FactsAll.object_2
import PyProof.FactsAll.str_1
import PyProof.FactsAll.str_2
import PyProof.FactsAll.tuple_1
import PyProof.FactsAll.tuple_2
import PyProof.FactsAll.list_1
import PyProof.FactsAll.list_2
import PyProof.FactsAll.int_1
import PyProof.FactsAll.int_2
import PyProof.FactsAll.int_3
import PyProof.FactsAll.NoneType_1
import PyProof.FactsAll.bool_1
import PyProof.FactsAll.bool_2
import HandS.OwnEq
import HandS.ForSpec
import KE.DataCmp
import HandS.Lambda
import HandS.HotCalls
import HandS.ExcIs
import HandS.ExcField
import KE.KTryMore
import HandS.ExcInit
import PyProof.ReprBulk
import PyProof.Rows.RegStrFacts
import HandS.Dict
import HandS.EndTab
import HandS.Deep
import KE.DataFind
import HandS.Property
import HandS.Records
import HandS.MakeKwOnly
import HandS.RaiseMore
import HandS.Head0
import HandS.Head1
import HandS.Head2
import HandS.HeadEnd
import HandS.HeadHook1
import HandS.HeadHook2
import HandS.HeadHook4
import PySem.Challenge.RW_heldvotes_k14_lengths_ordered
set_option Elab.async false
set_option linter.all false
set_option maxRecDepth 100000
set_option maxHeartbeats 4000000
namespace Hv
open PySem PySem.Spec PyProof.Rows L2

/-- a promise that is kept wherever no repr is under way -/
structure OkG (P : Program) (w : World) (K : PySem.W.Frag) (mg : Str → Option Value) (base : Heap) (CX : CXT) (k : Nat)
    (f : Addr) (fd : FuncData) (ps : List Str) (sp : Sp) : Prop where
  len : ∀ vs H Q E, sp vs H Q E → vs.length = ps.length
  run : ∀ (A : Around) (outer : List Env) (s : Shared) (H : Hp) (args : Args) (us : List Value) (vs : List V) (Q : VK) (E : XK),
    A.guards = some [] → Room k A → Env0 P w K mg base A outer s H → BindsTo s fd args (ps.zip us) → Vals vs us →
    sp vs H Q E → codeAny (model P w) A (.call (.ref f) args) (CR CX outer P w H s Q E) s

section
variable {P : Program} {w : World} {K : PySem.W.Frag} {mg : Str → Option Value} {base : Heap} {CX : CXT} {k : Nat}
  {f : Addr} {fd : FuncData} {ps : List Str} {sp : Sp}
theorem OkG.of (F : FnOk P w K mg base CX k f fd ps sp) : OkG P w K mg base CX k f fd ps sp :=
  ⟨F.len, fun A outer s H args us vs Q E _ => F.run A outer s H args us vs Q E⟩
theorem OkG.mono {j : Nat} (F : OkG P w K mg base CX j f fd ps sp) (h : j ≤ k) : OkG P w K mg base CX k f fd ps sp :=
  ⟨F.len, fun A outer s H args us vs Q E hg hr => F.run A outer s H args us vs Q E hg (hr.mono h)⟩

/-- the rule for a def, where no repr is under way -/
theorem okG {x qual : Str} {st : Stmt} {N : List Str} (F : Fun K x qual st f fd) (S : FnScope N ps (defScope st))
    (len : ∀ vs H Q E, sp vs H Q E → vs.length = ps.length)
    (body : ∀ (cdv : Value) (A : Around) (outer : List Env) (s : Shared) (H : Hp) (vs : List V) (Q : VK) (E : XK),
      A.guards = some [] → Room k (A.deeper (envOfC qual (defScope st) s.heap.objs.size f cdv)) → sp vs H Q E →
      ∃ t, PSs (cxOf CX P w K mg base N qual (defScope st) f cdv A outer s H E) (defBody st) t ∧
        t { nx := fun _ H' => Q .non H', rt := Q } (start N vs) H) :
    OkG P w K mg base CX (k + 1) f fd ps sp := by
  obtain ⟨oc, od, kV, doc, pm, an, cdv, ct, osl, rfl, lk, hcd⟩ := F.ex
  constructor
  · exact len
  intro A outer s H args us vs Q E hg hr e0 hb r hsp
  have KX : K.In s.heap := e0.mod.kin.keeps (fun b o e => (e0.bs b o e).1)
  have lim := e0.mod.nolimit.keeps (fun b o e => (e0.bs b o e).1)
  have kinds : ∀ y ∈ ps.zip us, (defScope st).names.lookup y.1 = some .local ∨
      ((defScope st).names.lookup y.1 = some .cell ∧
        ((cellsFrom (s.heap.objs.size + 1) (defScope st).names []).lookup y.1).isSome = true) := by
    rintro ⟨n, v⟩ hy
    cases S.par n (List.of_mem_zip hy).1 with
    | inl q => exact Or.inl q
    | inr q => exact Or.inr ⟨q, PySem.W.cellsFrom_some _ _ _ (Or.inl q)⟩
  apply codeAny_call_function hr.depth (KX _ _ lk) rfl S.co S.gen rfl (PySem.W.codeRec_of KX hcd)
  apply hb
  refine wpAny_newFunctionEnv_cells S.kind kinds ?_
  rintro env rfl s1 x
  refine ⟨lim.keeps x.toInCall.keep, codeAny_func ?_⟩
  obtain ⟨t, ht, hq⟩ := body cdv A outer s H vs Q E hg (hr.deeper _) hsp
  have I := inv_start (CX := CX) (E := E) S hr.hd e0 (len _ _ _ _ hsp) r x
  apply wpAny_mono (ht.run [] s1 (start N vs) H _ I hq)
  · intro fl s' hs
    cases fl with
    | ret u =>
      obtain ⟨v, σ', H', J, rv, q⟩ := hs
      exact ⟨v, H', J.os, J.bare, J.base, J.hok, rv, q⟩
    | next =>
      obtain ⟨σ', H', J, q⟩ := hs
      exact ⟨V.non, H', J.os, J.bare, J.base, J.hok, rfl, q⟩
    | brk =>
      obtain ⟨_, _, _, q⟩ := hs
      exact q.elim
    | cont =>
      obtain ⟨_, _, _, q⟩ := hs
      exact q.elim
  · intro e s' hs
    exact hs
end

theorem okG0 {P : Program} {w : World} {K : PySem.W.Frag} {mg : Str → Option Value} {base : Heap} {k : Nat} {f : Addr} {fd : FuncData} {ps : List Str} {sp : Sp}
    {x qual : Str} {st : Stmt} {N : List Str} (F : Fun K x qual st f fd) (S : FnScope N ps (defScope st)) (len : ∀ vs H Q E, sp vs H Q E → vs.length = ps.length)
    (body : ∀ (cdv : Value) (A : Around) (outer : List Env) (s : Shared) (H : Hp) (vs : List V) (Q : VK) (E : XK),
      A.guards = some [] → Room k (A.deeper (envOfC qual (defScope st) s.heap.objs.size f cdv)) → sp vs H Q E →
      ∃ t, PSs (cxOf CX0 P w K mg base N qual (defScope st) f cdv A outer s H E).nox (defBody st) t ∧
        t { nx := fun _ H' => Q .non H', rt := Q } (start N vs) H) : OkG P w K mg base CX0 (k + 1) f fd ps sp :=
  okG F S len fun cdv A outer s H vs Q E hg hr hsp =>
    let ⟨t, h, q⟩ := body cdv A outer s H vs Q E hg hr hsp
    ⟨t, h.nox, q⟩
section
variable {X : Cx} {CX : CXT} {k : Nat} {f : Addr} {fd : FuncData} {ps : List Str} {sp : Sp} {dvs : List V} {ds : List Value}
  {E : XK} {x : Str} {p pos : Pos} {e : Expr} {es : List Expr} {t : TA}
theorem runG {pins : List (Addr × Obj)} {σ : L2.St} {H : Hp} {s : Shared} {Q : VK} {us : List Value} {vs : List V}
    (F : OkG X.prog X.w X.K X.mg X.base CX k f fd ps sp) (hG : X.A.guards = some []) (hr : Room k X.A)
    (hb : Binds X.K fd ps ds) (hd : Vals dvs ds) (hx : Passes CX X E) (I : Inv X pins σ H s) (r : Vals vs us)
    (h : sp (vs ++ dvs) H Q E) : wpAny (model X.prog X.w) X.A (call (.ref f) us) (EP X pins σ Q) X.xe s := by
  have r2 : Vals (vs ++ dvs) (us ++ ds) := r.append hd
  have hl : (us ++ ds).length = ps.length := r2.length.symm.trans (F.len _ _ _ _ h)
  have go := F.run X.A X.stack s H ⟨us, []⟩ (us ++ ds) (vs ++ dvs) Q E hG hr I.env0 (hb s us I.kIn hl) r2 h
  refine wpAny_call (codeAny_mono go ?_)
  intro r s' hq
  match r, hq with
  | .error e, hq => exact hx pins σ H s e s' I hq
  | .ok (.ret u), hq => exact I.after hq
  | .ok .next, hq => exact hq.elim
  | .ok .brk, hq => exact hq.elim
  | .ok .cont, hq => exact hq.elim
/-- f(e, ..) for such a def -/
theorem pe_callG (F : OkG X.prog X.w X.K X.mg X.base CX k f fd ps sp) (hG : X.A.guards = some []) (hr : Room k X.A) (hg : Gl X x)
    (hm : X.mg x = some (.ref f)) (hk : PySem.W.keepIn X.K (.ref f) = true) (hb : Binds X.K fd ps ds) (hd : Vals dvs ds)
    (hx : Passes CX X E) (ha : PA X (e :: es) t) (hdb : (x == ("__debug__" : Str)) = false := by decide)
    (he : starEach (e :: es) X.env = (false, eval e X.env) :: starEach es X.env := by rfl)
    (hpl : (backTo pos (starEach es X.env)).any (·.1) = false := by rfl) :
    PE X (.Call (.Name x p) (e :: es) [] pos) (tCall sp dvs E t) := by
  constructor
  intro pins s σ H Q I h
  apply wpAny_Call_Name_kw
  refine ld_glob I hg hm ?_ hdb
  refine PySem.W.callWith_K (h₀ := X.base) I.ok.mod.kin hk (thn (ha.run pos pins s σ H _ I h) ?_) he hpl
  rintro us s1 ⟨vs, H1, I1, r, q⟩
  exact ⟨I1.kIn, runG F hG hr hb hd hx I1 r q⟩
theorem pe_call0G (F : OkG X.prog X.w X.K X.mg X.base CX k f fd ps sp) (hG : X.A.guards = some []) (hr : Room k X.A) (hg : Gl X x)
    (hm : X.mg x = some (.ref f)) (hk : PySem.W.keepIn X.K (.ref f) = true) (hb : Binds X.K fd ps ds) (hd : Vals dvs ds)
    (hx : Passes CX X E) (hdb : (x == ("__debug__" : Str)) = false := by decide) :
    PE X (.Call (.Name x p) [] [] pos) (tCall sp dvs E tNil) := by
  constructor
  intro pins s σ H Q I h
  apply wpAny_Call_Name_kw
  refine ld_glob I hg hm ?_ hdb
  exact PySem.W.callWith_K0 I.kIn hk (runG (us := []) F hG hr hb hd hx I .nil h)

/-- repr of data -/
@[irreducible] def rRepr (K : PySem.W.Frag) : List V → Hp → VK → Prop := fun xs H Q => ∃ v d, xs = [v] ∧ Dp K H v d ∧ d.showable = true ∧ d.hasDict = false ∧ d.depth ≤ 60 ∧ d.shown.length ≤ sizeLine ∧ Q (.str d.shown) H
theorem rd_repr {K : PySem.W.Frag} {H : Hp} {v : V} {d : PyData} {Q : VK} (hv : Dp K H v d) (h1 : d.showable = true) (h2 : d.hasDict = false) (h3 : d.depth ≤ 60) (h4 : d.shown.length ≤ sizeLine) (q : Q (.str d.shown) H) : rRepr K [v] H Q := by
  unfold rRepr
  exact ⟨v, d, rfl, hv, h1, h2, h3, h4, q⟩
theorem cr_repr (hG : X.A.guards = some []) (hu : X.A.units + 64 < cLine) : CallR X (.builtin "repr") (rRepr X.K) := by
  intro pins s σ H xs us Q I r h
  unfold rRepr at h
  obtain ⟨v, d, rfl, hd, hs, hn, hdep, hz, q⟩ := h
  obtain ⟨u, rfl, ru⟩ : ∃ u, us = [u] ∧ RelV v u := by
    cases r with
    | cons a b => cases b with | nil => exact ⟨_, rfl, a⟩
  obtain ⟨as, rd⟩ := Dp.reads I d v u hd ru
  cases hd with
  | non => cases ru; exact PySem.P.repr_of_none ⟨.str _, H, I.tok _, ⟨_, rfl⟩, q⟩
  | bl b => cases ru; exact PySem.P.repr_of_bool ⟨.str _, H, I.tok _, ⟨_, rfl⟩, q⟩
  | int i =>
    obtain ⟨t, rfl⟩ := ru
    refine PySem.P.repr_of_int ?_ ⟨.str _, H, I.tok _, ⟨_, rfl⟩, q⟩
    simpa [PyData.showable] using hs
  | str z =>
    obtain ⟨t, rfl⟩ := ru
    exact PySem.P.repr_of_str ⟨.str _, H, I.tok _, ⟨_, rfl⟩, q⟩ hz
  | lst h1 h2 =>
    cases ru
    refine repr_of_reads' rd hs (by rw [hn]; intro z; cases z) hG (by omega) (fun _ _ e => e) ?_ hz
    intro h' u' tk hk
    exact ⟨.str _, H, I.kept hk, ⟨_, rfl⟩, q⟩
  | tup h1 h2 =>
    cases ru
    refine repr_of_reads' rd hs (by rw [hn]; intro z; cases z) hG (by omega) (fun _ _ e => e) ?_ hz
    intro h' u' tk hk
    exact ⟨.str _, H, I.kept hk, ⟨_, rfl⟩, q⟩
end

/-! ### the end: the law's call, where no repr is under way -/
theorem old_of {P : Program} {w : World} {H H' : Hp} {h h' : Heap} (hO : Only H) (un : Un (frs []) [] H H' h h') (ok : HOk P w H h) (ok' : HOk P w H' h') : OldK h h' := by
  apply OldK.of_keep
  intro b o e
  rcases hO b with z | ⟨ob, xs, z⟩
  · exact un.keep b o e z (by intro q; cases q) (by intro q; cases q)
  · have k1 := (ok b _ z).1
    have k2 := (ok' b _ (un.frzs b ob _ z)).1
    rw [e] at k1
    cases k1
    exact k2
theorem call_lawG {P : Program} {w : World} {K : PySem.W.Frag} {mg mb : Str → Option Value} {CX : CXT} {k : Nat} {fa a : Addr} {fd : FuncData}
    {x : Str} {sp : Sp} {s : Shared} {vs : List Value} {ns : List Int} (KX : K.In s.heap) (gl : s.heap.Ns mainGlobals mg)
    (bl : s.heap.Ns builtinsNs mb) (hbb : ∀ x : Str, x ≠ "__name__" → mb x = bootBuiltins x) (lim : s.heap.NoLimit) (gens : s.gens = #[])
    (ha : s.heap.get? a = some { cls := .type "list", data := .seq vs.toArray }) (hi : IntsAre vs ns) (hl : ns.length ≤ sizeLine)
    (hr : Room k callerA) (F : ∀ base : Heap, K.In base → base.Ns mainGlobals mg → OkG P w K mg base CX k fa fd [x] sp)
    (bind : ∀ (s : Shared) (u : Value), BindsTo s fd ⟨[u], []⟩ [(x, u)])
    (hsp : ∀ H : Hp, SqL K H a (ns.map V.int) → sp [.ref a] H (fun v _ => v = .bl true) fun _ _ _ => False)
    (hCX : ∀ H e s', CX [] H s (fun _ _ _ => False) e s' → False) :
    codeAny (model P w) callerA (.call (.ref fa) ⟨[.ref a], []⟩)
      (fun r s' => r = .ok (.ret (.bool true)) ∧ OldK s.heap s'.heap ∧ s'.os = s.os ∧ AllBare s'.gens) s := by
  have rv := vals_ints hi
  have core : ∀ H : Hp, Only H → SqL K H a (ns.map V.int) → HOk P w H s.heap → (∀ b, H b ≠ none → b = a) → (H a ≠ none → K.lookup a = none) →
      codeAny (model P w) callerA (.call (.ref fa) ⟨[.ref a], []⟩)
        (fun r s' => r = .ok (.ret (.bool true)) ∧ OldK s.heap s'.heap ∧ s'.os = s.os ∧ AllBare s'.gens) s := by
    intro H hO hS ok hA hK
    -- what is no list is not tracked
    have free : ∀ {b : Addr} {o : Obj}, s.heap.get? b = some o → (b = a → H a = none) → H b = none := by
      intro b o _ z
      by_cases q : H b = none
      · exact q
      · have e := hA b q
        rw [e]
        exact z e
    have ns' : ∀ {b : Addr} {m : Str → Option Value}, s.heap.Ns b m → (hidT s.heap H).Ns b m := by
      rintro b m ⟨o, es, ep, e, d, r⟩
      refine ⟨o, es, ep, hidT_get e (free e fun q => ?_), d, r⟩
      subst q
      rw [ha] at e
      cases e
      cases d
    have hKb : K.In (hidT s.heap H) := by
      intro b o e
      refine hidT_get (KX b o e) (free (KX b o e) fun q => ?_)
      subst q
      by_cases z : H b = none
      · exact z
      · rw [hK z] at e
        cases e
    have hM : Mod K mg (hidT s.heap H) := by
      obtain ⟨mc, h1, h2⟩ := lim
      exact ⟨hKb, ns' gl, ⟨mb, ns' bl, hbb⟩, ⟨mc, ns' h1, h2⟩⟩
    have e0 : Env0 P w K mg (hidT s.heap H) callerA [] s H := by
      refine ⟨rfl, hM, fun b o e => of_hidT e, Nat.le_of_eq (hidT_size _ _), trivial, ?_, ok, .of_eq gens⟩
      intro b hb
      cases (show b ∈ ([] : List Addr) from hb)
    have go := (F _ hKb (ns' gl)).run callerA [] s H ⟨[.ref a], []⟩ [.ref a] [.ref a] (fun v _ => v = .bl true) (fun _ _ _ => False)
      rfl hr e0 (bind s (.ref a)) (.cons rfl .nil) (hsp H hS)
    refine codeAny_mono go ?_
    intro r s' h
    match r, h with
    | .error e, h => exact (hCX H e s' h).elim
    | .ok .next, h => exact h.elim
    | .ok .brk, h => exact h.elim
    | .ok .cont, h => exact h.elim
    | .ok (.ret u), h =>
      obtain ⟨v, H', os, bare, un, ok', r', q⟩ := h
      cases (show v = .bl true from q)
      cases (show u = Value.bool true from r')
      exact ⟨rfl, old_of hO un ok ok', os, bare⟩
  by_cases hk : K.lookup a = none
  · refine core (upd (fun _ => none) a (.frz { cls := .type "list", data := .seq vs.toArray } (.lst (ns.map V.int)))) ?_ (.inl (.inr ⟨_, upd_same⟩)) ?_ ?_ fun _ => hk
    · intro b
      by_cases hb : b = a
      · subst hb
        exact .inr ⟨_, _, upd_same⟩
      · exact .inl (upd_ne hb)
    · intro b u z
      by_cases hb : b = a
      · subst hb
        rw [upd_same] at z
        cases z
        exact ⟨ha, by rw [List.length_map]; exact hl, vs, _, rv, ha⟩
      · rw [upd_ne hb] at z
        cases z
    · intro b z
      by_cases hb : b = a
      · exact hb
      · exact absurd (upd_ne hb) z
  · obtain ⟨o, ho⟩ := Option.ne_none_iff_exists'.mp hk
    have e := KX a o ho
    rw [ha] at e
    cases e
    have lenV := hi.length
    refine core (fun _ => none) (fun _ => .inl rfl) (.inr ⟨_, vs.toArray, _, ho, rfl, rfl, rfl, ?_, ?_⟩) ?_ ?_ ?_
    · rw [List.size_toArray, lenV]
      exact hl
    · simpa using rv
    · intro b u z
      cases (show (none : Option HO) = some u from z)
    · intro b z
      exact absurd rfl z
    · intro z
      exact absurd rfl z
theorem walkG {l : PySem.W.OpenLaw} {n k : Nat} {q : Program} {loose : List Str} {XP : (Str → Option Value) → Heap → Prop}
    {YP : World → Heap → Prop} {d : DefRec} {K : Params → PySem.W.Frag} {CX : World → CXT} {sp : World → Sp} {x : Str}
    (hn : l.most = some n) (hn2 : n ≤ sizeLine) (hdf : d.params.defaults = []) (hr : Room k callerA)
    (hY : ∀ (w : World) (h : Heap), YP w h → (K w.params).In h)
    (F : ∀ (w : World) (mg : Str → Option Value) (fa : Addr) (h : Heap), (K w.params).In h → h.Ns mainGlobals mg →
      mg d.name = some (.ref fa) → ∃ fd : FuncData, (∀ (s : Shared) (u : Value), BindsTo s fd ⟨[u], []⟩ [(x, u)]) ∧
        ∀ base : Heap, (K w.params).In base → base.Ns mainGlobals mg → OkG l.prog w (K w.params) mg base (CX w) k fa fd [x] (sp w))
    (hsp : ∀ (w : World) (H : Hp) (a : Addr) (ns : List Int), ns.length ≤ n → (∀ z ∈ ns, Builtin.Int.intBits z ≤ 1048576) →
      SqL (K w.params) H a (ns.map V.int) → sp w [.ref a] H (fun v _ => v = .bl true) fun _ _ _ => False)
    (hCX : ∀ (w : World) (H : Hp) (s : Shared) (e : Value) (s' : Shared), CX w [] H s (fun _ _ _ => False) e s' → False) :
    PySem.W.WalkO q loose XP YP l.row.toRowW d [] (fun f vs => PySem.call f vs) := by
  refine Att.attach_callB hn hdf ?_
  intro w s₀ s₁ mg mb fa o pm cd doc a vs ns G Y ho hd hcd hmg hobj hints hlen hbits hg
  obtain ⟨fd, hb, hF⟩ := F w mg fa _ (hY w _ Y) G.T.g hmg
  exact call_lawG (hY w _ Y) G.T.g G.T.b G.T.builtins G.T.nolimit hg hobj hints (Nat.le_trans hlen hn2) hr hF hb
    (fun H hS => hsp w H a ns hlen hbits hS) (fun H e s' => hCX w H s₁ e s')
end Hv

namespace Hv
open PySem PySem.Spec PyProof.Rows L2
section
variable {X : Cx} {o e : Expr} {to te : TE}
/-- a text's method of one argument; its receiver wants a token -/
theorem pet_m1 {id : String} {name : Str} {apos pos : Pos} {r : V → List V → Hp → VK → Prop} (slot : Slot "str" name id)
    (ty : typeOf (.builtin id) = pure (.type "method_descriptor")) (rule : MtR X id r) (ho : PET X o to) (he : PE X e te)
    (hs : starEach [e] X.env = [(false, eval e X.env)] := by rfl) (hbase : attributeBase o name X.env (eval o X.env) = eval o X.env := by rfl)
    (hline : (apos.endLine == pos.line) = true := by rfl) : PET X (.Call (.Attribute o name apos) [e] [] pos) (tM1 r to te) := by
  intro pins s σ H Q h0 I h
  apply PySem.Call_method1 hbase hs hline
  apply thn (ho pins s σ H _ h0 I h)
  rintro v s1 ⟨x, H1, I1, r1, ⟨a, rfl⟩, q1⟩
  obtain ⟨t, rfl⟩ := _root_.id r1
  refine ⟨"str", _, F.plainAttrs_str, slot, ty, typeIs_str _ _ _, (fun _ e => nomatch e), ?_⟩
  refine Calls.callWith_builtin rfl (Calls.evalArgs_plain (Calls.spliced_cons (thn (he.run pins s1 σ H1 _ I1 q1) ?_)))
  rintro u s2 ⟨y, H2, I2, r2, q2⟩
  exact Calls.spliced_nil (rule pins s2 σ H2 _ [y] _ [u] Q I2 r1 (.cons r2 .nil) q2)
theorem pst_asg {tg : Expr} {g : TG} {pos : Pos} (he : PET X e te) (hg : PG X tg g) (hs : swapsWithSole [tg] e pos.line X.env = pure false := by rfl)
    (hw : swappedStores [tg] e X.env = pure none := by rfl) (h1 : (assignEach [tg] X.env).map (·.2) = [assign tg X.env] := by rfl) :
    PST X (.Assign [tg] e pos) (tAsg te g) := by
  intro pins s σ H D h0 I h
  refine wpAny_Assign_stores (thn (he pins s σ H _ h0 I h) ?_) hs hw
  rintro v s1 ⟨x, H1, I1, r1, q1⟩
  rw [h1]
  exact thn (hg.run pins s1 σ H1 x v _ I1 r1 q1) fun _ s2 q => q
/-- f(k = v, ..), no positional argument -/
theorem pe_callK0 {CX : CXT} {k : Nat} {f : Addr} {fd : FuncData} {ps ks : List Str} {sp : Sp} {E : XK} {x : Str} {p pos : Pos} {kws : List Keyword} {tk : TA}
    {g : List Value → List Value → List Value} {gV : List V → List V → List V} (F : FnOk X.prog X.w X.K X.mg X.base CX k f fd ps sp) (hr : Room k X.A) (hg : Gl X x)
    (hm : X.mg x = some (.ref f)) (hk : PySem.W.keepIn X.K (.ref f) = true) (hb : KBinds X.K fd ps ks g gV) (hx : Passes CX X E) (hkw : PK X kws tk)
    (hall : (backToKw pos (keywordEach kws X.env)).all (·.1.isSome) = true := by rfl) (hks : (backToKw pos (keywordEach kws X.env)).filterMap (·.1) = ks := by rfl)
    (hdb : (x == ("__debug__" : Str)) = false := by decide)
    (hpl : ((backTo pos (starEach [] X.env)).any (·.1) || (backToKw pos (keywordEach kws X.env)).any (·.1.isNone)) = false := by rfl) :
    PE X (.Call (.Name x p) [] kws pos) (tCallK sp gV E tNil tk) := by
  constructor
  intro pins s σ H Q I h
  apply wpAny_Call_Name_kw
  refine ld_glob I hg hm ?_ hdb
  refine PySem.W.callWith_KW0 (h₀ := X.base) I.ok.mod.kin hk hall ?_ hpl
  apply thn (hkw.run pos pins s σ H _ I h)
  rintro ws s2 ⟨zs, H2, I2, rz, q2⟩
  rw [hks]
  exact ⟨I2.kIn, run_fnk (us := []) F hr hb hx I2 .nil rz q2⟩
/-- repr of a truth value -/
theorem cr_reprB : CallR X (.builtin "repr") (fun xs H Q => ∃ b, xs = [.bl b] ∧ Q (.str (if b then "True" else "False")) H) := by
  intro pins s σ H xs us Q I r h
  obtain ⟨b, rfl, q⟩ := h
  cases r with
  | cons a t =>
    cases t
    cases a
    exact PySem.P.repr_of_bool ⟨.str _, H, I.tok _, ⟨_, rfl⟩, q⟩
end
section
variable {P : Program} {w : World} {K : PySem.W.Frag} {mg : Str → Option Value} {base : Heap} {CX : CXT} {k : Nat} {f : Addr} {fd : FuncData} {ps : List Str} {sp : Sp}
/-- the rule for a def without cells: a token is out when its body begins -/
theorem okT {x qual : Str} {st : Stmt} {N : List Str} (F : Fun K x qual st f fd) (S : FnScope N ps (defScope st)) (hnc : ∀ y ∈ (defScope st).names, y.2 ≠ .cell) (hps : 1 ≤ ps.length)
    (len : ∀ vs H Q E, sp vs H Q E → vs.length = ps.length)
    (body : ∀ (cdv : Value) (A : Around) (outer : List Env) (s : Shared) (H : Hp) (vs : List V) (Q : VK) (E : XK),
      Room k (A.deeper (envOfC qual (defScope st) s.heap.objs.size f cdv)) → sp vs H Q E →
      ∃ t, PSsT (cxOf CX P w K mg base N qual (defScope st) f cdv A outer s H E) (defBody st) t ∧ t { nx := fun _ H' => Q .non H', rt := Q } (start N vs) H) :
    FnOk P w K mg base CX (k + 1) f fd ps sp := by
  obtain ⟨oc, od, kV, doc, pm, an, cdv, ct, osl, rfl, lk, hcd⟩ := F.ex
  exact fn_ofT lk hcd S hnc hps len fun A outer s H vs Q E hr hsp => body cdv A outer s H vs Q E hr hsp
end
end Hv

namespace Hv
open PySem L2

theorem dT {p : Prop} [Decidable p] (h : decide p = true) : p := of_decide_eq_true h
theorem dF {p : Prop} [Decidable p] (h : ¬ decide p = true) : ¬ p := fun q => h (decide_eq_true q)
theorem nT {p : Prop} [Decidable p] (h : (!decide p) = true) : ¬ p := fun q => by
  rw [decide_eq_true q] at h
  cases h
theorem nF {p : Prop} [Decidable p] (h : ¬ (!decide p) = true) : p := by
  by_cases q : p
  · exact q
  · exact absurd (by rw [decide_eq_false q]; rfl) h

theorem ifT {p : Prop} [Decidable p] {A B : Prop} (hp : p) (h : A) : if decide p = true then A else B := by
  rw [if_pos (decide_eq_true hp)]
  exact h
theorem ifF {p : Prop} [Decidable p] {A B : Prop} (hp : ¬ p) (h : B) : if decide p = true then A else B := by
  rw [if_neg (fun q => hp (of_decide_eq_true q))]
  exact h
theorem ifNT {p : Prop} [Decidable p] {A B : Prop} (hp : ¬ p) (h : A) : if (!decide p) = true then A else B := by
  rw [decide_eq_false hp]
  exact h
theorem ifNF {p : Prop} [Decidable p] {A B : Prop} (hp : p) (h : B) : if (!decide p) = true then A else B := by
  rw [decide_eq_true hp]
  exact h

/-- a value's reading by what holds behind it -/
theorem join_te {te : TE} {σ : L2.St} {H : Hp} {Q : VK} (S : V → Hp → Prop) (h : ∀ Q' : VK, (∀ v H', S v H' → Q' v H') → te σ H Q') (k : ∀ v H', S v H' → Q v H') : te σ H Q := h Q k

theorem join_asg {te : TE} {g : TG} {u : TS} {D : Ends} {σ : L2.St} {H : Hp} (S : V → Hp → Prop) (h : ∀ Q' : VK, (∀ v H', S v H' → Q' v H') → te σ H Q')
    (k : ∀ v H', S v H' → g v σ H' (u D)) : tSeq (tAsg te g) u D σ H := h _ k

theorem join_ifs {tt : TT} {t u v : TS} {D : Ends} {σ : L2.St} {H : Hp} (S : Bool → Hp → Prop) (h : ∀ Q' : Bool → Hp → Prop, (∀ b H', S b H' → Q' b H') → tt σ H Q')
    (k : ∀ b H', S b H' → if b = true then t { D with nx := v D } σ H' else u { D with nx := v D } σ H') : tSeq (tIfS tt t u) v D σ H := h _ k
/-- both ways of an if come to the same -/
theorem join_if {c : Bool} {A B R : Prop} (hB : c = false → R → B) (hA : c = true → R → A) (r : R) : if c = true then A else B := by
  cases c with
  | true => exact hA rfl r
  | false => exact hB rfl r

structure DefAt (K : PySem.W.Frag) (mg : Str → Option Value) (x : Str) (st : Stmt) (ps : List Str) (f : Addr) (fd : FuncData) : Prop where
  fn : Fun K x x st f fd
  mg : mg x = some (.ref f)
  bd : Binds K fd ps []
/-- what the top has left of a def -/
def DefIn (K : PySem.W.Frag) (x : Str) (st : Stmt) : Prop :=
  ∃ (f : Addr) (oc : Value) (od : Option Addr) (kV doc pm : Value) (an : Option Addr) (cd ct : Value) (sl : Array (Option Value)),
    PySem.W.nsIn K mainGlobals x = some (some (.ref f)) ∧
    K.lookup f = some ⟨oc, od, .func (PySem.W.fnOf x x (defArgs st) (defBody st) (defScope st) .none kV doc pm an cd ct), sl⟩ ∧
    PySem.W.codeIn K cd x = true ∧ PySem.W.keepIn K (.ref f) = true
theorem defIn_mk {K : PySem.W.Frag} {x : Str} {st : Stmt} {f : Addr} {oc : Value} {od : Option Addr} {kV doc pm : Value} {an : Option Addr} {cd ct : Value} {sl : Array (Option Value)}
    (a : PySem.W.nsIn K mainGlobals x = some (some (.ref f)))
    (l : K.lookup f = some ⟨oc, od, .func (PySem.W.fnOf x x (defArgs st) (defBody st) (defScope st) .none kV doc pm an cd ct), sl⟩)
    (c : PySem.W.codeIn K cd x = true) (k : PySem.W.keepIn K (.ref f) = true) : DefIn K x st :=
  ⟨f, oc, od, kV, doc, pm, an, cd, ct, sl, a, l, c, k⟩
theorem constIn_mk {K : PySem.W.Frag} {x : Str} {C : Value → Prop} {v : Value} (a : PySem.W.nsIn K mainGlobals x = some (some v)) (c : C v) : ∃ v, PySem.W.nsIn K mainGlobals x = some (some v) ∧ C v := ⟨v, a, c⟩
theorem DefIn.at {K : PySem.W.Frag} {mg : Str → Option Value} {h : Heap} {x : Str} {st : Stmt} {ps : List Str} (d : DefIn K x st) (X : K.In h) (G : h.Ns mainGlobals mg)
    (hb : ∀ (kV doc pm : Value) (an : Option Addr) (cdv ct : Value) (us : List Value), us.length = ps.length →
      bindArgs (PySem.W.fnOf x x (defArgs st) (defBody st) (defScope st) .none kV doc pm an cdv ct) ⟨us, []⟩ = pure (ps.zip us)) :
    ∃ f fd, DefAt K mg x st ps f fd := by
  obtain ⟨f, oc, od, kV, doc, pm, an, cd, ct, sl, a, l, c, k⟩ := d
  have F := fun_mk (st := st) l c k
  exact ⟨f, _, F, PySem.W.mg_of X G a, F.binds hb⟩

/-- the draws' bag: three ints, the second one from 0 on and not beyond the script's bits, the third at most k -/
def Bag (H : Hp) (b : Addr) (k : Nat) : Prop :=
  ∃ s d n : Int, H b = some (.lst [.int s, .int d, .int n]) ∧ 0 ≤ d ∧ Builtin.Int.intBits d ≤ 1048576 ∧ 0 ≤ n ∧ n ≤ k
theorem Bag.mono {H : Hp} {b : Addr} {j k : Nat} (h : Bag H b j) (le : j ≤ k) : Bag H b k := by
  obtain ⟨s, d, n, h1, h2, h3, h4, h5⟩ := h
  exact ⟨s, d, n, h1, h2, h3, h4, by omega⟩
theorem Bag.same {H H' : Hp} {b : Addr} {k : Nat} (h : Bag H b k) (e : Same H H') : Bag H' b k := by
  obtain ⟨s, d, n, h1, h2⟩ := h
  exact ⟨s, d, n, e _ _ h1, h2⟩
theorem Bag.ne_none {H : Hp} {b p : Addr} {k : Nat} (h : Bag H b k) (hp : H p = none) : p ≠ b := by
  obtain ⟨s, d, n, h1, _⟩ := h
  exact (ne_of_none h1 hp).symm
/-- all that is tracked but b stays -/
def But (b : Addr) (H H' : Hp) : Prop := ∀ a o, a ≠ b → H a = some o → H' a = some o
theorem But.refl {b : Addr} {H : Hp} : But b H H := fun _ _ _ h => h
theorem But.trans {b : Addr} {H H1 H2 : Hp} (x : But b H H1) (y : But b H1 H2) : But b H H2 := fun a o n h => y a o n (x a o n h)
theorem But.put {b : Addr} {H H1 : Hp} {o : HO} (x : But b H H1) : But b H (upd H1 b o) := fun a u n h => by
  rw [upd_ne n]; exact x a u n h
theorem But.new {b p : Addr} {H H1 : Hp} {o : HO} (x : But b H H1) (hp : H1 p = none) : But b H (upd H1 p o) := fun a u n h => by
  have q := x a u n h
  rw [upd_ne (ne_of_none q hp)]; exact q
theorem But.of {b : Addr} {H H' : Hp} (e : Same H H') : But b H H' := fun a o _ h => e a o h
theorem But.seq {b a : Addr} {K : PySem.W.Frag} {H H' : Hp} {xs : List V} (e : But b H H') (n : a ≠ b) (h : SqL K H a xs) : SqL K H' a xs := by
  rcases h with (h | ⟨o, h⟩) | h
  · exact .inl (.inl (e _ _ n h))
  · exact .inl (.inr ⟨o, e _ _ n h⟩)
  · exact .inr h
theorem same_new {H : Hp} {p : Addr} {o : HO} (hp : H p = none) : Same H (upd H p o) := fun a u e => by
  rw [upd_ne (ne_of_none e hp)]; exact e
theorem But.free {b p : Addr} {H H' : Hp} (e : But b H H') (n : p ≠ b) (h : H' p = none) : H p = none := by
  cases q : H p with
  | none => rfl
  | some o =>
    rw [e p o n q] at h
    cases h

/-- changes at places that H did not know -/
theorem same_but {H H1 H2 : Hp} {b : Addr} (s : Same H H1) (hb : H b = none) (e : But b H1 H2) : Same H H2 := fun a o h =>
  e a o (ne_of_none h hb) (s a o h)
theorem same_put {H H1 : Hp} {b : Addr} {o : HO} (s : Same H H1) (hb : H b = none) : Same H (upd H1 b o) := fun a u h => by
  rw [upd_ne (ne_of_none h hb)]
  exact s a u h
theorem Bag.put {H : Hp} {b p : Addr} {k : Nat} {o : HO} (h : Bag H b k) (n : p ≠ b) : Bag (upd H p o) b k := by
  obtain ⟨s, d, m, h1, h2⟩ := h
  exact ⟨s, d, m, by rw [upd_ne n.symm]; exact h1, h2⟩
theorem log2_mono {a b : Nat} (h : a ≤ b) : a.log2 ≤ b.log2 := by
  by_cases h0 : a = 0
  · subst h0
    rw [Nat.log2_zero]
    exact Nat.zero_le _
  · have h1 := Nat.log2_self_le h0
    exact (Nat.le_log2 (by omega)).mpr (Nat.le_trans h1 h)
theorem bits_mono {a b : Int} (h : a.natAbs ≤ b.natAbs) : Builtin.Int.intBits a ≤ Builtin.Int.intBits b := by
  unfold Builtin.Int.intBits
  have := log2_mono h
  by_cases h0 : a = 0
  · rw [if_pos (by rw [h0]; rfl)]
    exact Nat.zero_le _
  · by_cases h1 : b = 0
    · subst h1
      simp at h
      exact absurd h h0
    · rw [if_neg (by simpa using h0), if_neg (by simpa using h1)]
      omega
theorem bits_div {d m : Int} (h0 : 0 ≤ d) (hm : 0 < m) (h : Builtin.Int.intBits d ≤ 1048576) : Builtin.Int.intBits (d / m) ≤ 1048576 := by
  refine Nat.le_trans (bits_mono ?_) h
  have h1 : 0 ≤ d / m := Int.ediv_nonneg h0 (by omega)
  have h2 : d / m ≤ d := Int.ediv_le_self _ h0
  omega
theorem bits_small {n : Int} (h : n.natAbs < 2 ^ 1000) : Builtin.Int.intBits n ≤ 1048576 := by
  unfold Builtin.Int.intBits
  split
  · decide
  · by_cases h0 : n.natAbs = 0
    · rw [h0]
      decide
    · have := (Nat.log2_lt h0).mpr h
      omega
theorem pylong_no {d m : Int} (h : m.natAbs < 2 ^ 1000) : Builtin.divisionGoesByPylong d m = false := by
  unfold Builtin.divisionGoesByPylong
  rw [Bool.and_eq_false_iff]
  left
  rw [decide_eq_false_iff_not]
  dsimp only
  split
  · decide
  · rename_i hz
    have h0 : m.natAbs ≠ 0 := by
      intro q
      apply hz
      rw [beq_iff_eq]
      omega
    have := (Nat.log2_lt h0).mpr h
    omega
theorem m_small {m : Int} (h0 : 0 ≤ m) (h : m ≤ 10 ^ 41) : m.natAbs < 2 ^ 1000 := by
  have e : (10 : Nat) ^ 41 < 2 ^ 1000 := by decide +kernel
  have : m.natAbs ≤ 10 ^ 41 := by omega
  exact Nat.lt_of_le_of_lt this e
/-- a number of the script, or one mixed of its first ones -/
def sp_seed (K : PySem.W.Frag) : Sp := fun vs H Q _ => ∃ (a : Addr) (ns : List Int) (k : Int), vs = [.ref a, .int k] ∧ SqL K H a (ns.map V.int) ∧
  (∀ z ∈ ns, Builtin.Int.intBits z ≤ 1048576) ∧ 0 ≤ k ∧ k < 1000 ∧ ∀ (n : Int) (H' : Hp), Same H H' → Builtin.Int.intBits n ≤ 1048576 → Q (.int n) H'
def sp_bag : Sp := fun vs H Q _ => ∃ (n : Int), vs = [.int n] ∧ Builtin.Int.intBits n ≤ 1048576 ∧
  ∀ (p : Addr) (H' : Hp), H p = none → Same H H' → Bag H' p 0 → Q (.ref p) H'
/-- a draw below m -/
def sp_take : Sp := fun vs H Q _ => ∃ (b : Addr) (m : Int) (k : Nat), vs = [.ref b, .int m] ∧ Bag H b k ∧ k < 1000000 ∧ 0 < m ∧ m.natAbs < 2 ^ 1000 ∧
  ∀ (r : Int) (H' : Hp), But b H H' → Bag H' b (k + 1) → 0 ≤ r → r < m → Q (.int r) H'
end Hv

namespace Hv
open PySem PySem.Spec PyProof.Rows L2 SlX
/-- what + asks of the class at C: its defs for __add__ at f, __radd__ at g -/
structure AddO (K : PySem.W.Frag) (C f g : Addr) : Prop where
  sf : PySem.W.selfFirst K C = true
  add : PySem.W.findIn K (.ref C) (PySem.dunder "add") = some (some (.ref f))
  fa : PySem.W.isFn K (.ref f) = true
  radd : PySem.W.findIn K (.ref C) (dunderR "add") = some (some (.ref g))
  fr : PySem.W.isFn K (.ref g) = true
  i1 : PySem.W.findIn K (.type "int") (PySem.dunder "add") = some (some (.builtin "int.__add__"))
  i2 : PySem.W.findIn K (.type "int") (dunderR "add") = some (some (.builtin "int.__radd__"))
  s1 : PySem.W.subIn K (.type "int") (.ref C) = some false
  s2 : PySem.W.subIn K (.ref C) (.type "int") = some false
section
variable {X : Cx} {CX : CXT} {n : Nat} {C f g : Addr} {sp : Sp} {E : XK}
def rAddO (C : Addr) (sp : Sp) (E : XK) : R2 := fun x y H Q => ∃ a dx vs, x = .ref a ∧ Slt H a C dx vs ∧ ((∃ b dy ws, y = .ref b ∧ Slt H b C dy ws) ∨ ∃ i, y = .int i) ∧ sp [x, y] H Q E
theorem op_addO (c : AddO X.K C f g) (F : FnR X.prog X.w X.K X.mg X.base CX n f sp) (hr : Room n X.A) (hx : Passes CX X E) : OpR X (binaryOp .Add) (rAddO C sp E) := by
  intro pins s σ H x y v u Q I rx ry h
  obtain ⟨a, dx, vs, rfl, ha, hy, q⟩ := h
  cases (show v = Value.ref a from rx)
  obtain ⟨sl, od, _, J, _⟩ := slt_inst I ha
  obtain ⟨m, hF⟩ := I.fr
  have back : ∀ {y : V} {u : Value}, RelV y u → sp [.ref a, y] H Q E → wpAny (model X.prog X.w) X.A (call (.ref f) [.ref a, u]) (PySem.W.CmpBack (EP X pins σ Q)) X.xe s := by
    intro y u ry q
    refine wpAny_mono (wpAny_call (run_fnR (us := [.ref a, u]) (vs := [.ref a, y]) F hr hx I (.cons rfl (.cons ry .nil)) q)) ?_ fun _ _ z => z
    rintro w s' ⟨z', H', I', rz, qz⟩
    exact cmpback rz ⟨z', H', I', rz, qz⟩
  rcases hy with ⟨b, dy, ws, rfl, hb⟩ | ⟨i, rfl⟩
  · cases (show u = Value.ref b from ry)
    obtain ⟨sl', od', _, J', _⟩ := slt_inst I hb
    exact PySem.W.binop_K (op := .Add) hF I.ok.mod.kin J J'.type c.sf c.add c.fa (back (y := .ref b) rfl q)
  · obtain ⟨t, rfl⟩ := (show ∃ t, u = Value.int i t from ry)
    exact PySem.W.ksp_binT (op := .Add) (T := "int") hF I.ok.mod.kin J rfl c.sf c.add c.fa c.radd (.inr ⟨g, rfl⟩) c.i1 c.i2 c.s1 (back (y := .int i) ⟨t, rfl⟩ q)
/-- the int declines an instance -/
theorem int_add_no {x : Addr} {o : Obj} (hd : o.data = .plain) (a : Int) (t : Tok) : GivesAt (fun s => s.heap.get? x = some o) (Builtin.«int.__add__» ⟨[.int a t, .ref x], []⟩) (.val .notImplemented) := by
  intro prog w A R s hP h
  obtain ⟨hp, gs, d, tk, os⟩ := s
  obtain ⟨oc, od, dt, osl⟩ := o
  cases (show dt = .plain from hd)
  unfold Builtin.«int.__add__» Builtin.Int.intBinary
  refine wpAny_bind (wpAny_pure ?_)
  refine wpAny_bind (wpAny_pure ?_)
  refine wpAny_bind (m := asInt? (.ref x)) (wpAny_bind (wpAny_load hP ?_))
  exact wpAny_pure (wpAny_bind (wpAny_rule (wpAny_pure h)))
theorem binop_R {prog : Program} {w : World} {A : Around} {E : Value → Shared → Prop} {s : Shared} {K : PySem.W.Frag} {x L : Addr} {h₀ : Heap} {m : Str → Option Value} {ox : Obj} {od : Option Obj}
    {i : Int} {t : Tok} {Q : Value → Shared → Prop} (F : Fr h₀ L s.heap m) (X₀ : K.In h₀) (I : PySem.W.InstAt s.heap x ox C od) (hd : ox.data = .plain) (c : AddO K C f g)
    (h : wpAny (model prog w) A (call (.ref g) [.ref x, .int i t]) (PySem.W.CmpBack Q) E s) : wpAny (model prog w) A (binaryOp .Add (.int i t) (.ref x)) Q E s := by
  have X := X₀.keeps F.keep
  obtain ⟨cd, rest, hcd, hm⟩ := PySem.W.ksp_first c.sf
  have one := PySem.W.ksp_try X I c.radd c.fr h
  have L3 : PySem.W.Looks (model prog w) s.heap (fillsNumberSlot (.ref C) "add") true := PySem.W.fills_K X hcd hm c.add
  have L4 : PySem.W.Looks (model prog w) s.heap (fillsNumberSlot (.type "int") "add") true := PySem.W.ksp_fillsT X c.i1 c.i2
  have L5 : PySem.W.Looks (model prog w) s.heap (isSubtype (.ref C) (.type "int")) false := PySem.W.looks_subIn X c.s2
  have hne : (Value.type "int" == Value.ref C) = false := Bool.eq_false_iff.mpr fun q => by cases beq_iff_eq.mp q
  have hpy : numberSlotInPython (.type "int") "add" = pure false := rfl
  unfold binaryOp
  refine wpAny_holding (wpAny_bind ?_)
  show wpAny _ _ (binaryOp1 "add" (.int i t) (.ref x)) _ _ _
  unfold binaryOp1
  refine wpAny_bind (wpAny_typeOf (typeIs_int s i t) (wpAny_bind (I.type.here (wpAny_bind (L4.here ?_)))))
  simp only [hne, Bool.false_eq_true, if_false]
  refine wpAny_bind (L3.here ?_)
  simp only [Bool.and_self, if_true]
  refine wpAny_bind (L5.here ?_)
  simp only [Bool.false_eq_true, if_false, pure_bind, Bool.not_false, Bool.and_self, if_true, hpy]
  refine wpAny_bind (wpAny_tryMethod_declines (typeIs_int s i t) PySem.F.slot_int_add (call_givesAt PySem.F.slot_int_add (typeIs_int s i t) PySem.F.entry_int_add (PySem.F.args_int_add_2 _ _) (int_add_no hd i t) I.at_ ⟨rfl, ?_⟩))
  refine wpAny_bind (wpAny_mono one ?_ fun _ _ e => e)
  rintro r s' ⟨v, rfl, q⟩
  exact wpAny_bind (wpAny_rule (wpAny_pure (wpAny_pure q)))
def rRAddO (C : Addr) (sp : Sp) (E : XK) : R2 := fun x y H Q => ∃ i a dx vs, x = .int i ∧ y = .ref a ∧ Slt H a C dx vs ∧ sp [y, x] H Q E
theorem op_raddO (c : AddO X.K C f g) (F : FnR X.prog X.w X.K X.mg X.base CX n g sp) (hr : Room n X.A) (hx : Passes CX X E) : OpR X (binaryOp .Add) (rRAddO C sp E) := by
  intro pins s σ H x y v u Q I rx ry h
  obtain ⟨i, a, dx, vs, rfl, rfl, ha, q⟩ := h
  cases (show u = Value.ref a from ry)
  obtain ⟨t, rfl⟩ := (show ∃ t, v = Value.int i t from rx)
  obtain ⟨sl, od, _, J, _⟩ := slt_inst I ha
  obtain ⟨m, hF⟩ := I.fr
  refine binop_R hF I.ok.mod.kin J rfl c ?_
  refine wpAny_mono (wpAny_call (run_fnR (us := [.ref a, .int i t]) (vs := [.ref a, .int i]) F hr hx I (.cons rfl (.cons ⟨t, rfl⟩ .nil)) q)) ?_ fun _ _ z => z
  rintro w s' ⟨z', H', I', rz, qz⟩
  exact cmpback rz ⟨z', H', I', rz, qz⟩
/-- str(x), x an instance of the class at C whose __str__ is at f -/
def rStrO (C : Addr) (sp : Sp) (E : XK) : List V → Hp → VK → Prop := fun xs H Q => ∃ a dx vs, xs = [.ref a] ∧ Slt H a C dx vs ∧ sp [.ref a] H (fun z H' => ∃ y, z = .str y ∧ Q z H') E
theorem call_strO (hs : PySem.W.findIn X.K (.ref C) "__str__" = some (some (.ref f))) (hf : PySem.W.isFn X.K (.ref f) = true) (F : FnR X.prog X.w X.K X.mg X.base CX n f sp) (hr : Room (n + 2) X.A)
    (hx : Passes CX X E) : CallR X (.type "str") (rStrO C sp E) := by
  intro pins s σ H xs us Q I r h
  obtain ⟨a, dx, vs, rfl, ha, q⟩ := h
  obtain ⟨sl, od, _, J, _⟩ := slt_inst I ha
  cases r with
  | cons ra rt =>
    cases rt
    cases ra
    refine PySem.W.kso_call (by have := hr.un; show X.A.units + 1 + 1 < cLine; omega) I.kIn J hs hf ?_
    refine wpAny_mono (wpAny_call (run_at (us := [.ref a]) (ws := [.ref a]) F hr.in1.in1 I.env0.in1.in1 hx I (.cons rfl .nil) q)) ?_ fun _ _ z => z
    rintro w s' ⟨z', H', I', rz, y, rfl, qz⟩
    obtain ⟨t, rfl⟩ := (show ∃ t, w = Value.str y t from rz)
    exact ⟨.str y, H', I', ⟨t, rfl⟩, qz⟩
end
end Hv

namespace Hv
open PySem L2 SlX
/-- a def of a class as the top has left it -/
def MethIn (K : PySem.W.Frag) (C : Addr) (x qual : Str) (st : Stmt) : Prop :=
  ∃ (f : Addr) (oc : Value) (od : Option Addr) (kV doc pm : Value) (an : Option Addr) (cd ct : Value) (sl : Array (Option Value)),
    PySem.W.findIn K (.ref C) x = some (some (.ref f)) ∧ PySem.W.isFn K (.ref f) = true ∧
    K.lookup f = some ⟨oc, od, .func (PySem.W.fnOf x qual (defArgs st) (defBody st) (defScope st) .none kV doc pm an cd ct), sl⟩ ∧
    PySem.W.codeIn K cd qual = true ∧ PySem.W.keepIn K (.ref f) = true
theorem methIn_mk {K : PySem.W.Frag} {C : Addr} {x qual : Str} {st : Stmt} {f : Addr} {oc : Value} {od : Option Addr} {kV doc pm : Value} {an : Option Addr} {cd ct : Value} {sl : Array (Option Value)}
    (a : PySem.W.findIn K (.ref C) x = some (some (.ref f))) (i : PySem.W.isFn K (.ref f) = true)
    (l : K.lookup f = some ⟨oc, od, .func (PySem.W.fnOf x qual (defArgs st) (defBody st) (defScope st) .none kV doc pm an cd ct), sl⟩)
    (c : PySem.W.codeIn K cd qual = true) (k : PySem.W.keepIn K (.ref f) = true) : MethIn K C x qual st :=
  ⟨f, oc, od, kV, doc, pm, an, cd, ct, sl, a, i, l, c, k⟩
structure MethAt (K : PySem.W.Frag) (C : Addr) (x qual : Str) (st : Stmt) (ps : List Str) (f : Addr) (fd : FuncData) : Prop where
  at_ : PySem.W.findIn K (.ref C) x = some (some (.ref f))
  isf : PySem.W.isFn K (.ref f) = true
  fn : Fun K x qual st f fd
  bd : Binds K fd ps []
theorem MethIn.at {K : PySem.W.Frag} {C : Addr} {x qual : Str} {st : Stmt} {ps : List Str} (d : MethIn K C x qual st)
    (hb : ∀ (kV doc pm : Value) (an : Option Addr) (cdv ct : Value) (us : List Value), us.length = ps.length →
      bindArgs (PySem.W.fnOf x qual (defArgs st) (defBody st) (defScope st) .none kV doc pm an cdv ct) ⟨us, []⟩ = pure (ps.zip us)) :
    ∃ f fd, MethAt K C x qual st ps f fd := by
  obtain ⟨f, oc, od, kV, doc, pm, an, cd, ct, sl, a, i, l, c, k⟩ := d
  have F := fun_mk (st := st) l c k
  exact ⟨f, _, a, i, F, F.binds hb⟩
/-- a property of a class, its getter at g -/
structure PropK (K : PySem.W.Frag) (C : Addr) (x : Str) (g : Addr) : Prop where
  ex : ∃ p, PySem.W.findIn K (.ref C) x = some (some (.ref p)) ∧ PySem.W.specialIn K (.ref p) "__get__" = some (some (.builtin "property.__get__")) ∧
    PySem.W.takesIn K (.ref p) = some true ∧ ∃ rest, PySem.W.recIn K p "property" = some (.ref g :: rest)
def PropIn (K : PySem.W.Frag) (C : Addr) (x qual : Str) (st : Stmt) : Prop :=
  ∃ (g : Addr) (oc : Value) (od : Option Addr) (kV doc pm : Value) (an : Option Addr) (cd ct : Value) (sl : Array (Option Value)), PropK K C x g ∧
    K.lookup g = some ⟨oc, od, .func (PySem.W.fnOf x qual (defArgs st) (defBody st) (defScope st) .none kV doc pm an cd ct), sl⟩ ∧
    PySem.W.codeIn K cd qual = true ∧ PySem.W.keepIn K (.ref g) = true
theorem propIn_mk {K : PySem.W.Frag} {C p : Addr} {rest : List Value} {x qual : Str} {st : Stmt} {g : Addr} {oc : Value} {od : Option Addr} {kV doc pm : Value} {an : Option Addr} {cd ct : Value} {sl : Array (Option Value)}
    (a : PySem.W.findIn K (.ref C) x = some (some (.ref p))) (b : PySem.W.specialIn K (.ref p) "__get__" = some (some (.builtin "property.__get__"))) (t : PySem.W.takesIn K (.ref p) = some true)
    (r : PySem.W.recIn K p "property" = some (.ref g :: rest))
    (l : K.lookup g = some ⟨oc, od, .func (PySem.W.fnOf x qual (defArgs st) (defBody st) (defScope st) .none kV doc pm an cd ct), sl⟩)
    (c : PySem.W.codeIn K cd qual = true) (k : PySem.W.keepIn K (.ref g) = true) : PropIn K C x qual st :=
  ⟨g, oc, od, kV, doc, pm, an, cd, ct, sl, ⟨p, a, b, t, rest, r⟩, l, c, k⟩
structure PropAt (K : PySem.W.Frag) (C : Addr) (x qual : Str) (st : Stmt) (ps : List Str) (f : Addr) (fd : FuncData) : Prop where
  pr : PropK K C x f
  fn : Fun K x qual st f fd
  bd : Binds K fd ps []
theorem PropIn.at {K : PySem.W.Frag} {C : Addr} {x qual : Str} {st : Stmt} {ps : List Str} (d : PropIn K C x qual st)
    (hb : ∀ (kV doc pm : Value) (an : Option Addr) (cdv ct : Value) (us : List Value), us.length = ps.length →
      bindArgs (PySem.W.fnOf x qual (defArgs st) (defBody st) (defScope st) .none kV doc pm an cdv ct) ⟨us, []⟩ = pure (ps.zip us)) :
    ∃ f fd, PropAt K C x qual st ps f fd := by
  obtain ⟨f, oc, od, kV, doc, pm, an, cd, ct, sl, pr, l, c, k⟩ := d
  have F := fun_mk (st := st) l c k
  exact ⟨f, _, pr, F, F.binds hb⟩
theorem raw_ok {P : Program} {w : World} {K : PySem.W.Frag} {mg : Str → Option Value} {base : Heap} {CX : CXT} {k : Nat} {f : Addr} {fd : FuncData} {ps : List Str} {sp : Sp} (F : FnOk P w K mg base CX k f fd ps sp) (hb : Binds K fd ps []) :
    FnR P w K mg base CX k f sp := (FnOk.raw F hb .nil).imp fun vs H Q E h => by
  rw [List.append_nil]
  exact h
section
variable {X : Cx} {e : Expr} {ta : TE} {C g : Addr} {f : Str} {pos : Pos} {n : Nat} {sp : Sp}
/-- a property of an instance with slots -/
theorem pe_propO (he : PE X e ta) (c : SCls X.K C) (p : PropK X.K C f g) (F : FnR X.prog X.w X.K X.mg X.base CX0 n g sp) (hr : Room (n + 1) X.A)
    (hb : attributeBase e f X.env (eval e X.env) = eval e X.env := by rfl) : PE X (.Attribute e f pos) (tPropSl C sp E0 ta) := by
  obtain ⟨p, h1, h2, h3, h4⟩ := p.ex
  exact pe_propSl he c h1 h2 h3 h4 F hr (fun _ _ _ _ z => z) hb
/-- one of two ways to read a call -/
theorem callR_or {v : Value} {r1 r2 : List V → Hp → VK → Prop} (h1 : CallR X v r1) (h2 : CallR X v r2) : CallR X v (fun xs H Q => r1 xs H Q ∨ r2 xs H Q) := by
  intro pins s σ H xs us Q I r h
  rcases h with h | h
  · exact h1 pins s σ H xs us Q I r h
  · exact h2 pins s σ H xs us Q I r h
end
end Hv

namespace Hv
open PySem PySem.Spec PyProof.Rows
section
variable {prog : Program} {w : World} {A : Around} {E : Value → Shared → Prop} {s : Shared} {K : PySem.W.Frag} {x C f L : Addr} {h₀ : Heap} {m : Str → Option Value} {ox : Obj} {od : Option Obj}
/-- v.__eq__(x) or v.__ne__(x) declines, the state stays -/
def Declines (prog : Program) (w : World) (A : Around) (E : Value → Shared → Prop) (s : Shared) (op : CmpOp) (v : Value) (x : Addr) : Prop :=
  ∃ T id, s.TypeIs v T ∧ Slot T (cmpInfo op).2.1 id ∧ wpAny (model prog w) A (call (.builtin id) [v, .ref x]) (fun r s' => r = .notImplemented ∧ s' = s) E s
/-- v op x, x an instance on the right: v declines, x is asked -/
theorem cmp_right {op : CmpOp} {v : Value} {T : String} {Q : Value → Shared → Prop} (hu : A.units < cLine) (X : K.In s.heap) (I : PySem.W.InstAt s.heap x ox C od) (hT : s.TypeIs v T) {id : String} (slot : Slot T (cmpInfo op).2.1 id)
    (dec : wpAny (model prog w) A (call (.builtin id) [v, .ref x]) (fun r s' => r = .notImplemented ∧ s' = s) E s) (hsub : PySem.W.subIn K (.ref C) (.type T) = some false)
    (back : wpAny (model prog w) A (tryCompare (.ref x) (cmpInfo op).2.2 v) (fun r s' => ∃ u, r = some u ∧ Q u s') E s) : wpAny (model prog w) A (richCompare op v (.ref x)) Q E s := by
  have hne : (Value.type T != Value.ref C) = true := by
    rw [bne_iff_ne]
    intro q
    cases q
  have one : wpAny (model prog w) A (tryCompare v (cmpInfo op).2.1 (.ref x)) (fun r s' => r = none ∧ s' = s) E s := by
    unfold tryCompare
    refine wpAny_bind (wpAny_callSpecialIfBound?_slot hT slot (wpAny_mono dec ?_ fun _ _ e => e))
    rintro r s' ⟨rfl, rfl⟩
    exact wpAny_pure ⟨rfl, rfl⟩
  unfold richCompare
  simp only [hT.oneThing_none]
  refine wpAny_holding (wpAny_bind (wpAny_cRoomFor hu ?_))
  refine wpAny_bind (wpAny_typeOf hT (wpAny_bind (I.type.here ?_)))
  simp only [hne, if_true]
  refine wpAny_bind ((PySem.W.looks_subIn X hsub).here ?_)
  simp only [Bool.false_eq_true, if_false]
  refine wpAny_bind (wpAny_mono one ?_ fun _ _ e => e)
  rintro r s' ⟨rfl, rfl⟩
  simp only [Bool.not_false, if_true]
  refine wpAny_bind (wpAny_mono back ?_ fun _ _ e => e)
  rintro r s' ⟨u, rfl, q⟩
  exact wpAny_pure q
/-- x.__eq__(b) by the class's own def -/
theorem try_eq {b : Value} {Q : Value → Shared → Prop} (X : K.In s.heap) (I : PySem.W.InstAt s.heap x ox C od) (hs : PySem.W.findIn K (.ref C) "__eq__" = some (some (.ref f))) (hf : PySem.W.isFn K (.ref f) = true)
    (h : wpAny (model prog w) A (call (.ref f) [.ref x, b]) (fun v s' => ∃ k, v = .bool k ∧ Q (.bool k) s') E s) :
    wpAny (model prog w) A (tryCompare (.ref x) "__eq__" b) (fun r s' => ∃ u, r = some u ∧ Q u s') E s := by
  unfold tryCompare
  refine wpAny_bind (PySem.W.ifBound_K X I hs hf (wpAny_mono h ?_ fun _ _ e => e))
  rintro v s' ⟨k, rfl, q⟩
  exact wpAny_pure ⟨_, rfl, q⟩
/-- x != b of an instance whose class has __eq__ alone -/
theorem try_ne {b : Value} {Q : Value → Shared → Prop} (hu : A.in1.units < cLine) (X : K.In s.heap) (I : PySem.W.InstAt s.heap x ox C od) (hn : PySem.W.findIn K (.ref C) "__ne__" = some (some (.builtin "object.__ne__")))
    (hm : PySem.W.mroIn K C (.type "object") = some true) (hs : PySem.W.findIn K (.ref C) "__eq__" = some (some (.ref f))) (hf : PySem.W.isFn K (.ref f) = true)
    (h : wpAny (model prog w) A.in1 (call (.ref f) [.ref x, b]) (fun v s' => ∃ k, v = .bool k ∧ Q (.bool (!k)) s') E s) :
    wpAny (model prog w) A (tryCompare (.ref x) "__ne__" b) (fun r s' => ∃ u, r = some u ∧ Q u s') E s := by
  have call_ne : wpAny (model prog w) A (call (.builtin "object.__ne__") [.ref x, b]) (fun v s' => ∃ k, v = .bool k ∧ Q (.bool k) s') E s := by
    refine wpAny_call (codeAny_call_builtin PySem.F.slot_object_ne.plain PySem.F.entry_object_ne (PySem.W.check_slot (i := "object.__ne__") (owner := "object") (n := "__ne__") (by decide +kernel) (by decide +kernel)
      (I.type.andThen (PySem.W.looks_mroIn X hm)) (PySem.F.args_object_ne_2 _ _) ?_))
    unfold Builtin.«object.__ne__»
    refine wpAny_bind (wpAny_pure ?_)
    refine wpAny_bind (m := cRoomFor _ _) (wpAny_cRoomFor hu ?_)
    refine wpAny_bind (m := callSpecialIfBound? (.ref x) (Str.ofString "__eq__") _) (PySem.W.ifBound_K X I hs hf (wpAny_mono h ?_ fun _ _ e => e))
    rintro v s' ⟨k, rfl, q⟩
    exact wpAny_bind (wpAny_pure (wpAny_pure ⟨_, rfl, q⟩))
  unfold tryCompare
  refine wpAny_bind ?_
  simp only [callSpecialIfBound?, bindSpecialIfBound?]
  refine wpAny_holding (wpAny_bind (wpAny_bind (wpAny_bind (I.type.here ((PySem.W.looks_findIn X hn).here ?_)))))
  simp only [PySem.F.slot_object_ne.bind]
  refine wpAny_bind (wpAny_askSetting (wpAny_ite ?_))
  have fin : wpAny (model prog w) A (call (.builtin "object.__ne__") ([.ref x] ++ [b]) >>= fun v => pure (some v))
      (fun a s' => wpAny (model prog w) A (match a with | some Value.notImplemented => pure none | none => pure none | some v => pure (some v)) (fun r s' => ∃ u, r = some u ∧ Q u s') E s') E s := by
    refine wpAny_bind (wpAny_mono call_ne ?_ fun _ _ e => e)
    rintro v s' ⟨k, rfl, q⟩
    exact wpAny_pure (wpAny_pure ⟨_, rfl, q⟩)
  split
  · exact wpAny_bind (wpAny_pure (wpAny_pure fin))
  · exact wpAny_tryCatch (wpAny_bind (wpAny_pure (wpAny_pure fin)))
/-- x op b, the instance on the left, by what tryCompare gives -/
theorem cmp_left {op : CmpOp} {b tb : Value} {Q : Value → Shared → Prop} (hu : A.units < cLine) (X : K.In s.heap) (I : PySem.W.InstAt s.heap x ox C od) (hb : PySem.W.Looks (model prog w) s.heap (typeOf b) tb) (hn : PySem.W.notFirst K C tb = true)
    (one : wpAny (model prog w) A (tryCompare (.ref x) (cmpInfo op).2.1 b) (fun r s' => ∃ u, r = some u ∧ Q u s') E s) : wpAny (model prog w) A (richCompare op (.ref x) b) Q E s := by
  unfold richCompare
  simp only [oneThing_ref]
  refine wpAny_holding (wpAny_bind (wpAny_cRoomFor hu ?_))
  refine wpAny_bind (I.type.here (wpAny_bind (hb.here ?_)))
  have last : ∀ r s', (∃ u, r = some u ∧ Q u s') → wpAny (model prog w) A (match r with | some v => pure v | none => (pure Value.none : Sem Value)) Q E s' := by
    rintro r s' ⟨u, rfl, q⟩
    exact wpAny_pure q
  split
  · rename_i q
    have e : PySem.W.subIn K tb (.ref C) = some false := by
      unfold PySem.W.notFirst at hn
      rcases Bool.or_eq_true_iff.mp hn with e | e
      · rw [beq_iff_eq.mp e] at q
        simp at q
      · exact beq_iff_eq.mp e
    refine wpAny_bind ((PySem.W.looks_subIn X e).here ?_)
    simp only [Bool.false_eq_true, if_false]
    refine wpAny_bind (wpAny_mono one ?_ fun _ _ e => e)
    rintro r s' ⟨u, rfl, hq⟩
    exact wpAny_pure hq
  · refine wpAny_bind (wpAny_pure ?_)
    simp only [Bool.false_eq_true, if_false]
    refine wpAny_bind (wpAny_mono one ?_ fun _ _ e => e)
    rintro r s' ⟨u, rfl, hq⟩
    exact wpAny_pure hq
/-! who declines an instance -/
theorem asStr_no {M : Model} {A : Around} {E : Value → Shared → Prop} {s : Shared} {o : Obj} {Q : Option Str → Shared → Prop} (hx : s.heap.get? x = some o) (hd : o.data = .plain) (q : Q none s) : wpAny M A (asStr? (.ref x)) Q E s := by
  obtain ⟨oc, od, dt, osl⟩ := o
  cases (show dt = .plain from hd)
  refine wpAny_bind (wpAny_load hx ?_)
  exact wpAny_pure q
theorem asInt_no {M : Model} {A : Around} {E : Value → Shared → Prop} {s : Shared} {o : Obj} {Q : Option Int → Shared → Prop} (hx : s.heap.get? x = some o) (hd : o.data = .plain) (q : Q none s) : wpAny M A (asInt? (.ref x)) Q E s := by
  obtain ⟨oc, od, dt, osl⟩ := o
  cases (show dt = .plain from hd)
  refine wpAny_bind (wpAny_load hx ?_)
  exact wpAny_pure q
theorem str_eq_no {o : Obj} (hd : o.data = .plain) (a : Str) (t : Tok) : GivesAt (fun s => s.heap.get? x = some o) (Builtin.«str.__eq__» ⟨[.str a t, .ref x], []⟩) (.val .notImplemented) := by
  intro prog w A R s hP h
  unfold Builtin.«str.__eq__» Builtin.Str.strCompare
  refine wpAny_bind (wpAny_pure ?_)
  exact wpAny_bind (asStr_no hP hd (wpAny_bind (wpAny_rule (wpAny_pure h))))
theorem str_ne_no {o : Obj} (hd : o.data = .plain) (a : Str) (t : Tok) : GivesAt (fun s => s.heap.get? x = some o) (Builtin.«str.__ne__» ⟨[.str a t, .ref x], []⟩) (.val .notImplemented) := by
  intro prog w A R s hP h
  unfold Builtin.«str.__ne__» Builtin.Str.strCompare
  refine wpAny_bind (wpAny_pure ?_)
  exact wpAny_bind (asStr_no hP hd (wpAny_bind (wpAny_rule (wpAny_pure h))))
theorem int_cmp_no {o : Obj} (hd : o.data = .plain) (nm : String) (g : Int → Int → Bool) (v : Value) (hv : (∃ a t, v = .int a t) ∨ ∃ b, v = .bool b) :
    GivesAt (fun s => s.heap.get? x = some o) (Builtin.Int.intBinary nm (fun x y => ret (.bool (g x y))) false ⟨[v, .ref x], []⟩) (.val .notImplemented) := by
  intro prog w A R s hP h
  unfold Builtin.Int.intBinary
  refine wpAny_bind (wpAny_pure ?_)
  rcases hv with ⟨a, t, rfl⟩ | ⟨b, rfl⟩
  · refine wpAny_bind (wpAny_pure ?_)
    exact wpAny_bind (asInt_no hP hd (wpAny_bind (wpAny_rule (wpAny_pure h))))
  · refine wpAny_bind (wpAny_pure ?_)
    exact wpAny_bind (asInt_no hP hd (wpAny_bind (wpAny_rule (wpAny_pure h))))
theorem int_eq_no {o : Obj} (hd : o.data = .plain) (v : Value) (hv : (∃ a t, v = .int a t) ∨ ∃ b, v = .bool b) : GivesAt (fun s => s.heap.get? x = some o) (Builtin.«int.__eq__» ⟨[v, .ref x], []⟩) (.val .notImplemented) :=
  int_cmp_no hd "__eq__" (· == ·) v hv
theorem int_ne_no {o : Obj} (hd : o.data = .plain) (v : Value) (hv : (∃ a t, v = .int a t) ∨ ∃ b, v = .bool b) : GivesAt (fun s => s.heap.get? x = some o) (Builtin.«int.__ne__» ⟨[v, .ref x], []⟩) (.val .notImplemented) :=
  int_cmp_no hd "__ne__" (· != ·) v hv
/-- a list, a tuple: is the other one such? -/
def InstP (K : PySem.W.Frag) (x C : Addr) (ox : Obj) (od : Option Obj) (s : Shared) : Prop := K.In s.heap ∧ PySem.W.InstAt s.heap x ox C od
theorem list_eq_no (v : Value) (hsub : PySem.W.subIn K (.ref C) (.type "list") = some false) : GivesAt (InstP K x C ox od) (Builtin.«list.__eq__» ⟨[v, .ref x], []⟩) (.val .notImplemented) := by
  intro prog w A R s ⟨X, I⟩ h
  have L : PySem.W.Looks (model prog w) s.heap (isInstance (.ref x) (.type "list")) false := I.type.andThen (PySem.W.looks_subIn X hsub)
  show wpAny _ _ (isInstance (.ref x) (.type "list") >>= _) _ _ s
  refine wpAny_bind (L.here ?_)
  simp only [Bool.not_false, if_true]
  exact wpAny_pure h
theorem list_ne_no (v : Value) (hsub : PySem.W.subIn K (.ref C) (.type "list") = some false) : GivesAt (InstP K x C ox od) (Builtin.«list.__ne__» ⟨[v, .ref x], []⟩) (.val .notImplemented) := by
  intro prog w A R s ⟨X, I⟩ h
  have L : PySem.W.Looks (model prog w) s.heap (isInstance (.ref x) (.type "list")) false := I.type.andThen (PySem.W.looks_subIn X hsub)
  show wpAny _ _ (isInstance (.ref x) (.type "list") >>= _) _ _ s
  refine wpAny_bind (L.here ?_)
  simp only [Bool.not_false, if_true]
  exact wpAny_pure h
theorem tuple_eq_no (v : Value) (hsub : PySem.W.subIn K (.ref C) (.type "tuple") = some false) : GivesAt (InstP K x C ox od) (Builtin.«tuple.__eq__» ⟨[v, .ref x], []⟩) (.val .notImplemented) := by
  intro prog w A R s ⟨X, I⟩ h
  have L : PySem.W.Looks (model prog w) s.heap (isInstance (.ref x) (.type "tuple")) false := I.type.andThen (PySem.W.looks_subIn X hsub)
  show wpAny _ _ (isInstance (.ref x) (.type "tuple") >>= _) _ _ s
  refine wpAny_bind (L.here ?_)
  simp only [Bool.not_false, if_true]
  exact wpAny_pure h
theorem tuple_ne_no (v : Value) (hsub : PySem.W.subIn K (.ref C) (.type "tuple") = some false) : GivesAt (InstP K x C ox od) (Builtin.«tuple.__ne__» ⟨[v, .ref x], []⟩) (.val .notImplemented) := by
  intro prog w A R s ⟨X, I⟩ h
  have L : PySem.W.Looks (model prog w) s.heap (isInstance (.ref x) (.type "tuple")) false := I.type.andThen (PySem.W.looks_subIn X hsub)
  show wpAny _ _ (isInstance (.ref x) (.type "tuple") >>= _) _ _ s
  refine wpAny_bind (L.here ?_)
  simp only [Bool.not_false, if_true]
  exact wpAny_pure h
theorem none_eq_no : GivesAt (fun _ => True) (Builtin.«NoneType.__eq__» ⟨[.none, .ref x], []⟩) (.val .notImplemented) := by
  intro prog w A R s _ h
  unfold Builtin.«NoneType.__eq__»
  refine wpAny_bind (wpAny_pure ?_)
  exact wpAny_pure h
theorem none_ne_no : GivesAt (fun _ => True) (Builtin.«NoneType.__ne__» ⟨[.none, .ref x], []⟩) (.val .notImplemented) := by
  intro prog w A R s _ h
  unfold Builtin.«NoneType.__ne__»
  refine wpAny_bind (wpAny_pure ?_)
  exact wpAny_pure h
/-- the values that decline an instance of the class at C -/
inductive NoEq (K : PySem.W.Frag) (C : Addr) (s : Shared) : Value → String → Prop
  | none : NoEq K C s .none "NoneType"
  | int (i : Int) (t : Tok) : NoEq K C s (.int i t) "int"
  | bool (b : Bool) : NoEq K C s (.bool b) "bool"
  | str (a : Str) (t : Tok) : NoEq K C s (.str a t) "str"
  | list (l : Addr) (h : s.TypeIs (.ref l) "list") : NoEq K C s (.ref l) "list"
  | tuple (l : Addr) (h : s.TypeIs (.ref l) "tuple") : NoEq K C s (.ref l) "tuple"
structure NoSub (K : PySem.W.Frag) (C : Addr) : Prop where
  none : PySem.W.subIn K (.ref C) (.type "NoneType") = some false
  int : PySem.W.subIn K (.ref C) (.type "int") = some false
  bool : PySem.W.subIn K (.ref C) (.type "bool") = some false
  str : PySem.W.subIn K (.ref C) (.type "str") = some false
  list : PySem.W.subIn K (.ref C) (.type "list") = some false
  tuple : PySem.W.subIn K (.ref C) (.type "tuple") = some false
theorem eq_declined {v : Value} {T : String} {op : CmpOp} (ho : op = .Eq ∨ op = .NotEq) (X : K.In s.heap) (I : PySem.W.InstAt s.heap x ox C od) (hx : s.heap.get? x = some ox) (hd : ox.data = .plain) (c : NoSub K C) (hv : NoEq K C s v T) :
    ∃ id, s.TypeIs v T ∧ Slot T (cmpInfo op).2.1 id ∧ wpAny (model prog w) A (call (.builtin id) [v, .ref x]) (fun r s' => r = .notImplemented ∧ s' = s) E s := by
  rcases ho with rfl | rfl
  · cases hv with
    | none => exact ⟨_, rfl, F.slot_NoneType_eq, call_givesAt F.slot_NoneType_eq rfl F.entry_NoneType_eq (F.args_NoneType_eq_2 _ _) none_eq_no trivial ⟨rfl, rfl⟩⟩
    | int i t => exact ⟨_, rfl, F.slot_int_eq, call_givesAt F.slot_int_eq rfl F.entry_int_eq (F.args_int_eq_2 _ _) (int_eq_no hd _ (.inl ⟨_, _, rfl⟩)) hx ⟨rfl, rfl⟩⟩
    | bool b => exact ⟨_, rfl, F.slot_bool_eq, call_givesAt F.slot_bool_eq rfl F.entry_int_eq (F.args_int_eq_2 _ _) (int_eq_no hd _ (.inr ⟨_, rfl⟩)) hx ⟨rfl, rfl⟩⟩
    | str a t => exact ⟨_, rfl, F.slot_str_eq, call_givesAt F.slot_str_eq rfl F.entry_str_eq (F.args_str_eq_2 _ _) (str_eq_no hd _ _) hx ⟨rfl, rfl⟩⟩
    | list l h => exact ⟨_, h, F.slot_list_eq, call_givesAt F.slot_list_eq h F.entry_list_eq (F.args_list_eq_2 _ _) (list_eq_no _ c.list) ⟨X, I⟩ ⟨rfl, rfl⟩⟩
    | tuple l h => exact ⟨_, h, F.slot_tuple_eq, call_givesAt F.slot_tuple_eq h F.entry_tuple_eq (F.args_tuple_eq_2 _ _) (tuple_eq_no _ c.tuple) ⟨X, I⟩ ⟨rfl, rfl⟩⟩
  · cases hv with
    | none => exact ⟨_, rfl, F.slot_NoneType_ne, call_givesAt F.slot_NoneType_ne rfl F.entry_NoneType_ne (F.args_NoneType_ne_2 _ _) none_ne_no trivial ⟨rfl, rfl⟩⟩
    | int i t => exact ⟨_, rfl, F.slot_int_ne, call_givesAt F.slot_int_ne rfl F.entry_int_ne (F.args_int_ne_2 _ _) (int_ne_no hd _ (.inl ⟨_, _, rfl⟩)) hx ⟨rfl, rfl⟩⟩
    | bool b => exact ⟨_, rfl, F.slot_bool_ne, call_givesAt F.slot_bool_ne rfl F.entry_int_ne (F.args_int_ne_2 _ _) (int_ne_no hd _ (.inr ⟨_, rfl⟩)) hx ⟨rfl, rfl⟩⟩
    | str a t => exact ⟨_, rfl, F.slot_str_ne, call_givesAt F.slot_str_ne rfl F.entry_str_ne (F.args_str_ne_2 _ _) (str_ne_no hd _ _) hx ⟨rfl, rfl⟩⟩
    | list l h => exact ⟨_, h, F.slot_list_ne, call_givesAt F.slot_list_ne h F.entry_list_ne (F.args_list_ne_2 _ _) (list_ne_no _ c.list) ⟨X, I⟩ ⟨rfl, rfl⟩⟩
    | tuple l h => exact ⟨_, h, F.slot_tuple_ne, call_givesAt F.slot_tuple_ne h F.entry_tuple_ne (F.args_tuple_ne_2 _ _) (tuple_ne_no _ c.tuple) ⟨X, I⟩ ⟨rfl, rfl⟩⟩
theorem NoSub.at (c : NoSub K C) {v : Value} {T : String} (hv : NoEq K C s v T) : PySem.W.subIn K (.ref C) (.type T) = some false := by
  cases hv
  · exact c.none
  · exact c.int
  · exact c.bool
  · exact c.str
  · exact c.list
  · exact c.tuple
end
end Hv

namespace Hv
open PySem PySem.Spec PyProof.Rows L2
/-- what == and != ask of the class at C whose own __eq__ is at f -/
structure EqO (K : PySem.W.Frag) (C f : Addr) : Prop where
  eq : PySem.W.findIn K (.ref C) "__eq__" = some (some (.ref f))
  fn : PySem.W.isFn K (.ref f) = true
  ne : PySem.W.findIn K (.ref C) "__ne__" = some (some (.builtin "object.__ne__"))
  ob : PySem.W.mroIn K C (.type "object") = some true
  no : NoSub K C
  u1 : PySem.W.subIn K (.type "NoneType") (.ref C) = some false
  u2 : PySem.W.subIn K (.type "int") (.ref C) = some false
  u3 : PySem.W.subIn K (.type "bool") (.ref C) = some false
  u4 : PySem.W.subIn K (.type "str") (.ref C) = some false
  u5 : PySem.W.subIn K (.type "list") (.ref C) = some false
  u6 : PySem.W.subIn K (.type "tuple") (.ref C) = some false
/-- values of built-in types that stand in H -/
inductive Oth (K : PySem.W.Frag) (H : Hp) : V → Prop
  | non : Oth K H .non
  | int (i : Int) : Oth K H (.int i)
  | bl (b : Bool) : Oth K H (.bl b)
  | str (z : Str) : Oth K H (.str z)
  | lst (a : Addr) (xs : List V) (h : H a = some (.lst xs)) : Oth K H (.ref a)
  | tup (a : Addr) (xs : List V) (h : SqT K H a xs) : Oth K H (.ref a)
section
variable {X : Cx} {CX : CXT} {n : Nat} {C f : Addr} {sp : Sp} {E : XK} {pins : List (Addr × Obj)} {σ : L2.St} {H : Hp} {s : Shared}
theorem run_below {k : Nat} {A : Around} {Q : VK} {us : List Value} {vs : List V} (sb : Sub X k A) (F : FnR X.prog X.w X.K X.mg X.base CX k f sp) (hx : Passes CX X E) (I : Inv X pins σ H s) (r : Vals vs us) (h : sp vs H Q E) :
    wpAny (model X.prog X.w) A (call (.ref f) us) (EP X pins σ Q) X.xe s := by
  have e0 : Env0 X.prog X.w X.K X.mg X.base A X.stack s H := by
    have e := I.env0
    exact ⟨by rw [sb.fr]; exact e.frames, e.mod, e.bs, e.bsz, e.funs, e.frf, e.hok, e.bare⟩
  refine wpAny_call (codeAny_mono (F A X.stack s H us vs Q E sb.room e0 r h) fun r s' hq => ?_)
  cases r with
  | error e => exact hx pins σ H s e s' I hq
  | ok fl =>
    cases fl with
    | ret u => exact I.after hq
    | next => exact False.elim hq
    | brk => exact False.elim hq
    | cont => exact False.elim hq
theorem oth_no {y : V} {u : Value} (I : Inv X pins σ H s) (o : Oth X.K H y) (r : RelV y u) : ∃ T, NoEq X.K C s u T := by
  cases o with
  | non => cases (show u = Value.none from r); exact ⟨_, .none⟩
  | int i => obtain ⟨t, rfl⟩ := (show ∃ t, u = Value.int i t from r); exact ⟨_, .int i t⟩
  | bl b => cases (show u = Value.bool b from r); exact ⟨_, .bool b⟩
  | str z => obtain ⟨t, rfl⟩ := (show ∃ t, u = Value.str z t from r); exact ⟨_, .str z t⟩
  | lst a xs h =>
    cases (show u = Value.ref a from r)
    obtain ⟨z, its, k, r, e⟩ := I.hok a _ h
    exact ⟨_, .list a ⟨_, e, rfl⟩⟩
  | tup a xs h =>
    cases (show u = Value.ref a from r)
    obtain ⟨its, r, ⟨o, ho, hc, n, hd⟩, hz⟩ := I.tuple h
    exact ⟨_, .tuple a ⟨o, ho, hc⟩⟩
theorem EqO.first (c : EqO X.K C f) {u : Value} {T : String} (h : NoEq X.K C s u T) : PySem.W.notFirst X.K C (.type T) = true := by
  unfold PySem.W.notFirst
  cases h
  · rw [c.u1]; simp
  · rw [c.u2]; simp
  · rw [c.u3]; simp
  · rw [c.u4]; simp
  · rw [c.u5]; simp
  · rw [c.u6]; simp
/-- the other side of an instance of C -/
def Mate (K : PySem.W.Frag) (C : Addr) (H : Hp) (y : V) : Prop := Oth K H y ∨ ∃ b D dy gs, y = .ref b ∧ H b = some (.ins D dy gs) ∧ PySem.W.notFirst K C (.ref D) = true
/-- x == y, x != y with an instance of C on the left -/
def rOwnL (K : PySem.W.Frag) (C : Addr) (g : Bool → Bool) (sp : Sp) (E : XK) : R2 := fun x y H Q => ∃ a dx fs, x = .ref a ∧ H a = some (.ins C dx fs) ∧ Mate K C H y ∧ sp [x, y] H (fun v H' => ∃ k, v = .bl k ∧ Q (.bl (g k)) H') E
/-- the same with an instance of C on the right, a value of a built-in type on the left -/
def rOwnR (K : PySem.W.Frag) (C : Addr) (g : Bool → Bool) (sp : Sp) (E : XK) : R2 := fun x y H Q => ∃ a dx fs, y = .ref a ∧ H a = some (.ins C dx fs) ∧ Oth K H x ∧ sp [y, x] H (fun v H' => ∃ k, v = .bl k ∧ Q (.bl (g k)) H') E
theorem run_bool {g : Bool → Bool} {k : Nat} {A : Around} {Q : VK} {us : List Value} {vs : List V} (sb : Sub X k A) (F : FnR X.prog X.w X.K X.mg X.base CX k f sp) (hx : Passes CX X E) (I : Inv X pins σ H s) (r : Vals vs us)
    (h : sp vs H (fun v H' => ∃ k, v = .bl k ∧ Q (.bl (g k)) H') E) :
    wpAny (model X.prog X.w) A (call (.ref f) us) (fun v s' => ∃ k, v = .bool k ∧ EP X pins σ Q (.bool (g k)) s') X.xe s := by
  refine wpAny_mono (run_below sb F hx I r h) ?_ fun _ _ z => z
  rintro v s' ⟨z, H', I', rz, k, rfl, q⟩
  cases (show v = Value.bool k from rz)
  exact ⟨k, rfl, .bl (g k), H', I', rfl, q⟩
theorem looks_ty {M : Model} {l : Addr} {T : String} (h : s.TypeIs (.ref l) T) : PySem.W.Looks M s.heap (typeOf (.ref l)) (.type T) := by
  obtain ⟨o, ho, hc⟩ := h
  exact fun A Q E s' k q => wpAny_typeOf ⟨o, k _ _ ho, hc⟩ q
theorem mate_type {y : V} {u : Value} (c : EqO X.K C f) (I : Inv X pins σ H s) (h : Mate X.K C H y) (r : RelV y u) : ∃ tb, PySem.W.Looks (model X.prog X.w) s.heap (typeOf u) tb ∧ PySem.W.notFirst X.K C tb = true := by
  rcases h with h | ⟨b, D, dy, gs, rfl, hb, hn⟩
  · obtain ⟨T, h⟩ := oth_no (C := C) I h r
    refine ⟨.type T, ?_, c.first h⟩
    cases h with
    | none => exact PySem.W.Looks.now
    | int i t => exact PySem.W.Looks.now
    | bool b => exact PySem.W.Looks.now
    | str a t => exact PySem.W.Looks.now
    | list l h => exact looks_ty h
    | tuple l h => exact looks_ty h
  · cases (show u = Value.ref b from r)
    obtain ⟨mB, J', _⟩ := ins_get I.hok hb
    obtain ⟨od', J', _⟩ := J'.look
    exact ⟨_, J'.type, hn⟩
theorem op_eqOwnL (c : EqO X.K C f) (F : FnR X.prog X.w X.K X.mg X.base CX n f sp) (hr : Room n X.A) (hx : Passes CX X E) : OpR X (compareOp .Eq) (rOwnL X.K C id sp E) := by
  intro pins s σ H x y v u Q I rx ry h
  obtain ⟨a, dx, fs, rfl, ha, hm, q⟩ := h
  cases (show v = Value.ref a from rx)
  obtain ⟨mA, J, _⟩ := ins_get I.hok ha
  obtain ⟨od, J, _⟩ := J.look
  obtain ⟨tb, L, hn⟩ := mate_type c I hm ry
  show wpAny (model X.prog X.w) X.A (richCompare .Eq (.ref a) u) (EP X pins σ Q) X.xe s
  exact cmp_left (op := .Eq) hr.units0 I.kIn J L hn (try_eq I.kIn J c.eq c.fn (run_bool (g := id) ⟨hr, rfl⟩ F hx I (vs := [.ref a, y]) (.cons rfl (.cons ry .nil)) q))
theorem op_neOwnL (c : EqO X.K C f) (F : FnR X.prog X.w X.K X.mg X.base CX n f sp) (hr : Room (n + 1) X.A) (hx : Passes CX X E) : OpR X (compareOp .NotEq) (rOwnL X.K C (!·) sp E) := by
  intro pins s σ H x y v u Q I rx ry h
  obtain ⟨a, dx, fs, rfl, ha, hm, q⟩ := h
  cases (show v = Value.ref a from rx)
  obtain ⟨mA, J, _⟩ := ins_get I.hok ha
  obtain ⟨od, J, _⟩ := J.look
  obtain ⟨tb, L, hn⟩ := mate_type c I hm ry
  have sb : Sub X (n + 1) X.A := ⟨hr, rfl⟩
  show wpAny (model X.prog X.w) X.A (richCompare .NotEq (.ref a) u) (EP X pins σ Q) X.xe s
  exact cmp_left (op := .NotEq) hr.units0 I.kIn J L hn (try_ne sb.in1.room.units0 I.kIn J c.ne c.ob c.eq c.fn (run_bool (g := (!·)) sb.in1 F hx I (vs := [.ref a, y]) (.cons rfl (.cons ry .nil)) q))
theorem op_eqOwnR (c : EqO X.K C f) (F : FnR X.prog X.w X.K X.mg X.base CX n f sp) (hr : Room n X.A) (hx : Passes CX X E) : OpR X (compareOp .Eq) (rOwnR X.K C id sp E) := by
  intro pins s σ H x y v u Q I rx ry h
  obtain ⟨a, dx, fs, rfl, ha, hm, q⟩ := h
  cases (show u = Value.ref a from ry)
  obtain ⟨mA, J0, _⟩ := ins_get I.hok ha
  obtain ⟨od, J, _⟩ := J0.look
  obtain ⟨T, hT⟩ := oth_no (C := C) I hm rx
  obtain ⟨id', t1, t2, t3⟩ := eq_declined (prog := X.prog) (w := X.w) (A := X.A) (E := X.xe) (op := .Eq) (.inl rfl) I.kIn J J.at_ rfl c.no hT
  show wpAny (model X.prog X.w) X.A (richCompare .Eq v (.ref a)) (EP X pins σ Q) X.xe s
  exact cmp_right (op := .Eq) hr.units0 I.kIn J t1 t2 t3 (c.no.at hT) (try_eq I.kIn J c.eq c.fn (run_bool (g := id) ⟨hr, rfl⟩ F hx I (vs := [.ref a, x]) (.cons rfl (.cons rx .nil)) q))
theorem op_neOwnR (c : EqO X.K C f) (F : FnR X.prog X.w X.K X.mg X.base CX n f sp) (hr : Room (n + 1) X.A) (hx : Passes CX X E) : OpR X (compareOp .NotEq) (rOwnR X.K C (!·) sp E) := by
  intro pins s σ H x y v u Q I rx ry h
  obtain ⟨a, dx, fs, rfl, ha, hm, q⟩ := h
  cases (show u = Value.ref a from ry)
  obtain ⟨mA, J0, _⟩ := ins_get I.hok ha
  obtain ⟨od, J, _⟩ := J0.look
  obtain ⟨T, hT⟩ := oth_no (C := C) I hm rx
  obtain ⟨id', t1, t2, t3⟩ := eq_declined (prog := X.prog) (w := X.w) (A := X.A) (E := X.xe) (op := .NotEq) (.inr rfl) I.kIn J J.at_ rfl c.no hT
  have sb : Sub X (n + 1) X.A := ⟨hr, rfl⟩
  show wpAny (model X.prog X.w) X.A (richCompare .NotEq v (.ref a)) (EP X pins σ Q) X.xe s
  exact cmp_right (op := .NotEq) hr.units0 I.kIn J t1 t2 t3 (c.no.at hT) (try_ne sb.in1.room.units0 I.kIn J c.ne c.ob c.eq c.fn (run_bool (g := (!·)) sb.in1 F hx I (vs := [.ref a, x]) (.cons rfl (.cons rx .nil)) q))
theorem op_or {op : Value → Value → Sem Value} {r1 r2 : R2} (h1 : OpR X op r1) (h2 : OpR X op r2) : OpR X op (fun x y H Q => r1 x y H Q ∨ r2 x y H Q) := by
  intro pins s σ H x y v u Q I rx ry h
  rcases h with h | h
  · exact h1 pins s σ H x y v u Q I rx ry h
  · exact h2 pins s σ H x y v u Q I rx ry h
end
end Hv

namespace Hv
open PySem PySem.Spec PyProof.Rows L2 SlX
/-- x < y and the like, of data that is alike -/
def rOrd (K : PySem.W.Frag) (g : PyData → PyData → Bool) : R2 := fun x y H Q => ∃ d e, Dp K H x d ∧ Dp K H y e ∧ PySem.W.alike d e = true ∧ d ≠ .none ∧ min d.depth e.depth ≤ 60 ∧ Q (.bl (g d e)) H
section
variable {X : Cx}
theorem op_ltDt (hu : X.A.units + 64 < cLine) : OpR X (compareOp .Lt) (rOrd X.K fun d e => PySem.W.dataLt d e) := by
  rintro pins s σ H x y v u Q I rx ry ⟨d, e, hd, he, al, nn, dep, q⟩
  obtain ⟨as, r1⟩ := Dp.reads I d x v hd rx
  obtain ⟨bs, r2⟩ := Dp.reads I e y u he ry
  exact PySem.W.lt_data r1 r2 al nn (by omega) ⟨.bl _, H, I, rfl, q⟩
theorem op_gtDt (hu : X.A.units + 64 < cLine) : OpR X (compareOp .Gt) (rOrd X.K fun d e => PySem.W.dataLt e d) := by
  rintro pins s σ H x y v u Q I rx ry ⟨d, e, hd, he, al, nn, dep, q⟩
  obtain ⟨as, r1⟩ := Dp.reads I d x v hd rx
  obtain ⟨bs, r2⟩ := Dp.reads I e y u he ry
  exact PySem.W.gt_data r1 r2 al nn (by omega) ⟨.bl _, H, I, rfl, q⟩
theorem op_leDt (hu : X.A.units + 64 < cLine) : OpR X (compareOp .LtE) (rOrd X.K fun d e => !PySem.W.dataLt e d) := by
  rintro pins s σ H x y v u Q I rx ry ⟨d, e, hd, he, al, nn, dep, q⟩
  obtain ⟨as, r1⟩ := Dp.reads I d x v hd rx
  obtain ⟨bs, r2⟩ := Dp.reads I e y u he ry
  exact PySem.W.le_data r1 r2 al nn (by omega) ⟨.bl _, H, I, rfl, q⟩
theorem op_geDt (hu : X.A.units + 64 < cLine) : OpR X (compareOp .GtE) (rOrd X.K fun d e => !PySem.W.dataLt d e) := by
  rintro pins s σ H x y v u Q I rx ry ⟨d, e, hd, he, al, nn, dep, q⟩
  obtain ⟨as, r1⟩ := Dp.reads I d x v hd rx
  obtain ⟨bs, r2⟩ := Dp.reads I e y u he ry
  exact PySem.W.ge_data r1 r2 al nn (by omega) ⟨.bl _, H, I, rfl, q⟩
end
/-! ### == and != of instances with slots -/
section
variable {X : Cx} {CX : CXT} {n : Nat} {C f : Addr} {sp : Sp} {E : XK} {pins : List (Addr × Obj)} {σ : L2.St} {H : Hp} {s : Shared}
/-- the other side -/
def MateS (K : PySem.W.Frag) (C : Addr) (H : Hp) (y : V) : Prop := Oth K H y ∨ ∃ b D dy ws, y = .ref b ∧ Slt H b D dy ws ∧ PySem.W.notFirst K C (.ref D) = true
def rEqS (K : PySem.W.Frag) (C : Addr) (g : Bool → Bool) (sp : Sp) (E : XK) : R2 := fun x y H Q => ∃ a dx vs, x = .ref a ∧ Slt H a C dx vs ∧ MateS K C H y ∧ sp [x, y] H (fun v H' => ∃ k, v = .bl k ∧ Q (.bl (g k)) H') E
def rEqSR (K : PySem.W.Frag) (C : Addr) (g : Bool → Bool) (sp : Sp) (E : XK) : R2 := fun x y H Q => ∃ a dx vs, y = .ref a ∧ Slt H a C dx vs ∧ Oth K H x ∧ sp [y, x] H (fun v H' => ∃ k, v = .bl k ∧ Q (.bl (g k)) H') E
theorem mateS_type {y : V} {u : Value} (c : EqO X.K C f) (I : Inv X pins σ H s) (h : MateS X.K C H y) (r : RelV y u) : ∃ tb, PySem.W.Looks (model X.prog X.w) s.heap (typeOf u) tb ∧ PySem.W.notFirst X.K C tb = true := by
  rcases h with h | ⟨b, D, dy, ws, rfl, hb, hn⟩
  · exact mate_type c I (.inl h) r
  · cases (show u = Value.ref b from r)
    obtain ⟨sl', od', _, J', _⟩ := slt_inst I hb
    exact ⟨_, J'.type, hn⟩
theorem op_eqS (c : EqO X.K C f) (F : FnR X.prog X.w X.K X.mg X.base CX n f sp) (hr : Room n X.A) (hx : Passes CX X E) : OpR X (compareOp .Eq) (rEqS X.K C id sp E) := by
  rintro pins s σ H x y v u Q I rx ry ⟨a, dx, vs, rfl, ha, hm, q⟩
  cases (show v = Value.ref a from rx)
  obtain ⟨sl, od, _, J, _⟩ := slt_inst I ha
  obtain ⟨tb, L, hn⟩ := mateS_type c I hm ry
  exact cmp_left (op := .Eq) hr.units0 I.kIn J L hn (try_eq I.kIn J c.eq c.fn (run_bool (g := id) ⟨hr, rfl⟩ F hx I (vs := [.ref a, y]) (.cons rfl (.cons ry .nil)) q))
theorem op_neS (c : EqO X.K C f) (F : FnR X.prog X.w X.K X.mg X.base CX n f sp) (hr : Room (n + 1) X.A) (hx : Passes CX X E) : OpR X (compareOp .NotEq) (rEqS X.K C (!·) sp E) := by
  rintro pins s σ H x y v u Q I rx ry ⟨a, dx, vs, rfl, ha, hm, q⟩
  cases (show v = Value.ref a from rx)
  obtain ⟨sl, od, _, J, _⟩ := slt_inst I ha
  obtain ⟨tb, L, hn⟩ := mateS_type c I hm ry
  have sb : Sub X (n + 1) X.A := ⟨hr, rfl⟩
  exact cmp_left (op := .NotEq) hr.units0 I.kIn J L hn (try_ne sb.in1.room.units0 I.kIn J c.ne c.ob c.eq c.fn (run_bool (g := (!·)) sb.in1 F hx I (vs := [.ref a, y]) (.cons rfl (.cons ry .nil)) q))
theorem op_eqSR (c : EqO X.K C f) (F : FnR X.prog X.w X.K X.mg X.base CX n f sp) (hr : Room n X.A) (hx : Passes CX X E) : OpR X (compareOp .Eq) (rEqSR X.K C id sp E) := by
  rintro pins s σ H x y v u Q I rx ry ⟨a, dx, vs, rfl, ha, hm, q⟩
  cases (show u = Value.ref a from ry)
  obtain ⟨sl, od, _, J, _⟩ := slt_inst I ha
  obtain ⟨T, hT⟩ := oth_no (C := C) I hm rx
  obtain ⟨id', t1, t2, t3⟩ := eq_declined (prog := X.prog) (w := X.w) (A := X.A) (E := X.xe) (op := .Eq) (.inl rfl) I.kIn J J.at_ rfl c.no hT
  exact cmp_right (op := .Eq) hr.units0 I.kIn J t1 t2 t3 (c.no.at hT) (try_eq I.kIn J c.eq c.fn (run_bool (g := id) ⟨hr, rfl⟩ F hx I (vs := [.ref a, x]) (.cons rfl (.cons rx .nil)) q))
/-- such an instance is true -/
theorem tru_slt (hs : PySem.W.findIn X.K (.ref C) "__bool__" = some none) (hl : PySem.W.findIn X.K (.ref C) "__len__" = some none) : TruR X (fun x H Q => ∃ a dx vs, x = .ref a ∧ Slt H a C dx vs ∧ Q true H) := by
  rintro pins s σ H x v Q I rx ⟨a, dx, vs, rfl, ha, q⟩
  cases (show v = Value.ref a from rx)
  obtain ⟨sl, od, _, J, _⟩ := slt_inst I ha
  unfold truthy
  refine wpAny_bind (m := callSpecial? (.ref a) (Str.ofString "__bool__")) (wpAny_bind (wpAny_bind (J.type.here ((PySem.W.looks_findIn I.kIn hs).here (wpAny_pure ?_)))))
  exact wpAny_bind (wpAny_bind (J.type.here ((PySem.W.looks_findIn I.kIn hl).here (wpAny_pure ⟨H, I, q⟩))))
end
end Hv

namespace Hv
open PySem PySem.Spec PyProof.Rows L2
theorem fly_push {B h : Heap} {l : List Env} {a : Addr} {Z : Obj → Prop} {o : Obj} (f : HandSPX.FlyingZ B l a Z h) : HandSPX.FlyingZ B l a Z (h.push o) := by
  obtain ⟨g1, g2, g3, oe, vs, T, oT, ts, e1, e2, e3, e4, e5, e6, e7, e8, e9⟩ := f
  have k : ∀ b u, h.get? b = some u → (h.push o).get? b = some u := fun b u e => Heap.get?_push_of_some _ e
  exact ⟨fun b u e => k b u (g1 b u e), g2, Heap.FunFrames.of_keeps (fun b u e _ => ⟨u, k b u e, rfl⟩) g3, oe, vs, T, oT, ts, k _ _ e1, e2, e3, e4, e5, e6, k _ _ e7, e8, e9⟩
/-- the wish of a clause of three classes: what comes is one of them -/
def wTup (K : PySem.W.Frag) (len : Nat) (cs : List Value) (i : Nat) (ts : Addr → Value → Option Addr → TS) (D : Ends) : WX := fun cls d σ H => σ.length = len →
  PySem.W.exmAny K cls cs = some true ∧ ∀ a, H a = none →
    ts a cls d { nx := fun σ' H' => D.nx (σ'.set i none) H', rt := D.rt, bk := fun σ' H' => D.bk (σ'.set i none) H', ct := fun σ' H' => D.ct (σ'.set i none) H' } (σ.set i (some (.ref a))) H
/-- try: body / except (x1, x2, x3) as n: suite, where all that the body lets out is of these classes -/
theorem ps_try_tup {X : Cx} {x1 x2 x3 n : Str} {c1 c2 c3 : Addr} {i j : Nat} {body suite : List Stmt} {b₀ : Stmt} {q1 q2 q3 qt pos pos' : Pos} {tb : WX → TS} {ts : Addr → Value → Option Addr → TS}
    (hs : X.stack = X.env :: X.outer) (hf : X.env.frame = some X.env.locals) (hN : X.N.Nodup) (hi : X.N[i]? = some n) (hln : X.env.kindOf n = some .local)
    (g1 : Gl X x1) (g2 : Gl X x2) (g3 : Gl X x3) (m1 : X.mg x1 = some (.ref c1)) (m2 : X.mg x2 = some (.ref c2)) (m3 : X.mg x3 = some (.ref c3))
    (hb : ∀ (W : WX) (pn : List (Addr × Obj)) (xe : Value → Shared → Prop), Takes (X.tr pn xe) W → PassesOwn (model X.prog X.w) X.A X.env xe → PSs (X.tr pn xe) body (tb W))
    (hsu : ∀ (a : Addr) (oe : Obj) (cls : Value) (d : Option Addr) (pn : List (Addr × Obj)), Zc cls d oe → (∃ vs, oe.data = .fields vs) → PSs (X.suite a ((a, oe) :: pn)) (b₀ :: suite) (ts a cls d))
    (d1 : (x1 == ("__debug__" : Str)) = false := by decide) (d2 : (x2 == ("__debug__" : Str)) = false := by decide) (d3 : (x3 == ("__debug__" : Str)) = false := by decide) :
    PS X (.Try body [.ExceptHandler (some (.Tuple [.Name x1 q1, .Name x2 q2, .Name x3 q3] j qt)) (some n) (b₀ :: suite) pos'] [] [] pos) (fun D σ H => tb (wTup X.K X.N.length [.ref c1, .ref c2, .ref c3] i ts D) D σ H) := by
  refine ⟨fun pins s σ H D I h => ?_⟩
  have xok := I.ok
  have frames : X.A.frames = some (X.env :: X.outer) := by
    rw [xok.frames, hs]
  refine wpAny_Try_except ?_
  have BODY := hb (wTup X.K X.N.length [.ref c1, .ref c2, .ref c3] i ts D) (X.pn ++ pins) (fun e t1 => wpAny (model X.prog X.w) X.A (noteFrame e X.env) (fun _ t2 => wpAny (model X.prog X.w) X.A (setFlight e none) (fun _ t3 =>
    wpAny (model X.prog X.w) X.A (handleBy e X.env [.ExceptHandler (some (.Tuple [.Name x1 q1, .Name x2 q2, .Name x3 q3] j qt)) (some n) (b₀ :: suite) pos']) (SP X pins D) X.xe t3) X.xe t2) X.xe t1) ?caught PassesOwn.looking
  · refine wpAny_mono (BODY.run [] s σ H D (I.toTry _) h) (fun fl s1 hsp => ?_) fun e s1 he => he
    cases fl with
    | next => obtain ⟨σ', H', J', q⟩ := hsp; exact wpAny_execs_nil ⟨σ', H', J'.ofTry xok, q⟩
    | brk => obtain ⟨σ', H', J', q⟩ := hsp; exact ⟨σ', H', J'.ofTry xok, q⟩
    | cont => obtain ⟨σ', H', J', q⟩ := hsp; exact ⟨σ', H', J'.ofTry xok, q⟩
    | ret u => obtain ⟨v, σ', H', J', r, q⟩ := hsp; exact ⟨v, σ', H', J'.ofTry xok, r, q⟩
  · rintro u s' ⟨a, B, sI, pins', σ', H', cls, d, rfl, J', nb, up, sky, na, os, ag, wish⟩
    obtain ⟨hany, hyes⟩ := wish J'.len
    have J : Inv X pins σ' H' sI := J'.ofTry xok
    rw [show X.stack = X.env :: X.outer from hs] at sky
    show wpAny (model X.prog X.w) X.A (noteFrame (.ref a) X.env) _ _ _
    refine Sky.land Zc.steady frames hf sky fun h3 fl3 up3 => ?_
    have J3 : Inv X pins σ' H' { s' with heap := h3 } := J.landed nb fl3.1 (up.trans up3) os ag
    obtain ⟨oe3, vs3, he3, hz3, hd3⟩ := fl3.there
    have nofr : a ∉ frs (X.env :: X.outer) := fun hm => by
      obtain ⟨_, o', e', hnf⟩ := fl3.2.2.1.mem hm
      rw [he3] at e'
      cases e'
      exact hnf _ hd3
    have nL : a ≠ X.env.locals := fun z => nofr (List.mem_filterMap.mpr ⟨X.env, List.mem_cons_self, by rw [hf, z]⟩)
    have nF : a ∉ X.fs := fun hm => by
      obtain ⟨e, he, q⟩ := List.mem_filterMap.mp hm
      exact nofr (List.mem_filterMap.mpr ⟨e, List.mem_cons_of_mem _ he, q⟩)
    have S3 := J3.suite he3 hd3 na nL nF
    refine wpAny_handleBy_cons (codeAny_handlers_test ?_) (by intro q; cases q)
    refine Tuple_ ?_
    show wpAny _ _ (spliced ((false, eval (.Name x1 q1) X.env) :: backTo qt (starEach [.Name x2 q2, .Name x3 q3] X.env))) _ _ _
    refine Calls.spliced_cons (ld_glob S3 g1 m1 ?_ d1)
    show wpAny _ _ (spliced ((false, eval (.Name x2 q2) X.env) :: backTo qt (starEach [.Name x3 q3] X.env))) _ _ _
    refine Calls.spliced_cons (ld_glob S3 g2 m2 ?_ d2)
    show wpAny _ _ (spliced ((false, eval (.Name x3 q3) X.env) :: backTo qt (starEach [] X.env))) _ _ _
    refine Calls.spliced_cons (ld_glob S3 g3 m3 (Calls.spliced_nil ?_) d3)
    refine wpAny_newObj_type ?_ (by show 3 ≤ sizeLine; decide)
    have fl5 := fly_push (o := { cls := .type "tuple", data := .seq [Value.ref c1, .ref c2, .ref c3].toArray }) fl3
    have up5 : s'.heap.UpToSlots (h3.push { cls := .type "tuple", data := .seq [Value.ref c1, .ref c2, .ref c3].toArray }) := up3.trans (Heap.UpToSlots.of_keeps fun b o e => Heap.get?_push_of_some _ e)
    have LT : PySem.W.Looks (model X.prog X.w) (h3.push { cls := .type "tuple", data := .seq [Value.ref c1, .ref c2, .ref c3].toArray }) (typeOf (.ref a)) cls := fun A Q E s k q =>
      wpAny_typeOf_ref (k _ _ (Heap.get?_push_of_some _ he3)) (by rw [hz3.1]; exact q)
    have LM := PySem.W.exm_tup3 (M := model X.prog X.w) (J3.kIn.keeps fun b o e => Heap.get?_push_of_some _ e) LT (Heap.get?_push_size _ rfl) hany
    refine LM.here ?_
    refine codeAny_handlers_suite_as ?_
    refine HandSPX.lands_againZ fl5 fun h4 fl4 up4 => ?_
    have J4 : Inv X pins σ' H' { s' with heap := h4 } := J.landed nb fl4.1 ((up.trans up5).trans up4) os ag
    obtain ⟨oe4, vs4, he4, hz4, hd4⟩ := fl4.there
    have S4 := J4.suite he4 hd4 na nL nF
    refine store_ok (X := X.suite a ((a, oe4) :: (X.pn ++ pins))) (v := .ref a) S4 hN hi (.inl hln) rfl (fun s5 S5 => ?_) (.inr hln)
    refine wpAny_mono ((hsu a oe4 cls d (X.pn ++ pins) hz4 ⟨_, hd4⟩).run [] s5 _ H' _ S5 (hyes a na)) (fun fl s6 hsp => ?_) fun _ _ z => False.elim z
    cases fl with
    | next => obtain ⟨σ6, H6, S6, q6⟩ := hsp; exact gone_ok (S6.unsuite xok) hN hi hln fun s7 J7 => ⟨_, _, J7, q6⟩
    | brk => obtain ⟨σ6, H6, S6, q6⟩ := hsp; exact gone_ok (S6.unsuite xok) hN hi hln fun s7 J7 => ⟨_, _, J7, q6⟩
    | cont => obtain ⟨σ6, H6, S6, q6⟩ := hsp; exact gone_ok (S6.unsuite xok) hN hi hln fun s7 J7 => ⟨_, _, J7, q6⟩
    | ret u => obtain ⟨v6, σ6, H6, S6, r6, q6⟩ := hsp; exact gone_ok (S6.unsuite xok) hN hi hln fun s7 J7 => ⟨_, _, _, J7, r6, q6⟩
end Hv

namespace Hv
open PySem PySem.Spec PyProof.Rows L2
/-- a def's promise where the exception at p is handled and no repr is under way -/
structure FnP (P : Program) (w : World) (K : PySem.W.Frag) (mg : Str → Option Value) (base : Heap) (k : Nat) (f : Addr) (fd : FuncData) (ps : List Str) (sp : Addr × Obj → Sp) : Prop where
  len : ∀ p vs H Q E, sp p vs H Q E → vs.length = ps.length
  run : ∀ (A : Around) (outer : List Env) (s : Shared) (H : Hp) (us : List Value) (vs : List V) (Q : VK) (p : Addr × Obj), A.guards = some [] → L2H.RoomH k A → L2H.PinOk outer H s p → Env0 P w K mg base A outer s H →
    BindsTo s fd ⟨us, []⟩ (ps.zip us) → Vals vs us → sp p vs H Q E0 → codeAny (model P w) A (.call (.ref f) ⟨us, []⟩) (CR CX0 outer P w H s Q E0) s
/-- such a def by its body -/
theorem fnP_of {P : Program} {w : World} {K : PySem.W.Frag} {mg : Str → Option Value} {base : Heap} {k : Nat} {f : Addr} {fd : FuncData} {x qual : Str} {st : Stmt} {N ps : List Str} {sp : Addr × Obj → Sp} (F : Fun K x qual st f fd) (S : FnScope N ps (defScope st))
    (len : ∀ p vs H Q E, sp p vs H Q E → vs.length = ps.length)
    (body : ∀ (cdv : Value) (A : Around) (outer : List Env) (s : Shared) (H : Hp) (vs : List V) (Q : VK) (p : Addr × Obj), A.guards = some [] → L2H.RoomH k (A.deeper (envOfC qual (defScope st) s.heap.objs.size f cdv)) → sp p vs H Q E0 →
      ∃ t, PSs (L2H.cxH CX0 P w K mg base N qual (defScope st) f cdv A outer s H E0 p) (defBody st) t ∧ t { nx := fun _ H' => Q .non H', rt := Q } (start N vs) H) :
    FnP P w K mg base (k + 1) f fd ps sp := by
  obtain ⟨oc, od, kV, doc, pm, an, cdv, ct, osl, rfl, lk, hcd⟩ := F.ex
  refine ⟨len, fun A outer s H us vs Q p hG hr hp e0 hb r hsp => ?_⟩
  have X := e0.mod.kin.keeps (fun b o e => (e0.bs b o e).1)
  have free := e0.mod.nolimit.keeps (fun b o e => (e0.bs b o e).1)
  have par : ∀ y ∈ ps.zip us, (defScope st).names.lookup y.1 = some .local ∨ ((defScope st).names.lookup y.1 = some .cell ∧ ((cellsFrom (s.heap.objs.size + 1) (defScope st).names []).lookup y.1).isSome = true) := by
    rintro ⟨n, v⟩ hy
    exact (S.par n (List.of_mem_zip hy).1).imp id fun q => ⟨q, PySem.W.cellsFrom_some _ _ _ (Or.inl q)⟩
  apply codeAny_call_function hr.depth (X _ _ lk) rfl S.co S.gen rfl (PySem.W.codeRec_of X hcd)
  apply hb
  refine wpAny_newFunctionEnv_cells S.kind par ?_
  rintro env rfl s1 z
  refine ⟨free.keeps z.toInCall.keep, codeAny_func ?_⟩
  obtain ⟨t, ht, hq⟩ := body cdv A outer s H vs Q p hG (hr.deeper _) hsp
  have I := L2H.inv_startH (CX := CX0) (E := E0) S hp e0 (len _ _ _ _ _ hsp) r z
  apply wpAny_mono (ht.run [] s1 (start N vs) H _ I hq)
  · intro fl s' hs
    cases fl with
    | ret u => obtain ⟨v, σ', H', J, rv, q⟩ := hs; exact ⟨v, H', J.os, J.bare, J.base, J.hok, rv, q⟩
    | next => obtain ⟨σ', H', J, q⟩ := hs; exact ⟨V.non, H', J.os, J.bare, J.base, J.hok, rfl, q⟩
    | brk => obtain ⟨_, _, _, q⟩ := hs; exact q.elim
    | cont => obtain ⟨_, _, _, q⟩ := hs; exact q.elim
  · exact fun e s' hs => hs
section
variable {X : Cx} {k : Nat} {f : Addr} {fd : FuncData} {ps : List Str} {sp : Addr × Obj → Sp} {x : Str} {q pos : Pos} {e : Expr} {es : List Expr} {t : TA} {p : Addr × Obj}
theorem runP {pins : List (Addr × Obj)} {σ : L2.St} {H : Hp} {s : Shared} {Q : VK} {us : List Value} {vs : List V} (F : FnP X.prog X.w X.K X.mg X.base k f fd ps sp) (hG : X.A.guards = some []) (hr : L2H.RoomH k X.A) (hp : p ∈ X.pn) (hb : Binds X.K fd ps [])
    (I : Inv X pins σ H s) (r : Vals vs us) (h : sp p vs H Q E0) : wpAny (model X.prog X.w) X.A (call (.ref f) us) (EP X pins σ Q) X.xe s := by
  have hl : (us ++ []).length = ps.length := by
    rw [List.append_nil, ← r.length]
    exact F.len _ _ _ _ _ h
  have b := hb s us I.kIn hl
  rw [List.append_nil] at b
  obtain ⟨z1, z2, z3, z4, z5⟩ := I.pin p (List.mem_append_left _ hp)
  have pin : L2H.PinOk X.stack H s p := ⟨z1, z2, fun hm => (List.mem_cons.mp (I.stkSub p.1 hm)).elim z3 z4, z5⟩
  refine wpAny_call (codeAny_mono (F.run X.A X.stack s H us vs Q p hG hr pin I.env0 b r h) fun r s' hq => ?_)
  match r, hq with
  | .error e, hq => exact False.elim hq
  | .ok (.ret u), hq => exact I.after hq
  | .ok .next, hq => exact hq.elim
  | .ok .brk, hq => exact hq.elim
  | .ok .cont, hq => exact hq.elim
def tCallP (sp : Sp) (t : TA) : TE := fun σ H Q => t σ H fun vs H1 => sp vs H1 Q E0
/-- f(e, ..) where the exception at p is handled -/
theorem pe_callP (F : FnP X.prog X.w X.K X.mg X.base k f fd ps sp) (hG : X.A.guards = some []) (hr : L2H.RoomH k X.A) (hp : p ∈ X.pn) (hg : Gl X x) (hm : X.mg x = some (.ref f)) (hk : PySem.W.keepIn X.K (.ref f) = true) (hb : Binds X.K fd ps [])
    (ha : PA X (e :: es) t) (hdb : (x == ("__debug__" : Str)) = false := by decide) (he : starEach (e :: es) X.env = (false, eval e X.env) :: starEach es X.env := by rfl) (hpl : (backTo pos (starEach es X.env)).any (·.1) = false := by rfl) :
    PE X (.Call (.Name x q) (e :: es) [] pos) (tCallP (sp p) t) := by
  constructor
  intro pins s σ H Q I h
  apply wpAny_Call_Name_kw
  refine ld_glob I hg hm ?_ hdb
  refine PySem.W.callWith_K (h₀ := X.base) I.ok.mod.kin hk (thn (ha.run pos pins s σ H _ I h) ?_) he hpl
  rintro us s1 ⟨vs, H1, I1, r, z⟩
  exact ⟨I1.kIn, runP F hG hr hp hb I1 r z⟩
theorem pe_call0P (F : FnP X.prog X.w X.K X.mg X.base k f fd ps sp) (hG : X.A.guards = some []) (hr : L2H.RoomH k X.A) (hp : p ∈ X.pn) (hg : Gl X x) (hm : X.mg x = some (.ref f)) (hk : PySem.W.keepIn X.K (.ref f) = true) (hb : Binds X.K fd ps [])
    (hdb : (x == ("__debug__" : Str)) = false := by decide) : PE X (.Call (.Name x q) [] [] pos) (tCallP (sp p) tNil) := by
  constructor
  intro pins s σ H Q I h
  apply wpAny_Call_Name_kw
  refine ld_glob I hg hm ?_ hdb
  exact PySem.W.callWith_K0 I.kIn hk (runP (us := []) F hG hr hp hb I .nil h)
end
end Hv

namespace Hv
open PySem PySem.Spec PySem.Calls PyProof.Rows L2
section
variable {prog : Program} {w : World} {A : Around} {E : Value → Shared → Prop} {s : Shared} {K : PySem.W.Frag} {x D : Addr} {ox : Obj} {od : Option Obj}
theorem cls_there (c : ExcC K D) : ∃ c' d' cd sl, K.lookup D = some ⟨c', d', .cls cd, sl⟩ := by
  obtain ⟨cd, hc, _⟩ := PySem.W.any_some c.hd
  unfold PySem.W.clsIn at hc
  split at hc
  · rename_i c' d' cd' sl' ho
    exact ⟨c', d', cd', sl', ho⟩
  · cases hc
theorem exc_found (c : ExcC K D) : PySem.W.findObj K D od "__class__" = some (.bind (.builtin "getset_descriptor.__get__") (.builtin "object.__class__")) := by
  obtain ⟨cd, hc, _⟩ := PySem.W.any_some c.hd
  unfold PySem.W.findObj
  rw [hc, Option.bind_some, c.ha, Option.bind_some]
  simp [c.hn, c.ht]
/-- the class of an exception, whatever its dict -/
theorem exc_class {Q : Option Value → Shared → Prop} (c : ExcC K D) (X : K.In s.heap) (I : PySem.W.InstAt s.heap x ox D od) (h : Q (some (.ref D)) { s with toks := s.toks + 1 }) :
    wpAny (model prog w) A (getAttr? (.ref x) "__class__") Q E s := by
  obtain ⟨hp, g, d, t, os⟩ := s
  have l0 := I.type (M := model prog w)
  have l1 := PySem.W.looks_findIn (M := model prog w) X c.hg
  have l2 := PySem.W.looks_findIn (M := model prog w) X c.hk
  have l3 := PySem.W.looks_find (M := model prog w) X I (exc_found c)
  have sub : PySem.W.Looks (model prog w) hp (isInstance (.ref x) (.type "BaseException")) true := l0.andThen (PySem.W.looks_subIn X c.hs)
  have ne1 : (Value.builtin "BaseException.__getattribute__" == Value.builtin "object.__getattribute__") = false := by decide +kernel
  have ne2 : (onTheHeap (Value.ref D) && Value.builtin "BaseException.__getattribute__" == Value.builtin "object.__getattribute__") = false := by
    rw [ne1]
    rfl
  have ne3 : (false && onTheHeap (Value.builtin "BaseException.__getattribute__")) = false := rfl
  unfold getAttr? getAttrBy? getAttrBy
  refine wpAny_bind (wpAny_mkText (wpAny_bind (wpAny_attempt (wpAny_holding (wpAny_bind (l0.at (wpAny_bind (l1.at ?_))))))))
  show wpAny _ _ (if (onTheHeap (Value.ref D) && Value.builtin "BaseException.__getattribute__" == Value.builtin "object.__getattribute__") = true then _ else _) _ _ _
  rw [ne2, if_neg Bool.false_ne_true]
  unfold getAttrByItsOwn hookBefore
  apply wpAny_bind
  rw [if_pos (show onTheHeap (Value.ref D) = true from rfl)]
  apply l2.at
  refine wpAny_bind (wpAny_attempt (wpAny_holding ?_))
  unfold callGetattribute
  rw [ne3, if_neg Bool.false_ne_true]
  unfold boundAndCalled
  rw [PySem.F.excAttr_ValueError.ga.bind (.ref x)]
  apply wpAny_bind
  apply wpAny_pure
  show wpAny _ _ (call (.builtin "BaseException.__getattribute__") [.ref x, .str "__class__" t]) _ _ _
  refine wpAny_call (codeAny_call_builtin PySem.F.excAttr_ValueError.ga.plain PySem.F.entry_bexc_ga ?_)
  refine @PySem.W.check_slot (model prog w) _ _ ⟨hp, g, d, t + 1, os⟩ "BaseException.__getattribute__" "BaseException" "__getattribute__" (.ref x) [.str "__class__" t] [] _ (by decide +kernel) (by decide +kernel) sub (PySem.F.args_bexc_ga (.ref x) (.str "__class__" t)) ?_
  unfold Builtin.«object.__getattribute__»
  apply wpAny_bind
  refine wpAny_of_eq (a := ((Value.ref x : Value), [Value.str "__class__" t])) (by first | rfl | (simp only [slotArgs]; rfl)) ?_
  refine wpAny_bind (wpAny_pure (wpAny_bind (l0.at (wpAny_bind (l3.at ?_)))))
  show wpAny _ _ (holding [Value.builtin "object.__class__"] (call (.builtin "getset_descriptor.__get__") [.builtin "object.__class__", .ref x, .ref D]) >>= ret) _ _ _
  refine wpAny_bind (wpAny_holding (wpAny_call (PySem.W.class_get (s := ⟨hp, g, d, t + 1, os⟩) (ox := ox) (od := od) X I c.hm ?_)))
  apply wpAny_pure
  show wpAny _ _ (handedOut (.ref D)) _ _ _
  rw [PySem.W.handedOut_of (v := .ref D) rfl]
  first
    | exact wpAny_pure (wpAny_pure h)
    | exact wpAny_pure h
    | exact wpAny_pure (wpAny_bind (wpAny_pure (wpAny_pure h)))
theorem kitx_err (c : ExcC K D) : PySem.W.KitX K (.ref x) (.ref D) (fun h => ∃ od, PySem.W.InstAt h x ox D od) where
  ty := fun _ _ _ I => I.choose_spec.type
  it := fun _ _ X _ => by
    obtain ⟨c', d', cd, sl, ho⟩ := cls_there c
    intro A' Q' E' s' k q
    unfold isType loadHead
    exact wpAny_bind (wpAny_loadPart (k _ _ (X _ _ ho)) (wpAny_pure q))
  ne := fun h tp dd its n sl X htp => by
    obtain ⟨c', d', cd, sl2, ho⟩ := cls_there c
    rw [Bool.eq_false_iff]
    intro q
    cases Value.ref.inj (beq_iff_eq.mp q)
    have z := (X _ _ ho).symm.trans htp
    cases z
  ca := fun X I k => exc_class c X I.choose_spec k
end
section
variable {X : Cx} {p : Addr × Obj} {D : Addr} {d : Option Addr}
/-- the dict of an exception, if it has one -/
def XdAt (H : Hp) (d : Option Addr) (fs : List (Str × V)) : Prop := (d = none ∧ fs = []) ∨ ∃ dd, d = some dd ∧ H dd = some (.xd fs)
theorem inst_pin {pins : List (Addr × Obj)} {σ : L2.St} {H : Hp} {s : Shared} {fs : List (Str × V)} (I : Inv X pins σ H s) (hp : p ∈ X.pn) (hz : Zc (.ref D) d p.2) (hf : ∃ vs, p.2.data = .fields vs) (hd : XdAt H d fs) :
    ∃ od, PySem.W.InstAt s.heap p.1 p.2 D od ∧ ∀ n v, fs.lookup n = some v → ∃ o u, od = some o ∧ PySem.W.lookIn n o = some (some u) ∧ RelV v u := by
  obtain ⟨ha, _⟩ := I.pin p (List.mem_append_left _ hp)
  obtain ⟨vs, hv⟩ := hf
  have no : PySem.W.notCls p.2 = true := by
    unfold PySem.W.notCls
    rw [hv]
  rcases hd with ⟨rfl, rfl⟩ | ⟨dd, rfl, hx⟩
  · exact ⟨none, ⟨ha, hz.1, no, by rw [hz.2]; trivial⟩, fun n v e => by simp at e⟩
  · obtain ⟨mA, hns, hr⟩ := (show ObjOk X.prog X.w H s.heap dd (.xd fs) from I.hok dd _ hx)
    obtain ⟨od, ho, hl⟩ := lookIn_ns hns
    refine ⟨some od, ⟨ha, hz.1, no, by rw [hz.2]; exact ho⟩, fun n v e => ?_⟩
    obtain ⟨u, hu, ru⟩ := RelO.some_of (v := v) (o := mA n) (by rw [← e]; exact hr n)
    exact ⟨od, u, rfl, by rw [hl, hu], ru⟩
/-- isinstance(e, c), e the exception that is handled -/
@[irreducible] def rIsP (K : PySem.W.Frag) (a D : Addr) (d : Option Addr) : List V → Hp → VK → Prop := fun xs H Q =>
  ∃ (c : V) (cv : Value) (b : Bool) (fs : List (Str × V)), xs = [.ref a, c] ∧ (∀ u, RelV c u → u = cv) ∧ PySem.W.kitOne K (.ref D) cv = some b ∧ XdAt H d fs ∧ Q (.bl b) H
theorem rIsP_in {K : PySem.W.Frag} {a : Addr} {H : Hp} {c : V} {cv : Value} {b : Bool} {fs : List (Str × V)} {Q : VK} (h1 : ∀ u, RelV c u → u = cv) (h2 : PySem.W.kitOne K (.ref D) cv = some b) (h3 : XdAt H d fs) (q : Q (.bl b) H) : rIsP K a D d [.ref a, c] H Q := by
  unfold rIsP
  exact ⟨c, cv, b, fs, rfl, h1, h2, h3, q⟩
theorem call_isP (c : ExcC X.K D) (hp : p ∈ X.pn) (hz : Zc (.ref D) d p.2) (hf : ∃ vs, p.2.data = .fields vs) : CallR X (.builtin "isinstance") (rIsP X.K p.1 D d) := by
  intro pins s σ H xs us Q I r h
  unfold rIsP at h
  obtain ⟨cc, cv, b, fs, rfl, hcv, e, hd, q⟩ := h
  match us, r with
  | [_, _], .cons rx (.cons rt .nil) =>
    cases rx
    cases hcv _ rt
    obtain ⟨od, J, _⟩ := inst_pin I hp hz hf hd
    exact PySem.W.kia_one (kitx_err c) I.kIn ⟨od, J⟩ e (fun z => nomatch z) fun tk => ⟨.bl b, H, I.kept (t' := tk) fun _ _ z => z, rfl, q⟩
/-- e.n, e the exception that is handled -/
def tXp (a : Addr) (d : Option Addr) (n : Str) (te : TE) : TE := fun σ H Q => te σ H fun x H1 => x = .ref a ∧ ∃ (fs : List (Str × V)) (v : V), XdAt H1 d fs ∧ fs.lookup n = some v ∧ Q v H1
theorem pe_xp {e : Expr} {te : TE} {pos : Pos} {n : Str} (c : XfC X.K D) (hno : PySem.W.findIn X.K (.ref D) n = some none) (hp : p ∈ X.pn) (hz : Zc (.ref D) d p.2) (hf : ∃ vs, p.2.data = .fields vs) (he : PE X e te)
    (hb : attributeBase e n X.env (eval e X.env) = eval e X.env := by rfl) : PE X (.Attribute e n pos) (tXp p.1 d n te) := by
  constructor
  intro pins s σ H Q I h
  refine attr_of hb (thn (he.run pins s σ H _ I h) ?_)
  rintro u s1 ⟨x, H1, I1, rx, rfl, fs, v, hd, hl, q⟩
  cases (show u = Value.ref p.1 from rx)
  obtain ⟨od, J, look⟩ := inst_pin I1 hp hz hf hd
  obtain ⟨o, u, rfl, hu, ru⟩ := look n v hl
  exact HandSPX.exc_get I1.kIn J c.ga c.gg c.exC (PySem.W.findObj_own c.hdC hno rfl (by rw [hu])) (handed_of ru) ⟨v, H1, I1.tok _, ru, q⟩
end
end Hv

namespace Hv
open PySem PySem.Spec PyProof.Rows L2
/-- a reading by what it leads to -/
def clo (te : TE) : TE := fun σ H K => ∃ Q0 : VK, te σ H Q0 ∧ ∀ v H', Q0 v H' → K v H'
theorem pe_clo {X : Cx} {e : Expr} {te : TE} (he : PE X e te) : PE X e (clo te) := by
  constructor
  rintro pins s σ H K I ⟨Q0, h, m⟩
  refine wpAny_mono (he.run pins s σ H Q0 I h) ?_ fun _ _ z => z
  rintro u s' ⟨v, H', J, r, q⟩
  exact ⟨v, H', J, r, m v H' q⟩
/-! ### class X(..): def __init__(self, f): self.f = f -/
def eA (f : Str) (p1 p2 : Pos) : Arguments := { posonlyargs := [], args := [{ arg := "self", annotation := none, pos := p1 }, { arg := f, annotation := none, pos := p2 }], vararg := none, kwonlyargs := [], kw_defaults := [], kwarg := none, defaults := [] }
def eB (f : Str) (q1 q2 q3 q4 : Pos) : List Stmt := [.Assign [.Attribute (.Name "self" q1) f q2] (.Name f q3) q4]
def eS (f : Str) : Scope := { kind := .function, names := [(PySem.Str.ofString "self", .local), (f, .local)], isGenerator := false, isCoroutine := false, more := [] }
structure FldOk (f : Str) : Prop where
  sc : FnScope ["self", f] ["self", f] (eS f)
  lk : (eS f).names.lookup f = some .local
  d1 : (f == ("__debug__" : Str)) = false
  d2 : (f == ("__classdict__" : Str)) = false
  bd : ∀ (q : Str) (p1 p2 q1 q2 q3 q4 : Pos) (kV doc pm : Value) (an : Option Addr) (cd ct : Value) (us : List Value), us.length = 2 →
    bindArgs (PySem.W.fnOf "__init__" q (eA f p1 p2) (eB f q1 q2 q3 q4) (eS f) .none kV doc pm an cd ct) ⟨us, []⟩ = pure ((["self", f] : List Str).zip us)
theorem fld_given : FldOk "given" := ⟨⟨rfl, rfl, rfl, by decide +kernel, rfl, by decide +kernel, by decide +kernel⟩, rfl, by decide, by decide, fun _ _ _ _ _ _ _ _ _ _ _ _ _ us hl => match us, hl with | [_, _], _ => rfl⟩
theorem fld_index : FldOk "index" := ⟨⟨rfl, rfl, rfl, by decide +kernel, rfl, by decide +kernel, by decide +kernel⟩, rfl, by decide, by decide, fun _ _ _ _ _ _ _ _ _ _ _ _ _ us hl => match us, hl with | [_, _], _ => rfl⟩
theorem fld_kind : FldOk "kind" := ⟨⟨rfl, rfl, rfl, by decide +kernel, rfl, by decide +kernel, by decide +kernel⟩, rfl, by decide, by decide, fun _ _ _ _ _ _ _ _ _ _ _ _ _ us hl => match us, hl with | [_, _], _ => rfl⟩
/-- what the text has of such a class -/
structure ErrTxt (K : PySem.W.Frag) (mg : Str → Option Value) (x f : Str) (C : Addr) : Prop where
  mg : mg x = some (.ref C)
  fld : FldOk f
  oex : OexC K C
  isx : ExcC K C
  no : PySem.W.findIn K (.ref C) f = some none
  ini : ∃ (fI : Addr) (oc : Value) (od : Option Addr) (kV doc pm : Value) (an : Option Addr) (cd ct : Value) (sl : Array (Option Value)) (q : Str) (p1 p2 q1 q2 q3 q4 : Pos),
    PySem.W.findIn K (.ref C) "__init__" = some (some (.ref fI)) ∧ PySem.W.typeIn K (.ref fI) = some (.type "function") ∧
    K.lookup fI = some ⟨oc, od, .func (PySem.W.fnOf "__init__" q (eA f p1 p2) (eB f q1 q2 q3 q4) (eS f) .none kV doc pm an cd ct), sl⟩ ∧ PySem.W.codeIn K cd q = true
theorem ErrTxt.xf {K : PySem.W.Frag} {mg : Str → Option Value} {x f : Str} {C : Addr} (T : ErrTxt K mg x f C) : XfC K C := ⟨T.isx.hg, T.isx.hk, T.isx.hs, T.isx.hd⟩
def sp_einit (f : Str) (C : Addr) : Sp := fun vs H Q _ => ∃ (a : Addr) (v : V), vs = [.ref a, v] ∧ H a = some (exo a C none) ∧ ∀ dx, H dx = none → dx ≠ a → Q .non (upd (upd H dx (exd dx [(f, v)])) a (exo a C (some dx)))
theorem einit_ok {P : Program} {w : World} {K : PySem.W.Frag} {mg : Str → Option Value} {base : Heap} {x f : Str} {C : Addr} (T : ErrTxt K mg x f C) :
    ∃ fI fd, PySem.W.findIn K (.ref C) "__init__" = some (some (.ref fI)) ∧ PySem.W.typeIn K (.ref fI) = some (.type "function") ∧ FnOk P w K mg base CX0 1 fI fd ["self", f] (sp_einit f C) ∧ Binds K fd ["self", f] [] := by
  obtain ⟨fI, oc, od, kV, doc, pm, an, cd, ct, sl, q, p1, p2, q1, q2, q3, q4, h1, h2, h3, h4⟩ := T.ini
  refine ⟨fI, _, h1, h2, fn_of h3 h4 T.fld.sc (fun vs H Q E h => ?_) (fun A outer s H vs Q E hr h => ?_), .all fun us hl => T.fld.bd _ _ _ _ _ _ _ _ _ _ _ _ _ us hl⟩
  · obtain ⟨a, v, rfl, _⟩ := h
    rfl
  · obtain ⟨a, v, rfl, ha, ret⟩ := h
    refine ⟨_, pss_one (ps_ost (pe_var (i := 0) rfl (.inl rfl)) (pe_var (i := 1) rfl (.inl T.fld.lk) T.fld.d1 T.fld.d2)), ?_⟩
    exact ⟨v, rfl, .ref a, rfl, a, C, rfl, T.oex, T.no, .inl ⟨ha, fun dx h1 h2 => ret dx h1 h2⟩⟩
/-- an error is made -/
def tErr (C : Addr) (f : Str) (te : TE) : L2.St → Hp → XK → Prop := fun σ H Q => te σ H fun v H1 => ∀ d, H1 d = none → Q (.ref C) (some d) (upd H1 d (.xd [(f, v)]))
theorem pmk_err {X : Cx} {x f : Str} {C : Addr} {e : Expr} {te : TE} {p pos : Pos} (T : ErrTxt X.K X.mg x f C) (hr : Room 2 X.A) (hg : Gl X x) (he : PE X e te) (hdb : (x == ("__debug__" : Str)) = false := by decide)
    (hs : starEach [e] X.env = (false, eval e X.env) :: starEach [] X.env := by rfl) (hpl : (backTo pos (starEach [] X.env)).any (·.1) = false := by rfl) : PMk X (.Call (.Name x p) [e] [] pos) (tErr C f te) := by
  intro pins s σ H Q I h
  obtain ⟨fI, fd, h1, h2, F, hb⟩ := einit_ok (P := X.prog) (w := X.w) (base := X.base) T
  refine pmk_oex T.oex h1 h2 F hr hb .nil (fun _ _ _ _ _ _ _ z => False.elim z) hg T.mg (pa_cons (pe_clo he) pa_nil hs) hdb hs hpl pins s σ H Q I ?_
  refine ⟨_, h, fun v H1 q => ⟨by show 1 ≤ 1000; decide, fun a na => ⟨a, v, rfl, upd_same, fun dx n1 n2 => ⟨rfl, dx, [(f, v)], upd_same, by rw [upd_ne n2, upd_same], ?_, ?_⟩⟩⟩⟩
  · rw [upd_ne n2] at n1
    exact n1
  · rw [upd_ne n2] at n1
    have e : upd (del (upd (upd (upd H1 a (exo a C none)) dx (exd dx [(f, v)])) a (exo a C (some dx))) a) dx (.xd [(f, v)]) = upd H1 dx (.xd [(f, v)]) := by
      funext b
      by_cases hb : b = dx
      · rw [hb, upd_same, upd_same]
      · rw [upd_ne hb, upd_ne hb]
        by_cases ha : b = a
        · rw [ha, del_same, na]
        · rw [del_ne ha, upd_ne ha, upd_ne hb, upd_ne ha]
    rw [e]
    exact q dx n1
/-- raise X(e) -/
theorem ps_err {X : Cx} {W : WX} {x f : Str} {C : Addr} {e : Expr} {te : TE} {p pos pos' : Pos} (T : ErrTxt X.K X.mg x f C) (hr : Room 2 X.A) (hc : X.calm = true) (tk : Takes X W) (hg : Gl X x) (he : PE X e te) (hdb : (x == ("__debug__" : Str)) = false := by decide)
    (hs : starEach [e] X.env = (false, eval e X.env) :: starEach [] X.env := by rfl) (hpl : (backTo pos (starEach [] X.env)).any (·.1) = false := by rfl) :
    PS X (.Raise (some (.Call (.Name x p) [e] [] pos)) none pos') (fun _ σ H => tErr C f te σ H fun cls d H' => W cls d σ H') := ps_raise hc tk (pmk_err T hr hg he hdb hs hpl)
end Hv

namespace Hv
open PySem L2
/-- data of depth m and bulk n at most, that can be compared and shown -/
structure Fit (d : PyData) (m n : Nat) : Prop where
  lay : d.canLay0 = true
  sh : d.showable = true
  dp : d.depth ≤ m
  lv : d.leavesShort 2000 = true
  bk : d.bulk ≤ n
structure FitAll (ds : List PyData) (m n : Nat) : Prop where
  lay : PyData.canLayAll0 ds = true
  sh : PyData.showableAll ds = true
  dp : PyData.depthAll ds ≤ m
  lv : PyData.leavesShortAll 2000 ds = true
  bk : PyData.bulkAll ds ≤ n
theorem Fit.none {m n : Nat} : Fit .none m n := ⟨rfl, rfl, Nat.zero_le _, rfl, Nat.zero_le _⟩
theorem Fit.bool {b : Bool} {m n : Nat} : Fit (.bool b) m n := ⟨rfl, rfl, Nat.zero_le _, rfl, Nat.zero_le _⟩
theorem Fit.int {i : Int} {m n : Nat} (h : i.natAbs.log2 < 1920) : Fit (.int i) m n := by
  refine ⟨rfl, decide_eq_true h, Nat.zero_le _, decide_eq_true ?_, Nat.zero_le _⟩
  have := PyProof.Rows.int_text_len_1921 h
  show (PySem.Str.ofString (toString i)).length ≤ 2000
  omega
theorem small_log {i : Int} (h0 : -1000000 ≤ i) (h1 : i ≤ 1000000) : i.natAbs.log2 < 1920 := by
  by_cases h : i.natAbs = 0
  · rw [h]
    decide
  · refine Nat.lt_of_lt_of_le ((Nat.log2_lt h).mpr (show i.natAbs < 2 ^ 20 by omega)) (by decide)
theorem Fit.str {z : Str} {m n : Nat} (h : PyData.strOk z = true) (hl : z.length ≤ n) : Fit (.str z) m n := by
  refine ⟨h, rfl, Nat.zero_le _, ?_, hl⟩
  show (z.cps.toList.all fun c => decide (c < 16 ^ 8)) = true
  rw [List.all_eq_true]
  intro c hc
  unfold PyData.strOk at h
  rw [Array.all_eq_true'] at h
  have := of_decide_eq_true (h c (by simpa using hc))
  exact decide_eq_true (by omega)
theorem FitAll.nil {m n : Nat} : FitAll [] m n := ⟨rfl, rfl, Nat.zero_le _, rfl, Nat.zero_le _⟩
theorem FitAll.cons {d : PyData} {ds : List PyData} {m a b : Nat} (h : Fit d m a) (t : FitAll ds m b) : FitAll (d :: ds) m (a + 1 + b) := by
  have h1 := h.dp
  have h2 := t.dp
  have h3 := h.bk
  have h4 := t.bk
  refine ⟨?_, ?_, ?_, ?_, ?_⟩
  · show (PyData.canLay0 d && PyData.canLayAll0 ds) = true
    rw [h.lay, t.lay]; rfl
  · show (PyData.showable d && PyData.showableAll ds) = true
    rw [h.sh, t.sh]; rfl
  · show max (PyData.depth d) (PyData.depthAll ds) ≤ m
    omega
  · show (PyData.leavesShort 2000 d && PyData.leavesShortAll 2000 ds) = true
    rw [h.lv, t.lv]; rfl
  · show PyData.bulk d + 1 + PyData.bulkAll ds ≤ a + 1 + b
    omega
theorem Fit.list {ds : List PyData} {m n : Nat} (h : FitAll ds m n) : Fit (.list ds) (m + 1) n := by
  refine ⟨h.lay, h.sh, ?_, h.lv, h.bk⟩
  have := h.dp
  show PyData.depthAll ds + 1 ≤ m + 1
  omega
theorem Fit.tuple {ds : List PyData} {m n : Nat} (h : FitAll ds m n) : Fit (.tuple ds) (m + 1) n := by
  refine ⟨h.lay, h.sh, ?_, h.lv, h.bk⟩
  have := h.dp
  show PyData.depthAll ds + 1 ≤ m + 1
  omega
theorem Fit.mono {d : PyData} {m n m' n' : Nat} (h : Fit d m n) (a : m ≤ m') (b : n ≤ n') : Fit d m' n' := ⟨h.lay, h.sh, Nat.le_trans h.dp a, h.lv, Nat.le_trans h.bk b⟩
theorem Fit.shaped {d : PyData} {m n : Nat} (h : Fit d m n) (hm : m ≤ 60) : SeqAt.shaped d = true := by
  unfold SeqAt.shaped
  rw [h.lay, decide_eq_true (show d.depth ≤ 64 by have := h.dp; omega)]
  rfl
theorem Fit.noDict {d : PyData} {m n : Nat} (h : Fit d m n) : d.hasDict = false := PyData.hasDict_of_canLay d h.lay
theorem Fit.line {d : PyData} {m n : Nat} (h : Fit d m n) (hn : n ≤ 5000) : d.shown.length ≤ sizeLine := by
  have h1 := PyData.shown_le_bulk 2000 (by decide) d h.lv
  have h2 : 2002 * d.bulk ≤ 2002 * 5000 := Nat.mul_le_mul_left _ (Nat.le_trans h.bk hn)
  have h3 : 2002 * 5000 + 2000 ≤ sizeLine := by decide
  omega
theorem Fit.eqv {d : PyData} {m n : Nat} (h : Fit d m n) : PyData.eqv d d = true := SeqAt.eqv_refl d h.lay
/-- what repr asks -/
theorem Fit.repr {d : PyData} {m n : Nat} {K : PySem.W.Frag} {H : Hp} {v : V} {Q : VK} (h : Fit d m n) (hv : Dp K H v d) (hm : m ≤ 60) (hn : n ≤ 5000) (q : Q (.str d.shown) H) : rRepr K [v] H Q :=
  rd_repr hv h.sh h.noDict (Nat.le_trans h.dp hm) (h.line hn) q
end Hv

namespace Hv
open PySem L2
theorem strOk_iff {z : Str} : PyData.strOk z = true ↔ ∀ c ∈ z.cps.toList, c < 0x110000 := by
  unfold PyData.strOk
  rw [Array.all_eq_true']
  constructor
  · intro h c hc
    exact of_decide_eq_true (h c (by simpa using hc))
  · intro h c hc
    exact decide_eq_true (h c (by simpa using hc))
theorem strOk_app {a b : Str} (ha : PyData.strOk a = true) (hb : PyData.strOk b = true) : PyData.strOk (a ++ b) = true := by
  rw [strOk_iff] at *
  intro c hc
  have e : (a ++ b).cps.toList = a.cps.toList ++ b.cps.toList := by
    show (a.cps ++ b.cps).toList = _
    simp
  rw [e] at hc
  rcases List.mem_append.mp hc with q | q
  · exact ha c q
  · exact hb c q
theorem char_small (c : Char) : c.toNat < 0x110000 := by
  have := c.valid
  rcases this with h | ⟨_, h⟩
  · exact Nat.lt_trans h (by decide)
  · exact h
theorem strOk_of (s : String) : PyData.strOk (Str.ofString s) = true := by
  rw [strOk_iff, Str.ofString_eq_toList]
  intro c hc
  simp only [List.mem_map] at hc
  obtain ⟨d, _, rfl⟩ := hc
  exact char_small d
theorem strOk_join {sep : Str} (hs : PyData.strOk sep = true) : ∀ {ts : List Str}, (∀ t ∈ ts, PyData.strOk t = true) → PyData.strOk (Str.join sep ts) = true
  | [], _ => show PyData.strOk Str.empty = true by decide +kernel
  | [x], h => h x (by simp)
  | x :: y :: r, h => by
    show PyData.strOk (x ++ sep ++ Str.join sep (y :: r)) = true
    exact strOk_app (strOk_app (h x (by simp)) hs) (strOk_join hs fun t ht => h t (by simp at ht ⊢; exact .inr ht))
theorem strOk_from : ∀ (ts : List Str) (k : Nat) (acc : Str), PyData.strOk acc = true → (∀ t ∈ ts, PyData.strOk t = true) → PyData.strOk (textFrom k acc ts) = true
  | [], _, _, h, _ => h
  | t :: ts, k, acc, h, ht => by
    show PyData.strOk (textFrom (k + 1) (acc ++ (if k > 0 then ", " else "" : String) ++ t) ts) = true
    exact strOk_from ts (k + 1) _ (strOk_app (strOk_app h (strOk_of _)) (ht t (by simp))) fun u hu => ht u (by simp [hu])
theorem hex_small {c d : Nat} (h : d ∈ (Nat.toDigits 16 c).map Char.toNat) : d < 0x110000 := by
  simp only [List.mem_map] at h
  obtain ⟨x, _, rfl⟩ := h
  exact char_small x
theorem reprChar_small {q c d : Nat} (hq : q < 0x110000) (hc : c < 0x110000) (h : d ∈ Builtin.Str.reprChar q c) : d < 0x110000 := by
  unfold Builtin.Str.reprChar at h
  have hx : ∀ w d, d ∈ List.replicate w 48 ++ (Nat.toDigits 16 c).map Char.toNat → d < 0x110000 := fun w d h => by
    rcases List.mem_append.mp h with h | h
    · rw [List.eq_of_mem_replicate h]; decide
    · exact hex_small h
  dsimp only at h
  repeat' split at h
  all_goals first
    | (simp only [List.mem_cons, List.not_mem_nil, or_false] at h; omega)
    | (simp only [List.cons_append, List.nil_append, List.mem_cons] at h
       rcases h with h | h | h
       · omega
       · omega
       · exact hx _ _ h)
theorem quote_small (x : Str) : reprQuote x < 0x110000 := by
  unfold reprQuote
  split <;> decide
theorem strOk_repr {x : Str} (h : PyData.strOk x = true) : PyData.strOk (reprText x) = true := by
  rw [strOk_iff] at *
  have go : ∀ (l : List Nat) (acc : Array Nat), (∀ c ∈ l, c < 0x110000) → (∀ c ∈ acc.toList, c < 0x110000) → ∀ c ∈ (l.foldl (fun out c => out ++ (Builtin.Str.reprChar (reprQuote x) c).toArray) acc).toList, c < 0x110000 := by
    intro l
    induction l with
    | nil => intro acc _ h; exact h
    | cons d r ih =>
      intro acc h1 h2
      rw [List.foldl_cons]
      refine ih _ (fun c hc => h1 c (by simp [hc])) fun c hc => ?_
      rw [Array.toList_append] at hc
      rcases List.mem_append.mp hc with q | q
      · exact h2 c q
      · exact reprChar_small (quote_small x) (h1 d (by simp)) (by simpa using q)
  intro c hc
  unfold reprText at hc
  rw [Array.toList_push] at hc
  rcases List.mem_append.mp hc with q | q
  · rw [← Array.foldl_toList] at q
    exact go _ _ h (fun c hc => by simp at hc; rw [hc]; exact quote_small x) c q
  · simp at q
    rw [q]
    exact quote_small x
mutual
theorem shown_ok : ∀ d : PyData, d.canLay0 = true → PyData.strOk d.shown = true
  | .none, _ => by simp only [PyData.shown]; exact strOk_of _
  | .bool b, _ => by cases b <;> decide +kernel
  | .int i, _ => by simp only [PyData.shown]; exact strOk_of _
  | .str x, h => by simp only [PyData.shown]; exact strOk_repr (by simpa only [PyData.canLay0] using h)
  | .list xs, h => by
    simp only [PyData.shown]
    exact strOk_app (strOk_from _ _ _ (strOk_of _) (shown_okAll xs (by simpa only [PyData.canLay0] using h))) (strOk_of _)
  | .tuple xs, h => by
    simp only [PyData.shown]
    exact strOk_app (strOk_app (strOk_of _) (strOk_join (strOk_of _) (shown_okAll xs (by simpa only [PyData.canLay0] using h)))) (strOk_of _)
  | .dict _, h => by simp only [PyData.canLay0] at h; exact nomatch h
theorem shown_okAll : ∀ ds : List PyData, PyData.canLayAll0 ds = true → ∀ t ∈ PyData.shownAll ds, PyData.strOk t = true
  | [], _ => by intro t ht; simp [PyData.shownAll] at ht
  | x :: xs, h => by
    have h' : x.canLay0 = true ∧ PyData.canLayAll0 xs = true := by simpa only [PyData.canLayAll0, Bool.and_eq_true] using h
    intro t ht
    simp only [PyData.shownAll, List.mem_cons] at ht
    rcases ht with rfl | ht
    · exact shown_ok x h'.1
    · exact shown_okAll xs h'.2 t ht
end
end Hv

namespace Hv
open PySem L2
/-- an if whose test is false -/
theorem join_no {tt : TT} {t v : TS} {D : Ends} {σ : L2.St} {H : Hp} (S : Hp → Prop) (h : ∀ Q' : Bool → Hp → Prop, (∀ b H', b = false → S H' → Q' b H') → tt σ H Q') (k : ∀ H', S H' → v D σ H') : tSeq (tIfS tt t tNext) v D σ H :=
  h (fun b H' => if b = true then t { D with nx := v D } σ H' else tNext { D with nx := v D } σ H') (by
    rintro _ H' rfl hs
    exact k H' hs)
/-- a promise that is not looked into -/
@[irreducible] def lk (sp : Sp) : Sp := sp
theorem lk_eq (sp : Sp) : lk sp = sp := by
  unfold lk
  rfl
theorem lk_in {sp : Sp} {vs : List V} {H : Hp} {Q : VK} {E : XK} (h : sp vs H Q E) : lk sp vs H Q E := by
  rw [lk_eq]
  exact h
theorem fn_lk {P : Program} {w : World} {K : PySem.W.Frag} {mg : Str → Option Value} {base : Heap} {CX : CXT} {k : Nat} {f : Addr} {fd : FuncData} {ps : List Str} {sp : Sp} (F : FnOk P w K mg base CX k f fd ps sp) : FnOk P w K mg base CX k f fd ps (lk sp) := by
  rw [lk_eq]
  exact F
end Hv

namespace Hv
open PySem PySem.Spec PyProof.Rows L2
mutual
/-- data, empty dicts among it; no list of it stands at b -/
inductive Dq (K : PySem.W.Frag) (b : Addr) (H : Hp) : V → PyData → Prop
  | non : Dq K b H .non .none
  | bl (k : Bool) : Dq K b H (.bl k) (.bool k)
  | int (i : Int) : Dq K b H (.int i) (.int i)
  | str (z : Str) : Dq K b H (.str z) (.str z)
  | lst {a : Addr} {xs : List V} {ds : List PyData} (h : H a = some (.lst xs)) (n : a ≠ b) (t : DqAll K b H xs ds) : Dq K b H (.ref a) (.list ds)
  | tup {a : Addr} {xs : List V} {ds : List PyData} (h : H a = some (.tup xs)) (t : DqAll K b H xs ds) : Dq K b H (.ref a) (.tuple ds)
  | emp {a : Addr} (h : H a = some (.dK [])) : Dq K b H (.ref a) (.dict [])
inductive DqAll (K : PySem.W.Frag) (b : Addr) (H : Hp) : List V → List PyData → Prop
  | nil : DqAll K b H [] []
  | cons {v : V} {vs : List V} {d : PyData} {ds : List PyData} (h : Dq K b H v d) (t : DqAll K b H vs ds) : DqAll K b H (v :: vs) (d :: ds)
end
mutual
theorem Dq.same {K : PySem.W.Frag} {b : Addr} {H H' : Hp} (e : Same H H') : ∀ {d : PyData} {v : V}, Dq K b H v d → Dq K b H' v d
  | _, _, .non => .non
  | _, _, .bl k => .bl k
  | _, _, .int i => .int i
  | _, _, .str z => .str z
  | _, _, .lst h n t => .lst (e _ _ h) n (DqAll.same e t)
  | _, _, .tup h t => .tup (e _ _ h) (DqAll.same e t)
  | _, _, .emp h => .emp (e _ _ h)
theorem DqAll.same {K : PySem.W.Frag} {b : Addr} {H H' : Hp} (e : Same H H') : ∀ {ds : List PyData} {vs : List V}, DqAll K b H vs ds → DqAll K b H' vs ds
  | _, _, .nil => .nil
  | _, _, .cons h t => .cons (Dq.same e h) (DqAll.same e t)
end
mutual
theorem Dq.but {K : PySem.W.Frag} {b : Addr} {n : Nat} {H H' : Hp} (hb : Bag H b n) (e : But b H H') : ∀ {d : PyData} {v : V}, Dq K b H v d → Dq K b H' v d
  | _, _, .non => .non
  | _, _, .bl k => .bl k
  | _, _, .int i => .int i
  | _, _, .str z => .str z
  | _, _, .lst h n t => .lst (e _ _ n h) n (DqAll.but hb e t)
  | _, _, .tup h t => .tup (e _ _ (by obtain ⟨_, _, _, hb, _⟩ := hb; exact ne_of h hb (by intro q; cases q)) h) (DqAll.but hb e t)
  | _, _, .emp h => .emp (e _ _ (by obtain ⟨_, _, _, hb, _⟩ := hb; exact ne_of h hb (by intro q; cases q)) h)
theorem DqAll.but {K : PySem.W.Frag} {b : Addr} {n : Nat} {H H' : Hp} (hb : Bag H b n) (e : But b H H') : ∀ {ds : List PyData} {vs : List V}, DqAll K b H vs ds → DqAll K b H' vs ds
  | _, _, .nil => .nil
  | _, _, .cons h t => .cons (Dq.but hb e h) (DqAll.but hb e t)
end
section
variable {X : Cx} {pins : List (Addr × Obj)} {σ : L2.St} {H : Hp} {s : Shared} {b : Addr}
theorem emp_reads {a : Addr} (I : Inv X pins σ H s) (h : H a = some (.dK [])) : ∃ o es n, s.heap.get? a = some o ∧ o.cls = .type "dict" ∧ o.data = .dict es n ∧ es.toList = [] ∧ (a == sysModules) = false := by
  obtain ⟨_, hsm, vs, kv, o, es, ep, ho, hx, hd, _, hp, _⟩ := dk_of I.hok h
  cases kv
  refine ⟨o, es, ep, ho, hx.1, hd, ?_, hsm⟩
  cases q : es.toList with
  | nil => rfl
  | cons a b => rw [q] at hp; cases hp
mutual
theorem Dq.reads (I : Inv X pins σ H s) : ∀ (d : PyData) (v : V) (u : Value), Dq X.K b H v d → RelV v u → ∃ as, Reads s.heap u d as
  | .none, _, _, .non, r => by
    cases r
    exact ⟨_, .none⟩
  | .bool k, _, _, .bl _, r => by
    cases r
    exact ⟨_, .bool k⟩
  | .int i, _, _, .int _, r => by
    obtain ⟨t, rfl⟩ := r
    exact ⟨_, .int i t⟩
  | .str x, _, _, .str _, r => by
    obtain ⟨t, rfl⟩ := r
    exact ⟨_, .str x t⟩
  | .list ds, _, _, .lst h _ t, r => by
    cases r
    obtain ⟨its, rv, ⟨o, n, ho, hc, _, hd⟩, _⟩ := I.list (SqL.of h)
    obtain ⟨as, hr⟩ := DqAll.reads I ds _ its t rv
    exact ⟨_, .list ho hc hd hr⟩
  | .tuple ds, _, _, .tup h t, r => by
    cases r
    obtain ⟨its, rv, ⟨o, ho, hc, n, hd⟩, _⟩ := I.tuple (SqT.of h)
    obtain ⟨as, hr⟩ := DqAll.reads I ds _ its t rv
    exact ⟨_, .tuple ho hc hd hr⟩
  | .dict [], _, _, .emp h, r => by
    cases r
    obtain ⟨o, es, n, ho, hc, hd, he, _⟩ := emp_reads I h
    exact ⟨_, .dict (kvs := []) ho hc hd (by rw [he]; exact .nil) (by rw [he]; exact .nil)⟩
theorem DqAll.reads (I : Inv X pins σ H s) : ∀ (ds : List PyData) (vs : List V) (us : List Value), DqAll X.K b H vs ds → Vals vs us → ∃ as, ReadsAll s.heap us ds as
  | [], _, _, .nil, r => by
    cases r
    exact ⟨_, .nil⟩
  | d :: ds, _, _, .cons h t, r => by
    cases r with
    | cons r1 r2 =>
      obtain ⟨as, q1⟩ := Dq.reads I d _ _ h r1
      obtain ⟨bs, q2⟩ := DqAll.reads I ds _ _ t r2
      exact ⟨_, .cons q1 q2⟩
end
abbrev RK (s : Shared) (X : Cx) (bs : List Addr) (n : Nat) (u : Value) (t : Str) : Prop := ReprK X.prog X.w bs s.heap n u t
mutual
theorem Dq.shows (I : Inv X pins σ H s) : ∀ (d : PyData) (v : V) (u : Value), Dq X.K b H v d → RelV v u → d.showable = true → d.shown.length ≤ sizeLine → ∃ bs, ReadAtMost s.heap d.depth bs ∧ RK s X bs d.depth u d.shown
  | .none, _, _, .non, r, hs, hz => by
    cases r
    exact ReprK.of_reads .none hs (fun q => by cases q) hz
  | .bool k, _, _, .bl _, r, hs, hz => by
    cases r
    exact ReprK.of_reads (.bool k) hs (fun q => by cases q) hz
  | .int i, _, _, .int _, r, hs, hz => by
    obtain ⟨t, rfl⟩ := r
    exact ReprK.of_reads (.int i t) hs (fun q => by cases q) hz
  | .str x, _, _, .str _, r, hs, hz => by
    obtain ⟨t, rfl⟩ := r
    exact ReprK.of_reads (.str x t) hs (fun q => by cases q) hz
  | .list ds, _, _, .lst (a := a) h nb t, r, hs, hz => by
    cases r
    have hz' : (listText (PyData.shownAll ds)).length ≤ sizeLine := by
      simpa only [PyData.shown] using hz
    obtain ⟨its, rv, ⟨o, n, ho, hc, _, hd⟩, _⟩ := I.list (SqL.of h)
    obtain ⟨bs, hb, hk⟩ := DqAll.shows I ds _ its t rv (by simpa [PyData.showable] using hs) fun z hm => Nat.le_trans (listText_mem_le hm) hz'
    obtain ⟨as, rd⟩ := Dq.reads (b := b) I (.list ds) (.ref a) (.ref a) (.lst h nb t) rfl
    have dep : PyData.depthAll ds < (PyData.list ds).depth := by
      simp only [PyData.depth]
      omega
    have hna := not_mem_of_deeper rd dep hb
    refine ⟨a :: bs, ReadAtMost.cons rd (by simp only [PyData.depth]; omega) hb, ?_⟩
    show RK s X (a :: bs) (PyData.depth (.list ds)) (.ref a) (PyData.shown (.list ds))
    simp only [PyData.depth, PyData.shown]
    cases its with
    | nil =>
      cases rv
      cases t
      simp only [PyData.shownAll, listText_nil]
      exact ReprK.listEmpty ho hc hd
    | cons x l => exact ReprK.list ho hc hd hna (by simpa using hk.length_eq) fun i y e => hk.item i y (by simpa using e)
  | .tuple ds, _, _, .tup (a := a) h t, r, hs, hz => by
    cases r
    have hz' : (tupleText (PyData.shownAll ds)).length ≤ sizeLine := by
      simpa only [PyData.shown] using hz
    obtain ⟨its, rv, ⟨o, ho, hc, n, hd⟩, _⟩ := I.tuple (SqT.of h)
    obtain ⟨bs, hb, hk⟩ := DqAll.shows I ds _ its t rv (by simpa [PyData.showable] using hs) fun z hm => Nat.le_trans (tupleText_mem_le hm) hz'
    obtain ⟨as, rd⟩ := Dq.reads (b := b) I (.tuple ds) (.ref a) (.ref a) (.tup h t) rfl
    have dep : PyData.depthAll ds < (PyData.tuple ds).depth := by
      simp only [PyData.depth]
      omega
    have hna := not_mem_of_deeper rd dep hb
    refine ⟨a :: bs, ReadAtMost.cons rd (by simp only [PyData.depth]; omega) hb, ?_⟩
    show RK s X (a :: bs) (PyData.depth (.tuple ds)) (.ref a) (PyData.shown (.tuple ds))
    simp only [PyData.depth, PyData.shown]
    exact ReprK.tuple ho hc hd hna hk
  | .dict [], _, _, .emp (a := a) h, r, hs, hz => by
    cases r
    obtain ⟨o, es, n, ho, hc, hd, he, hsm⟩ := emp_reads I h
    refine ReprK.of_reads (as := [a] ++ []) (.dict (kvs := []) (as := []) (bs := []) ho hc hd (by rw [he]; exact .nil) (by rw [he]; exact .nil)) hs (fun _ hm => ?_) hz
    simp at hm
    rw [hm] at hsm
    simp at hsm
theorem DqAll.shows (I : Inv X pins σ H s) : ∀ (ds : List PyData) (vs : List V) (us : List Value), DqAll X.K b H vs ds → Vals vs us → PyData.showableAll ds = true → (∀ t ∈ PyData.shownAll ds, t.length ≤ sizeLine) →
    ∃ bs, ReadAtMost s.heap (PyData.depthAll ds) bs ∧ ReprAllK X.prog X.w bs s.heap (PyData.depthAll ds) us (PyData.shownAll ds)
  | [], _, _, .nil, r, _, _ => by
    cases r
    exact ⟨[], (fun _ h => nomatch h), .nil⟩
  | d :: ds, _, _, .cons h t, r, hs, hz => by
    cases r with
    | cons r1 r2 =>
      simp only [PyData.showableAll, Bool.and_eq_true] at hs
      simp only [PyData.shownAll, List.mem_cons] at hz
      obtain ⟨b1, m1, k1⟩ := Dq.shows I d _ _ h r1 hs.1 (hz _ (.inl rfl))
      obtain ⟨b2, m2, k2⟩ := DqAll.shows I ds _ _ t r2 hs.2 fun t ht => hz t (.inr ht)
      refine ⟨b1 ++ b2, fun a ha => ?_, ?_⟩
      · simp only [PyData.depthAll]
        rcases List.mem_append.mp ha with q | q
        · exact (m1 a q).imp fun d' ⟨as', r', hd'⟩ => ⟨as', r', Nat.le_trans hd' (Nat.le_max_left _ _)⟩
        · exact (m2 a q).imp fun d' ⟨as', r', hd'⟩ => ⟨as', r', Nat.le_trans hd' (Nat.le_max_right _ _)⟩
      · simp only [PyData.depthAll, PyData.shownAll]
        exact .cons ((k1.more fun a ha => List.mem_append_left _ ha).level_le (Nat.le_max_left _ _)) (k2.more_le (fun a ha => List.mem_append_right _ ha) (Nat.le_max_right _ _))
end
theorem Dq.showsBy {a : Addr} {d : PyData} (I : Inv X pins σ H s) (h : Dq X.K b H (.ref a) d) (hs : d.showable = true) (hz : d.shown.length ≤ sizeLine) : ∃ T idr, ShowsBy X.prog X.w s.heap a d T idr := by
  cases h with
  | @lst _ xs ds h nb t =>
    have hz' : (listText (PyData.shownAll ds)).length ≤ sizeLine := by
      simpa only [PyData.shown] using hz
    obtain ⟨its, rv, ⟨o, n, ho, hc, _, hd⟩, _⟩ := I.list (SqL.of h)
    obtain ⟨bs, hb, hk⟩ := DqAll.shows I ds _ its t rv (by simpa [PyData.showable] using hs) fun z hm => Nat.le_trans (listText_mem_le hm) hz'
    obtain ⟨as, rd⟩ := Dq.reads (b := b) I (.list ds) (.ref a) (.ref a) (.lst h nb t) rfl
    have dep : PyData.depthAll ds < (PyData.list ds).depth := by
      simp only [PyData.depth]
      omega
    have hna := not_mem_of_deeper rd dep hb
    refine ⟨"list", "list.__repr__", F.slot_list_repr.toG, F.slot_list_str, F.slot_list_format, (fun s' hk0 => ⟨o, hk0 _ _ ho, hc⟩), fun A E s' Q hg hu hk0 hQ => ?_⟩
    simp only [PyData.depth] at hu
    simp only [PyData.shown] at hQ
    cases its with
    | nil =>
      cases rv
      cases t
      simp only [PyData.shownAll, listText_nil] at hQ
      exact call_list_repr_empty ⟨o, hk0 _ _ ho, hc⟩ (hk0 _ _ ho) hd (hQ s'.heap _ _ fun _ _ e => e)
    | cons x l => exact call_list_reprK ho hc hd hna (by simpa using hk.length_eq) (fun i y e => hk.item i y (by simpa using e)) hg (fun b _ => Clear.nil b) hu hk0 hQ hz'
  | @tup _ xs ds h t =>
    have hz' : (tupleText (PyData.shownAll ds)).length ≤ sizeLine := by
      simpa only [PyData.shown] using hz
    obtain ⟨its, rv, ⟨o, ho, hc, n, hd⟩, _⟩ := I.tuple (SqT.of h)
    obtain ⟨bs, hb, hk⟩ := DqAll.shows I ds _ its t rv (by simpa [PyData.showable] using hs) fun z hm => Nat.le_trans (tupleText_mem_le hm) hz'
    obtain ⟨as, rd⟩ := Dq.reads (b := b) I (.tuple ds) (.ref a) (.ref a) (.tup h t) rfl
    have dep : PyData.depthAll ds < (PyData.tuple ds).depth := by
      simp only [PyData.depth]
      omega
    have hna := not_mem_of_deeper rd dep hb
    refine ⟨"tuple", "tuple.__repr__", F.slot_tuple_repr, F.slot_tuple_str, F.slot_tuple_format, (fun s' hk0 => ⟨o, hk0 _ _ ho, hc⟩), fun A E s' Q hg hu hk0 hQ => ?_⟩
    simp only [PyData.depth] at hu
    simp only [PyData.shown] at hQ
    exact call_tuple_reprK ho hc hd hna hk hg (fun b _ => Clear.nil b) hu hk0 hQ hz'
  | emp h =>
    obtain ⟨o, es, n, ho, hc, hd, he, hsm⟩ := emp_reads I h
    refine showsBy_of_reads (as := [a] ++ []) (.dict (kvs := []) (as := []) (bs := []) ho hc hd (by rw [he]; exact .nil) (by rw [he]; exact .nil)) hs (fun _ hm => ?_) hz
    simp at hm
    rw [hm] at hsm
    simp at hsm
end
/-! ### showing -/
/-- data of depth m and bulk n at most that can be shown -/
structure FitQ (d : PyData) (m n : Nat) : Prop where
  sh : d.showable = true
  dp : d.depth ≤ m
  lv : d.leavesShort 2000 = true
  bk : d.bulk ≤ n
  ok : PyData.strOk d.shown = true
structure FitQAll (ds : List PyData) (m n : Nat) : Prop where
  sh : PyData.showableAll ds = true
  dp : PyData.depthAll ds ≤ m
  lv : PyData.leavesShortAll 2000 ds = true
  bk : PyData.bulkAll ds ≤ n
  ok : ∀ t ∈ PyData.shownAll ds, PyData.strOk t = true
theorem Fit.q {d : PyData} {m n : Nat} (h : Fit d m n) : FitQ d m n := ⟨h.sh, h.dp, h.lv, h.bk, shown_ok d h.lay⟩
theorem FitQ.emp {m n : Nat} (hm : 1 ≤ m) : FitQ (.dict []) m n := ⟨rfl, by show 0 + 1 ≤ m; omega, rfl, Nat.zero_le _, by decide +kernel⟩
theorem FitQAll.nil {m n : Nat} : FitQAll [] m n := ⟨rfl, Nat.zero_le _, rfl, Nat.zero_le _, fun t ht => by simp [PyData.shownAll] at ht⟩
theorem FitQAll.cons {d : PyData} {ds : List PyData} {m a b : Nat} (h : FitQ d m a) (t : FitQAll ds m b) : FitQAll (d :: ds) m (a + 1 + b) := by
  have h1 := h.dp
  have h2 := t.dp
  have h3 := h.bk
  have h4 := t.bk
  refine ⟨?_, ?_, ?_, ?_, ?_⟩
  · show (PyData.showable d && PyData.showableAll ds) = true
    rw [h.sh, t.sh]; rfl
  · show max (PyData.depth d) (PyData.depthAll ds) ≤ m
    omega
  · show (PyData.leavesShort 2000 d && PyData.leavesShortAll 2000 ds) = true
    rw [h.lv, t.lv]; rfl
  · show PyData.bulk d + 1 + PyData.bulkAll ds ≤ a + 1 + b
    omega
  · intro z hz
    simp only [PyData.shownAll, List.mem_cons] at hz
    rcases hz with rfl | hz
    · exact h.ok
    · exact t.ok z hz
theorem FitQ.list {ds : List PyData} {m n : Nat} (h : FitQAll ds m n) : FitQ (.list ds) (m + 1) n := by
  have := h.dp
  refine ⟨h.sh, by show PyData.depthAll ds + 1 ≤ m + 1; omega, h.lv, h.bk, ?_⟩
  simp only [PyData.shown]
  exact strOk_app (strOk_from _ _ _ (strOk_of _) h.ok) (strOk_of _)
theorem FitQ.tuple {ds : List PyData} {m n : Nat} (h : FitQAll ds m n) : FitQ (.tuple ds) (m + 1) n := by
  have := h.dp
  refine ⟨h.sh, by show PyData.depthAll ds + 1 ≤ m + 1; omega, h.lv, h.bk, ?_⟩
  simp only [PyData.shown]
  exact strOk_app (strOk_app (strOk_of _) (strOk_join (strOk_of _) h.ok)) (strOk_of _)
theorem FitQ.mono {d : PyData} {m n m' n' : Nat} (h : FitQ d m n) (a : m ≤ m') (b : n ≤ n') : FitQ d m' n' := ⟨h.sh, Nat.le_trans h.dp a, h.lv, Nat.le_trans h.bk b, h.ok⟩
theorem FitQ.line {d : PyData} {m n : Nat} (h : FitQ d m n) (hn : n ≤ 5000) : d.shown.length ≤ sizeLine := by
  have h1 := PyData.shown_le_bulk 2000 (by decide) d h.lv
  have h2 : 2002 * d.bulk ≤ 2002 * 5000 := Nat.mul_le_mul_left _ (Nat.le_trans h.bk hn)
  have h3 : 2002 * 5000 + 2000 ≤ sizeLine := by decide
  omega
theorem FitQ.str {d : PyData} {m n : Nat} (h : FitQ d m n) (hn : n ≤ 5000) : Fit (.str d.shown) 1 sizeLine := .str h.ok (h.line hn)
/-- repr of such data -/
@[irreducible] def rReprQ (K : PySem.W.Frag) : List V → Hp → VK → Prop := fun xs H Q => ∃ (b : Addr) (v : V) (d : PyData) (m n : Nat), xs = [v] ∧ Dq K b H v d ∧ FitQ d m n ∧ m ≤ 60 ∧ n ≤ 5000 ∧ Q (.str d.shown) H
theorem rd_reprQ {K : PySem.W.Frag} {b : Addr} {H : Hp} {v : V} {d : PyData} {m n : Nat} {Q : VK} (hv : Dq K b H v d) (h : FitQ d m n) (hm : m ≤ 60) (hn : n ≤ 5000) (q : Q (.str d.shown) H) : rReprQ K [v] H Q := by
  unfold rReprQ
  exact ⟨b, v, d, m, n, rfl, hv, h, hm, hn, q⟩
theorem cr_reprQ {X : Cx} (hG : X.A.guards = some []) (hu : X.A.units + 64 < cLine) : CallR X (.builtin "repr") (rReprQ X.K) := by
  intro pins s σ H xs us Q I r h
  unfold rReprQ at h
  obtain ⟨b, v, d, m, n, rfl, hd, ft, hm, hn, q⟩ := h
  obtain ⟨u, rfl, ru⟩ : ∃ u, us = [u] ∧ RelV v u := by
    cases r with
    | cons a b => cases b with | nil => exact ⟨_, rfl, a⟩
  have hz := ft.line hn
  have hdp := ft.dp
  have go : ∀ a, v = .ref a → u = .ref a → wpAny (model X.prog X.w) X.A (call (.builtin "repr") [u]) (EP X pins σ Q) X.xe s := fun a e1 e2 => by
    subst e1
    subst e2
    obtain ⟨T, idr, S⟩ := Dq.showsBy I hd ft.sh hz
    exact call_repr_slot (by omega) (S.typeIs s fun _ _ e => e) S.slotRepr (S.call X.A.in1 X.xe s _ hG (by show X.A.units + 1 + d.depth < cLine; omega) (fun _ _ e => e) fun h' u' tk hk => ⟨_, _, rfl, ⟨.str _, H, I.kept hk, ⟨_, rfl⟩, q⟩⟩)
  cases hd with
  | non => cases ru; exact PySem.P.repr_of_none ⟨.str _, H, I.tok _, ⟨_, rfl⟩, q⟩
  | bl b => cases ru; exact PySem.P.repr_of_bool ⟨.str _, H, I.tok _, ⟨_, rfl⟩, q⟩
  | int i =>
    obtain ⟨t, rfl⟩ := ru
    refine PySem.P.repr_of_int ?_ ⟨.str _, H, I.tok _, ⟨_, rfl⟩, q⟩
    have := ft.sh
    simpa [PyData.showable] using this
  | str z =>
    obtain ⟨t, rfl⟩ := ru
    exact PySem.P.repr_of_str ⟨.str _, H, I.tok _, ⟨_, rfl⟩, q⟩ hz
  | lst h1 h2 h3 => exact go _ rfl (by cases ru; rfl)
  | tup h1 h2 => exact go _ rfl (by cases ru; rfl)
  | emp h1 => exact go _ rfl (by cases ru; rfl)
/-! ### types -/
def tyName : PyData → String
  | .none => "NoneType"
  | .bool _ => "bool"
  | .int _ => "int"
  | .str _ => "str"
  | .list _ => "list"
  | .tuple _ => "tuple"
  | .dict _ => "dict"
theorem Dq.ty {K : PySem.W.Frag} {b : Addr} {H : Hp} {v : V} {d : PyData} (h : Dq K b H v d) : TyX K H v (.type (tyName d)) := by
  cases h with
  | non => exact .base .non
  | bl k => exact .base (.bl k)
  | int i => exact .base (.int i)
  | str z => exact .base (.str z)
  | lst h _ _ => exact .base (.lst h)
  | tup h _ => exact .base (.tup h)
  | emp h => exact .base (.dK h)
end Hv

namespace Hv
open PySem PySem.Spec PyProof.Rows L2
abbrev tab0 : Obj := { cls := .none, data := .fields #[] }
/-- what may be tracked where the law begins -/
def Kept (K : PySem.W.Frag) (a : Addr) (cs : List (Addr × Addr)) (H : Hp) : Prop := ∀ b u, H b = some u → K.lookup b = none ∧ ((b ∈ cs.map (·.2) ∧ u = .tbl #[]) ∨ (b = a ∧ ∃ o xs, u = .frz o (.lst xs)))
theorem call_lawT {P : Program} {w : World} {K : PySem.W.Frag} {mg mb : Str → Option Value} {k : Nat} {fa a : Addr} {cs : List (Addr × Addr)} {fd : FuncData} {x : Str} {sp : Sp} {s : Shared} {vs : List Value} {ns : List Int}
    (KX : K.In s.heap) (gl : s.heap.Ns mainGlobals mg) (bl : s.heap.Ns builtinsNs mb) (hbb : ∀ x : Str, x ≠ "__name__" → mb x = bootBuiltins x) (lim : s.heap.NoLimit) (gens : s.gens = #[])
    (hT : ∀ p ∈ cs, s.heap.get? p.2 = some tab0) (nT : ∀ p ∈ cs, K.lookup p.2 = none) (cT : ∀ p ∈ cs, PySem.W.CodeHd s.heap p.1 p.2)
    (hbm : ∃ (bm : Addr) (ob : Obj), mg "__builtins__" = some (.ref bm) ∧ bm ≠ builtinsNs ∧ s.heap.get? bm = some ob ∧ ob.cls = .type "module" ∧ ob.dict = some builtinsNs ∧ ob.data = .plain)
    (ha : s.heap.get? a = some { cls := .type "list", data := .seq vs.toArray }) (hi : IntsAre vs ns) (hl : ns.length ≤ sizeLine) (hr : Room k callerA)
    (F : ∀ base : Heap, K.In base → base.Ns mainGlobals mg → (∀ p ∈ cs, LamX.TabB base mg p.1 p.2) → OkG P w K mg base CX0 k fa fd [x] sp) (bind : ∀ (s : Shared) (u : Value), BindsTo s fd ⟨[u], []⟩ [(x, u)])
    (hsp : ∀ H : Hp, (∀ p ∈ cs, H p.2 = some (.tbl #[])) → SqL K H a (ns.map V.int) → sp [.ref a] H (fun v _ => v = .bl true) fun _ _ _ => False) :
    codeAny (model P w) callerA (.call (.ref fa) ⟨[.ref a], []⟩) (fun r s' => r = .ok (.ret (.bool true)) ∧ OldK s.heap s'.heap ∧ s'.os = s.os ∧ AllBare s'.gens) s := by
  have rv := vals_ints hi
  have lenV := hi.length
  have isT : ∀ b ∈ cs.map (·.2), s.heap.get? b = some tab0 := fun b hb => by
    obtain ⟨p, hp, rfl⟩ := List.mem_map.mp hb
    exact hT p hp
  have isK : ∀ b ∈ cs.map (·.2), K.lookup b = none := fun b hb => by
    obtain ⟨p, hp, rfl⟩ := List.mem_map.mp hb
    exact nT p hp
  have inT : ∀ p ∈ cs, p.2 ∈ cs.map (·.2) := fun p hp => List.mem_map.mpr ⟨p, hp, rfl⟩
  have apart : a ∉ cs.map (·.2) := fun z => by
    have q := isT a z
    rw [ha] at q
    cases q
  have core : ∀ H : Hp, Kept K a cs H → (∀ p ∈ cs, H p.2 = some (.tbl #[])) → SqL K H a (ns.map V.int) → HOk P w H s.heap →
      codeAny (model P w) callerA (.call (.ref fa) ⟨[.ref a], []⟩) (fun r s' => r = .ok (.ret (.bool true)) ∧ OldK s.heap s'.heap ∧ s'.os = s.os ∧ AllBare s'.gens) s := by
    intro H kept hC hS ok
    have out : ∀ {b : Addr} {o : Obj}, s.heap.get? b = some o → (∀ vs n, o.data ≠ .seq vs n) → o.data ≠ .fields #[] → H b = none := by
      intro b o e n2 n3
      cases q : H b with
      | none => rfl
      | some u =>
        rcases (kept b u q).2 with ⟨z, _⟩ | ⟨rfl, _⟩
        · rw [isT b z] at e
          cases e
          exact absurd rfl n3
        · rw [ha] at e
          cases e
          exact absurd rfl (n2 _ _)
    have nsOut : ∀ {b : Addr} {m : Str → Option Value}, s.heap.Ns b m → (hidT s.heap H).Ns b m := by
      rintro b m ⟨o, es, ep, e, d, r⟩
      exact ⟨o, es, ep, hidT_get e (out e (fun _ _ z => by rw [d] at z; cases z) fun z => by rw [d] at z; cases z), d, r⟩
    have hKb : K.In (hidT s.heap H) := fun b o e => hidT_get (KX b o e) (by
      cases q : H b with
      | none => rfl
      | some u => rw [(kept b u q).1] at e; cases e)
    have hM : Mod K mg (hidT s.heap H) := by
      obtain ⟨mc, h1, h2⟩ := lim
      exact ⟨hKb, nsOut gl, ⟨mb, nsOut bl, hbb⟩, ⟨mc, nsOut h1, h2⟩⟩
    have TB : ∀ p ∈ cs, LamX.TabB (hidT s.heap H) mg p.1 p.2 := by
      intro p hp
      have e := hT p hp
      refine ⟨?_, ?_, ?_⟩
      · obtain ⟨o, us, file, tf, flags, tg, inF, text, tt, e1, r1, r2, r3, r4⟩ := cT p hp
        refine ⟨o, us, file, tf, flags, tg, inF, text, tt, hidT_get e1 (out e1 (fun _ _ z => by rw [r2] at z; cases z) fun z => ?_), r1, r2, r3, r4⟩
        rw [r2] at z
        cases z
        simp at r3
      · obtain ⟨bm, ob, b1, b2, b3, b4, b5, b6⟩ := hbm
        refine ⟨bm, ob, b1, b2, ?_, ?_, hidT_get b3 (out b3 (fun _ _ z => by rw [b6] at z; cases z) fun z => by rw [b6] at z; cases z), b4, b5, b6⟩
        · rintro rfl
          obtain ⟨o, es, ep, e', hd, _⟩ := gl
          rw [e'] at b3
          cases b3
          rw [hd] at b6
          cases b6
        · rintro rfl
          rw [e] at b3
          cases b3
          cases b6
      · intro z
        obtain ⟨o, es, ep, e', hd, _⟩ := gl
        rw [z, e] at e'
        cases e'
        cases hd
    have e0 : Env0 P w K mg (hidT s.heap H) callerA [] s H := by
      refine ⟨rfl, hM, fun b o e => of_hidT e, Nat.le_of_eq (hidT_size _ _), trivial, ?_, ok, .of_eq gens⟩
      intro b hb
      cases (show b ∈ ([] : List Addr) from hb)
    have go := (F _ hKb (nsOut gl) TB).run callerA [] s H ⟨[.ref a], []⟩ [.ref a] [.ref a] (fun v _ => v = .bl true) (fun _ _ _ => False) rfl hr e0 (bind s (.ref a)) (.cons rfl .nil) (hsp H hC hS)
    refine codeAny_mono go ?_
    intro r s' h
    match r, h with
    | .error e, h => exact (show False from h).elim
    | .ok .next, h => exact h.elim
    | .ok .brk, h => exact h.elim
    | .ok .cont, h => exact h.elim
    | .ok (.ret u), h =>
      obtain ⟨v, H', os, bare, un, ok', r', q⟩ := h
      cases (show v = .bl true from q)
      cases (show u = Value.bool true from r')
      have keep : ∀ b o, b ∉ cs.map (·.2) → s.heap.get? b = some o → s'.heap.get? b = some o := by
        intro b o nb e
        cases q : H b with
        | none => exact un.keep b o e q (by intro z; cases z) (by intro z; cases z)
        | some u =>
          rcases (kept b u q).2 with ⟨z, _⟩ | ⟨_, ob, xs, rfl⟩
          · exact absurd z nb
          · have k1 := (ok b _ q).1
            have k2 := (ok' b _ (un.frzs b ob _ q)).1
            rw [e] at k1
            cases k1
            exact k2
      have grown : ∀ p ∈ cs, ∃ more : Array Value, s'.heap.get? p.2 = some { cls := .none, data := .fields more } := by
        intro p hp
        obtain ⟨more, z⟩ := un.tbls p.2 #[] (hC p hp)
        exact ⟨_, ok' p.2 _ z⟩
      refine ⟨rfl, ⟨fun b o e => ?_, fun b o e => ?_⟩, os, bare⟩
      · by_cases hb : b ∈ cs.map (·.2)
        · obtain ⟨p, hp, rfl⟩ := List.mem_map.mp hb
          obtain ⟨more, hm⟩ := grown p hp
          rw [hT p hp] at e
          cases e
          refine .inr (.inl ⟨((cT p hp).tab (hT p hp)).isCodeTable, rfl, #[], more, rfl, ?_⟩)
          rw [Array.empty_append]
          exact hm
        · exact .inl (keep b o hb e)
      · by_cases hb : b ∈ cs.map (·.2)
        · obtain ⟨p, hp, rfl⟩ := List.mem_map.mp hb
          obtain ⟨more, hm⟩ := grown p hp
          exact ⟨_, hm⟩
        · exact ⟨o, keep b o hb e⟩
  let T0 : Hp := fun b => if b ∈ cs.map (·.2) then some (.tbl #[]) else none
  have t0 : ∀ b u, T0 b = some u → b ∈ cs.map (·.2) ∧ u = .tbl #[] := fun b u z => by
    by_cases hb : b ∈ cs.map (·.2)
    · exact ⟨hb, (Option.some.inj ((if_pos hb).symm.trans z)).symm⟩
    · have := (if_neg hb).symm.trans z
      cases this
  by_cases hk : K.lookup a = none
  · refine core (upd T0 a (.frz { cls := .type "list", data := .seq vs.toArray } (.lst (ns.map V.int)))) ?_ ?_ (.inl (.inr ⟨_, upd_same⟩)) ?_
    · intro b u z
      by_cases hb : b = a
      · subst hb
        rw [upd_same] at z
        cases z
        exact ⟨hk, .inr ⟨rfl, _, _, rfl⟩⟩
      · rw [upd_ne hb] at z
        obtain ⟨h1, h2⟩ := t0 b u z
        exact ⟨isK b h1, .inl ⟨h1, h2⟩⟩
    · intro p hp
      rw [upd_ne (fun z => apart (by rw [← z]; exact inT p hp))]
      exact if_pos (inT p hp)
    · intro b u z
      by_cases hb : b = a
      · subst hb
        rw [upd_same] at z
        cases z
        exact ⟨ha, by rw [List.length_map]; exact hl, vs, _, rv, ha⟩
      · rw [upd_ne hb] at z
        obtain ⟨h1, rfl⟩ := t0 b u z
        exact isT b h1
  · obtain ⟨o, ho⟩ := Option.ne_none_iff_exists'.mp hk
    have e := KX a o ho
    rw [ha] at e
    cases e
    refine core T0 (fun b u z => ⟨isK b (t0 b u z).1, .inl (t0 b u z)⟩) (fun p hp => if_pos (inT p hp)) (.inr ⟨_, vs.toArray, _, ho, rfl, rfl, rfl, ?_, ?_⟩) ?_
    · rw [List.size_toArray, lenV]
      exact hl
    · simpa using rv
    · intro b u z
      obtain ⟨h1, rfl⟩ := t0 b u z
      exact isT b h1
/-- the def named x, its code object at c and the table of that at P -/
structure TabAt (K : PySem.W.Frag) (mg : Str → Option Value) (h : Heap) (x : Str) (c P : Addr) : Prop where
  get : h.get? P = some tab0
  hd : PySem.W.CodeHd h c P
/-- what the top has left of a def that makes lambdas -/
def TabIn (K : PySem.W.Frag) (x : Str) (c P : Addr) : Prop := ∃ (f : Addr) (o : Obj) (fd : FuncData) (e : Value) (dd : Option Addr) (vs : Array Value) (sl : Array (Option Value)), PySem.W.nsIn K mainGlobals x = some (some (.ref f)) ∧ K.lookup f = some o ∧ o.data = .func fd ∧ fd.code = .ref c ∧
  K.lookup c = some ⟨e, dd, .fields vs, sl⟩ ∧ vs[11]? = some (.ref P) ∧ K.lookup P = none
theorem tabIn_mk {K : PySem.W.Frag} {x : Str} {c P f : Addr} {o : Obj} {fd : FuncData} {e : Value} {dd : Option Addr} {vs : Array Value} {sl : Array (Option Value)} (h1 : PySem.W.nsIn K mainGlobals x = some (some (.ref f))) (h2 : K.lookup f = some o) (h3 : o.data = .func fd) (h4 : fd.code = .ref c)
    (h5 : K.lookup c = some ⟨e, dd, .fields vs, sl⟩) (h6 : vs[11]? = some (.ref P)) (h7 : K.lookup P = none) : TabIn K x c P := ⟨f, o, fd, e, dd, vs, sl, h1, h2, h3, h4, h5, h6, h7⟩
theorem TabIn.out {K : PySem.W.Frag} {x : Str} {c P : Addr} (h : TabIn K x c P) : K.lookup P = none := by
  obtain ⟨_, _, _, _, _, _, _, _, _, _, _, _, _, h7⟩ := h
  exact h7
theorem TabIn.at {K : PySem.W.Frag} {x : Str} {c P : Addr} {q : Program} {loose : List Str} {mean : ExcName → Option Value} {mg mb : Str → Option Value} {h : Heap} (t : TabIn K x c P) (X : K.In h) (T : Top q loose mean mg mb h) (hrec : ((recsOf q).any fun e => e.name == x) = true) :
    h.get? P = some tab0 ∧ PySem.W.CodeHd h c P := by
  obtain ⟨f, o, fd, e, dd, vs, sl, k1, k2, k3, k4, k5, k6, _⟩ := t
  obtain ⟨d, hm, hn⟩ := List.any_eq_true.mp hrec
  obtain ⟨a', o', fd', c', P', h1, h2, h3, h4, h5, h6⟩ := T.tab d hm
  rw [beq_iff_eq.mp hn, PySem.W.mg_of X T.g k1] at h1
  cases h1
  have g1 := X _ _ k2
  rw [g1] at h2
  cases h2
  rw [k3] at h3
  cases h3
  rw [k4] at h4
  cases h4
  have hh := PySem.W.CodeHd.of h5 h6
  obtain ⟨⟨oc, vc, e1, _, e3, e4⟩, hP⟩ := h6
  have g2 := X _ _ k5
  rw [g2] at e1
  cases e1
  cases e3
  rw [k6] at e4
  cases e4
  exact ⟨hP, hh⟩
/-- the law's promise, with the tables cs of the defs xs -/
def LawT (l : PySem.W.OpenLaw) (w : World) (K : PySem.W.Frag) (k n : Nat) (x : Str) (mg : Str → Option Value) (fa : Addr) (xs : List Str) : Prop :=
  ∃ (fd : FuncData) (cs : List (Addr × Addr)) (sp : Sp), (∀ p ∈ cs, ∃ y ∈ xs, TabIn K y p.1 p.2) ∧ (∀ (s : Shared) (u : Value), BindsTo s fd ⟨[u], []⟩ [(x, u)]) ∧
    (∀ (H : Hp) (a : Addr) (ns : List Int), ns.length ≤ n → (∀ z ∈ ns, Builtin.Int.intBits z ≤ 1048576) → (∀ p ∈ cs, H p.2 = some (.tbl #[])) → SqL K H a (ns.map V.int) → sp [.ref a] H (fun v _ => v = .bl true) fun _ _ _ => False) ∧
    ∀ base : Heap, K.In base → base.Ns mainGlobals mg → (∀ p ∈ cs, LamX.TabB base mg p.1 p.2) → OkG l.prog w K mg base CX0 k fa fd [x] sp
theorem walkT {l : PySem.W.OpenLaw} {n k : Nat} {q : Program} {loose : List Str} {XP : (Str → Option Value) → Heap → Prop} {YP : World → Heap → Prop} {d : DefRec} {K : Params → PySem.W.Frag} {x : Str} (xs : List Str)
    (hn : l.most = some n) (hn2 : n ≤ sizeLine) (hdf : d.params.defaults = []) (hr : Room k callerA) (hrec : xs.all (fun y => (recsOf q).any fun e => e.name == y) = true) (hY : ∀ (w : World) (h : Heap), YP w h → (K w.params).In h)
    (F : ∀ (w : World) (mg : Str → Option Value) (fa : Addr) (h : Heap), (K w.params).In h → h.Ns mainGlobals mg → mg d.name = some (.ref fa) → LawT l w (K w.params) k n x mg fa xs) :
    PySem.W.WalkO q loose XP YP l.row.toRowW d [] (fun f vs => PySem.call f vs) := by
  refine Att.attach_callB hn hdf ?_
  intro w s₀ s₁ mg mb fa o pm cd doc a vs ns G Y ho hd hcd hmg hobj hints hlen hbits hg
  have X := hY w _ Y
  obtain ⟨fd, cs, sp, ht, hb, hsp, hF⟩ := F w mg fa _ X G.T.g hmg
  have tabs : ∀ p ∈ cs, s₁.heap.get? p.2 = some tab0 ∧ PySem.W.CodeHd s₁.heap p.1 p.2 := fun p hp => by
    obtain ⟨y, hy, t⟩ := ht p hp
    exact t.at X G.T (List.all_eq_true.mp hrec y hy)
  exact call_lawT X G.T.g G.T.b G.T.builtins G.T.nolimit hg (fun p hp => (tabs p hp).1) (fun p hp => (ht p hp).choose_spec.2.out) (fun p hp => (tabs p hp).2) G.T.bmain hobj hints (Nat.le_trans hlen hn2) hr hF hb fun H hC hS => hsp H a ns hlen hbits hC hS
end Hv

namespace Hv
open PySem L2
def sp_is_integer (K : PySem.W.Frag) : Sp := fun vs H Q _ => ∃ (v : V) (t : Value) (b1 b2 : Bool), vs = [v] ∧ TyX K H v t ∧ PySem.W.kitOne K t (.type "int") = some b1 ∧
  PySem.W.kitOne K t (.type "bool") = some b2 ∧ Q (.bl (b1 && !b2)) H
end Hv

namespace L
open PySem L2 Hv
def top (i : Nat) : Stmt := PySem.Challenge.pw_heldvotes_k14_lengths_ordered.main.body.getD i (.Pass ⟨0, 0, 0, 0⟩)
structure Txt (K : PySem.W.Frag) (mg : Str → Option Value) : Prop where
  ArithmeticError : mg "ArithmeticError" = none
  LookupError : mg "LookupError" = none
  NotImplemented : mg "NotImplemented" = none
  ValueError : mg "ValueError" = none
  abs : mg "abs" = none
  all : mg "all" = none
  bool : mg "bool" = none
  divmod : mg "divmod" = none
  int : mg "int" = none
  isinstance : mg "isinstance" = none
  len : mg "len" = none
  max : mg "max" = none
  min : mg "min" = none
  property : mg "property" = none
  range : mg "range" = none
  repr : mg "repr" = none
  str : mg "str" = none
end L

namespace L
open PySem L2 Hv
variable {P : Program} {w : World} {K : PySem.W.Frag} {mg : Str → Option Value} {base : Heap}
abbrev s_take : Stmt := top 42
abbrev N_take : List Str := ["_law_bag_here", "_law_many", "_law_digit"]
abbrev P_take : List Str := ["_law_bag_here", "_law_many"]
theorem sc_take : FnScope N_take P_take (defScope s_take) := ⟨rfl, rfl, rfl, by decide +kernel, rfl, by decide +kernel, by decide +kernel⟩
theorem ok_take {f : Addr} {fd : FuncData} (D : DefAt K mg "_law_take" s_take P_take f fd) (T : Txt K mg) : FnOk P w K mg base CX0 1 f fd P_take sp_take := by
  refine D.fn.ok sc_take (fun vs H Q E h => ?_) (fun cdv A outer s H vs Q E hr h => ?_)
  · obtain ⟨b, m, k, rfl, _⟩ := h
    rfl
  · obtain ⟨b, m, k, rfl, ⟨z, d, n, hb, d0, db, n0, nk⟩, hk, m0, m1, ret⟩ := h
    refine ⟨_, (pss_cons (ps_asg (pe_op op_add (pe_ix ix_list (pv 0) pe_int (fun _ _ => rfl)) pe_int) (pg_sub (pv 0) pe_int set_list))
      (pss_cons (ps_asg (pe_op op_mod (pe_callTy call_int1 (by rfl) T.int (by decide +kernel) (pa_cons (pe_op op_add (pe_op op_add (pe_op op_mul (pe_ix ix_list (pv 0) pe_int (fun _ _ => rfl)) pe_int) (pe_op op_mul (pe_op op_mul (pe_ix ix_list (pv 0) pe_int (fun _ _ => rfl)) (pe_ix ix_list (pv 0) pe_int (fun _ _ => rfl))) pe_int)) pe_int) pa_nil)) pe_int) (pg_sub (pv 0) pe_int set_list))
      (pss_cons (ps_if (pt_cmpR op_gt (pe_ix ix_list (pv 0) pe_int (fun _ _ => rfl)) pe_int (nomark _))
      (pss_cons (ps_asg (pe_callB call_divmodW (by rfl) T.divmod (by decide +kernel) (pa_cons (pe_ix ix_list (pv 0) pe_int (fun _ _ => rfl)) (pa_cons (pv 1) pa_nil))) (pg_tup (by rfl) (pgs_cons (pg_sub (pv 0) pe_int set_list) (pgs_cons (pg_name (i := 2) sc_take.nd rfl (.inl rfl)) pgs_nil))))
      (pss_one (ps_ret (pv 2))))
      pss_nil)
      (pss_one (ps_ret (pe_op op_mod (pe_callTy call_int1 (by rfl) T.int (by decide +kernel) (pa_cons (pe_op op_fdiv (pe_ix ix_list (pv 0) pe_int (fun _ _ => rfl)) pe_int) pa_nil)) (pv 1))))))), ?_⟩
    refine ⟨_, rfl, _, _, _, _, rfl, rfl, SqL.of hb, rfl, _, _, rfl, rfl, _, rfl, _, _, _, _, rfl, rfl, hb, rfl, ?_⟩
    have hb1 := upd_same (H := H) (a := b) (o := .lst (List.set [.int z, .int d, .int n] 2 (.int (n + 1))))
    refine ⟨_, rfl, _, _, _, _, rfl, rfl, SqL.of hb1, rfl, _, _, rfl, rfl, .inr ⟨by decide, by decide⟩, _, rfl, _, _, _, _, rfl, rfl, SqL.of hb1, rfl, _, rfl, _, _, _, _, rfl, rfl, SqL.of hb1, rfl, _, _, rfl, rfl, .inl ⟨by omega, by omega⟩,
      _, _, rfl, rfl, .inr ⟨by decide, by decide⟩, _, _, rfl, rfl, _, _, rfl, rfl, .inl ⟨_, rfl, _, _, rfl, rfl, (by show (0 : Int) < _; decide), _, rfl, _, _, _, _, rfl, rfl, hb1, rfl, ?_⟩⟩
    rw [upd_upd]
    have hb2 := upd_same (H := H) (a := b) (o := .lst [.int ((z * 91193 + (n + 1) * (n + 1) * 6827 + 40507) % 2147483399), .int d, .int (n + 1)])
    refine ⟨_, rfl, _, _, _, _, rfl, rfl, SqL.of hb2, rfl, _, _, rfl, rfl, _, rfl, ?_⟩
    refine ite2 (fun hc => ?_) (fun hc => ?_)
    · refine ⟨_, rfl, _, _, _, _, rfl, rfl, SqL.of hb2, rfl, _, rfl, _, _, rfl, ⟨m0, pylong_no m1⟩, fun p hp => ?_⟩
      have np : b ≠ p := ne_of_none hb2 hp
      refine ⟨_, _, rfl, SqT.of upd_same, rfl, _, _, rfl, _, rfl, _, _, _, _, rfl, rfl, (upd_ne np).trans hb2, rfl, _, _, rfl, rfl, _, rfl, ?_⟩
      refine ret _ _ (((But.refl.put).new hp).put) ⟨_, _, _, upd_same, ?_, bits_div d0 m0 db, ?_, ?_⟩ (Int.emod_nonneg _ (by omega)) (Int.emod_lt_of_pos _ m0)
      · exact Int.ediv_nonneg d0 (by omega)
      · omega
      · omega
    · refine ⟨_, rfl, _, _, _, _, rfl, rfl, SqL.of hb2, rfl, _, _, rfl, rfl, ⟨by decide, by decide⟩, .inl ⟨_, rfl, _, rfl, _, _, rfl, rfl, m0, ?_⟩⟩
      refine ret _ _ But.refl.put ⟨_, _, _, upd_same, d0, db, ?_, ?_⟩ (Int.emod_nonneg _ (by omega)) (Int.emod_lt_of_pos _ m0)
      · omega
      · omega
abbrev s_bag : Stmt := top 41
abbrev N_bag : List Str := ["_law_number", "_law_digits", "_law_state"]
abbrev P_bag : List Str := ["_law_number"]
theorem sc_bag : FnScope N_bag P_bag (defScope s_bag) := ⟨rfl, rfl, rfl, by decide +kernel, rfl, by decide +kernel, by decide +kernel⟩
theorem ok_bag {f : Addr} {fd : FuncData} (D : DefAt K mg "_law_bag" s_bag P_bag f fd) (T : Txt K mg) : FnOk P w K mg base CX0 1 f fd P_bag sp_bag := by
  refine D.fn.ok sc_bag (fun vs H Q E h => ?_) (fun cdv A outer s H vs Q E hr h => ?_)
  · obtain ⟨n, rfl, _⟩ := h
    rfl
  · obtain ⟨n, rfl, nb, ret⟩ := h
    refine ⟨_, (pss_cons (ps_asg (pe_ifExp (pt_chain op_le op_lt pe_int (pv 0) (pe_op op_pow pe_int pe_int)) pe_int (pe_callB call_abs (by rfl) T.abs (by decide +kernel) (pa_cons (pv 0) pa_nil))) (pg_name (i := 1) sc_bag.nd rfl (.inl rfl)))
      (pss_cons (ps_asg (pe_op op_mod (pe_callTy call_int1 (by rfl) T.int (by decide +kernel) (pa_cons (pv 0) pa_nil)) pe_int) (pg_name (i := 2) sc_bag.nd rfl (.inl rfl)))
      (pss_one (ps_ret (pe_lst (pa_cons (pe_op op_mod (pe_callTy call_int1 (by rfl) T.int (by decide +kernel) (pa_cons (pe_op op_add (pe_op op_mul (pv 2) (pe_op op_add (pe_op op_mod (pe_callTy call_int1 (by rfl) T.int (by decide +kernel) (pa_cons (pv 2) pa_nil)) pe_int) pe_int)) pe_int) pa_nil)) pe_int) (pa_cons (pv 1) (pa_cons pe_int pa_nil)))))))), ?_⟩
    have fin : ∀ d : Int, 0 ≤ d → Builtin.Int.intBits d ≤ 1048576 → ∀ p, H p = none → ∀ z : Int, Q (.ref p) (upd H p (.lst [.int z, .int d, .int 0])) := fun d d0 d1 p hp z =>
      ret p _ hp (same_new hp) ⟨z, d, 0, upd_same, d0, d1, by omega, by omega⟩
    refine ⟨_, rfl, _, _, rfl, rfl, _, rfl, ?_⟩
    refine ite2 (fun hc => ?_) (fun hc => ?_)
    · refine ⟨_, _, rfl, rfl, ⟨by decide, by decide, by decide⟩, _, _, rfl, rfl, _, rfl, ?_⟩
      refine ite2 (fun hc2 => ?_) (fun hc2 => ?_)
      · refine ⟨_, rfl, .inl ⟨_, rfl, _, _, rfl, rfl, (by show (0 : Int) < _; decide), _, rfl, _, rfl, .inl ⟨_, rfl, _, _, rfl, rfl, (by show (0 : Int) < _; decide), _, _, rfl, rfl, _, _, rfl, rfl, .inl ⟨?_, ?_⟩, _, _, rfl, rfl, .inl ⟨_, rfl, _, _, rfl, rfl, (by show (0 : Int) < _; decide), _, rfl, (by show 3 ≤ sizeLine; decide), fun p hp => ?_⟩⟩⟩⟩
        · show -(2 ^ 64) < n % 2147483399
          omega
        · show n % 2147483399 < 2 ^ 64
          omega
        · exact fin 0 (by decide) (by decide) p hp _
      · refine ⟨_, rfl, _, rfl, _, rfl, .inl ⟨_, rfl, _, _, rfl, rfl, (by show (0 : Int) < _; decide), _, rfl, _, rfl, .inl ⟨_, rfl, _, _, rfl, rfl, (by show (0 : Int) < _; decide), _, _, rfl, rfl, _, _, rfl, rfl, .inl ⟨?_, ?_⟩, _, _, rfl, rfl, .inl ⟨_, rfl, _, _, rfl, rfl, (by show (0 : Int) < _; decide), _, rfl, (by show 3 ≤ sizeLine; decide), fun p hp => ?_⟩⟩⟩⟩
        · show -(2 ^ 64) < n % 2147483399
          omega
        · show n % 2147483399 < 2 ^ 64
          omega
        · refine fin _ ?_ (Nat.le_trans (bits_mono ?_) nb) p hp _
          · split <;> omega
          · split <;> omega
    · refine ⟨_, rfl, iteF ⟨_, rfl, _, rfl, _, rfl, .inl ⟨_, rfl, _, _, rfl, rfl, (by show (0 : Int) < _; decide), _, rfl, _, rfl, .inl ⟨_, rfl, _, _, rfl, rfl, (by show (0 : Int) < _; decide), _, _, rfl, rfl, _, _, rfl, rfl, .inl ⟨?_, ?_⟩, _, _, rfl, rfl, .inl ⟨_, rfl, _, _, rfl, rfl, (by show (0 : Int) < _; decide), _, rfl, (by show 3 ≤ sizeLine; decide), fun p hp => ?_⟩⟩⟩⟩⟩
      · show -(2 ^ 64) < n % 2147483399
        omega
      · show n % 2147483399 < 2 ^ 64
        omega
      · refine fin _ ?_ (Nat.le_trans (bits_mono ?_) nb) p hp _
        · split <;> omega
        · split <;> omega
abbrev s_seed : Stmt := top 40
abbrev N_seed : List Str := ["_law_script", "_law_k", "_law_mixed", "_law_number"]
abbrev P_seed : List Str := ["_law_script", "_law_k"]
theorem sc_seed : FnScope N_seed P_seed (defScope s_seed) := ⟨rfl, rfl, rfl, by decide +kernel, rfl, by decide +kernel, by decide +kernel⟩
theorem ok_seed {f : Addr} {fd : FuncData} (D : DefAt K mg "_law_seed" s_seed P_seed f fd) (T : Txt K mg) : FnOk P w K mg base CX0 1 f fd P_seed (sp_seed K) := by
  refine D.fn.ok sc_seed (fun vs H Q E h => ?_) (fun cdv A outer s H vs Q E hr h => ?_)
  · obtain ⟨a, ns, k, rfl, _⟩ := h
    rfl
  · obtain ⟨a, ns, k, rfl, hS, bits, k0, k1, ret⟩ := h
    refine ⟨_, (pss_cons (ps_if (pt_cmpR op_lt (pv 1) (pe_callB call_len_seq (by rfl) T.len (by decide +kernel) (pa_cons (pv 0) pa_nil)) (nomark _))
      (pss_one (ps_ret (pe_ix ix_list (pv 0) (pv 1) (fun _ _ => rfl))))
      pss_nil)
      (pss_cons (ps_asg (pe_op op_add pe_int (pe_op op_mul (pe_op op_mul pe_int (pv 1)) (pv 1))) (pg_name (i := 2) sc_seed.nd rfl (.inl rfl)))
      (pss_cons (ps_for PassesOwn.never rfl (pi_list (pe_slice sl_list (pv 0) po_none (po_some pe_int))) (pg_name (i := 3) sc_seed.nd rfl (.inl rfl))
      (pss_one (ps_asg (pe_op op_mod (pe_callTy call_int1 (by rfl) T.int (by decide +kernel) (pa_cons (pe_op op_add (pe_op op_mul (pv 2) pe_int) (pv 3)) pa_nil)) pe_int) (pg_name (i := 2) sc_seed.nd rfl (.inl rfl)))))
      (pss_one (ps_ret (pv 2)))))), ?_⟩
    refine ⟨_, rfl, _, rfl, _, _, rfl, .inl hS, _, _, rfl, rfl, _, rfl, ?_⟩
    refine ite2 (fun hc => ?_) (fun hc => ?_)
    · have hlt : k < ns.length := by simpa using hc
      obtain ⟨j, rfl⟩ := Int.eq_ofNat_of_zero_le k0
      have hj : j < ns.length := by omega
      have hat : (ns.map V.int)[j]? = some (.int ns[j]) := by simp [hj]
      exact ⟨_, rfl, _, rfl, _, _, _, _, rfl, rfl, hS, atI_nat hat, ret _ _ (Same.refl H) (bits _ (List.getElem_mem _))⟩
    · refine ⟨_, rfl, _, _, rfl, rfl, .inl ⟨by decide, by decide⟩, _, rfl, _, _, rfl, rfl, .inr ⟨by omega, by omega⟩, _, _, rfl, rfl, _, rfl, _, rfl, _, _, rfl, hS, fun p hp => ?_⟩
      refine ⟨p, rfl, ⟨_, SqL.of upd_same⟩, for_list (K := K) (a := p) (xs := cutV (ns.map V.int) none (some 4)) (fun i σ' H' => ∃ (z : Int) (v : Option V), σ' = [some (.ref a), some (.int k), some (.int z), v] ∧
        H' = upd H p (.lst (cutV (ns.map V.int) none (some 4))) ∧ 0 ≤ z ∧ z < 2 ^ 50) ⟨_, none, rfl, rfl, ?_, ?_⟩ ?_ ?_ ?_⟩
      · have q : 0 ≤ k * k := Int.mul_nonneg k0 k0
        show 0 ≤ 7919 + 104729 * k * k
        rw [Int.mul_assoc]
        omega
      · have q : k * k ≤ 1000 * 1000 := Int.mul_le_mul (by omega) (by omega) k0 (by decide)
        show 7919 + 104729 * k * k < 2 ^ 50
        rw [Int.mul_assoc]
        omega
      · rintro i σ' H' _ ⟨z, v, _, rfl, _⟩
        exact SqL.of upd_same
      · rintro i x σ' H' hx ⟨z, v, rfl, rfl, _, _⟩
        have hm : x ∈ ns.map V.int := by
          have q := List.mem_of_getElem? hx
          exact List.mem_of_mem_drop (List.mem_of_mem_take q)
        obtain ⟨n, _, rfl⟩ := List.mem_map.mp hm
        refine ⟨_, rfl, _, _, rfl, rfl, .inr ⟨by decide, by decide⟩, _, rfl, _, _, rfl, rfl, .inl ⟨_, rfl, _, _, rfl, rfl, (by show (0 : Int) < _; decide), ?_⟩⟩
        refine ⟨_, _, rfl, rfl, ?_, ?_⟩
        · exact Int.emod_nonneg _ (by decide)
        · have q := Int.emod_lt_of_pos (z * 52711 + n) (b := 2147483563) (by decide)
          show (z * 52711 + n) % 2147483563 < 2 ^ 50
          omega
      · rintro σ' H' ⟨z, v, rfl, rfl, z0, z1⟩
        refine ⟨_, rfl, ret _ _ (same_new hp) (bits_small ?_)⟩
        have : z.natAbs < 2 ^ 50 := by omega
        exact Nat.lt_trans this (Nat.pow_lt_pow_right (by decide) (by decide))
end L

namespace Hv
open PySem PySem.Spec PyProof.Rows L2
theorem rhU {k : Nat} {A : Around} (r : L2H.RoomH k A) : A.units + 64 < cLine := by have := r.un; omega
theorem rh65 {k : Nat} {A : Around} (r : L2H.RoomH k A) : A.units + 65 < cLine := by have := r.un; omega
/-- l.count(True), l a list of truths -/
def rCntB (K : PySem.W.Frag) : V → List V → Hp → VK → Prop := fun x xs H Q => ∃ (p : Addr) (bs : List Bool), x = .ref p ∧ xs = [.bl true] ∧ SqL K H p (bs.map V.bl) ∧ Q (.int (bs.count true : Nat)) H
theorem dp_bools {K : PySem.W.Frag} {H : Hp} : ∀ bs : List Bool, DpAll K H (bs.map V.bl) (bs.map PyData.bool)
  | [] => .nil
  | b :: bs => .cons (.bl b) (dp_bools bs)
theorem plain_bools : ∀ bs : List Bool, PyData.plainAll (bs.map PyData.bool) = true
  | [] => rfl
  | b :: bs => by
    show (PyData.plain (.bool b) && PyData.plainAll (bs.map PyData.bool)) = true
    rw [plain_bools bs]
    rfl
theorem count_bools : ∀ bs : List Bool, (bs.map PyData.bool).countP (fun y => PyData.eqv y (.bool true)) = bs.count true
  | [] => rfl
  | b :: bs => by
    rw [List.map_cons, List.countP_cons, count_bools bs, List.count_cons]
    cases b <;> simp [PyData.eqv]
theorem mt_countB {X : Cx} (hu : X.A.units + 65 < cLine) : MtR X "list.count" (rCntB X.K) := by
  intro pins s σ H x xs v us Q I rx rxs h
  obtain ⟨p, bs, rfl, rfl, hs, q⟩ := h
  cases rx
  obtain ⟨u, rfl, ru⟩ := rxs.one
  cases (show u = Value.bool true from ru)
  obtain ⟨its, rv, ⟨o, n, ho, hc, hdn, hd⟩, hlen⟩ := I.list hs
  obtain ⟨as, h4⟩ := Dp.readsAll I _ _ its (dp_bools bs) rv
  refine SeqAt.count_list_data (l := p) (vs := its.toArray) (xs := bs.map PyData.bool) (d := .bool true) ⟨o, ho, hc, n, hd⟩ h4 (.bool true) (plain_bools bs) rfl ?_ ?_
  · have e : min (PyData.depthAll (bs.map PyData.bool)) (PyData.depth (.bool true)) = 0 := Nat.min_eq_right (Nat.zero_le _)
    rw [e]
    omega
  · rw [count_bools]
    exact ⟨.int _, H, I.tok _, ⟨_, rfl⟩, q⟩
/-! the classes by their numbers -/
def TERMS : List Str := ["InvalidName", "InvalidNumber", "InvalidBound", "InvalidNeeds", "InvalidClosing", "InvalidEnds", "InvalidAmount", "InvalidText", "InvalidHouse", "InvalidShare", "InvalidLimit", "InvalidLength", "InvalidWish", "InvalidIndex", "NotRules", "InvalidKinds", "InvalidRows", "InvalidChanges", "InvalidWishes", "UnknownName", "UnknownMember", "InUse", "NotFinite", "Over", "IsClosed", "NotListed", "TooFew", "UsedUp", "CannotClose", "NothingToUndo", "Broken"]
def term (j : Nat) : Str := TERMS.getD j ""
def fieldOf (j : Nat) : Str := if j ∈ [15, 16, 17, 18, 21] then "index" else if j ∈ [24, 25, 26, 27, 28] then "kind" else "given"
/-- those with one field -/
def oneF (j : Nat) : Bool := decide (j < 30) && decide (j ≠ 23) && decide (j ≠ 29)
structure ErrNames (mg : Str → Option Value) (c : Nat → Addr) : Prop where
  n0 : mg "InvalidName" = some (.ref (c 0))
  n1 : mg "InvalidNumber" = some (.ref (c 1))
  n2 : mg "InvalidBound" = some (.ref (c 2))
  n3 : mg "InvalidNeeds" = some (.ref (c 3))
  n4 : mg "InvalidClosing" = some (.ref (c 4))
  n5 : mg "InvalidEnds" = some (.ref (c 5))
  n6 : mg "InvalidAmount" = some (.ref (c 6))
  n7 : mg "InvalidText" = some (.ref (c 7))
  n8 : mg "InvalidHouse" = some (.ref (c 8))
  n9 : mg "InvalidShare" = some (.ref (c 9))
  n10 : mg "InvalidLimit" = some (.ref (c 10))
  n11 : mg "InvalidLength" = some (.ref (c 11))
  n12 : mg "InvalidWish" = some (.ref (c 12))
  n13 : mg "InvalidIndex" = some (.ref (c 13))
  n14 : mg "NotRules" = some (.ref (c 14))
  n15 : mg "InvalidKinds" = some (.ref (c 15))
  n16 : mg "InvalidRows" = some (.ref (c 16))
  n17 : mg "InvalidChanges" = some (.ref (c 17))
  n18 : mg "InvalidWishes" = some (.ref (c 18))
  n19 : mg "UnknownName" = some (.ref (c 19))
  n20 : mg "UnknownMember" = some (.ref (c 20))
  n21 : mg "InUse" = some (.ref (c 21))
  n22 : mg "NotFinite" = some (.ref (c 22))
  n23 : mg "Over" = some (.ref (c 23))
  n24 : mg "IsClosed" = some (.ref (c 24))
  n25 : mg "NotListed" = some (.ref (c 25))
  n26 : mg "TooFew" = some (.ref (c 26))
  n27 : mg "UsedUp" = some (.ref (c 27))
  n28 : mg "CannotClose" = some (.ref (c 28))
  n29 : mg "NothingToUndo" = some (.ref (c 29))
  n30 : mg "Broken" = some (.ref (c 30))
  n31 : mg "WrongValue" = some (.ref (c 31))
  n32 : mg "WrongName" = some (.ref (c 32))
  n33 : mg "NotPossible" = some (.ref (c 33))
/-- what the text has of the error class with the number j -/
structure ErrIx (K : PySem.W.Frag) (c : Nat → Addr) (j : Nat) : Prop where
  isx : ExcC K (c j)
  xf : XfC K (c j)
  kits : ∀ i, i < 31 → PySem.W.kitOne K (.ref (c j)) (.ref (c i)) = some (decide (i = j))
  kV : PySem.W.kitOne K (.ref (c j)) (.ref (c 31)) = some (decide (j < 19))
  kN : PySem.W.kitOne K (.ref (c j)) (.ref (c 32)) = some (decide (18 < j) && decide (j < 22))
  kP : PySem.W.kitOne K (.ref (c j)) (.ref (c 33)) = some (decide (21 < j))
  tV : PySem.W.kitOne K (.ref (c j)) (.type "ValueError") = some (decide (j < 19))
  tL : PySem.W.kitOne K (.ref (c j)) (.type "LookupError") = some (decide (18 < j) && decide (j < 22))
  tA : PySem.W.kitOne K (.ref (c j)) (.type "ArithmeticError") = some (decide (21 < j))
  f_given : PySem.W.findIn K (.ref (c j)) "given" = some none
  f_index : PySem.W.findIn K (.ref (c j)) "index" = some none
  f_kind : PySem.W.findIn K (.ref (c j)) "kind" = some none
  f_house : PySem.W.findIn K (.ref (c j)) "house" = some none
  any : PySem.W.exmAny K (.ref (c j)) [.ref (c 31), .ref (c 32), .ref (c 33)] = some true
/-- the exception at p: of the class j, with its one field v -/
def ErrAt (c : Nat → Addr) (j : Nat) (p : Addr × Obj) (d : Option Addr) (v : V) (H : Hp) : Prop := Zc (.ref (c j)) d p.2 ∧ (∃ vs, p.2.data = .fields vs) ∧ XdAt H d [(fieldOf j, v)]
def bitsOf (j : Nat) : List Bool := (List.range 31).map fun i => decide (i = j)
theorem sort_count : ∀ j < 31, (bitsOf j).count true = 1 := by decide
theorem XdAt.same {H H' : Hp} {d : Option Addr} {fs : List (Str × V)} (h : XdAt H d fs) (e : Same H H') : XdAt H' d fs := by
  rcases h with h | ⟨dd, h1, h2⟩
  · exact .inl h
  · exact .inr ⟨dd, h1, e _ _ h2⟩
theorem ErrAt.same {c : Nat → Addr} {j : Nat} {p : Addr × Obj} {d : Option Addr} {v : V} {H H' : Hp} (h : ErrAt c j p d v H) (e : Same H H') : ErrAt c j p d v H' := ⟨h.1, h.2.1, h.2.2.same e⟩
section
variable {K : PySem.W.Frag} {c : Nat → Addr} {j : Nat} {p : Addr × Obj} {d : Option Addr} {v : V} {H : Hp} {Q : VK}
@[irreducible] def rIdx (K : PySem.W.Frag) : V → List V → Hp → VK → Prop := rIndexD K
theorem mt_idx {X : Cx} (hu : X.A.units + 65 < cLine) : MtR X "list.index" (rIdx X.K) := by
  unfold rIdx
  exact mt_indexD hu
theorem is_r (EX : ErrIx K c j) (E : ErrAt c j p d v H) {i : Nat} (hi : i < 31) (q : Q (.bl (decide (i = j))) H) : rIsP K p.1 (c j) d [.ref p.1, .ref (c i)] H Q := rIsP_in (fun _ r => r) (EX.kits i hi) E.2.2 q
theorem sort_index {a : Addr} (hj : j < 31) (hS : SqL K H a ((bitsOf j).map V.bl)) (q : Q (.int (j : Nat)) H) : rIdx K (.ref a) [.bl true] H Q := by
  unfold rIdx
  have h : ∀ j < 31, SeqAt.shaped (.list ((bitsOf j).map PyData.bool)) = true ∧ (bitsOf j)[j]? = some true ∧ ∀ m < 31, m < j → (bitsOf j)[m]? = some false := by decide +kernel
  obtain ⟨h1, h2, h3⟩ := h j hj
  refine ⟨a, _, .bool true, (bitsOf j).map PyData.bool, j, .bool true, rfl, rfl, .lst hS (dp_bools _), .bl true, h1, by decide +kernel, by rw [List.getElem?_map, h2]; rfl, by decide +kernel, fun m z hm hz => ?_, q⟩
  rw [List.getElem?_map, h3 m (by omega) hm] at hz
  cases hz
  decide +kernel
/-- the places of the three base classes -/
def baseOf (j : Nat) : Nat := if j < 19 then 0 else if j < 22 then 1 else 2
def dueBits (j : Nat) : List Bool := [decide (j < 19), decide (18 < j) && decide (j < 22), decide (21 < j)]
theorem due_index {a : Addr} (hj : j < 31) (hS : SqL K H a ((dueBits j).map V.bl)) (q : Q (.int (baseOf j : Nat)) H) : rIdx K (.ref a) [.bl true] H Q := by
  unfold rIdx
  have h : ∀ j < 31, SeqAt.shaped (.list ((dueBits j).map PyData.bool)) = true ∧ (dueBits j)[baseOf j]? = some true ∧ ∀ m < 31, m < baseOf j → (dueBits j)[m]? = some false := by decide +kernel
  obtain ⟨h1, h2, h3⟩ := h j hj
  have h4 : baseOf j < 31 := by
    unfold baseOf
    split
    · decide
    · split <;> decide
  refine ⟨a, _, .bool true, (dueBits j).map PyData.bool, baseOf j, .bool true, rfl, rfl, .lst hS (dp_bools _), .bl true, h1, by decide +kernel, by rw [List.getElem?_map, h2]; rfl, by decide +kernel, fun m z hm hz => ?_, q⟩
  rw [List.getElem?_map, h3 m (by omega) hm] at hz
  cases hz
  decide +kernel
theorem due_at : ∀ j < 31, atI ((dueBits j).map V.bl) (baseOf j : Nat) = some (.bl true) := by decide +kernel
theorem terms_at : ∀ j < 31, atI (TERMS.map V.str) (j : Nat) = some (.str (term j)) := by decide +kernel
theorem due_list (hj : j < 31) : [V.bl (decide ((j : Int) < 19)), .bl (decide ((18 : Int) < j) && decide ((j : Int) < 22)), .bl (decide ((21 : Int) < j))] = (dueBits j).map V.bl := by
  have e1 : decide ((j : Int) < 19) = decide (j < 19) := decide_eq_decide.mpr (by omega)
  have e2 : decide ((18 : Int) < j) = decide (18 < j) := decide_eq_decide.mpr (by omega)
  have e3 : decide ((j : Int) < 22) = decide (j < 22) := decide_eq_decide.mpr (by omega)
  have e4 : decide ((21 : Int) < j) = decide (21 < j) := decide_eq_decide.mpr (by omega)
  rw [e1, e2, e3, e4]
  rfl
theorem due_eqv : ∀ j < 31, PyData.eqv (.list ((dueBits j).map PyData.bool)) (.list ((dueBits j).map PyData.bool)) = true ∧ SeqAt.shaped (.list ((dueBits j).map PyData.bool)) = true := by decide +kernel
theorem chain_i {σ : L2.St} {i k : Int} {n : Nat} (hn : σ[n]? = some (some (.int i))) (q : Q (.bl (decide (k < i) && decide (i < 22))) H) :
    tChain (rI0 fun a b => .bl (decide (a < b))) (rI0 fun a b => .bl (decide (a < b))) (tC (.int k)) (tVar n) (tC (.int 22)) σ H Q := by
  refine ⟨_, hn, _, _, rfl, rfl, _, rfl, ?_⟩
  cases h : decide (k < i) with
  | true =>
    rw [h] at q
    exact iteT ⟨_, _, rfl, rfl, q⟩
  | false =>
    rw [h] at q
    exact iteF q
end
def sp_terms : Addr × Obj → Sp := fun _ vs H Q _ => vs = [] ∧ ∀ p H', H p = none → Same H H' → H' p = some (.lst (TERMS.map V.str)) → Q (.ref p) H'
def sp_sort (K : PySem.W.Frag) (c : Nat → Addr) : Addr × Obj → Sp := fun p vs H Q _ => ∃ (j : Nat) (d : Option Addr) (v : V), vs = [.ref p.1] ∧ j < 31 ∧ ErrIx K c j ∧ ErrAt c j p d v H ∧ ∀ H', Same H H' → Q (.str (term j)) H'
def sp_held (K : PySem.W.Frag) (c : Nat → Addr) : Addr × Obj → Sp := fun p vs H Q _ => ∃ (j : Nat) (d : Option Addr) (v : V), vs = [.ref p.1, .str (term j)] ∧ oneF j = true ∧ ErrIx K c j ∧ ErrAt c j p d v H ∧ ∀ H', Same H H' → Q v H'
end Hv
namespace L
open PySem L2 Hv
variable {P : Program} {w : World} {K : PySem.W.Frag} {mg : Str → Option Value} {base : Heap}
abbrev s_terms : Stmt := top 43
abbrev N_terms : List Str := ["_law_found"]
abbrev P_terms : List Str := []
theorem sc_terms : FnScope N_terms P_terms (defScope s_terms) := ⟨rfl, rfl, rfl, by decide +kernel, rfl, by decide +kernel, by decide +kernel⟩
theorem ok_terms {f : Addr} {fd : FuncData} (D : DefAt K mg "_law_terms" s_terms P_terms f fd) (T : Txt K mg) : FnP P w K mg base 1 f fd P_terms sp_terms := by
  refine fnP_of D.fn sc_terms (fun p vs H Q E h => ?_) (fun cdv A outer s H vs Q p hG hr h => ?_)
  · obtain ⟨rfl, _⟩ := h
    rfl
  · obtain ⟨rfl, ret⟩ := h
    have hp : p ∈ [p] := List.mem_singleton.mpr rfl
    refine ⟨_, (pss_cons (ps_asg (pe_lst (pa_cons pe_str (pa_cons pe_str (pa_cons pe_str (pa_cons pe_str (pa_cons pe_str (pa_cons pe_str pa_nil))))))) (pg_name (i := 0) sc_terms.nd rfl (.inl rfl)))
      (pss_cons (ps_asg (pe_op op_cat (pv 0) (pe_lst (pa_cons pe_str (pa_cons pe_str (pa_cons pe_str (pa_cons pe_str (pa_cons pe_str (pa_cons pe_str pa_nil)))))))) (pg_name (i := 0) sc_terms.nd rfl (.inl rfl)))
      (pss_cons (ps_asg (pe_op op_cat (pv 0) (pe_lst (pa_cons pe_str (pa_cons pe_str (pa_cons pe_str (pa_cons pe_str (pa_cons pe_str (pa_cons pe_str pa_nil)))))))) (pg_name (i := 0) sc_terms.nd rfl (.inl rfl)))
      (pss_cons (ps_asg (pe_op op_cat (pv 0) (pe_lst (pa_cons pe_str (pa_cons pe_str (pa_cons pe_str (pa_cons pe_str (pa_cons pe_str (pa_cons pe_str (pa_cons pe_str pa_nil))))))))) (pg_name (i := 0) sc_terms.nd rfl (.inl rfl)))
      (pss_one (ps_ret (pe_op op_cat (pv 0) (pe_lst (pa_cons pe_str (pa_cons pe_str (pa_cons pe_str (pa_cons pe_str (pa_cons pe_str (pa_cons pe_str pa_nil)))))))))))))), ?_⟩
    refine ⟨by show 6 ≤ sizeLine; decide, fun p1 n1 => ?_⟩
    refine ⟨_, rfl, by show 6 ≤ sizeLine; decide, fun q1 m1 => ⟨p1, q1, _, _, rfl, rfl, same_new m1 _ _ upd_same, upd_same, by show 12 ≤ sizeLine; decide, fun p2 n2 => ?_⟩⟩
    refine ⟨_, rfl, by show 6 ≤ sizeLine; decide, fun q2 m2 => ⟨p2, q2, _, _, rfl, rfl, same_new m2 _ _ upd_same, upd_same, by show 18 ≤ sizeLine; decide, fun p3 n3 => ?_⟩⟩
    refine ⟨_, rfl, by show 7 ≤ sizeLine; decide, fun q3 m3 => ⟨p3, q3, _, _, rfl, rfl, same_new m3 _ _ upd_same, upd_same, by show 25 ≤ sizeLine; decide, fun p4 n4 => ?_⟩⟩
    refine ⟨_, rfl, by show 6 ≤ sizeLine; decide, fun q4 m4 => ⟨p4, q4, _, _, rfl, rfl, same_new m4 _ _ upd_same, upd_same, by show 31 ≤ sizeLine; decide, fun p5 n5 => ?_⟩⟩
    have sm : ∀ {H1 H2 H3 H4 H5 H6 H7 H8 : Hp}, Same H H1 → Same H1 H2 → Same H2 H3 → Same H3 H4 → Same H4 H5 → Same H5 H6 → Same H6 H7 → Same H7 H8 → Same H H8 := fun a b c d e f g h => ((((((a.trans b).trans c).trans d).trans e).trans f).trans g).trans h
    refine ret p5 _ (Same.free ?_ n5) (Same.trans ?_ (same_new n5)) upd_same <;> exact sm (same_new n1) (same_new m1) (same_new n2) (same_new m2) (same_new n3) (same_new m3) (same_new n4) (same_new m4)
abbrev s_sort : Stmt := top 44
abbrev N_sort : List Str := ["_law_e", "_law_sorts", "_law_at", "_law_due_here", "_law_own"]
abbrev P_sort : List Str := ["_law_e"]
theorem sc_sort : FnScope N_sort P_sort (defScope s_sort) := ⟨rfl, rfl, rfl, by decide +kernel, rfl, by decide +kernel, by decide +kernel⟩
theorem ok_sort {f f1 : Addr} {fd fd1 : FuncData} {c : Nat → Addr} (D : DefAt K mg "_law_sort" s_sort P_sort f fd) (T : Txt K mg) (EN : ErrNames mg c) (D_terms : DefAt K mg "_law_terms" s_terms P_terms f1 fd1) : FnP P w K mg base 2 f fd P_sort (sp_sort K c) := by
  have G_terms : FnP P w K mg base 1 f1 fd1 P_terms sp_terms := ok_terms D_terms T
  refine fnP_of D.fn sc_sort (fun p vs H Q E h => ?_) (fun cdv A outer s H vs Q p hG hr h => ?_)
  · obtain ⟨j, d, v, rfl, _⟩ := h
    rfl
  · obtain ⟨j, d, v, rfl, hj, EX, EA, ret⟩ := h
    have hp : p ∈ [p] := List.mem_singleton.mpr rfl
    have hz := EA.1
    have hf := EA.2.1
    refine ⟨_, (pss_cons (ps_asg (pe_lst (pa_cons (pe_callB (call_isP EX.isx hp hz hf) (by rfl) T.isinstance (by decide +kernel) (pa_cons (pv 0) (pa_cons (pe_glob (v := .ref (c 0)) rfl EN.n0 rfl) pa_nil))) (pa_cons (pe_callB (call_isP EX.isx hp hz hf) (by rfl) T.isinstance (by decide +kernel) (pa_cons (pv 0) (pa_cons (pe_glob (v := .ref (c 1)) rfl EN.n1 rfl) pa_nil))) (pa_cons (pe_callB (call_isP EX.isx hp hz hf) (by rfl) T.isinstance (by decide +kernel) (pa_cons (pv 0) (pa_cons (pe_glob (v := .ref (c 2)) rfl EN.n2 rfl) pa_nil))) pa_nil)))) (pg_name (i := 1) sc_sort.nd rfl (.inl rfl)))
      (pss_cons (ps_asg (pe_op op_cat (pv 1) (pe_lst (pa_cons (pe_callB (call_isP EX.isx hp hz hf) (by rfl) T.isinstance (by decide +kernel) (pa_cons (pv 0) (pa_cons (pe_glob (v := .ref (c 3)) rfl EN.n3 rfl) pa_nil))) (pa_cons (pe_callB (call_isP EX.isx hp hz hf) (by rfl) T.isinstance (by decide +kernel) (pa_cons (pv 0) (pa_cons (pe_glob (v := .ref (c 4)) rfl EN.n4 rfl) pa_nil))) (pa_cons (pe_callB (call_isP EX.isx hp hz hf) (by rfl) T.isinstance (by decide +kernel) (pa_cons (pv 0) (pa_cons (pe_glob (v := .ref (c 5)) rfl EN.n5 rfl) pa_nil))) pa_nil))))) (pg_name (i := 1) sc_sort.nd rfl (.inl rfl)))
      (pss_cons (ps_asg (pe_op op_cat (pv 1) (pe_lst (pa_cons (pe_callB (call_isP EX.isx hp hz hf) (by rfl) T.isinstance (by decide +kernel) (pa_cons (pv 0) (pa_cons (pe_glob (v := .ref (c 6)) rfl EN.n6 rfl) pa_nil))) (pa_cons (pe_callB (call_isP EX.isx hp hz hf) (by rfl) T.isinstance (by decide +kernel) (pa_cons (pv 0) (pa_cons (pe_glob (v := .ref (c 7)) rfl EN.n7 rfl) pa_nil))) (pa_cons (pe_callB (call_isP EX.isx hp hz hf) (by rfl) T.isinstance (by decide +kernel) (pa_cons (pv 0) (pa_cons (pe_glob (v := .ref (c 8)) rfl EN.n8 rfl) pa_nil))) pa_nil))))) (pg_name (i := 1) sc_sort.nd rfl (.inl rfl)))
      (pss_cons (ps_asg (pe_op op_cat (pv 1) (pe_lst (pa_cons (pe_callB (call_isP EX.isx hp hz hf) (by rfl) T.isinstance (by decide +kernel) (pa_cons (pv 0) (pa_cons (pe_glob (v := .ref (c 9)) rfl EN.n9 rfl) pa_nil))) (pa_cons (pe_callB (call_isP EX.isx hp hz hf) (by rfl) T.isinstance (by decide +kernel) (pa_cons (pv 0) (pa_cons (pe_glob (v := .ref (c 10)) rfl EN.n10 rfl) pa_nil))) (pa_cons (pe_callB (call_isP EX.isx hp hz hf) (by rfl) T.isinstance (by decide +kernel) (pa_cons (pv 0) (pa_cons (pe_glob (v := .ref (c 11)) rfl EN.n11 rfl) pa_nil))) pa_nil))))) (pg_name (i := 1) sc_sort.nd rfl (.inl rfl)))
      (pss_cons (ps_asg (pe_op op_cat (pv 1) (pe_lst (pa_cons (pe_callB (call_isP EX.isx hp hz hf) (by rfl) T.isinstance (by decide +kernel) (pa_cons (pv 0) (pa_cons (pe_glob (v := .ref (c 12)) rfl EN.n12 rfl) pa_nil))) (pa_cons (pe_callB (call_isP EX.isx hp hz hf) (by rfl) T.isinstance (by decide +kernel) (pa_cons (pv 0) (pa_cons (pe_glob (v := .ref (c 13)) rfl EN.n13 rfl) pa_nil))) (pa_cons (pe_callB (call_isP EX.isx hp hz hf) (by rfl) T.isinstance (by decide +kernel) (pa_cons (pv 0) (pa_cons (pe_glob (v := .ref (c 14)) rfl EN.n14 rfl) pa_nil))) pa_nil))))) (pg_name (i := 1) sc_sort.nd rfl (.inl rfl)))
      (pss_cons (ps_asg (pe_op op_cat (pv 1) (pe_lst (pa_cons (pe_callB (call_isP EX.isx hp hz hf) (by rfl) T.isinstance (by decide +kernel) (pa_cons (pv 0) (pa_cons (pe_glob (v := .ref (c 15)) rfl EN.n15 rfl) pa_nil))) (pa_cons (pe_callB (call_isP EX.isx hp hz hf) (by rfl) T.isinstance (by decide +kernel) (pa_cons (pv 0) (pa_cons (pe_glob (v := .ref (c 16)) rfl EN.n16 rfl) pa_nil))) (pa_cons (pe_callB (call_isP EX.isx hp hz hf) (by rfl) T.isinstance (by decide +kernel) (pa_cons (pv 0) (pa_cons (pe_glob (v := .ref (c 17)) rfl EN.n17 rfl) pa_nil))) pa_nil))))) (pg_name (i := 1) sc_sort.nd rfl (.inl rfl)))
      (pss_cons (ps_asg (pe_op op_cat (pv 1) (pe_lst (pa_cons (pe_callB (call_isP EX.isx hp hz hf) (by rfl) T.isinstance (by decide +kernel) (pa_cons (pv 0) (pa_cons (pe_glob (v := .ref (c 18)) rfl EN.n18 rfl) pa_nil))) (pa_cons (pe_callB (call_isP EX.isx hp hz hf) (by rfl) T.isinstance (by decide +kernel) (pa_cons (pv 0) (pa_cons (pe_glob (v := .ref (c 19)) rfl EN.n19 rfl) pa_nil))) (pa_cons (pe_callB (call_isP EX.isx hp hz hf) (by rfl) T.isinstance (by decide +kernel) (pa_cons (pv 0) (pa_cons (pe_glob (v := .ref (c 20)) rfl EN.n20 rfl) pa_nil))) pa_nil))))) (pg_name (i := 1) sc_sort.nd rfl (.inl rfl)))
      (pss_cons (ps_asg (pe_op op_cat (pv 1) (pe_lst (pa_cons (pe_callB (call_isP EX.isx hp hz hf) (by rfl) T.isinstance (by decide +kernel) (pa_cons (pv 0) (pa_cons (pe_glob (v := .ref (c 21)) rfl EN.n21 rfl) pa_nil))) (pa_cons (pe_callB (call_isP EX.isx hp hz hf) (by rfl) T.isinstance (by decide +kernel) (pa_cons (pv 0) (pa_cons (pe_glob (v := .ref (c 22)) rfl EN.n22 rfl) pa_nil))) (pa_cons (pe_callB (call_isP EX.isx hp hz hf) (by rfl) T.isinstance (by decide +kernel) (pa_cons (pv 0) (pa_cons (pe_glob (v := .ref (c 23)) rfl EN.n23 rfl) pa_nil))) (pa_cons (pe_callB (call_isP EX.isx hp hz hf) (by rfl) T.isinstance (by decide +kernel) (pa_cons (pv 0) (pa_cons (pe_glob (v := .ref (c 24)) rfl EN.n24 rfl) pa_nil))) pa_nil)))))) (pg_name (i := 1) sc_sort.nd rfl (.inl rfl)))
      (pss_cons (ps_asg (pe_op op_cat (pv 1) (pe_lst (pa_cons (pe_callB (call_isP EX.isx hp hz hf) (by rfl) T.isinstance (by decide +kernel) (pa_cons (pv 0) (pa_cons (pe_glob (v := .ref (c 25)) rfl EN.n25 rfl) pa_nil))) (pa_cons (pe_callB (call_isP EX.isx hp hz hf) (by rfl) T.isinstance (by decide +kernel) (pa_cons (pv 0) (pa_cons (pe_glob (v := .ref (c 26)) rfl EN.n26 rfl) pa_nil))) (pa_cons (pe_callB (call_isP EX.isx hp hz hf) (by rfl) T.isinstance (by decide +kernel) (pa_cons (pv 0) (pa_cons (pe_glob (v := .ref (c 27)) rfl EN.n27 rfl) pa_nil))) pa_nil))))) (pg_name (i := 1) sc_sort.nd rfl (.inl rfl)))
      (pss_cons (ps_asg (pe_op op_cat (pv 1) (pe_lst (pa_cons (pe_callB (call_isP EX.isx hp hz hf) (by rfl) T.isinstance (by decide +kernel) (pa_cons (pv 0) (pa_cons (pe_glob (v := .ref (c 28)) rfl EN.n28 rfl) pa_nil))) (pa_cons (pe_callB (call_isP EX.isx hp hz hf) (by rfl) T.isinstance (by decide +kernel) (pa_cons (pv 0) (pa_cons (pe_glob (v := .ref (c 29)) rfl EN.n29 rfl) pa_nil))) (pa_cons (pe_callB (call_isP EX.isx hp hz hf) (by rfl) T.isinstance (by decide +kernel) (pa_cons (pv 0) (pa_cons (pe_glob (v := .ref (c 30)) rfl EN.n30 rfl) pa_nil))) pa_nil))))) (pg_name (i := 1) sc_sort.nd rfl (.inl rfl)))
      (pss_cons (ps_if (pt_cmpR op_ne (pe_bm PySem.F.plainAttrs_list PySem.F.slot_list_count PySem.F.type_list_count (mt_countB (rh65 hr)) (pv 1) (pa_cons pe_bl pa_nil)) pe_int (nomark _))
      (pss_one (ps_ret pe_str))
      pss_nil)
      (pss_cons (ps_asg (pe_bm PySem.F.plainAttrs_list PySem.F.slot_list_index PySem.F.type_list_index (mt_idx (rh65 hr)) (pv 1) (pa_cons pe_bl pa_nil)) (pg_name (i := 2) sc_sort.nd rfl (.inl rfl)))
      (pss_cons (ps_asg (pe_lst (pa_cons (pe_cmpR op_lt (pv 2) pe_int (nomark _)) (pa_cons (pe_chain op_lt op_lt pe_int (pv 2) pe_int) (pa_cons (pe_cmpR op_lt pe_int (pv 2) (nomark _)) pa_nil)))) (pg_name (i := 3) sc_sort.nd rfl (.inl rfl)))
      (pss_cons (ps_asg (pe_lst (pa_cons (pe_callB (call_isP EX.isx hp hz hf) (by rfl) T.isinstance (by decide +kernel) (pa_cons (pv 0) (pa_cons (pe_bltn (v := .ty "ValueError") (u := .type "ValueError") (by rfl) T.ValueError (by decide +kernel) rfl) pa_nil))) (pa_cons (pe_callB (call_isP EX.isx hp hz hf) (by rfl) T.isinstance (by decide +kernel) (pa_cons (pv 0) (pa_cons (pe_bltn (v := .ty "LookupError") (u := .type "LookupError") (by rfl) T.LookupError (by decide +kernel) rfl) pa_nil))) (pa_cons (pe_callB (call_isP EX.isx hp hz hf) (by rfl) T.isinstance (by decide +kernel) (pa_cons (pv 0) (pa_cons (pe_bltn (v := .ty "ArithmeticError") (u := .type "ArithmeticError") (by rfl) T.ArithmeticError (by decide +kernel) rfl) pa_nil))) pa_nil)))) (pg_name (i := 4) sc_sort.nd rfl (.inl rfl)))
      (pss_cons (ps_if (pt_cmpR (op_neD (rhU hr)) (pe_lst (pa_cons (pe_callB (call_isP EX.isx hp hz hf) (by rfl) T.isinstance (by decide +kernel) (pa_cons (pv 0) (pa_cons (pe_glob (v := .ref (c 31)) rfl EN.n31 rfl) pa_nil))) (pa_cons (pe_callB (call_isP EX.isx hp hz hf) (by rfl) T.isinstance (by decide +kernel) (pa_cons (pv 0) (pa_cons (pe_glob (v := .ref (c 32)) rfl EN.n32 rfl) pa_nil))) (pa_cons (pe_callB (call_isP EX.isx hp hz hf) (by rfl) T.isinstance (by decide +kernel) (pa_cons (pv 0) (pa_cons (pe_glob (v := .ref (c 33)) rfl EN.n33 rfl) pa_nil))) pa_nil)))) (pv 3) (nomark _))
      (pss_one (ps_ret pe_str))
      pss_nil)
      (pss_one (ps_ret (pe_ifExp (pt_val (pe_ix ix_list (pv 4) (pe_bm PySem.F.plainAttrs_list PySem.F.slot_list_index PySem.F.type_list_index (mt_idx (rh65 hr)) (pv 3) (pa_cons pe_bl pa_nil)) (fun _ _ => rfl))) (pe_ix ix_list (pe_call0P G_terms hG (hr.mono (by decide)) hp rfl D_terms.mg D_terms.fn.kp D_terms.bd) (pv 2) (fun _ _ => rfl)) pe_str)))))))))))))))))), ?_⟩
    refine ⟨_, rfl, is_r EX EA (i := 0) (by decide) ⟨_, rfl, is_r EX EA (i := 1) (by decide) ⟨_, rfl, is_r EX EA (i := 2) (by decide) ⟨by show 3 ≤ sizeLine; decide, fun q0 m0 => ?_⟩⟩⟩⟩
    have s1 := same_new (o := .lst [.bl (decide (0 = j)), .bl (decide (1 = j)), .bl (decide (2 = j))]) m0
    refine ⟨_, rfl, ⟨_, rfl, is_r EX (EA.same s1) (i := 3) (by decide) ⟨_, rfl, is_r EX (EA.same s1) (i := 4) (by decide) ⟨_, rfl, is_r EX (EA.same s1) (i := 5) (by decide) ⟨by show 3 ≤ sizeLine; decide, fun q1 m1 => ⟨_, q1, _, _, rfl, rfl, same_new m1 _ _ upd_same, upd_same, by show 6 ≤ sizeLine; decide, fun r1 n1 => ?_⟩⟩⟩⟩⟩⟩
    have s2 := (s1.trans (same_new (o := .lst [.bl (decide (3 = j)), .bl (decide (4 = j)), .bl (decide (5 = j))]) m1)).trans (same_new (o := .lst [.bl (decide (0 = j)), .bl (decide (1 = j)), .bl (decide (2 = j)), .bl (decide (3 = j)), .bl (decide (4 = j)), .bl (decide (5 = j))]) n1)
    clear s1
    refine ⟨_, rfl, ⟨_, rfl, is_r EX (EA.same s2) (i := 6) (by decide) ⟨_, rfl, is_r EX (EA.same s2) (i := 7) (by decide) ⟨_, rfl, is_r EX (EA.same s2) (i := 8) (by decide) ⟨by show 3 ≤ sizeLine; decide, fun q2 m2 => ⟨_, q2, _, _, rfl, rfl, same_new m2 _ _ upd_same, upd_same, by show 9 ≤ sizeLine; decide, fun r2 n2 => ?_⟩⟩⟩⟩⟩⟩
    have s3 := (s2.trans (same_new (o := .lst [.bl (decide (6 = j)), .bl (decide (7 = j)), .bl (decide (8 = j))]) m2)).trans (same_new (o := .lst [.bl (decide (0 = j)), .bl (decide (1 = j)), .bl (decide (2 = j)), .bl (decide (3 = j)), .bl (decide (4 = j)), .bl (decide (5 = j)), .bl (decide (6 = j)), .bl (decide (7 = j)), .bl (decide (8 = j))]) n2)
    clear s2
    refine ⟨_, rfl, ⟨_, rfl, is_r EX (EA.same s3) (i := 9) (by decide) ⟨_, rfl, is_r EX (EA.same s3) (i := 10) (by decide) ⟨_, rfl, is_r EX (EA.same s3) (i := 11) (by decide) ⟨by show 3 ≤ sizeLine; decide, fun q3 m3 => ⟨_, q3, _, _, rfl, rfl, same_new m3 _ _ upd_same, upd_same, by show 12 ≤ sizeLine; decide, fun r3 n3 => ?_⟩⟩⟩⟩⟩⟩
    have s4 := (s3.trans (same_new (o := .lst [.bl (decide (9 = j)), .bl (decide (10 = j)), .bl (decide (11 = j))]) m3)).trans (same_new (o := .lst [.bl (decide (0 = j)), .bl (decide (1 = j)), .bl (decide (2 = j)), .bl (decide (3 = j)), .bl (decide (4 = j)), .bl (decide (5 = j)), .bl (decide (6 = j)), .bl (decide (7 = j)), .bl (decide (8 = j)), .bl (decide (9 = j)), .bl (decide (10 = j)), .bl (decide (11 = j))]) n3)
    clear s3
    refine ⟨_, rfl, ⟨_, rfl, is_r EX (EA.same s4) (i := 12) (by decide) ⟨_, rfl, is_r EX (EA.same s4) (i := 13) (by decide) ⟨_, rfl, is_r EX (EA.same s4) (i := 14) (by decide) ⟨by show 3 ≤ sizeLine; decide, fun q4 m4 => ⟨_, q4, _, _, rfl, rfl, same_new m4 _ _ upd_same, upd_same, by show 15 ≤ sizeLine; decide, fun r4 n4 => ?_⟩⟩⟩⟩⟩⟩
    have s5 := (s4.trans (same_new (o := .lst [.bl (decide (12 = j)), .bl (decide (13 = j)), .bl (decide (14 = j))]) m4)).trans (same_new (o := .lst [.bl (decide (0 = j)), .bl (decide (1 = j)), .bl (decide (2 = j)), .bl (decide (3 = j)), .bl (decide (4 = j)), .bl (decide (5 = j)), .bl (decide (6 = j)), .bl (decide (7 = j)), .bl (decide (8 = j)), .bl (decide (9 = j)), .bl (decide (10 = j)), .bl (decide (11 = j)), .bl (decide (12 = j)), .bl (decide (13 = j)), .bl (decide (14 = j))]) n4)
    clear s4
    refine ⟨_, rfl, ⟨_, rfl, is_r EX (EA.same s5) (i := 15) (by decide) ⟨_, rfl, is_r EX (EA.same s5) (i := 16) (by decide) ⟨_, rfl, is_r EX (EA.same s5) (i := 17) (by decide) ⟨by show 3 ≤ sizeLine; decide, fun q5 m5 => ⟨_, q5, _, _, rfl, rfl, same_new m5 _ _ upd_same, upd_same, by show 18 ≤ sizeLine; decide, fun r5 n5 => ?_⟩⟩⟩⟩⟩⟩
    have s6 := (s5.trans (same_new (o := .lst [.bl (decide (15 = j)), .bl (decide (16 = j)), .bl (decide (17 = j))]) m5)).trans (same_new (o := .lst [.bl (decide (0 = j)), .bl (decide (1 = j)), .bl (decide (2 = j)), .bl (decide (3 = j)), .bl (decide (4 = j)), .bl (decide (5 = j)), .bl (decide (6 = j)), .bl (decide (7 = j)), .bl (decide (8 = j)), .bl (decide (9 = j)), .bl (decide (10 = j)), .bl (decide (11 = j)), .bl (decide (12 = j)), .bl (decide (13 = j)), .bl (decide (14 = j)), .bl (decide (15 = j)), .bl (decide (16 = j)), .bl (decide (17 = j))]) n5)
    clear s5
    refine ⟨_, rfl, ⟨_, rfl, is_r EX (EA.same s6) (i := 18) (by decide) ⟨_, rfl, is_r EX (EA.same s6) (i := 19) (by decide) ⟨_, rfl, is_r EX (EA.same s6) (i := 20) (by decide) ⟨by show 3 ≤ sizeLine; decide, fun q6 m6 => ⟨_, q6, _, _, rfl, rfl, same_new m6 _ _ upd_same, upd_same, by show 21 ≤ sizeLine; decide, fun r6 n6 => ?_⟩⟩⟩⟩⟩⟩
    have s7 := (s6.trans (same_new (o := .lst [.bl (decide (18 = j)), .bl (decide (19 = j)), .bl (decide (20 = j))]) m6)).trans (same_new (o := .lst [.bl (decide (0 = j)), .bl (decide (1 = j)), .bl (decide (2 = j)), .bl (decide (3 = j)), .bl (decide (4 = j)), .bl (decide (5 = j)), .bl (decide (6 = j)), .bl (decide (7 = j)), .bl (decide (8 = j)), .bl (decide (9 = j)), .bl (decide (10 = j)), .bl (decide (11 = j)), .bl (decide (12 = j)), .bl (decide (13 = j)), .bl (decide (14 = j)), .bl (decide (15 = j)), .bl (decide (16 = j)), .bl (decide (17 = j)), .bl (decide (18 = j)), .bl (decide (19 = j)), .bl (decide (20 = j))]) n6)
    clear s6
    refine ⟨_, rfl, ⟨_, rfl, is_r EX (EA.same s7) (i := 21) (by decide) ⟨_, rfl, is_r EX (EA.same s7) (i := 22) (by decide) ⟨_, rfl, is_r EX (EA.same s7) (i := 23) (by decide) ⟨_, rfl, is_r EX (EA.same s7) (i := 24) (by decide) ⟨by show 4 ≤ sizeLine; decide, fun q7 m7 => ⟨_, q7, _, _, rfl, rfl, same_new m7 _ _ upd_same, upd_same, by show 25 ≤ sizeLine; decide, fun r7 n7 => ?_⟩⟩⟩⟩⟩⟩⟩
    have s8 := (s7.trans (same_new (o := .lst [.bl (decide (21 = j)), .bl (decide (22 = j)), .bl (decide (23 = j)), .bl (decide (24 = j))]) m7)).trans (same_new (o := .lst [.bl (decide (0 = j)), .bl (decide (1 = j)), .bl (decide (2 = j)), .bl (decide (3 = j)), .bl (decide (4 = j)), .bl (decide (5 = j)), .bl (decide (6 = j)), .bl (decide (7 = j)), .bl (decide (8 = j)), .bl (decide (9 = j)), .bl (decide (10 = j)), .bl (decide (11 = j)), .bl (decide (12 = j)), .bl (decide (13 = j)), .bl (decide (14 = j)), .bl (decide (15 = j)), .bl (decide (16 = j)), .bl (decide (17 = j)), .bl (decide (18 = j)), .bl (decide (19 = j)), .bl (decide (20 = j)), .bl (decide (21 = j)), .bl (decide (22 = j)), .bl (decide (23 = j)), .bl (decide (24 = j))]) n7)
    clear s7
    refine ⟨_, rfl, ⟨_, rfl, is_r EX (EA.same s8) (i := 25) (by decide) ⟨_, rfl, is_r EX (EA.same s8) (i := 26) (by decide) ⟨_, rfl, is_r EX (EA.same s8) (i := 27) (by decide) ⟨by show 3 ≤ sizeLine; decide, fun q8 m8 => ⟨_, q8, _, _, rfl, rfl, same_new m8 _ _ upd_same, upd_same, by show 28 ≤ sizeLine; decide, fun r8 n8 => ?_⟩⟩⟩⟩⟩⟩
    have s9 := (s8.trans (same_new (o := .lst [.bl (decide (25 = j)), .bl (decide (26 = j)), .bl (decide (27 = j))]) m8)).trans (same_new (o := .lst [.bl (decide (0 = j)), .bl (decide (1 = j)), .bl (decide (2 = j)), .bl (decide (3 = j)), .bl (decide (4 = j)), .bl (decide (5 = j)), .bl (decide (6 = j)), .bl (decide (7 = j)), .bl (decide (8 = j)), .bl (decide (9 = j)), .bl (decide (10 = j)), .bl (decide (11 = j)), .bl (decide (12 = j)), .bl (decide (13 = j)), .bl (decide (14 = j)), .bl (decide (15 = j)), .bl (decide (16 = j)), .bl (decide (17 = j)), .bl (decide (18 = j)), .bl (decide (19 = j)), .bl (decide (20 = j)), .bl (decide (21 = j)), .bl (decide (22 = j)), .bl (decide (23 = j)), .bl (decide (24 = j)), .bl (decide (25 = j)), .bl (decide (26 = j)), .bl (decide (27 = j))]) n8)
    clear s8
    refine ⟨_, rfl, ⟨_, rfl, is_r EX (EA.same s9) (i := 28) (by decide) ⟨_, rfl, is_r EX (EA.same s9) (i := 29) (by decide) ⟨_, rfl, is_r EX (EA.same s9) (i := 30) (by decide) ⟨by show 3 ≤ sizeLine; decide, fun q9 m9 => ⟨_, q9, _, _, rfl, rfl, same_new m9 _ _ upd_same, upd_same, by show 31 ≤ sizeLine; decide, fun r9 n9 => ?_⟩⟩⟩⟩⟩⟩
    have s10 := (s9.trans (same_new (o := .lst [.bl (decide (28 = j)), .bl (decide (29 = j)), .bl (decide (30 = j))]) m9)).trans (same_new (o := .lst ([.bl (decide (0 = j)), .bl (decide (1 = j)), .bl (decide (2 = j)), .bl (decide (3 = j)), .bl (decide (4 = j)), .bl (decide (5 = j)), .bl (decide (6 = j)), .bl (decide (7 = j)), .bl (decide (8 = j)), .bl (decide (9 = j)), .bl (decide (10 = j)), .bl (decide (11 = j)), .bl (decide (12 = j)), .bl (decide (13 = j)), .bl (decide (14 = j)), .bl (decide (15 = j)), .bl (decide (16 = j)), .bl (decide (17 = j)), .bl (decide (18 = j)), .bl (decide (19 = j)), .bl (decide (20 = j)), .bl (decide (21 = j)), .bl (decide (22 = j)), .bl (decide (23 = j)), .bl (decide (24 = j)), .bl (decide (25 = j)), .bl (decide (26 = j)), .bl (decide (27 = j))] ++ [.bl (decide (28 = j)), .bl (decide (29 = j)), .bl (decide (30 = j))])) n9)
    clear s9
    dsimp only [gName]
    generalize hx : upd _ r9 _ = Hx at s10 ⊢
    have hLx : Hx r9 = some (.lst ((bitsOf j).map V.bl)) := by
      rw [← hx]
      exact upd_same
    clear hx
    have hL : SqL K Hx r9 ((bitsOf j).map V.bl) := SqL.of hLx
    refine ⟨_, rfl, .inl ⟨rfl, _, hL⟩, r9, bitsOf j, rfl, rfl, hL, rfl, _, rfl, ?_⟩
    rw [sort_count j hj]
    refine ifNF rfl ?_
    refine ⟨_, rfl, .inl ⟨rfl, _, hL⟩, sort_index hj hL ?_⟩
    refine ⟨_, rfl, _, _, rfl, rfl, chain_i (n := 2) rfl ⟨_, rfl, _, _, rfl, rfl, by show 3 ≤ sizeLine; decide, fun a1 b1 => ?_⟩⟩
    rw [due_list hj]
    have t1 := s10.trans (same_new (o := .lst ((dueBits j).map V.bl)) b1)
    have E1 := EA.same t1
    refine ⟨_, rfl, rIsP_in (cv := .type "ValueError") (fun _ r => r) EX.tV E1.2.2 ⟨_, rfl, rIsP_in (cv := .type "LookupError") (fun _ r => r) EX.tL E1.2.2 ⟨_, rfl, rIsP_in (cv := .type "ArithmeticError") (fun _ r => r) EX.tA E1.2.2 ⟨by show 3 ≤ sizeLine; decide, fun a2 b2 => ?_⟩⟩⟩⟩
    have t2 := t1.trans (same_new (o := .lst ((dueBits j).map V.bl)) b2)
    have E2 := EA.same t2
    have D2 := same_new (o := .lst ((dueBits j).map V.bl)) b2 _ _ (upd_same (H := Hx) (a := a1) (o := .lst ((dueBits j).map V.bl)))
    refine ⟨_, rfl, rIsP_in (cv := .ref (c 31)) (fun _ r => r) EX.kV E2.2.2 ⟨_, rfl, rIsP_in (cv := .ref (c 32)) (fun _ r => r) EX.kN E2.2.2 ⟨_, rfl, rIsP_in (cv := .ref (c 33)) (fun _ r => r) EX.kP E2.2.2 ⟨by show 3 ≤ sizeLine; decide, fun a3 b3 => ?_⟩⟩⟩⟩
    have t3 := t2.trans (same_new (o := .lst ((dueBits j).map V.bl)) b3)
    obtain ⟨e1, e2⟩ := due_eqv j hj
    refine ⟨_, rfl, .list ((dueBits j).map PyData.bool), .list ((dueBits j).map PyData.bool), .lst (SqL.of upd_same) (dp_bools (dueBits j)), .lst (SqL.of (same_new b3 _ _ D2)) (dp_bools (dueBits j)), e2, e2, _, rfl, ?_⟩
    rw [e1]
    refine iteF ?_
    have O3 := same_new (o := .lst ((dueBits j).map V.bl)) b3 _ _ (upd_same (a := a2) (o := .lst ((dueBits j).map V.bl)))
    have D3 := same_new (o := .lst ((dueBits j).map V.bl)) b3 _ _ D2
    refine ⟨_, rfl, _, rfl, .inl ⟨rfl, _, SqL.of D3⟩, due_index hj (SqL.of D3) ⟨_, _, _, _, rfl, rfl, SqL.of O3, due_at j hj, _, rfl, iteT ?_⟩⟩
    refine ⟨rfl, fun q H' q0 sq hq => ⟨_, rfl, q, _, _, _, rfl, rfl, SqL.of hq, terms_at j hj, ret _ (t3.trans sq)⟩⟩
end L

namespace Hv
open PySem L2
/-- all that the walks ask of the error class j, of the classes cs -/
def errB (K : PySem.W.Frag) (cs : List Addr) (j : Nat) : Bool :=
  let D := cs.getD j 0
  decide (PySem.W.findIn K (.ref D) "__getattribute__" = some (some (.builtin "BaseException.__getattribute__"))) && (decide (PySem.W.findIn K (.ref D) "__getattr__" = some none) && (decide (PySem.W.subIn K (.ref D) (.type "BaseException") = some true) && (PySem.W.hasDictIn K D &&
  (decide (PySem.W.findIn K (.ref D) "__class__" = some (some (.builtin "object.__class__"))) && (decide (PySem.W.specialIn K (.builtin "object.__class__") "__get__" = some (some (.builtin "getset_descriptor.__get__"))) && (decide (PySem.W.takesIn K (.builtin "object.__class__") = some true) &&
  (decide (PySem.W.mroIn K D (.type "object") = some true) && ((List.range 31).all (fun i => decide (PySem.W.kitOne K (.ref D) (.ref (cs.getD i 0)) = some (decide (i = j)))) && (decide (PySem.W.kitOne K (.ref D) (.ref (cs.getD 31 0)) = some (decide (j < 19))) &&
  (decide (PySem.W.kitOne K (.ref D) (.ref (cs.getD 32 0)) = some (decide (18 < j) && decide (j < 22))) && (decide (PySem.W.kitOne K (.ref D) (.ref (cs.getD 33 0)) = some (decide (21 < j))) && (decide (PySem.W.kitOne K (.ref D) (.type "ValueError") = some (decide (j < 19))) &&
  (decide (PySem.W.kitOne K (.ref D) (.type "LookupError") = some (decide (18 < j) && decide (j < 22))) && (decide (PySem.W.kitOne K (.ref D) (.type "ArithmeticError") = some (decide (21 < j))) && (decide (PySem.W.findIn K (.ref D) "given" = some none) && (decide (PySem.W.findIn K (.ref D) "index" = some none) &&
  (decide (PySem.W.findIn K (.ref D) "kind" = some none) && (decide (PySem.W.findIn K (.ref D) "house" = some none) && decide (PySem.W.exmAny K (.ref D) [.ref (cs.getD 31 0), .ref (cs.getD 32 0), .ref (cs.getD 33 0)] = some true)))))))))))))))))))
theorem errB_ok {K : PySem.W.Frag} {cs : List Addr} {j : Nat} (h : errB K cs j = true) : ErrIx K (fun i => cs.getD i 0) j := by
  unfold errB at h
  simp only [Bool.and_eq_true, decide_eq_true_eq, List.all_eq_true, List.mem_range] at h
  obtain ⟨h1, h2, h3, h4, h5, h6, h7, h8, h9, h10, h11, h12, h13, h14, h15, h16, h17, h18, h19, h20⟩ := h
  exact ⟨⟨h1, h2, h3, h4, h5, h6, h7, h8⟩, ⟨h1, h2, h3, h4⟩, fun i hi => h9 i hi, h10, h11, h12, h13, h14, h15, h16, h17, h18, h19, h20⟩
/-- what the top has left of an error class with one field -/
structure ErrIn (K : PySem.W.Frag) (C : Addr) (f : Str) : Prop where
  oex : OexC K C
  ini : ∃ (fI : Addr) (oc : Value) (od : Option Addr) (kV doc pm : Value) (an : Option Addr) (cd ct : Value) (sl : Array (Option Value)) (q : Str) (p1 p2 q1 q2 q3 q4 : Pos),
    PySem.W.findIn K (.ref C) "__init__" = some (some (.ref fI)) ∧ PySem.W.typeIn K (.ref fI) = some (.type "function") ∧
    K.lookup fI = some ⟨oc, od, .func (PySem.W.fnOf "__init__" q (eA f p1 p2) (eB f q1 q2 q3 q4) (eS f) .none kV doc pm an cd ct), sl⟩ ∧ PySem.W.codeIn K cd q = true
theorem errIn_mk {K : PySem.W.Frag} {C fI : Addr} {f : Str} {nm q0 : Str} {N : Addr} {bs bm : List Value} {sn sub ab col dd k0 k1 k2 k3 k5} {oc : Value} {od : Option Addr} {kV doc pm : Value} {an : Option Addr} {cd ct : Value} {sl : Array (Option Value)} {q : Str} {p1 p2 q1 q2 q3 q4 : Pos}
    (h1 : K.lookup C = some (excClassObj nm q0 C N bs bm true sn sub ab col dd k0 k1 k2 k3 k5 "ValueError.__new__")) (h2 : PySem.HandSPX.refsVE bm = true) (h3 : PySem.W.findIn K (.ref C) "__setattr__" = some (some (.builtin "object.__setattr__")))
    (h4 : PySem.W.subIn K (.ref C) (.type "BaseException") = some true) (h5 : PySem.W.typeIn K (.ref C) = some (.type "type")) (h6 : PySem.W.keepIn K (.ref C) = true) (h7 : PySem.W.findIn K (.ref C) "__init__" = some (some (.ref fI))) (h8 : PySem.W.typeIn K (.ref fI) = some (.type "function"))
    (h9 : K.lookup fI = some ⟨oc, od, .func (PySem.W.fnOf "__init__" q (eA f p1 p2) (eB f q1 q2 q3 q4) (eS f) .none kV doc pm an cd ct), sl⟩) (h10 : PySem.W.codeIn K cd q = true) : ErrIn K C f :=
  ⟨⟨⟨nm, q0, N, bs, bm, sn, sub, ab, col, dd, k0, k1, k2, k3, k5, h1, h2⟩, h3, h4, h5, h6⟩, fI, oc, od, kV, doc, pm, an, cd, ct, sl, q, p1, p2, q1, q2, q3, q4, h7, h8, h9, h10⟩
theorem ErrIn.txt {K : PySem.W.Frag} {mg : Str → Option Value} {C : Addr} {x f : Str} (h : ErrIn K C f) (hm : mg x = some (.ref C)) (hi : ExcC K C) (hn : PySem.W.findIn K (.ref C) f = some none) (hf : FldOk f) : ErrTxt K mg x f C := ⟨hm, hf, h.oex, hi, hn, h.ini⟩
theorem tabIn_code {K : PySem.W.Frag} {x : Str} {c P f : Addr} {oc : Value} {od : Option Addr} {fd : FuncData} {sl : Array (Option Value)} (t : TabIn K x c P) (h1 : PySem.W.nsIn K mainGlobals x = some (some (.ref f))) (h2 : K.lookup f = some ⟨oc, od, .func fd, sl⟩) : fd.code = .ref c := by
  obtain ⟨f', o, fd', e, dd, vs, sl', k1, k2, k3, k4, _⟩ := t
  rw [h1] at k1
  cases k1
  rw [h2] at k2
  cases k2
  cases k3
  exact k4
end Hv

namespace Hv
open PySem L2
def L1 : List V := [.str "InvalidKinds", .str "InvalidRows", .str "InvalidChanges", .str "InvalidWishes", .str "InUse"]
def L2' : List V := [.str "IsClosed", .str "NotListed", .str "TooFew", .str "UsedUp", .str "CannotClose"]
def L3 : List V := [.str "Over", .str "NothingToUndo", .str ""]
theorem held_tab : ∀ j < 31, oneF j = true → inV (.str (term j)) L1 = decide (fieldOf j = "index") ∧ inV (.str (term j)) L2' = decide (fieldOf j = "kind") ∧ inV (.str (term j)) L3 = false ∧ decide (V.str (term j) = V.str "Broken") = false ∧
    (fieldOf j ≠ "index" → fieldOf j ≠ "kind" → fieldOf j = "given") := by decide +kernel
theorem oneF_lt {j : Nat} (h : oneF j = true) : j < 31 := by
  unfold oneF at h
  simp only [Bool.and_eq_true, decide_eq_true_eq] at h
  omega
end Hv
namespace L
open PySem L2 Hv
variable {P : Program} {w : World} {K : PySem.W.Frag} {mg : Str → Option Value} {base : Heap}
abbrev s_held : Stmt := top 45
abbrev N_held : List Str := ["_law_e", "_law_term"]
abbrev P_held : List Str := ["_law_e", "_law_term"]
theorem sc_held : FnScope N_held P_held (defScope s_held) := ⟨rfl, rfl, rfl, by decide +kernel, rfl, by decide +kernel, by decide +kernel⟩
theorem ok_held {f : Addr} {fd : FuncData} {c : Nat → Addr} (D : DefAt K mg "_law_held" s_held P_held f fd) (T : Txt K mg) : FnP P w K mg base 1 f fd P_held (sp_held K c) := by
  refine fnP_of D.fn sc_held (fun p vs H Q E h => ?_) (fun cdv A outer s H vs Q p hG hr h => ?_)
  · obtain ⟨j, d, v, rfl, _⟩ := h
    rfl
  · obtain ⟨j, d, v, rfl, hj, EX, EA, ret⟩ := h
    have hp : p ∈ [p] := List.mem_singleton.mpr rfl
    have hz := EA.1
    have hf := EA.2.1
    have h31 := oneF_lt hj
    obtain ⟨t1, t2, t3, t4, t5⟩ := held_tab j h31 hj
    refine ⟨_, (pss_cons (ps_if (pt_cmpR op_in_seq (pv 1) (pe_lst (pa_cons pe_str (pa_cons pe_str (pa_cons pe_str (pa_cons pe_str (pa_cons pe_str pa_nil)))))) (by rfl))
      (pss_one (ps_ret (pe_xp EX.xf (EX.f_index) hp hz hf (pv 0))))
      pss_nil)
      (pss_cons (ps_if (pt_cmpR op_in_seq (pv 1) (pe_lst (pa_cons pe_str (pa_cons pe_str (pa_cons pe_str (pa_cons pe_str (pa_cons pe_str pa_nil)))))) (by rfl))
      (pss_one (ps_ret (pe_xp EX.xf (EX.f_kind) hp hz hf (pv 0))))
      pss_nil)
      (pss_cons (ps_if (pt_cmpR op_in_seq (pv 1) (pe_lst (pa_cons pe_str (pa_cons pe_str (pa_cons pe_str pa_nil)))) (by rfl))
      (pss_one (ps_ret pe_non))
      pss_nil)
      (pss_one (ps_ret (pe_ifExp (pt_cmpR op_eq (pv 1) pe_str (nomark _)) (pe_lst (pa_cons (pe_xp EX.xf (EX.f_index) hp hz hf (pv 0)) (pa_cons (pe_xp EX.xf (EX.f_house) hp hz hf (pv 0)) pa_nil))) (pe_xp EX.xf (EX.f_given) hp hz hf (pv 0)))))))), ?_⟩
    refine ⟨_, rfl, by show 5 ≤ sizeLine; decide, fun p1 n1 => ⟨p1, L1, rfl, .inl (SqL.of upd_same), rfl, rfl, _, rfl, ?_⟩⟩
    have s1 := same_new (o := .lst L1) n1
    rw [t1]
    by_cases f1 : fieldOf j = "index"
    · refine ifT f1 ⟨_, rfl, rfl, _, v, (EA.same s1).2.2, by rw [f1]; rfl, ret _ s1⟩
    · refine ifF f1 ?_
      refine ⟨_, rfl, by show 5 ≤ sizeLine; decide, fun p2 n2 => ⟨p2, L2', rfl, .inl (SqL.of upd_same), rfl, rfl, _, rfl, ?_⟩⟩
      have s2 := s1.trans (same_new (o := .lst L2') n2)
      rw [t2]
      by_cases f2 : fieldOf j = "kind"
      · refine ifT f2 ⟨_, rfl, rfl, _, v, (EA.same s2).2.2, by rw [f2]; rfl, ret _ s2⟩
      · refine ifF f2 ?_
        refine ⟨_, rfl, by show 3 ≤ sizeLine; decide, fun p3 n3 => ⟨p3, L3, rfl, .inl (SqL.of upd_same), rfl, rfl, _, rfl, ?_⟩⟩
        have s3 := s2.trans (same_new (o := .lst L3) n3)
        rw [t3]
        refine iteF ⟨_, rfl, rfl, _, rfl, ?_⟩
        rw [t4]
        refine iteF ⟨_, rfl, rfl, _, v, (EA.same s3).2.2, by rw [t5 f1 f2]; rfl, ret _ s3⟩
end L
namespace Hv
open PySem PySem.Spec PyProof.Rows L2
theorem pe_imp {X : Cx} {e : Expr} {t t' : TE} (he : PE X e t) (h : ∀ σ H Q, t' σ H Q → t σ H Q) : PE X e t' := ⟨fun pins s σ H Q I q => he.run pins s σ H Q I (h σ H Q q)⟩
/-- what the catcher makes of an error -/
def echQ (K : PySem.W.Frag) (c : Nat → Addr) (Q : VK) : XK := fun cls d H' => ∃ (j : Nat) (b : Addr) (v : V) (pd : PyData) (m n : Nat), cls = .ref (c j) ∧ oneF j = true ∧ ErrIx K c j ∧ XdAt H' d [(fieldOf j, v)] ∧ Dq K b H' v pd ∧ FitQ pd m n ∧ m ≤ 60 ∧ n ≤ 5000 ∧
  ∀ p H2, H' p = none → Same H' H2 → H2 p = some (.lst [.str (term j), .str pd.shown]) → Q (.ref p) H2
/-- what it makes of a value -/
def toldQ (K : PySem.W.Frag) (Q : VK) : VK := fun v H1 => ∃ v0 : V, (some (some v) : Option (Option V)) = some (some v0) ∧ rReprQ K [v0] H1 fun x H2 => 2 ≤ sizeLine ∧ ∀ p, H2 p = none → Q (.ref p) (upd H2 p (.lst [.str "told", x]))
/-- what the catcher makes of a call: tl is its reading -/
def TCaught (K : PySem.W.Frag) (c : Nat → Addr) : (XK → Hp → VK → Prop) → Hp → VK → Prop := fun tl H Q => tl (echQ K c Q) H (toldQ K Q)
end Hv
namespace L
open PySem PySem.Spec PyProof.Rows L2 Hv
abbrev s_caught : Stmt := top 46
abbrev N_caught : List Str := ["_law_act", "_law_told", "_law_e", "_law_term"]
abbrev P_caught : List Str := ["_law_act"]
theorem sc_caught : FnScope N_caught P_caught (defScope s_caught) := ⟨rfl, rfl, rfl, by decide +kernel, rfl, by decide +kernel, by decide +kernel⟩
theorem caught_gives {X : Cx} {c : Nat → Addr} {g f1 f2 : Addr} {fd1 fd2 : FuncData} {cdg : Value} {q : Str} (hX : Room 4 X.A) (hG : X.A.guards = some []) (T : Txt X.K X.mg) (EN : ErrNames X.mg c)
    (D_sort : DefAt X.K X.mg "_law_sort" s_sort P_sort f1 fd1) (G_sort : FnP X.prog X.w X.K X.mg X.base 2 f1 fd1 P_sort (sp_sort X.K c))
    (D_held : DefAt X.K X.mg "_law_held" s_held P_held f2 fd2) (G_held : FnP X.prog X.w X.K X.mg X.base 1 f2 fd2 P_held (sp_held X.K c)) :
    LamX.GivesTo X N_caught "_law_caught" (defScope s_caught) g cdg (defBody s_caught) "_law_act" q (TCaught X.K c) := by
  intro f c' s H Q tl act hc h
  have rm := (L2H.roomH_of (hX.deeper (envOfC "_law_caught" (defScope s_caught) s.heap.objs.size g cdg))).mono (by decide : 2 ≤ 3)
  have bR : bootBuiltins "repr" = some (.builtin "repr") := by decide +kernel
  have hr := hX.deeper (envOfC "_law_caught" (defScope s_caught) s.heap.objs.size g cdg)
  refine ⟨_, pss_cons (ps_try_tup (X := (cxOf CX0 X.prog X.w X.K X.mg X.base N_caught "_law_caught" (defScope s_caught) g cdg X.A X.stack s H E0).nox) (i := 2)
      (tb := fun W D σ H => ∃ Ech : XK, (∀ cls d σ' H', Ech cls d H' → W cls d σ' H') ∧ σ[0]? = some (some (.ref f)) ∧ H c' = some (LamX.CodeO c' q) ∧ tl Ech H (fun v H' => D.nx (σ.set 1 (some v)) H'))
      rfl rfl sc_caught.nd rfl rfl rfl rfl rfl EN.n31 EN.n32 EN.n33 (fun W pn xe tk _ => ?b) (fun a oe cls d pn hz hf => pss_cons (ps_asg (pe_imp (t' := fun σ H Q => ∃ (j : Nat) (v : V), cls = .ref (c j) ∧ σ[2]? = some (some (.ref a)) ∧ j < 31 ∧ ErrIx X.K c j ∧ XdAt H d [(fieldOf j, v)] ∧ ∀ H', Same H H' → Q (.str (term j)) H')
          (pe_callP (X := (cxOf CX0 X.prog X.w X.K X.mg X.base N_caught "_law_caught" (defScope s_caught) g cdg X.A X.stack s H E0).nox.suite a ((a, oe) :: pn)) (p := (a, oe)) (x := "_law_sort") G_sort hG ⟨rm.dp, rm.un⟩ List.mem_cons_self rfl D_sort.mg D_sort.fn.kp D_sort.bd (pa_cons (pv 2) pa_nil)) ?s1) (pg_name (i := 3) sc_caught.nd rfl (.inl rfl)))
        (pss_one (ps_ret (pe_lst (pa_cons (pv 3) (pa_cons (pe_callB (show CallR ((cxOf CX0 X.prog X.w X.K X.mg X.base N_caught "_law_caught" (defScope s_caught) g cdg X.A X.stack s H E0).nox.suite a ((a, oe) :: pn)) (.builtin "repr") (rReprQ X.K) from cr_reprQ hG hr.units) (by rfl) T.repr bR (pa_cons (pe_imp (t' := fun σ H Q => ∃ (j : Nat) (v : V), cls = .ref (c j) ∧ σ[2]? = some (some (.ref a)) ∧ σ[3]? = some (some (.str (term j))) ∧ oneF j = true ∧ ErrIx X.K c j ∧ XdAt H d [(fieldOf j, v)] ∧ ∀ H', Same H H' → Q v H')
            (pe_callP (X := (cxOf CX0 X.prog X.w X.K X.mg X.base N_caught "_law_caught" (defScope s_caught) g cdg X.A X.stack s H E0).nox.suite a ((a, oe) :: pn)) (p := (a, oe)) (x := "_law_held") G_held hG ⟨(rm.mono (by decide : 1 ≤ 2)).dp, (rm.mono (by decide : 1 ≤ 2)).un⟩ List.mem_cons_self rfl D_held.mg D_held.fn.kp D_held.bd (pa_cons (pv 2) (pa_cons (pv 3) pa_nil))) ?s2) pa_nil)) pa_nil)))))))
      (pss_one (ps_ret (pe_lst (pa_cons pe_str (pa_cons (pe_callB (cr_reprQ (X := (cxOf CX0 X.prog X.w X.K X.mg X.base N_caught "_law_caught" (defScope s_caught) g cdg X.A X.stack s H E0).nox) hG hr.units) (by rfl) T.repr bR (pa_cons (pv 1) pa_nil)) pa_nil))))), ?_⟩
  case b =>
    refine ⟨fun pins s' σ H' D I h' => ?_⟩
    obtain ⟨Ech, hW, h1, h2, h3⟩ := h'
    exact (pss_one (ps_asg (act W pn xe Ech _ _ tk hW) (pg_name (i := 1) sc_caught.nd rfl (.inl rfl)))).run pins s' σ H' D I ⟨h1, h2, h3⟩
  case s1 =>
    rintro σ H Q ⟨j, v, rfl, hs, hj, EX, xd, q⟩
    exact ⟨_, hs, j, d, v, rfl, hj, EX, ⟨hz, hf, xd⟩, q⟩
  case s2 =>
    rintro σ H Q ⟨j, v, rfl, hs, ht, hj, EX, xd, q⟩
    exact ⟨_, hs, _, ht, j, d, v, rfl, hj, EX, ⟨hz, hf, xd⟩, q⟩
  refine ⟨echQ X.K c Q, fun cls d σ' H' z => ?_, rfl, hc, ?_⟩
  · obtain ⟨j, b, v, pd, m, n, rfl, hj, EX, xd, hd, ft, hm, hn, ret⟩ := z
    intro len
    refine ⟨EX.any, fun a na => ?_⟩
    have len : σ'.length = 4 := len
    match σ', len with
    | [x0, x1, x2, x3], _ =>
    refine ⟨j, v, rfl, rfl, oneF_lt hj, EX, xd, fun H1 s1 => ?_⟩
    refine ⟨_, rfl, j, v, rfl, rfl, rfl, hj, EX, xd.same s1, fun H2 s2 => ?_⟩
    have s12 := s1.trans s2
    refine rd_reprQ (hd.same s12) ft hm hn ⟨by show 2 ≤ sizeLine; decide, fun p np => ?_⟩
    exact ret p _ (s12.free np) (s12.trans (same_new np)) upd_same
  · exact h
end L

namespace Hv
open PySem PySem.Spec PyProof.Rows L2
/-- the rule for a def, where no repr is under way; its code object is known -/
theorem okGc {P : Program} {w : World} {K : PySem.W.Frag} {mg : Str → Option Value} {base : Heap} {k : Nat} {f cR : Addr} {fd : FuncData} {ps : List Str} {sp : Sp} {x qual : Str} {st : Stmt} {N : List Str} (F : Fun K x qual st f fd) (S : FnScope N ps (defScope st)) (hcode : fd.code = .ref cR)
    (len : ∀ vs H Q E, sp vs H Q E → vs.length = ps.length)
    (body : ∀ (A : Around) (outer : List Env) (s : Shared) (H : Hp) (vs : List V) (Q : VK) (E : XK), A.guards = some [] → Room k (A.deeper (envOfC qual (defScope st) s.heap.objs.size f (.ref cR))) → sp vs H Q E →
      ∃ t, PSs (cxOf CX0 P w K mg base N qual (defScope st) f (.ref cR) A outer s H E).nox (defBody st) t ∧ t { nx := fun _ H' => Q .non H', rt := Q } (start N vs) H) : OkG P w K mg base CX0 (k + 1) f fd ps sp := by
  obtain ⟨oc, od, kV, doc, pm, an, cdv, ct, osl, rfl, lk, hcd⟩ := F.ex
  cases (show cdv = .ref cR from hcode)
  refine ⟨len, fun A outer s H args us vs Q E hg hr e0 hb r hsp => ?_⟩
  have X := e0.mod.kin.keeps (fun b o e => (e0.bs b o e).1)
  have lim := e0.mod.nolimit.keeps (fun b o e => (e0.bs b o e).1)
  have kinds : ∀ y ∈ ps.zip us, (defScope st).names.lookup y.1 = some .local ∨ ((defScope st).names.lookup y.1 = some .cell ∧ ((cellsFrom (s.heap.objs.size + 1) (defScope st).names []).lookup y.1).isSome = true) := by
    rintro ⟨n, v⟩ hy
    exact (S.par n (List.of_mem_zip hy).1).imp id fun q => ⟨q, PySem.W.cellsFrom_some _ _ _ (Or.inl q)⟩
  apply codeAny_call_function hr.depth (X _ _ lk) rfl S.co S.gen rfl (PySem.W.codeRec_of X hcd)
  apply hb
  refine wpAny_newFunctionEnv_cells S.kind kinds ?_
  rintro env rfl s1 x
  refine ⟨lim.keeps x.toInCall.keep, codeAny_func ?_⟩
  obtain ⟨t, ht, hq⟩ := body A outer s H vs Q E hg (hr.deeper _) hsp
  have I := inv_start (CX := CX0) (E := E) S hr.hd e0 (len _ _ _ _ hsp) r x
  apply wpAny_mono (ht.nox.run [] s1 (start N vs) H _ I hq)
  · intro fl s' hs
    cases fl with
    | ret u => obtain ⟨v, σ', H', J, rv, q⟩ := hs; exact ⟨v, H', J.os, J.bare, J.base, J.hok, rv, q⟩
    | next => obtain ⟨σ', H', J, q⟩ := hs; exact ⟨V.non, H', J.os, J.bare, J.base, J.hok, rfl, q⟩
    | brk => obtain ⟨_, _, _, q⟩ := hs; exact q.elim
    | cont => obtain ⟨_, _, _, q⟩ := hs; exact q.elim
  · exact fun e s' hs => hs
/-! ### all but the tables stays -/
theorem ext_seq {K : PySem.W.Frag} {H H' : Hp} {a : Addr} {xs : List V} (e : LamX.ExtN H H') (h : SqL K H a xs) : SqL K H' a xs := by
  rcases h with (h | ⟨o, h⟩) | h
  · exact .inl (.inl (e _ _ h (by intro ps q; cases q)))
  · exact .inl (.inr ⟨o, e _ _ h (by intro ps q; cases q)⟩)
  · exact .inr h
theorem ext_bag {H H' : Hp} {b : Addr} {n : Nat} (e : LamX.ExtN H H') (h : Bag H b n) : Bag H' b n := by
  obtain ⟨s, d, m, h1, h2⟩ := h
  exact ⟨s, d, m, e _ _ h1 (by intro ps q; cases q), h2⟩
theorem ext_free {H H' : Hp} {a : Addr} (e : LamX.ExtN H H') (h : H' a = none) : H a = none ∨ ∃ ps, H a = some (.tbl ps) := by
  cases q : H a with
  | none => exact .inl rfl
  | some o =>
    by_cases z : ∃ ps, o = .tbl ps
    · obtain ⟨ps, rfl⟩ := z
      exact .inr ⟨ps, rfl⟩
    · rw [e a o q (fun ps w => z ⟨ps, w⟩)] at h
      cases h
mutual
theorem dq_ext {K : PySem.W.Frag} {b : Addr} {H H' : Hp} (e : LamX.ExtN H H') : ∀ {d : PyData} {v : V}, Dq K b H v d → Dq K b H' v d
  | _, _, .non => .non
  | _, _, .bl k => .bl k
  | _, _, .int i => .int i
  | _, _, .str z => .str z
  | _, _, .lst h n t => .lst (e _ _ h (by intro ps q; cases q)) n (dq_extAll e t)
  | _, _, .tup h t => .tup (e _ _ h (by intro ps q; cases q)) (dq_extAll e t)
  | _, _, .emp h => .emp (e _ _ h (by intro ps q; cases q))
theorem dq_extAll {K : PySem.W.Frag} {b : Addr} {H H' : Hp} (e : LamX.ExtN H H') : ∀ {ds : List PyData} {vs : List V}, DqAll K b H vs ds → DqAll K b H' vs ds
  | _, _, .nil => .nil
  | _, _, .cons h t => .cons (dq_ext e h) (dq_extAll e t)
end
/-- all but b and the tables stays -/
def ExtB (b : Addr) (H H' : Hp) : Prop := ∀ a o, a ≠ b → H a = some o → (∀ ps, o ≠ .tbl ps) → H' a = some o
theorem ExtB.of {b : Addr} {H H' : Hp} (e : But b H H') : ExtB b H H' := fun a o n h _ => e a o n h
theorem ExtB.ofN {b : Addr} {H H' : Hp} (e : LamX.ExtN H H') : ExtB b H H' := fun a o _ h n => e a o h n
theorem ExtB.trans {b : Addr} {H H1 H2 : Hp} (x : ExtB b H H1) (y : ExtB b H1 H2) : ExtB b H H2 := fun a o n h z => y a o n (x a o n h z) z
theorem ExtB.seq {b a : Addr} {K : PySem.W.Frag} {H H' : Hp} {xs : List V} (e : ExtB b H H') (n : a ≠ b) (h : SqL K H a xs) : SqL K H' a xs := by
  rcases h with (h | ⟨o, h⟩) | h
  · exact .inl (.inl (e _ _ n h (by intro ps q; cases q)))
  · exact .inl (.inr ⟨o, e _ _ n h (by intro ps q; cases q)⟩)
  · exact .inr h
theorem tabs_but {T : List (Addr × Str)} {H H' : Hp} {b : Addr} {n : Nat} (t : LamX.Tabs T H) (hb : Bag H b n) (e : But b H H') : LamX.Tabs T H' := fun p hp => by
  obtain ⟨s, d, m, hb, _⟩ := hb
  obtain ⟨ps, h1, h2, h3⟩ := t p hp
  have nb : p.1 ≠ b := ne_of h1 hb (by intro q; cases q)
  refine ⟨ps, e _ _ nb h1, h2, fun pos cv hc => ?_⟩
  obtain ⟨c, e1, e2⟩ := h3 pos cv hc
  exact ⟨c, e1, e _ _ (ne_of e2 hb (by intro q; unfold LamX.CodeO at q; cases q)) e2⟩
theorem tabs_nil {T : List (Addr × Str)} {H : Hp} (h : ∀ p ∈ T, H p.1 = some (.tbl #[])) : LamX.Tabs T H := fun p hp => LamX.TabS.nil (h p hp)
end Hv
namespace L
open PySem PySem.Spec PyProof.Rows L2 Hv
/-- _law_caught(lambda: body) -/
theorem pe_caught {X : Cx} {c : Nat → Addr} {g f1 f2 cR PR : Addr} {fdg fd1 fd2 : FuncData} {k : Nat} {Tb : List (Addr × Str)} {params : Arguments} {body : Expr} {scope : Scope} {t : XK → TE} {p lpos pos : Pos} (hX : Room (k + 4) X.A) (hG : X.A.guards = some []) (T : Txt X.K X.mg) (EN : ErrNames X.mg c)
    (D_caught : DefAt X.K X.mg "_law_caught" s_caught P_caught g fdg) (D_sort : DefAt X.K X.mg "_law_sort" s_sort P_sort f1 fd1) (G_sort : FnP X.prog X.w X.K X.mg X.base 2 f1 fd1 P_sort (sp_sort X.K c))
    (D_held : DefAt X.K X.mg "_law_held" s_held P_held f2 fd2) (G_held : FnP X.prog X.w X.K X.mg X.base 1 f2 fd2 P_held (sp_held X.K c)) (hg : Gl X "_law_caught")
    (TB : LamX.TabB X.base X.mg cR PR) (hcode : X.env.code = .ref cR) (hmT : (PR, X.env.qual ++ "<lambda>") ∈ Tb) (hu : ∀ p ∈ Tb, p.1 = PR → p.2 = X.env.qual ++ "<lambda>") (L : LamX.LamS X.env.scope scope) (hdef : defaultsOf params X.env = ([], []))
    (hbind : ∀ (q : Str) (cl : List (Str × Addr)) (pm cv ctv : Value), bindArgs (PySem.W.kla_fn "<lambda>" q params body scope cl pm cv ctv) ⟨[], []⟩ = pure [])
    (hbody : ∀ (A : Around) (outer : List Env) (s : Shared) (H : Hp) (E : XK) (f c' : Addr), Room k (A.deeper (LamX.lamEnv X scope s.heap.objs.size f c')) → PE (LamX.lamCx X A outer s H E scope f c') body (t E)) :
    PE X (.Call (.Name "_law_caught" p) [.Lambda params body scope lpos] [] pos) (LamX.tLam Tb (TCaught X.K c) t) := by
  obtain ⟨oc, od, kV, doc, pm, an, cdv, ct, osl, hfd, lk, hcd⟩ := D_caught.fn.ex
  subst hfd
  exact LamX.pe_lamcall hg D_caught.mg D_caught.fn.kp lk hcd D_caught.bd sc_caught rfl (.inl rfl) (caught_gives (hX.mono (by omega)) hG T EN D_sort G_sort D_held G_held) TB hcode hmT hu (hX.mono (by omega)) L hdef hbind hbody
end L

namespace Hv
open PySem L2 SlX
/-- what a length is made of -/
inductive W where
  | num (n : Nat) | endless | dead
  deriving DecidableEq
def W.v : W → V
  | .num n => .int (n : Int)
  | .endless => .str "endless"
  | .dead => .str "dead"
def W.rank : W → Nat
  | .num _ => 0
  | .endless => 1
  | .dead => 2
def W.cnt : W → Nat
  | .num n => n
  | _ => 0
def W.word : W → Str
  | .num _ => "steps"
  | .endless => "endless"
  | .dead => "dead"
def W.steps : W → V
  | .num n => .int (n : Int)
  | _ => .non
def W.add : W → W → W
  | .dead, _ => .dead
  | _, .dead => .dead
  | .endless, _ => .endless
  | _, .endless => .endless
  | .num a, .num b => .num (a + b)
def W.le (a b : W) : Bool := decide (a.rank < b.rank) || (decide (a.rank = b.rank) && decide (a.cnt ≤ b.cnt))
theorem W.eq_iff (a b : W) : a = b ↔ a.rank = b.rank ∧ a.cnt = b.cnt := by
  cases a <;> cases b <;> simp [W.rank, W.cnt]
theorem W.add_comm (a b : W) : a.add b = b.add a := by
  cases a <;> cases b <;> simp [W.add, Nat.add_comm]
theorem W.add_assoc (a b c : W) : (a.add b).add c = a.add (b.add c) := by
  cases a <;> cases b <;> cases c <;> simp [W.add, Nat.add_assoc]
theorem W.add_zero (a : W) : a.add (.num 0) = a := by
  cases a <;> simp [W.add]
theorem W.le_add (a b : W) : a.le (a.add b) = true := by
  cases a <;> cases b <;> simp [W.le, W.add, W.rank, W.cnt]
theorem W.add_mono (a b c : W) (h : a.le b = true) : (a.add c).le (b.add c) = true := by
  cases a <;> cases b <;> cases c <;> simp_all [W.le, W.add, W.rank, W.cnt] <;> exact of_decide_eq_true h
/-- an instance of Length at a, made of w -/
def LenAt (C : Addr) (H : Hp) (a : Addr) (w : W) : Prop := ∃ dx pt, Slt H a C dx [some (.ref pt)] ∧ H pt = some (.tup [.int (w.rank : Int), .int (w.cnt : Int)])
theorem slt_same {H H' : Hp} {a C dx : Addr} {vs : List (Option V)} (h : Slt H a C dx vs) (e : Same H H') : Slt H' a C dx vs := by
  rcases h with ⟨h1, h2⟩ | ⟨h1, h2⟩
  · exact .inl ⟨e _ _ h1, h2⟩
  · exact .inr ⟨e _ _ h1, e _ _ h2⟩
theorem LenAt.same {C : Addr} {H H' : Hp} {a : Addr} {w : W} (h : LenAt C H a w) (e : Same H H') : LenAt C H' a w := by
  obtain ⟨dx, pt, h1, h2⟩ := h
  exact ⟨dx, pt, slt_same h1 e, e _ _ h2⟩
theorem LenAt.slt {C : Addr} {H : Hp} {a : Addr} {w : W} (h : LenAt C H a w) : ∃ dx vs, Slt H a C dx vs := let ⟨dx, _, h1, _⟩ := h; ⟨dx, _, h1⟩
/-! promises -/
def sp_len_init (C : Addr) : Sp := fun vs H Q _ => ∃ (x dx : Addr) (w : W), vs = [.ref x, w.v] ∧ H x = some (.ins C dx []) ∧ H dx = some (.own x) ∧ dx ≠ x ∧
  ∀ H', (∀ b o, b ≠ x → b ≠ dx → H b = some o → H' b = some o) → LenAt C H' x w → Q .non H'
def sp_len_steps (C : Addr) : Sp := fun vs H Q _ => ∃ (a : Addr) (w : W), vs = [.ref a] ∧ LenAt C H a w ∧ Q w.steps H
def sp_len_word (C : Addr) : Sp := fun vs H Q _ => ∃ (a : Addr) (w : W), vs = [.ref a] ∧ LenAt C H a w ∧ ∀ H', Same H H' → Q (.str w.word) H'
def sp_len_eq (C : Addr) : Sp := fun vs H Q _ => ∃ (a b : Addr) (v w : W), vs = [.ref a, .ref b] ∧ LenAt C H a v ∧ LenAt C H b w ∧ Q (.bl (decide (v = w))) H
def sp_len_le (C : Addr) : Sp := fun vs H Q _ => ∃ (a b : Addr) (v w : W), vs = [.ref a, .ref b] ∧ LenAt C H a v ∧ LenAt C H b w ∧ Q (.bl (v.le w)) H
/-- the second summand: a length, or an integer from 0 on -/
def Summand (C : Addr) (H : Hp) (y : V) (w : W) : Prop := (∃ b, y = .ref b ∧ LenAt C H b w) ∨ ∃ n : Nat, y = .int (n : Int) ∧ w = .num n
def sp_len_add (C : Addr) : Sp := fun vs H Q _ => ∃ (a : Addr) (y : V) (v w : W), vs = [.ref a, y] ∧ LenAt C H a v ∧ Summand C H y w ∧
  ∀ p H', H p = none → Same H H' → LenAt C H' p (v.add w) → Q (.ref p) H'
def W.text : W → Str
  | .num n => Str.ofString (toString ((n : Nat) : Int))
  | .endless => "endless"
  | .dead => "dead"
def sp_len_str (C : Addr) : Sp := fun vs H Q _ => ∃ (a : Addr) (w : W), vs = [.ref a] ∧ LenAt C H a w ∧ w.cnt < 2 ^ 1900 ∧ ∀ H', Same H H' → Q (.str w.text) H'
end Hv
namespace L
open PySem L2 Hv SlX
structure LenTxt (K : PySem.W.Frag) (mg : Str → Option Value) (C f g : Addr) : Prop where
  mg : mg "Length" = some (.ref C)
  sc : SCls K C
  sl : ∃ p, Slot1 K C "place" p 0
  si : SIsi K C
  k1 : PySem.W.kitOne K (.ref C) (.ref C) = some true
  k2 : PySem.W.kitOne K (.type "int") (.ref C) = some false
  nf : PySem.W.notFirst K C (.ref C) = true
  ad : AddO K C f g
variable {P : Program} {w : World} {K : PySem.W.Frag} {mg : Str → Option Value} {base : Heap}
abbrev s_is_integer : Stmt := top 36
abbrev N_is_integer : List Str := ["value"]
abbrev P_is_integer : List Str := ["value"]
theorem sc_is_integer : FnScope N_is_integer P_is_integer (defScope s_is_integer) := ⟨rfl, rfl, rfl, by decide +kernel, rfl, by decide +kernel, by decide +kernel⟩
theorem ok_is_integer {f : Addr} {fd : FuncData} (D : DefAt K mg "is_integer" s_is_integer P_is_integer f fd) (T : Txt K mg) : FnOk P w K mg base CX0 1 f fd P_is_integer (sp_is_integer K) := by
  refine D.fn.ok sc_is_integer (fun vs H Q E h => ?_) (fun cdv A outer s H vs Q E hr h => ?_)
  · obtain ⟨v, t, b1, b2, rfl, _⟩ := h
    rfl
  · obtain ⟨v, t, b1, b2, rfl, ty, k1, k2, ret⟩ := h
    refine ⟨_, (pss_one (ps_ret (pe_and (pe_callB call_isi (by rfl) T.isinstance (by decide +kernel) (pa_cons (pv 0) (pa_cons (pe_bltn (v := .ty "int") (u := .type "int") (by rfl) T.int (by decide +kernel) rfl) pa_nil))) (pe_one (pe_not (pe_callB call_isi (by rfl) T.isinstance (by decide +kernel) (pa_cons (pv 0) (pa_cons (pe_bltn (v := .ty "bool") (u := .type "bool") (by rfl) T.bool (by decide +kernel) rfl) pa_nil)))))))), ?_⟩
    refine ⟨_, rfl, _, _, _, _, _, rfl, .ty _, ty, k1, _, rfl, ?_⟩
    cases b1 with
    | true => exact iteT ⟨_, rfl, _, _, _, _, _, rfl, .ty _, ty, k2, _, rfl, ret⟩
    | false => exact iteF ret

abbrev s_Length_init : Stmt := inClass (top 38) 1
abbrev N_Length_init : List Str := ["self", "value"]
abbrev P_Length_init : List Str := ["self", "value"]
theorem sc_Length_init : FnScope N_Length_init P_Length_init (defScope s_Length_init) := ⟨rfl, rfl, rfl, by decide +kernel, rfl, by decide +kernel, by decide +kernel⟩
theorem ok_Len_init {C fa ga f f1 : Addr} {fd fd1 : FuncData} (D : MethAt K C "__init__" "Length.__init__" s_Length_init P_Length_init f fd) (T : Txt K mg) (TL : LenTxt K mg C fa ga)
    (D_is_integer : DefAt K mg "is_integer" s_is_integer P_is_integer f1 fd1) : FnOk P w K mg base CX0 2 f fd P_Length_init (sp_len_init C) := by
  have G_is_integer : FnOk P w K mg base CX0 1 f1 fd1 P_is_integer (sp_is_integer K) := ok_is_integer D_is_integer T
  refine D.fn.ok sc_Length_init (fun vs H Q E h => ?_) (fun cdv A outer s H vs Q E hr h => ?_)
  · obtain ⟨x, dx, w, rfl, _⟩ := h
    rfl
  · obtain ⟨x, dx, w, rfl, hx, hd, nd, ret⟩ := h
    obtain ⟨ps, hp⟩ := TL.sl
    refine ⟨_, (pss_one (ps_if (PW.pt (pw_and (pt_val (pe_call G_is_integer (hr.mono (by decide)) rfl D_is_integer.mg D_is_integer.fn.kp D_is_integer.bd .nil pass0 (pa_cons (pv 1) pa_nil))) (pw_and1 (pt_cmpR op_ge (pv 1) pe_int (nomark _)))))
      (pss_one (ps_sl (pv 0) (pe_tup (pa_cons pe_int (pa_cons (pv 1) pa_nil)))))
      (pss_one (ps_if (PW.pt (pw_and (pt_val (pe_callB call_isi (by rfl) T.isinstance (by decide +kernel) (pa_cons (pv 1) (pa_cons (pe_bltn (v := .ty "str") (u := .type "str") (by rfl) T.str (by decide +kernel) rfl) pa_nil)))) (pw_and1 (pt_cmpR op_in_seq (pv 1) (pe_tup (pa_cons pe_str (pa_cons pe_str pa_nil))) (by rfl)))))
      (pss_one (ps_sl (pv 0) (pe_tup (pa_cons (pe_ifExp (pt_cmpR op_eq (pv 1) pe_str (nomark _)) pe_int pe_int) (pa_cons pe_int pa_nil)))))
      (pss_one ps_never))))), ?_⟩
    -- the slot is filled with the new tuple at p
    have fin : ∀ (H1 : Hp) (p : Addr) (i j : Int), Same H H1 → H1 p = none → i = w.rank → j = w.cnt →
        Q .non (slH (upd H1 p (.tup [.int i, .int j])) x C dx (putS 0 (.ref p) [])) := by
      intro H1 p i j sm hp0 hi hj
      have px : p ≠ x := (ne_of_none (sm _ _ hx) hp0).symm
      have pd : p ≠ dx := (ne_of_none (sm _ _ hd) hp0).symm
      refine ret _ (fun b o n1 n2 e => ?_) ⟨dx, p, slH_slt nd, ?_⟩
      · rw [slH_ne n1 n2, upd_ne (ne_of_none (sm _ _ e) hp0)]
        exact sm _ _ e
      · rw [slH_ne px pd, upd_same, hi, hj]
    have slt : ∀ (H1 : Hp) (p : Addr) (o : HO), Same H H1 → H1 p = none → Slt (upd H1 p o) x C dx [] := fun H1 p o sm hp0 =>
      .inl ⟨same_new hp0 _ _ (sm _ _ hx), rfl⟩
    cases w with
    | num n =>
      refine ⟨_, rfl, _, _, true, false, rfl, .base (.int _), kit_ty (by decide +kernel), kit_ty (by decide +kernel), _, rfl, ?_⟩
      refine ⟨_, rfl, _, _, rfl, rfl, _, rfl, ifT (by omega) ?_⟩
      refine ⟨_, rfl, by show 2 ≤ sizeLine; decide, fun p hp0 => ?_⟩
      exact ⟨_, rfl, x, C, dx, ps, [], 0, rfl, slt H p _ (Same.refl H) hp0, TL.sc, hp, fin H p _ _ (Same.refl H) hp0 rfl rfl⟩
    | endless =>
      refine ⟨_, rfl, _, _, false, false, rfl, .base (.str _), kit_ty (by decide +kernel), kit_ty (by decide +kernel), _, rfl, ?_⟩
      refine ⟨_, rfl, _, _, _, _, _, rfl, .ty _, .base (.str _), kit_ty (r := true) (by decide +kernel), _, rfl, ?_⟩
      refine ⟨_, rfl, by decide, fun t ht => ⟨_, _, rfl, .inr (SqT.of upd_same), rfl, rfl, _, rfl, ?_⟩⟩
      refine ite2 (fun _ => ?_) (fun q => absurd (by decide +kernel) q)
      refine ⟨_, rfl, rfl, _, rfl, ?_⟩
      refine ifT rfl ⟨by decide, fun p hp0 => ?_⟩
      exact ⟨_, rfl, x, C, dx, ps, [], 0, rfl, slt _ p _ (same_new ht) hp0, TL.sc, hp, fin _ p _ _ (same_new ht) hp0 rfl rfl⟩
    | dead =>
      refine ⟨_, rfl, _, _, false, false, rfl, .base (.str _), kit_ty (by decide +kernel), kit_ty (by decide +kernel), _, rfl, ?_⟩
      refine ⟨_, rfl, _, _, _, _, _, rfl, .ty _, .base (.str _), kit_ty (r := true) (by decide +kernel), _, rfl, ?_⟩
      refine ⟨_, rfl, by decide, fun t ht => ⟨_, _, rfl, .inr (SqT.of upd_same), rfl, rfl, _, rfl, ?_⟩⟩
      refine ite2 (fun _ => ?_) (fun q => absurd (by decide +kernel) q)
      refine ⟨_, rfl, rfl, _, rfl, ?_⟩
      refine ifF (by decide +kernel) ⟨by decide, fun p hp0 => ?_⟩
      exact ⟨_, rfl, x, C, dx, ps, [], 0, rfl, slt _ p _ (same_new ht) hp0, TL.sc, hp, fin _ p _ _ (same_new ht) hp0 rfl rfl⟩
abbrev s_Length_steps : Stmt := inClass (top 38) 2
abbrev N_Length_steps : List Str := ["self"]
abbrev P_Length_steps : List Str := ["self"]
theorem sc_Length_steps : FnScope N_Length_steps P_Length_steps (defScope s_Length_steps) := ⟨rfl, rfl, rfl, by decide +kernel, rfl, by decide +kernel, by decide +kernel⟩
theorem ok_Len_steps {C fa ga f : Addr} {fd : FuncData} (D : PropAt K C "steps" "Length.steps" s_Length_steps P_Length_steps f fd) (TL : LenTxt K mg C fa ga) : FnOk P w K mg base CX0 1 f fd P_Length_steps (sp_len_steps C) := by
  refine D.fn.ok sc_Length_steps (fun vs H Q E h => ?_) (fun cdv A outer s H vs Q E hr h => ?_)
  · obtain ⟨a, w, rfl, _⟩ := h
    rfl
  · obtain ⟨a, w, rfl, ⟨dx, pt, hs, hpt⟩, ret⟩ := h
    obtain ⟨ps, hp⟩ := TL.sl
    refine ⟨_, (pss_one (ps_ret (pe_ifExp (pt_cmpR op_eq (pe_ix ix_tup (pe_sl (pv 0)) pe_int (fun _ _ => rfl)) pe_int (nomark _)) (pe_ix ix_tup (pe_sl (pv 0)) pe_int (fun _ _ => rfl)) pe_non))), ?_⟩
    refine ⟨_, rfl, a, C, dx, ps, _, 0, _, rfl, hs, TL.sc, hp, rfl, _, _, _, _, rfl, rfl, SqT.of hpt, rfl, rfl, _, rfl, ?_⟩
    cases w with
    | num n => exact ifT rfl ⟨_, rfl, a, C, dx, ps, _, 0, _, rfl, hs, TL.sc, hp, rfl, _, _, _, _, rfl, rfl, SqT.of hpt, rfl, ret⟩
    | endless => exact ifF (by intro q; cases q) ret
    | dead => exact ifF (by intro q; cases q) ret
abbrev s_Length_word : Stmt := inClass (top 38) 3
abbrev N_Length_word : List Str := ["self"]
abbrev P_Length_word : List Str := ["self"]
theorem sc_Length_word : FnScope N_Length_word P_Length_word (defScope s_Length_word) := ⟨rfl, rfl, rfl, by decide +kernel, rfl, by decide +kernel, by decide +kernel⟩
theorem ok_Len_word {C fa ga f : Addr} {fd : FuncData} (D : PropAt K C "word" "Length.word" s_Length_word P_Length_word f fd) (TL : LenTxt K mg C fa ga) : FnOk P w K mg base CX0 1 f fd P_Length_word (sp_len_word C) := by
  refine D.fn.ok sc_Length_word (fun vs H Q E h => ?_) (fun cdv A outer s H vs Q E hr h => ?_)
  · obtain ⟨a, w, rfl, _⟩ := h
    rfl
  · obtain ⟨a, w, rfl, ⟨dx, pt, hs, hpt⟩, ret⟩ := h
    obtain ⟨ps, hp⟩ := TL.sl
    refine ⟨_, (pss_one (ps_ret (pe_ix ix_tup (pe_tup (pa_cons pe_str (pa_cons pe_str (pa_cons pe_str pa_nil)))) (pe_ix ix_tup (pe_sl (pv 0)) pe_int (fun _ _ => rfl)) (fun _ _ => rfl)))), ?_⟩
    refine ⟨by decide, fun t ht => ?_⟩
    have sm : Same H (upd H t (.tup [.str "steps", .str "endless", .str "dead"])) := same_new ht
    refine ⟨_, rfl, a, C, dx, ps, _, 0, _, rfl, slt_same hs sm, TL.sc, hp, rfl, _, _, _, _, rfl, rfl, SqT.of (sm _ _ hpt), rfl, ?_⟩
    cases w with
    | num n => exact ⟨_, _, _, _, rfl, rfl, SqT.of upd_same, rfl, ret _ sm⟩
    | endless => exact ⟨_, _, _, _, rfl, rfl, SqT.of upd_same, rfl, ret _ sm⟩
    | dead => exact ⟨_, _, _, _, rfl, rfl, SqT.of upd_same, rfl, ret _ sm⟩
abbrev s_Length_eq : Stmt := inClass (top 38) 4
abbrev N_Length_eq : List Str := ["self", "other"]
abbrev P_Length_eq : List Str := ["self", "other"]
theorem sc_Length_eq : FnScope N_Length_eq P_Length_eq (defScope s_Length_eq) := ⟨rfl, rfl, rfl, by decide +kernel, rfl, by decide +kernel, by decide +kernel⟩
theorem ok_Len_eq {C fa ga f : Addr} {fd : FuncData} (D : MethAt K C "__eq__" "Length.__eq__" s_Length_eq P_Length_eq f fd) (T : Txt K mg) (TL : LenTxt K mg C fa ga) : FnOk P w K mg base CX0 1 f fd P_Length_eq (sp_len_eq C) := by
  refine D.fn.ok sc_Length_eq (fun vs H Q E h => ?_) (fun cdv A outer s H vs Q E hr h => ?_)
  · obtain ⟨a, b, v, w, rfl, _⟩ := h
    rfl
  · obtain ⟨a, b, v, w, rfl, ⟨dx, pt, hs, hpt⟩, ⟨dy, qt, hs2, hqt⟩, ret⟩ := h
    obtain ⟨ps, hp⟩ := TL.sl
    refine ⟨_, (pss_one (ps_ret (pe_and (pe_callB (call_isiSl (.ref C)) (by rfl) T.isinstance (by decide +kernel) (pa_cons (pv 1) (pa_cons (pe_glob (v := .ref C) rfl TL.mg rfl) pa_nil))) (pe_one (pe_cmpR (op_eqD hr.units) (pe_sl (pv 0)) (pe_sl (pv 1)) (nomark _)))))), ?_⟩
    refine ⟨_, rfl, b, C, dy, _, _, true, rfl, rfl, fun _ q => q, hs2, TL.sc, TL.si, TL.k1, _, rfl, ?_⟩
    refine ⟨_, rfl, a, C, dx, ps, _, 0, _, rfl, hs, TL.sc, hp, rfl, _, rfl, b, C, dy, ps, _, 0, _, rfl, hs2, TL.sc, hp, rfl,
      .tuple [.int v.rank, .int v.cnt], .tuple [.int w.rank, .int w.cnt], .tup (SqT.of hpt) (.cons (.int _) (.cons (.int _) .nil)), .tup (SqT.of hqt) (.cons (.int _) (.cons (.int _) .nil)), rfl, rfl, ?_⟩
    have e : PyData.eqv (.tuple [.int v.rank, .int v.cnt]) (.tuple [.int w.rank, .int w.cnt]) = decide (v = w) := by
      rw [Bool.eq_iff_iff, decide_eq_true_iff, W.eq_iff]
      simp [PyData.eqv, PyData.eqvAll]
      omega
    rw [e]
    exact ret
abbrev s_Length_le : Stmt := inClass (top 38) 6
abbrev N_Length_le : List Str := ["self", "other"]
abbrev P_Length_le : List Str := ["self", "other"]
theorem sc_Length_le : FnScope N_Length_le P_Length_le (defScope s_Length_le) := ⟨rfl, rfl, rfl, by decide +kernel, rfl, by decide +kernel, by decide +kernel⟩
theorem ok_Len_le {C fa ga f : Addr} {fd : FuncData} (D : MethAt K C "__le__" "Length.__le__" s_Length_le P_Length_le f fd) (T : Txt K mg) (TL : LenTxt K mg C fa ga) : FnOk P w K mg base CX0 1 f fd P_Length_le (sp_len_le C) := by
  refine D.fn.ok sc_Length_le (fun vs H Q E h => ?_) (fun cdv A outer s H vs Q E hr h => ?_)
  · obtain ⟨a, b, v, w, rfl, _⟩ := h
    rfl
  · obtain ⟨a, b, v, w, rfl, ⟨dx, pt, hs, hpt⟩, ⟨dy, qt, hs2, hqt⟩, ret⟩ := h
    obtain ⟨ps, hp⟩ := TL.sl
    refine ⟨_, (pss_cons (ps_if (pt_not (pt_val (pe_callB (call_isiSl (.ref C)) (by rfl) T.isinstance (by decide +kernel) (pa_cons (pv 1) (pa_cons (pe_glob (v := .ref C) rfl TL.mg rfl) pa_nil)))))
      (pss_one ps_never)
      pss_nil)
      (pss_one (ps_ret (pe_cmpR (op_leT hr.units0) (pe_sl (pv 0)) (pe_sl (pv 1)) (nomark _))))), ?_⟩
    refine ⟨_, rfl, b, C, dy, _, _, true, rfl, rfl, fun _ q => q, hs2, TL.sc, TL.si, TL.k1, _, rfl, ?_⟩
    refine ⟨_, rfl, a, C, dx, ps, _, 0, _, rfl, hs, TL.sc, hp, rfl, _, rfl, b, C, dy, ps, _, 0, _, rfl, hs2, TL.sc, hp, rfl, ?_⟩
    refine ⟨pt, qt, [(v.rank : Int), (v.cnt : Int)], [(w.rank : Int), (w.cnt : Int)], rfl, rfl, SqT.of hpt, SqT.of hqt, ?_⟩
    have e : Ob.lexAt (fun j => decide ([(v.rank : Int), (v.cnt : Int)].getD j 0 = [(w.rank : Int), (w.cnt : Int)].getD j 0)) (fun j => decide ([(v.rank : Int), (v.cnt : Int)].getD j 0 ≤ [(w.rank : Int), (w.cnt : Int)].getD j 0)) (decide (2 ≤ 2)) 0 2 = v.le w := by
      simp only [Ob.lexAt, List.getD_cons_zero, List.getD_cons_succ, W.le]
      by_cases h1 : v.rank = w.rank
      · by_cases h2 : v.cnt = w.cnt
        · simp [h1, h2]
        · have h3 : ¬ ((v.cnt : Int) = (w.cnt : Int)) := by omega
          simp [h1, h3]
      · have h3 : ¬ ((v.rank : Int) = (w.rank : Int)) := by omega
        rw [if_neg (by simpa using h3), decide_eq_false h1, Bool.false_and, Bool.or_false]
        exact decide_eq_decide.mpr ⟨fun _ => by omega, fun _ => by omega⟩
    exact e ▸ ret
abbrev s_Length_add : Stmt := inClass (top 38) 9
abbrev N_Length_add : List Str := ["self", "other", "rank", "steps"]
abbrev P_Length_add : List Str := ["self", "other"]
theorem sc_Length_add : FnScope N_Length_add P_Length_add (defScope s_Length_add) := ⟨rfl, rfl, rfl, by decide +kernel, rfl, by decide +kernel, by decide +kernel⟩
theorem ok_Len_add {C fa ga f f1 : Addr} {fd fd1 : FuncData} (D : MethAt K C "__add__" "Length.__add__" s_Length_add P_Length_add f fd) (T : Txt K mg) (TL : LenTxt K mg C fa ga) (M_Len : Mk K C f1)
    (D_Len_init : MethAt K C "__init__" "Length.__init__" s_Length_init P_Length_init f1 fd1) (G_Len_init : FnOk P w K mg base CX0 2 f1 fd1 P_Length_init (sp_len_init C)) : FnOk P w K mg base CX0 4 f fd P_Length_add (sp_len_add C) := by
  refine D.fn.ok sc_Length_add (fun vs H Q E h => ?_) (fun cdv A outer s H vs Q E hr h => ?_)
  · obtain ⟨a, y, v, w, rfl, _⟩ := h
    rfl
  · obtain ⟨a, y, v, w, rfl, hv, hw, ret⟩ := h
    obtain ⟨ps, hp⟩ := TL.sl
    refine ⟨_, (pss_cons (ps_asg (pe_ifExp (pt_val (pe_callB (callR_or (call_isiSl (.ref C)) call_isi) (by rfl) T.isinstance (by decide +kernel) (pa_cons (pv 1) (pa_cons (pe_glob (v := .ref C) rfl TL.mg rfl) pa_nil)))) (pe_sl (pv 1)) (pe_tup (pa_cons pe_int (pa_cons (pv 1) pa_nil)))) (pg_tup (by rfl) (pgs_cons (pg_name (i := 2) sc_Length_add.nd rfl (.inl rfl)) (pgs_cons (pg_name (i := 3) sc_Length_add.nd rfl (.inl rfl)) pgs_nil))))
      (pss_cons (ps_if (PW.pt (pw_and (pt_cmpR op_eq (pv 2) pe_int (nomark _)) (pw_and1 (pt_cmpR op_eq (pe_ix ix_tup (pe_sl (pv 0)) pe_int (fun _ _ => rfl)) pe_int (nomark _)))))
      (pss_one (ps_ret (pe_make M_Len G_Len_init (hr.mono (by decide)) rfl TL.mg D_Len_init.bd .nil pass0 (pa_cons (pe_op op_add (pe_ix ix_tup (pe_sl (pv 0)) pe_int (fun _ _ => rfl)) (pv 3)) pa_nil))))
      pss_nil)
      (pss_one (ps_ret (pe_make M_Len G_Len_init (hr.mono (by decide)) rfl TL.mg D_Len_init.bd .nil pass0 (pa_cons (pe_ifExp (pt_cmpR op_in_seq pe_int (pe_tup (pa_cons (pv 2) (pa_cons (pe_ix ix_tup (pe_sl (pv 0)) pe_int (fun _ _ => rfl)) pa_nil))) (by rfl)) pe_str pe_str) pa_nil)))))), ?_⟩
    -- a new length of z, made where H1 stands
    have made : ∀ (z : W) (H1 : Hp), Same H H1 → z = v.add w → ∀ x dx, H1 x = none → H1 dx = none → dx ≠ x →
        sp_len_init C [.ref x, z.v] (upd (upd H1 dx (.own x)) x (.ins C dx [])) (fun v H2 => v = .non ∧ Q (.ref x) H2) E0 := by
      intro z H1 sm hz x dx nx nd ne
      refine ⟨x, dx, z, rfl, upd_same, by rw [upd_ne ne, upd_same], ne, fun H2 keep hl => ⟨rfl, ?_⟩⟩
      refine ret x H2 (sm.free nx) (fun b o e => ?_) (by rw [← hz]; exact hl)
      have e1 := sm _ _ e
      have b1 := ne_of_none e1 nx
      have b2 := ne_of_none e1 nd
      exact keep b o b1 b2 (by rw [upd_ne b1, upd_ne b2]; exact e1)
    obtain ⟨dx, pt, hs, hpt⟩ := hv
    refine join_asg (fun u H' => ∃ t, u = .ref t ∧ H' t = some (.tup [.int (w.rank : Int), .int (w.cnt : Int)]) ∧ Same H H') (fun Q' fin => ?_) ?_
    · rcases hw with ⟨b, rfl, dy, qt, hs2, hqt⟩ | ⟨n, rfl, rfl⟩
      · exact ⟨_, rfl, .inl ⟨b, C, dy, _, .ref C, true, rfl, rfl, fun _ q => q, hs2, TL.sc, TL.si, TL.k1, _, rfl, _, rfl, b, C, dy, ps, _, 0, _, rfl, hs2, TL.sc, hp, rfl, fin _ _ ⟨qt, rfl, hqt, Same.refl H⟩⟩⟩
      · exact ⟨_, rfl, .inr ⟨_, _, _, _, false, rfl, .own C, .base (.int _), TL.k2, _, rfl, _, rfl, by show 2 ≤ sizeLine; decide, fun t ht => fin _ _ ⟨t, rfl, upd_same, same_new ht⟩⟩⟩
    rintro _ H1 ⟨t, rfl, ht, sm⟩
    have hs1 := slt_same hs sm
    have hpt1 := sm _ _ hpt
    refine ⟨t, _, rfl, SqT.of ht, rfl, _, _, rfl, _, _, rfl, rfl, ?_⟩
    refine ⟨_, rfl, rfl, _, rfl, ?_⟩
    -- no number of steps: dead or endless
    have other : ∀ z : W, z = v.add w → (z = .dead ∧ inV (.int 2) [.int (w.rank : Int), .int (v.rank : Int)] = true ∨ z = .endless ∧ inV (.int 2) [.int (w.rank : Int), .int (v.rank : Int)] = false) →
        tRet (tMake C (sp_len_init C) [] E0 (tCons (tIf (tTest (tOp (rIn K false) (tC (.int 2)) (tTup (tCons (tVar 2) (tCons (tOp (rIxT K) (SlX.tSl K (tVar 0) "place") (tC (.int 0))) tNil))))) (tC (.str "dead")) (tC (.str "endless"))) tNil))
          { nx := fun _ H' => Q .non H', rt := Q } [some (.ref a), some y, some (.int (w.rank : Int)), some (.int (w.cnt : Int))] H1 := by
      intro z hz hc
      refine ⟨_, rfl, _, rfl, a, C, dx, ps, _, 0, _, rfl, hs1, TL.sc, hp, rfl, _, _, _, _, rfl, rfl, SqT.of hpt1, rfl, by show 2 ≤ sizeLine; decide, fun u hu => ?_⟩
      refine ⟨_, _, rfl, .inr (SqT.of upd_same), rfl, rfl, _, rfl, ?_⟩
      rcases hc with ⟨rfl, h2⟩ | ⟨rfl, h2⟩
      · show (if inV (.int 2) [.int (w.rank : Int), .int (v.rank : Int)] = true then _ else _)
        rw [h2]
        exact made .dead _ (sm.trans (same_new hu)) hz
      · show (if inV (.int 2) [.int (w.rank : Int), .int (v.rank : Int)] = true then _ else _)
        rw [h2]
        exact made .endless _ (sm.trans (same_new hu)) hz
    cases w with
    | num m =>
      refine ifT rfl ⟨_, rfl, a, C, dx, ps, _, 0, _, rfl, hs1, TL.sc, hp, rfl, _, _, _, _, rfl, rfl, SqT.of hpt1, rfl, rfl, _, rfl, ?_⟩
      cases v with
      | num n => exact ifT rfl ⟨_, rfl, a, C, dx, ps, _, 0, _, rfl, hs1, TL.sc, hp, rfl, _, _, _, _, rfl, rfl, SqT.of hpt1, rfl, _, rfl, _, _, rfl, rfl, made (.num (n + m)) H1 sm rfl⟩
      | endless => exact ifF (by intro q; cases q) (other .endless rfl (.inr ⟨rfl, by rfl⟩))
      | dead => exact ifF (by intro q; cases q) (other .dead rfl (.inl ⟨rfl, by rfl⟩))
    | endless => cases v with
      | num n => exact ifF (by intro q; cases q) (other .endless rfl (.inr ⟨rfl, by rfl⟩))
      | endless => exact ifF (by intro q; cases q) (other .endless rfl (.inr ⟨rfl, by rfl⟩))
      | dead => exact ifF (by intro q; cases q) (other .dead rfl (.inl ⟨rfl, by rfl⟩))
    | dead => cases v with
      | num n => exact ifF (by intro q; cases q) (other .dead rfl (.inl ⟨rfl, by rfl⟩))
      | endless => exact ifF (by intro q; cases q) (other .dead rfl (.inl ⟨rfl, by rfl⟩))
      | dead => exact ifF (by intro q; cases q) (other .dead rfl (.inl ⟨rfl, by rfl⟩))
abbrev s_Length_radd : Stmt := inClass (top 38) 10
abbrev N_Length_radd : List Str := ["self", "other"]
abbrev P_Length_radd : List Str := ["self", "other"]
theorem sc_Length_radd : FnScope N_Length_radd P_Length_radd (defScope s_Length_radd) := ⟨rfl, rfl, rfl, by decide +kernel, rfl, by decide +kernel, by decide +kernel⟩
theorem ok_Len_radd {C fa ga f : Addr} {fd : FuncData} (D : MethAt K C "__radd__" "Length.__radd__" s_Length_radd P_Length_radd f fd) (TL : LenTxt K mg C fa ga)
    (R_Len_add : FnR P w K mg base CX0 4 fa (sp_len_add C)) : FnOk P w K mg base CX0 5 f fd P_Length_radd (sp_len_add C) := by
  refine D.fn.ok sc_Length_radd (fun vs H Q E h => ?_) (fun cdv A outer s H vs Q E hr h => ?_)
  · obtain ⟨a, y, v, w, rfl, _⟩ := h
    rfl
  · obtain ⟨a, y, v, w, rfl, hv, hw, ret⟩ := h
    refine ⟨_, (pss_one (ps_ret (pe_op (op_addO TL.ad R_Len_add (hr.mono (by decide)) pass0) (pv 0) (pv 1)))), ?_⟩
    obtain ⟨dx, vs, hs⟩ := hv.slt
    refine ⟨_, rfl, _, rfl, a, dx, vs, rfl, hs, ?_, a, y, v, w, rfl, hv, hw, ret⟩
    rcases hw with ⟨b, rfl, hb⟩ | ⟨n, rfl, rfl⟩
    · obtain ⟨dy, ws, hs2⟩ := hb.slt
      exact .inl ⟨b, dy, ws, rfl, hs2⟩
    · exact .inr ⟨_, rfl⟩
abbrev s_Length_str : Stmt := inClass (top 38) 11
abbrev N_Length_str : List Str := ["self"]
abbrev P_Length_str : List Str := ["self"]
theorem sc_Length_str : FnScope N_Length_str P_Length_str (defScope s_Length_str) := ⟨rfl, rfl, rfl, by decide +kernel, rfl, by decide +kernel, by decide +kernel⟩
theorem ok_Len_str {C fa ga f f1 : Addr} {fd fd1 : FuncData} (D : MethAt K C "__str__" "Length.__str__" s_Length_str P_Length_str f fd) (T : Txt K mg) (TL : LenTxt K mg C fa ga)
    (D_Len_word : PropAt K C "word" "Length.word" s_Length_word P_Length_word f1 fd1) : FnOk P w K mg base CX0 3 f fd P_Length_str (sp_len_str C) := by
  have R_Len_word : FnR P w K mg base CX0 1 f1 (sp_len_word C) := raw_ok (ok_Len_word D_Len_word TL) D_Len_word.bd
  refine D.fn.ok sc_Length_str (fun vs H Q E h => ?_) (fun cdv A outer s H vs Q E hr h => ?_)
  · obtain ⟨a, w, rfl, _⟩ := h
    rfl
  · obtain ⟨a, w, rfl, hw, hc, ret⟩ := h
    obtain ⟨ps, hp⟩ := TL.sl
    obtain ⟨dx, pt, hs, hpt⟩ := id hw
    refine ⟨_, (pss_cons (ps_if (pt_cmpR op_eq (pe_ix ix_tup (pe_sl (pv 0)) pe_int (fun _ _ => rfl)) pe_int (nomark _))
      (pss_one (ps_ret (pe_callTy call_str_int (by rfl) T.str (by decide +kernel) (pa_cons (pe_ix ix_tup (pe_sl (pv 0)) pe_int (fun _ _ => rfl)) pa_nil))))
      pss_nil)
      (pss_one (ps_ret (pe_joined1 (pe_fmt (pe_propO (pv 0) TL.sc D_Len_word.pr R_Len_word (hr.mono (by decide)))))))), ?_⟩
    refine ⟨_, rfl, a, C, dx, ps, _, 0, _, rfl, hs, TL.sc, hp, rfl, _, _, _, _, rfl, rfl, SqT.of hpt, rfl, rfl, _, rfl, ?_⟩
    cases w with
    | num n =>
      refine ifT rfl ⟨_, rfl, a, C, dx, ps, _, 0, _, rfl, hs, TL.sc, hp, rfl, _, _, _, _, rfl, rfl, SqT.of hpt, rfl, _, rfl, ?_, ret H (Same.refl H)⟩
      show (n : Int).natAbs.log2 < 1920
      by_cases h0 : n = 0
      · subst h0
        decide
      · have := (Nat.log2_lt h0).mpr hc
        show n.log2 < 1920
        omega
    | endless => exact ifF (by intro q; cases q) ⟨_, rfl, a, dx, _, rfl, hs, a, .endless, rfl, hw, fun H1 s1 => .inl ⟨_, rfl, by decide, ret H1 s1⟩⟩
    | dead => exact ifF (by intro q; cases q) ⟨_, rfl, a, dx, _, rfl, hs, a, .dead, rfl, hw, fun H1 s1 => .inl ⟨_, rfl, by decide, ret H1 s1⟩⟩
end L

namespace Hv
open PySem L2 SlX Evl
/-- a new length -/
theorem len_made {C : Addr} {H1 : Hp} {z : W} {Q : VK} (ret : ∀ x H2, H1 x = none → Same H1 H2 → LenAt C H2 x z → Q (.ref x) H2) :
    ∀ x dx, H1 x = none → H1 dx = none → dx ≠ x → sp_len_init C [.ref x, z.v] (upd (upd H1 dx (.own x)) x (.ins C dx [])) (fun v H2 => v = .non ∧ Q (.ref x) H2) E0 := by
  intro x dx nx nd ne
  refine ⟨x, dx, z, rfl, upd_same, by rw [upd_ne ne, upd_same], ne, fun H2 keep hl => ⟨rfl, ?_⟩⟩
  refine ret x H2 nx (fun b o e => ?_) hl
  have b1 := ne_of_none e nx
  have b2 := ne_of_none e nd
  exact keep b o b1 b2 (by rw [upd_ne b1, upd_ne b2]; exact e)
/-- an expression that gives a length made of w -/
def EvLen (C : Addr) (te : TE) (σ : L2.St) (H : Hp) (w : W) : Prop := ∀ H1, Ex H H1 → ∀ Q : VK, (∀ p H2, Ex H1 H2 → LenAt C H2 p w → Q (.ref p) H2) → te σ H1 Q
section
variable {K : PySem.W.Frag} {C : Addr} {σ : L2.St} {H H' : Hp} {ta tb te : TE} {v w : W}
theorem EvLen.mono (h : EvLen C te σ H w) (e : Ex H H') : EvLen C te σ H' w := fun H1 a Q q => h H1 (e.trans a) Q q
theorem evl_var {i : Nat} {a : Addr} (h : σ[i]? = some (some (.ref a))) (l : LenAt C H a w) : EvLen C (tVar i) σ H w := fun H1 e _ q => ⟨_, h, q a H1 (Ex.refl H1) (l.same e)⟩
theorem evl_make {ta : TA} {z : V} (hz : z = w.v) (h : EvA ta σ H [z]) : EvLen C (tMake C (sp_len_init C) [] E0 ta) σ H w := fun H1 e Q q =>
  h H1 e _ fun H2 e2 => by
    subst hz
    exact len_made fun x H3 nx s3 l => q x H3 (e2.trans s3) l
theorem evl_add (ha : EvLen C ta σ H v) (hb : EvLen C tb σ H w) : EvLen C (tOp (rAddO C (sp_len_add C) E0) ta tb) σ H (v.add w) := fun H1 e Q q =>
  ha H1 e _ fun a H2 e2 la => hb H2 (e.trans e2) _ fun b H3 e3 lb => by
    obtain ⟨dx, vs, hs⟩ := (la.same e3).slt
    obtain ⟨dy, ws, hs2⟩ := lb.slt
    exact ⟨a, dx, vs, rfl, hs, .inl ⟨b, dy, ws, rfl, hs2⟩, a, _, v, w, rfl, la.same e3, .inl ⟨b, rfl, lb⟩, fun p H4 _ s4 l => q p H4 ((e2.trans e3).trans s4) l⟩
theorem evl_addI {n : Nat} (ha : EvLen C ta σ H v) (hb : Ev tb σ H (.int (n : Int))) : EvLen C (tOp (rAddO C (sp_len_add C) E0) ta tb) σ H (v.add (.num n)) := fun H1 e Q q =>
  ha H1 e _ fun a H2 e2 la => hb H2 (e.trans e2) _ fun H3 e3 => by
    obtain ⟨dx, vs, hs⟩ := (la.same e3).slt
    exact ⟨a, dx, vs, rfl, hs, .inr ⟨_, rfl⟩, a, _, v, .num n, rfl, la.same e3, .inr ⟨n, rfl, rfl⟩, fun p H4 _ s4 l => q p H4 ((e2.trans e3).trans s4) l⟩
theorem evl_raddI {n : Nat} (ha : Ev ta σ H (.int (n : Int))) (hb : EvLen C tb σ H v) : EvLen C (tOp (rRAddO C (sp_len_add C) E0) ta tb) σ H (v.add (.num n)) := fun H1 e Q q =>
  ha H1 e _ fun H2 e2 => hb H2 (e.trans e2) _ fun a H3 e3 la => by
    obtain ⟨dx, vs, hs⟩ := la.slt
    exact ⟨_, a, dx, vs, rfl, rfl, hs, a, _, v, .num n, rfl, la, .inr ⟨n, rfl, rfl⟩, fun p H4 _ s4 l => q p H4 ((e2.trans e3).trans s4) l⟩
theorem ev_leneq (nf : PySem.W.notFirst K C (.ref C) = true) (ha : EvLen C ta σ H v) (hb : EvLen C tb σ H w) : Ev (tOp (rOwn K C (sp_len_eq C) E0) ta tb) σ H (.bl (decide (v = w))) := fun H1 e Q q =>
  ha H1 e _ fun a H2 e2 la => hb H2 (e.trans e2) _ fun b H3 e3 lb => by
    obtain ⟨dx, vs, hs⟩ := (la.same e3).slt
    obtain ⟨dy, ws, hs2⟩ := lb.slt
    exact ⟨a, dx, vs, b, C, dy, ws, rfl, rfl, hs, hs2, nf, a, b, v, w, rfl, la.same e3, lb, q H3 (e2.trans e3)⟩
theorem ev_lenle (nf : PySem.W.notFirst K C (.ref C) = true) (ha : EvLen C ta σ H v) (hb : EvLen C tb σ H w) : Ev (tOp (rOwn K C (sp_len_le C) E0) ta tb) σ H (.bl (v.le w)) := fun H1 e Q q =>
  ha H1 e _ fun a H2 e2 la => hb H2 (e.trans e2) _ fun b H3 e3 lb => by
    obtain ⟨dx, vs, hs⟩ := (la.same e3).slt
    obtain ⟨dy, ws, hs2⟩ := lb.slt
    exact ⟨a, dx, vs, b, C, dy, ws, rfl, rfl, hs, hs2, nf, a, b, v, w, rfl, la.same e3, lb, q H3 (e2.trans e3)⟩
theorem s_asgN {i : Nat} {D : Ends} (h : EvLen C te σ H w) (k : ∀ p H1, Ex H H1 → LenAt C H1 p w → D.nx (σ.set i (some (.ref p))) H1) : tAsg te (gName i) D σ H := h H (Ex.refl H) _ k
theorem q_asgN {i : Nat} {D : Ends} {tz : TS} (h : EvLen C te σ H w) (k : ∀ p H1, Ex H H1 → LenAt C H1 p w → tz D (σ.set i (some (.ref p))) H1) : tSeq (tAsg te (gName i)) tz D σ H := h H (Ex.refl H) _ k
theorem evl_if {t : TT} {b : Bool} (h : EvT t σ H b) (h1 : b = true → EvLen C ta σ H w) (h2 : b = false → EvLen C tb σ H w) : EvLen C (tIf t ta tb) σ H w := fun H1 e Q q =>
  h H1 e _ fun H2 e2 => by
    cases b with
    | true => exact h1 rfl H2 (e.trans e2) Q fun p H3 e3 l => q p H3 (e2.trans e3) l
    | false => exact h2 rfl H2 (e.trans e2) Q fun p H3 e3 l => q p H3 (e2.trans e3) l
theorem use_len {Q : VK} (h : EvLen C te σ H w) (k : ∀ p H2, Ex H H2 → LenAt C H2 p w → Q (.ref p) H2) : te σ H Q := h H (Ex.refl H) Q k
theorem evl_is {v : W} (h : EvLen C te σ H w) (e : w = v) : EvLen C te σ H v := e ▸ h
end
end Hv

namespace Hv
open PySem L2
def isIntD : PyData → Bool
  | .int _ => true
  | _ => false
def isStrD : PyData → Bool
  | .str _ => true
  | _ => false
def geD (d : PyData) (low : Int) : Bool := match d with
  | .int i => decide (low ≤ i)
  | _ => false
def lessD (d e : PyData) : Bool := match d, e with
  | .int i, .int j => decide (i < j)
  | _, _ => false
/-- texts of it are short -/
def shortD : PyData → Bool
  | .str z => decide (z.length ≤ 1000)
  | _ => true
/-- an error of the class j is let out, with v -/
def GivenE (c : Nat → Addr) (j : Nat) (E : XK) (H : Hp) (v : V) : Prop := ∀ d H', H d = none → Same H H' → H' d = some (.xd [(fieldOf j, v)]) → E (.ref (c j)) (some d) H'
theorem GivenE.at {c : Nat → Addr} {j : Nat} {E : XK} {H H1 : Hp} {v : V} (h : GivenE c j E H v) (s : Same H H1) : ∀ d, H1 d = none → E (.ref (c j)) (some d) (upd H1 d (.xd [(fieldOf j, v)])) := fun d hd =>
  h d _ (s.free hd) (s.trans (same_new hd)) upd_same
section
variable {K : PySem.W.Frag} {b : Addr} {H : Hp} {v : V} {d : PyData} {Q : VK} {E : XK}
theorem kit_int (d : PyData) : ∃ b1 b2, PySem.W.kitOne K (.type (tyName d)) (.type "int") = some b1 ∧ PySem.W.kitOne K (.type (tyName d)) (.type "bool") = some b2 ∧ (b1 && !b2) = isIntD d := by
  cases d with
  | none => exact ⟨false, false, kit_ty (by dsimp only [tyName, isStrD]; decide +kernel), kit_ty (by dsimp only [tyName, isStrD]; decide +kernel), rfl⟩
  | bool _ => exact ⟨true, true, kit_ty (by dsimp only [tyName, isStrD]; decide +kernel), kit_ty (by dsimp only [tyName, isStrD]; decide +kernel), rfl⟩
  | int _ => exact ⟨true, false, kit_ty (by dsimp only [tyName, isStrD]; decide +kernel), kit_ty (by dsimp only [tyName, isStrD]; decide +kernel), rfl⟩
  | str _ => exact ⟨false, false, kit_ty (by dsimp only [tyName, isStrD]; decide +kernel), kit_ty (by dsimp only [tyName, isStrD]; decide +kernel), rfl⟩
  | list _ => exact ⟨false, false, kit_ty (by dsimp only [tyName, isStrD]; decide +kernel), kit_ty (by dsimp only [tyName, isStrD]; decide +kernel), rfl⟩
  | tuple _ => exact ⟨false, false, kit_ty (by dsimp only [tyName, isStrD]; decide +kernel), kit_ty (by dsimp only [tyName, isStrD]; decide +kernel), rfl⟩
  | dict _ => exact ⟨false, false, kit_ty (by dsimp only [tyName, isStrD]; decide +kernel), kit_ty (by dsimp only [tyName, isStrD]; decide +kernel), rfl⟩
theorem kit_str (d : PyData) : PySem.W.kitOne K (.type (tyName d)) (.type "str") = some (isStrD d) := by
  cases d <;> exact kit_ty (by dsimp only [tyName, isStrD]; decide +kernel)
theorem is_int_d (h : Dq K b H v d) (q : Q (.bl (isIntD d)) H) : lk (sp_is_integer K) [v] H Q E := by
  refine lk_in ?_
  obtain ⟨b1, b2, k1, k2, e⟩ := kit_int (K := K) d
  rw [← e] at q
  exact ⟨v, _, b1, b2, rfl, h.ty, k1, k2, q⟩
end
end Hv

namespace Hv
open PySem L2 Evl
/-- data, no list of it where H0 has something -/
def Dn (K : PySem.W.Frag) (H0 H : Hp) (v : V) (d : PyData) : Prop := ∀ a, H0 a ≠ none → Dq K a H v d
def DnAll (K : PySem.W.Frag) (H0 H : Hp) (vs : List V) (ds : List PyData) : Prop := ∀ a, H0 a ≠ none → DqAll K a H vs ds
/-- an expression that makes data, an argument list that does -/
def EvQ (K : PySem.W.Frag) (H0 : Hp) (te : TE) (σ : L2.St) (H : Hp) (d : PyData) : Prop := ∀ H1, Ex H H1 → Ex H0 H1 → ∀ Q : VK, (∀ v H2, Ex H1 H2 → Dn K H0 H2 v d → Q v H2) → te σ H1 Q
def EvQA (K : PySem.W.Frag) (H0 : Hp) (ta : TA) (σ : L2.St) (H : Hp) (ds : List PyData) : Prop := ∀ H1, Ex H H1 → Ex H0 H1 → ∀ Q : List V → Hp → Prop, (∀ vs H2, Ex H1 H2 → vs.length = ds.length → DnAll K H0 H2 vs ds → Q vs H2) → ta σ H1 Q
theorem Dn.same {K : PySem.W.Frag} {H0 H H' : Hp} {v : V} {d : PyData} (h : Dn K H0 H v d) (e : Ex H H') : Dn K H0 H' v d := fun a ha => (h a ha).same e
theorem DnAll.same {K : PySem.W.Frag} {H0 H H' : Hp} {vs : List V} {ds : List PyData} (h : DnAll K H0 H vs ds) (e : Ex H H') : DnAll K H0 H' vs ds := fun a ha => (h a ha).same e
mutual
/-- the bag changes -/
theorem Dq.two {K : PySem.W.Frag} {a b : Addr} {n : Nat} {H H' : Hp} (hb : Bag H b n) (e : But b H H') : ∀ {d : PyData} {v : V}, Dq K b H v d → Dq K a H v d → Dq K a H' v d
  | _, _, .non, _ => .non
  | _, _, .bl k, _ => .bl k
  | _, _, .int i, _ => .int i
  | _, _, .str z, _ => .str z
  | _, _, .lst h nb t, h2 => by
    cases h2 with
    | lst h' na t' =>
      rw [h] at h'
      cases h'
      exact .lst (e _ _ nb h) na (DqAll.two hb e t t')
  | _, _, .tup h t, h2 => by
    cases h2 with
    | tup h' t' =>
      rw [h] at h'
      cases h'
      exact .tup (e _ _ (by obtain ⟨_, _, _, hb, _⟩ := hb; exact ne_of h hb (by intro q; cases q)) h) (DqAll.two hb e t t')
  | _, _, .emp h, _ => .emp (e _ _ (by obtain ⟨_, _, _, hb, _⟩ := hb; exact ne_of h hb (by intro q; cases q)) h)
theorem DqAll.two {K : PySem.W.Frag} {a b : Addr} {n : Nat} {H H' : Hp} (hb : Bag H b n) (e : But b H H') : ∀ {ds : List PyData} {vs : List V}, DqAll K b H vs ds → DqAll K a H vs ds → DqAll K a H' vs ds
  | _, _, .nil, _ => .nil
  | _, _, .cons h t, h2 => by
    cases h2 with
    | cons h' t' => exact .cons (Dq.two hb e h h') (DqAll.two hb e t t')
end
mutual
/-- a list is put in the place of a list that is none of the data's -/
theorem Dq.put {K : PySem.W.Frag} {a p : Addr} {xs : List V} {H : Hp} {o : HO} (hp : H p = some (.lst xs)) : ∀ {d : PyData} {v : V}, Dq K p H v d → Dq K a H v d → Dq K a (upd H p o) v d
  | _, _, .non, _ => .non
  | _, _, .bl k, _ => .bl k
  | _, _, .int i, _ => .int i
  | _, _, .str z, _ => .str z
  | _, _, .lst h nb t, h2 => by
    cases h2 with
    | lst h' na t' =>
      rw [h] at h'
      cases h'
      exact .lst (by rw [upd_ne nb]; exact h) na (DqAll.put hp t t')
  | _, _, .tup h t, h2 => by
    cases h2 with
    | tup h' t' =>
      rw [h] at h'
      cases h'
      exact .tup (by rw [upd_ne (ne_of h hp (by intro q; cases q))]; exact h) (DqAll.put hp t t')
  | _, _, .emp h, _ => .emp (by rw [upd_ne (ne_of h hp (by intro q; cases q))]; exact h)
theorem DqAll.put {K : PySem.W.Frag} {a p : Addr} {xs : List V} {H : Hp} {o : HO} (hp : H p = some (.lst xs)) : ∀ {ds : List PyData} {vs : List V}, DqAll K p H vs ds → DqAll K a H vs ds → DqAll K a (upd H p o) vs ds
  | _, _, .nil, _ => .nil
  | _, _, .cons h t, h2 => by
    cases h2 with
    | cons h' t' => exact .cons (Dq.put hp h h') (DqAll.put hp t t')
end
theorem DqAll.set {K : PySem.W.Frag} {b : Addr} {H : Hp} {v : V} {d : PyData} (h : Dq K b H v d) : ∀ {vs : List V} {ds : List PyData} (i : Nat), DqAll K b H vs ds → DqAll K b H (vs.set i v) (ds.set i d)
  | _, _, _, .nil => .nil
  | _, _, 0, .cons _ t => .cons h t
  | _, _, i + 1, .cons h' t => .cons h' (DqAll.set h i t)
theorem DqAll.len {K : PySem.W.Frag} {b : Addr} {H : Hp} : ∀ {vs : List V} {ds : List PyData}, DqAll K b H vs ds → vs.length = ds.length
  | _, _, .nil => rfl
  | _, _, .cons _ t => congrArg (· + 1) (DqAll.len t)
theorem DqAll.app {K : PySem.W.Frag} {b : Addr} {H : Hp} {ws : List V} {es : List PyData} (h2 : DqAll K b H ws es) : ∀ {vs : List V} {ds : List PyData}, DqAll K b H vs ds → DqAll K b H (vs ++ ws) (ds ++ es)
  | _, _, .nil => h2
  | _, _, .cons h t => .cons h (DqAll.app h2 t)
theorem DqAll.at {K : PySem.W.Frag} {b : Addr} {H : Hp} : ∀ {vs : List V} {ds : List PyData} (i : Nat), DqAll K b H vs ds → i < ds.length → ∃ v d, vs[i]? = some v ∧ ds[i]? = some d ∧ Dq K b H v d
  | _, _, _, .nil, h => absurd h (Nat.not_lt_zero _)
  | _, _, 0, .cons h _, _ => ⟨_, _, rfl, rfl, h⟩
  | _, _, i + 1, .cons _ t, hi => by
    obtain ⟨v, d, h1, h2, h3⟩ := DqAll.at i t (Nat.lt_of_succ_lt_succ hi)
    exact ⟨v, d, by simpa using h1, by simpa using h2, h3⟩
theorem ne_keep {H H1 : Hp} {b : Addr} (h : H b ≠ none) (e : Ex H H1) : H1 b ≠ none := by
  cases q : H b with
  | none => exact absurd q h
  | some o => rw [e b o q]; intro z; cases z
theorem Bag.some {H : Hp} {b : Addr} {n : Nat} (h : Bag H b n) : H b ≠ none := by
  obtain ⟨_, _, _, hb, _⟩ := h
  rw [hb]
  intro z
  cases z
section
variable {K : PySem.W.Frag} {H0 : Hp} {b : Addr} {σ : L2.St} {H : Hp} {te : TE} {ta : TA} {d : PyData} {ds es : List PyData}
theorem eq_non : EvQ K H0 (tC .non) σ H .none := fun H1 _ _ _ q => q _ H1 (Ex.refl H1) fun _ _ => .non
theorem eq_bl {k : Bool} : EvQ K H0 (tC (.bl k)) σ H (.bool k) := fun H1 _ _ _ q => q _ H1 (Ex.refl H1) fun _ _ => .bl k
theorem eq_int {i : Int} : EvQ K H0 (tC (.int i)) σ H (.int i) := fun H1 _ _ _ q => q _ H1 (Ex.refl H1) fun _ _ => .int i
theorem eq_str {z : Str} : EvQ K H0 (tC (.str z)) σ H (.str z) := fun H1 _ _ _ q => q _ H1 (Ex.refl H1) fun _ _ => .str z
theorem eq_ev {i : Int} (h : Ev te σ H (.int i)) : EvQ K H0 te σ H (.int i) := fun H1 e _ _ q => h H1 e _ fun H2 e2 => q _ H2 e2 fun _ _ => .int i
theorem eq_evs {z : Str} (h : Ev te σ H (.str z)) : EvQ K H0 te σ H (.str z) := fun H1 e _ _ q => h H1 e _ fun H2 e2 => q _ H2 e2 fun _ _ => .str z
theorem eq_var {i : Nat} {v : V} (h : σ[i]? = some (some v)) (hd : Dn K H0 H v d) : EvQ K H0 (tVar i) σ H d := fun H1 e _ _ q => ⟨v, h, q _ H1 (Ex.refl H1) (hd.same e)⟩
theorem new_ne {H2 : Hp} {p a : Addr} (e : Ex H0 H2) (np : H2 p = none) (ha : H0 a ≠ none) : p ≠ a := fun z => ne_keep ha e (z ▸ np)
theorem eq_tup (h : EvQA K H0 ta σ H ds) (hl : ds.length ≤ 1000 := by decide) : EvQ K H0 (tTup ta) σ H (.tuple ds) := fun H1 e nb _ q => h H1 e nb _ fun vs H2 e2 l2 q2 =>
  ⟨sz_of (by rw [l2]; omega), fun p np => q _ _ (e2.trans (Ex.new np)) fun a ha => .tup upd_same ((q2 a ha).same (Ex.new np))⟩
theorem eq_lst (h : EvQA K H0 ta σ H ds) (hl : ds.length ≤ 1000 := by decide) : EvQ K H0 (tLst ta) σ H (.list ds) := fun H1 e nb _ q => h H1 e nb _ fun vs H2 e2 l2 q2 =>
  ⟨sz_of (by rw [l2]; omega), fun p np => q _ _ (e2.trans (Ex.new np)) fun a ha => .lst upd_same (new_ne (nb.trans e2) np ha) ((q2 a ha).same (Ex.new np))⟩
theorem eq_emp : EvQ K H0 tDNewK σ H (.dict []) := fun H1 _ _ _ q p np => q _ _ (Ex.new np) fun _ _ => .emp upd_same
theorem eqa_nil : EvQA K H0 tNil σ H [] := fun H1 _ _ _ q => q _ H1 (Ex.refl H1) rfl fun _ _ => .nil
theorem eqa_cons (h : EvQ K H0 te σ H d) (t : EvQA K H0 ta σ H ds) : EvQA K H0 (tCons te ta) σ H (d :: ds) := fun H1 e nb _ q => h H1 e nb _ fun v H2 e2 q2 =>
  t H2 (e.trans e2) (nb.trans e2) _ fun vs H3 e3 l3 q3 => q _ H3 (e2.trans e3) (by rw [List.length_cons, List.length_cons, l3]) fun a ha => .cons ((q2 a ha).same e3) (q3 a ha)
/-- x = [..] -/
theorem q_asgQ {i : Nat} {D : Ends} {tz : TS} (h : EvQA K H0 ta σ H ds) (nb : Ex H0 H) (hl : ds.length ≤ 1000) (k : ∀ p vs H1, Ex H H1 → H1 p = some (.lst vs) → H p = none → vs.length = ds.length → DnAll K H0 H1 vs ds → tz D (σ.set i (some (.ref p))) H1) : tSeq (tAsg (tLst ta) (gName i)) tz D σ H :=
  h H (Ex.refl H) nb _ fun vs H2 e2 l2 q2 => ⟨sz_of (by rw [l2]; omega), fun p np => k p vs _ (e2.trans (Ex.new np)) upd_same (fresh_back e2 np) l2 (q2.same (Ex.new np))⟩
/-- x = y + [..] -/
theorem q_catQ {i j : Nat} {D : Ends} {tz : TS} {p : Addr} {vs : List V} (hs : σ[j]? = some (some (.ref p))) (hp : H p = some (.lst vs)) (hl0 : vs.length = ds.length) (hd : DnAll K H0 H vs ds) (h : EvQA K H0 ta σ H es) (nb : Ex H0 H) (hl : ds.length + es.length ≤ 1000)
    (k : ∀ q ws H1, Ex H H1 → H1 q = some (.lst ws) → H q = none → ws.length = (ds ++ es).length → DnAll K H0 H1 ws (ds ++ es) → tz D (σ.set i (some (.ref q))) H1) : tSeq (tAsg (tOp rCat (tVar j) (tLst ta)) (gName i)) tz D σ H :=
  ⟨_, hs, h H (Ex.refl H) nb _ fun ws H2 e2 l2 q2 => ⟨sz_of (by rw [l2]; omega), fun p2 n2 => ⟨p, p2, vs, ws, rfl, rfl, Ex.new n2 _ _ (e2 _ _ hp), upd_same, sz_of (by rw [hl0, l2]; exact Nat.le_trans hl (by decide)), fun q nq => by
    have e3 : Ex H (upd H2 p2 (.lst ws)) := e2.trans (Ex.new n2)
    exact k q _ _ (e3.trans (Ex.new nq)) upd_same (fresh_back e3 nq) (by rw [List.length_append, List.length_append, hl0, l2]) fun a ha => DqAll.app (((q2 a ha).same (Ex.new n2)).same (Ex.new nq)) (((hd a ha).same e3).same (Ex.new nq))⟩⟩⟩
end
def sp_odd (K : PySem.W.Frag) (ds : List PyData) : Sp := fun vs H Q _ => ∃ (b : Addr) (n : Nat), vs = [.ref b] ∧ Bag H b n ∧ n < 900000 ∧ ∀ (v : V) (d : PyData) (H' : Hp), d ∈ ds → But b H H' → Bag H' b (n + 1) → Dn K H H' v d → Q v H'
/-- return xs[take(bag, m)] -/
theorem s_oddat {K : PySem.W.Frag} {b p : Addr} {n i j : Nat} {σ : L2.St} {H H0 : Hp} {D : Ends} {vs : List V} {ds : List PyData} {m : Int} {ts : TE} (hb : Bag H0 b n) (hn : n < 900000) (e : Ex H0 H) (hs : σ[i]? = some (some (.ref p))) (hj : σ[j]? = some (some (.ref b)))
    (hp : H p = some (.lst vs)) (pn : H0 p = none) (hd : DnAll K H0 H vs ds) (hts : ∀ Q : VK, Q (.int m) H → ts σ H Q) (hm : m = (ds.length : Int)) (h0 : 0 < ds.length) (h1 : ds.length ≤ 1000)
    (ret : ∀ (v : V) (d : PyData) (H' : Hp), d ∈ ds → But b H0 H' → Bag H' b (n + 1) → Dn K H0 H' v d → D.rt v H') :
    tRet (tOp (rIxL K) (tVar i) (tCall sp_take [] E0 (tCons (tVar j) (tCons ts tNil)))) D σ H := by
  have pb : p ≠ b := hb.ne_none pn
  refine ⟨_, hs, _, hj, hts _ ⟨b, m, n, rfl, hb.same e, by omega, by omega, m_small (by omega) (by omega), fun r H1 u1 b1 r0 r1 => ?_⟩⟩
  obtain ⟨v, d, q1, q2, q3⟩ := (hd b hb.some).at r.toNat (by omega)
  obtain ⟨k, rfl⟩ := Int.eq_ofNat_of_zero_le r0
  refine ⟨p, vs, _, v, rfl, rfl, SqL.of (u1 _ _ pb hp), atI_nat q1, ret v d H1 (List.mem_of_getElem? q2) ((But.of e).trans u1) b1 fun a ha => ?_⟩
  obtain ⟨v', d', q1', q2', q3'⟩ := (hd a ha).at (k : Int).toNat (by omega)
  cases q1.symm.trans q1'
  cases q2.symm.trans q2'
  exact Dq.two (hb.same e) u1 q3 q3'
theorem kn_but {b a : Addr} {n : Nat} {H H1 : Hp} (e : But b H H1) (hb : Bag H1 b n) (h : H a ≠ none) : H1 a ≠ none := by
  by_cases q : a = b
  · rw [q]
    exact hb.some
  · cases z : H a with
    | none => exact absurd z h
    | some o => rw [e a o q z]; intro w; cases w
theorem DnAll.but {K : PySem.W.Frag} {b : Addr} {n : Nat} {H0 H H' : Hp} {vs : List V} {ds : List PyData} (h : DnAll K H0 H vs ds) (h0 : H0 b ≠ none) (hb : Bag H b n) (e : But b H H') : DnAll K H0 H' vs ds := fun a ha => DqAll.two hb e (h b h0) (h a ha)
theorem DnAll.sub {K : PySem.W.Frag} {H0 H1 H : Hp} {vs : List V} {ds : List PyData} (h : DnAll K H1 H vs ds) (k : ∀ a, H0 a ≠ none → H1 a ≠ none) : DnAll K H0 H vs ds := fun a ha => h a (k a ha)
/-- xs[take(bag, m)], the bag having been used before -/
theorem e_oddat {K : PySem.W.Frag} {b p : Addr} {n i j : Nat} {σ : L2.St} {H H0 : Hp} {Q : VK} {vs : List V} {ds : List PyData} {m : Int} {ts : TE} (hb : Bag H b n) (hn : n < 900000) (h0 : H0 b ≠ none) (hs : σ[i]? = some (some (.ref p))) (hj : σ[j]? = some (some (.ref b)))
    (hp : H p = some (.lst vs)) (pb : p ≠ b) (hd : DnAll K H0 H vs ds) (hts : ∀ Q : VK, Q (.int m) H → ts σ H Q) (hm : m = (ds.length : Int)) (l0 : 0 < ds.length) (l1 : ds.length ≤ 1000)
    (ret : ∀ (v : V) (d : PyData) (H' : Hp), d ∈ ds → But b H H' → Bag H' b (n + 1) → Dn K H0 H' v d → Q v H') :
    tOp (rIxL K) (tVar i) (tCall sp_take [] E0 (tCons (tVar j) (tCons ts tNil))) σ H Q := by
  refine ⟨_, hs, _, hj, hts _ ⟨b, m, n, rfl, hb, by omega, by omega, m_small (by omega) (by omega), fun r H1 u1 b1 r0 r1 => ?_⟩⟩
  obtain ⟨v, d, q1, q2, q3⟩ := (hd b h0).at r.toNat (by omega)
  obtain ⟨k, rfl⟩ := Int.eq_ofNat_of_zero_le r0
  refine ⟨p, vs, _, v, rfl, rfl, SqL.of (u1 _ _ pb hp), atI_nat q1, ret v d H1 (List.mem_of_getElem? q2) u1 b1 fun a ha => ?_⟩
  obtain ⟨v', d', q1', q2', q3'⟩ := (hd a ha).at (k : Int).toNat (by omega)
  cases q1.symm.trans q1'
  cases q2.symm.trans q2'
  exact Dq.two hb u1 q3 q3'
/-- what is asked of data that is drawn -/
def fitB (d : PyData) (m n : Nat) : Bool := d.showable && (decide (d.depth ≤ m) && (d.leavesShort 2000 && (decide (d.bulk ≤ n) && PyData.strOk d.shown)))
theorem fitB_ok {d : PyData} {m n : Nat} (h : fitB d m n = true) : FitQ d m n := by
  unfold fitB at h
  simp only [Bool.and_eq_true, decide_eq_true_eq] at h
  exact ⟨h.1, h.2.1, h.2.2.1, h.2.2.2.1, h.2.2.2.2⟩
theorem fit_mem {d : PyData} {ds : List PyData} {m n : Nat} (h : (ds.all fun d => fitB d m n) = true) (hd : d ∈ ds) : FitQ d m n := fitB_ok (List.all_eq_true.mp h d hd)
end Hv

namespace Hv
open PySem L2
section
variable {X : Cx} {e : Expr} {ta : TE} {C g : Addr} {f : Str} {pos : Pos} {n : Nat} {sp : Sp} {fd : FuncData} {ps : List Str}
theorem units65 {k : Nat} {A : Around} (r : Room k A) : A.units + 65 < cLine := by have := r.un; omega
theorem pe_propD (he : PE X e ta) (c : Cls X.K C) (p : PropK X.K C f g) (F : FnOk X.prog X.w X.K X.mg X.base CX0 n g fd ps sp) (hb : Binds X.K fd ps []) (hr : Room (n + 1) X.A)
    (hab : attributeBase e f X.env (eval e X.env) = eval e X.env := by rfl) : PE X (.Attribute e f pos) (tProp C sp [] E0 ta) := by
  obtain ⟨p, h1, h2, h3, h4⟩ := p.ex
  exact pe_prop he c ⟨h1, h2, h3, h4⟩ F hr hb .nil pass0 hab
end
structure KitNo (K : PySem.W.Frag) (C : Addr) : Prop where
  u1 : PySem.W.kitOne K (.type "NoneType") (.ref C) = some false
  u2 : PySem.W.kitOne K (.type "int") (.ref C) = some false
  u3 : PySem.W.kitOne K (.type "bool") (.ref C) = some false
  u4 : PySem.W.kitOne K (.type "str") (.ref C) = some false
  u5 : PySem.W.kitOne K (.type "list") (.ref C) = some false
  u6 : PySem.W.kitOne K (.type "tuple") (.ref C) = some false
theorem four_same (b : Bool) : [PyData.list [.bool true, .bool true, .bool true, .bool true], PyData.list [.bool false, .bool false, .bool false, .bool false]].any (fun z => PyData.eqv z (.list [.bool b, .bool b, .bool b, .bool b])) = true := by
  cases b <;> decide +kernel
end Hv

namespace Hv
open PySem L2
theorem dp_strs {K : PySem.W.Frag} {H : Hp} : ∀ l : List Str, DpAll K H (l.map V.str) (l.map PyData.str)
  | [] => .nil
  | z :: l => .cons (.str z) (dp_strs l)
theorem fit_strs : ∀ {l : List Str}, (∀ z ∈ l, Fit (.str z) 1 sizeLine) → ∃ n, FitAll (l.map PyData.str) 1 n
  | [], _ => ⟨0, .nil⟩
  | z :: l, h => by
    obtain ⟨n, f⟩ := fit_strs (l := l) fun x hx => h x (by simp [hx])
    exact ⟨_, .cons (h z (by simp)) f⟩
theorem shaped_strs {l : List Str} (h : ∀ z ∈ l, Fit (.str z) 1 sizeLine) : SeqAt.shaped (.list (l.map PyData.str)) = true := by
  obtain ⟨n, f⟩ := fit_strs h
  exact (Fit.list f).shaped (by decide)
theorem refl_strs {l : List Str} (h : ∀ z ∈ l, Fit (.str z) 1 sizeLine) : PyData.eqv (.list (l.map PyData.str)) (.list (l.map PyData.str)) = true := by
  obtain ⟨n, f⟩ := fit_strs h
  exact (Fit.list f).eqv
theorem eqv_nil (l : List Str) : PyData.eqv (.list (l.map PyData.str)) (.list []) = decide (l = []) := by
  cases l with
  | nil => decide +kernel
  | cons z l => simp [PyData.eqv, PyData.eqvAll]
/-- what the catcher tells, if due is due and d is what is told otherwise -/
def toldL (due : List Str) (d : PyData) : List Str := if due = [] then [Str.ofString "told", d.shown] else due
theorem told_fit {due : List Str} {d : PyData} {m n : Nat} (h : ∀ z ∈ due, Fit (.str z) 1 sizeLine) (f : FitQ d m n) (hn : n ≤ 5000) : ∀ z ∈ toldL due d, Fit (.str z) 1 sizeLine := by
  intro z hz
  unfold toldL at hz
  split at hz
  · simp only [List.mem_cons, List.not_mem_nil, or_false] at hz
    rcases hz with rfl | rfl
    · exact .str (strOk_of _) (by decide +kernel)
    · exact f.str hn
  · exact h z hz
section
variable {K : PySem.W.Frag} {b : Addr} {σ : L2.St} {H : Hp} {L U : Addr} {i j : Nat} {te : TE} {v : V} {d : PyData} {m n : Nat} {due : List Str} {Q : VK}
/-- due == [] -/
theorem due_nil {te' : TE} {U' : Addr} (hU : H U' = some (.lst (due.map V.str))) (hf : ∀ z ∈ due, Fit (.str z) 1 sizeLine) (ht : ∀ Q : VK, Q (.ref U') H → te' σ H Q) (q : ∀ H2, Same H H2 → Q (.bl (decide (due = []))) H2) : tOp (rEqD K) te' (tLst tNil) σ H Q := by
  refine ht _ ⟨by decide, fun e ne => ⟨.list (due.map PyData.str), .list [], .lst (SqL.of (same_new ne _ _ hU)) (dp_strs _), .lst (SqL.of upd_same) .nil, shaped_strs hf, by decide +kernel, ?_⟩⟩
  rw [eqv_nil]
  exact q _ (same_new ne)
theorem due_some {te' : TE} {U' : Addr} (hU : H U' = some (.lst (due.map V.str))) (hf : ∀ z ∈ due, Fit (.str z) 1 sizeLine) (ht : ∀ Q : VK, Q (.ref U') H → te' σ H Q) (q : ∀ H2, Same H H2 → Q (.bl (!decide (due = []))) H2) : tOp (rNeD K) te' (tLst tNil) σ H Q := by
  refine ht _ ⟨by decide, fun e ne => ⟨.list (due.map PyData.str), .list [], .lst (SqL.of (same_new ne _ _ hU)) (dp_strs _), .lst (SqL.of upd_same) .nil, shaped_strs hf, by decide +kernel, ?_⟩⟩
  rw [eqv_nil]
  exact q _ (same_new ne)
theorem due_someN {te' : TE} (hf : ∀ z ∈ due, Fit (.str z) 1 sizeLine) (ht : ∀ Q : VK, (∀ U' H1, Same H H1 → H1 U' = some (.lst (due.map V.str)) → Q (.ref U') H1) → te' σ H Q) (q : ∀ H2, Same H H2 → Q (.bl (!decide (due = []))) H2) : tOp (rNeD K) te' (tLst tNil) σ H Q := by
  refine ht _ fun U' H1 s1 hU => ⟨by decide, fun e ne => ⟨.list (due.map PyData.str), .list [], .lst (SqL.of (same_new ne _ _ hU)) (dp_strs _), .lst (SqL.of upd_same) .nil, shaped_strs hf, by decide +kernel, ?_⟩⟩
  rw [eqv_nil]
  exact q _ (s1.trans (same_new ne))
/-- ['told', repr(..)] if due == [] else due -/
theorem told_due (hj : σ[j]? = some (some (.ref U))) (hU : H U = some (.lst (due.map V.str))) (hf : ∀ z ∈ due, Fit (.str z) 1 sizeLine) (ht : ∀ H1 (Q : VK), Same H H1 → Q v H1 → te σ H1 Q) (hv : Dq K b H v d) (fv : FitQ d m n) (hm : m ≤ 60) (hn : n ≤ 5000)
    (q : ∀ p H2, Same H H2 → H2 p = some (.lst ((toldL due d).map V.str)) → Q (.ref p) H2) :
    tIf (tTest (tOp (rEqD K) (tVar j) (tLst tNil))) (tLst (tCons (tC (.str (Str.ofString "told"))) (tCons (tCB (rReprQ K) (tCons te tNil)) tNil))) (tVar j) σ H Q := by
  refine due_nil (U' := U) hU hf (fun Q q => ⟨_, hj, q⟩) fun H2 s2 => ⟨_, rfl, ?_⟩
  by_cases h : due = []
  · refine ifT h (ht H2 _ s2 (rd_reprQ (hv.same s2) fv hm hn ⟨by show 2 ≤ sizeLine; decide, fun p np => q p _ (s2.trans (same_new np)) ?_⟩))
    rw [upd_same]
    unfold toldL
    rw [if_pos h]
    rfl
  · refine ifF h ⟨_, hj, q U H2 s2 ?_⟩
    rw [s2 _ _ hU]
    unfold toldL
    rw [if_neg h]
/-- told != (that) -/
theorem told_ne (hi : σ[i]? = some (some (.ref L))) (hL : H L = some (.lst ((toldL due d).map V.str))) (hj : σ[j]? = some (some (.ref U))) (hU : H U = some (.lst (due.map V.str))) (hf : ∀ z ∈ due, Fit (.str z) 1 sizeLine) (ht : ∀ H1 (Q : VK), Same H H1 → Q v H1 → te σ H1 Q) (hv : Dq K b H v d)
    (fv : FitQ d m n) (hm : m ≤ 60) (hn : n ≤ 5000) (q : ∀ H2, Same H H2 → Q (.bl false) H2) :
    tOp (rNeD K) (tVar i) (tIf (tTest (tOp (rEqD K) (tVar j) (tLst tNil))) (tLst (tCons (tC (.str (Str.ofString "told"))) (tCons (tCB (rReprQ K) (tCons te tNil)) tNil))) (tVar j)) σ H Q := by
  have ft := told_fit hf fv hn
  refine ⟨_, hi, told_due hj hU hf ht hv fv hm hn fun p H2 s2 h2 => ⟨.list ((toldL due d).map PyData.str), .list ((toldL due d).map PyData.str), .lst (SqL.of (s2 _ _ hL)) (dp_strs _), .lst (SqL.of h2) (dp_strs _), shaped_strs ft, shaped_strs ft, ?_⟩⟩
  rw [refl_strs ft]
  exact q H2 s2
/-- told == (that) -/
theorem told_eq (hi : σ[i]? = some (some (.ref L))) (hL : H L = some (.lst ((toldL due d).map V.str))) (hj : σ[j]? = some (some (.ref U))) (hU : H U = some (.lst (due.map V.str))) (hf : ∀ z ∈ due, Fit (.str z) 1 sizeLine) (ht : ∀ H1 (Q : VK), Same H H1 → Q v H1 → te σ H1 Q) (hv : Dq K b H v d)
    (fv : FitQ d m n) (hm : m ≤ 60) (hn : n ≤ 5000) (q : ∀ H2, Same H H2 → Q (.bl true) H2) :
    tOp (rEqD K) (tVar i) (tIf (tTest (tOp (rEqD K) (tVar j) (tLst tNil))) (tLst (tCons (tC (.str (Str.ofString "told"))) (tCons (tCB (rReprQ K) (tCons te tNil)) tNil))) (tVar j)) σ H Q := by
  have ft := told_fit hf fv hn
  refine ⟨_, hi, told_due hj hU hf ht hv fv hm hn fun p H2 s2 h2 => ⟨.list ((toldL due d).map PyData.str), .list ((toldL due d).map PyData.str), .lst (SqL.of (s2 _ _ hL)) (dp_strs _), .lst (SqL.of h2) (dp_strs _), shaped_strs ft, shaped_strs ft, ?_⟩⟩
  rw [refl_strs ft]
  exact q H2 s2
end
/-- an error that is told: [its name, what it holds] -/
theorem ech_tell {K : PySem.W.Frag} {c : Nat → Addr} {H : Hp} {j : Nat} {b : Addr} {v : V} {d : PyData} {m n : Nat} {Q : VK} (hj : oneF j = true) (EX : ErrIx K c j) (hv : Dq K b H v d) (fv : FitQ d m n) (hm : m ≤ 60) (hn : n ≤ 5000)
    (q : ∀ p H2, H p = none → Same H H2 → H2 p = some (.lst [.str (term j), .str d.shown]) → Q (.ref p) H2) : GivenE c j (echQ K c Q) H v := fun dd H' hd s hx =>
  ⟨j, b, v, d, m, n, rfl, hj, EX, .inr ⟨dd, rfl, hx⟩, hv.same s, fv, hm, hn, fun p H2 hp s2 h => q p H2 (s.free hp) (s.trans s2) h⟩
end Hv

namespace Hv
open PySem PySem.Spec PyProof.Rows L2 LamX
section
variable {X : Cx} {pins : List (Addr × Obj)} {σ : L2.St} {H : Hp} {s : Shared}
/-- the lambda that was handed over is called; what stands around has the guards of the caller -/
theorem act_guard {CXg : CXT} {Eg : XK} {Ng : List Str} {qg : Str} {sg : Scope} {g f c' : Addr} {cdg pm ctv : Value} {ps : Arguments} {be : Expr} {sc : Scope} {k i : Nat} {nm : Str} {pn : List (Addr × Obj)} {xe : Value → Shared → Prop} {W : WX} {E : XK} {tb : TE} {p1 p2 : Pos} (J0 : Inv X pins σ H s)
    (LS : LamS X.env.scope sc) (at_f : s.heap.get? f = some (PySem.W.kla_obj "<lambda>" (X.env.qual ++ "<lambda>") ps be sc (cloFrom X.env.cells sc.names []) pm c' ctv)) (nf : H f = none) (no : f ∉ frs X.stack) (nobind : bindArgs (PySem.W.kla_fn "<lambda>" (X.env.qual ++ "<lambda>") ps be sc (cloFrom X.env.cells sc.names []) pm (.ref c') ctv) ⟨[], []⟩ = pure [])
    (tk : Takes ((cxOf CXg X.prog X.w X.K X.mg X.base Ng qg sg g cdg X.A X.stack s H Eg).tr pn xe) W) (wish : ∀ cls d σ' H', E cls d H' → W cls d σ' H') (room : Room (k + 1) (X.A.deeper (envOfC qg sg s.heap.objs.size g cdg)))
    (walk : ∀ (A : Around) (out : List Env) (sh : Shared) (Hp0 : Hp), A.guards = X.A.guards → Room k (A.deeper (lamEnv X sc sh.heap.objs.size f c')) → PE (lamCx X A out sh Hp0 E sc f c') be tb) (hN : Ng[i]? = some nm) (hv : Vis sg nm)
    (n1 : (nm == ("__debug__" : Str)) = false := by decide) (n2 : (nm == ("__classdict__" : Str)) = false := by decide) :
    PE ((cxOf CXg X.prog X.w X.K X.mg X.base Ng qg sg g cdg X.A X.stack s H Eg).tr pn xe) (.Call (.Name nm p1) [] [] p2) (fun τ H2 Q => τ[i]? = some (some (.ref f)) ∧ H2 c' = some (CodeO c' (X.env.qual ++ "<lambda>")) ∧ tb σ H2 Q) := by
  refine ⟨fun pz s2 τ H2 Q J2 ⟨slot, code, rd⟩ => ?_⟩
  refine wpAny_Call_Name_kw (thn ((pe_var (pos := p1) (i := i) hN hv n1 n2).run pz s2 τ H2 (fun v H1 => v = .ref f ∧ H1 = H2) J2 ⟨.ref f, slot, rfl, rfl⟩) ?_)
  rintro u s3 ⟨v, H1, J3, rel, rfl, rfl⟩
  cases (show u = Value.ref f from rel)
  have still : s3.heap.get? f = some (PySem.W.kla_obj "<lambda>" (X.env.qual ++ "<lambda>") ps be sc (cloFrom X.env.cells sc.names []) pm c' ctv) := J3.base.keep f _ at_f nf no fun z => nomatch (show f ∈ ([] : List Addr) from z)
  refine PySem.W.callWith_F0 ⟨_, _, _, _, still⟩ ?_
  obtain ⟨⟨oc, fs, t, c1, c2, c3⟩, _, _⟩ := J3.hok c' _ code
  have ran : codeAny (model X.prog X.w) (X.A.deeper (envOfC qg sg s.heap.objs.size g cdg)) (.call (.ref f) ⟨[], []⟩) (CR (L2.CX X.prog X.w) (envOfC qg sg s.heap.objs.size g cdg :: X.stack) X.prog X.w H1 s3 Q E) s3 := by
    refine PySem.W.kla_callFunE room.depth still rfl LS.co LS.gen rfl ⟨c', oc, fs, t, rfl, c1, c2, c3⟩ (nobind ▸ wpAny_pure ?_)
    refine wpAny_newFunctionEnv (fun y hy => (LS.own y hy).2) (fun y hy => absurd hy (by simp)) (fun h2 ns2 sb2 => ⟨J3.nolimit.fresh _ sb2, ?_⟩) LS.kind
    show codeAny _ _ (.expr be (lamEnv X sc s3.heap.objs.size f c')) _ _
    have J : Inv (lamCx X (X.A.deeper (envOfC qg sg s.heap.objs.size g cdg)) (envOfC qg sg s.heap.objs.size g cdg :: X.stack) s3 H1 E sc f c') [] σ H1 { s3 with heap := h2, toks := s3.toks + ([] : List (Str × Value)).length } := lam_start2 J0 LS J3.env0 room.hd J3.base ns2 fun b o e => sb2.extBut b o (Nat.ne_of_lt (Heap.lt_size e)) (Heap.get?_push_of_some _ e)
    refine PySem.W.kla_codeExpr (wpAny_mono ((walk (X.A.deeper (envOfC qg sg s.heap.objs.size g cdg)) _ s3 H1 rfl (room.deeper _)).run [] _ _ H1 Q J rd) ?_ fun _ _ z => z)
    rintro v s' ⟨v', H', J', rv, q⟩
    exact ⟨v', H', J'.os, J'.bare, J'.base, J'.hok, rv, q⟩
  refine wpAny_call (codeAny_mono ran ?_)
  rintro (e | fl) s' hq
  · exact passes_call tk wish pz τ H1 s3 e s' J3 hq
  · cases fl with
    | ret u => exact J3.after hq
    | next => exact hq.elim
    | brk => exact hq.elim
    | cont => exact hq.elim
/-- x(lambda: body), the lambda's body walked where the guards are the caller's -/
theorem lamcall_guard {T : List (Addr × Str)} {TT : (XK → Hp → VK → Prop) → Hp → VK → Prop} {x nm : Str} {g c P : Addr} {k : Nat} {pg : Arguments} {bg : List Stmt} {sg : Scope} {dV kV doc pm cdv ct oc : Value} {an od : Option Addr} {osl : Array (Option Value)} {Ng : List Str} {ps : Arguments} {be : Expr} {sc : Scope} {t : XK → TE} {p lpos pos : Pos}
    (hg : Gl X x) (hm : X.mg x = some (.ref g)) (hk : PySem.W.keepIn X.K (.ref g) = true) (lk : X.K.lookup g = some ⟨oc, od, .func (PySem.W.fnOf x x pg bg sg dV kV doc pm an cdv ct), osl⟩) (hcg : PySem.W.codeIn X.K cdv x = true) (hb : L2.Binds X.K (PySem.W.fnOf x x pg bg sg dV kV doc pm an cdv ct) [nm] []) (Sg : FnScope Ng [nm] sg)
    (hNg : Ng[0]? = some nm) (hva : Vis sg nm) (gives : GivesTo X Ng x sg g cdv bg nm (X.env.qual ++ "<lambda>") TT) (TB : TabB X.base X.mg c P) (hcode : X.env.code = .ref c) (hmT : (P, X.env.qual ++ "<lambda>") ∈ T) (hu : ∀ p ∈ T, p.1 = P → p.2 = X.env.qual ++ "<lambda>") (room : Room (k + 2) X.A) (LS : LamS X.env.scope sc)
    (nodef : defaultsOf ps X.env = ([], [])) (nobind : ∀ (q : Str) (cl : List (Str × Addr)) (pm cv ctv : Value), bindArgs (PySem.W.kla_fn "<lambda>" q ps be sc cl pm cv ctv) ⟨[], []⟩ = pure [])
    (walk : ∀ (A : Around) (out : List Env) (sh : Shared) (Hp0 : Hp) (E : XK) (f c' : Addr), A.guards = X.A.guards → Room k (A.deeper (lamEnv X sc sh.heap.objs.size f c')) → PE (lamCx X A out sh Hp0 E sc f c') be (t E))
    (n0 : (x == ("__debug__" : Str)) = false := by decide) (n1 : (nm == ("__debug__" : Str)) = false := by decide) (n2 : (nm == ("__classdict__" : Str)) = false := by decide) : PE X (.Call (.Name x p) [.Lambda ps be sc lpos] [] pos) (tLam T TT t) := by
  refine ⟨fun pz s2 τ H2 Q J2 ⟨tabs, rd⟩ => wpAny_Call_Name_kw (ld_glob J2 hg hm (PySem.W.callWith_K (h₀ := X.base) J2.ok.mod.kin hk ?_ (by rfl) (by rfl)) n0)⟩
  show wpAny _ _ (spliced ((false, eval (.Lambda ps be sc lpos) X.env) :: backTo pos (starEach [] X.env))) _ _ s2
  refine Calls.spliced_cons (lam_make2 J2 TB hcode hmT hu tabs nodef (LS.has J2.ok) fun f c' pm' ctv H3 s3 J3 eN T3 k1 k2 k3 k4 => Calls.spliced_nil ⟨J3.kIn, ?_⟩)
  have ran : codeAny (model X.prog X.w) X.A (.call (.ref g) ⟨[.ref f], []⟩) (CR C8.CX0 X.stack X.prog X.w H3 s3 Q C8.E0) s3 := by
    refine run_ofS (N := Ng) (ps := [nm]) (us := [.ref f]) (vs := [.ref f]) lk hcg Sg room J3.env0 (hb s3 [.ref f] J3.kIn rfl) (.cons rfl .nil) rfl fun room' => ?_
    obtain ⟨t', w1, w2⟩ := gives f c' s3 H3 Q (fun E H' Q' => t E τ H' Q') (fun W pn xe E p1 p2 tk wish => act_guard (i := 0) J3 LS k1 k2 k3 (nobind _ _ _ _ _) tk wish room' (fun A out sh Hp0 gu r2 => walk A out sh Hp0 E f c' gu r2) hNg hva n1 n2) k4 (rd H3 eN T3)
    exact ⟨t', w1.nox, w2⟩
  refine wpAny_call (codeAny_mono ran ?_)
  rintro (e | fl) s4 hq
  · exact (show False from hq).elim
  · cases fl with
    | ret u => exact J3.after hq
    | next => exact hq.elim
    | brk => exact hq.elim
    | cont => exact hq.elim
end
end Hv
namespace L
open PySem PySem.Spec PyProof.Rows L2 Hv
/-- _law_caught(lambda: body), where body may call what shows values -/
theorem pe_caughtG {X : Cx} {c : Nat → Addr} {g f1 f2 cR PR : Addr} {fdg fd1 fd2 : FuncData} {k : Nat} {Tb : List (Addr × Str)} {params : Arguments} {body : Expr} {scope : Scope} {t : XK → TE} {p lpos pos : Pos} (hX : Room (k + 4) X.A) (hG : X.A.guards = some []) (T : Txt X.K X.mg) (EN : ErrNames X.mg c)
    (D_caught : DefAt X.K X.mg "_law_caught" s_caught P_caught g fdg) (D_sort : DefAt X.K X.mg "_law_sort" s_sort P_sort f1 fd1) (G_sort : FnP X.prog X.w X.K X.mg X.base 2 f1 fd1 P_sort (sp_sort X.K c))
    (D_held : DefAt X.K X.mg "_law_held" s_held P_held f2 fd2) (G_held : FnP X.prog X.w X.K X.mg X.base 1 f2 fd2 P_held (sp_held X.K c)) (hg : Gl X "_law_caught")
    (TB : LamX.TabB X.base X.mg cR PR) (hcode : X.env.code = .ref cR) (hmT : (PR, X.env.qual ++ "<lambda>") ∈ Tb) (hu : ∀ p ∈ Tb, p.1 = PR → p.2 = X.env.qual ++ "<lambda>") (L : LamX.LamS X.env.scope scope) (hdef : defaultsOf params X.env = ([], []))
    (hbind : ∀ (q : Str) (cl : List (Str × Addr)) (pm cv ctv : Value), bindArgs (PySem.W.kla_fn "<lambda>" q params body scope cl pm cv ctv) ⟨[], []⟩ = pure [])
    (hbody : ∀ (A : Around) (outer : List Env) (s : Shared) (H : Hp) (E : XK) (f c' : Addr), A.guards = some [] → Room k (A.deeper (LamX.lamEnv X scope s.heap.objs.size f c')) → PE (LamX.lamCx X A outer s H E scope f c') body (t E)) :
    PE X (.Call (.Name "_law_caught" p) [.Lambda params body scope lpos] [] pos) (LamX.tLam Tb (TCaught X.K c) t) := by
  obtain ⟨oc, od, kV, doc, pm, an, cdv, ct, osl, hfd, lk, hcd⟩ := D_caught.fn.ex
  subst hfd
  exact lamcall_guard hg D_caught.mg D_caught.fn.kp lk hcd D_caught.bd sc_caught rfl (.inl rfl) (caught_gives (hX.mono (by omega)) hG T EN D_sort G_sort D_held G_held) TB hcode hmT hu (hX.mono (by omega)) L hdef hbind (fun A o s H E f c' gu r => hbody A o s H E f c' (gu.trans hG) r)
end L

namespace Hv
open PySem L2 SlX
def W.ds (w : W) : List PyData := [.int (w.rank : Int), .int (w.cnt : Int)]
/-- what a length can be made of -/
def lenD : PyData → Option W
  | .int i => if 0 ≤ i then some (.num i.toNat) else none
  | .str z => if z = Str.ofString "endless" then some .endless else if z = Str.ofString "dead" then some .dead else none
  | _ => none
theorem LenAt.dp {K : PySem.W.Frag} {C : Addr} {H : Hp} {a : Addr} {w : W} (h : LenAt C H a w) : ∃ dx pt, Slt H a C dx [some (.ref pt)] ∧ Dp K H (.ref pt) (.tuple w.ds) := by
  obtain ⟨dx, pt, h1, h2⟩ := h
  exact ⟨dx, pt, h1, .tup (SqT.of h2) (.cons (.int _) (.cons (.int _) .nil))⟩
theorem ds_alike (v w : W) : PySem.W.alike (.tuple v.ds) (.tuple w.ds) = true ∧ PySem.W.alike (.list v.ds) (.list w.ds) = true := by
  simp [W.ds, PySem.W.alike, PySem.W.alikeAll]
theorem ds_shaped (w : W) : SeqAt.shaped (.tuple w.ds) = true ∧ SeqAt.shaped (.list w.ds) = true := by
  simp [W.ds, SeqAt.shaped, PyData.canLay0, PyData.canLayAll0, PyData.depth, PyData.depthAll]
def sp_len_initX (K : PySem.W.Frag) (c : Nat → Addr) (C : Addr) : Sp := fun vs H Q E => ∃ (b x dx : Addr) (v : V) (d : PyData), vs = [.ref x, v] ∧ Dq K b H v d ∧ H x = some (.ins C dx []) ∧ H dx = some (.own x) ∧ dx ≠ x ∧
  (lenD d = none → GivenE c 11 E H v) ∧ ∀ w, lenD d = some w → ∀ H', (∀ b o, b ≠ x → b ≠ dx → H b = some o → H' b = some o) → LenAt C H' x w → Q .non H'
def sp_len_eqX (K : PySem.W.Frag) (C : Addr) : Sp := fun vs H Q _ => ∃ (a : Addr) (v : W) (y : V), vs = [.ref a, y] ∧ LenAt C H a v ∧
  ((∃ b w, y = .ref b ∧ LenAt C H b w ∧ Q (.bl (PyData.eqv (.tuple v.ds) (.tuple w.ds))) H) ∨ ∃ T, TyX K H y (.type T) ∧ PySem.W.kitOne K (.type T) (.ref C) = some false ∧ Q (.bl false) H)
def sp_len_ord (C : Addr) (g : PyData → PyData → Bool) : Sp := fun vs H Q _ => ∃ (a b : Addr) (v w : W), vs = [.ref a, .ref b] ∧ LenAt C H a v ∧ LenAt C H b w ∧ Q (.bl (g (.tuple v.ds) (.tuple w.ds))) H
theorem inV_two (z a b : Str) : inV (.str z) [.str a, .str b] = decide (z = a ∨ z = b) := by
  have e1 : (a = z) = (z = a) := propext ⟨Eq.symm, Eq.symm⟩
  have e2 : (b = z) = (z = b) := propext ⟨Eq.symm, Eq.symm⟩
  by_cases h1 : z = a <;> by_cases h2 : z = b <;> simp [inV, eqV, e1, e2, h1, h2]
end Hv
namespace L
open PySem L2 Hv SlX
variable {P : Program} {w : World} {K : PySem.W.Frag} {mg : Str → Option Value} {base : Heap}
theorem ok_Len_initX {C fa ga f f1 : Addr} {fd fd1 : FuncData} {c : Nat → Addr} (D : MethAt K C "__init__" "Length.__init__" s_Length_init P_Length_init f fd) (T : Txt K mg) (TL : LenTxt K mg C fa ga) (ER_InvalidLength : ErrTxt K mg "InvalidLength" "given" (c 11))
    (D_is_integer : DefAt K mg "is_integer" s_is_integer P_is_integer f1 fd1) : FnOk P w K mg base (L2.CX P w) 3 f fd P_Length_init (sp_len_initX K c C) := by
  have G_is_integer := fn_lk (ok_is_integer (P := P) (w := w) (base := base) D_is_integer T)
  refine D.fn.okX sc_Length_init (fun vs H Q E h => ?_) (fun cdv A outer s H vs Q E hr h => ?_)
  · obtain ⟨b, x, dx, v, d, rfl, _⟩ := h
    rfl
  · obtain ⟨b, x, dx, v, d, rfl, hd, hx, hdx, nd, bad, ret⟩ := h
    obtain ⟨ps, hp⟩ := TL.sl
    refine ⟨_, (pss_one (ps_if (PW.pt (pw_and (pt_val (pe_call G_is_integer (hr.mono (by decide)) rfl D_is_integer.mg D_is_integer.fn.kp D_is_integer.bd .nil pass0 (pa_cons (pv 1) pa_nil))) (pw_and1 (pt_cmpR op_ge (pv 1) pe_int (nomark _)))))
      (pss_one (ps_sl (pv 0) (pe_tup (pa_cons pe_int (pa_cons (pv 1) pa_nil)))))
      (pss_one (ps_if (PW.pt (pw_and (pt_val (pe_callB call_isi (by rfl) T.isinstance (by decide +kernel) (pa_cons (pv 1) (pa_cons (pe_bltn (v := .ty "str") (u := .type "str") (by rfl) T.str (by decide +kernel) rfl) pa_nil)))) (pw_and1 (pt_cmpR op_in_seq (pv 1) (pe_tup (pa_cons pe_str (pa_cons pe_str pa_nil))) (by rfl)))))
      (pss_one (ps_sl (pv 0) (pe_tup (pa_cons (pe_ifExp (pt_cmpR op_eq (pv 1) pe_str (nomark _)) pe_int pe_int) (pa_cons pe_int pa_nil)))))
      (pss_one (ps_err ER_InvalidLength (hr.mono (by decide)) rfl (takes_of rfl rfl rfl rfl) rfl (pv 1))))))), ?_⟩
    have fin : ∀ (w : W), lenD d = some w → ∀ (H1 : Hp) (p : Addr) (i j : Int), Same H H1 → H1 p = none → i = w.rank → j = w.cnt → Q .non (slH (upd H1 p (.tup [.int i, .int j])) x C dx (putS 0 (.ref p) [])) := by
      intro w hw H1 p i j sm hp0 hi hj
      have px : p ≠ x := (ne_of_none (sm _ _ hx) hp0).symm
      have pd : p ≠ dx := (ne_of_none (sm _ _ hdx) hp0).symm
      refine ret w hw _ (fun b o n1 n2 e => ?_) ⟨dx, p, slH_slt nd, ?_⟩
      · rw [slH_ne n1 n2, upd_ne (ne_of_none (sm _ _ e) hp0)]
        exact sm _ _ e
      · rw [slH_ne px pd, upd_same, hi, hj]
    have slt : ∀ (H1 : Hp) (p : Addr) (o : HO), Same H H1 → H1 p = none → Slt (upd H1 p o) x C dx [] := fun H1 p o sm hp0 => .inl ⟨same_new hp0 _ _ (sm _ _ hx), rfl⟩
    have kit := kit_str (K := K) d
    refine ⟨_, rfl, is_int_d hd ⟨_, rfl, ?_⟩⟩
    cases hi : isIntD d with
    | true =>
      cases hd with
      | int i =>
        refine iteT ⟨_, rfl, _, _, rfl, rfl, _, rfl, ite2 (fun c1 => ?_) (fun c1 => ?_)⟩
        · have i0 : 0 ≤ i := of_decide_eq_true c1
          refine ⟨_, rfl, by show 2 ≤ sizeLine; decide, fun p hp0 => ?_⟩
          refine ⟨_, rfl, x, C, dx, ps, [], 0, rfl, slt H p _ (Same.refl H) hp0, TL.sc, hp, fin (.num i.toNat) ?_ H p _ _ (Same.refl H) hp0 rfl ?_⟩
          · show (if 0 ≤ i then some (W.num i.toNat) else none) = _
            rw [if_pos i0]
          · show i = ((i.toNat : Nat) : Int)
            omega
        · have i0 : ¬ 0 ≤ i := fun q => c1 (decide_eq_true q)
          refine ⟨_, rfl, _, _, _, _, false, rfl, .ty _, .base (.int _), kit_ty (by decide +kernel), _, rfl, iteF ⟨_, rfl, (bad ?_).at (Same.refl H)⟩⟩
          show (if 0 ≤ i then some (W.num i.toNat) else none) = _
          rw [if_neg i0]
      | _ => cases hi
    | false =>
      refine iteF ⟨_, rfl, _, _, _, _, isStrD d, rfl, .ty _, hd.ty, kit, _, rfl, ?_⟩
      cases hs : isStrD d with
      | false =>
        refine iteF ⟨_, rfl, (bad ?_).at (Same.refl H)⟩
        cases d with
        | int _ => cases hi
        | str _ => cases hs
        | _ => rfl
      | true =>
        cases hd with
        | str z =>
          refine iteT ⟨_, rfl, by decide, fun t ht => ⟨_, _, rfl, .inr (SqT.of upd_same), rfl, rfl, _, rfl, ?_⟩⟩
          have s1 := same_new (o := .tup [.str (Str.ofString "endless"), .str (Str.ofString "dead")]) ht
          rw [inV_two]
          have un : lenD (.str z) = if z = Str.ofString "endless" then some .endless else if z = Str.ofString "dead" then some .dead else none := rfl
          by_cases c1 : z = Str.ofString "endless" ∨ z = Str.ofString "dead"
          · refine ifT c1 ⟨_, rfl, rfl, _, rfl, ?_⟩
            by_cases c2 : z = Str.ofString "endless"
            · rw [if_pos c2] at un
              refine ifT (by rw [c2]) ⟨by decide, fun p hp0 => ?_⟩
              exact ⟨_, rfl, x, C, dx, ps, [], 0, rfl, slt _ p _ s1 hp0, TL.sc, hp, fin .endless un _ p _ _ s1 hp0 rfl rfl⟩
            · have c3 : z = Str.ofString "dead" := c1.resolve_left c2
              rw [if_neg c2, if_pos c3] at un
              refine ifF (fun q => c2 (V.str.inj q)) ⟨by decide, fun p hp0 => ?_⟩
              exact ⟨_, rfl, x, C, dx, ps, [], 0, rfl, slt _ p _ s1 hp0, TL.sc, hp, fin .dead un _ p _ _ s1 hp0 rfl rfl⟩
          · refine ifF c1 ⟨_, rfl, (bad ?_).at s1⟩
            rw [un, if_neg (fun q => c1 (.inl q)), if_neg (fun q => c1 (.inr q))]
        | _ => cases hs
theorem ok_Len_eqX {C fa ga f : Addr} {fd : FuncData} (D : MethAt K C "__eq__" "Length.__eq__" s_Length_eq P_Length_eq f fd) (T : Txt K mg) (TL : LenTxt K mg C fa ga) : FnOk P w K mg base CX0 1 f fd P_Length_eq (sp_len_eqX K C) := by
  refine D.fn.ok sc_Length_eq (fun vs H Q E h => ?_) (fun cdv A outer s H vs Q E hr h => ?_)
  · obtain ⟨a, v, y, rfl, _⟩ := h
    rfl
  · obtain ⟨a, v, y, rfl, hv, h⟩ := h
    obtain ⟨ps, hp⟩ := TL.sl
    obtain ⟨dx, pt, hs, dpv⟩ := hv.dp (K := K)
    refine ⟨_, (pss_one (ps_ret (pe_and (pe_callB (callR_or (call_isiSl (.ref C)) call_isi) (by rfl) T.isinstance (by decide +kernel) (pa_cons (pv 1) (pa_cons (pe_glob (v := .ref C) rfl TL.mg rfl) pa_nil))) (pe_one (pe_cmpR (op_eqD hr.units) (pe_sl (pv 0)) (pe_sl (pv 1)) (nomark _)))))), ?_⟩
    rcases h with ⟨b, w, rfl, hw, ret⟩ | ⟨T', ty, kt, ret⟩
    · obtain ⟨dy, qt, hs2, dpw⟩ := hw.dp (K := K)
      refine ⟨_, rfl, .inl ⟨b, C, dy, _, _, true, rfl, rfl, fun _ q => q, hs2, TL.sc, TL.si, TL.k1, _, rfl, ?_⟩⟩
      exact iteT ⟨_, rfl, a, C, dx, ps, _, 0, _, rfl, hs, TL.sc, hp, rfl, _, rfl, b, C, dy, ps, _, 0, _, rfl, hs2, TL.sc, hp, rfl, _, _, dpv, dpw, (ds_shaped v).1, (ds_shaped w).1, ret⟩
    · exact ⟨_, rfl, .inr ⟨_, _, _, _, false, rfl, .own C, ty, kt, _, rfl, iteF ret⟩⟩
abbrev s_Length_lt : Stmt := inClass (top 38) 5
abbrev N_Length_lt : List Str := ["self", "other"]
abbrev P_Length_lt : List Str := ["self", "other"]
theorem sc_Length_lt : FnScope N_Length_lt P_Length_lt (defScope s_Length_lt) := ⟨rfl, rfl, rfl, by decide +kernel, rfl, by decide +kernel, by decide +kernel⟩
theorem ok_Len_lt {C fa ga f : Addr} {fd : FuncData} (D : MethAt K C "__lt__" "Length.__lt__" s_Length_lt P_Length_lt f fd) (T : Txt K mg) (TL : LenTxt K mg C fa ga) : FnOk P w K mg base CX0 1 f fd P_Length_lt (sp_len_ord C fun d e => PySem.W.dataLt d e) := by
  refine D.fn.ok sc_Length_lt (fun vs H Q E h => ?_) (fun cdv A outer s H vs Q E hr h => ?_)
  · obtain ⟨a, b, v, w, rfl, _⟩ := h
    rfl
  · obtain ⟨a, b, v, w, rfl, hv, hw, ret⟩ := h
    obtain ⟨ps, hp⟩ := TL.sl
    obtain ⟨dx, pt, hs, dpv⟩ := hv.dp (K := K)
    obtain ⟨dy, qt, hs2, dpw⟩ := hw.dp (K := K)
    refine ⟨_, (pss_cons (ps_if (pt_not (pt_val (pe_callB (call_isiSl (.ref C)) (by rfl) T.isinstance (by decide +kernel) (pa_cons (pv 1) (pa_cons (pe_glob (v := .ref C) rfl TL.mg rfl) pa_nil)))))
      (pss_one ps_never)
      pss_nil)
      (pss_one (ps_ret (pe_cmpR (op_ltDt hr.units) (pe_sl (pv 0)) (pe_sl (pv 1)) (nomark _))))), ?_⟩
    refine ⟨_, rfl, b, C, dy, _, _, true, rfl, rfl, fun _ q => q, hs2, TL.sc, TL.si, TL.k1, _, rfl, ?_⟩
    exact ⟨_, rfl, a, C, dx, ps, _, 0, _, rfl, hs, TL.sc, hp, rfl, _, rfl, b, C, dy, ps, _, 0, _, rfl, hs2, TL.sc, hp, rfl, _, _, dpv, dpw, (ds_alike v w).1, (fun z => nomatch z), by show min (0 + 1) (0 + 1) ≤ 60; decide, ret⟩
theorem ok_Len_leX {C fa ga f : Addr} {fd : FuncData} (D : MethAt K C "__le__" "Length.__le__" s_Length_le P_Length_le f fd) (T : Txt K mg) (TL : LenTxt K mg C fa ga) : FnOk P w K mg base CX0 1 f fd P_Length_le (sp_len_ord C fun d e => !PySem.W.dataLt e d) := by
  refine D.fn.ok sc_Length_le (fun vs H Q E h => ?_) (fun cdv A outer s H vs Q E hr h => ?_)
  · obtain ⟨a, b, v, w, rfl, _⟩ := h
    rfl
  · obtain ⟨a, b, v, w, rfl, hv, hw, ret⟩ := h
    obtain ⟨ps, hp⟩ := TL.sl
    obtain ⟨dx, pt, hs, dpv⟩ := hv.dp (K := K)
    obtain ⟨dy, qt, hs2, dpw⟩ := hw.dp (K := K)
    refine ⟨_, (pss_cons (ps_if (pt_not (pt_val (pe_callB (call_isiSl (.ref C)) (by rfl) T.isinstance (by decide +kernel) (pa_cons (pv 1) (pa_cons (pe_glob (v := .ref C) rfl TL.mg rfl) pa_nil)))))
      (pss_one ps_never)
      pss_nil)
      (pss_one (ps_ret (pe_cmpR (op_leDt hr.units) (pe_sl (pv 0)) (pe_sl (pv 1)) (nomark _))))), ?_⟩
    refine ⟨_, rfl, b, C, dy, _, _, true, rfl, rfl, fun _ q => q, hs2, TL.sc, TL.si, TL.k1, _, rfl, ?_⟩
    exact ⟨_, rfl, a, C, dx, ps, _, 0, _, rfl, hs, TL.sc, hp, rfl, _, rfl, b, C, dy, ps, _, 0, _, rfl, hs2, TL.sc, hp, rfl, _, _, dpv, dpw, (ds_alike v w).1, (fun z => nomatch z), by show min (0 + 1) (0 + 1) ≤ 60; decide, ret⟩
abbrev s_Length_gt : Stmt := inClass (top 38) 7
abbrev N_Length_gt : List Str := ["self", "other"]
abbrev P_Length_gt : List Str := ["self", "other"]
theorem sc_Length_gt : FnScope N_Length_gt P_Length_gt (defScope s_Length_gt) := ⟨rfl, rfl, rfl, by decide +kernel, rfl, by decide +kernel, by decide +kernel⟩
theorem ok_Len_gt {C fa ga f : Addr} {fd : FuncData} (D : MethAt K C "__gt__" "Length.__gt__" s_Length_gt P_Length_gt f fd) (T : Txt K mg) (TL : LenTxt K mg C fa ga) : FnOk P w K mg base CX0 1 f fd P_Length_gt (sp_len_ord C fun d e => PySem.W.dataLt e d) := by
  refine D.fn.ok sc_Length_gt (fun vs H Q E h => ?_) (fun cdv A outer s H vs Q E hr h => ?_)
  · obtain ⟨a, b, v, w, rfl, _⟩ := h
    rfl
  · obtain ⟨a, b, v, w, rfl, hv, hw, ret⟩ := h
    obtain ⟨ps, hp⟩ := TL.sl
    obtain ⟨dx, pt, hs, dpv⟩ := hv.dp (K := K)
    obtain ⟨dy, qt, hs2, dpw⟩ := hw.dp (K := K)
    refine ⟨_, (pss_cons (ps_if (pt_not (pt_val (pe_callB (call_isiSl (.ref C)) (by rfl) T.isinstance (by decide +kernel) (pa_cons (pv 1) (pa_cons (pe_glob (v := .ref C) rfl TL.mg rfl) pa_nil)))))
      (pss_one ps_never)
      pss_nil)
      (pss_one (ps_ret (pe_cmpR (op_gtDt hr.units) (pe_sl (pv 0)) (pe_sl (pv 1)) (nomark _))))), ?_⟩
    refine ⟨_, rfl, b, C, dy, _, _, true, rfl, rfl, fun _ q => q, hs2, TL.sc, TL.si, TL.k1, _, rfl, ?_⟩
    exact ⟨_, rfl, a, C, dx, ps, _, 0, _, rfl, hs, TL.sc, hp, rfl, _, rfl, b, C, dy, ps, _, 0, _, rfl, hs2, TL.sc, hp, rfl, _, _, dpv, dpw, (ds_alike v w).1, (fun z => nomatch z), by show min (0 + 1) (0 + 1) ≤ 60; decide, ret⟩
abbrev s_Length_ge : Stmt := inClass (top 38) 8
abbrev N_Length_ge : List Str := ["self", "other"]
abbrev P_Length_ge : List Str := ["self", "other"]
theorem sc_Length_ge : FnScope N_Length_ge P_Length_ge (defScope s_Length_ge) := ⟨rfl, rfl, rfl, by decide +kernel, rfl, by decide +kernel, by decide +kernel⟩
theorem ok_Len_ge {C fa ga f : Addr} {fd : FuncData} (D : MethAt K C "__ge__" "Length.__ge__" s_Length_ge P_Length_ge f fd) (T : Txt K mg) (TL : LenTxt K mg C fa ga) : FnOk P w K mg base CX0 1 f fd P_Length_ge (sp_len_ord C fun d e => !PySem.W.dataLt d e) := by
  refine D.fn.ok sc_Length_ge (fun vs H Q E h => ?_) (fun cdv A outer s H vs Q E hr h => ?_)
  · obtain ⟨a, b, v, w, rfl, _⟩ := h
    rfl
  · obtain ⟨a, b, v, w, rfl, hv, hw, ret⟩ := h
    obtain ⟨ps, hp⟩ := TL.sl
    obtain ⟨dx, pt, hs, dpv⟩ := hv.dp (K := K)
    obtain ⟨dy, qt, hs2, dpw⟩ := hw.dp (K := K)
    refine ⟨_, (pss_cons (ps_if (pt_not (pt_val (pe_callB (call_isiSl (.ref C)) (by rfl) T.isinstance (by decide +kernel) (pa_cons (pv 1) (pa_cons (pe_glob (v := .ref C) rfl TL.mg rfl) pa_nil)))))
      (pss_one ps_never)
      pss_nil)
      (pss_one (ps_ret (pe_cmpR (op_geDt hr.units) (pe_sl (pv 0)) (pe_sl (pv 1)) (nomark _))))), ?_⟩
    refine ⟨_, rfl, b, C, dy, _, _, true, rfl, rfl, fun _ q => q, hs2, TL.sc, TL.si, TL.k1, _, rfl, ?_⟩
    exact ⟨_, rfl, a, C, dx, ps, _, 0, _, rfl, hs, TL.sc, hp, rfl, _, rfl, b, C, dy, ps, _, 0, _, rfl, hs2, TL.sc, hp, rfl, _, _, dpv, dpw, (ds_alike v w).1, (fun z => nomatch z), by show min (0 + 1) (0 + 1) ≤ 60; decide, ret⟩
end L
namespace Hv
open PySem L2 SlX
section
variable {K : PySem.W.Frag} {C : Addr} {H : Hp} {a b : Addr} {v w : W} {Q : VK}
theorem own_eq (nf : PySem.W.notFirst K C (.ref C) = true) (ha : LenAt C H a v) (hb : LenAt C H b w) (q : Q (.bl (PyData.eqv (.tuple v.ds) (.tuple w.ds))) H) : rOwn K C (sp_len_eqX K C) E0 (.ref a) (.ref b) H Q := by
  obtain ⟨dx, vs, h1⟩ := ha.slt
  obtain ⟨dy, ws, h2⟩ := hb.slt
  exact ⟨a, dx, vs, b, C, dy, ws, rfl, rfl, h1, h2, nf, a, v, _, rfl, ha, .inl ⟨b, w, rfl, hb, q⟩⟩
theorem own_ne (nf : PySem.W.notFirst K C (.ref C) = true) (ha : LenAt C H a v) (hb : LenAt C H b w) (q : Q (.bl (!PyData.eqv (.tuple v.ds) (.tuple w.ds))) H) : rEqS K C (!·) (sp_len_eqX K C) E0 (.ref a) (.ref b) H Q := by
  obtain ⟨dx, vs, h1⟩ := ha.slt
  obtain ⟨dy, ws, h2⟩ := hb.slt
  exact ⟨a, dx, vs, rfl, h1, .inr ⟨b, C, dy, ws, rfl, h2, nf⟩, a, v, _, rfl, ha, .inl ⟨b, w, rfl, hb, _, rfl, q⟩⟩
theorem own_ord {g : PyData → PyData → Bool} (nf : PySem.W.notFirst K C (.ref C) = true) (ha : LenAt C H a v) (hb : LenAt C H b w) (q : Q (.bl (g (.tuple v.ds) (.tuple w.ds))) H) : rOwn K C (sp_len_ord C g) E0 (.ref a) (.ref b) H Q := by
  obtain ⟨dx, vs, h1⟩ := ha.slt
  obtain ⟨dy, ws, h2⟩ := hb.slt
  exact ⟨a, dx, vs, b, C, dy, ws, rfl, rfl, h1, h2, nf, a, b, v, w, rfl, ha, hb, q⟩
end
def ltW (v w : W) : Bool := PySem.W.dataLt (.tuple v.ds) (.tuple w.ds)
def eqW (v w : W) : Bool := PyData.eqv (.tuple v.ds) (.tuple w.ds)
/-- the answers of the six signs -/
def sgn (v w : W) : List Bool := [eqW v w, !eqW v w, ltW v w, !ltW w v, ltW w v, !ltW v w]
theorem ltW_list (v w : W) : PySem.W.dataLt (.list v.ds) (.list w.ds) = ltW v w := by
  unfold ltW
  rw [PySem.W.dataLt_list, PySem.W.dataLt_tuple]
theorem eqW_list (v w : W) : PyData.eqv (.list v.ds) (.list w.ds) = eqW v w := by
  unfold eqW
  simp only [PyData.eqv]
def sp_signs (C : Addr) : Sp := fun vs H Q _ => ∃ (a b : Addr) (v w : W), vs = [.ref a, .ref b] ∧ LenAt C H a v ∧ LenAt C H b w ∧ ∀ p H', H p = none → Same H H' → H' p = some (.lst ((sgn v w ++ sgn w v).map V.bl)) → Q (.ref p) H'
def sp_signs_due : Sp := fun vs H Q _ => ∃ (a b : Addr) (v w : W), vs = [.ref a, .ref b] ∧ H a = some (.lst [.int (v.rank : Int), .int (v.cnt : Int)]) ∧ H b = some (.lst [.int (w.rank : Int), .int (w.cnt : Int)]) ∧ ∀ p H', H p = none → Same H H' → H' p = some (.lst ((sgn v w ++ sgn w v).map V.bl)) → Q (.ref p) H'
def sp_place : Sp := fun vs H Q _ => ∃ (w : W), vs = [w.v] ∧ ∀ p H', H p = none → Same H H' → H' p = some (.lst [.int (w.rank : Int), .int (w.cnt : Int)]) → Q (.ref p) H'
def big : Nat := 10 ^ 40
def sp_worth : Sp := fun vs H Q _ => ∃ (b : Addr) (k : Nat), vs = [.ref b] ∧ Bag H b k ∧ k < 900000 ∧ ∀ (w : W) (H' : Hp), But b H H' → Bag H' b (k + 2) → w.cnt < big → Q w.v H'
def stepsD : W → PyData
  | .num n => .int (n : Int)
  | _ => .none
/-- what is shown of a length -/
def shownW (w : W) : PyData := .list [stepsD w, .str w.word, .str w.text]
theorem big_log {n : Nat} (h : n < 2 ^ 1900) : (n : Int).natAbs.log2 < 1920 := by
  by_cases h0 : n = 0
  · subst h0
    decide
  · have := (Nat.log2_lt h0).mpr h
    show n.log2 < 1920
    omega
theorem text_fit {w : W} (h : w.cnt < 2 ^ 1900) : Fit (.str w.text) 1 2000 := by
  cases w with
  | num n =>
    have h2 := PyProof.Rows.int_text_len_1921 (big_log (show n < 2 ^ 1900 from h))
    refine .str ?_ (by show (Str.ofString (toString (n : Int))).length ≤ 2000; omega)
    exact strOk_of _
  | endless => exact .str (strOk_of "endless") (by decide +kernel)
  | dead => exact .str (strOk_of "dead") (by decide +kernel)
theorem word_fit (w : W) : Fit (.str w.word) 1 20 := by
  cases w with
  | num n => exact .str (strOk_of "steps") (by show (Str.ofString "steps").length ≤ 20; decide +kernel)
  | endless => exact .str (strOk_of "endless") (by decide +kernel)
  | dead => exact .str (strOk_of "dead") (by decide +kernel)
theorem steps_fit {w : W} (h : w.cnt < 2 ^ 1900) : Fit (stepsD w) 1 0 := by
  cases w with
  | num n => exact .int (big_log h)
  | endless => exact .none
  | dead => exact .none
theorem shown_fit {w : W} (h : w.cnt < 2 ^ 1900) : Fit (shownW w) 2 2023 := Fit.list (.cons (steps_fit h) (.cons (word_fit w) (.cons (text_fit h) (.nil (n := 0)))))
theorem steps_dp {K : PySem.W.Frag} {H : Hp} (w : W) : Dp K H w.steps (stepsD w) := by
  cases w with
  | num n => exact .int _
  | endless => exact .non
  | dead => exact .non
def sp_shown (C : Addr) : Sp := fun vs H Q _ => ∃ (a : Addr) (w : W), vs = [.ref a] ∧ LenAt C H a w ∧ w.cnt < 2 ^ 1900 ∧ ∀ H', Same H H' → Q (.str (shownW w).shown) H'
def sp_wdue : Sp := fun vs H Q _ => ∃ (w : W), vs = [w.v] ∧ w.cnt < 2 ^ 1900 ∧ ∀ H', Same H H' → Q (.str (shownW w).shown) H'
def sp_is_len (K : PySem.W.Frag) : Sp := fun vs H Q _ => ∃ (b : Addr) (v : V) (d : PyData), vs = [v] ∧ Dq K b H v d ∧ ∀ H', Same H H' → Q (.bl (lenD d).isSome) H'
def ODD1 : List PyData := [.none, .bool true, .bool false, .int (-1), .str (Str.ofString ""), .str (Str.ofString "steps"), .str (Str.ofString "Endless"), .str (Str.ofString "dead "), .str (Str.ofString "end"), .tuple [], .tuple [.int 3], .list [.int 3], .dict [], .str (Str.ofString "3"), .str (Str.ofString "0"), .int (-(10 ^ (39 : Int).toNat))]
def ODD2 : List PyData := [.int 0, .int 1, .str (Str.ofString "endless"), .str (Str.ofString "dead"), .str (Str.ofString " dead"), .str (Str.ofString "deadendless"), .tuple [.str (Str.ofString "dead")], .list [.str (Str.ofString "endless")], .int (-2), .str (Str.ofString "ead"), .str (Str.ofString "d")]
def ODD : List PyData := ODD1 ++ ODD2
def goodD (d : PyData) : Bool := fitB d 2 60 && (match lenD d with | some w => decide (w.cnt < 2 ^ 1900) && fitB (.str (shownW w).shown) 1 2000 | none => true)
theorem odd_good : (ODD.all goodD) = true := by decide +kernel
structure GoodD (d : PyData) : Prop where
  fit : FitQ d 2 60
  cnt : ∀ w, lenD d = some w → w.cnt < 2 ^ 1900
  shw : ∀ w, lenD d = some w → FitQ (.str (shownW w).shown) 1 2000
theorem good_odd {d : PyData} (h : d ∈ ODD) : GoodD d := by
  have this := List.all_eq_true.mp odd_good d h
  unfold goodD at this
  rw [Bool.and_eq_true] at this
  have two : ∀ w, lenD d = some w → w.cnt < 2 ^ 1900 ∧ FitQ (.str (shownW w).shown) 1 2000 := fun w hw => by
    have h2 := this.2
    rw [hw] at h2
    rw [Bool.and_eq_true] at h2
    exact ⟨of_decide_eq_true h2.1, fitB_ok h2.2⟩
  exact ⟨fitB_ok this.1, fun w hw => (two w hw).1, fun w hw => (two w hw).2⟩
end Hv
namespace L
open PySem L2 Hv SlX Evl
variable {P : Program} {w : World} {K : PySem.W.Frag} {mg : Str → Option Value} {base : Heap}
abbrev s_worth : Stmt := top 47
abbrev N_worth : List Str := ["_law_bag_here", "_law_way"]
abbrev P_worth : List Str := ["_law_bag_here"]
theorem sc_worth : FnScope N_worth P_worth (defScope s_worth) := ⟨rfl, rfl, rfl, by decide +kernel, rfl, by decide +kernel, by decide +kernel⟩
theorem ok_worth {f f1 : Addr} {fd fd1 : FuncData} (D : DefAt K mg "_law_worth" s_worth P_worth f fd) (T : Txt K mg) (D_take : DefAt K mg "_law_take" s_take P_take f1 fd1) : FnOk P w K mg base CX0 2 f fd P_worth sp_worth := by
  have G_take : FnOk P w K mg base CX0 1 f1 fd1 P_take sp_take := ok_take D_take T
  refine D.fn.ok sc_worth (fun vs H Q E h => ?_) (fun cdv A outer s H vs Q E hr h => ?_)
  · obtain ⟨b, k, rfl, _⟩ := h
    rfl
  · obtain ⟨b, k, rfl, hb, hk, ret⟩ := h
    refine ⟨_, (pss_cons (ps_asg (pe_call G_take (hr.mono (by decide)) rfl D_take.mg D_take.fn.kp D_take.bd .nil pass0 (pa_cons (pv 0) (pa_cons pe_int pa_nil))) (pg_name (i := 1) sc_worth.nd rfl (.inl rfl)))
      (pss_cons (ps_if (pt_cmpR op_lt (pv 1) pe_int (nomark _))
      (pss_one (ps_ret (pe_ix ix_list (pe_lst (pa_cons pe_str (pa_cons pe_str pa_nil))) (pv 1) (fun _ _ => rfl))))
      pss_nil)
      (pss_one (ps_ret (pe_call G_take (hr.mono (by decide)) rfl D_take.mg D_take.fn.kp D_take.bd .nil pass0 (pa_cons (pv 0) (pa_cons (pe_ix ix_list (pe_lst (pa_cons pe_int (pa_cons pe_int (pa_cons (pe_op op_pow pe_int pe_int) (pa_cons (pe_op op_pow pe_int pe_int) pa_nil))))) (pe_op op_sub (pv 1) pe_int) (fun _ _ => rfl)) pa_nil))))))), ?_⟩
    refine ⟨_, rfl, b, 6, k, rfl, hb, by omega, by decide, m_small (by decide) (by decide), fun r H1 e1 b1 r0 r1 => ?_⟩
    refine ⟨_, rfl, _, _, rfl, rfl, _, rfl, ?_⟩
    have big0 : 0 < big := by decide
    refine ite2 (fun hc => ?_) (fun hc => ?_)
    · refine ⟨by decide, fun t ht => ?_⟩
      have hr2 : r = 0 ∨ r = 1 := by have := of_decide_eq_true hc; omega
      rcases hr2 with rfl | rfl
      · exact ⟨_, rfl, _, _, _, _, rfl, rfl, SqL.of upd_same, rfl, ret .endless _ (e1.new ht) ((b1.same (same_new ht)).mono (by omega)) big0⟩
      · exact ⟨_, rfl, _, _, _, _, rfl, rfl, SqL.of upd_same, rfl, ret .dead _ (e1.new ht) ((b1.same (same_new ht)).mono (by omega)) big0⟩
    · have hr5 : ∃ j : Nat, r - 2 = (j : Int) ∧ j < 4 := ⟨(r - 2).toNat, by have := dF hc; omega, by omega⟩
      obtain ⟨j, hj, j4⟩ := hr5
      refine ⟨_, rfl, _, _, rfl, rfl, ⟨by decide, by decide, by decide⟩, _, _, rfl, rfl, ⟨by decide, by decide, by decide⟩, by decide, fun t ht => ?_⟩
      have fin : ∀ m : Int, 0 < m → m ≤ 10 ^ 39 → sp_take [.ref b, .int m] (upd H1 t (.lst [.int 4, .int 50, .int (10 ^ (9 : Int).toNat), .int (10 ^ (39 : Int).toNat)])) Q E0 := fun m m0 m1 =>
        ⟨b, m, k + 1, rfl, b1.same (same_new ht), by omega, m0, m_small (by omega) (by omega), fun q H2 e2 b2 q0 q1 => by
          obtain ⟨n, rfl⟩ := Int.eq_ofNat_of_zero_le q0
          refine ret (.num n) _ ((e1.new ht).trans e2) b2 ?_
          show n < big
          have : (big : Int) = 10 ^ 40 := by decide
          omega⟩
      refine ⟨_, rfl, _, _, rfl, rfl, ?_⟩
      have at4 : ∃ m : Int, [V.int 4, V.int 50, V.int (10 ^ (9 : Int).toNat), V.int (10 ^ (39 : Int).toNat)][j]? = some (.int m) ∧ 0 < m ∧ m ≤ 10 ^ 39 := by
        rcases (show j = 0 ∨ j = 1 ∨ j = 2 ∨ j = 3 by omega) with rfl | rfl | rfl | rfl
        · exact ⟨_, rfl, by decide, by decide⟩
        · exact ⟨_, rfl, by decide, by decide⟩
        · exact ⟨_, rfl, by decide, by decide⟩
        · exact ⟨_, rfl, by decide, by decide⟩
      obtain ⟨m, hm, m0, m1⟩ := at4
      refine ⟨_, _, _, _, rfl, rfl, SqL.of upd_same, ?_, fin m m0 m1⟩
      show atI _ (r - 2) = _
      rw [hj]
      exact atI_nat hm
abbrev s_place : Stmt := top 48
abbrev N_place : List Str := ["_law_worth_here"]
abbrev P_place : List Str := ["_law_worth_here"]
theorem sc_place : FnScope N_place P_place (defScope s_place) := ⟨rfl, rfl, rfl, by decide +kernel, rfl, by decide +kernel, by decide +kernel⟩
theorem ok_place {f : Addr} {fd : FuncData} (D : DefAt K mg "_law_place" s_place P_place f fd) (T : Txt K mg) : FnOk P w K mg base CX0 1 f fd P_place sp_place := by
  refine D.fn.ok sc_place (fun vs H Q E h => ?_) (fun cdv A outer s H vs Q E hr h => ?_)
  · obtain ⟨w, rfl, _⟩ := h
    rfl
  · obtain ⟨w, rfl, ret⟩ := h
    refine ⟨_, (pss_cons (ps_if (pt_val (pe_callB call_isi (by rfl) T.isinstance (by decide +kernel) (pa_cons (pv 0) (pa_cons (pe_bltn (v := .ty "str") (u := .type "str") (by rfl) T.str (by decide +kernel) rfl) pa_nil))))
      (pss_one (ps_ret (pe_ifExp (pt_cmpR op_eq (pv 0) pe_str (nomark _)) (pe_lst (pa_cons pe_int (pa_cons pe_int pa_nil))) (pe_lst (pa_cons pe_int (pa_cons pe_int pa_nil))))))
      pss_nil)
      (pss_one (ps_ret (pe_lst (pa_cons pe_int (pa_cons (pv 0) pa_nil)))))), ?_⟩
    cases w with
    | num n => exact ⟨_, rfl, _, _, _, _, false, rfl, .ty _, .base (.int _), kit_ty (by decide +kernel), _, rfl, iteF ⟨_, rfl, by show 2 ≤ sizeLine; decide, fun p np => ret p _ np (same_new np) upd_same⟩⟩
    | endless => exact ⟨_, rfl, _, _, _, _, true, rfl, .ty _, .base (.str _), kit_ty (by decide +kernel), _, rfl, iteT ⟨_, rfl, rfl, _, rfl, ifT rfl ⟨by decide, fun p np => ret p _ np (same_new np) upd_same⟩⟩⟩
    | dead => exact ⟨_, rfl, _, _, _, _, true, rfl, .ty _, .base (.str _), kit_ty (by decide +kernel), _, rfl, iteT ⟨_, rfl, rfl, _, rfl, ifF (by decide +kernel) ⟨by decide, fun p np => ret p _ np (same_new np) upd_same⟩⟩⟩
abbrev s_signs : Stmt := top 49
abbrev N_signs : List Str := ["_law_box", "_law_other", "_law_told"]
abbrev P_signs : List Str := ["_law_box", "_law_other"]
theorem sc_signs : FnScope N_signs P_signs (defScope s_signs) := ⟨rfl, rfl, rfl, by decide +kernel, rfl, by decide +kernel, by decide +kernel⟩
theorem ok_signs {C fa ga f f1 f2 f3 f4 f5 : Addr} {fd fd1 fd2 fd3 fd4 fd5 : FuncData} (D : DefAt K mg "_law_signs" s_signs P_signs f fd) (T : Txt K mg) (TL : LenTxt K mg C fa ga) (EO : EqO K C f1)
    (D_Len_eq : MethAt K C "__eq__" "Length.__eq__" s_Length_eq P_Length_eq f1 fd1) (D_Len_lt : MethAt K C "__lt__" "Length.__lt__" s_Length_lt P_Length_lt f2 fd2) (D_Len_le : MethAt K C "__le__" "Length.__le__" s_Length_le P_Length_le f3 fd3)
    (D_Len_gt : MethAt K C "__gt__" "Length.__gt__" s_Length_gt P_Length_gt f4 fd4) (D_Len_ge : MethAt K C "__ge__" "Length.__ge__" s_Length_ge P_Length_ge f5 fd5) : FnOk P w K mg base CX0 3 f fd P_signs (sp_signs C) := by
  have R_Len_eq : FnR P w K mg base CX0 1 f1 (sp_len_eqX K C) := raw_ok (ok_Len_eqX D_Len_eq T TL) D_Len_eq.bd
  have R_Len_lt : FnR P w K mg base CX0 1 f2 (sp_len_ord C fun d e => PySem.W.dataLt d e) := raw_ok (ok_Len_lt D_Len_lt T TL) D_Len_lt.bd
  have R_Len_le : FnR P w K mg base CX0 1 f3 (sp_len_ord C fun d e => !PySem.W.dataLt e d) := raw_ok (ok_Len_leX D_Len_le T TL) D_Len_le.bd
  have R_Len_gt : FnR P w K mg base CX0 1 f4 (sp_len_ord C fun d e => PySem.W.dataLt e d) := raw_ok (ok_Len_gt D_Len_gt T TL) D_Len_gt.bd
  have R_Len_ge : FnR P w K mg base CX0 1 f5 (sp_len_ord C fun d e => !PySem.W.dataLt d e) := raw_ok (ok_Len_ge D_Len_ge T TL) D_Len_ge.bd
  refine D.fn.ok sc_signs (fun vs H Q E h => ?_) (fun cdv A outer s H vs Q E hr h => ?_)
  · obtain ⟨a, b, v, w, rfl, _⟩ := h
    rfl
  · obtain ⟨a, b, v, w, rfl, ha, hb, ret⟩ := h
    refine ⟨_, (pss_cons (ps_asg (pe_lst (pa_cons (pe_cmpR (op_own (op := .Eq) (fun _ _ => rfl) D_Len_eq.at_ D_Len_eq.isf R_Len_eq (hr.mono (by decide)) pass0) (pv 0) (pv 1) (nomark _)) (pa_cons (pe_cmpR (op_neS EO R_Len_eq (hr.mono (by decide)) pass0) (pv 0) (pv 1) (nomark _)) (pa_cons (pe_cmpR (op_own (op := .Lt) (fun _ _ => rfl) D_Len_lt.at_ D_Len_lt.isf R_Len_lt (hr.mono (by decide)) pass0) (pv 0) (pv 1) (nomark _)) (pa_cons (pe_cmpR (op_own (op := .LtE) (fun _ _ => rfl) D_Len_le.at_ D_Len_le.isf R_Len_le (hr.mono (by decide)) pass0) (pv 0) (pv 1) (nomark _)) (pa_cons (pe_cmpR (op_own (op := .Gt) (fun _ _ => rfl) D_Len_gt.at_ D_Len_gt.isf R_Len_gt (hr.mono (by decide)) pass0) (pv 0) (pv 1) (nomark _)) (pa_cons (pe_cmpR (op_own (op := .GtE) (fun _ _ => rfl) D_Len_ge.at_ D_Len_ge.isf R_Len_ge (hr.mono (by decide)) pass0) (pv 0) (pv 1) (nomark _)) pa_nil))))))) (pg_name (i := 2) sc_signs.nd rfl (.inl rfl)))
      (pss_one (ps_ret (pe_op op_cat (pv 2) (pe_lst (pa_cons (pe_cmpR (op_own (op := .Eq) (fun _ _ => rfl) D_Len_eq.at_ D_Len_eq.isf R_Len_eq (hr.mono (by decide)) pass0) (pv 1) (pv 0) (nomark _)) (pa_cons (pe_cmpR (op_neS EO R_Len_eq (hr.mono (by decide)) pass0) (pv 1) (pv 0) (nomark _)) (pa_cons (pe_cmpR (op_own (op := .Lt) (fun _ _ => rfl) D_Len_lt.at_ D_Len_lt.isf R_Len_lt (hr.mono (by decide)) pass0) (pv 1) (pv 0) (nomark _)) (pa_cons (pe_cmpR (op_own (op := .LtE) (fun _ _ => rfl) D_Len_le.at_ D_Len_le.isf R_Len_le (hr.mono (by decide)) pass0) (pv 1) (pv 0) (nomark _)) (pa_cons (pe_cmpR (op_own (op := .Gt) (fun _ _ => rfl) D_Len_gt.at_ D_Len_gt.isf R_Len_gt (hr.mono (by decide)) pass0) (pv 1) (pv 0) (nomark _)) (pa_cons (pe_cmpR (op_own (op := .GtE) (fun _ _ => rfl) D_Len_ge.at_ D_Len_ge.isf R_Len_ge (hr.mono (by decide)) pass0) (pv 1) (pv 0) (nomark _)) pa_nil))))))))))), ?_⟩
    refine ⟨_, rfl, _, rfl, own_eq TL.nf ha hb ⟨_, rfl, _, rfl, own_ne TL.nf ha hb ⟨_, rfl, _, rfl, own_ord TL.nf ha hb ⟨_, rfl, _, rfl, own_ord TL.nf ha hb ⟨_, rfl, _, rfl, own_ord TL.nf ha hb ⟨_, rfl, _, rfl, own_ord TL.nf ha hb ⟨by show 6 ≤ sizeLine; decide, fun p np => ?_⟩⟩⟩⟩⟩⟩⟩
    have s1 := same_new (o := .lst ((sgn v w).map V.bl)) np
    have ha := ha.same s1
    have hb := hb.same s1
    refine ⟨_, rfl, _, rfl, _, rfl, own_eq TL.nf hb ha ⟨_, rfl, _, rfl, own_ne TL.nf hb ha ⟨_, rfl, _, rfl, own_ord TL.nf hb ha ⟨_, rfl, _, rfl, own_ord TL.nf hb ha ⟨_, rfl, _, rfl, own_ord TL.nf hb ha ⟨_, rfl, _, rfl, own_ord TL.nf hb ha ⟨by show 6 ≤ sizeLine; decide, fun q nq => ?_⟩⟩⟩⟩⟩⟩⟩
    have s2 := same_new (o := .lst ((sgn w v).map V.bl)) nq
    exact ⟨p, q, _, _, rfl, rfl, s2 _ _ upd_same, upd_same, by show 12 ≤ sizeLine; decide, fun r nr => ret r _ ((s1.trans s2).free nr) ((s1.trans s2).trans (same_new nr)) upd_same⟩
abbrev s_signs_due : Stmt := top 50
abbrev N_signs_due : List Str := ["_law_one", "_law_two", "_law_told"]
abbrev P_signs_due : List Str := ["_law_one", "_law_two"]
theorem sc_signs_due : FnScope N_signs_due P_signs_due (defScope s_signs_due) := ⟨rfl, rfl, rfl, by decide +kernel, rfl, by decide +kernel, by decide +kernel⟩
theorem ok_signs_due {f : Addr} {fd : FuncData} (D : DefAt K mg "_law_signs_due" s_signs_due P_signs_due f fd) : FnOk P w K mg base CX0 1 f fd P_signs_due sp_signs_due := by
  refine D.fn.ok sc_signs_due (fun vs H Q E h => ?_) (fun cdv A outer s H vs Q E hr h => ?_)
  · obtain ⟨a, b, v, w, rfl, _⟩ := h
    rfl
  · obtain ⟨a, b, v, w, rfl, ha, hb, ret⟩ := h
    refine ⟨_, (pss_cons (ps_asg (pe_lst (pa_cons (pe_cmpR (op_eqD hr.units) (pv 0) (pv 1) (nomark _)) (pa_cons (pe_cmpR (op_neD hr.units) (pv 0) (pv 1) (nomark _)) (pa_cons (pe_cmpR (op_ltDt hr.units) (pv 0) (pv 1) (nomark _)) (pa_cons (pe_cmpR (op_leDt hr.units) (pv 0) (pv 1) (nomark _)) (pa_cons (pe_cmpR (op_gtDt hr.units) (pv 0) (pv 1) (nomark _)) (pa_cons (pe_cmpR (op_geDt hr.units) (pv 0) (pv 1) (nomark _)) pa_nil))))))) (pg_name (i := 2) sc_signs_due.nd rfl (.inl rfl)))
      (pss_one (ps_ret (pe_op op_cat (pv 2) (pe_lst (pa_cons (pe_cmpR (op_eqD hr.units) (pv 1) (pv 0) (nomark _)) (pa_cons (pe_cmpR (op_neD hr.units) (pv 1) (pv 0) (nomark _)) (pa_cons (pe_cmpR (op_ltDt hr.units) (pv 1) (pv 0) (nomark _)) (pa_cons (pe_cmpR (op_leDt hr.units) (pv 1) (pv 0) (nomark _)) (pa_cons (pe_cmpR (op_gtDt hr.units) (pv 1) (pv 0) (nomark _)) (pa_cons (pe_cmpR (op_geDt hr.units) (pv 1) (pv 0) (nomark _)) pa_nil))))))))))), ?_⟩
    have dp : ∀ {H' : Hp} {a : Addr} {w : W}, H' a = some (.lst [.int (w.rank : Int), .int (w.cnt : Int)]) → Dp K H' (.ref a) (.list w.ds) := fun e => .lst (SqL.of e) (.cons (.int _) (.cons (.int _) .nil))
    have eqd : ∀ {H' : Hp} {a b : Addr} {v w : W} {Q' : VK}, H' a = some (.lst [.int (v.rank : Int), .int (v.cnt : Int)]) → H' b = some (.lst [.int (w.rank : Int), .int (w.cnt : Int)]) → Q' (.bl (eqW v w)) H' → rEqD K (.ref a) (.ref b) H' Q' := fun {H' a b v w Q'} ha hb q => ⟨_, _, dp ha, dp hb, (ds_shaped v).2, (ds_shaped w).2, by rw [eqW_list]; exact q⟩
    have ned : ∀ {H' : Hp} {a b : Addr} {v w : W} {Q' : VK}, H' a = some (.lst [.int (v.rank : Int), .int (v.cnt : Int)]) → H' b = some (.lst [.int (w.rank : Int), .int (w.cnt : Int)]) → Q' (.bl (!eqW v w)) H' → rNeD K (.ref a) (.ref b) H' Q' := fun {H' a b v w Q'} ha hb q => ⟨_, _, dp ha, dp hb, (ds_shaped v).2, (ds_shaped w).2, by rw [eqW_list]; exact q⟩
    have ord : ∀ {H' : Hp} {a b : Addr} {v w : W} {Q' : VK} (g : PyData → PyData → Bool), H' a = some (.lst [.int (v.rank : Int), .int (v.cnt : Int)]) → H' b = some (.lst [.int (w.rank : Int), .int (w.cnt : Int)]) → Q' (.bl (g (.list v.ds) (.list w.ds))) H' → rOrd K g (.ref a) (.ref b) H' Q' := fun {H' a b v w Q'} g ha hb q => ⟨_, _, dp ha, dp hb, (ds_alike v w).2, (fun z => nomatch z), by show min (0 + 1) (0 + 1) ≤ 60; decide, q⟩
    refine ⟨_, rfl, _, rfl, eqd ha hb ⟨_, rfl, _, rfl, ned ha hb ⟨_, rfl, _, rfl, ord _ ha hb ⟨_, rfl, _, rfl, ord _ ha hb ⟨_, rfl, _, rfl, ord _ ha hb ⟨_, rfl, _, rfl, ord _ ha hb ⟨by show 6 ≤ sizeLine; decide, fun p np => ?_⟩⟩⟩⟩⟩⟩⟩
    rw [ltW_list, ltW_list]
    have s1 := same_new (o := .lst ((sgn v w).map V.bl)) np
    have ha := s1 _ _ ha
    have hb := s1 _ _ hb
    refine ⟨_, rfl, _, rfl, _, rfl, eqd hb ha ⟨_, rfl, _, rfl, ned hb ha ⟨_, rfl, _, rfl, ord _ hb ha ⟨_, rfl, _, rfl, ord _ hb ha ⟨_, rfl, _, rfl, ord _ hb ha ⟨_, rfl, _, rfl, ord _ hb ha ⟨by show 6 ≤ sizeLine; decide, fun q nq => ?_⟩⟩⟩⟩⟩⟩⟩
    rw [ltW_list, ltW_list]
    have s2 := same_new (o := .lst ((sgn w v).map V.bl)) nq
    exact ⟨p, q, _, _, rfl, rfl, s2 _ _ upd_same, upd_same, by show 12 ≤ sizeLine; decide, fun r nr => ret r _ ((s1.trans s2).free nr) ((s1.trans s2).trans (same_new nr)) upd_same⟩
end L
namespace L
open PySem L2 Hv SlX Evl
variable {P : Program} {w : World} {K : PySem.W.Frag} {mg : Str → Option Value} {base : Heap}
abbrev s_shown : Stmt := top 51
abbrev N_shown : List Str := ["_law_box"]
abbrev P_shown : List Str := ["_law_box"]
theorem sc_shown : FnScope N_shown P_shown (defScope s_shown) := ⟨rfl, rfl, rfl, by decide +kernel, rfl, by decide +kernel, by decide +kernel⟩
theorem ok_shown {C fa ga f f1 f2 f3 : Addr} {fd fd1 fd2 fd3 : FuncData} (D : DefAt K mg "_law_shown" s_shown P_shown f fd) (T : Txt K mg) (TL : LenTxt K mg C fa ga)
    (D_Len_steps : PropAt K C "steps" "Length.steps" s_Length_steps P_Length_steps f1 fd1) (D_Len_word : PropAt K C "word" "Length.word" s_Length_word P_Length_word f2 fd2)
    (D_Len_str : MethAt K C "__str__" "Length.__str__" s_Length_str P_Length_str f3 fd3) : OkG P w K mg base CX0 6 f fd P_shown (sp_shown C) := by
  have R_Len_steps : FnR P w K mg base CX0 1 f1 (sp_len_steps C) := raw_ok (ok_Len_steps D_Len_steps TL) D_Len_steps.bd
  have R_Len_word : FnR P w K mg base CX0 1 f2 (sp_len_word C) := raw_ok (ok_Len_word D_Len_word TL) D_Len_word.bd
  have R_Len_str : FnR P w K mg base CX0 3 f3 (sp_len_str C) := raw_ok (ok_Len_str D_Len_str T TL D_Len_word) D_Len_str.bd
  refine okG0 D.fn sc_shown (fun vs H Q E h => ?_) (fun cdv A outer s H vs Q E hG hr h => ?_)
  · obtain ⟨a, w, rfl, _⟩ := h
    rfl
  · obtain ⟨a, w, rfl, hw, hc, ret⟩ := h
    refine ⟨_, (pss_one (ps_ret (pe_callB (cr_repr hG hr.units) (by rfl) T.repr (by decide +kernel) (pa_cons (pe_lst (pa_cons (pe_propO (pv 0) TL.sc D_Len_steps.pr R_Len_steps (hr.mono (by decide))) (pa_cons (pe_propO (pv 0) TL.sc D_Len_word.pr R_Len_word (hr.mono (by decide))) (pa_cons (pe_callTy (call_strO D_Len_str.at_ D_Len_str.isf R_Len_str (hr.mono (by decide)) pass0) (by rfl) T.str (by decide +kernel) (pa_cons (pv 0) pa_nil)) pa_nil)))) pa_nil)))), ?_⟩
    obtain ⟨dx, ss, hs⟩ := hw.slt
    refine ⟨_, rfl, a, dx, _, rfl, hs, a, w, rfl, hw, ?_⟩
    refine ⟨_, rfl, a, dx, _, rfl, hs, a, w, rfl, hw, fun H1 s1 => ?_⟩
    refine ⟨_, rfl, a, dx, _, rfl, slt_same hs s1, a, w, rfl, hw.same s1, hc, fun H2 s2 => ⟨_, rfl, ?_⟩⟩
    refine ⟨by show 3 ≤ sizeLine; decide, fun p np => ?_⟩
    exact (shown_fit hc).repr (.lst (SqL.of upd_same) (.cons (steps_dp w) (.cons (.str _) (.cons (.str _) .nil)))) (by decide) (by decide) (ret _ ((s1.trans s2).trans (same_new np)))
abbrev s_due : Stmt := top 52
abbrev N_due : List Str := ["_law_worth_here"]
abbrev P_due : List Str := ["_law_worth_here"]
theorem sc_due : FnScope N_due P_due (defScope s_due) := ⟨rfl, rfl, rfl, by decide +kernel, rfl, by decide +kernel, by decide +kernel⟩
theorem ok_due {f : Addr} {fd : FuncData} (D : DefAt K mg "_law_due" s_due P_due f fd) (T : Txt K mg) : OkG P w K mg base CX0 1 f fd P_due sp_wdue := by
  refine okG0 D.fn sc_due (fun vs H Q E h => ?_) (fun cdv A outer s H vs Q E hG hr h => ?_)
  · obtain ⟨w, rfl, _⟩ := h
    rfl
  · obtain ⟨w, rfl, hc, ret⟩ := h
    refine ⟨_, (pss_cons (ps_if (pt_val (pe_callB call_isi (by rfl) T.isinstance (by decide +kernel) (pa_cons (pv 0) (pa_cons (pe_bltn (v := .ty "str") (u := .type "str") (by rfl) T.str (by decide +kernel) rfl) pa_nil))))
      (pss_one (ps_ret (pe_callB (cr_repr hG hr.units) (by rfl) T.repr (by decide +kernel) (pa_cons (pe_lst (pa_cons pe_non (pa_cons (pv 0) (pa_cons (pv 0) pa_nil)))) pa_nil))))
      pss_nil)
      (pss_one (ps_ret (pe_callB (cr_repr hG hr.units) (by rfl) T.repr (by decide +kernel) (pa_cons (pe_lst (pa_cons (pv 0) (pa_cons pe_str (pa_cons (pe_callTy call_str_int (by rfl) T.str (by decide +kernel) (pa_cons (pv 0) pa_nil)) pa_nil)))) pa_nil))))), ?_⟩
    cases w with
    | num n =>
      refine ⟨_, rfl, _, _, _, _, false, rfl, .ty _, .base (.int _), kit_ty (by decide +kernel), _, rfl, iteF ⟨_, rfl, _, rfl, _, rfl, big_log hc, by show 3 ≤ sizeLine; decide, fun p np => ?_⟩⟩
      exact (shown_fit (w := .num n) hc).repr (.lst (SqL.of upd_same) (.cons (.int _) (.cons (.str _) (.cons (.str _) .nil)))) (by decide) (by decide) (ret _ (same_new np))
    | endless =>
      refine ⟨_, rfl, _, _, _, _, true, rfl, .ty _, .base (.str _), kit_ty (by decide +kernel), _, rfl, iteT ⟨_, rfl, _, rfl, by show 3 ≤ sizeLine; decide, fun p np => ?_⟩⟩
      exact (shown_fit (w := .endless) hc).repr (.lst (SqL.of upd_same) (.cons .non (.cons (.str _) (.cons (.str _) .nil)))) (by decide) (by decide) (ret _ (same_new np))
    | dead =>
      refine ⟨_, rfl, _, _, _, _, true, rfl, .ty _, .base (.str _), kit_ty (by decide +kernel), _, rfl, iteT ⟨_, rfl, _, rfl, by show 3 ≤ sizeLine; decide, fun p np => ?_⟩⟩
      exact (shown_fit (w := .dead) hc).repr (.lst (SqL.of upd_same) (.cons .non (.cons (.str _) (.cons (.str _) .nil)))) (by decide) (by decide) (ret _ (same_new np))
abbrev s_is_length : Stmt := top 53
abbrev N_is_length : List Str := ["_law_thing"]
abbrev P_is_length : List Str := ["_law_thing"]
theorem sc_is_length : FnScope N_is_length P_is_length (defScope s_is_length) := ⟨rfl, rfl, rfl, by decide +kernel, rfl, by decide +kernel, by decide +kernel⟩
theorem ok_is_length {f : Addr} {fd : FuncData} (D : DefAt K mg "_law_is_length" s_is_length P_is_length f fd) (T : Txt K mg) : FnOk P w K mg base CX0 1 f fd P_is_length (sp_is_len K) := by
  refine D.fn.ok sc_is_length (fun vs H Q E h => ?_) (fun cdv A outer s H vs Q E hr h => ?_)
  · obtain ⟨b, v, d, rfl, _⟩ := h
    rfl
  · obtain ⟨b, v, d, rfl, hd, ret⟩ := h
    refine ⟨_, (pss_cons (ps_if (pt_val (pe_callB call_isi (by rfl) T.isinstance (by decide +kernel) (pa_cons (pv 0) (pa_cons (pe_bltn (v := .ty "str") (u := .type "str") (by rfl) T.str (by decide +kernel) rfl) pa_nil))))
      (pss_one (ps_ret (pe_cmpR op_in_seq (pv 0) (pe_lst (pa_cons pe_str (pa_cons pe_str pa_nil))) (by rfl))))
      pss_nil)
      (pss_one (ps_ret (pe_and (pe_callB call_isi (by rfl) T.isinstance (by decide +kernel) (pa_cons (pv 0) (pa_cons (pe_bltn (v := .ty "int") (u := .type "int") (by rfl) T.int (by decide +kernel) rfl) pa_nil))) (pe_and (pe_not (pe_callB call_isi (by rfl) T.isinstance (by decide +kernel) (pa_cons (pv 0) (pa_cons (pe_bltn (v := .ty "bool") (u := .type "bool") (by rfl) T.bool (by decide +kernel) rfl) pa_nil)))) (pe_one (pe_cmpR op_ge (pv 0) pe_int (nomark _)))))))), ?_⟩
    refine ⟨_, rfl, _, _, _, _, isStrD d, rfl, .ty _, hd.ty, kit_str (K := K) d, _, rfl, ?_⟩
    cases hs : isStrD d with
    | true =>
      cases hd with
      | str z =>
        refine iteT ⟨_, rfl, by decide, fun p np => ⟨p, _, rfl, .inl (SqL.of upd_same), rfl, rfl, ?_⟩⟩
        show Q (.bl (inV (.str z) [.str (Str.ofString "endless"), .str (Str.ofString "dead")])) _
        rw [inV_two]
        have q := ret _ (same_new (o := .lst [.str (Str.ofString "endless"), .str (Str.ofString "dead")]) np)
        have un : (lenD (.str z)).isSome = decide (z = Str.ofString "endless" ∨ z = Str.ofString "dead") := by
          show (if z = Str.ofString "endless" then some W.endless else if z = Str.ofString "dead" then some .dead else none).isSome = _
          by_cases c1 : z = Str.ofString "endless"
          · rw [if_pos c1, decide_eq_true (Or.inl c1)]
            rfl
          · by_cases c2 : z = Str.ofString "dead"
            · rw [if_neg c1, if_pos c2, decide_eq_true (Or.inr c2)]
              rfl
            · rw [if_neg c1, if_neg c2, decide_eq_false (fun q => q.elim c1 c2)]
              rfl
        rw [un] at q
        exact q
      | _ => cases hs
    | false =>
      refine iteF ?_
      obtain ⟨b1, b2, k1, k2, e⟩ := kit_int (K := K) d
      have no : isIntD d = false → Q (.bl false) H := fun q => by
        have e2 : (lenD d).isSome = false := by
          cases d with
          | int _ => cases q
          | str _ => cases hs
          | _ => rfl
        have r := ret H (Same.refl H)
        rw [e2] at r
        exact r
      refine ⟨_, rfl, _, _, _, _, b1, rfl, .ty _, hd.ty, k1, b1, rfl, ?_⟩
      cases b1 with
      | false => exact iteF (no e.symm)
      | true =>
        refine iteT ⟨_, rfl, _, _, _, _, b2, rfl, .ty _, hd.ty, k2, _, rfl, _, rfl, ?_⟩
        cases b2 with
        | true => exact iteF (no e.symm)
        | false =>
          refine iteT ?_
          have hi : isIntD d = true := e.symm
          cases hd with
          | int i =>
            refine ⟨_, rfl, _, _, rfl, rfl, ?_⟩
            have r := ret H (Same.refl H)
            have un : (lenD (.int i)).isSome = decide (0 ≤ i) := by
              show (if 0 ≤ i then some (W.num i.toNat) else none).isSome = _
              by_cases c1 : 0 ≤ i
              · rw [if_pos c1, decide_eq_true c1]
                rfl
              · rw [if_neg c1, decide_eq_false c1]
                rfl
            rw [un] at r
            exact r
          | _ => cases hi
abbrev s_odd : Stmt := top 54
abbrev N_odd : List Str := ["_law_bag_here", "_law_some"]
abbrev P_odd : List Str := ["_law_bag_here"]
theorem sc_odd : FnScope N_odd P_odd (defScope s_odd) := ⟨rfl, rfl, rfl, by decide +kernel, rfl, by decide +kernel, by decide +kernel⟩
theorem ok_odd {f f1 : Addr} {fd fd1 : FuncData} (D : DefAt K mg "_law_odd" s_odd P_odd f fd) (T : Txt K mg) (D_take : DefAt K mg "_law_take" s_take P_take f1 fd1) : FnOk P w K mg base CX0 2 f fd P_odd (sp_odd K ODD) := by
  have G_take : FnOk P w K mg base CX0 1 f1 fd1 P_take sp_take := ok_take D_take T
  refine D.fn.ok sc_odd (fun vs H Q E h => ?_) (fun cdv A outer s H vs Q E hr h => ?_)
  · obtain ⟨b, n, rfl, _⟩ := h
    rfl
  · obtain ⟨b, n, rfl, hb, hn, ret⟩ := h
    refine ⟨_, (pss_cons (ps_asg (pe_lst (pa_cons pe_non (pa_cons pe_bl (pa_cons pe_bl (pa_cons (pe_un un_neg pe_int) (pa_cons pe_str (pa_cons pe_str (pa_cons pe_str (pa_cons pe_str (pa_cons pe_str (pa_cons (pe_tup pa_nil) (pa_cons (pe_tup (pa_cons pe_int pa_nil)) (pa_cons (pe_lst (pa_cons pe_int pa_nil)) (pa_cons pe_dnewK (pa_cons pe_str (pa_cons pe_str (pa_cons (pe_un un_neg (pe_op op_pow pe_int pe_int)) pa_nil))))))))))))))))) (pg_name (i := 1) sc_odd.nd rfl (.inl rfl)))
      (pss_cons (ps_asg (pe_op op_cat (pv 1) (pe_lst (pa_cons pe_int (pa_cons pe_int (pa_cons pe_str (pa_cons pe_str (pa_cons pe_str (pa_cons pe_str (pa_cons (pe_tup (pa_cons pe_str pa_nil)) (pa_cons (pe_lst (pa_cons pe_str pa_nil)) (pa_cons (pe_un un_neg pe_int) (pa_cons pe_str (pa_cons pe_str pa_nil))))))))))))) (pg_name (i := 1) sc_odd.nd rfl (.inl rfl)))
      (pss_one (ps_ret (pe_ix ix_list (pv 1) (pe_call G_take (hr.mono (by decide)) rfl D_take.mg D_take.fn.kp D_take.bd .nil pass0 (pa_cons (pv 0) (pa_cons (pe_callB call_len_seq (by rfl) T.len (by decide +kernel) (pa_cons (pv 1) pa_nil)) pa_nil))) (fun _ _ => rfl)))))), ?_⟩
    refine q_asgQ (show EvQA K H _ _ _ ODD1 from (eqa_cons eq_non (eqa_cons eq_bl (eqa_cons eq_bl (eqa_cons (eq_ev (ev_un ev_c ru_neg)) (eqa_cons eq_str (eqa_cons eq_str (eqa_cons eq_str (eqa_cons eq_str (eqa_cons eq_str (eqa_cons (eq_tup eqa_nil) (eqa_cons (eq_tup (eqa_cons eq_int eqa_nil)) (eqa_cons (eq_lst (eqa_cons eq_int eqa_nil)) (eqa_cons eq_emp (eqa_cons eq_str (eqa_cons eq_str (eqa_cons (eq_ev (ev_un (ev_op ev_c ev_c (rv_I ⟨by decide, by decide, by decide⟩)) ru_neg)) eqa_nil))))))))))))))))) (Ex.refl H) (by decide) fun p1 vs1 H1 e1 h1 n1 l1 d1 => ?_
    refine q_catQ (p := p1) rfl h1 l1 d1 (show EvQA K H _ _ _ ODD2 from (eqa_cons eq_int (eqa_cons eq_int (eqa_cons eq_str (eqa_cons eq_str (eqa_cons eq_str (eqa_cons eq_str (eqa_cons (eq_tup (eqa_cons eq_str eqa_nil)) (eqa_cons (eq_lst (eqa_cons eq_str eqa_nil)) (eqa_cons (eq_ev (ev_un ev_c ru_neg)) (eqa_cons eq_str (eqa_cons eq_str eqa_nil)))))))))))) e1 (by decide) fun p2 vs2 H2 e2 h2 n2 l2 d2 => ?_
    exact s_oddat (m := (vs2.length : Int)) hb hn (e1.trans e2) rfl rfl h2 (fresh_back e1 n2) d2 (fun Q q => ⟨_, rfl, p2, _, rfl, .inl (SqL.of h2), q⟩) (by rw [l2]) (by decide) (by decide) ret
end L

namespace L
open PySem L2 Hv SlX Evl
theorem LenAt.put {C : Addr} {H : Hp} {a L : Addr} {w : W} {xs : List V} {o : HO} (h : LenAt C H a w) (hL : H L = some (.lst xs)) : LenAt C (upd H L o) a w := by
  obtain ⟨dx, pt, h1, h2⟩ := h
  have e1 : pt ≠ L := fun e => by rw [e, hL] at h2; cases h2
  refine ⟨dx, pt, ?_, by rw [upd_ne e1]; exact h2⟩
  rcases h1 with ⟨q, z⟩ | ⟨q, z⟩
  · cases z
  · have e2 : a ≠ L := fun e => by rw [e, hL] at q; cases q
    have e3 : dx ≠ L := fun e => by rw [e, hL] at z; cases z
    exact .inr ⟨by rw [upd_ne e2]; exact q, by rw [upd_ne e3]; exact z⟩
theorem LenAt.but {C : Addr} {H H' : Hp} {a b : Addr} {n : Nat} {w : W} (h : LenAt C H a w) (hb : Bag H b n) (e : But b H H') : LenAt C H' a w := by
  obtain ⟨dx, pt, h1, h2⟩ := h
  obtain ⟨_, _, _, hx, _⟩ := hb
  have np : pt ≠ b := fun q => by rw [q, hx] at h2; cases h2
  rcases h1 with ⟨_, z⟩ | ⟨h1, h3⟩
  · cases z
  · have na : a ≠ b := fun q => by rw [q, hx] at h1; cases h1
    have nd : dx ≠ b := fun q => by rw [q, hx] at h3; cases h3
    exact ⟨dx, pt, .inr ⟨e _ _ na h1, e _ _ nd h3⟩, e _ _ np h2⟩
/-- lengths one by one -/
inductive Lens (C : Addr) (H : Hp) : List Addr → List W → Prop
  | nil : Lens C H [] []
  | cons {a : Addr} {w : W} {as : List Addr} {ws : List W} : LenAt C H a w → Lens C H as ws → Lens C H (a :: as) (w :: ws)
theorem Lens.imp {C : Addr} {H H' : Hp} (k : ∀ a w, LenAt C H a w → LenAt C H' a w) : ∀ {as : List Addr} {ws : List W}, Lens C H as ws → Lens C H' as ws
  | _, _, .nil => .nil
  | _, _, .cons h t => .cons (k _ _ h) (Lens.imp k t)
theorem Lens.snoc {C : Addr} {H : Hp} {a : Addr} {w : W} (h : LenAt C H a w) : ∀ {as : List Addr} {ws : List W}, Lens C H as ws → Lens C H (as ++ [a]) (ws ++ [w])
  | _, _, .nil => .cons h .nil
  | _, _, .cons g t => .cons g (Lens.snoc h t)
theorem Lens.length {C : Addr} {H : Hp} : ∀ {as : List Addr} {ws : List W}, Lens C H as ws → as.length = ws.length
  | _, _, .nil => rfl
  | _, _, .cons _ t => congrArg (· + 1) (Lens.length t)
theorem Lens.get {C : Addr} {H : Hp} : ∀ {as : List Addr} {ws : List W} {i : Nat} {a : Addr}, Lens C H as ws → as[i]? = some a → ∃ w, ws[i]? = some w ∧ LenAt C H a w
  | _, _, _, _, .nil, e => by simp at e
  | _, _, 0, _, .cons h _, e => by simp at e; subst e; exact ⟨_, rfl, h⟩
  | _, _, i + 1, a, .cons _ t, e => Lens.get (i := i) (a := a) t (by simpa using e)
theorem w_dq {K : PySem.W.Frag} {H : Hp} (b : Addr) (w : W) : ∃ d, Dq K b H w.v d ∧ lenD d = some w := by
  cases w with
  | num n => exact ⟨.int n, .int _, by show (if (0 : Int) ≤ n then some (W.num (n : Int).toNat) else none) = _; rw [if_pos (by omega)]; rfl⟩
  | endless => exact ⟨.str (Str.ofString "endless"), .str _, by decide +kernel⟩
  | dead => exact ⟨.str (Str.ofString "dead"), .str _, by decide +kernel⟩
theorem len_calm {P : Program} {w : World} {K : PySem.W.Frag} {mg : Str → Option Value} {base : Heap} {k : Nat} {f C : Addr} {fd : FuncData} {ps : List Str} {c : Nat → Addr} (F : FnOk P w K mg base (L2.CX P w) k f fd ps (sp_len_initX K c C)) : FnOk P w K mg base CX0 k f fd ps (sp_len_init C) := by
  have conv : ∀ vs H Q E, sp_len_init C vs H Q E → sp_len_initX K c C vs H Q E0 := by
    rintro vs H Q E ⟨x, dx, v, rfl, h1, h2, h3, h4⟩
    obtain ⟨d, hd, hl⟩ := w_dq (K := K) (H := H) x v
    refine ⟨x, x, dx, v.v, d, rfl, hd, h1, h2, h3, fun z => ?_, fun u hu => ?_⟩
    · rw [hl] at z; cases z
    · rw [hl] at hu; cases hu; exact h4
  refine ⟨fun vs H Q E h => F.len _ _ _ _ (conv _ _ _ E h), fun A outer s H args us vs Q E hr e0 hb r h => codeAny_mono (F.run A outer s H args us vs Q E0 hr e0 hb r (conv _ _ _ E h)) fun r s' hq => ?_⟩
  match r, hq with
  | .error e, hq => obtain ⟨_, _, _, _, _, _, _, _, _, _, _, _, z⟩ := hq; exact z
  | .ok (.ret u), hq => exact hq
  | .ok .next, hq => exact hq
  | .ok .brk, hq => exact hq
  | .ok .cont, hq => exact hq
section
variable {K : PySem.W.Frag} {C : Addr} {i j a : Nat} {vs : List V} {ss : List Str} {ws : List W} {te : TE} {σ : L2.St} {H : Hp} {Q : VK}
theorem lc_strs (hv : σ[i]? = some (some (.ref a))) (hA : H a = some (.lst vs)) (hl : vs.length = ss.length) (h5 : ss.length ≤ 1000) (hw : ∀ x, wipe ((wipe σ [j]).set j (some x)) [j] = wipe σ [j])
    (step : ∀ (k : Nat) v z H', vs[k]? = some v → ss[k]? = some z → Same H H' → ∀ Q : VK, (∀ H2, Same H' H2 → Q (.str z) H2) → te ((wipe σ [j]).set j (some v)) H' Q)
    (ret : ∀ p H', H p = none → Same H H' → H' p = some (.lst (ss.map V.str)) → Q (.ref p) H') : tLc (iList K (tVar i)) (gName j) tYes te [j] σ H Q := by
  refine ⟨_, hv, a, rfl, ⟨_, SqL.of hA⟩, fun D nD => ?_⟩
  refine lc_list (K := K) (a := a) (xs := vs) (fun k H' => H' D = some (.lst ((ss.take k).map V.str)) ∧ Same H H') ⟨upd_same, same_new nD⟩ (fun k H' _ h => SqL.of (h.2 _ _ hA)) ?_ ?_
  · rintro k v H2 hk ⟨h1, h2⟩
    have hk2 : k < ss.length := hl ▸ (List.getElem?_eq_some_iff.mp hk).1
    refine ⟨hw v, ?_⟩
    dsimp only [tYes]
    rw [if_pos rfl]
    refine step k v ss[k] H2 hk (List.getElem?_eq_getElem hk2) h2 _ fun H3 s3 => ⟨_, s3 _ _ h1, ?_, ?_, ?_⟩
    · rw [List.length_map, List.length_take]
      have : 1000 < sizeLine := by decide
      omega
    · rw [upd_same, List.take_succ, List.getElem?_eq_getElem hk2, List.map_append]
      rfl
    · exact same_put (h2.trans s3) nD
  · rintro H2 ⟨h1, h2⟩
    rw [hl, List.take_length] at h1
    exact ret D H2 nD h2 h1
theorem lc_boxes (hv : σ[i]? = some (some (.ref a))) (hA : H a = some (.lst (ws.map W.v))) (h5 : ws.length ≤ 1000) (hw : ∀ x, wipe ((wipe σ [j]).set j (some x)) [j] = wipe σ [j]) (hj : ∀ x, ((wipe σ [j]).set j (some x))[j]? = some (some x))
    (ret : ∀ p as H', H p = none → Same H H' → H' p = some (.lst (as.map V.ref)) → Lens C H' as ws → Q (.ref p) H') : tLc (iList K (tVar i)) (gName j) tYes (tMake C (sp_len_init C) [] E0 (tCons (tVar j) tNil)) [j] σ H Q := by
  refine ⟨_, hv, a, rfl, ⟨_, SqL.of hA⟩, fun D nD => ?_⟩
  refine lc_list (K := K) (a := a) (xs := ws.map W.v) (fun k H' => ∃ as : List Addr, Lens C H' as (ws.take k) ∧ H' D = some (.lst (as.map V.ref)) ∧ Same H H') ⟨[], .nil, upd_same, same_new nD⟩ (fun k H' _ h => SqL.of (h.choose_spec.2.2 _ _ hA)) ?_ ?_
  · rintro k v H2 hk ⟨as, ls, he, s2⟩
    have hk2 : k < ws.length := by simpa using (List.getElem?_eq_some_iff.mp hk).1
    have ev : v = (ws[k]).v := by
      rw [List.getElem?_map, List.getElem?_eq_getElem hk2] at hk
      exact (Option.some.inj hk).symm
    subst ev
    refine ⟨hw _, ?_⟩
    dsimp only [tYes]
    rw [if_pos rfl]
    refine use_len (w := ws[k]) (evl_make rfl (ea_cons (ev_var (hj _)) ea_nil)) fun p H3 e3 l3 => ⟨_, e3 _ _ he, ?_, as ++ [p], ?_, ?_, ?_⟩
    · have := ls.length
      rw [List.length_take] at this
      rw [List.length_map]
      have : 1000 < sizeLine := by decide
      omega
    · have t2 : ws.take (k + 1) = ws.take k ++ [ws[k]] := by
        rw [List.take_succ, List.getElem?_eq_getElem hk2]
        rfl
      rw [t2]
      exact ((ls.imp fun a w l => l.same e3).snoc l3).imp fun a w l => LenAt.put l (e3 _ _ he)
    · rw [upd_same, List.map_append]
      rfl
    · exact same_put (Same.trans s2 e3) nD
  · rintro H2 ⟨as, ls, he, s2⟩
    rw [List.length_map, List.take_length] at ls
    exact ret D as H2 nD s2 he ls
def shs (ws : List W) : List Str := ws.map fun w => (shownW w).shown
theorem shs_fit (h : ∀ w ∈ ws, w.cnt < 2 ^ 1900) : ∀ z ∈ shs ws, Fit (.str z) 1 sizeLine := by
  intro z hz
  obtain ⟨w, hw, rfl⟩ := List.mem_map.mp hz
  exact (shown_fit (h w hw)).q.str (by decide)
def Lists (ta : TE) (σ : L2.St) (H : Hp) (ss : List Str) : Prop := ∀ H1, Same H H1 → ∀ Q : VK, (∀ p H', H1 p = none → Same H1 H' → H' p = some (.lst (ss.map V.str)) → Q (.ref p) H') → ta σ H1 Q
theorem ne_strs {ta tb : TE} (fs : ∀ z ∈ ss, Fit (.str z) 1 sizeLine) (ha : Lists ta σ H ss) (hb : Lists tb σ H ss) (q : ∀ H', Same H H' → Q (.bl false) H') : tOp (rNeD K) ta tb σ H Q := by
  refine ha H (Same.refl H) _ fun p1 H1 n1 s1 h1 => hb H1 s1 _ fun p2 H2 n2 s2 h2 => ?_
  refine ⟨.list (ss.map PyData.str), .list (ss.map PyData.str), .lst (SqL.of (s2 _ _ h1)) (dp_strs _), .lst (SqL.of h2) (dp_strs _), shaped_strs fs, shaped_strs fs, ?_⟩
  rw [refl_strs fs]
  exact q _ (s1.trans s2)
theorem eq_strs {ta tb : TE} (fs : ∀ z ∈ ss, Fit (.str z) 1 sizeLine) (ha : Lists ta σ H ss) (hb : Lists tb σ H ss) (q : ∀ H', Same H H' → Q (.bl true) H') : tOp (rEqD K) ta tb σ H Q := by
  refine ha H (Same.refl H) _ fun p1 H1 n1 s1 h1 => hb H1 s1 _ fun p2 H2 n2 s2 h2 => ?_
  refine ⟨.list (ss.map PyData.str), .list (ss.map PyData.str), .lst (SqL.of (s2 _ _ h1)) (dp_strs _), .lst (SqL.of h2) (dp_strs _), shaped_strs fs, shaped_strs fs, ?_⟩
  rw [refl_strs fs]
  exact q _ (s1.trans s2)
theorem lists_shown {as : List Addr} (hv : σ[i]? = some (some (.ref a))) (hA : H a = some (.lst (as.map V.ref))) (ls : Lens C H as ws) (h5 : ws.length ≤ 1000) (hc : ∀ w ∈ ws, w.cnt < 2 ^ 1900) (hw : ∀ x, wipe ((wipe σ [j]).set j (some x)) [j] = wipe σ [j]) (hj : ∀ x, ((wipe σ [j]).set j (some x))[j]? = some (some x)) :
    Lists (tLc (iList K (tVar i)) (gName j) tYes (tCall (sp_shown C) [] E0 (tCons (tVar j) tNil)) [j]) σ H (shs ws) := fun H1 s1 Q ret => by
  refine lc_strs hv (s1 _ _ hA) (by rw [List.length_map, ls.length]; exact (List.length_map _).symm) (by unfold shs; rw [List.length_map]; exact h5) hw ?_ ret
  intro k v z H' hk hz s2 Q' q
  rw [List.getElem?_map] at hk
  cases e : as[k]? with
  | none => rw [e] at hk; cases hk
  | some x =>
    rw [e] at hk
    cases hk
    obtain ⟨w, hw1, l⟩ := ls.get e
    unfold shs at hz
    rw [List.getElem?_map, hw1] at hz
    cases hz
    exact ⟨_, hj _, x, w, rfl, (l.same s1).same s2, hc w (List.mem_of_getElem? hw1), q⟩
theorem lists_due (hv : σ[i]? = some (some (.ref a))) (hA : H a = some (.lst (ws.map W.v))) (h5 : ws.length ≤ 1000) (hc : ∀ w ∈ ws, w.cnt < 2 ^ 1900) (hw : ∀ x, wipe ((wipe σ [j]).set j (some x)) [j] = wipe σ [j]) (hj : ∀ x, ((wipe σ [j]).set j (some x))[j]? = some (some x)) :
    Lists (tLc (iList K (tVar i)) (gName j) tYes (tCall sp_wdue [] E0 (tCons (tVar j) tNil)) [j]) σ H (shs ws) := fun H1 s1 Q ret => by
  refine lc_strs hv (s1 _ _ hA) (by unfold shs; rw [List.length_map, List.length_map]) (by unfold shs; rw [List.length_map]; exact h5) hw ?_ ret
  intro k v z H' hk hz s2 Q' q
  rw [List.getElem?_map] at hk
  unfold shs at hz
  rw [List.getElem?_map] at hz
  cases e : ws[k]? with
  | none => rw [e] at hk; cases hk
  | some w =>
    rw [e] at hk hz
    cases hk
    cases hz
    exact ⟨_, hj _, w, rfl, hc w (List.mem_of_getElem? e), q⟩
theorem dq_bls {b : Addr} : ∀ bs : List Bool, DqAll K b H (bs.map V.bl) (bs.map PyData.bool)
  | [] => .nil
  | z :: l => .cons (.bl z) (dq_bls l)
theorem fit_bls : ∀ bs : List Bool, FitAll (bs.map PyData.bool) 1 bs.length
  | [] => .nil
  | z :: l => by
    have := FitAll.cons (Fit.bool (b := z) (m := 1) (n := 0)) (fit_bls l)
    rw [Nat.zero_add, Nat.add_comm] at this
    exact this
theorem rd_bls {p : Addr} {bs : List Bool} (hp : H p = some (.lst (bs.map V.bl))) (hl : bs.length ≤ 100) (q : Q (.str (PyData.list (bs.map PyData.bool)).shown) H) : rReprQ K [.ref p] H Q :=
  rd_reprQ (b := p + 1) (.lst hp (Nat.ne_of_lt (Nat.lt_succ_self p)) (dq_bls bs)) (Fit.list (fit_bls bs)).q (by decide) (by omega) q
end
end L
namespace L
open PySem L2 Hv SlX Evl
variable {P : Program} {w : World} {K : PySem.W.Frag} {mg : Str → Option Value} {base : Heap}
def sp_right (K : PySem.W.Frag) (Tb : List (Addr × Str)) : Sp := fun vs H Q _ => ∃ (b : Addr) (n : Nat), vs = [.ref b] ∧ Bag H b n ∧ n < 800000 ∧ LamX.Tabs Tb H ∧ ∀ H', ExtB b H H' → Bag H' b (n + 20) → LamX.Tabs Tb H' → Q (.bl true) H'
abbrev s_right : Stmt := top 55
abbrev N_right : List Str := ["_law_bag_here", "_law_worths", "_law_near", "_law_boxes", "_law_at", "_law_by", "_law_due_here", "_law_far", "_law_odd_here", "_law_told", "_law_k", "_law_worth_here", "_law_box"]
abbrev P_right : List Str := ["_law_bag_here"]
theorem sc_right : FnScope N_right P_right (defScope s_right) := ⟨rfl, rfl, rfl, by decide +kernel, rfl, by decide +kernel, by decide +kernel⟩
theorem kb_len {f : Addr} {fd : FuncData} (F : Fun K "__init__" "Length.__init__" s_Length_init f fd) : KBn K fd P_Length_init 1 ["value"] (fun us ws => match us, ws with | [u], [a] => [u, a] | _, _ => []) (fun us ws => match us, ws with | [u], [a] => [u, a] | _, _ => []) := by
  obtain ⟨oc, od, kV, doc, pm, an, cdv, ct, osl, rfl, lk, hcd⟩ := F.ex
  refine ⟨fun s us ws _ h1 h2 => ?_, fun {vs us zs ws} r rz => ?_⟩
  · match us, ws, h1, h2 with
    | [_], [_], _, _ => exact .of_eq rfl
  · cases r with
    | nil => exact .nil
    | cons r0 t0 =>
      cases t0 with
      | cons _ _ => exact .nil
      | nil =>
        cases rz with
        | nil => exact .nil
        | cons z0 q0 =>
          cases q0 with
          | cons _ _ => exact .nil
          | nil => exact .cons r0 (.cons z0 .nil)
def toldW (d : PyData) : List Str := match lenD d with
  | some w => [Str.ofString "told", (PyData.str (shownW w).shown).shown]
  | none => [Str.ofString "InvalidLength", d.shown]
theorem len_caught {C : Addr} {c : Nat → Addr} {b : Addr} {H : Hp} {v : V} {d : PyData} {Q : VK} (hd : Dq K b H v d) (g : GoodD d) (EX : ErrIx K c 11) (ret : ∀ q H2, H q = none → Same H H2 → H2 q = some (.lst ((toldW d).map V.str)) → Q (.ref q) H2) :
    ∀ x dx, H x = none → H dx = none → dx ≠ x → lk (sp_len_initX K c C) [.ref x, v] (upd (upd H dx (.own x)) x (.ins C dx [])) (fun v H2 => v = .non ∧ sp_shown C [.ref x] H2 (toldQ K Q) E0) (echQ K c Q) := by
  intro x dx nx nd ne
  have s1 : Same H (upd (upd H dx (.own x)) x (.ins C dx [])) := (same_new nd).trans (same_new (by rw [upd_ne ne.symm]; exact nx))
  refine lk_in ⟨b, x, dx, v, d, rfl, hd.same s1, upd_same, by rw [upd_ne ne, upd_same], ne, fun h => ?_, fun w hw H2 keep hl => ⟨rfl, ?_⟩⟩
  · refine ech_tell rfl EX (hd.same s1) g.fit (by decide) (by decide) fun p H2 hp s2 h2 => ret p H2 (s1.free hp) (s1.trans s2) ?_
    unfold toldW
    rw [h]
    exact h2
  · have s2 : Same H H2 := fun a o e => keep a o (ne_of_none e nx) (ne_of_none e nd) (s1 _ _ e)
    refine ⟨x, w, rfl, hl, g.cnt w hw, fun H3 s3 => ⟨_, rfl, rd_reprQ (b := 0) (.str _) (g.shw w hw) (by decide) (by decide) ⟨by decide, fun q nq => ret q _ ((s2.trans s3).free nq) ((s2.trans s3).trans (same_new nq)) ?_⟩⟩⟩
    rw [upd_same]
    unfold toldW
    rw [hw]
    rfl
theorem LenAt.ext {C : Addr} {H H' : Hp} {a : Addr} {w : W} (h : LenAt C H a w) (e : LamX.ExtN H H') : LenAt C H' a w := by
  obtain ⟨dx, pt, h1, h2⟩ := h
  refine ⟨dx, pt, ?_, e _ _ h2 (by intro ps q; cases q)⟩
  rcases h1 with ⟨_, z⟩ | ⟨q, z⟩
  · cases z
  · exact .inr ⟨e _ _ q (by intro ps q; cases q), e _ _ z (by intro ps q; cases q)⟩
theorem toldW_fit {d : PyData} (g : GoodD d) : ∀ z ∈ toldW d, Fit (.str z) 1 sizeLine := by
  intro z hz
  unfold toldW at hz
  cases e : lenD d with
  | none =>
    rw [e] at hz
    simp only [List.mem_cons, List.not_mem_nil, or_false] at hz
    rcases hz with rfl | rfl
    · exact .str (strOk_of _) (by decide +kernel)
    · exact g.fit.str (by decide)
  | some w =>
    rw [e] at hz
    simp only [List.mem_cons, List.not_mem_nil, or_false] at hz
    rcases hz with rfl | rfl
    · exact .str (strOk_of _) (by decide +kernel)
    · exact (g.shw w e).str (by decide)
theorem len_v {b : Addr} {H : Hp} {v : V} {d : PyData} {w : W} (hd : Dq K b H v d) (h : lenD d = some w) : v = w.v := by
  cases hd with
  | int i =>
    change (if 0 ≤ i then some (W.num i.toNat) else none) = some w at h
    split at h
    · cases h
      show V.int i = V.int ((i.toNat : Nat) : Int)
      congr 1
      omega
    · cases h
  | str z =>
    change (if z = Str.ofString "endless" then some W.endless else if z = Str.ofString "dead" then some .dead else none) = some w at h
    split at h
    · rename_i e; cases h; rw [e]; rfl
    · split at h
      · rename_i e; cases h; rw [e]; rfl
      · cases h
  | _ => cases h
abbrev qR : Str := (PyProof.Rows.envOfC "_law_right" (defScope s_right) 0 0 .none).qual
theorem ok_right {C fa ga f f1 f2 f3 f4 f5 f6 f7 f8 f9 f10 f11 f12 fE fI cR PR : Addr} {fd fd1 fd2 fd3 fd4 fd5 fd6 fd7 fd8 fd9 fd10 fd11 fd12 fdE fdI : FuncData} {c : Nat → Addr} {Tb : List (Addr × Str)} (D : DefAt K mg "_law_right" s_right P_right f fd) (T : Txt K mg) (TL : LenTxt K mg C fa ga) (EN : ErrNames mg c) (hcode : fd.code = .ref cR) (TB : LamX.TabB base mg cR PR)
    (hmT : (PR, qR ++ "<lambda>") ∈ Tb) (hu : ∀ p ∈ Tb, p.1 = PR → p.2 = qR ++ "<lambda>") (EX : ErrIx K c 11) (EO : EqO K C fE) (TRU_Len : PySem.W.findIn K (.ref C) "__bool__" = some none ∧ PySem.W.findIn K (.ref C) "__len__" = some none) (kn : KitNo K C)
    (M_Len : Mk K C fI) (D_Len_init : MethAt K C "__init__" "Length.__init__" s_Length_init P_Length_init fI fdI) (G_Len_initX : FnOk P w K mg base (L2.CX P w) 3 fI fdI P_Length_init (sp_len_initX K c C))
    (D_Len_eq : MethAt K C "__eq__" "Length.__eq__" s_Length_eq P_Length_eq fE fdE)
    (D_take : DefAt K mg "_law_take" s_take P_take f1 fd1) (D_worth : DefAt K mg "_law_worth" s_worth P_worth f2 fd2) (D_shown : DefAt K mg "_law_shown" s_shown P_shown f3 fd3) (G_shown : OkG P w K mg base CX0 6 f3 fd3 P_shown (sp_shown C))
    (D_due : DefAt K mg "_law_due" s_due P_due f4 fd4) (D_signs : DefAt K mg "_law_signs" s_signs P_signs f5 fd5) (G_signs : FnOk P w K mg base CX0 3 f5 fd5 P_signs (sp_signs C)) (D_signs_due : DefAt K mg "_law_signs_due" s_signs_due P_signs_due f6 fd6)
    (D_place : DefAt K mg "_law_place" s_place P_place f7 fd7) (D_odd : DefAt K mg "_law_odd" s_odd P_odd f8 fd8) (D_is_length : DefAt K mg "_law_is_length" s_is_length P_is_length f9 fd9)
    (D_caught : DefAt K mg "_law_caught" s_caught P_caught f10 fd10) (D_sort : DefAt K mg "_law_sort" s_sort P_sort f11 fd11) (G_sort : FnP P w K mg base 2 f11 fd11 P_sort (sp_sort K c)) (D_held : DefAt K mg "_law_held" s_held P_held f12 fd12) (G_held : FnP P w K mg base 1 f12 fd12 P_held (sp_held K c)) : OkG P w K mg base CX0 12 f fd P_right (sp_right K Tb) := by
  have G_take : FnOk P w K mg base CX0 1 f1 fd1 P_take sp_take := ok_take D_take T
  have G_worth : FnOk P w K mg base CX0 2 f2 fd2 P_worth sp_worth := ok_worth D_worth T D_take
  have G_due : OkG P w K mg base CX0 1 f4 fd4 P_due sp_wdue := ok_due D_due T
  have G_signs_due : FnOk P w K mg base CX0 1 f6 fd6 P_signs_due sp_signs_due := ok_signs_due D_signs_due
  have G_place : FnOk P w K mg base CX0 1 f7 fd7 P_place sp_place := ok_place D_place T
  have G_odd : FnOk P w K mg base CX0 2 f8 fd8 P_odd (sp_odd K ODD) := ok_odd D_odd T D_take
  have G_is_length : FnOk P w K mg base CX0 1 f9 fd9 P_is_length (sp_is_len K) := ok_is_length D_is_length T
  have R_Len_eq : FnR P w K mg base CX0 1 fE (sp_len_eqX K C) := raw_ok (ok_Len_eqX D_Len_eq T TL) D_Len_eq.bd
  have G_Len_init := len_calm G_Len_initX
  have G_Len_initX := fn_lk G_Len_initX
  have KB_value := kb_len D_Len_init.fn
  refine okGc D.fn sc_right hcode (fun vs H Q E h => ?_) (fun A outer s H vs Q E hG hr h => ?_)
  · obtain ⟨b, n, rfl, _⟩ := h
    rfl
  · obtain ⟨b, n, rfl, hb, hn, hT, ret⟩ := h
    refine ⟨_, (pss_cons (ps_setLc (i := 1) (own := [("_law_k", 10)]) (g := gName 10) rfl sc_right.nd rfl rfl (sw_true rfl rfl rfl (by decide +kernel)) (pi_range1 (by rfl) T.range (pa_cons pe_int pa_nil)) (blkOk_by (own := [("_law_k", 10)]) (N := N_right) (sc := defScope s_right) (by decide +kernel)) (fun _ _ _ _ _ => (pg_name (i := 10) sc_right.nd rfl (.inl rfl))) (fun _ _ _ _ _ => pts_nil) (fun _ _ _ _ _ => (pe_call G_worth (hr.mono (by decide)) rfl D_worth.mg D_worth.fn.kp D_worth.bd .nil pass0 (pa_cons (pv 0) pa_nil))))
      (pss_cons (ps_asg (pe_ifExp (pt_val (pe_callB call_isi (by rfl) T.isinstance (by decide +kernel) (pa_cons (pe_ix ix_list (pv 1) pe_int (fun _ _ => rfl)) (pa_cons (pe_bltn (v := .ty "str") (u := .type "str") (by rfl) T.str (by decide +kernel) rfl) pa_nil)))) (pe_ix ix_list (pv 1) pe_int (fun _ _ => rfl)) (pe_callB (call_max2 rfl) (by rfl) T.max (by decide +kernel) (pa_cons pe_int (pa_cons (pe_op op_sub (pe_op op_add (pe_ix ix_list (pv 1) pe_int (fun _ _ => rfl)) (pe_call G_take (hr.mono (by decide)) rfl D_take.mg D_take.fn.kp D_take.bd .nil pass0 (pa_cons (pv 0) (pa_cons pe_int pa_nil)))) pe_int) pa_nil)))) (pg_name (i := 2) sc_right.nd rfl (.inl rfl)))
      (pss_cons (ps_expr (pe_bm PySem.F.plainAttrs_list PySem.F.slot_list_append PySem.F.type_list_append mt_append (pv 1) (pa_cons (pv 2) pa_nil)))
      (pss_cons (ps_setLc (i := 3) (own := [("_law_worth_here", 11)]) (g := gName 11) rfl sc_right.nd rfl rfl (sw_true rfl rfl rfl (by decide +kernel)) (pi_list (pv 1)) (blkOk_by (own := [("_law_worth_here", 11)]) (N := N_right) (sc := defScope s_right) (by decide +kernel)) (fun _ _ _ _ _ => (pg_name (i := 11) sc_right.nd rfl (.inl rfl))) (fun _ _ _ _ _ => pts_nil) (fun _ _ _ _ _ => (pe_make M_Len G_Len_init (hr.mono (by decide)) rfl TL.mg D_Len_init.bd .nil pass0 (pa_cons (pv 11) pa_nil))))
      (pss_cons (ps_if (pt_cmpR (op_neD hr.units) (pe_lc (own := [("_law_box", 12)]) (g := gName 12) rfl sc_right.nd (pi_list (pv 3)) (blkOk_by (own := [("_law_box", 12)]) (N := N_right) (sc := defScope s_right) (by decide +kernel)) (fun _ _ _ _ _ => (pg_name (i := 12) sc_right.nd rfl (.inl rfl))) (fun _ _ _ _ _ => pts_nil) (fun _ _ _ _ _ => (pe_callG G_shown hG (hr.mono (by decide)) rfl D_shown.mg D_shown.fn.kp D_shown.bd .nil pass0 (pa_cons (pv 12) pa_nil)))) (pe_lc (own := [("_law_worth_here", 11)]) (g := gName 11) rfl sc_right.nd (pi_list (pv 1)) (blkOk_by (own := [("_law_worth_here", 11)]) (N := N_right) (sc := defScope s_right) (by decide +kernel)) (fun _ _ _ _ _ => (pg_name (i := 11) sc_right.nd rfl (.inl rfl))) (fun _ _ _ _ _ => pts_nil) (fun _ _ _ _ _ => (pe_callG G_due hG (hr.mono (by decide)) rfl D_due.mg D_due.fn.kp D_due.bd .nil pass0 (pa_cons (pv 11) pa_nil)))) (nomark _))
      (pss_one (ps_ret pe_bl))
      pss_nil)
      (pss_cons (ps_for PassesOwn.never rfl (pi_range1 (by rfl) T.range (pa_cons pe_int pa_nil)) (pg_name (i := 4) sc_right.nd rfl (.inl rfl))
      (pss_one (ps_for PassesOwn.never rfl (pi_range1 (by rfl) T.range (pa_cons (pe_op op_add (pv 4) pe_int) pa_nil)) (pg_name (i := 5) sc_right.nd rfl (.inl rfl))
      (pss_cons (ps_asg (pe_call G_signs_due (hr.mono (by decide)) rfl D_signs_due.mg D_signs_due.fn.kp D_signs_due.bd .nil pass0 (pa_cons (pe_call G_place (hr.mono (by decide)) rfl D_place.mg D_place.fn.kp D_place.bd .nil pass0 (pa_cons (pe_ix ix_list (pv 1) (pv 4) (fun _ _ => rfl)) pa_nil)) (pa_cons (pe_call G_place (hr.mono (by decide)) rfl D_place.mg D_place.fn.kp D_place.bd .nil pass0 (pa_cons (pe_ix ix_list (pv 1) (pv 5) (fun _ _ => rfl)) pa_nil)) pa_nil))) (pg_name (i := 6) sc_right.nd rfl (.inl rfl)))
      (pss_one (ps_if (PW.pt (pw_or (pt_cmpR op_ne (pe_callB (cr_reprQ hG hr.units) (by rfl) T.repr (by decide +kernel) (pa_cons (pe_call G_signs (hr.mono (by decide)) rfl D_signs.mg D_signs.fn.kp D_signs.bd .nil pass0 (pa_cons (pe_ix ix_list (pv 3) (pv 4) (fun _ _ => rfl)) (pa_cons (pe_ix ix_list (pv 3) (pv 5) (fun _ _ => rfl)) pa_nil))) pa_nil)) (pe_callB (cr_reprQ hG hr.units) (by rfl) T.repr (by decide +kernel) (pa_cons (pv 6) pa_nil)) (nomark _)) (pw_or1 (pt_not (pt_truthR (pe_ix ix_list (pv 3) (pv 4) (fun _ _ => rfl)) (tru_slt TRU_Len.1 TRU_Len.2) (by intro _; rfl))))))
      (pss_one (ps_ret pe_bl))
      pss_nil))))))
      (pss_cons (ps_asg (pe_ix ix_list (pe_lst (pa_cons (pe_ix ix_list (pv 1) pe_int (fun _ _ => rfl)) (pa_cons (pe_callTy (callR_or call_str_int SkE.call_str_str) (by rfl) T.str (by decide +kernel) (pa_cons (pe_ix ix_list (pv 1) pe_int (fun _ _ => rfl)) pa_nil)) (pa_cons pe_non (pa_cons (pe_tup (pa_cons (pe_ix ix_list (pv 1) pe_int (fun _ _ => rfl)) pa_nil)) (pa_cons (pe_lst (pa_cons (pe_ix ix_list (pv 3) pe_int (fun _ _ => rfl)) pa_nil)) (pa_cons (pe_call G_place (hr.mono (by decide)) rfl D_place.mg D_place.fn.kp D_place.bd .nil pass0 (pa_cons (pe_ix ix_list (pv 1) pe_int (fun _ _ => rfl)) pa_nil)) pa_nil))))))) (pe_call G_take (hr.mono (by decide)) rfl D_take.mg D_take.fn.kp D_take.bd .nil pass0 (pa_cons (pv 0) (pa_cons pe_int pa_nil))) (fun _ _ => rfl)) (pg_name (i := 7) sc_right.nd rfl (.inl rfl)))
      (pss_cons (ps_if (PW.pt (pw_or (pt_cmpR (op_eqS EO R_Len_eq (hr.mono (by decide)) pass0) (pe_ix ix_list (pv 3) pe_int (fun _ _ => rfl)) (pv 7) (nomark _)) (pw_or (pt_cmpR (op_eqSR EO R_Len_eq (hr.mono (by decide)) pass0) (pv 7) (pe_ix ix_list (pv 3) pe_int (fun _ _ => rfl)) (nomark _)) (pw_or1 (pt_not (pt_cmpR (op_neS EO R_Len_eq (hr.mono (by decide)) pass0) (pe_ix ix_list (pv 3) pe_int (fun _ _ => rfl)) (pv 7) (nomark _)))))))
      (pss_one (ps_ret pe_bl))
      pss_nil)
      (pss_cons (ps_asg (pe_call G_odd (hr.mono (by decide)) rfl D_odd.mg D_odd.fn.kp D_odd.bd .nil pass0 (pa_cons (pv 0) pa_nil)) (pg_name (i := 8) sc_right.nd rfl (.inr rfl)))
      (pss_cons (ps_asg (pe_caughtG (k := 7) (hr.mono (by decide)) hG T EN D_caught D_sort G_sort D_held G_held rfl TB rfl hmT hu (LamX.lamS_by (sc := defScope s_right) (by decide +kernel)) rfl (fun _ _ _ _ _ => rfl) (fun A1 outer1 s1 H1 E1 f1 c1 hG1 hr1 => (pe_callG G_shown hG1 (hr1.mono (by decide)) rfl D_shown.mg D_shown.fn.kp D_shown.bd .nil pass0 (pa_cons (pe_makeK0 (E := E1) M_Len G_Len_initX (hr1.mono (by decide)) rfl TL.mg KB_value (passes_call (takes_of rfl rfl rfl rfl) (fun _ _ _ _ z => z)) (pk_cons (pv 8) pk_nil)) pa_nil)))) (pg_name (i := 9) sc_right.nd rfl (.inl rfl)))
      (pss_cons (ps_if (pt_cmpR (op_neD hr.units) (pv 9) (pe_ifExp (pt_val (pe_call G_is_length (hr.mono (by decide)) rfl D_is_length.mg D_is_length.fn.kp D_is_length.bd .nil pass0 (pa_cons (pv 8) pa_nil))) (pe_lst (pa_cons pe_str (pa_cons (pe_callB (cr_reprQ hG hr.units) (by rfl) T.repr (by decide +kernel) (pa_cons (pe_callG G_due hG (hr.mono (by decide)) rfl D_due.mg D_due.fn.kp D_due.bd .nil pass0 (pa_cons (pv 8) pa_nil)) pa_nil)) pa_nil))) (pe_lst (pa_cons pe_str (pa_cons (pe_callB (cr_reprQ hG hr.units) (by rfl) T.repr (by decide +kernel) (pa_cons (pv 8) pa_nil)) pa_nil)))) (nomark _))
      (pss_one (ps_ret pe_bl))
      pss_nil)
      (pss_one (ps_ret (pe_cmpR (op_eqD hr.units) (pe_lc (own := [("_law_box", 12)]) (g := gName 12) rfl sc_right.nd (pi_list (pv 3)) (blkOk_by (own := [("_law_box", 12)]) (N := N_right) (sc := defScope s_right) (by decide +kernel)) (fun _ _ _ _ _ => (pg_name (i := 12) sc_right.nd rfl (.inl rfl))) (fun _ _ _ _ _ => pts_nil) (fun _ _ _ _ _ => (pe_callG G_shown hG (hr.mono (by decide)) rfl D_shown.mg D_shown.fn.kp D_shown.bd .nil pass0 (pa_cons (pv 12) pa_nil)))) (pe_lc (own := [("_law_worth_here", 11)]) (g := gName 11) rfl sc_right.nd (pi_list (pv 1)) (blkOk_by (own := [("_law_worth_here", 11)]) (N := N_right) (sc := defScope s_right) (by decide +kernel)) (fun _ _ _ _ _ => (pg_name (i := 11) sc_right.nd rfl (.inl rfl))) (fun _ _ _ _ _ => pts_nil) (fun _ _ _ _ _ => (pe_callG G_due hG (hr.mono (by decide)) rfl D_due.mg D_due.fn.kp D_due.bd .nil pass0 (pa_cons (pv 11) pa_nil)))) (nomark _))))))))))))))), ?_⟩
    refine ⟨3, rfl, by decide, by decide, fun dl nd => ?_⟩
    have ndb : dl ≠ b := hb.ne_none nd
    refine lc_range (lo := 0) (n := 3) (fun i H' => ∃ l : List W, l.length = i ∧ (∀ w ∈ l, w.cnt < big) ∧ H' dl = some (.lst (l.map W.v)) ∧ Bag H' b (n + 2 * i) ∧ But b H H')
      ⟨[], rfl, (fun _ z => by cases z), upd_same, hb.same (same_new nd), But.refl.new nd⟩ ?_ ?_
    · rintro i H1 hi ⟨l, hl, hsm, h1, h2, h3⟩
      refine ⟨rfl, _, rfl, b, n + 2 * i, rfl, h2, by omega, fun w H2 e2 b2 sw => ⟨_, e2 _ _ ndb h1, ?_, l ++ [w], ?_, ?_, ?_, ?_, ?_⟩⟩
      · rw [List.length_map, hl]
        exact Nat.lt_trans hi (by decide)
      · rw [List.length_append, hl]
        rfl
      · intro z hz
        rcases List.mem_append.mp hz with q | q
        · exact hsm z q
        · cases List.mem_singleton.mp q
          exact sw
      · rw [upd_same, List.map_append]
        rfl
      · exact b2.put ndb
      · intro a o na ea
        have nad : a ≠ dl := ne_of_none ea nd
        rw [upd_ne nad]
        exact e2 _ _ na (h3 _ _ na ea)
    rintro H1 ⟨l, hl, hsm, hD, b1, e1⟩
    obtain ⟨w0, w1, w2, rfl⟩ : ∃ w0 w1 w2, l = [w0, w1, w2] := by
      match l, hl with
      | [x, y, z], _ => exact ⟨x, y, z, rfl⟩
    have m0 := hsm w0 (by simp)
    have m1 := hsm w1 (by simp)
    have m2 := hsm w2 (by simp)
    dsimp only [gName]
    refine join_asg (fun v H' => ∃ w3 : W, v = w3.v ∧ w3.cnt < 2 * big ∧ H' dl = some (.lst ([w0, w1, w2].map W.v)) ∧ Bag H' b (n + 7) ∧ But b H H') (fun Q' fin => ?_) ?_
    · have big0 : 0 < 2 * big := by decide
      cases w0 with
      | endless => exact ⟨_, rfl, _, _, _, _, rfl, rfl, SqL.of hD, rfl, _, _, _, _, true, rfl, .ty _, .base (.str _), kit_ty (by decide +kernel), _, rfl, iteT ⟨_, rfl, _, _, _, _, rfl, rfl, SqL.of hD, rfl, fin _ _ ⟨.endless, rfl, big0, hD, b1.mono (by omega), e1⟩⟩⟩
      | dead => exact ⟨_, rfl, _, _, _, _, rfl, rfl, SqL.of hD, rfl, _, _, _, _, true, rfl, .ty _, .base (.str _), kit_ty (by decide +kernel), _, rfl, iteT ⟨_, rfl, _, _, _, _, rfl, rfl, SqL.of hD, rfl, fin _ _ ⟨.dead, rfl, big0, hD, b1.mono (by omega), e1⟩⟩⟩
      | num k =>
        have k1 : k < big := m0
        refine ⟨_, rfl, _, _, _, _, rfl, rfl, SqL.of hD, rfl, _, _, _, _, false, rfl, .ty _, .base (.int _), kit_ty (by decide +kernel), _, rfl, iteF ⟨_, rfl, _, _, _, _, rfl, rfl, SqL.of hD, rfl, ?_⟩⟩
        refine ⟨_, rfl, b, 3, n + 6, rfl, b1, by omega, by decide, m_small (by decide) (by decide), fun r H2 e2 b2 r0 r1 => ?_⟩
        refine ⟨_, _, rfl, rfl, _, _, rfl, rfl, _, _, rfl, ?_⟩
        refine fin _ _ ⟨.num (if (k : Int) + r - 1 > 0 then (k : Int) + r - 1 else 0).toNat, ?_, ?_, e2 _ _ ndb hD, b2, e1.trans e2⟩
        · show V.int _ = V.int ((Int.toNat _ : Nat) : Int)
          congr 1
          split <;> omega
        · show Int.toNat _ < 2 * big
          have : 10 ≤ big := by decide
          split <;> omega
    · rintro _ H2 ⟨w3, rfl, m3, hD2, b2, e2⟩
      dsimp only [gName]
      have big3 : 2 * big < 2 ^ 1900 := by decide +kernel
      refine ⟨_, rfl, .inl ⟨rfl, _, SqL.of hD2⟩, _, rfl, _, _, _, rfl, rfl, hD2, by show 3 < sizeLine; decide, ?_⟩
      have hD3 : upd H2 dl (.lst ([w0, w1, w2].map W.v ++ [w3.v])) dl = some (.lst ([w0, w1, w2, w3].map W.v)) := upd_same
      have b3 : Bag (upd H2 dl (.lst ([w0, w1, w2].map W.v ++ [w3.v]))) b (n + 7) := b2.put ndb
      have e3 : But b H (upd H2 dl (.lst ([w0, w1, w2].map W.v ++ [w3.v]))) := fun a o na ea => by rw [upd_ne (ne_of_none ea nd)]; exact e2 _ _ na ea
      generalize upd H2 dl (.lst ([w0, w1, w2].map W.v ++ [w3.v])) = H3 at hD3 b3 e3 ⊢
      have hws : ∀ w ∈ [w0, w1, w2, w3], w.cnt < 2 ^ 1900 := by
        intro w hw
        simp only [List.mem_cons, List.not_mem_nil, or_false] at hw
        rcases hw with rfl | rfl | rfl | rfl <;> omega
      generalize hW : [w0, w1, w2, w3] = ws at hD3 hws
      have h5 : ws.length ≤ 1000 := by subst hW; show 4 ≤ 1000; decide
      dsimp only
      refine join_asg (fun v H' => ∃ el as, v = .ref el ∧ H3 el = none ∧ Same H3 H' ∧ H' el = some (.lst (as.map V.ref)) ∧ Lens C H' as ws) (fun Q' fin => lc_boxes (i := 1) (j := 11) rfl hD3 h5 (fun _ => rfl) (fun _ => rfl) fun el as H4 nel s4 hE4 ls4 => fin _ _ ⟨el, as, rfl, nel, s4, hE4, ls4⟩) ?_
      rintro _ H4 ⟨el, as, rfl, nel, s4, hE4, ls4⟩
      dsimp only [gName]
      have hD4 := s4 _ _ hD3
      have b4 := b3.same s4
      have e4 : But b H H4 := e3.trans (But.of s4)
      have elb : el ≠ b := b3.ne_none nel
      clear hD hD2 hD3 b1 b2 b3 e1 e2 e3
      refine join_no (fun H' => Same H4 H') (fun Q' fin => ?_) ?_
      · exact ne_strs (shs_fit hws) (lists_shown (i := 3) (j := 12) rfl hE4 ls4 h5 hws (fun _ => rfl) (fun _ => rfl)) (lists_due (i := 1) (j := 11) rfl hD4 h5 hws (fun _ => rfl) (fun _ => rfl)) fun H5 s5 => ⟨_, rfl, fin _ _ rfl s5⟩
      · intro H5 s5
        have hD5 := s5 _ _ hD4
        have hE5 := s5 _ _ hE4
        have ls5 := ls4.imp fun a w l => l.same s5
        have b5 := b4.same s5
        have e5 : But b H H5 := e4.trans (But.of s5)
        clear s5 s4 b4 e4 hD4 hE4 ls4
        have l4 : ws.length = 4 := by subst hW; rfl
        have la : as.length = 4 := by rw [ls5.length, l4]
        have get : ∀ k, k < 4 → ∃ a w, as[k]? = some a ∧ ws[k]? = some w ∧ LenAt C H5 a w := fun k hk => by
          have h1 : k < as.length := by omega
          obtain ⟨w, h2, h3⟩ := ls5.get (List.getElem?_eq_getElem h1)
          exact ⟨_, w, List.getElem?_eq_getElem h1, h2, h3⟩
        refine ⟨_, rfl, by decide, by decide, for_range (lo := 0) (n := 4) (fun i σ' H' => ∃ v4 v5 v6, σ' = [some (.ref b), some (.ref dl), some w3.v, some (.ref el), v4, v5, v6, none, none, none, none, none, none] ∧ Same H5 H') ⟨none, none, none, rfl, Same.refl _⟩ ?_ ?_⟩
        · rintro i σ' H' hi ⟨v4, v5, v6, rfl, s6⟩
          refine ⟨_, rfl, _, _, rfl, rfl, _, rfl, by omega, by omega, for_range (lo := 0) (n := ((0 : Int) + i + 1).toNat) (fun k σ' H' => ∃ v5 v6, σ' = [some (.ref b), some (.ref dl), some w3.v, some (.ref el), some (.int (0 + i)), v5, v6, none, none, none, none, none, none] ∧ Same H5 H') ⟨_, _, rfl, s6⟩ ?_ ?_⟩
          · rintro k σ' H7 hk ⟨v5, v6, rfl, s7⟩
            obtain ⟨ai, wi, ea, ew, lI⟩ := get i (by omega)
            obtain ⟨ak, wk, ka, kw, lK⟩ := get k (by omega)
            have atw : ∀ {x : Nat} {w : W}, ws[x]? = some w → atI (ws.map W.v) (0 + (x : Int)) = some w.v := fun h => by
              rw [Int.zero_add]
              exact atI_nat (by rw [List.getElem?_map, h]; rfl)
            have ata : ∀ {x : Nat} {a : Addr}, as[x]? = some a → atI (as.map V.ref) (0 + (x : Int)) = some (.ref a) := fun h => by
              rw [Int.zero_add]
              exact atI_nat (by rw [List.getElem?_map, h]; rfl)
            dsimp only [gName]
            refine join_asg (fun v H' => ∃ p, v = .ref p ∧ Same H5 H' ∧ H' p = some (.lst ((sgn wi wk ++ sgn wk wi).map V.bl))) (fun Q' fin => ?_) ?_
            · refine ⟨_, rfl, _, rfl, _, _, _, _, rfl, rfl, SqL.of (s7 _ _ hD5), atw ew, wi, rfl, fun p1 H8 n1 s8 h8 => ?_⟩
              refine ⟨_, rfl, _, rfl, _, _, _, _, rfl, rfl, SqL.of (s8 _ _ (s7 _ _ hD5)), atw kw, wk, rfl, fun p2 H9 n2 s9 h9 => ?_⟩
              exact ⟨p1, p2, wi, wk, rfl, s9 _ _ h8, h9, fun p3 H10 n3 s10 h10 => fin _ _ ⟨p3, rfl, s7.trans (s8.trans (s9.trans s10)), h10⟩⟩
            · rintro _ H8 ⟨p3, rfl, s8, h8⟩
              dsimp only [gName]
              refine ⟨_, rfl, _, rfl, _, _, _, _, rfl, rfl, SqL.of (s8 _ _ hE5), ata ea, _, rfl, _, rfl, _, _, _, _, rfl, rfl, SqL.of (s8 _ _ hE5), ata ka, ai, ak, wi, wk, rfl, lI.same s8, lK.same s8, fun p4 H9 n4 s9 h9 => ?_⟩
              refine rd_bls h9 (by show 12 ≤ 100; decide) ⟨_, rfl, rd_bls (s9 _ _ h8) (by show 12 ≤ 100; decide) ?_⟩
              obtain ⟨dx, vx, sx⟩ := (lI.same (s8.trans s9)).slt
              refine ⟨rfl, false, by rw [decide_eq_true rfl]; rfl, iteF ⟨_, rfl, _, rfl, _, _, _, _, rfl, rfl, SqL.of (s9 _ _ (s8 _ _ hE5)), ata ea, ai, dx, vx, rfl, sx, iteF ⟨_, _, rfl, s8.trans s9⟩⟩⟩
          · rintro σ' H7 ⟨v5, v6, rfl, s7⟩
            exact ⟨_, _, _, rfl, s7⟩
        · rintro σ' H6 ⟨v4, v5, v6, rfl, s6⟩
          have hD6 := s6 _ _ hD5
          have hE6 := s6 _ _ hE5
          have ls6 := ls5.imp fun a w l => l.same s6
          have b6 := b5.same s6
          have e6 : But b H H6 := e5.trans (But.of s6)
          obtain ⟨a0, w0', ea0, ew0, l0⟩ := get 0 (by decide)
          have l0 := l0.same s6
          clear get s6 hD5 hE5 ls5 b5 e5
          dsimp only
          have c0 := hws w0' (List.mem_of_getElem? ew0)
          have at0 : atI (ws.map W.v) 0 = some w0'.v := atI_nat (j := 0) (by rw [List.getElem?_map, ew0]; rfl)
          have at1 : atI (as.map V.ref) 0 = some (.ref a0) := atI_nat (j := 0) (by rw [List.getElem?_map, ea0]; rfl)
          have hstr : (∃ k : Int, w0'.v = .int k ∧ k.natAbs.log2 < 1920) ∨ ∃ z, w0'.v = .str z := by
            cases w0' with
            | num k => exact .inl ⟨_, rfl, big_log c0⟩
            | endless => exact .inr ⟨_, rfl⟩
            | dead => exact .inr ⟨_, rfl⟩
          have hwT : ∃ T, PySem.W.kitOne K (.type T) (.ref C) = some false ∧ ∀ H2, Oth K H2 w0'.v ∧ TyX K H2 w0'.v (.type T) := by
            rcases hstr with ⟨k, e, _⟩ | ⟨z, e⟩
            · rw [e]; exact ⟨_, kn.u2, fun _ => ⟨.int _, .base (.int _)⟩⟩
            · rw [e]; exact ⟨_, kn.u4, fun _ => ⟨.str _, .base (.str _)⟩⟩
          refine join_asg (fun v H' => (∃ T, PySem.W.kitOne K (.type T) (.ref C) = some false ∧ ∀ H2, Same H' H2 → Oth K H2 v ∧ TyX K H2 v (.type T)) ∧ But b H6 H' ∧ Bag H' b (n + 8)) (fun Q' fin => ?_) ?_
          · refine ⟨_, rfl, _, _, _, _, rfl, rfl, SqL.of hD6, at0, _, rfl, _, _, _, _, rfl, rfl, SqL.of hD6, at0, ?_⟩
            rcases hstr with ⟨k, ek, lk⟩ | ⟨z, ez⟩
            · refine .inl ⟨k, congrArg (fun x => [x]) ek, lk, ?_⟩
              refine ⟨_, rfl, _, _, _, _, rfl, rfl, SqL.of hD6, at0, by show 1 ≤ sizeLine; decide, fun t nt => ?_⟩
              have s1 := same_new (o := .tup [w0'.v]) nt
              refine ⟨_, rfl, _, _, _, _, rfl, rfl, SqL.of (s1 _ _ hE6), at1, by show 1 ≤ sizeLine; decide, fun u nu => ?_⟩
              have s2 := s1.trans (same_new (o := .lst [.ref a0]) nu)
              have ub : u ≠ b := (b6.same s1).ne_none nu
              have ht : upd (upd H6 t (.tup [w0'.v])) u (.lst [.ref a0]) t = some (.tup [w0'.v]) := same_new nu _ _ upd_same
              have hu2 : upd (upd H6 t (.tup [w0'.v])) u (.lst [.ref a0]) u = some (.lst [.ref a0]) := upd_same
              generalize upd (upd H6 t (.tup [w0'.v])) u (.lst [.ref a0]) = H7 at s2 ht hu2 ⊢
              refine ⟨_, rfl, _, _, _, _, rfl, rfl, SqL.of (s2 _ _ hD6), at0, w0', rfl, fun q H8 nq s8 hq => ⟨by show 6 ≤ sizeLine; decide, fun L nL => ?_⟩⟩
              have qb : q ≠ b := (b6.same s2).ne_none nq
              have Lb : L ≠ b := (b6.same (s2.trans s8)).ne_none nL
              have s9 := (s2.trans s8).trans (same_new (o := .lst [w0'.v, .str (Str.ofString (toString k)), .non, .ref t, .ref u, .ref q]) nL)
              have b9 := b6.same s9
              refine ⟨_, rfl, b, 6, n + 7, rfl, b9, by omega, by decide, m_small (by decide) (by decide), fun r Hi ui bi r0 r1 => ?_⟩
              have hL := ui _ _ Lb upd_same
              have tb : t ≠ b := fun z => by
                obtain ⟨_, _, _, hb, _⟩ := b6.same s2
                rw [z, hb] at ht
                cases ht
              have it := ui _ _ tb (same_new nL _ _ (s8 _ _ ht))
              have iu := ui _ _ ub (same_new nL _ _ (s8 _ _ hu2))
              have iq := ui _ _ qb (same_new nL _ _ hq)
              have go : ∀ v, (∃ T, PySem.W.kitOne K (.type T) (.ref C) = some false ∧ ∀ H2, Same Hi H2 → Oth K H2 v ∧ TyX K H2 v (.type T)) → Q' v Hi := fun v h => fin _ _ ⟨h, (But.of s9).trans ui, bi⟩
              rcases (show r = 0 ∨ r = 1 ∨ r = 2 ∨ r = 3 ∨ r = 4 ∨ r = 5 by omega) with rfl | rfl | rfl | rfl | rfl | rfl
              · obtain ⟨Ty, k1, k2⟩ := hwT
                exact ⟨L, _, _, _, rfl, rfl, SqL.of hL, rfl, go _ ⟨Ty, k1, fun H2 _ => k2 H2⟩⟩
              · exact ⟨L, _, _, _, rfl, rfl, SqL.of hL, rfl, go _ ⟨_, kn.u4, fun H2 _ => ⟨.str _, .base (.str _)⟩⟩⟩
              · exact ⟨L, _, _, _, rfl, rfl, SqL.of hL, rfl, go _ ⟨_, kn.u1, fun H2 _ => ⟨.non, .base .non⟩⟩⟩
              · exact ⟨L, _, _, _, rfl, rfl, SqL.of hL, rfl, go _ ⟨_, kn.u6, fun H2 s' => ⟨.tup _ _ (SqT.of (s' _ _ it)), .base (.tup (s' _ _ it))⟩⟩⟩
              · exact ⟨L, _, _, _, rfl, rfl, SqL.of hL, rfl, go _ ⟨_, kn.u5, fun H2 s' => ⟨.lst _ _ (s' _ _ iu), .base (.lst (s' _ _ iu))⟩⟩⟩
              · exact ⟨L, _, _, _, rfl, rfl, SqL.of hL, rfl, go _ ⟨_, kn.u5, fun H2 s' => ⟨.lst _ _ (s' _ _ iq), .base (.lst (s' _ _ iq))⟩⟩⟩
            · refine .inr ⟨z, congrArg (fun x => [x]) ez, ?_⟩
              refine ⟨_, rfl, _, _, _, _, rfl, rfl, SqL.of hD6, at0, by show 1 ≤ sizeLine; decide, fun t nt => ?_⟩
              have s1 := same_new (o := .tup [w0'.v]) nt
              refine ⟨_, rfl, _, _, _, _, rfl, rfl, SqL.of (s1 _ _ hE6), at1, by show 1 ≤ sizeLine; decide, fun u nu => ?_⟩
              have s2 := s1.trans (same_new (o := .lst [.ref a0]) nu)
              have ub : u ≠ b := (b6.same s1).ne_none nu
              have ht : upd (upd H6 t (.tup [w0'.v])) u (.lst [.ref a0]) t = some (.tup [w0'.v]) := same_new nu _ _ upd_same
              have hu2 : upd (upd H6 t (.tup [w0'.v])) u (.lst [.ref a0]) u = some (.lst [.ref a0]) := upd_same
              generalize upd (upd H6 t (.tup [w0'.v])) u (.lst [.ref a0]) = H7 at s2 ht hu2 ⊢
              refine ⟨_, rfl, _, _, _, _, rfl, rfl, SqL.of (s2 _ _ hD6), at0, w0', rfl, fun q H8 nq s8 hq => ⟨by show 6 ≤ sizeLine; decide, fun L nL => ?_⟩⟩
              have qb : q ≠ b := (b6.same s2).ne_none nq
              have Lb : L ≠ b := (b6.same (s2.trans s8)).ne_none nL
              have s9 := (s2.trans s8).trans (same_new (o := .lst [w0'.v, .str z, .non, .ref t, .ref u, .ref q]) nL)
              have b9 := b6.same s9
              refine ⟨_, rfl, b, 6, n + 7, rfl, b9, by omega, by decide, m_small (by decide) (by decide), fun r Hi ui bi r0 r1 => ?_⟩
              have hL := ui _ _ Lb upd_same
              have tb : t ≠ b := fun z => by
                obtain ⟨_, _, _, hb, _⟩ := b6.same s2
                rw [z, hb] at ht
                cases ht
              have it := ui _ _ tb (same_new nL _ _ (s8 _ _ ht))
              have iu := ui _ _ ub (same_new nL _ _ (s8 _ _ hu2))
              have iq := ui _ _ qb (same_new nL _ _ hq)
              have go : ∀ v, (∃ T, PySem.W.kitOne K (.type T) (.ref C) = some false ∧ ∀ H2, Same Hi H2 → Oth K H2 v ∧ TyX K H2 v (.type T)) → Q' v Hi := fun v h => fin _ _ ⟨h, (But.of s9).trans ui, bi⟩
              rcases (show r = 0 ∨ r = 1 ∨ r = 2 ∨ r = 3 ∨ r = 4 ∨ r = 5 by omega) with rfl | rfl | rfl | rfl | rfl | rfl
              · obtain ⟨Ty, k1, k2⟩ := hwT
                exact ⟨L, _, _, _, rfl, rfl, SqL.of hL, rfl, go _ ⟨Ty, k1, fun H2 _ => k2 H2⟩⟩
              · exact ⟨L, _, _, _, rfl, rfl, SqL.of hL, rfl, go _ ⟨_, kn.u4, fun H2 _ => ⟨.str _, .base (.str _)⟩⟩⟩
              · exact ⟨L, _, _, _, rfl, rfl, SqL.of hL, rfl, go _ ⟨_, kn.u1, fun H2 _ => ⟨.non, .base .non⟩⟩⟩
              · exact ⟨L, _, _, _, rfl, rfl, SqL.of hL, rfl, go _ ⟨_, kn.u6, fun H2 s' => ⟨.tup _ _ (SqT.of (s' _ _ it)), .base (.tup (s' _ _ it))⟩⟩⟩
              · exact ⟨L, _, _, _, rfl, rfl, SqL.of hL, rfl, go _ ⟨_, kn.u5, fun H2 s' => ⟨.lst _ _ (s' _ _ iu), .base (.lst (s' _ _ iu))⟩⟩⟩
              · exact ⟨L, _, _, _, rfl, rfl, SqL.of hL, rfl, go _ ⟨_, kn.u5, fun H2 s' => ⟨.lst _ _ (s' _ _ iq), .base (.lst (s' _ _ iq))⟩⟩⟩
          · rintro far H7 ⟨hf, u7, b7⟩
            dsimp only [gName]
            have hD7 := u7 _ _ ndb hD6
            have hE7 := u7 _ _ elb hE6
            have ls7 := ls6.imp fun a w l => LenAt.but l b6 u7
            have l7 := LenAt.but l0 b6 u7
            have e7 : But b H H7 := e6.trans u7
            have T7 := tabs_but hT hb e7
            clear hD6 hE6 ls6 l0 b6 e6 u7
            obtain ⟨Ty, kT, oT⟩ := hf
            obtain ⟨oth, tyx⟩ := oT H7 (Same.refl H7)
            obtain ⟨dx, vx, sx⟩ := l7.slt
            refine join_no (fun H' => H' = H7) (fun Q' fin => ?_) ?_
            · refine ⟨_, rfl, _, _, _, _, rfl, rfl, SqL.of hE7, at1, _, rfl, a0, dx, vx, rfl, sx, .inl oth, a0, w0', far, rfl, l7, .inr ⟨Ty, tyx, kT, false, rfl, _, rfl, iteF ?_⟩⟩
              refine ⟨_, rfl, _, rfl, _, _, _, _, rfl, rfl, SqL.of hE7, at1, a0, dx, vx, rfl, sx, oth, a0, w0', far, rfl, l7, .inr ⟨Ty, tyx, kT, false, rfl, _, rfl, iteF ?_⟩⟩
              exact ⟨_, rfl, _, _, _, _, rfl, rfl, SqL.of hE7, at1, _, rfl, a0, dx, vx, rfl, sx, .inl oth, a0, w0', far, rfl, l7, .inr ⟨Ty, tyx, kT, false, rfl, _, rfl, fin _ _ rfl rfl⟩⟩
            · rintro _ rfl
              clear oth tyx oT kT sx
              refine ⟨_, rfl, b, n + 8, rfl, b7, by omega, fun v d H8 hd u8 b8 dn => ?_⟩
              dsimp only [gName]
              have g := good_odd hd
              have dq8 : Dq K b H8 v d := dn b b7.some
              have hD8 := u8 _ _ ndb hD7
              have hE8 := u8 _ _ elb hE7
              have ls8 := ls7.imp fun a w l => LenAt.but l b7 u8
              have T8 := tabs_but T7 b7 u8
              refine ⟨T8, fun H9 x9 T9 => ?_⟩
              have dq9 := dq_ext x9 dq8
              have hD9 := x9 _ _ hD8 (by intro ps q; cases q)
              have hE9 := x9 _ _ hE8 (by intro ps q; cases q)
              have ls9 := ls8.imp fun a w l => LenAt.ext l x9
              have b9 := ext_bag x9 b8
              have y9 : ExtB b H H9 := (ExtB.of (e7.trans u8)).trans (ExtB.ofN x9)
              refine ⟨_, rfl, rfl, rfl, len_caught dq9 g EX fun tl H10 ntl s10 htl => ?_⟩
              have dq10 := dq9.same s10
              have hD10 := s10 _ _ hD9
              have hE10 := s10 _ _ hE9
              have ls10 := ls9.imp fun a w l => l.same s10
              have b10 := b9.same s10
              have T10 := T9.ext s10
              have y10 : ExtB b H H10 := y9.trans (ExtB.of (But.of s10))
              dsimp only [gName]
              have tf := toldW_fit g
              have fin2 : ∀ {H' : Hp} {p : Addr} {Q' : VK}, Same H10 H' → H' p = some (.lst ((toldW d).map V.str)) → Q' (.bl false) H' → rNeD K (.ref tl) (.ref p) H' Q' := fun {H' p Q'} s' hp q => by
                refine ⟨.list ((toldW d).map PyData.str), .list ((toldW d).map PyData.str), .lst (SqL.of (s' _ _ htl)) (dp_strs _), .lst (SqL.of hp) (dp_strs _), shaped_strs tf, shaped_strs tf, ?_⟩
                rw [refl_strs tf]
                exact q
              refine join_no (fun H' => Same H10 H') (fun Q' fin => ?_) ?_
              · refine ⟨_, rfl, _, rfl, b, v, d, rfl, dq10, fun H11 s11 => ⟨_, rfl, ?_⟩⟩
                cases e : lenD d with
                | some w =>
                  refine iteT ⟨_, rfl, w, congrArg (fun x => [x]) (len_v dq10 e), g.cnt w e, fun H12 s12 => rd_reprQ (b := 0) (.str _) (g.shw w e) (by decide) (by decide) ⟨by show 2 ≤ sizeLine; decide, fun p np => ?_⟩⟩
                  have s13 := (s11.trans s12).trans (same_new (o := .lst [.str (Str.ofString "told"), .str (PyData.str (shownW w).shown).shown]) np)
                  refine fin2 s13 ?_ ⟨_, rfl, fin _ _ rfl s13⟩
                  rw [upd_same]; unfold toldW; rw [e]; rfl
                | none =>
                  refine iteF ⟨_, rfl, rd_reprQ (dq10.same s11) g.fit (by decide) (by decide) ⟨by show 2 ≤ sizeLine; decide, fun p np => ?_⟩⟩
                  have s13 := s11.trans (same_new (o := .lst [.str (Str.ofString "InvalidLength"), .str d.shown]) np)
                  refine fin2 s13 ?_ ⟨_, rfl, fin _ _ rfl s13⟩
                  rw [upd_same]; unfold toldW; rw [e]; rfl
              · intro H11 s11
                exact eq_strs (shs_fit hws) (lists_shown (i := 3) (j := 12) rfl (s11 _ _ hE10) (ls10.imp fun a w l => l.same s11) h5 hws (fun _ => rfl) (fun _ => rfl)) (lists_due (i := 1) (j := 11) rfl (s11 _ _ hD10) h5 hws (fun _ => rfl) (fun _ => rfl)) fun H12 s12 => ret H12 (y10.trans (ExtB.of (But.of (s11.trans s12)))) ((b10.same (s11.trans s12)).mono (by omega)) (T10.ext (s11.trans s12))
end L

namespace L
open PySem L2 Hv SlX Evl
variable {P : Program} {w : World} {K : PySem.W.Frag} {mg : Str → Option Value} {base : Heap}
def sp_law (K : PySem.W.Frag) (Tb : List (Addr × Str)) : Sp := fun vs H Q _ => ∃ (a : Addr) (ns : List Int), vs = [.ref a] ∧ SqL K H a (ns.map V.int) ∧ ns.length ≤ 63 ∧ (∀ n ∈ ns, Builtin.Int.intBits n ≤ 1048576) ∧ LamX.Tabs Tb H ∧ ∀ H', Q (.bl true) H'
theorem ev_lenord {C : Addr} {σ : L2.St} {H : Hp} {ta tb : TE} {v w : W} {g : PyData → PyData → Bool} (nf : PySem.W.notFirst K C (.ref C) = true) (ha : EvLen C ta σ H v) (hb : EvLen C tb σ H w) : Ev (tOp (rOwn K C (sp_len_ord C g) E0) ta tb) σ H (.bl (g (.tuple v.ds) (.tuple w.ds))) := fun H1 e Q q =>
  ha H1 e _ fun a H2 e2 la => hb H2 (e.trans e2) _ fun b H3 e3 lb => by
    obtain ⟨dx, vs, hs⟩ := (la.same e3).slt
    obtain ⟨dy, ws, hs2⟩ := lb.slt
    exact ⟨a, dx, vs, b, C, dy, ws, rfl, rfl, hs, hs2, nf, a, b, v, w, rfl, la.same e3, lb, q H3 (e2.trans e3)⟩
theorem tabs_put {T : List (Addr × Str)} {H : Hp} {L : Addr} {xs ys : List V} (t : LamX.Tabs T H) (hL : H L = some (.lst xs)) : LamX.Tabs T (upd H L (.lst ys)) := by
  intro p hp
  obtain ⟨ps, z1, z2, z3⟩ := t p hp
  refine ⟨ps, by rw [upd_ne (ne_of z1 hL (by intro q; cases q))]; exact z1, z2, fun pos cv hc => ?_⟩
  obtain ⟨cc, e1, e2⟩ := z3 pos cv hc
  exact ⟨cc, e1, by rw [upd_ne (ne_of e2 hL (by intro q; unfold LamX.CodeO at q; cases q))]; exact e2⟩
abbrev s_law : Stmt := top 56
abbrev N_law : List Str := ["_law_script", "_law_told", "_law_k", "_law_bag_here", "_law_turn"]
abbrev P_law : List Str := ["_law_script"]
theorem sc_law : FnScope N_law P_law (defScope s_law) := ⟨rfl, rfl, rfl, by decide +kernel, rfl, by decide +kernel, by decide +kernel⟩
theorem ok_law {C fa ga f f1 f2 f3 f5 fL fI : Addr} {fd fd1 fd2 fd3 fd5 fdL fdI : FuncData} {c : Nat → Addr} {Tb : List (Addr × Str)} (D : Fun K "law" "law" s_law f fd) (T : Txt K mg) (TL : LenTxt K mg C fa ga) (TRU_Len : PySem.W.findIn K (.ref C) "__bool__" = some none ∧ PySem.W.findIn K (.ref C) "__len__" = some none)
    (D_bag : DefAt K mg "_law_bag" s_bag P_bag f1 fd1) (D_seed : DefAt K mg "_law_seed" s_seed P_seed f2 fd2) (D_shown : DefAt K mg "_law_shown" s_shown P_shown f3 fd3) (G_shown : OkG P w K mg base CX0 6 f3 fd3 P_shown (sp_shown C))
    (D_right : DefAt K mg "_law_right" s_right P_right f5 fd5) (G_right : OkG P w K mg base CX0 12 f5 fd5 P_right (sp_right K Tb)) (D_Len_lt : MethAt K C "__lt__" "Length.__lt__" s_Length_lt P_Length_lt fL fdL)
    (M_Len : Mk K C fI) (D_Len_init : MethAt K C "__init__" "Length.__init__" s_Length_init P_Length_init fI fdI) (G_Len_initX : FnOk P w K mg base (L2.CX P w) 3 fI fdI P_Length_init (sp_len_initX K c C)) : OkG P w K mg base CX0 13 f fd P_law (sp_law K Tb) := by
  have G_bag : FnOk P w K mg base CX0 1 f1 fd1 P_bag sp_bag := ok_bag D_bag T
  have G_seed : FnOk P w K mg base CX0 1 f2 fd2 P_seed (sp_seed K) := ok_seed D_seed T
  have R_Len_lt : FnR P w K mg base CX0 1 fL (sp_len_ord C fun d e => PySem.W.dataLt d e) := raw_ok (ok_Len_lt D_Len_lt T TL) D_Len_lt.bd
  have G_Len_init := len_calm G_Len_initX
  refine okG0 D sc_law (fun vs H Q E h => ?_) (fun cdv A outer s H vs Q E hG hr h => ?_)
  · obtain ⟨a, ns, rfl, _⟩ := h
    rfl
  · obtain ⟨a, ns, rfl, hS, hlen, bits, hT, ret⟩ := h
    refine ⟨_, (pss_cons (ps_asg (pe_lst (pa_cons (pe_cmpR (op_own (op := .Lt) (fun _ _ => rfl) D_Len_lt.at_ D_Len_lt.isf R_Len_lt (hr.mono (by decide)) pass0) (pe_make M_Len G_Len_init (hr.mono (by decide)) rfl TL.mg D_Len_init.bd .nil pass0 (pa_cons pe_int pa_nil)) (pe_make M_Len G_Len_init (hr.mono (by decide)) rfl TL.mg D_Len_init.bd .nil pass0 (pa_cons pe_int pa_nil)) (nomark _)) (pa_cons (pe_cmpR (op_own (op := .Lt) (fun _ _ => rfl) D_Len_lt.at_ D_Len_lt.isf R_Len_lt (hr.mono (by decide)) pass0) (pe_make M_Len G_Len_init (hr.mono (by decide)) rfl TL.mg D_Len_init.bd .nil pass0 (pa_cons (pe_op op_pow pe_int pe_int) pa_nil)) (pe_make M_Len G_Len_init (hr.mono (by decide)) rfl TL.mg D_Len_init.bd .nil pass0 (pa_cons pe_str pa_nil)) (nomark _)) (pa_cons (pe_cmpR (op_own (op := .Lt) (fun _ _ => rfl) D_Len_lt.at_ D_Len_lt.isf R_Len_lt (hr.mono (by decide)) pass0) (pe_make M_Len G_Len_init (hr.mono (by decide)) rfl TL.mg D_Len_init.bd .nil pass0 (pa_cons pe_str pa_nil)) (pe_make M_Len G_Len_init (hr.mono (by decide)) rfl TL.mg D_Len_init.bd .nil pass0 (pa_cons pe_str pa_nil)) (nomark _)) pa_nil)))) (pg_name (i := 1) sc_law.nd rfl (.inl rfl)))
      (pss_cons (ps_if (PW.pt (pw_or (pt_cmpR op_ne (pe_callB (cr_repr hG hr.units) (by rfl) T.repr (by decide +kernel) (pa_cons (pv 1) pa_nil)) pe_str (nomark _)) (pw_or (pt_not (pt_truthR (pe_make M_Len G_Len_init (hr.mono (by decide)) rfl TL.mg D_Len_init.bd .nil pass0 (pa_cons pe_int pa_nil)) (tru_slt TRU_Len.1 TRU_Len.2) (by intro _; rfl))) (pw_or1 (pt_cmpR op_ne (pe_callG G_shown hG (hr.mono (by decide)) rfl D_shown.mg D_shown.fn.kp D_shown.bd .nil pass0 (pa_cons (pe_make M_Len G_Len_init (hr.mono (by decide)) rfl TL.mg D_Len_init.bd .nil pass0 (pa_cons pe_int pa_nil)) pa_nil)) pe_str (nomark _))))))
      (pss_one (ps_ret pe_bl))
      pss_nil)
      (pss_cons (ps_for PassesOwn.never rfl (pi_range1 (by rfl) T.range (pa_cons (pe_callB (call_max2 rfl) (by rfl) T.max (by decide +kernel) (pa_cons pe_int (pa_cons (pe_callB (call_min2 rfl) (by rfl) T.min (by decide +kernel) (pa_cons (pe_callB call_len_seq (by rfl) T.len (by decide +kernel) (pa_cons (pv 0) pa_nil)) (pa_cons pe_int pa_nil))) pa_nil))) pa_nil)) (pg_name (i := 2) sc_law.nd rfl (.inl rfl))
      (pss_cons (ps_asg (pe_call G_bag (hr.mono (by decide)) rfl D_bag.mg D_bag.fn.kp D_bag.bd .nil pass0 (pa_cons (pe_call G_seed (hr.mono (by decide)) rfl D_seed.mg D_seed.fn.kp D_seed.bd .nil pass0 (pa_cons (pv 0) (pa_cons (pv 2) pa_nil))) pa_nil)) (pg_name (i := 3) sc_law.nd rfl (.inr rfl)))
      (pss_one (ps_if (pt_not (pt_val (pe_callB (cr_all rfl) (by rfl) T.all (by decide +kernel) (pa_cons (pe_lc (own := [("_law_turn", 4)]) (g := gName 4) rfl sc_law.nd (pi_range1 (by rfl) T.range (pa_cons pe_int pa_nil)) (blkOk_by (own := [("_law_turn", 4)]) (N := N_law) (sc := defScope s_law) (by decide +kernel)) (fun _ _ _ _ _ => (pg_name (i := 4) sc_law.nd rfl (.inl rfl))) (fun _ _ _ _ _ => pts_nil) (fun _ _ _ _ _ => (pe_callG G_right hG (hr.mono (by decide)) rfl D_right.mg D_right.fn.kp D_right.bd .nil pass0 (pa_cons (pv 3) pa_nil)))) pa_nil))))
      (pss_one (ps_ret pe_bl))
      pss_nil))))
      (pss_one (ps_ret pe_bl))))), ?_⟩
    refine q_asgL (xs := [.bl true, .bl true, .bl true]) (el_lst (ea_cons (ev_is (ev_lenord (v := .num 0) (w := .num 1) TL.nf (evl_make rfl (ea_cons ev_c ea_nil)) (evl_make rfl (ea_cons ev_c ea_nil))) (by decide +kernel))
      (ea_cons (ev_is (ev_lenord (v := .num (10 ^ 39)) (w := .endless) TL.nf (evl_make (z := .int (10 ^ (39 : Int).toNat)) (by decide +kernel) (ea_cons (ev_op ev_c ev_c (fun H2 e2 Q' q => ⟨_, _, rfl, rfl, ⟨by decide, by decide, by decide⟩, q H2 (Ex.refl H2)⟩)) ea_nil)) (evl_make rfl (ea_cons ev_c ea_nil))) (by decide +kernel))
      (ea_cons (ev_is (ev_lenord (v := .endless) (w := .dead) TL.nf (evl_make rfl (ea_cons ev_c ea_nil)) (evl_make rfl (ea_cons ev_c ea_nil))) (by decide +kernel)) ea_nil))) (by show 3 ≤ 100000; decide)) fun p1 H1 n1 s1 h1 => ?_
    refine join_no (fun H' => Same H1 H') (fun Q' fin => ?_) ?_
    · refine ⟨_, rfl, rd_repr (d := PyData.list [.bool true, .bool true, .bool true]) (.lst (SqL.of h1) (.cons (.bl _) (.cons (.bl _) (.cons (.bl _) .nil)))) (by decide +kernel) (by decide) (by decide) (by decide +kernel) ⟨rfl, false, by decide +kernel, iteF ?_⟩⟩
      refine use_len (w := .num 0) (evl_make rfl (ea_cons ev_c ea_nil)) fun x2 H2 s2 l2 => ?_
      obtain ⟨dx, vx, sx⟩ := l2.slt
      refine ⟨x2, dx, vx, rfl, sx, iteF ?_⟩
      dsimp only [tTest, tOp, tCall]
      exact use_len (te := tMake C (sp_len_init C) [] E0 (tCons (tC (V.int 0)) tNil)) (w := .num 0) (evl_make rfl (ea_cons ev_c ea_nil)) fun x3 H3 s3 l3 => ⟨x3, .num 0, rfl, l3, by decide +kernel, fun H4 s4 => ⟨rfl, _, rfl, fin _ _ (by decide +kernel) (s2.trans (s3.trans s4))⟩⟩
    · intro H2 s2
      have hS' : SqL K H2 a (ns.map V.int) := ex_l (s1.trans s2) hS
      have T2 := hT.ext (s1.trans s2)
      refine ⟨_, rfl, _, _, rfl, .inl hS', _, _, rfl, _, _, rfl, _, rfl, ?_, ?_, for_range (lo := 0) (fun i σ' H' => ∃ v2 v3 v4, σ' = [some (.ref a), some (.ref p1), v2, v3, v4] ∧
        SqL K H' a (ns.map V.int) ∧ LamX.Tabs Tb H') ⟨none, none, none, rfl, hS', T2⟩ ?_ ?_⟩
      · split <;> split <;> omega
      · split <;> split <;> omega
      · rintro i σ' H' hi ⟨v2, v3, v4, rfl, hS1, T1⟩
        have hi' : i < 1000 := by
          refine Nat.lt_of_lt_of_le hi ?_
          split <;> split <;> omega
        refine ⟨_, rfl, _, rfl, a, ns, _, rfl, hS1, bits, by omega, by omega, fun n H2 s2 nb2 => ⟨n, rfl, nb2, fun p H3 np s3 bg => ?_⟩⟩
        refine ⟨3, rfl, by decide, by decide, fun C hC => ?_⟩
        have nCp : C ≠ p := bg.ne_none hC
        have s23 := s2.trans s3
        have C2 : H2 C = none := s3.free hC
        refine lc_range (lo := 0) (n := 3) (fun j H' => LamX.ExtN H2 H' ∧ LamX.Tabs Tb H' ∧ Bag H' p (20 * j) ∧ H' C = some (.lst (List.replicate j (.bl true))))
          ⟨LamX.ExtN.of (s3.trans (same_new hC)), T1.ext (s23.trans (same_new hC)), bg.same (same_new hC), upd_same⟩ ?_ ?_
        · rintro j H4 hj ⟨j1, j3, j4, j5⟩
          refine ⟨rfl, _, rfl, p, 20 * j, rfl, j4, by omega, j3, fun H5 e5 b5 T5 => ⟨_, e5 _ _ nCp j5 (by intro ps q; cases q), ?_, ?_⟩⟩
          · rw [List.length_replicate]
            exact Nat.lt_trans hj (by decide)
          · have hC5 := e5 _ _ nCp j5 (by intro ps q; cases q)
            refine ⟨fun d o e nt => ?_, tabs_put T5 hC5, (b5.put nCp).mono (by omega), ?_⟩
            · rw [upd_ne (ne_of_none e C2)]
              exact e5 _ _ (ne_of_none e np) (j1 _ _ e nt) nt
            · rw [upd_same, List.replicate_succ']
        rintro H4 ⟨j1, j3, j4, j5⟩
        refine ⟨C, List.replicate 3 true, rfl, SqL.of j5, _, rfl, ?_⟩
        refine iteF ?_
        exact ⟨_, _, _, rfl, ext_seq j1 (s2.seq hS1), j3⟩
      · rintro σ' H' ⟨v2, v3, v4, rfl, _⟩
        exact ret _
end L

namespace Hv
open PySem PySem.Spec PyProof.Rows L2
/-! ### the part of the heap that is told -/
abbrev Look := Addr → Option Obj
def names1 (g : Look) (x : Str) : Addr := He.ga (He.frG g [mainGlobals]) x
def next1 (g : Look) (a : Addr) : List Addr := match g a with
  | some o => He.refsD o
  | none => []
/-- a function: what it names; another object: what that names, and so on -/
def next2 (g : Look) (a : Addr) : List Addr := match g a with
  | some ⟨_, _, .func fd, _⟩ => He.refV fd.code ++ He.refV fd.defaults ++ He.refV fd.kwdefaults
  | some o => He.refsD o ++ (He.refsD o).flatMap (next1 g)
  | none => []
def ofCls (g : Look) (C : Addr) : List Addr := C :: match g C with
  | some ⟨_, _, .cls cd, _⟩ => cd.ns :: (next1 g cd.ns).flatMap fun a => a :: next2 g a
  | _ => []
/-- the defs fs, the classes cs with all their methods, the classes ds without -/
def asO (g : Look) (fs cs ds : List Str) : List Addr := mainGlobals :: ((fs.flatMap fun x => names1 g x :: next1 g (names1 g x)) ++ ((cs.flatMap fun x => ofCls g (names1 g x)) ++ ds.flatMap fun x => names1 g x :: match g (names1 g x) with
  | some ⟨_, _, .cls cd, _⟩ => [cd.ns]
  | _ => []))
/-! ### a def at a place -/
structure DefQ where
  at_ : PySem.W.Frag → Addr
  name : Str
  qual : Str
  st : Stmt
  dfl : List He.Dv := []
def DefQ.val (d : DefQ) : He.FnW := some (d.name, d.qual, defArgs d.st, .stmts (defBody d.st), defScope d.st, mainGlobals, [], builtinsNs)
def DefQ.obs (K : PySem.W.Frag) (d : DefQ) : He.FnW := match K.lookup (d.at_ K) with
  | some ⟨_, _, .func fd, _⟩ => some (fd.name, fd.qualname, fd.params, fd.body, fd.scope, fd.globals, fd.closure, fd.builtins)
  | _ => none
def DefQ.dvs (K : PySem.W.Frag) (d : DefQ) : List V := d.dfl.map (He.Dv.v K)
def DefQ.ok (K : PySem.W.Frag) (d : DefQ) : Bool := PySem.W.keepIn K (.ref (d.at_ K)) && (match K.lookup (d.at_ K) with
  | some ⟨_, _, .func fd, _⟩ => PySem.W.codeIn K fd.code d.qual && He.dflB K fd.defaults (d.dvs K)
  | _ => false)
/-- what is known of it -/
def DefO (K : PySem.W.Frag) (d : DefQ) : Prop := ∃ (oc : Value) (od : Option Addr) (dV kV doc pm : Value) (an : Option Addr) (cd ct : Value) (sl : Array (Option Value)),
  K.lookup (d.at_ K) = some ⟨oc, od, .func (PySem.W.fnOf d.name d.qual (defArgs d.st) (defBody d.st) (defScope d.st) dV kV doc pm an cd ct), sl⟩ ∧ PySem.W.codeIn K cd d.qual = true ∧ DflV K dV (d.dvs K) ∧ PySem.W.keepIn K (.ref (d.at_ K)) = true
theorem DefQ.out {K : PySem.W.Frag} {d : DefQ} (e : d.obs K = d.val) (c : d.ok K = true) : DefO K d := by
  obtain ⟨kp, c2⟩ := He.ba c
  unfold DefQ.obs at e
  cases q : K.lookup (d.at_ K) with
  | none =>
    rw [q] at c2
    cases c2
  | some o =>
    obtain ⟨oc, od, dt, osl⟩ := o
    rw [q] at c2 e
    cases dt with
    | func fd =>
      obtain ⟨n1, n2, n3, n4, n5, n6, n7, n8, n9, n10, n11, n12, n13, n14, n15⟩ := fd
      have e2 : (some (n1, n2, n3, n4, n5, n6, n7, n15) : He.FnW) = some (d.name, d.qual, defArgs d.st, .stmts (defBody d.st), defScope d.st, mainGlobals, [], builtinsNs) := e
      simp only [Option.some.injEq, Prod.mk.injEq] at e2
      obtain ⟨h1, h2, h3, h4, h5, h6, h7, h8⟩ := e2
      subst h1 h2 h3 h4 h5 h6 h7 h8
      obtain ⟨k1, k2⟩ := He.ba (show (PySem.W.codeIn K n13 d.qual && He.dflB K n8 (d.dvs K)) = true from c2)
      exact ⟨oc, od, n8, n9, n10, n11, n12, n13, n14, osl, q, k1, He.dflB_ok k2, kp⟩
    | _ => cases c2
/-! ### the Hook -/
abbrev Fb := PySem.W.Frag → Bool
def tabB (g : Look) (K : PySem.W.Frag) (x : Str) : Bool := PySem.W.codeHdIn K (He.cT K (x, none)).1 (He.cT K (x, none)).2 && (match g (He.cT K (x, none)).2 with
  | some o => He.emptyTab o
  | none => false)
abbrev Ob := Bool × List He.FnW
def obO (fb : List Fb) (fn : List DefQ) (tf : List Str) (g : Look) (K : PySem.W.Frag) : Ob := ((fb.all fun b => b K) && (fn.all (fun d => d.ok K) && tf.all (fun x => tabB g K x)), fn.map fun d => d.obs K)
structure Says (fb : List Fb) (fn : List DefQ) (tf : List Str) (h : Heap) (K : PySem.W.Frag) : Prop where
  kin : K.In h
  bs : ∀ b ∈ fb, b K = true
  df : ∀ d ∈ fn, DefO K d
  hd : ∀ x ∈ tf, PySem.W.codeHdIn K (He.cT K (x, none)).1 (He.cT K (x, none)).2 = true
  no : ∀ x ∈ tf, K.lookup (He.cT K (x, none)).2 = none
  em : ∀ x ∈ tf, h.get? (He.cT K (x, none)).2 = some tab0
theorem says_of {fb : List Fb} {fn : List DefQ} {tf : List Str} {h : Heap} {as : List Addr} (e : obO fb fn tf h.get? (He.frT h.get? as) = (true, fn.map DefQ.val)) : Says fb fn tf h (He.frT h.get? as) := by
  obtain ⟨e1, e2⟩ := Prod.mk.inj e
  obtain ⟨h1, h2⟩ := He.ba e1
  obtain ⟨h3, h4⟩ := He.ba h2
  have key : ∀ x ∈ tf, PySem.W.codeHdIn (He.frT h.get? as) (He.cT (He.frT h.get? as) (x, none)).1 (He.cT (He.frT h.get? as) (x, none)).2 = true ∧ ∃ o, h.get? (He.cT (He.frT h.get? as) (x, none)).2 = some o ∧ He.emptyTab o = true := fun x hx => by
    obtain ⟨k1, k2⟩ := He.ba (List.all_eq_true.mp h4 x hx)
    refine ⟨k1, ?_⟩
    cases q : h.get? (He.cT (He.frT h.get? as) (x, none)).2 with
    | none =>
      rw [q] at k2
      cases k2
    | some o =>
      rw [q] at k2
      exact ⟨o, rfl, k2⟩
  refine ⟨He.frT_in, fun b hb => List.all_eq_true.mp h1 b hb, fun d hd => ?_, fun x hx => (key x hx).1, fun x hx => ?_, fun x hx => ?_⟩
  · refine DefQ.out ?_ (List.all_eq_true.mp h3 d hd)
    exact List.map_inj_left.mp e2 d hd
  · obtain ⟨_, o, q, z⟩ := key x hx
    exact He.frT_none q z
  · obtain ⟨_, o, q, z⟩ := key x hx
    rw [q, He.emptyTab_eq z]
def hookO (fs cs ds : List Str) (fb : List Fb) (fn : List DefQ) (tf : List Str) : PySem.W.Hook where
  α := Ob
  obs := fun s => obO fb fn tf s.heap.get? (He.frT s.heap.get? (asO s.heap.get? fs cs ds))
  val := fun _ => (true, fn.map DefQ.val)
  says := fun _ h => ∃ K : PySem.W.Frag, Says fb fn tf h K
  of := fun _ _ e => ⟨_, says_of e⟩
  keeps := fun _ _ _ ⟨K, c⟩ k => ⟨K, PySem.W.Frag.In.keeps c.kin k, c.bs, c.df, c.hd, c.no, fun x hx => k _ _ (c.em x hx)⟩
def obT (fs cs ds : List Str) (fb : List Fb) (fn : List DefQ) (tf : List Str) (s : PySem.W.SharedT) : Ob := obO fb fn tf (HandSHeadRun.getT s) (He.frT (HandSHeadRun.getT s) (asO (HandSHeadRun.getT s) fs cs ds))
theorem obT_eq {fs cs ds : List Str} {fb : List Fb} {fn : List DefQ} {tf : List Str} (s : PySem.W.SharedT) : obT fs cs ds fb fn tf s = (hookO fs cs ds fb fn tf).obs s.abs := by
  have e : HandSHeadRun.getT s = s.abs.heap.get? := funext (HandSHeadRun.getT_eq s)
  unfold obT
  rw [e]
  rfl
section
variable {fb : List Fb} {fn : List DefQ} {tf : List Str} {h : Heap} {K : PySem.W.Frag}
theorem Says.b (c : Says fb fn tf h K) (i : Nat) {f : Fb} (hf : fb[i]? = some f := by rfl) : f K = true := c.bs f (List.mem_of_getElem? hf)
theorem Says.d (c : Says fb fn tf h K) (i : Nat) {f : DefQ} (hf : fn[i]? = some f := by rfl) : DefO K f := c.df f (List.mem_of_getElem? hf)
theorem dfl_none {dV : Value} (h : DflV K dV []) : dV = .none := by
  rcases h with ⟨_, h⟩ | ⟨h, _⟩
  · exact h
  · exact absurd rfl h
/-- a def of the module -/
abbrev defG (x : Str) (st : Stmt) : DefQ := ⟨fun K => He.ga K x, x, x, st, []⟩
theorem defIn_of {x : Str} {st : Stmt} (h : DefO K (defG x st)) (hg : PySem.W.nsIn K mainGlobals x = some (some (.ref (He.ga K x)))) : DefIn K x st := by
  obtain ⟨oc, od, dV, kV, doc, pm, an, cd, ct, sl, h1, h2, h3, h4⟩ := h
  cases dfl_none h3
  exact ⟨_, oc, od, kV, doc, pm, an, cd, ct, sl, hg, h1, h2, h4⟩
theorem tabIn_of {x : Str} {st : Stmt} (c : Says fb fn tf h K) (hx : x ∈ tf) (d : DefO K (defG x st)) (hg : PySem.W.nsIn K mainGlobals x = some (some (.ref (He.ga K x)))) : TabIn K x (He.cT K (x, none)).1 (He.cT K (x, none)).2 := by
  obtain ⟨oc, od, dV, kV, doc, pm, an, cd, ct, sl, h1, h2, h3, h4⟩ := d
  obtain ⟨cc, rfl⟩ := He.codeIn_ref h2
  have e : (He.cT K (x, none)).1 = cc := He.codeOf_eq (p := (x, none)) h1 rfl
  have hd := c.hd x hx
  have no := c.no x hx
  generalize (He.cT K (x, none)).2 = P at hd no ⊢
  rw [e] at hd ⊢
  unfold PySem.W.codeHdIn at hd
  split at hd
  · rename_i dd vs sl2 hk
    simp only [Bool.and_eq_true] at hd
    obtain ⟨⟨⟨⟨⟨q, _⟩, _⟩, _⟩, _⟩, _⟩ := hd
    have hv : vs[11]? = some (.ref P) := by
      split at q
      · rename_i P' e'
        rw [e', beq_iff_eq.mp q]
      · cases q
    exact ⟨_, _, _, _, _, _, _, hg, h1, rfl, rfl, hk, hv, no⟩
  · cases hd
end
/-! ### an error class -/
def excB (K : PySem.W.Frag) (C : Addr) : Bool := match K.lookup C with
  | some ⟨.type c, _, .cls cd, sl⟩ => (match cd.mro, sl.toList with
    | .ref C' :: bm, [_, _, _, _, some (.builtin n), _] => decide (c = "type") && (decide (C' = C) && (decide (n = "ValueError.__new__") && (!cd.hasDel && (cd.hasDict && PySem.HandSPX.refsVE bm))))
    | _, _ => false)
  | _ => false
theorem excB_ok {K : PySem.W.Frag} {C : Addr} (h : excB K C = true) : ∃ nm q N bs bm sn sub ab col dd k0 k1 k2 k3 k5, K.lookup C = some (excClassObj nm q C N bs bm true sn sub ab col dd k0 k1 k2 k3 k5 "ValueError.__new__") ∧ PySem.HandSPX.refsVE bm = true := by
  unfold excB at h
  split at h
  · rename_i c dd cd sl hk
    split at h
    · rename_i C' bm k0 k1 k2 k3 n k5 hm hs
      simp only [Bool.and_eq_true, decide_eq_true_eq, Bool.not_eq_true'] at h
      obtain ⟨rfl, rfl, rfl, hdel, hdict, hr⟩ := h
      obtain ⟨nm, bs, mro, ns, qn, hd, sn, sub, ab, col, del⟩ := cd
      dsimp only at hm hdel hdict
      subst hm hdel hdict
      have hsl : sl = #[k0, k1, k2, k3, some (.builtin "ValueError.__new__"), k5] := by
        obtain ⟨l⟩ := sl
        simp only at hs
        rw [hs]
      subst hsl
      exact ⟨nm, qn, ns, bs, bm, sn, sub, ab, col, dd, k0, k1, k2, k3, k5, hk, hr⟩
    · cases h
  · cases h
/-- all of it, for the class named x -/
def errInB (x : Str) : Fb := fun K => excB K (He.ga K x) && (decide (PySem.W.findIn K (.ref (He.ga K x)) "__setattr__" = some (some (.builtin "object.__setattr__"))) && (decide (PySem.W.subIn K (.ref (He.ga K x)) (.type "BaseException") = some true) && (decide (PySem.W.typeIn K (.ref (He.ga K x)) = some (.type "type")) &&
  (PySem.W.keepIn K (.ref (He.ga K x)) && (decide (PySem.W.findIn K (.ref (He.ga K x)) "__init__" = some (some (.ref (He.ma K (He.ga K x) "__init__")))) && decide (PySem.W.typeIn K (.ref (He.ma K (He.ga K x) "__init__")) = some (.type "function")))))))
abbrev defM (C m q : Str) (st : Stmt) (dfl : List He.Dv := []) : DefQ := ⟨fun K => He.ma K (He.ga K C) m, m, q, st, dfl⟩
theorem errIn_of {K : PySem.W.Frag} {x f q : Str} {st : Stmt} (h : errInB x K = true) (d : DefO K (defM x "__init__" q st)) (ha : ∃ p1 p2, defArgs st = eA f p1 p2) (hb : ∃ q1 q2 q3 q4, defBody st = eB f q1 q2 q3 q4) (hs : defScope st = eS f) : ErrIn K (He.ga K x) f := by
  unfold errInB at h
  simp only [Bool.and_eq_true, decide_eq_true_eq] at h
  obtain ⟨h1, h2, h3, h4, h5, h6, h7⟩ := h
  obtain ⟨oc, od, dV, kV, doc, pm, an, cd, ct, sl, d1, d2, d3, d4⟩ := d
  cases dfl_none d3
  obtain ⟨p1, p2, ha⟩ := ha
  obtain ⟨q1, q2, q3, q4, hb⟩ := hb
  refine ⟨⟨excB_ok h1, h2, h3, h4, h5⟩, _, oc, od, kV, doc, pm, an, cd, ct, sl, q, p1, p2, q1, q2, q3, q4, h6, h7, ?_, d2⟩
  rw [← ha, ← hb, ← hs]
  exact d1
/-! ### a method, a property -/
def methB (C m : Str) : Fb := fun K => decide (PySem.W.findIn K (.ref (He.ga K C)) m = some (some (.ref (He.ma K (He.ga K C) m)))) && PySem.W.isFn K (.ref (He.ma K (He.ga K C) m))
theorem methIn_of {K : PySem.W.Frag} {C m q : Str} {st : Stmt} (h : methB C m K = true) (d : DefO K (defM C m q st)) : MethIn K (He.ga K C) m q st := by
  unfold methB at h
  simp only [Bool.and_eq_true, decide_eq_true_eq] at h
  obtain ⟨oc, od, dV, kV, doc, pm, an, cd, ct, sl, d1, d2, d3, d4⟩ := d
  cases dfl_none d3
  exact ⟨_, oc, od, kV, doc, pm, an, cd, ct, sl, h.1, h.2, d1, d2, d4⟩
def pg (C m : Str) (K : PySem.W.Frag) : Addr := match PySem.W.recIn K (He.ma K (He.ga K C) m) "property" with
  | some (.ref g :: _) => g
  | _ => 0
def propB (C m : Str) : Fb := fun K => decide (PySem.W.findIn K (.ref (He.ga K C)) m = some (some (.ref (He.ma K (He.ga K C) m)))) && (decide (PySem.W.specialIn K (.ref (He.ma K (He.ga K C) m)) "__get__" = some (some (.builtin "property.__get__"))) && (decide (PySem.W.takesIn K (.ref (He.ma K (He.ga K C) m)) = some true) &&
  (match PySem.W.recIn K (He.ma K (He.ga K C) m) "property" with
  | some (.ref _ :: _) => true
  | _ => false)))
abbrev defP (C m q : Str) (st : Stmt) : DefQ := ⟨pg C m, m, q, st, []⟩
theorem propIn_of {K : PySem.W.Frag} {C m q : Str} {st : Stmt} (h : propB C m K = true) (d : DefO K (defP C m q st)) : PropIn K (He.ga K C) m q st := by
  unfold propB at h
  simp only [Bool.and_eq_true, decide_eq_true_eq] at h
  obtain ⟨h1, h2, h3, h4⟩ := h
  obtain ⟨oc, od, dV, kV, doc, pm, an, cd, ct, sl, d1, d2, d3, d4⟩ := d
  cases dfl_none d3
  split at h4
  · rename_i g rest e
    have eg : pg C m K = g := by
      unfold pg
      rw [e]
    rw [show (defP C m q st).at_ K = g from eg] at d1 d4
    exact ⟨g, oc, od, kV, doc, pm, an, cd, ct, sl, ⟨_, h1, h2, h3, rest, e⟩, d1, d2, d4⟩
  · cases h4
/-! ### constants -/
def intB (x : Str) (i : Int) : Fb := fun K => match PySem.W.nsIn K mainGlobals x with
  | some (some (.int j _)) => decide (j = i)
  | _ => false
theorem intIn_of {K : PySem.W.Frag} {x : Str} {i : Int} (h : intB x i K = true) : ∃ v, PySem.W.nsIn K mainGlobals x = some (some v) ∧ ∃ t, v = .int i t := by
  unfold intB at h
  split at h
  · rename_i j t e
    cases of_decide_eq_true h
    exact ⟨_, e, _, rfl⟩
  · cases h
def strB (x z : Str) : Fb := fun K => match PySem.W.nsIn K mainGlobals x with
  | some (some (.str y _)) => decide (y = z)
  | _ => false
theorem strIn_of {K : PySem.W.Frag} {x z : Str} (h : strB x z K = true) : ∃ v, PySem.W.nsIn K mainGlobals x = some (some v) ∧ ∃ t, v = .str z t := by
  unfold strB at h
  split at h
  · rename_i y t e
    cases of_decide_eq_true h
    exact ⟨_, e, _, rfl⟩
  · cases h
/-! ### the end -/
theorem walkTE {l : PySem.W.OpenLaw} {n k : Nat} {q : Program} {loose : List Str} {XP : (Str → Option Value) → Heap → Prop} {YP : World → Heap → Prop} {d : DefRec} {x : Str} {fb : List Fb} {fn : List DefQ} (xs : List Str)
    (hn : l.most = some n) (hn2 : n ≤ sizeLine) (hdf : d.params.defaults = []) (hr : Room k callerA) (hY : ∀ (w : World) (h : Heap), YP w h → ∃ K, Says fb fn xs h K)
    (F : ∀ (w : World) (mg : Str → Option Value) (fa : Addr) (h : Heap) (K : PySem.W.Frag), Says fb fn xs h K → h.Ns mainGlobals mg → mg d.name = some (.ref fa) → LawT l w K k n x mg fa xs) :
    PySem.W.WalkO q loose XP YP l.row.toRowW d [] (fun f vs => PySem.call f vs) := by
  refine Att.attach_callB hn hdf ?_
  intro w s₀ s₁ mg mb fa o pm cd doc a vs ns G Y ho hd hcd hmg hobj hints hlen hbits hg
  obtain ⟨K, c⟩ := hY w _ Y
  have X := c.kin
  obtain ⟨fd, cs, sp, ht, hb, hsp, hF⟩ := F w mg fa _ K c G.T.g hmg
  have key : ∀ p ∈ cs, ∃ y ∈ xs, p = He.cT K (y, none) := fun p hp => by
    obtain ⟨y, hy, f, o, fd, e, dd, us, sl, k1, k2, k3, k4, k5, k6, _⟩ := ht p hp
    refine ⟨y, hy, ?_⟩
    have eg : He.fAd K (y, none) = f := by
      show He.ga K y = f
      unfold He.ga
      rw [k1]
    obtain ⟨oc, od, dt, osl⟩ := o
    cases k3
    have e1 : He.codeOf K (y, none) = p.1 := He.codeOf_eq (by rw [eg]; exact k2) k4
    have e2 : He.tabOf K p.1 = p.2 := by
      unfold He.tabOf
      rw [k5]
      show (match us.getD 11 .none with | .ref P => P | _ => 0) = p.2
      rw [Array.getD_eq_getD_getElem?, k6]
      rfl
    unfold He.cT
    rw [e1, e2]
  refine call_lawT X G.T.g G.T.b G.T.builtins G.T.nolimit hg (fun p hp => ?_) (fun p hp => ?_) (fun p hp => ?_) G.T.bmain hobj hints (Nat.le_trans hlen hn2) hr hF hb fun H hC hS => hsp H a ns hlen hbits hC hS
  · obtain ⟨y, hy, rfl⟩ := key p hp
    exact c.em y hy
  · obtain ⟨y, hy, rfl⟩ := key p hp
    exact c.no y hy
  · obtain ⟨y, hy, rfl⟩ := key p hp
    exact PySem.W.codeHd_of_K X (c.hd y hy)
end Hv

namespace L
open PySem L2 Hv SlX
def slotA (K : PySem.W.Frag) (C : Addr) (n : Str) : Addr := match PySem.W.findIn K (.ref C) n with
  | some (some (.ref a)) => a
  | _ => 0
theorem all_mk {l : PySem.W.OpenLaw} {w : World} {K : PySem.W.Frag} {h : Heap} {mg : Str → Option Value} {fa : Addr} (X : K.In h) (G : h.Ns mainGlobals mg) (hfa : mg "law" = some (.ref fa))
    {C pS : Addr}
    (z_a : PySem.W.nsIn K mainGlobals "Length" = some (some (.ref C)))
    (z_pg : PySem.W.plainGet K C Str.empty = true)
    (z_ic : PySem.W.isClsIn K C = true)
    (z_po : PySem.W.plainOver K C = true)
    (z_sa : PySem.W.findIn K (.ref C) "__setattr__" = some (some (.builtin "object.__setattr__")))
    (z_s1 : PySem.W.findIn K (.ref C) "place" = some (some (.ref pS)))
    (z_s2 : PySem.W.specialIn K (.ref pS) "__get__" = some (some (.builtin "member_descriptor.__get__")))
    (z_s3 : PySem.W.takesIn K (.ref pS) = some true)
    (z_s4 : PySem.W.typeIn K (.ref pS) = some (.type "member_descriptor"))
    (z_s5 : PySem.W.slotIn K pS C = some 0)
    (z_i1 : PySem.W.findIn K (.ref C) "__class__" = some (some (.builtin "object.__class__")))
    (z_i2 : PySem.W.specialIn K (.builtin "object.__class__") "__get__" = some (some (.builtin "getset_descriptor.__get__")))
    (z_i3 : PySem.W.takesIn K (.builtin "object.__class__") = some true)
    (z_i4 : PySem.W.mroIn K C (.type "object") = some true)
    (z_k1 : PySem.W.kitOne K (.ref C) (.ref C) = some true)
    (z_nf : PySem.W.notFirst K C (.ref C) = true)
    (z_sf : PySem.W.selfFirst K C = true)
    (z_a1 : PySem.W.findIn K (.type "int") "__add__" = some (some (.builtin "int.__add__")))
    (z_a2 : PySem.W.findIn K (.type "int") "__radd__" = some (some (.builtin "int.__radd__")))
    (z_mk : PySem.W.makesIn K C = true)
    (z_kc : PySem.W.keepIn K (.ref C) = true)
    (z_ne : PySem.W.findIn K (.ref C) "__ne__" = some (some (.builtin "object.__ne__")))
    (z_bo : PySem.W.findIn K (.ref C) "__bool__" = some none)
    (z_le : PySem.W.findIn K (.ref C) "__len__" = some none)
    (z_t0 : PySem.W.subIn K (.ref C) (.type "NoneType") = some false)
    (z_t1 : PySem.W.subIn K (.ref C) (.type "int") = some false)
    (z_t2 : PySem.W.subIn K (.ref C) (.type "bool") = some false)
    (z_t3 : PySem.W.subIn K (.ref C) (.type "str") = some false)
    (z_t4 : PySem.W.subIn K (.ref C) (.type "list") = some false)
    (z_t5 : PySem.W.subIn K (.ref C) (.type "tuple") = some false)
    (z_u0 : PySem.W.subIn K (.type "NoneType") (.ref C) = some false)
    (z_u1 : PySem.W.subIn K (.type "int") (.ref C) = some false)
    (z_u2 : PySem.W.subIn K (.type "bool") (.ref C) = some false)
    (z_u3 : PySem.W.subIn K (.type "str") (.ref C) = some false)
    (z_u4 : PySem.W.subIn K (.type "list") (.ref C) = some false)
    (z_u5 : PySem.W.subIn K (.type "tuple") (.ref C) = some false)
    (z_q0 : PySem.W.kitOne K (.type "NoneType") (.ref C) = some false)
    (z_q1 : PySem.W.kitOne K (.type "int") (.ref C) = some false)
    (z_q2 : PySem.W.kitOne K (.type "bool") (.ref C) = some false)
    (z_q3 : PySem.W.kitOne K (.type "str") (.ref C) = some false)
    (z_q4 : PySem.W.kitOne K (.type "list") (.ref C) = some false)
    (z_q5 : PySem.W.kitOne K (.type "tuple") (.ref C) = some false)
    (m_Length_init : MethIn K C "__init__" "Length.__init__" s_Length_init)
    (m_Length_steps : PropIn K C "steps" "Length.steps" s_Length_steps)
    (m_Length_word : PropIn K C "word" "Length.word" s_Length_word)
    (m_Length_eq : MethIn K C "__eq__" "Length.__eq__" s_Length_eq)
    (m_Length_lt : MethIn K C "__lt__" "Length.__lt__" s_Length_lt)
    (m_Length_le : MethIn K C "__le__" "Length.__le__" s_Length_le)
    (m_Length_gt : MethIn K C "__gt__" "Length.__gt__" s_Length_gt)
    (m_Length_ge : MethIn K C "__ge__" "Length.__ge__" s_Length_ge)
    (m_Length_add : MethIn K C "__add__" "Length.__add__" s_Length_add)
    (m_Length_radd : MethIn K C "__radd__" "Length.__radd__" s_Length_radd)
    (m_Length_str : MethIn K C "__str__" "Length.__str__" s_Length_str)
    {E0 E1 E2 E3 E4 E5 E6 E7 E8 E9 E10 E11 E12 E13 E14 E15 E16 E17 E18 E19 E20 E21 E22 E23 E24 E25 E26 E27 E28 E29 E30 E31 E32 E33 : Addr}
    (n_E0 : PySem.W.nsIn K mainGlobals "InvalidName" = some (some (.ref E0)))
    (n_E1 : PySem.W.nsIn K mainGlobals "InvalidNumber" = some (some (.ref E1)))
    (n_E2 : PySem.W.nsIn K mainGlobals "InvalidBound" = some (some (.ref E2)))
    (n_E3 : PySem.W.nsIn K mainGlobals "InvalidNeeds" = some (some (.ref E3)))
    (n_E4 : PySem.W.nsIn K mainGlobals "InvalidClosing" = some (some (.ref E4)))
    (n_E5 : PySem.W.nsIn K mainGlobals "InvalidEnds" = some (some (.ref E5)))
    (n_E6 : PySem.W.nsIn K mainGlobals "InvalidAmount" = some (some (.ref E6)))
    (n_E7 : PySem.W.nsIn K mainGlobals "InvalidText" = some (some (.ref E7)))
    (n_E8 : PySem.W.nsIn K mainGlobals "InvalidHouse" = some (some (.ref E8)))
    (n_E9 : PySem.W.nsIn K mainGlobals "InvalidShare" = some (some (.ref E9)))
    (n_E10 : PySem.W.nsIn K mainGlobals "InvalidLimit" = some (some (.ref E10)))
    (n_E11 : PySem.W.nsIn K mainGlobals "InvalidLength" = some (some (.ref E11)))
    (n_E12 : PySem.W.nsIn K mainGlobals "InvalidWish" = some (some (.ref E12)))
    (n_E13 : PySem.W.nsIn K mainGlobals "InvalidIndex" = some (some (.ref E13)))
    (n_E14 : PySem.W.nsIn K mainGlobals "NotRules" = some (some (.ref E14)))
    (n_E15 : PySem.W.nsIn K mainGlobals "InvalidKinds" = some (some (.ref E15)))
    (n_E16 : PySem.W.nsIn K mainGlobals "InvalidRows" = some (some (.ref E16)))
    (n_E17 : PySem.W.nsIn K mainGlobals "InvalidChanges" = some (some (.ref E17)))
    (n_E18 : PySem.W.nsIn K mainGlobals "InvalidWishes" = some (some (.ref E18)))
    (n_E19 : PySem.W.nsIn K mainGlobals "UnknownName" = some (some (.ref E19)))
    (n_E20 : PySem.W.nsIn K mainGlobals "UnknownMember" = some (some (.ref E20)))
    (n_E21 : PySem.W.nsIn K mainGlobals "InUse" = some (some (.ref E21)))
    (n_E22 : PySem.W.nsIn K mainGlobals "NotFinite" = some (some (.ref E22)))
    (n_E23 : PySem.W.nsIn K mainGlobals "Over" = some (some (.ref E23)))
    (n_E24 : PySem.W.nsIn K mainGlobals "IsClosed" = some (some (.ref E24)))
    (n_E25 : PySem.W.nsIn K mainGlobals "NotListed" = some (some (.ref E25)))
    (n_E26 : PySem.W.nsIn K mainGlobals "TooFew" = some (some (.ref E26)))
    (n_E27 : PySem.W.nsIn K mainGlobals "UsedUp" = some (some (.ref E27)))
    (n_E28 : PySem.W.nsIn K mainGlobals "CannotClose" = some (some (.ref E28)))
    (n_E29 : PySem.W.nsIn K mainGlobals "NothingToUndo" = some (some (.ref E29)))
    (n_E30 : PySem.W.nsIn K mainGlobals "Broken" = some (some (.ref E30)))
    (n_E31 : PySem.W.nsIn K mainGlobals "WrongValue" = some (some (.ref E31)))
    (n_E32 : PySem.W.nsIn K mainGlobals "WrongName" = some (some (.ref E32)))
    (n_E33 : PySem.W.nsIn K mainGlobals "NotPossible" = some (some (.ref E33)))
    (x_E11 : errB K [E0, E1, E2, E3, E4, E5, E6, E7, E8, E9, E10, E11, E12, E13, E14, E15, E16, E17, E18, E19, E20, E21, E22, E23, E24, E25, E26, E27, E28, E29, E30, E31, E32, E33] 11 = true)
    (y_E11 : ErrIn K E11 "given")
    {tc_right tp_right : Addr}
    (t_right : TabIn K "_law_right" tc_right tp_right)
    (d_is_integer : DefIn K "is_integer" s_is_integer)
    (d_seed : DefIn K "_law_seed" s_seed)
    (d_bag : DefIn K "_law_bag" s_bag)
    (d_take : DefIn K "_law_take" s_take)
    (d_terms : DefIn K "_law_terms" s_terms)
    (d_sort : DefIn K "_law_sort" s_sort)
    (d_held : DefIn K "_law_held" s_held)
    (d_caught : DefIn K "_law_caught" s_caught)
    (d_worth : DefIn K "_law_worth" s_worth)
    (d_place : DefIn K "_law_place" s_place)
    (d_signs : DefIn K "_law_signs" s_signs)
    (d_signs_due : DefIn K "_law_signs_due" s_signs_due)
    (d_shown : DefIn K "_law_shown" s_shown)
    (d_due : DefIn K "_law_due" s_due)
    (d_is_length : DefIn K "_law_is_length" s_is_length)
    (d_odd : DefIn K "_law_odd" s_odd)
    (d_right : DefIn K "_law_right" s_right)
    (d_law : DefIn K "law" s_law)
    (b_ArithmeticError : PySem.W.nsIn K mainGlobals "ArithmeticError" = some none)
    (b_LookupError : PySem.W.nsIn K mainGlobals "LookupError" = some none)
    (b_NotImplemented : PySem.W.nsIn K mainGlobals "NotImplemented" = some none)
    (b_ValueError : PySem.W.nsIn K mainGlobals "ValueError" = some none)
    (b_abs : PySem.W.nsIn K mainGlobals "abs" = some none)
    (b_all : PySem.W.nsIn K mainGlobals "all" = some none)
    (b_bool : PySem.W.nsIn K mainGlobals "bool" = some none)
    (b_divmod : PySem.W.nsIn K mainGlobals "divmod" = some none)
    (b_int : PySem.W.nsIn K mainGlobals "int" = some none)
    (b_isinstance : PySem.W.nsIn K mainGlobals "isinstance" = some none)
    (b_len : PySem.W.nsIn K mainGlobals "len" = some none)
    (b_max : PySem.W.nsIn K mainGlobals "max" = some none)
    (b_min : PySem.W.nsIn K mainGlobals "min" = some none)
    (b_property : PySem.W.nsIn K mainGlobals "property" = some none)
    (b_range : PySem.W.nsIn K mainGlobals "range" = some none)
    (b_repr : PySem.W.nsIn K mainGlobals "repr" = some none)
    (b_str : PySem.W.nsIn K mainGlobals "str" = some none)
    : LawT l w K 13 63 "_law_script" mg fa ["_law_right"] := by
  have T : Txt K mg := ⟨PySem.W.mg_none_of X G b_ArithmeticError, PySem.W.mg_none_of X G b_LookupError, PySem.W.mg_none_of X G b_NotImplemented, PySem.W.mg_none_of X G b_ValueError, PySem.W.mg_none_of X G b_abs, PySem.W.mg_none_of X G b_all, PySem.W.mg_none_of X G b_bool, PySem.W.mg_none_of X G b_divmod, PySem.W.mg_none_of X G b_int, PySem.W.mg_none_of X G b_isinstance, PySem.W.mg_none_of X G b_len, PySem.W.mg_none_of X G b_max, PySem.W.mg_none_of X G b_min, PySem.W.mg_none_of X G b_property, PySem.W.mg_none_of X G b_range, PySem.W.mg_none_of X G b_repr, PySem.W.mg_none_of X G b_str⟩
  obtain ⟨f_is_integer, fd_is_integer, D_is_integer⟩ := d_is_integer.at X G (ps := P_is_integer) (fun _ _ _ _ _ _ us hl => match us, hl with | [_], _ => rfl)
  obtain ⟨f_seed, fd_seed, D_seed⟩ := d_seed.at X G (ps := P_seed) (fun _ _ _ _ _ _ us hl => match us, hl with | [_, _], _ => rfl)
  obtain ⟨f_bag, fd_bag, D_bag⟩ := d_bag.at X G (ps := P_bag) (fun _ _ _ _ _ _ us hl => match us, hl with | [_], _ => rfl)
  obtain ⟨f_take, fd_take, D_take⟩ := d_take.at X G (ps := P_take) (fun _ _ _ _ _ _ us hl => match us, hl with | [_, _], _ => rfl)
  obtain ⟨f_terms, fd_terms, D_terms⟩ := d_terms.at X G (ps := P_terms) (fun _ _ _ _ _ _ us hl => match us, hl with | [], _ => rfl)
  obtain ⟨f_sort, fd_sort, D_sort⟩ := d_sort.at X G (ps := P_sort) (fun _ _ _ _ _ _ us hl => match us, hl with | [_], _ => rfl)
  obtain ⟨f_held, fd_held, D_held⟩ := d_held.at X G (ps := P_held) (fun _ _ _ _ _ _ us hl => match us, hl with | [_, _], _ => rfl)
  obtain ⟨f_caught, fd_caught, D_caught⟩ := d_caught.at X G (ps := P_caught) (fun _ _ _ _ _ _ us hl => match us, hl with | [_], _ => rfl)
  obtain ⟨f_worth, fd_worth, D_worth⟩ := d_worth.at X G (ps := P_worth) (fun _ _ _ _ _ _ us hl => match us, hl with | [_], _ => rfl)
  obtain ⟨f_place, fd_place, D_place⟩ := d_place.at X G (ps := P_place) (fun _ _ _ _ _ _ us hl => match us, hl with | [_], _ => rfl)
  obtain ⟨f_signs, fd_signs, D_signs⟩ := d_signs.at X G (ps := P_signs) (fun _ _ _ _ _ _ us hl => match us, hl with | [_, _], _ => rfl)
  obtain ⟨f_signs_due, fd_signs_due, D_signs_due⟩ := d_signs_due.at X G (ps := P_signs_due) (fun _ _ _ _ _ _ us hl => match us, hl with | [_, _], _ => rfl)
  obtain ⟨f_shown, fd_shown, D_shown⟩ := d_shown.at X G (ps := P_shown) (fun _ _ _ _ _ _ us hl => match us, hl with | [_], _ => rfl)
  obtain ⟨f_due, fd_due, D_due⟩ := d_due.at X G (ps := P_due) (fun _ _ _ _ _ _ us hl => match us, hl with | [_], _ => rfl)
  obtain ⟨f_is_length, fd_is_length, D_is_length⟩ := d_is_length.at X G (ps := P_is_length) (fun _ _ _ _ _ _ us hl => match us, hl with | [_], _ => rfl)
  obtain ⟨f_odd, fd_odd, D_odd⟩ := d_odd.at X G (ps := P_odd) (fun _ _ _ _ _ _ us hl => match us, hl with | [_], _ => rfl)
  obtain ⟨f_right, fd_right, D_right⟩ := d_right.at X G (ps := P_right) (fun _ _ _ _ _ _ us hl => match us, hl with | [_], _ => rfl)
  obtain ⟨f_Length_init, fd_Length_init, D_Length_init⟩ := m_Length_init.at (ps := P_Length_init) (fun _ _ _ _ _ _ us hl => match us, hl with | [_, _], _ => rfl)
  obtain ⟨f_Length_steps, fd_Length_steps, D_Length_steps⟩ := m_Length_steps.at (ps := P_Length_steps) (fun _ _ _ _ _ _ us hl => match us, hl with | [_], _ => rfl)
  obtain ⟨f_Length_word, fd_Length_word, D_Length_word⟩ := m_Length_word.at (ps := P_Length_word) (fun _ _ _ _ _ _ us hl => match us, hl with | [_], _ => rfl)
  obtain ⟨f_Length_eq, fd_Length_eq, D_Length_eq⟩ := m_Length_eq.at (ps := P_Length_eq) (fun _ _ _ _ _ _ us hl => match us, hl with | [_, _], _ => rfl)
  obtain ⟨f_Length_lt, fd_Length_lt, D_Length_lt⟩ := m_Length_lt.at (ps := P_Length_lt) (fun _ _ _ _ _ _ us hl => match us, hl with | [_, _], _ => rfl)
  obtain ⟨f_Length_le, fd_Length_le, D_Length_le⟩ := m_Length_le.at (ps := P_Length_le) (fun _ _ _ _ _ _ us hl => match us, hl with | [_, _], _ => rfl)
  obtain ⟨f_Length_gt, fd_Length_gt, D_Length_gt⟩ := m_Length_gt.at (ps := P_Length_gt) (fun _ _ _ _ _ _ us hl => match us, hl with | [_, _], _ => rfl)
  obtain ⟨f_Length_ge, fd_Length_ge, D_Length_ge⟩ := m_Length_ge.at (ps := P_Length_ge) (fun _ _ _ _ _ _ us hl => match us, hl with | [_, _], _ => rfl)
  obtain ⟨f_Length_add, fd_Length_add, D_Length_add⟩ := m_Length_add.at (ps := P_Length_add) (fun _ _ _ _ _ _ us hl => match us, hl with | [_, _], _ => rfl)
  obtain ⟨f_Length_radd, fd_Length_radd, D_Length_radd⟩ := m_Length_radd.at (ps := P_Length_radd) (fun _ _ _ _ _ _ us hl => match us, hl with | [_, _], _ => rfl)
  obtain ⟨f_Length_str, fd_Length_str, D_Length_str⟩ := m_Length_str.at (ps := P_Length_str) (fun _ _ _ _ _ _ us hl => match us, hl with | [_], _ => rfl)
  have KN_Length : KitNo K C := ⟨z_q0, z_q1, z_q2, z_q3, z_q4, z_q5⟩
  have TRU_Length := And.intro z_bo z_le
  have EO_Length : EqO K C f_Length_eq := ⟨D_Length_eq.at_, D_Length_eq.isf, z_ne, z_i4, ⟨z_t0, z_t1, z_t2, z_t3, z_t4, z_t5⟩, z_u0, z_u1, z_u2, z_u3, z_u4, z_u5⟩
  have EN : ErrNames mg (fun i => ([E0, E1, E2, E3, E4, E5, E6, E7, E8, E9, E10, E11, E12, E13, E14, E15, E16, E17, E18, E19, E20, E21, E22, E23, E24, E25, E26, E27, E28, E29, E30, E31, E32, E33] : List Addr).getD i 0) := ⟨PySem.W.mg_of X G n_E0, PySem.W.mg_of X G n_E1, PySem.W.mg_of X G n_E2, PySem.W.mg_of X G n_E3, PySem.W.mg_of X G n_E4, PySem.W.mg_of X G n_E5, PySem.W.mg_of X G n_E6, PySem.W.mg_of X G n_E7, PySem.W.mg_of X G n_E8, PySem.W.mg_of X G n_E9, PySem.W.mg_of X G n_E10, PySem.W.mg_of X G n_E11, PySem.W.mg_of X G n_E12, PySem.W.mg_of X G n_E13, PySem.W.mg_of X G n_E14, PySem.W.mg_of X G n_E15, PySem.W.mg_of X G n_E16, PySem.W.mg_of X G n_E17, PySem.W.mg_of X G n_E18, PySem.W.mg_of X G n_E19, PySem.W.mg_of X G n_E20, PySem.W.mg_of X G n_E21, PySem.W.mg_of X G n_E22, PySem.W.mg_of X G n_E23, PySem.W.mg_of X G n_E24, PySem.W.mg_of X G n_E25, PySem.W.mg_of X G n_E26, PySem.W.mg_of X G n_E27, PySem.W.mg_of X G n_E28, PySem.W.mg_of X G n_E29, PySem.W.mg_of X G n_E30, PySem.W.mg_of X G n_E31, PySem.W.mg_of X G n_E32, PySem.W.mg_of X G n_E33⟩
  have EX11 := errB_ok x_E11
  have ER_InvalidLength : ErrTxt K mg "InvalidLength" "given" E11 := y_E11.txt (PySem.W.mg_of X G n_E11) EX11.isx EX11.f_given fld_given
  obtain ⟨f_law, oc, od, kV, doc, pm, an, cd, ct, sl, e_law, l_law, c_law, k_law⟩ := d_law
  have e := hfa.symm.trans (PySem.W.mg_of X G e_law)
  cases e
  have D_law := fun_mk (st := s_law) l_law c_law k_law
  obtain ⟨oc1, od1, kV1, doc1, pm1, an1, cdv1, ct1, osl1, hfd1, lk1, hcd1⟩ := D_right.fn.ex
  have hcR : fd_right.code = .ref tc_right := by
    obtain ⟨f', o, fd', e, dd, vs, sl', k1, k2, k3, k4, _⟩ := t_right
    have e1 := D_right.mg.symm.trans (PySem.W.mg_of X G k1)
    cases e1
    rw [lk1] at k2
    cases k2
    cases k3
    exact k4
  have d1 : PySem.dunder "add" = ("__add__" : Str) := by decide +kernel
  have d2 : dunderR "add" = ("__radd__" : Str) := by decide +kernel
  have TL : LenTxt K mg C f_Length_add f_Length_radd := ⟨PySem.W.mg_of X G z_a, ⟨z_pg, z_ic, z_po, z_sa⟩, ⟨pS, z_s1, z_s2, z_s3, z_s4, z_s5, by decide⟩, ⟨z_i1, z_i2, z_i3, z_i4⟩, z_k1, z_q1, z_nf,
    ⟨z_sf, by rw [d1]; exact D_Length_add.at_, D_Length_add.isf, by rw [d2]; exact D_Length_radd.at_, D_Length_radd.isf, by rw [d1]; exact z_a1, by rw [d2]; exact z_a2, z_u1, z_t1⟩⟩
  have M_Len : Mk K C f_Length_init := ⟨z_mk, D_Length_init.at_, D_Length_init.isf, z_kc⟩
  refine ⟨PySem.W.fnOf "law" "law" (defArgs s_law) (defBody s_law) (defScope s_law) .none kV doc pm an cd ct, [(tc_right, tp_right)], sp_law K [(tp_right, qR ++ "<lambda>")], ?_, fun s v => .of_eq rfl, ?_, fun base _ _ hB => ?_⟩
  · intro p hp
    simp only [List.mem_cons, List.not_mem_nil, or_false] at hp
    subst hp
    exact ⟨_, by simp, t_right⟩
  · intro H a ns hl hb hC hS
    refine ⟨a, ns, rfl, hS, hl, hb, tabs_nil ?_, fun _ => rfl⟩
    intro p hp
    simp only [List.mem_cons, List.not_mem_nil, or_false] at hp
    subst hp
    exact hC (tc_right, tp_right) (by simp)
  · have hu : ∀ p ∈ [(tp_right, qR ++ ("<lambda>" : Str))], p.1 = tp_right → p.2 = qR ++ ("<lambda>" : Str) := by
      intro p hp e
      simp only [List.mem_cons, List.not_mem_nil, or_false] at hp
      subst hp
      rfl
    have G_Len_initX := ok_Len_initX (P := l.prog) (w := w) (base := base) (c := (fun i => ([E0, E1, E2, E3, E4, E5, E6, E7, E8, E9, E10, E11, E12, E13, E14, E15, E16, E17, E18, E19, E20, E21, E22, E23, E24, E25, E26, E27, E28, E29, E30, E31, E32, E33] : List Addr).getD i 0)) D_Length_init T TL ER_InvalidLength D_is_integer
    have G_sort := ok_sort (P := l.prog) (w := w) (base := base) D_sort T EN D_terms
    have G_held := ok_held (P := l.prog) (w := w) (base := base) (c := (fun i => ([E0, E1, E2, E3, E4, E5, E6, E7, E8, E9, E10, E11, E12, E13, E14, E15, E16, E17, E18, E19, E20, E21, E22, E23, E24, E25, E26, E27, E28, E29, E30, E31, E32, E33] : List Addr).getD i 0)) D_held T
    have G_shown := ok_shown (P := l.prog) (w := w) (base := base) D_shown T TL D_Length_steps D_Length_word D_Length_str
    have G_signs := ok_signs (P := l.prog) (w := w) (base := base) D_signs T TL EO_Length D_Length_eq D_Length_lt D_Length_le D_Length_gt D_Length_ge
    exact ok_law D_law T TL TRU_Length D_bag D_seed D_shown G_shown D_right
      (ok_right D_right T TL EN hcR (hB (tc_right, tp_right) (by simp)) (by simp) hu EX11 EO_Length TRU_Length KN_Length M_Len D_Length_init G_Len_initX D_Length_eq D_take D_worth D_shown G_shown D_due D_signs G_signs D_signs_due D_place D_odd D_is_length D_caught D_sort G_sort D_held G_held)
      D_Length_lt M_Len D_Length_init G_Len_initX
/-! ### the head -/
abbrev R : PySem.W.OpenRow := PySem.W.OpenLaw.row PySem.Challenge.rw_heldvotes_k14_lengths_ordered
def fb_0 : Hv.Fb := fun K => decide (PySem.W.nsIn K mainGlobals "Length" = some (some (.ref (He.ga K "Length"))))
def fb_1 : Hv.Fb := fun K => decide (PySem.W.plainGet K (He.ga K "Length") Str.empty = true)
def fb_2 : Hv.Fb := fun K => decide (PySem.W.isClsIn K (He.ga K "Length") = true)
def fb_3 : Hv.Fb := fun K => decide (PySem.W.plainOver K (He.ga K "Length") = true)
def fb_4 : Hv.Fb := fun K => decide (PySem.W.findIn K (.ref (He.ga K "Length")) "__setattr__" = some (some (.builtin "object.__setattr__")))
def fb_5 : Hv.Fb := fun K => decide (PySem.W.findIn K (.ref (He.ga K "Length")) "place" = some (some (.ref (slotA K (He.ga K "Length") "place"))))
def fb_6 : Hv.Fb := fun K => decide (PySem.W.specialIn K (.ref (slotA K (He.ga K "Length") "place")) "__get__" = some (some (.builtin "member_descriptor.__get__")))
def fb_7 : Hv.Fb := fun K => decide (PySem.W.takesIn K (.ref (slotA K (He.ga K "Length") "place")) = some true)
def fb_8 : Hv.Fb := fun K => decide (PySem.W.typeIn K (.ref (slotA K (He.ga K "Length") "place")) = some (.type "member_descriptor"))
def fb_9 : Hv.Fb := fun K => decide (PySem.W.slotIn K (slotA K (He.ga K "Length") "place") (He.ga K "Length") = some 0)
def fb_10 : Hv.Fb := fun K => decide (PySem.W.findIn K (.ref (He.ga K "Length")) "__class__" = some (some (.builtin "object.__class__")))
def fb_11 : Hv.Fb := fun K => decide (PySem.W.specialIn K (.builtin "object.__class__") "__get__" = some (some (.builtin "getset_descriptor.__get__")))
def fb_12 : Hv.Fb := fun K => decide (PySem.W.takesIn K (.builtin "object.__class__") = some true)
def fb_13 : Hv.Fb := fun K => decide (PySem.W.mroIn K (He.ga K "Length") (.type "object") = some true)
def fb_14 : Hv.Fb := fun K => decide (PySem.W.kitOne K (.ref (He.ga K "Length")) (.ref (He.ga K "Length")) = some true)
def fb_15 : Hv.Fb := fun K => decide (PySem.W.notFirst K (He.ga K "Length") (.ref (He.ga K "Length")) = true)
def fb_16 : Hv.Fb := fun K => decide (PySem.W.selfFirst K (He.ga K "Length") = true)
def fb_17 : Hv.Fb := fun K => decide (PySem.W.findIn K (.type "int") "__add__" = some (some (.builtin "int.__add__")))
def fb_18 : Hv.Fb := fun K => decide (PySem.W.findIn K (.type "int") "__radd__" = some (some (.builtin "int.__radd__")))
def fb_19 : Hv.Fb := fun K => decide (PySem.W.makesIn K (He.ga K "Length") = true)
def fb_20 : Hv.Fb := fun K => decide (PySem.W.keepIn K (.ref (He.ga K "Length")) = true)
def fb_21 : Hv.Fb := fun K => decide (PySem.W.findIn K (.ref (He.ga K "Length")) "__ne__" = some (some (.builtin "object.__ne__")))
def fb_22 : Hv.Fb := fun K => decide (PySem.W.findIn K (.ref (He.ga K "Length")) "__bool__" = some none)
def fb_23 : Hv.Fb := fun K => decide (PySem.W.findIn K (.ref (He.ga K "Length")) "__len__" = some none)
def fb_24 : Hv.Fb := fun K => decide (PySem.W.subIn K (.ref (He.ga K "Length")) (.type "NoneType") = some false)
def fb_25 : Hv.Fb := fun K => decide (PySem.W.subIn K (.ref (He.ga K "Length")) (.type "int") = some false)
def fb_26 : Hv.Fb := fun K => decide (PySem.W.subIn K (.ref (He.ga K "Length")) (.type "bool") = some false)
def fb_27 : Hv.Fb := fun K => decide (PySem.W.subIn K (.ref (He.ga K "Length")) (.type "str") = some false)
def fb_28 : Hv.Fb := fun K => decide (PySem.W.subIn K (.ref (He.ga K "Length")) (.type "list") = some false)
def fb_29 : Hv.Fb := fun K => decide (PySem.W.subIn K (.ref (He.ga K "Length")) (.type "tuple") = some false)
def fb_30 : Hv.Fb := fun K => decide (PySem.W.subIn K (.type "NoneType") (.ref (He.ga K "Length")) = some false)
def fb_31 : Hv.Fb := fun K => decide (PySem.W.subIn K (.type "int") (.ref (He.ga K "Length")) = some false)
def fb_32 : Hv.Fb := fun K => decide (PySem.W.subIn K (.type "bool") (.ref (He.ga K "Length")) = some false)
def fb_33 : Hv.Fb := fun K => decide (PySem.W.subIn K (.type "str") (.ref (He.ga K "Length")) = some false)
def fb_34 : Hv.Fb := fun K => decide (PySem.W.subIn K (.type "list") (.ref (He.ga K "Length")) = some false)
def fb_35 : Hv.Fb := fun K => decide (PySem.W.subIn K (.type "tuple") (.ref (He.ga K "Length")) = some false)
def fb_36 : Hv.Fb := fun K => decide (PySem.W.kitOne K (.type "NoneType") (.ref (He.ga K "Length")) = some false)
def fb_37 : Hv.Fb := fun K => decide (PySem.W.kitOne K (.type "int") (.ref (He.ga K "Length")) = some false)
def fb_38 : Hv.Fb := fun K => decide (PySem.W.kitOne K (.type "bool") (.ref (He.ga K "Length")) = some false)
def fb_39 : Hv.Fb := fun K => decide (PySem.W.kitOne K (.type "str") (.ref (He.ga K "Length")) = some false)
def fb_40 : Hv.Fb := fun K => decide (PySem.W.kitOne K (.type "list") (.ref (He.ga K "Length")) = some false)
def fb_41 : Hv.Fb := fun K => decide (PySem.W.kitOne K (.type "tuple") (.ref (He.ga K "Length")) = some false)
def fb_42 : Hv.Fb := fun K => Hv.methB "Length" "__init__" K
def fb_43 : Hv.Fb := fun K => Hv.propB "Length" "steps" K
def fb_44 : Hv.Fb := fun K => Hv.propB "Length" "word" K
def fb_45 : Hv.Fb := fun K => Hv.methB "Length" "__eq__" K
def fb_46 : Hv.Fb := fun K => Hv.methB "Length" "__lt__" K
def fb_47 : Hv.Fb := fun K => Hv.methB "Length" "__le__" K
def fb_48 : Hv.Fb := fun K => Hv.methB "Length" "__gt__" K
def fb_49 : Hv.Fb := fun K => Hv.methB "Length" "__ge__" K
def fb_50 : Hv.Fb := fun K => Hv.methB "Length" "__add__" K
def fb_51 : Hv.Fb := fun K => Hv.methB "Length" "__radd__" K
def fb_52 : Hv.Fb := fun K => Hv.methB "Length" "__str__" K
def fb_53 : Hv.Fb := fun K => decide (PySem.W.nsIn K mainGlobals "InvalidName" = some (some (.ref (He.ga K "InvalidName"))))
def fb_54 : Hv.Fb := fun K => decide (PySem.W.nsIn K mainGlobals "InvalidNumber" = some (some (.ref (He.ga K "InvalidNumber"))))
def fb_55 : Hv.Fb := fun K => decide (PySem.W.nsIn K mainGlobals "InvalidBound" = some (some (.ref (He.ga K "InvalidBound"))))
def fb_56 : Hv.Fb := fun K => decide (PySem.W.nsIn K mainGlobals "InvalidNeeds" = some (some (.ref (He.ga K "InvalidNeeds"))))
def fb_57 : Hv.Fb := fun K => decide (PySem.W.nsIn K mainGlobals "InvalidClosing" = some (some (.ref (He.ga K "InvalidClosing"))))
def fb_58 : Hv.Fb := fun K => decide (PySem.W.nsIn K mainGlobals "InvalidEnds" = some (some (.ref (He.ga K "InvalidEnds"))))
def fb_59 : Hv.Fb := fun K => decide (PySem.W.nsIn K mainGlobals "InvalidAmount" = some (some (.ref (He.ga K "InvalidAmount"))))
def fb_60 : Hv.Fb := fun K => decide (PySem.W.nsIn K mainGlobals "InvalidText" = some (some (.ref (He.ga K "InvalidText"))))
def fb_61 : Hv.Fb := fun K => decide (PySem.W.nsIn K mainGlobals "InvalidHouse" = some (some (.ref (He.ga K "InvalidHouse"))))
def fb_62 : Hv.Fb := fun K => decide (PySem.W.nsIn K mainGlobals "InvalidShare" = some (some (.ref (He.ga K "InvalidShare"))))
def fb_63 : Hv.Fb := fun K => decide (PySem.W.nsIn K mainGlobals "InvalidLimit" = some (some (.ref (He.ga K "InvalidLimit"))))
def fb_64 : Hv.Fb := fun K => decide (PySem.W.nsIn K mainGlobals "InvalidLength" = some (some (.ref (He.ga K "InvalidLength"))))
def fb_65 : Hv.Fb := fun K => decide (PySem.W.nsIn K mainGlobals "InvalidWish" = some (some (.ref (He.ga K "InvalidWish"))))
def fb_66 : Hv.Fb := fun K => decide (PySem.W.nsIn K mainGlobals "InvalidIndex" = some (some (.ref (He.ga K "InvalidIndex"))))
def fb_67 : Hv.Fb := fun K => decide (PySem.W.nsIn K mainGlobals "NotRules" = some (some (.ref (He.ga K "NotRules"))))
def fb_68 : Hv.Fb := fun K => decide (PySem.W.nsIn K mainGlobals "InvalidKinds" = some (some (.ref (He.ga K "InvalidKinds"))))
def fb_69 : Hv.Fb := fun K => decide (PySem.W.nsIn K mainGlobals "InvalidRows" = some (some (.ref (He.ga K "InvalidRows"))))
def fb_70 : Hv.Fb := fun K => decide (PySem.W.nsIn K mainGlobals "InvalidChanges" = some (some (.ref (He.ga K "InvalidChanges"))))
def fb_71 : Hv.Fb := fun K => decide (PySem.W.nsIn K mainGlobals "InvalidWishes" = some (some (.ref (He.ga K "InvalidWishes"))))
def fb_72 : Hv.Fb := fun K => decide (PySem.W.nsIn K mainGlobals "UnknownName" = some (some (.ref (He.ga K "UnknownName"))))
def fb_73 : Hv.Fb := fun K => decide (PySem.W.nsIn K mainGlobals "UnknownMember" = some (some (.ref (He.ga K "UnknownMember"))))
def fb_74 : Hv.Fb := fun K => decide (PySem.W.nsIn K mainGlobals "InUse" = some (some (.ref (He.ga K "InUse"))))
def fb_75 : Hv.Fb := fun K => decide (PySem.W.nsIn K mainGlobals "NotFinite" = some (some (.ref (He.ga K "NotFinite"))))
def fb_76 : Hv.Fb := fun K => decide (PySem.W.nsIn K mainGlobals "Over" = some (some (.ref (He.ga K "Over"))))
def fb_77 : Hv.Fb := fun K => decide (PySem.W.nsIn K mainGlobals "IsClosed" = some (some (.ref (He.ga K "IsClosed"))))
def fb_78 : Hv.Fb := fun K => decide (PySem.W.nsIn K mainGlobals "NotListed" = some (some (.ref (He.ga K "NotListed"))))
def fb_79 : Hv.Fb := fun K => decide (PySem.W.nsIn K mainGlobals "TooFew" = some (some (.ref (He.ga K "TooFew"))))
def fb_80 : Hv.Fb := fun K => decide (PySem.W.nsIn K mainGlobals "UsedUp" = some (some (.ref (He.ga K "UsedUp"))))
def fb_81 : Hv.Fb := fun K => decide (PySem.W.nsIn K mainGlobals "CannotClose" = some (some (.ref (He.ga K "CannotClose"))))
def fb_82 : Hv.Fb := fun K => decide (PySem.W.nsIn K mainGlobals "NothingToUndo" = some (some (.ref (He.ga K "NothingToUndo"))))
def fb_83 : Hv.Fb := fun K => decide (PySem.W.nsIn K mainGlobals "Broken" = some (some (.ref (He.ga K "Broken"))))
def fb_84 : Hv.Fb := fun K => decide (PySem.W.nsIn K mainGlobals "WrongValue" = some (some (.ref (He.ga K "WrongValue"))))
def fb_85 : Hv.Fb := fun K => decide (PySem.W.nsIn K mainGlobals "WrongName" = some (some (.ref (He.ga K "WrongName"))))
def fb_86 : Hv.Fb := fun K => decide (PySem.W.nsIn K mainGlobals "NotPossible" = some (some (.ref (He.ga K "NotPossible"))))
def fb_87 : Hv.Fb := fun K => decide (errB K [(He.ga K "InvalidName"), (He.ga K "InvalidNumber"), (He.ga K "InvalidBound"), (He.ga K "InvalidNeeds"), (He.ga K "InvalidClosing"), (He.ga K "InvalidEnds"), (He.ga K "InvalidAmount"), (He.ga K "InvalidText"), (He.ga K "InvalidHouse"), (He.ga K "InvalidShare"), (He.ga K "InvalidLimit"), (He.ga K "InvalidLength"), (He.ga K "InvalidWish"), (He.ga K "InvalidIndex"), (He.ga K "NotRules"), (He.ga K "InvalidKinds"), (He.ga K "InvalidRows"), (He.ga K "InvalidChanges"), (He.ga K "InvalidWishes"), (He.ga K "UnknownName"), (He.ga K "UnknownMember"), (He.ga K "InUse"), (He.ga K "NotFinite"), (He.ga K "Over"), (He.ga K "IsClosed"), (He.ga K "NotListed"), (He.ga K "TooFew"), (He.ga K "UsedUp"), (He.ga K "CannotClose"), (He.ga K "NothingToUndo"), (He.ga K "Broken"), (He.ga K "WrongValue"), (He.ga K "WrongName"), (He.ga K "NotPossible")] 11 = true)
def fb_88 : Hv.Fb := fun K => Hv.errInB "InvalidLength" K
def fb_89 : Hv.Fb := fun K => decide (PySem.W.nsIn K mainGlobals "_law_right" = some (some (.ref (He.ga K "_law_right"))))
def fb_90 : Hv.Fb := fun K => decide (PySem.W.nsIn K mainGlobals "is_integer" = some (some (.ref (He.ga K "is_integer"))))
def fb_91 : Hv.Fb := fun K => decide (PySem.W.nsIn K mainGlobals "_law_seed" = some (some (.ref (He.ga K "_law_seed"))))
def fb_92 : Hv.Fb := fun K => decide (PySem.W.nsIn K mainGlobals "_law_bag" = some (some (.ref (He.ga K "_law_bag"))))
def fb_93 : Hv.Fb := fun K => decide (PySem.W.nsIn K mainGlobals "_law_take" = some (some (.ref (He.ga K "_law_take"))))
def fb_94 : Hv.Fb := fun K => decide (PySem.W.nsIn K mainGlobals "_law_terms" = some (some (.ref (He.ga K "_law_terms"))))
def fb_95 : Hv.Fb := fun K => decide (PySem.W.nsIn K mainGlobals "_law_sort" = some (some (.ref (He.ga K "_law_sort"))))
def fb_96 : Hv.Fb := fun K => decide (PySem.W.nsIn K mainGlobals "_law_held" = some (some (.ref (He.ga K "_law_held"))))
def fb_97 : Hv.Fb := fun K => decide (PySem.W.nsIn K mainGlobals "_law_caught" = some (some (.ref (He.ga K "_law_caught"))))
def fb_98 : Hv.Fb := fun K => decide (PySem.W.nsIn K mainGlobals "_law_worth" = some (some (.ref (He.ga K "_law_worth"))))
def fb_99 : Hv.Fb := fun K => decide (PySem.W.nsIn K mainGlobals "_law_place" = some (some (.ref (He.ga K "_law_place"))))
def fb_100 : Hv.Fb := fun K => decide (PySem.W.nsIn K mainGlobals "_law_signs" = some (some (.ref (He.ga K "_law_signs"))))
def fb_101 : Hv.Fb := fun K => decide (PySem.W.nsIn K mainGlobals "_law_signs_due" = some (some (.ref (He.ga K "_law_signs_due"))))
def fb_102 : Hv.Fb := fun K => decide (PySem.W.nsIn K mainGlobals "_law_shown" = some (some (.ref (He.ga K "_law_shown"))))
def fb_103 : Hv.Fb := fun K => decide (PySem.W.nsIn K mainGlobals "_law_due" = some (some (.ref (He.ga K "_law_due"))))
def fb_104 : Hv.Fb := fun K => decide (PySem.W.nsIn K mainGlobals "_law_is_length" = some (some (.ref (He.ga K "_law_is_length"))))
def fb_105 : Hv.Fb := fun K => decide (PySem.W.nsIn K mainGlobals "_law_odd" = some (some (.ref (He.ga K "_law_odd"))))
def fb_106 : Hv.Fb := fun K => decide (PySem.W.nsIn K mainGlobals "law" = some (some (.ref (He.ga K "law"))))
def fb_107 : Hv.Fb := fun K => decide (PySem.W.nsIn K mainGlobals "ArithmeticError" = some none)
def fb_108 : Hv.Fb := fun K => decide (PySem.W.nsIn K mainGlobals "LookupError" = some none)
def fb_109 : Hv.Fb := fun K => decide (PySem.W.nsIn K mainGlobals "NotImplemented" = some none)
def fb_110 : Hv.Fb := fun K => decide (PySem.W.nsIn K mainGlobals "ValueError" = some none)
def fb_111 : Hv.Fb := fun K => decide (PySem.W.nsIn K mainGlobals "abs" = some none)
def fb_112 : Hv.Fb := fun K => decide (PySem.W.nsIn K mainGlobals "all" = some none)
def fb_113 : Hv.Fb := fun K => decide (PySem.W.nsIn K mainGlobals "bool" = some none)
def fb_114 : Hv.Fb := fun K => decide (PySem.W.nsIn K mainGlobals "divmod" = some none)
def fb_115 : Hv.Fb := fun K => decide (PySem.W.nsIn K mainGlobals "int" = some none)
def fb_116 : Hv.Fb := fun K => decide (PySem.W.nsIn K mainGlobals "isinstance" = some none)
def fb_117 : Hv.Fb := fun K => decide (PySem.W.nsIn K mainGlobals "len" = some none)
def fb_118 : Hv.Fb := fun K => decide (PySem.W.nsIn K mainGlobals "max" = some none)
def fb_119 : Hv.Fb := fun K => decide (PySem.W.nsIn K mainGlobals "min" = some none)
def fb_120 : Hv.Fb := fun K => decide (PySem.W.nsIn K mainGlobals "property" = some none)
def fb_121 : Hv.Fb := fun K => decide (PySem.W.nsIn K mainGlobals "range" = some none)
def fb_122 : Hv.Fb := fun K => decide (PySem.W.nsIn K mainGlobals "repr" = some none)
def fb_123 : Hv.Fb := fun K => decide (PySem.W.nsIn K mainGlobals "str" = some none)
def fbs_0 : List Hv.Fb := [fb_0, fb_1, fb_2, fb_3, fb_4, fb_5, fb_6, fb_7, fb_8, fb_9, fb_10, fb_11, fb_12, fb_13, fb_14, fb_15, fb_16, fb_17, fb_18, fb_19, fb_20, fb_21, fb_22, fb_23, fb_24, fb_25, fb_26, fb_27, fb_28, fb_29]
def fbs_1 : List Hv.Fb := [fb_30, fb_31, fb_32, fb_33, fb_34, fb_35, fb_36, fb_37, fb_38, fb_39, fb_40, fb_41, fb_42, fb_43, fb_44, fb_45, fb_46, fb_47, fb_48, fb_49, fb_50, fb_51, fb_52, fb_53, fb_54, fb_55, fb_56, fb_57, fb_58, fb_59]
def fbs_2 : List Hv.Fb := [fb_60, fb_61, fb_62, fb_63, fb_64, fb_65, fb_66, fb_67, fb_68, fb_69, fb_70, fb_71, fb_72, fb_73, fb_74, fb_75, fb_76, fb_77, fb_78, fb_79, fb_80, fb_81, fb_82, fb_83, fb_84, fb_85, fb_86, fb_87, fb_88, fb_89]
def fbs_3 : List Hv.Fb := [fb_90, fb_91, fb_92, fb_93, fb_94, fb_95, fb_96, fb_97, fb_98, fb_99, fb_100, fb_101, fb_102, fb_103, fb_104, fb_105, fb_106, fb_107, fb_108, fb_109, fb_110, fb_111, fb_112, fb_113, fb_114, fb_115, fb_116, fb_117, fb_118, fb_119]
def fbs_4 : List Hv.Fb := [fb_120, fb_121, fb_122, fb_123]
def fbs : List Hv.Fb := fbs_0 ++ (fbs_1 ++ (fbs_2 ++ (fbs_3 ++ (fbs_4))))
def fns_0 : List Hv.DefQ := [Hv.defM "Length" "__init__" "Length.__init__" s_Length_init, Hv.defP "Length" "steps" "Length.steps" s_Length_steps, Hv.defP "Length" "word" "Length.word" s_Length_word, Hv.defM "Length" "__eq__" "Length.__eq__" s_Length_eq, Hv.defM "Length" "__lt__" "Length.__lt__" s_Length_lt, Hv.defM "Length" "__le__" "Length.__le__" s_Length_le, Hv.defM "Length" "__gt__" "Length.__gt__" s_Length_gt, Hv.defM "Length" "__ge__" "Length.__ge__" s_Length_ge, Hv.defM "Length" "__add__" "Length.__add__" s_Length_add, Hv.defM "Length" "__radd__" "Length.__radd__" s_Length_radd, Hv.defM "Length" "__str__" "Length.__str__" s_Length_str, Hv.defM "InvalidLength" "__init__" "InvalidLength.__init__" (inClass (top 13) 0), Hv.defG "_law_right" s_right, Hv.defG "is_integer" s_is_integer, Hv.defG "_law_seed" s_seed, Hv.defG "_law_bag" s_bag, Hv.defG "_law_take" s_take, Hv.defG "_law_terms" s_terms, Hv.defG "_law_sort" s_sort, Hv.defG "_law_held" s_held, Hv.defG "_law_caught" s_caught, Hv.defG "_law_worth" s_worth, Hv.defG "_law_place" s_place, Hv.defG "_law_signs" s_signs, Hv.defG "_law_signs_due" s_signs_due, Hv.defG "_law_shown" s_shown, Hv.defG "_law_due" s_due, Hv.defG "_law_is_length" s_is_length, Hv.defG "_law_odd" s_odd, Hv.defG "law" s_law]
def fns : List Hv.DefQ := fns_0
def hfs_0 : List Str := ["is_integer", "_law_seed", "_law_bag", "_law_take", "_law_terms", "_law_sort", "_law_held", "_law_caught", "_law_worth", "_law_place", "_law_signs", "_law_signs_due", "_law_shown", "_law_due", "_law_is_length", "_law_odd", "_law_right", "law"]
def hfs : List Str := hfs_0
def hcs_0 : List Str := ["Length", "InvalidLength"]
def hcs : List Str := hcs_0
def hds_0 : List Str := ["InvalidName", "InvalidNumber", "InvalidBound", "InvalidNeeds", "InvalidClosing", "InvalidEnds", "InvalidAmount", "InvalidText", "InvalidHouse", "InvalidShare", "InvalidLimit", "InvalidWish", "InvalidIndex", "NotRules", "InvalidKinds", "InvalidRows", "InvalidChanges", "InvalidWishes", "UnknownName", "UnknownMember", "InUse", "NotFinite", "Over", "IsClosed", "NotListed", "TooFew", "UsedUp", "CannotClose", "NothingToUndo", "Broken"]
def hds_1 : List Str := ["WrongValue", "WrongName", "NotPossible"]
def hds : List Str := hds_0 ++ (hds_1)
def htf_0 : List Str := ["_law_right"]
def htf : List Str := htf_0
def loose_0 : List Str := ["__name__", "WrongValue", "InvalidName", "InvalidNumber", "InvalidBound", "InvalidNeeds", "InvalidClosing", "InvalidEnds", "InvalidAmount", "InvalidText", "InvalidHouse", "InvalidShare", "InvalidLimit", "InvalidLength", "InvalidWish", "InvalidIndex", "NotRules", "InvalidKinds", "InvalidRows", "InvalidChanges", "InvalidWishes", "WrongName", "UnknownName", "UnknownMember", "InUse", "NotPossible", "NotFinite", "Over", "IsClosed", "NotListed"]
def loose_1 : List Str := ["TooFew", "UsedUp", "CannotClose", "NothingToUndo", "Broken", "is_integer", "Length", "_law_seed", "_law_bag", "_law_take", "_law_terms", "_law_sort", "_law_held", "_law_caught", "_law_worth", "_law_place", "_law_signs", "_law_signs_due", "_law_shown", "_law_due", "_law_is_length", "_law_odd", "_law_right"]
def loose : List Str := loose_0 ++ (loose_1)
abbrev hk : PySem.W.Hook := Hv.hookO hfs hcs hds fbs fns htf
def ob (s : PySem.W.SharedT) : Hv.Ob := Hv.obT hfs hcs hds fbs fns htf s
theorem ob_eq (s : PySem.W.SharedT) : ob s = hk.obs s.abs := Hv.obT_eq s
theorem run (w : World) : HandSHeadRun.RunEq R (PySem.W.view R.prog [56]) hk ob 60000 loose w := by
  intro os
  kernel_rfl
theorem all_in {w : World} {mg : Str → Option Value} {fa : Addr} {h : Heap} {K : PySem.W.Frag} (c : Hv.Says fbs fns htf h K) (G : h.Ns mainGlobals mg) (hfa : mg "law" = some (.ref fa)) : Hv.LawT PySem.Challenge.rw_heldvotes_k14_lengths_ordered w K 13 63 "_law_script" mg fa htf :=
  all_mk c.kin G hfa (C := (He.ga K "Length")) (pS := (slotA K (He.ga K "Length") "place")) (E0 := (He.ga K "InvalidName")) (E1 := (He.ga K "InvalidNumber")) (E2 := (He.ga K "InvalidBound")) (E3 := (He.ga K "InvalidNeeds")) (E4 := (He.ga K "InvalidClosing")) (E5 := (He.ga K "InvalidEnds")) (E6 := (He.ga K "InvalidAmount")) (E7 := (He.ga K "InvalidText")) (E8 := (He.ga K "InvalidHouse")) (E9 := (He.ga K "InvalidShare")) (E10 := (He.ga K "InvalidLimit")) (E11 := (He.ga K "InvalidLength")) (E12 := (He.ga K "InvalidWish")) (E13 := (He.ga K "InvalidIndex")) (E14 := (He.ga K "NotRules")) (E15 := (He.ga K "InvalidKinds")) (E16 := (He.ga K "InvalidRows")) (E17 := (He.ga K "InvalidChanges")) (E18 := (He.ga K "InvalidWishes")) (E19 := (He.ga K "UnknownName")) (E20 := (He.ga K "UnknownMember")) (E21 := (He.ga K "InUse")) (E22 := (He.ga K "NotFinite")) (E23 := (He.ga K "Over")) (E24 := (He.ga K "IsClosed")) (E25 := (He.ga K "NotListed")) (E26 := (He.ga K "TooFew")) (E27 := (He.ga K "UsedUp")) (E28 := (He.ga K "CannotClose")) (E29 := (He.ga K "NothingToUndo")) (E30 := (He.ga K "Broken")) (E31 := (He.ga K "WrongValue")) (E32 := (He.ga K "WrongName")) (E33 := (He.ga K "NotPossible")) (tc_right := (He.cT K ("_law_right", none)).1) (tp_right := (He.cT K ("_law_right", none)).2)
    (z_a := (of_decide_eq_true (c.b 0 (f := fb_0) rfl)))
    (z_pg := (of_decide_eq_true (c.b 1 (f := fb_1) rfl)))
    (z_ic := (of_decide_eq_true (c.b 2 (f := fb_2) rfl)))
    (z_po := (of_decide_eq_true (c.b 3 (f := fb_3) rfl)))
    (z_sa := (of_decide_eq_true (c.b 4 (f := fb_4) rfl)))
    (z_s1 := (of_decide_eq_true (c.b 5 (f := fb_5) rfl)))
    (z_s2 := (of_decide_eq_true (c.b 6 (f := fb_6) rfl)))
    (z_s3 := (of_decide_eq_true (c.b 7 (f := fb_7) rfl)))
    (z_s4 := (of_decide_eq_true (c.b 8 (f := fb_8) rfl)))
    (z_s5 := (of_decide_eq_true (c.b 9 (f := fb_9) rfl)))
    (z_i1 := (of_decide_eq_true (c.b 10 (f := fb_10) rfl)))
    (z_i2 := (of_decide_eq_true (c.b 11 (f := fb_11) rfl)))
    (z_i3 := (of_decide_eq_true (c.b 12 (f := fb_12) rfl)))
    (z_i4 := (of_decide_eq_true (c.b 13 (f := fb_13) rfl)))
    (z_k1 := (of_decide_eq_true (c.b 14 (f := fb_14) rfl)))
    (z_nf := (of_decide_eq_true (c.b 15 (f := fb_15) rfl)))
    (z_sf := (of_decide_eq_true (c.b 16 (f := fb_16) rfl)))
    (z_a1 := (of_decide_eq_true (c.b 17 (f := fb_17) rfl)))
    (z_a2 := (of_decide_eq_true (c.b 18 (f := fb_18) rfl)))
    (z_mk := (of_decide_eq_true (c.b 19 (f := fb_19) rfl)))
    (z_kc := (of_decide_eq_true (c.b 20 (f := fb_20) rfl)))
    (z_ne := (of_decide_eq_true (c.b 21 (f := fb_21) rfl)))
    (z_bo := (of_decide_eq_true (c.b 22 (f := fb_22) rfl)))
    (z_le := (of_decide_eq_true (c.b 23 (f := fb_23) rfl)))
    (z_t0 := (of_decide_eq_true (c.b 24 (f := fb_24) rfl)))
    (z_t1 := (of_decide_eq_true (c.b 25 (f := fb_25) rfl)))
    (z_t2 := (of_decide_eq_true (c.b 26 (f := fb_26) rfl)))
    (z_t3 := (of_decide_eq_true (c.b 27 (f := fb_27) rfl)))
    (z_t4 := (of_decide_eq_true (c.b 28 (f := fb_28) rfl)))
    (z_t5 := (of_decide_eq_true (c.b 29 (f := fb_29) rfl)))
    (z_u0 := (of_decide_eq_true (c.b 30 (f := fb_30) rfl)))
    (z_u1 := (of_decide_eq_true (c.b 31 (f := fb_31) rfl)))
    (z_u2 := (of_decide_eq_true (c.b 32 (f := fb_32) rfl)))
    (z_u3 := (of_decide_eq_true (c.b 33 (f := fb_33) rfl)))
    (z_u4 := (of_decide_eq_true (c.b 34 (f := fb_34) rfl)))
    (z_u5 := (of_decide_eq_true (c.b 35 (f := fb_35) rfl)))
    (z_q0 := (of_decide_eq_true (c.b 36 (f := fb_36) rfl)))
    (z_q1 := (of_decide_eq_true (c.b 37 (f := fb_37) rfl)))
    (z_q2 := (of_decide_eq_true (c.b 38 (f := fb_38) rfl)))
    (z_q3 := (of_decide_eq_true (c.b 39 (f := fb_39) rfl)))
    (z_q4 := (of_decide_eq_true (c.b 40 (f := fb_40) rfl)))
    (z_q5 := (of_decide_eq_true (c.b 41 (f := fb_41) rfl)))
    (m_Length_init := (Hv.methIn_of (c.b 42 (f := fb_42) rfl) (c.d 0 (f := Hv.defM "Length" "__init__" "Length.__init__" s_Length_init) rfl)))
    (m_Length_steps := (Hv.propIn_of (c.b 43 (f := fb_43) rfl) (c.d 1 (f := Hv.defP "Length" "steps" "Length.steps" s_Length_steps) rfl)))
    (m_Length_word := (Hv.propIn_of (c.b 44 (f := fb_44) rfl) (c.d 2 (f := Hv.defP "Length" "word" "Length.word" s_Length_word) rfl)))
    (m_Length_eq := (Hv.methIn_of (c.b 45 (f := fb_45) rfl) (c.d 3 (f := Hv.defM "Length" "__eq__" "Length.__eq__" s_Length_eq) rfl)))
    (m_Length_lt := (Hv.methIn_of (c.b 46 (f := fb_46) rfl) (c.d 4 (f := Hv.defM "Length" "__lt__" "Length.__lt__" s_Length_lt) rfl)))
    (m_Length_le := (Hv.methIn_of (c.b 47 (f := fb_47) rfl) (c.d 5 (f := Hv.defM "Length" "__le__" "Length.__le__" s_Length_le) rfl)))
    (m_Length_gt := (Hv.methIn_of (c.b 48 (f := fb_48) rfl) (c.d 6 (f := Hv.defM "Length" "__gt__" "Length.__gt__" s_Length_gt) rfl)))
    (m_Length_ge := (Hv.methIn_of (c.b 49 (f := fb_49) rfl) (c.d 7 (f := Hv.defM "Length" "__ge__" "Length.__ge__" s_Length_ge) rfl)))
    (m_Length_add := (Hv.methIn_of (c.b 50 (f := fb_50) rfl) (c.d 8 (f := Hv.defM "Length" "__add__" "Length.__add__" s_Length_add) rfl)))
    (m_Length_radd := (Hv.methIn_of (c.b 51 (f := fb_51) rfl) (c.d 9 (f := Hv.defM "Length" "__radd__" "Length.__radd__" s_Length_radd) rfl)))
    (m_Length_str := (Hv.methIn_of (c.b 52 (f := fb_52) rfl) (c.d 10 (f := Hv.defM "Length" "__str__" "Length.__str__" s_Length_str) rfl)))
    (n_E0 := (of_decide_eq_true (c.b 53 (f := fb_53) rfl)))
    (n_E1 := (of_decide_eq_true (c.b 54 (f := fb_54) rfl)))
    (n_E2 := (of_decide_eq_true (c.b 55 (f := fb_55) rfl)))
    (n_E3 := (of_decide_eq_true (c.b 56 (f := fb_56) rfl)))
    (n_E4 := (of_decide_eq_true (c.b 57 (f := fb_57) rfl)))
    (n_E5 := (of_decide_eq_true (c.b 58 (f := fb_58) rfl)))
    (n_E6 := (of_decide_eq_true (c.b 59 (f := fb_59) rfl)))
    (n_E7 := (of_decide_eq_true (c.b 60 (f := fb_60) rfl)))
    (n_E8 := (of_decide_eq_true (c.b 61 (f := fb_61) rfl)))
    (n_E9 := (of_decide_eq_true (c.b 62 (f := fb_62) rfl)))
    (n_E10 := (of_decide_eq_true (c.b 63 (f := fb_63) rfl)))
    (n_E11 := (of_decide_eq_true (c.b 64 (f := fb_64) rfl)))
    (n_E12 := (of_decide_eq_true (c.b 65 (f := fb_65) rfl)))
    (n_E13 := (of_decide_eq_true (c.b 66 (f := fb_66) rfl)))
    (n_E14 := (of_decide_eq_true (c.b 67 (f := fb_67) rfl)))
    (n_E15 := (of_decide_eq_true (c.b 68 (f := fb_68) rfl)))
    (n_E16 := (of_decide_eq_true (c.b 69 (f := fb_69) rfl)))
    (n_E17 := (of_decide_eq_true (c.b 70 (f := fb_70) rfl)))
    (n_E18 := (of_decide_eq_true (c.b 71 (f := fb_71) rfl)))
    (n_E19 := (of_decide_eq_true (c.b 72 (f := fb_72) rfl)))
    (n_E20 := (of_decide_eq_true (c.b 73 (f := fb_73) rfl)))
    (n_E21 := (of_decide_eq_true (c.b 74 (f := fb_74) rfl)))
    (n_E22 := (of_decide_eq_true (c.b 75 (f := fb_75) rfl)))
    (n_E23 := (of_decide_eq_true (c.b 76 (f := fb_76) rfl)))
    (n_E24 := (of_decide_eq_true (c.b 77 (f := fb_77) rfl)))
    (n_E25 := (of_decide_eq_true (c.b 78 (f := fb_78) rfl)))
    (n_E26 := (of_decide_eq_true (c.b 79 (f := fb_79) rfl)))
    (n_E27 := (of_decide_eq_true (c.b 80 (f := fb_80) rfl)))
    (n_E28 := (of_decide_eq_true (c.b 81 (f := fb_81) rfl)))
    (n_E29 := (of_decide_eq_true (c.b 82 (f := fb_82) rfl)))
    (n_E30 := (of_decide_eq_true (c.b 83 (f := fb_83) rfl)))
    (n_E31 := (of_decide_eq_true (c.b 84 (f := fb_84) rfl)))
    (n_E32 := (of_decide_eq_true (c.b 85 (f := fb_85) rfl)))
    (n_E33 := (of_decide_eq_true (c.b 86 (f := fb_86) rfl)))
    (x_E11 := (of_decide_eq_true (c.b 87 (f := fb_87) rfl)))
    (y_E11 := (Hv.errIn_of (st := inClass (top 13) 0) (c.b 88 (f := fb_88) rfl) (c.d 11 (f := Hv.defM "InvalidLength" "__init__" "InvalidLength.__init__" (inClass (top 13) 0)) rfl) ⟨_, _, rfl⟩ ⟨_, _, _, _, rfl⟩ rfl))
    (t_right := (Hv.tabIn_of c (by decide) (c.d 12 (f := Hv.defG "_law_right" s_right) rfl) (of_decide_eq_true (c.b 89 (f := fb_89) rfl))))
    (d_is_integer := (Hv.defIn_of (c.d 13 (f := Hv.defG "is_integer" s_is_integer) rfl) (of_decide_eq_true (c.b 90 (f := fb_90) rfl))))
    (d_seed := (Hv.defIn_of (c.d 14 (f := Hv.defG "_law_seed" s_seed) rfl) (of_decide_eq_true (c.b 91 (f := fb_91) rfl))))
    (d_bag := (Hv.defIn_of (c.d 15 (f := Hv.defG "_law_bag" s_bag) rfl) (of_decide_eq_true (c.b 92 (f := fb_92) rfl))))
    (d_take := (Hv.defIn_of (c.d 16 (f := Hv.defG "_law_take" s_take) rfl) (of_decide_eq_true (c.b 93 (f := fb_93) rfl))))
    (d_terms := (Hv.defIn_of (c.d 17 (f := Hv.defG "_law_terms" s_terms) rfl) (of_decide_eq_true (c.b 94 (f := fb_94) rfl))))
    (d_sort := (Hv.defIn_of (c.d 18 (f := Hv.defG "_law_sort" s_sort) rfl) (of_decide_eq_true (c.b 95 (f := fb_95) rfl))))
    (d_held := (Hv.defIn_of (c.d 19 (f := Hv.defG "_law_held" s_held) rfl) (of_decide_eq_true (c.b 96 (f := fb_96) rfl))))
    (d_caught := (Hv.defIn_of (c.d 20 (f := Hv.defG "_law_caught" s_caught) rfl) (of_decide_eq_true (c.b 97 (f := fb_97) rfl))))
    (d_worth := (Hv.defIn_of (c.d 21 (f := Hv.defG "_law_worth" s_worth) rfl) (of_decide_eq_true (c.b 98 (f := fb_98) rfl))))
    (d_place := (Hv.defIn_of (c.d 22 (f := Hv.defG "_law_place" s_place) rfl) (of_decide_eq_true (c.b 99 (f := fb_99) rfl))))
    (d_signs := (Hv.defIn_of (c.d 23 (f := Hv.defG "_law_signs" s_signs) rfl) (of_decide_eq_true (c.b 100 (f := fb_100) rfl))))
    (d_signs_due := (Hv.defIn_of (c.d 24 (f := Hv.defG "_law_signs_due" s_signs_due) rfl) (of_decide_eq_true (c.b 101 (f := fb_101) rfl))))
    (d_shown := (Hv.defIn_of (c.d 25 (f := Hv.defG "_law_shown" s_shown) rfl) (of_decide_eq_true (c.b 102 (f := fb_102) rfl))))
    (d_due := (Hv.defIn_of (c.d 26 (f := Hv.defG "_law_due" s_due) rfl) (of_decide_eq_true (c.b 103 (f := fb_103) rfl))))
    (d_is_length := (Hv.defIn_of (c.d 27 (f := Hv.defG "_law_is_length" s_is_length) rfl) (of_decide_eq_true (c.b 104 (f := fb_104) rfl))))
    (d_odd := (Hv.defIn_of (c.d 28 (f := Hv.defG "_law_odd" s_odd) rfl) (of_decide_eq_true (c.b 105 (f := fb_105) rfl))))
    (d_right := (Hv.defIn_of (c.d 12 (f := Hv.defG "_law_right" s_right) rfl) (of_decide_eq_true (c.b 89 (f := fb_89) rfl))))
    (d_law := (Hv.defIn_of (c.d 29 (f := Hv.defG "law" s_law) rfl) (of_decide_eq_true (c.b 106 (f := fb_106) rfl))))
    (b_ArithmeticError := (of_decide_eq_true (c.b 107 (f := fb_107) rfl)))
    (b_LookupError := (of_decide_eq_true (c.b 108 (f := fb_108) rfl)))
    (b_NotImplemented := (of_decide_eq_true (c.b 109 (f := fb_109) rfl)))
    (b_ValueError := (of_decide_eq_true (c.b 110 (f := fb_110) rfl)))
    (b_abs := (of_decide_eq_true (c.b 111 (f := fb_111) rfl)))
    (b_all := (of_decide_eq_true (c.b 112 (f := fb_112) rfl)))
    (b_bool := (of_decide_eq_true (c.b 113 (f := fb_113) rfl)))
    (b_divmod := (of_decide_eq_true (c.b 114 (f := fb_114) rfl)))
    (b_int := (of_decide_eq_true (c.b 115 (f := fb_115) rfl)))
    (b_isinstance := (of_decide_eq_true (c.b 116 (f := fb_116) rfl)))
    (b_len := (of_decide_eq_true (c.b 117 (f := fb_117) rfl)))
    (b_max := (of_decide_eq_true (c.b 118 (f := fb_118) rfl)))
    (b_min := (of_decide_eq_true (c.b 119 (f := fb_119) rfl)))
    (b_property := (of_decide_eq_true (c.b 120 (f := fb_120) rfl)))
    (b_range := (of_decide_eq_true (c.b 121 (f := fb_121) rfl)))
    (b_repr := (of_decide_eq_true (c.b 122 (f := fb_122) rfl)))
    (b_str := (of_decide_eq_true (c.b 123 (f := fb_123) rfl)))
end L

open PySem PySem.W PySem.Calls PyProof.Rows in
set_option maxRecDepth 100000 in
set_option maxHeartbeats 0 in
theorem PySem.Challenge.cw_heldvotes_k14_lengths_ordered_holds : PySem.Challenge.rw_heldvotes_k14_lengths_ordered.Holds := by
  w_on; o_law
  refine HandSHeadRun.head_any (r := OpenLaw.row PySem.Challenge.rw_heldvotes_k14_lengths_ordered) (q := view (OpenLaw.row PySem.Challenge.rw_heldvotes_k14_lengths_ordered).prog [56]) (H := L.hk) (ob := L.ob) (M := 60000) (loose := L.loose) (d := HandSHeadRun.topDef (OpenLaw.row PySem.Challenge.rw_heldvotes_k14_lengths_ordered).prog 56) (kwd := []) L.ob_eq
    (by kernel_rfl) (fun s => by kernel_rfl) L.run (by kernel_rfl) (by kernel_rfl) (by kernel_rfl) (by rfl) (by first | assumption | decide +kernel) (by decide +kernel) ⟨rfl, rfl, rfl, rfl, rfl, by decide +kernel⟩ ?hw ?hc
  case hw => w_witness2
  case hc =>
    refine Hv.walkTE (l := PySem.Challenge.rw_heldvotes_k14_lengths_ordered) (n := 63) (k := 13) (x := "_law_script") (fb := L.fbs) (fn := L.fns) L.htf rfl (by decide) (by kernel_rfl) ⟨rfl, by decide, by decide⟩ (fun w h Y => Y) ?F
    intro w mg fa h K c G hmg0
    have hmg : mg ("law" : PySem.Str) = some (.ref fa) := by
      have e : (HandSHeadRun.topDef (OpenLaw.row PySem.Challenge.rw_heldvotes_k14_lengths_ordered).prog 56).name = ("law" : PySem.Str) := by kernel_rfl
      rw [← e]
      exact hmg0
    exact L.all_in c G hmg


