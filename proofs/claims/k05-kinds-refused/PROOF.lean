import PyProof.Rows.All
import Wide.All
import OpenK.AllK
import Wide.FinOn
import HandS.ForMost
import HandS.ForExc
import HandS.EndBits
import HandS.Wide
import HandS.WideBits
import HandS.IsInst
import HandS.StrMore
import HandS.Style
import HandS.Evl
import PyProof.ReprRoads
import HandS.ReplaceDef
import HandS.ReplaceLit
import HandS.NoneIn
import HandS.Walk
import HandS.Codes
import HandS.SlotsOwn
import HandS.Lambda
import HandS.HotCalls
import HandS.ExcIs
import HandS.ExcField
import KE.KTryMore
import HandS.ExcInit
import PyProof.ReprBulk
import PyProof.Rows.RegStrFacts
import HandS.Dict
import HandS.EndTab
import HandS.Defaults
import HandS.MakeKwOnly
import HandS.Property
import HandS.Deep
import KE.DataFind
import HandS.Records
import KE.DataCmp
import HandS.Head0
import HandS.Head1
import HandS.Head2
import HandS.HeadEnd
import HandS.HeadHook1
import HandS.HeadHook2
import HandS.HeadHook4
import PySem.Challenge.RW_heldvotes_k05_kinds_refused
set_option Elab.async false
set_option linter.all false
set_option maxRecDepth 100000
set_option maxHeartbeats 4000000
namespace Hv
open PySem PySem.Spec PyProof.Rows L2

/-- a promise that is kept wherever no repr is under way -/
structure OkG (P : Program) (w : World) (K : PySem.W.Frag) (mg : Str → Option Value) (base : Heap) (CX : CXT) (k : Nat)
    (f : Addr) (fd : FuncData) (ps : List Str) (sp : Sp) : Prop where
  len : ∀ vs H Q E, sp vs H Q E → vs.length = ps.length
  run : ∀ (A : Around) (outer : List Env) (s : Shared) (H : Hp) (args : Args) (us : List Value) (vs : List V) (Q : VK) (E : XK),
    A.guards = some [] → Room k A → Env0 P w K mg base A outer s H → BindsTo s fd args (ps.zip us) → Vals vs us →
    sp vs H Q E → codeAny (model P w) A (.call (.ref f) args) (CR CX outer P w H s Q E) s

section
variable {P : Program} {w : World} {K : PySem.W.Frag} {mg : Str → Option Value} {base : Heap} {CX : CXT} {k : Nat}
  {f : Addr} {fd : FuncData} {ps : List Str} {sp : Sp}
theorem OkG.of (F : FnOk P w K mg base CX k f fd ps sp) : OkG P w K mg base CX k f fd ps sp :=
  ⟨F.len, fun A outer s H args us vs Q E _ => F.run A outer s H args us vs Q E⟩
theorem OkG.mono {j : Nat} (F : OkG P w K mg base CX j f fd ps sp) (h : j ≤ k) : OkG P w K mg base CX k f fd ps sp :=
  ⟨F.len, fun A outer s H args us vs Q E hg hr => F.run A outer s H args us vs Q E hg (hr.mono h)⟩

/-- the rule for a def, where no repr is under way -/
theorem okG {x qual : Str} {st : Stmt} {N : List Str} (F : Fun K x qual st f fd) (S : FnScope N ps (defScope st))
    (len : ∀ vs H Q E, sp vs H Q E → vs.length = ps.length)
    (body : ∀ (cdv : Value) (A : Around) (outer : List Env) (s : Shared) (H : Hp) (vs : List V) (Q : VK) (E : XK),
      A.guards = some [] → Room k (A.deeper (envOfC qual (defScope st) s.heap.objs.size f cdv)) → sp vs H Q E →
      ∃ t, PSs (cxOf CX P w K mg base N qual (defScope st) f cdv A outer s H E) (defBody st) t ∧
        t { nx := fun _ H' => Q .non H', rt := Q } (start N vs) H) :
    OkG P w K mg base CX (k + 1) f fd ps sp := by
  obtain ⟨oc, od, kV, doc, pm, an, cdv, ct, osl, rfl, lk, hcd⟩ := F.ex
  constructor
  · exact len
  intro A outer s H args us vs Q E hg hr e0 hb r hsp
  have KX : K.In s.heap := e0.mod.kin.keeps (fun b o e => (e0.bs b o e).1)
  have lim := e0.mod.nolimit.keeps (fun b o e => (e0.bs b o e).1)
  have kinds : ∀ y ∈ ps.zip us, (defScope st).names.lookup y.1 = some .local ∨
      ((defScope st).names.lookup y.1 = some .cell ∧
        ((cellsFrom (s.heap.objs.size + 1) (defScope st).names []).lookup y.1).isSome = true) := by
    rintro ⟨n, v⟩ hy
    cases S.par n (List.of_mem_zip hy).1 with
    | inl q => exact Or.inl q
    | inr q => exact Or.inr ⟨q, PySem.W.cellsFrom_some _ _ _ (Or.inl q)⟩
  apply codeAny_call_function hr.depth (KX _ _ lk) rfl S.co S.gen rfl (PySem.W.codeRec_of KX hcd)
  apply hb
  refine wpAny_newFunctionEnv_cells S.kind kinds ?_
  rintro env rfl s1 x
  refine ⟨lim.keeps x.toInCall.keep, codeAny_func ?_⟩
  obtain ⟨t, ht, hq⟩ := body cdv A outer s H vs Q E hg (hr.deeper _) hsp
  have I := inv_start (CX := CX) (E := E) S hr.hd e0 (len _ _ _ _ hsp) r x
  apply wpAny_mono (ht.run [] s1 (start N vs) H _ I hq)
  · intro fl s' hs
    cases fl with
    | ret u =>
      obtain ⟨v, σ', H', J, rv, q⟩ := hs
      exact ⟨v, H', J.os, J.bare, J.base, J.hok, rv, q⟩
    | next =>
      obtain ⟨σ', H', J, q⟩ := hs
      exact ⟨V.non, H', J.os, J.bare, J.base, J.hok, rfl, q⟩
    | brk =>
      obtain ⟨_, _, _, q⟩ := hs
      exact q.elim
    | cont =>
      obtain ⟨_, _, _, q⟩ := hs
      exact q.elim
  · intro e s' hs
    exact hs
end

theorem okG0 {P : Program} {w : World} {K : PySem.W.Frag} {mg : Str → Option Value} {base : Heap} {k : Nat} {f : Addr} {fd : FuncData} {ps : List Str} {sp : Sp}
    {x qual : Str} {st : Stmt} {N : List Str} (F : Fun K x qual st f fd) (S : FnScope N ps (defScope st)) (len : ∀ vs H Q E, sp vs H Q E → vs.length = ps.length)
    (body : ∀ (cdv : Value) (A : Around) (outer : List Env) (s : Shared) (H : Hp) (vs : List V) (Q : VK) (E : XK),
      A.guards = some [] → Room k (A.deeper (envOfC qual (defScope st) s.heap.objs.size f cdv)) → sp vs H Q E →
      ∃ t, PSs (cxOf CX0 P w K mg base N qual (defScope st) f cdv A outer s H E).nox (defBody st) t ∧
        t { nx := fun _ H' => Q .non H', rt := Q } (start N vs) H) : OkG P w K mg base CX0 (k + 1) f fd ps sp :=
  okG F S len fun cdv A outer s H vs Q E hg hr hsp =>
    let ⟨t, h, q⟩ := body cdv A outer s H vs Q E hg hr hsp
    ⟨t, h.nox, q⟩
section
variable {X : Cx} {CX : CXT} {k : Nat} {f : Addr} {fd : FuncData} {ps : List Str} {sp : Sp} {dvs : List V} {ds : List Value}
  {E : XK} {x : Str} {p pos : Pos} {e : Expr} {es : List Expr} {t : TA}
theorem runG {pins : List (Addr × Obj)} {σ : L2.St} {H : Hp} {s : Shared} {Q : VK} {us : List Value} {vs : List V}
    (F : OkG X.prog X.w X.K X.mg X.base CX k f fd ps sp) (hG : X.A.guards = some []) (hr : Room k X.A)
    (hb : Binds X.K fd ps ds) (hd : Vals dvs ds) (hx : Passes CX X E) (I : Inv X pins σ H s) (r : Vals vs us)
    (h : sp (vs ++ dvs) H Q E) : wpAny (model X.prog X.w) X.A (call (.ref f) us) (EP X pins σ Q) X.xe s := by
  have r2 : Vals (vs ++ dvs) (us ++ ds) := r.append hd
  have hl : (us ++ ds).length = ps.length := r2.length.symm.trans (F.len _ _ _ _ h)
  have go := F.run X.A X.stack s H ⟨us, []⟩ (us ++ ds) (vs ++ dvs) Q E hG hr I.env0 (hb s us I.kIn hl) r2 h
  refine wpAny_call (codeAny_mono go ?_)
  intro r s' hq
  match r, hq with
  | .error e, hq => exact hx pins σ H s e s' I hq
  | .ok (.ret u), hq => exact I.after hq
  | .ok .next, hq => exact hq.elim
  | .ok .brk, hq => exact hq.elim
  | .ok .cont, hq => exact hq.elim
/-- f(e, ..) for such a def -/
theorem pe_callG (F : OkG X.prog X.w X.K X.mg X.base CX k f fd ps sp) (hG : X.A.guards = some []) (hr : Room k X.A) (hg : Gl X x)
    (hm : X.mg x = some (.ref f)) (hk : PySem.W.keepIn X.K (.ref f) = true) (hb : Binds X.K fd ps ds) (hd : Vals dvs ds)
    (hx : Passes CX X E) (ha : PA X (e :: es) t) (hdb : (x == ("__debug__" : Str)) = false := by decide)
    (he : starEach (e :: es) X.env = (false, eval e X.env) :: starEach es X.env := by rfl)
    (hpl : (backTo pos (starEach es X.env)).any (·.1) = false := by rfl) :
    PE X (.Call (.Name x p) (e :: es) [] pos) (tCall sp dvs E t) := by
  constructor
  intro pins s σ H Q I h
  apply wpAny_Call_Name_kw
  refine ld_glob I hg hm ?_ hdb
  refine PySem.W.callWith_K (h₀ := X.base) I.ok.mod.kin hk (thn (ha.run pos pins s σ H _ I h) ?_) he hpl
  rintro us s1 ⟨vs, H1, I1, r, q⟩
  exact ⟨I1.kIn, runG F hG hr hb hd hx I1 r q⟩
theorem pe_call0G (F : OkG X.prog X.w X.K X.mg X.base CX k f fd ps sp) (hG : X.A.guards = some []) (hr : Room k X.A) (hg : Gl X x)
    (hm : X.mg x = some (.ref f)) (hk : PySem.W.keepIn X.K (.ref f) = true) (hb : Binds X.K fd ps ds) (hd : Vals dvs ds)
    (hx : Passes CX X E) (hdb : (x == ("__debug__" : Str)) = false := by decide) :
    PE X (.Call (.Name x p) [] [] pos) (tCall sp dvs E tNil) := by
  constructor
  intro pins s σ H Q I h
  apply wpAny_Call_Name_kw
  refine ld_glob I hg hm ?_ hdb
  exact PySem.W.callWith_K0 I.kIn hk (runG (us := []) F hG hr hb hd hx I .nil h)

/-- repr of data -/
@[irreducible] def rRepr (K : PySem.W.Frag) : List V → Hp → VK → Prop := fun xs H Q => ∃ v d, xs = [v] ∧ Dp K H v d ∧ d.showable = true ∧ d.hasDict = false ∧ d.depth ≤ 60 ∧ d.shown.length ≤ sizeLine ∧ Q (.str d.shown) H
theorem rd_repr {K : PySem.W.Frag} {H : Hp} {v : V} {d : PyData} {Q : VK} (hv : Dp K H v d) (h1 : d.showable = true) (h2 : d.hasDict = false) (h3 : d.depth ≤ 60) (h4 : d.shown.length ≤ sizeLine) (q : Q (.str d.shown) H) : rRepr K [v] H Q := by
  unfold rRepr
  exact ⟨v, d, rfl, hv, h1, h2, h3, h4, q⟩
theorem cr_repr (hG : X.A.guards = some []) (hu : X.A.units + 64 < cLine) : CallR X (.builtin "repr") (rRepr X.K) := by
  intro pins s σ H xs us Q I r h
  unfold rRepr at h
  obtain ⟨v, d, rfl, hd, hs, hn, hdep, hz, q⟩ := h
  obtain ⟨u, rfl, ru⟩ : ∃ u, us = [u] ∧ RelV v u := by
    cases r with
    | cons a b => cases b with | nil => exact ⟨_, rfl, a⟩
  obtain ⟨as, rd⟩ := Dp.reads I d v u hd ru
  cases hd with
  | non => cases ru; exact PySem.P.repr_of_none ⟨.str _, H, I.tok _, ⟨_, rfl⟩, q⟩
  | bl b => cases ru; exact PySem.P.repr_of_bool ⟨.str _, H, I.tok _, ⟨_, rfl⟩, q⟩
  | int i =>
    obtain ⟨t, rfl⟩ := ru
    refine PySem.P.repr_of_int ?_ ⟨.str _, H, I.tok _, ⟨_, rfl⟩, q⟩
    simpa [PyData.showable] using hs
  | str z =>
    obtain ⟨t, rfl⟩ := ru
    exact PySem.P.repr_of_str ⟨.str _, H, I.tok _, ⟨_, rfl⟩, q⟩ hz
  | lst h1 h2 =>
    cases ru
    refine repr_of_reads' rd hs (by rw [hn]; intro z; cases z) hG (by omega) (fun _ _ e => e) ?_ hz
    intro h' u' tk hk
    exact ⟨.str _, H, I.kept hk, ⟨_, rfl⟩, q⟩
  | tup h1 h2 =>
    cases ru
    refine repr_of_reads' rd hs (by rw [hn]; intro z; cases z) hG (by omega) (fun _ _ e => e) ?_ hz
    intro h' u' tk hk
    exact ⟨.str _, H, I.kept hk, ⟨_, rfl⟩, q⟩
end

/-! ### the end: the law's call, where no repr is under way -/
theorem old_of {P : Program} {w : World} {H H' : Hp} {h h' : Heap} (hO : Only H) (un : Un (frs []) [] H H' h h') (ok : HOk P w H h) (ok' : HOk P w H' h') : OldK h h' := by
  apply OldK.of_keep
  intro b o e
  rcases hO b with z | ⟨ob, xs, z⟩
  · exact un.keep b o e z (by intro q; cases q) (by intro q; cases q)
  · have k1 := (ok b _ z).1
    have k2 := (ok' b _ (un.frzs b ob _ z)).1
    rw [e] at k1
    cases k1
    exact k2
theorem call_lawG {P : Program} {w : World} {K : PySem.W.Frag} {mg mb : Str → Option Value} {CX : CXT} {k : Nat} {fa a : Addr} {fd : FuncData}
    {x : Str} {sp : Sp} {s : Shared} {vs : List Value} {ns : List Int} (KX : K.In s.heap) (gl : s.heap.Ns mainGlobals mg)
    (bl : s.heap.Ns builtinsNs mb) (hbb : ∀ x : Str, x ≠ "__name__" → mb x = bootBuiltins x) (lim : s.heap.NoLimit) (gens : s.gens = #[])
    (ha : s.heap.get? a = some { cls := .type "list", data := .seq vs.toArray }) (hi : IntsAre vs ns) (hl : ns.length ≤ sizeLine)
    (hr : Room k callerA) (F : ∀ base : Heap, K.In base → base.Ns mainGlobals mg → OkG P w K mg base CX k fa fd [x] sp)
    (bind : ∀ (s : Shared) (u : Value), BindsTo s fd ⟨[u], []⟩ [(x, u)])
    (hsp : ∀ H : Hp, SqL K H a (ns.map V.int) → sp [.ref a] H (fun v _ => v = .bl true) fun _ _ _ => False)
    (hCX : ∀ H e s', CX [] H s (fun _ _ _ => False) e s' → False) :
    codeAny (model P w) callerA (.call (.ref fa) ⟨[.ref a], []⟩)
      (fun r s' => r = .ok (.ret (.bool true)) ∧ OldK s.heap s'.heap ∧ s'.os = s.os ∧ AllBare s'.gens) s := by
  have rv := vals_ints hi
  have core : ∀ H : Hp, Only H → SqL K H a (ns.map V.int) → HOk P w H s.heap → (∀ b, H b ≠ none → b = a) → (H a ≠ none → K.lookup a = none) →
      codeAny (model P w) callerA (.call (.ref fa) ⟨[.ref a], []⟩)
        (fun r s' => r = .ok (.ret (.bool true)) ∧ OldK s.heap s'.heap ∧ s'.os = s.os ∧ AllBare s'.gens) s := by
    intro H hO hS ok hA hK
    -- what is no list is not tracked
    have free : ∀ {b : Addr} {o : Obj}, s.heap.get? b = some o → (b = a → H a = none) → H b = none := by
      intro b o _ z
      by_cases q : H b = none
      · exact q
      · have e := hA b q
        rw [e]
        exact z e
    have ns' : ∀ {b : Addr} {m : Str → Option Value}, s.heap.Ns b m → (hidT s.heap H).Ns b m := by
      rintro b m ⟨o, es, ep, e, d, r⟩
      refine ⟨o, es, ep, hidT_get e (free e fun q => ?_), d, r⟩
      subst q
      rw [ha] at e
      cases e
      cases d
    have hKb : K.In (hidT s.heap H) := by
      intro b o e
      refine hidT_get (KX b o e) (free (KX b o e) fun q => ?_)
      subst q
      by_cases z : H b = none
      · exact z
      · rw [hK z] at e
        cases e
    have hM : Mod K mg (hidT s.heap H) := by
      obtain ⟨mc, h1, h2⟩ := lim
      exact ⟨hKb, ns' gl, ⟨mb, ns' bl, hbb⟩, ⟨mc, ns' h1, h2⟩⟩
    have e0 : Env0 P w K mg (hidT s.heap H) callerA [] s H := by
      refine ⟨rfl, hM, fun b o e => of_hidT e, Nat.le_of_eq (hidT_size _ _), trivial, ?_, ok, .of_eq gens⟩
      intro b hb
      cases (show b ∈ ([] : List Addr) from hb)
    have go := (F _ hKb (ns' gl)).run callerA [] s H ⟨[.ref a], []⟩ [.ref a] [.ref a] (fun v _ => v = .bl true) (fun _ _ _ => False)
      rfl hr e0 (bind s (.ref a)) (.cons rfl .nil) (hsp H hS)
    refine codeAny_mono go ?_
    intro r s' h
    match r, h with
    | .error e, h => exact (hCX H e s' h).elim
    | .ok .next, h => exact h.elim
    | .ok .brk, h => exact h.elim
    | .ok .cont, h => exact h.elim
    | .ok (.ret u), h =>
      obtain ⟨v, H', os, bare, un, ok', r', q⟩ := h
      cases (show v = .bl true from q)
      cases (show u = Value.bool true from r')
      exact ⟨rfl, old_of hO un ok ok', os, bare⟩
  by_cases hk : K.lookup a = none
  · refine core (upd (fun _ => none) a (.frz { cls := .type "list", data := .seq vs.toArray } (.lst (ns.map V.int)))) ?_ (.inl (.inr ⟨_, upd_same⟩)) ?_ ?_ fun _ => hk
    · intro b
      by_cases hb : b = a
      · subst hb
        exact .inr ⟨_, _, upd_same⟩
      · exact .inl (upd_ne hb)
    · intro b u z
      by_cases hb : b = a
      · subst hb
        rw [upd_same] at z
        cases z
        exact ⟨ha, by rw [List.length_map]; exact hl, vs, _, rv, ha⟩
      · rw [upd_ne hb] at z
        cases z
    · intro b z
      by_cases hb : b = a
      · exact hb
      · exact absurd (upd_ne hb) z
  · obtain ⟨o, ho⟩ := Option.ne_none_iff_exists'.mp hk
    have e := KX a o ho
    rw [ha] at e
    cases e
    have lenV := hi.length
    refine core (fun _ => none) (fun _ => .inl rfl) (.inr ⟨_, vs.toArray, _, ho, rfl, rfl, rfl, ?_, ?_⟩) ?_ ?_ ?_
    · rw [List.size_toArray, lenV]
      exact hl
    · simpa using rv
    · intro b u z
      cases (show (none : Option HO) = some u from z)
    · intro b z
      exact absurd rfl z
    · intro z
      exact absurd rfl z
theorem walkG {l : PySem.W.OpenLaw} {n k : Nat} {q : Program} {loose : List Str} {XP : (Str → Option Value) → Heap → Prop}
    {YP : World → Heap → Prop} {d : DefRec} {K : Params → PySem.W.Frag} {CX : World → CXT} {sp : World → Sp} {x : Str}
    (hn : l.most = some n) (hn2 : n ≤ sizeLine) (hdf : d.params.defaults = []) (hr : Room k callerA)
    (hY : ∀ (w : World) (h : Heap), YP w h → (K w.params).In h)
    (F : ∀ (w : World) (mg : Str → Option Value) (fa : Addr) (h : Heap), (K w.params).In h → h.Ns mainGlobals mg →
      mg d.name = some (.ref fa) → ∃ fd : FuncData, (∀ (s : Shared) (u : Value), BindsTo s fd ⟨[u], []⟩ [(x, u)]) ∧
        ∀ base : Heap, (K w.params).In base → base.Ns mainGlobals mg → OkG l.prog w (K w.params) mg base (CX w) k fa fd [x] (sp w))
    (hsp : ∀ (w : World) (H : Hp) (a : Addr) (ns : List Int), ns.length ≤ n → (∀ z ∈ ns, Builtin.Int.intBits z ≤ 1048576) →
      SqL (K w.params) H a (ns.map V.int) → sp w [.ref a] H (fun v _ => v = .bl true) fun _ _ _ => False)
    (hCX : ∀ (w : World) (H : Hp) (s : Shared) (e : Value) (s' : Shared), CX w [] H s (fun _ _ _ => False) e s' → False) :
    PySem.W.WalkO q loose XP YP l.row.toRowW d [] (fun f vs => PySem.call f vs) := by
  refine Att.attach_callB hn hdf ?_
  intro w s₀ s₁ mg mb fa o pm cd doc a vs ns G Y ho hd hcd hmg hobj hints hlen hbits hg
  obtain ⟨fd, hb, hF⟩ := F w mg fa _ (hY w _ Y) G.T.g hmg
  exact call_lawG (hY w _ Y) G.T.g G.T.b G.T.builtins G.T.nolimit hg hobj hints (Nat.le_trans hlen hn2) hr hF hb
    (fun H hS => hsp w H a ns hlen hbits hS) (fun H e s' => hCX w H s₁ e s')
end Hv

namespace Hv
open PySem PySem.Spec PyProof.Rows L2
section
variable {X : Cx} {o e : Expr} {to te : TE}
/-- a text's method of one argument; its receiver wants a token -/
theorem pet_m1 {id : String} {name : Str} {apos pos : Pos} {r : V → List V → Hp → VK → Prop} (slot : Slot "str" name id)
    (ty : typeOf (.builtin id) = pure (.type "method_descriptor")) (rule : MtR X id r) (ho : PET X o to) (he : PE X e te)
    (hs : starEach [e] X.env = [(false, eval e X.env)] := by rfl) (hbase : attributeBase o name X.env (eval o X.env) = eval o X.env := by rfl)
    (hline : (apos.endLine == pos.line) = true := by rfl) : PET X (.Call (.Attribute o name apos) [e] [] pos) (tM1 r to te) := by
  intro pins s σ H Q h0 I h
  apply PySem.Call_method1 hbase hs hline
  apply thn (ho pins s σ H _ h0 I h)
  rintro v s1 ⟨x, H1, I1, r1, ⟨a, rfl⟩, q1⟩
  obtain ⟨t, rfl⟩ := _root_.id r1
  refine ⟨"str", _, F.plainAttrs_str, slot, ty, typeIs_str _ _ _, (fun _ e => nomatch e), ?_⟩
  refine Calls.callWith_builtin rfl (Calls.evalArgs_plain (Calls.spliced_cons (thn (he.run pins s1 σ H1 _ I1 q1) ?_)))
  rintro u s2 ⟨y, H2, I2, r2, q2⟩
  exact Calls.spliced_nil (rule pins s2 σ H2 _ [y] _ [u] Q I2 r1 (.cons r2 .nil) q2)
theorem pst_asg {tg : Expr} {g : TG} {pos : Pos} (he : PET X e te) (hg : PG X tg g) (hs : swapsWithSole [tg] e pos.line X.env = pure false := by rfl)
    (hw : swappedStores [tg] e X.env = pure none := by rfl) (h1 : (assignEach [tg] X.env).map (·.2) = [assign tg X.env] := by rfl) :
    PST X (.Assign [tg] e pos) (tAsg te g) := by
  intro pins s σ H D h0 I h
  refine wpAny_Assign_stores (thn (he pins s σ H _ h0 I h) ?_) hs hw
  rintro v s1 ⟨x, H1, I1, r1, q1⟩
  rw [h1]
  exact thn (hg.run pins s1 σ H1 x v _ I1 r1 q1) fun _ s2 q => q
/-- f(k = v, ..), no positional argument -/
theorem pe_callK0 {CX : CXT} {k : Nat} {f : Addr} {fd : FuncData} {ps ks : List Str} {sp : Sp} {E : XK} {x : Str} {p pos : Pos} {kws : List Keyword} {tk : TA}
    {g : List Value → List Value → List Value} {gV : List V → List V → List V} (F : FnOk X.prog X.w X.K X.mg X.base CX k f fd ps sp) (hr : Room k X.A) (hg : Gl X x)
    (hm : X.mg x = some (.ref f)) (hk : PySem.W.keepIn X.K (.ref f) = true) (hb : KBinds X.K fd ps ks g gV) (hx : Passes CX X E) (hkw : PK X kws tk)
    (hall : (backToKw pos (keywordEach kws X.env)).all (·.1.isSome) = true := by rfl) (hks : (backToKw pos (keywordEach kws X.env)).filterMap (·.1) = ks := by rfl)
    (hdb : (x == ("__debug__" : Str)) = false := by decide)
    (hpl : ((backTo pos (starEach [] X.env)).any (·.1) || (backToKw pos (keywordEach kws X.env)).any (·.1.isNone)) = false := by rfl) :
    PE X (.Call (.Name x p) [] kws pos) (tCallK sp gV E tNil tk) := by
  constructor
  intro pins s σ H Q I h
  apply wpAny_Call_Name_kw
  refine ld_glob I hg hm ?_ hdb
  refine PySem.W.callWith_KW0 (h₀ := X.base) I.ok.mod.kin hk hall ?_ hpl
  apply thn (hkw.run pos pins s σ H _ I h)
  rintro ws s2 ⟨zs, H2, I2, rz, q2⟩
  rw [hks]
  exact ⟨I2.kIn, run_fnk (us := []) F hr hb hx I2 .nil rz q2⟩
/-- repr of a truth value -/
theorem cr_reprB : CallR X (.builtin "repr") (fun xs H Q => ∃ b, xs = [.bl b] ∧ Q (.str (if b then "True" else "False")) H) := by
  intro pins s σ H xs us Q I r h
  obtain ⟨b, rfl, q⟩ := h
  cases r with
  | cons a t =>
    cases t
    cases a
    exact PySem.P.repr_of_bool ⟨.str _, H, I.tok _, ⟨_, rfl⟩, q⟩
end
section
variable {P : Program} {w : World} {K : PySem.W.Frag} {mg : Str → Option Value} {base : Heap} {CX : CXT} {k : Nat} {f : Addr} {fd : FuncData} {ps : List Str} {sp : Sp}
/-- the rule for a def without cells: a token is out when its body begins -/
theorem okT {x qual : Str} {st : Stmt} {N : List Str} (F : Fun K x qual st f fd) (S : FnScope N ps (defScope st)) (hnc : ∀ y ∈ (defScope st).names, y.2 ≠ .cell) (hps : 1 ≤ ps.length)
    (len : ∀ vs H Q E, sp vs H Q E → vs.length = ps.length)
    (body : ∀ (cdv : Value) (A : Around) (outer : List Env) (s : Shared) (H : Hp) (vs : List V) (Q : VK) (E : XK),
      Room k (A.deeper (envOfC qual (defScope st) s.heap.objs.size f cdv)) → sp vs H Q E →
      ∃ t, PSsT (cxOf CX P w K mg base N qual (defScope st) f cdv A outer s H E) (defBody st) t ∧ t { nx := fun _ H' => Q .non H', rt := Q } (start N vs) H) :
    FnOk P w K mg base CX (k + 1) f fd ps sp := by
  obtain ⟨oc, od, kV, doc, pm, an, cdv, ct, osl, rfl, lk, hcd⟩ := F.ex
  exact fn_ofT lk hcd S hnc hps len fun A outer s H vs Q E hr hsp => body cdv A outer s H vs Q E hr hsp
end
end Hv

namespace Hv
open PySem L2

theorem dT {p : Prop} [Decidable p] (h : decide p = true) : p := of_decide_eq_true h
theorem dF {p : Prop} [Decidable p] (h : ¬ decide p = true) : ¬ p := fun q => h (decide_eq_true q)
theorem nT {p : Prop} [Decidable p] (h : (!decide p) = true) : ¬ p := fun q => by
  rw [decide_eq_true q] at h
  cases h
theorem nF {p : Prop} [Decidable p] (h : ¬ (!decide p) = true) : p := by
  by_cases q : p
  · exact q
  · exact absurd (by rw [decide_eq_false q]; rfl) h

theorem ifT {p : Prop} [Decidable p] {A B : Prop} (hp : p) (h : A) : if decide p = true then A else B := by
  rw [if_pos (decide_eq_true hp)]
  exact h
theorem ifF {p : Prop} [Decidable p] {A B : Prop} (hp : ¬ p) (h : B) : if decide p = true then A else B := by
  rw [if_neg (fun q => hp (of_decide_eq_true q))]
  exact h
theorem ifNT {p : Prop} [Decidable p] {A B : Prop} (hp : ¬ p) (h : A) : if (!decide p) = true then A else B := by
  rw [decide_eq_false hp]
  exact h
theorem ifNF {p : Prop} [Decidable p] {A B : Prop} (hp : p) (h : B) : if (!decide p) = true then A else B := by
  rw [decide_eq_true hp]
  exact h

/-- a value's reading by what holds behind it -/
theorem join_te {te : TE} {σ : L2.St} {H : Hp} {Q : VK} (S : V → Hp → Prop) (h : ∀ Q' : VK, (∀ v H', S v H' → Q' v H') → te σ H Q') (k : ∀ v H', S v H' → Q v H') : te σ H Q := h Q k

theorem join_asg {te : TE} {g : TG} {u : TS} {D : Ends} {σ : L2.St} {H : Hp} (S : V → Hp → Prop) (h : ∀ Q' : VK, (∀ v H', S v H' → Q' v H') → te σ H Q')
    (k : ∀ v H', S v H' → g v σ H' (u D)) : tSeq (tAsg te g) u D σ H := h _ k

theorem join_ifs {tt : TT} {t u v : TS} {D : Ends} {σ : L2.St} {H : Hp} (S : Bool → Hp → Prop) (h : ∀ Q' : Bool → Hp → Prop, (∀ b H', S b H' → Q' b H') → tt σ H Q')
    (k : ∀ b H', S b H' → if b = true then t { D with nx := v D } σ H' else u { D with nx := v D } σ H') : tSeq (tIfS tt t u) v D σ H := h _ k
/-- both ways of an if come to the same -/
theorem join_if {c : Bool} {A B R : Prop} (hB : c = false → R → B) (hA : c = true → R → A) (r : R) : if c = true then A else B := by
  cases c with
  | true => exact hA rfl r
  | false => exact hB rfl r

structure DefAt (K : PySem.W.Frag) (mg : Str → Option Value) (x : Str) (st : Stmt) (ps : List Str) (f : Addr) (fd : FuncData) : Prop where
  fn : Fun K x x st f fd
  mg : mg x = some (.ref f)
  bd : Binds K fd ps []
/-- what the top has left of a def -/
def DefIn (K : PySem.W.Frag) (x : Str) (st : Stmt) : Prop :=
  ∃ (f : Addr) (oc : Value) (od : Option Addr) (kV doc pm : Value) (an : Option Addr) (cd ct : Value) (sl : Array (Option Value)),
    PySem.W.nsIn K mainGlobals x = some (some (.ref f)) ∧
    K.lookup f = some ⟨oc, od, .func (PySem.W.fnOf x x (defArgs st) (defBody st) (defScope st) .none kV doc pm an cd ct), sl⟩ ∧
    PySem.W.codeIn K cd x = true ∧ PySem.W.keepIn K (.ref f) = true
theorem defIn_mk {K : PySem.W.Frag} {x : Str} {st : Stmt} {f : Addr} {oc : Value} {od : Option Addr} {kV doc pm : Value} {an : Option Addr} {cd ct : Value} {sl : Array (Option Value)}
    (a : PySem.W.nsIn K mainGlobals x = some (some (.ref f)))
    (l : K.lookup f = some ⟨oc, od, .func (PySem.W.fnOf x x (defArgs st) (defBody st) (defScope st) .none kV doc pm an cd ct), sl⟩)
    (c : PySem.W.codeIn K cd x = true) (k : PySem.W.keepIn K (.ref f) = true) : DefIn K x st :=
  ⟨f, oc, od, kV, doc, pm, an, cd, ct, sl, a, l, c, k⟩
theorem constIn_mk {K : PySem.W.Frag} {x : Str} {C : Value → Prop} {v : Value} (a : PySem.W.nsIn K mainGlobals x = some (some v)) (c : C v) : ∃ v, PySem.W.nsIn K mainGlobals x = some (some v) ∧ C v := ⟨v, a, c⟩
theorem DefIn.at {K : PySem.W.Frag} {mg : Str → Option Value} {h : Heap} {x : Str} {st : Stmt} {ps : List Str} (d : DefIn K x st) (X : K.In h) (G : h.Ns mainGlobals mg)
    (hb : ∀ (kV doc pm : Value) (an : Option Addr) (cdv ct : Value) (us : List Value), us.length = ps.length →
      bindArgs (PySem.W.fnOf x x (defArgs st) (defBody st) (defScope st) .none kV doc pm an cdv ct) ⟨us, []⟩ = pure (ps.zip us)) :
    ∃ f fd, DefAt K mg x st ps f fd := by
  obtain ⟨f, oc, od, kV, doc, pm, an, cd, ct, sl, a, l, c, k⟩ := d
  have F := fun_mk (st := st) l c k
  exact ⟨f, _, F, PySem.W.mg_of X G a, F.binds hb⟩

/-- the draws' bag: three ints, the second one from 0 on and not beyond the script's bits, the third at most k -/
def Bag (H : Hp) (b : Addr) (k : Nat) : Prop :=
  ∃ s d n : Int, H b = some (.lst [.int s, .int d, .int n]) ∧ 0 ≤ d ∧ Builtin.Int.intBits d ≤ 1048576 ∧ 0 ≤ n ∧ n ≤ k
theorem Bag.mono {H : Hp} {b : Addr} {j k : Nat} (h : Bag H b j) (le : j ≤ k) : Bag H b k := by
  obtain ⟨s, d, n, h1, h2, h3, h4, h5⟩ := h
  exact ⟨s, d, n, h1, h2, h3, h4, by omega⟩
theorem Bag.same {H H' : Hp} {b : Addr} {k : Nat} (h : Bag H b k) (e : Same H H') : Bag H' b k := by
  obtain ⟨s, d, n, h1, h2⟩ := h
  exact ⟨s, d, n, e _ _ h1, h2⟩
theorem Bag.ne_none {H : Hp} {b p : Addr} {k : Nat} (h : Bag H b k) (hp : H p = none) : p ≠ b := by
  obtain ⟨s, d, n, h1, _⟩ := h
  exact (ne_of_none h1 hp).symm
/-- all that is tracked but b stays -/
def But (b : Addr) (H H' : Hp) : Prop := ∀ a o, a ≠ b → H a = some o → H' a = some o
theorem But.refl {b : Addr} {H : Hp} : But b H H := fun _ _ _ h => h
theorem But.trans {b : Addr} {H H1 H2 : Hp} (x : But b H H1) (y : But b H1 H2) : But b H H2 := fun a o n h => y a o n (x a o n h)
theorem But.put {b : Addr} {H H1 : Hp} {o : HO} (x : But b H H1) : But b H (upd H1 b o) := fun a u n h => by
  rw [upd_ne n]; exact x a u n h
theorem But.new {b p : Addr} {H H1 : Hp} {o : HO} (x : But b H H1) (hp : H1 p = none) : But b H (upd H1 p o) := fun a u n h => by
  have q := x a u n h
  rw [upd_ne (ne_of_none q hp)]; exact q
theorem But.of {b : Addr} {H H' : Hp} (e : Same H H') : But b H H' := fun a o _ h => e a o h
theorem But.seq {b a : Addr} {K : PySem.W.Frag} {H H' : Hp} {xs : List V} (e : But b H H') (n : a ≠ b) (h : SqL K H a xs) : SqL K H' a xs := by
  rcases h with (h | ⟨o, h⟩) | h
  · exact .inl (.inl (e _ _ n h))
  · exact .inl (.inr ⟨o, e _ _ n h⟩)
  · exact .inr h
theorem same_new {H : Hp} {p : Addr} {o : HO} (hp : H p = none) : Same H (upd H p o) := fun a u e => by
  rw [upd_ne (ne_of_none e hp)]; exact e
theorem But.free {b p : Addr} {H H' : Hp} (e : But b H H') (n : p ≠ b) (h : H' p = none) : H p = none := by
  cases q : H p with
  | none => rfl
  | some o =>
    rw [e p o n q] at h
    cases h

/-- changes at places that H did not know -/
theorem same_but {H H1 H2 : Hp} {b : Addr} (s : Same H H1) (hb : H b = none) (e : But b H1 H2) : Same H H2 := fun a o h =>
  e a o (ne_of_none h hb) (s a o h)
theorem same_put {H H1 : Hp} {b : Addr} {o : HO} (s : Same H H1) (hb : H b = none) : Same H (upd H1 b o) := fun a u h => by
  rw [upd_ne (ne_of_none h hb)]
  exact s a u h
theorem Bag.put {H : Hp} {b p : Addr} {k : Nat} {o : HO} (h : Bag H b k) (n : p ≠ b) : Bag (upd H p o) b k := by
  obtain ⟨s, d, m, h1, h2⟩ := h
  exact ⟨s, d, m, by rw [upd_ne n.symm]; exact h1, h2⟩
theorem log2_mono {a b : Nat} (h : a ≤ b) : a.log2 ≤ b.log2 := by
  by_cases h0 : a = 0
  · subst h0
    rw [Nat.log2_zero]
    exact Nat.zero_le _
  · have h1 := Nat.log2_self_le h0
    exact (Nat.le_log2 (by omega)).mpr (Nat.le_trans h1 h)
theorem bits_mono {a b : Int} (h : a.natAbs ≤ b.natAbs) : Builtin.Int.intBits a ≤ Builtin.Int.intBits b := by
  unfold Builtin.Int.intBits
  have := log2_mono h
  by_cases h0 : a = 0
  · rw [if_pos (by rw [h0]; rfl)]
    exact Nat.zero_le _
  · by_cases h1 : b = 0
    · subst h1
      simp at h
      exact absurd h h0
    · rw [if_neg (by simpa using h0), if_neg (by simpa using h1)]
      omega
theorem bits_div {d m : Int} (h0 : 0 ≤ d) (hm : 0 < m) (h : Builtin.Int.intBits d ≤ 1048576) : Builtin.Int.intBits (d / m) ≤ 1048576 := by
  refine Nat.le_trans (bits_mono ?_) h
  have h1 : 0 ≤ d / m := Int.ediv_nonneg h0 (by omega)
  have h2 : d / m ≤ d := Int.ediv_le_self _ h0
  omega
theorem bits_small {n : Int} (h : n.natAbs < 2 ^ 1000) : Builtin.Int.intBits n ≤ 1048576 := by
  unfold Builtin.Int.intBits
  split
  · decide
  · by_cases h0 : n.natAbs = 0
    · rw [h0]
      decide
    · have := (Nat.log2_lt h0).mpr h
      omega
theorem pylong_no {d m : Int} (h : m.natAbs < 2 ^ 1000) : Builtin.divisionGoesByPylong d m = false := by
  unfold Builtin.divisionGoesByPylong
  rw [Bool.and_eq_false_iff]
  left
  rw [decide_eq_false_iff_not]
  dsimp only
  split
  · decide
  · rename_i hz
    have h0 : m.natAbs ≠ 0 := by
      intro q
      apply hz
      rw [beq_iff_eq]
      omega
    have := (Nat.log2_lt h0).mpr h
    omega
theorem m_small {m : Int} (h0 : 0 ≤ m) (h : m ≤ 10 ^ 41) : m.natAbs < 2 ^ 1000 := by
  have e : (10 : Nat) ^ 41 < 2 ^ 1000 := by decide +kernel
  have : m.natAbs ≤ 10 ^ 41 := by omega
  exact Nat.lt_of_le_of_lt this e
/-- a number of the script, or one mixed of its first ones -/
def sp_seed (K : PySem.W.Frag) : Sp := fun vs H Q _ => ∃ (a : Addr) (ns : List Int) (k : Int), vs = [.ref a, .int k] ∧ SqL K H a (ns.map V.int) ∧
  (∀ z ∈ ns, Builtin.Int.intBits z ≤ 1048576) ∧ 0 ≤ k ∧ k < 1000 ∧ ∀ (n : Int) (H' : Hp), Same H H' → Builtin.Int.intBits n ≤ 1048576 → Q (.int n) H'
def sp_bag : Sp := fun vs H Q _ => ∃ (n : Int), vs = [.int n] ∧ Builtin.Int.intBits n ≤ 1048576 ∧
  ∀ (p : Addr) (H' : Hp), H p = none → Same H H' → Bag H' p 0 → Q (.ref p) H'
/-- a draw below m -/
def sp_take : Sp := fun vs H Q _ => ∃ (b : Addr) (m : Int) (k : Nat), vs = [.ref b, .int m] ∧ Bag H b k ∧ k < 1000000 ∧ 0 < m ∧ m.natAbs < 2 ^ 1000 ∧
  ∀ (r : Int) (H' : Hp), But b H H' → Bag H' b (k + 1) → 0 ≤ r → r < m → Q (.int r) H'
end Hv

namespace Hv
open PySem L2 SlX
/-- a def of a class as the top has left it -/
def MethIn (K : PySem.W.Frag) (C : Addr) (x qual : Str) (st : Stmt) : Prop :=
  ∃ (f : Addr) (oc : Value) (od : Option Addr) (kV doc pm : Value) (an : Option Addr) (cd ct : Value) (sl : Array (Option Value)),
    PySem.W.findIn K (.ref C) x = some (some (.ref f)) ∧ PySem.W.isFn K (.ref f) = true ∧
    K.lookup f = some ⟨oc, od, .func (PySem.W.fnOf x qual (defArgs st) (defBody st) (defScope st) .none kV doc pm an cd ct), sl⟩ ∧
    PySem.W.codeIn K cd qual = true ∧ PySem.W.keepIn K (.ref f) = true
theorem methIn_mk {K : PySem.W.Frag} {C : Addr} {x qual : Str} {st : Stmt} {f : Addr} {oc : Value} {od : Option Addr} {kV doc pm : Value} {an : Option Addr} {cd ct : Value} {sl : Array (Option Value)}
    (a : PySem.W.findIn K (.ref C) x = some (some (.ref f))) (i : PySem.W.isFn K (.ref f) = true)
    (l : K.lookup f = some ⟨oc, od, .func (PySem.W.fnOf x qual (defArgs st) (defBody st) (defScope st) .none kV doc pm an cd ct), sl⟩)
    (c : PySem.W.codeIn K cd qual = true) (k : PySem.W.keepIn K (.ref f) = true) : MethIn K C x qual st :=
  ⟨f, oc, od, kV, doc, pm, an, cd, ct, sl, a, i, l, c, k⟩
structure MethAt (K : PySem.W.Frag) (C : Addr) (x qual : Str) (st : Stmt) (ps : List Str) (f : Addr) (fd : FuncData) : Prop where
  at_ : PySem.W.findIn K (.ref C) x = some (some (.ref f))
  isf : PySem.W.isFn K (.ref f) = true
  fn : Fun K x qual st f fd
  bd : Binds K fd ps []
theorem MethIn.at {K : PySem.W.Frag} {C : Addr} {x qual : Str} {st : Stmt} {ps : List Str} (d : MethIn K C x qual st)
    (hb : ∀ (kV doc pm : Value) (an : Option Addr) (cdv ct : Value) (us : List Value), us.length = ps.length →
      bindArgs (PySem.W.fnOf x qual (defArgs st) (defBody st) (defScope st) .none kV doc pm an cdv ct) ⟨us, []⟩ = pure (ps.zip us)) :
    ∃ f fd, MethAt K C x qual st ps f fd := by
  obtain ⟨f, oc, od, kV, doc, pm, an, cd, ct, sl, a, i, l, c, k⟩ := d
  have F := fun_mk (st := st) l c k
  exact ⟨f, _, a, i, F, F.binds hb⟩
/-- a property of a class, its getter at g -/
structure PropK (K : PySem.W.Frag) (C : Addr) (x : Str) (g : Addr) : Prop where
  ex : ∃ p, PySem.W.findIn K (.ref C) x = some (some (.ref p)) ∧ PySem.W.specialIn K (.ref p) "__get__" = some (some (.builtin "property.__get__")) ∧
    PySem.W.takesIn K (.ref p) = some true ∧ ∃ rest, PySem.W.recIn K p "property" = some (.ref g :: rest)
def PropIn (K : PySem.W.Frag) (C : Addr) (x qual : Str) (st : Stmt) : Prop :=
  ∃ (g : Addr) (oc : Value) (od : Option Addr) (kV doc pm : Value) (an : Option Addr) (cd ct : Value) (sl : Array (Option Value)), PropK K C x g ∧
    K.lookup g = some ⟨oc, od, .func (PySem.W.fnOf x qual (defArgs st) (defBody st) (defScope st) .none kV doc pm an cd ct), sl⟩ ∧
    PySem.W.codeIn K cd qual = true ∧ PySem.W.keepIn K (.ref g) = true
theorem propIn_mk {K : PySem.W.Frag} {C p : Addr} {rest : List Value} {x qual : Str} {st : Stmt} {g : Addr} {oc : Value} {od : Option Addr} {kV doc pm : Value} {an : Option Addr} {cd ct : Value} {sl : Array (Option Value)}
    (a : PySem.W.findIn K (.ref C) x = some (some (.ref p))) (b : PySem.W.specialIn K (.ref p) "__get__" = some (some (.builtin "property.__get__"))) (t : PySem.W.takesIn K (.ref p) = some true)
    (r : PySem.W.recIn K p "property" = some (.ref g :: rest))
    (l : K.lookup g = some ⟨oc, od, .func (PySem.W.fnOf x qual (defArgs st) (defBody st) (defScope st) .none kV doc pm an cd ct), sl⟩)
    (c : PySem.W.codeIn K cd qual = true) (k : PySem.W.keepIn K (.ref g) = true) : PropIn K C x qual st :=
  ⟨g, oc, od, kV, doc, pm, an, cd, ct, sl, ⟨p, a, b, t, rest, r⟩, l, c, k⟩
structure PropAt (K : PySem.W.Frag) (C : Addr) (x qual : Str) (st : Stmt) (ps : List Str) (f : Addr) (fd : FuncData) : Prop where
  pr : PropK K C x f
  fn : Fun K x qual st f fd
  bd : Binds K fd ps []
theorem PropIn.at {K : PySem.W.Frag} {C : Addr} {x qual : Str} {st : Stmt} {ps : List Str} (d : PropIn K C x qual st)
    (hb : ∀ (kV doc pm : Value) (an : Option Addr) (cdv ct : Value) (us : List Value), us.length = ps.length →
      bindArgs (PySem.W.fnOf x qual (defArgs st) (defBody st) (defScope st) .none kV doc pm an cdv ct) ⟨us, []⟩ = pure (ps.zip us)) :
    ∃ f fd, PropAt K C x qual st ps f fd := by
  obtain ⟨f, oc, od, kV, doc, pm, an, cd, ct, sl, pr, l, c, k⟩ := d
  have F := fun_mk (st := st) l c k
  exact ⟨f, _, pr, F, F.binds hb⟩
theorem raw_ok {P : Program} {w : World} {K : PySem.W.Frag} {mg : Str → Option Value} {base : Heap} {CX : CXT} {k : Nat} {f : Addr} {fd : FuncData} {ps : List Str} {sp : Sp} (F : FnOk P w K mg base CX k f fd ps sp) (hb : Binds K fd ps []) :
    FnR P w K mg base CX k f sp := (FnOk.raw F hb .nil).imp fun vs H Q E h => by
  rw [List.append_nil]
  exact h
section
variable {X : Cx} {e : Expr} {ta : TE} {C g : Addr} {f : Str} {pos : Pos} {n : Nat} {sp : Sp}
/-- a property of an instance with slots -/
theorem pe_propO (he : PE X e ta) (c : SCls X.K C) (p : PropK X.K C f g) (F : FnR X.prog X.w X.K X.mg X.base CX0 n g sp) (hr : Room (n + 1) X.A)
    (hb : attributeBase e f X.env (eval e X.env) = eval e X.env := by rfl) : PE X (.Attribute e f pos) (tPropSl C sp E0 ta) := by
  obtain ⟨p, h1, h2, h3, h4⟩ := p.ex
  exact pe_propSl he c h1 h2 h3 h4 F hr (fun _ _ _ _ z => z) hb
/-- one of two ways to read a call -/
theorem callR_or {v : Value} {r1 r2 : List V → Hp → VK → Prop} (h1 : CallR X v r1) (h2 : CallR X v r2) : CallR X v (fun xs H Q => r1 xs H Q ∨ r2 xs H Q) := by
  intro pins s σ H xs us Q I r h
  rcases h with h | h
  · exact h1 pins s σ H xs us Q I r h
  · exact h2 pins s σ H xs us Q I r h
end
end Hv

namespace Hv
open PySem PySem.Spec PyProof.Rows L2
theorem fly_push {B h : Heap} {l : List Env} {a : Addr} {Z : Obj → Prop} {o : Obj} (f : HandSPX.FlyingZ B l a Z h) : HandSPX.FlyingZ B l a Z (h.push o) := by
  obtain ⟨g1, g2, g3, oe, vs, T, oT, ts, e1, e2, e3, e4, e5, e6, e7, e8, e9⟩ := f
  have k : ∀ b u, h.get? b = some u → (h.push o).get? b = some u := fun b u e => Heap.get?_push_of_some _ e
  exact ⟨fun b u e => k b u (g1 b u e), g2, Heap.FunFrames.of_keeps (fun b u e _ => ⟨u, k b u e, rfl⟩) g3, oe, vs, T, oT, ts, k _ _ e1, e2, e3, e4, e5, e6, k _ _ e7, e8, e9⟩
/-- the wish of a clause of three classes: what comes is one of them -/
def wTup (K : PySem.W.Frag) (len : Nat) (cs : List Value) (i : Nat) (ts : Addr → Value → Option Addr → TS) (D : Ends) : WX := fun cls d σ H => σ.length = len →
  PySem.W.exmAny K cls cs = some true ∧ ∀ a, H a = none →
    ts a cls d { nx := fun σ' H' => D.nx (σ'.set i none) H', rt := D.rt, bk := fun σ' H' => D.bk (σ'.set i none) H', ct := fun σ' H' => D.ct (σ'.set i none) H' } (σ.set i (some (.ref a))) H
/-- try: body / except (x1, x2, x3) as n: suite, where all that the body lets out is of these classes -/
theorem ps_try_tup {X : Cx} {x1 x2 x3 n : Str} {c1 c2 c3 : Addr} {i j : Nat} {body suite : List Stmt} {b₀ : Stmt} {q1 q2 q3 qt pos pos' : Pos} {tb : WX → TS} {ts : Addr → Value → Option Addr → TS}
    (hs : X.stack = X.env :: X.outer) (hf : X.env.frame = some X.env.locals) (hN : X.N.Nodup) (hi : X.N[i]? = some n) (hln : X.env.kindOf n = some .local)
    (g1 : Gl X x1) (g2 : Gl X x2) (g3 : Gl X x3) (m1 : X.mg x1 = some (.ref c1)) (m2 : X.mg x2 = some (.ref c2)) (m3 : X.mg x3 = some (.ref c3))
    (hb : ∀ (W : WX) (pn : List (Addr × Obj)) (xe : Value → Shared → Prop), Takes (X.tr pn xe) W → PassesOwn (model X.prog X.w) X.A X.env xe → PSs (X.tr pn xe) body (tb W))
    (hsu : ∀ (a : Addr) (oe : Obj) (cls : Value) (d : Option Addr) (pn : List (Addr × Obj)), Zc cls d oe → (∃ vs, oe.data = .fields vs) → PSs (X.suite a ((a, oe) :: pn)) (b₀ :: suite) (ts a cls d))
    (d1 : (x1 == ("__debug__" : Str)) = false := by decide) (d2 : (x2 == ("__debug__" : Str)) = false := by decide) (d3 : (x3 == ("__debug__" : Str)) = false := by decide) :
    PS X (.Try body [.ExceptHandler (some (.Tuple [.Name x1 q1, .Name x2 q2, .Name x3 q3] j qt)) (some n) (b₀ :: suite) pos'] [] [] pos) (fun D σ H => tb (wTup X.K X.N.length [.ref c1, .ref c2, .ref c3] i ts D) D σ H) := by
  refine ⟨fun pins s σ H D I h => ?_⟩
  have xok := I.ok
  have frames : X.A.frames = some (X.env :: X.outer) := by
    rw [xok.frames, hs]
  refine wpAny_Try_except ?_
  have BODY := hb (wTup X.K X.N.length [.ref c1, .ref c2, .ref c3] i ts D) (X.pn ++ pins) (fun e t1 => wpAny (model X.prog X.w) X.A (noteFrame e X.env) (fun _ t2 => wpAny (model X.prog X.w) X.A (setFlight e none) (fun _ t3 =>
    wpAny (model X.prog X.w) X.A (handleBy e X.env [.ExceptHandler (some (.Tuple [.Name x1 q1, .Name x2 q2, .Name x3 q3] j qt)) (some n) (b₀ :: suite) pos']) (SP X pins D) X.xe t3) X.xe t2) X.xe t1) ?caught PassesOwn.looking
  · refine wpAny_mono (BODY.run [] s σ H D (I.toTry _) h) (fun fl s1 hsp => ?_) fun e s1 he => he
    cases fl with
    | next => obtain ⟨σ', H', J', q⟩ := hsp; exact wpAny_execs_nil ⟨σ', H', J'.ofTry xok, q⟩
    | brk => obtain ⟨σ', H', J', q⟩ := hsp; exact ⟨σ', H', J'.ofTry xok, q⟩
    | cont => obtain ⟨σ', H', J', q⟩ := hsp; exact ⟨σ', H', J'.ofTry xok, q⟩
    | ret u => obtain ⟨v, σ', H', J', r, q⟩ := hsp; exact ⟨v, σ', H', J'.ofTry xok, r, q⟩
  · rintro u s' ⟨a, B, sI, pins', σ', H', cls, d, rfl, J', nb, up, sky, na, os, ag, wish⟩
    obtain ⟨hany, hyes⟩ := wish J'.len
    have J : Inv X pins σ' H' sI := J'.ofTry xok
    rw [show X.stack = X.env :: X.outer from hs] at sky
    show wpAny (model X.prog X.w) X.A (noteFrame (.ref a) X.env) _ _ _
    refine Sky.land Zc.steady frames hf sky fun h3 fl3 up3 => ?_
    have J3 : Inv X pins σ' H' { s' with heap := h3 } := J.landed nb fl3.1 (up.trans up3) os ag
    obtain ⟨oe3, vs3, he3, hz3, hd3⟩ := fl3.there
    have nofr : a ∉ frs (X.env :: X.outer) := fun hm => by
      obtain ⟨_, o', e', hnf⟩ := fl3.2.2.1.mem hm
      rw [he3] at e'
      cases e'
      exact hnf _ hd3
    have nL : a ≠ X.env.locals := fun z => nofr (List.mem_filterMap.mpr ⟨X.env, List.mem_cons_self, by rw [hf, z]⟩)
    have nF : a ∉ X.fs := fun hm => by
      obtain ⟨e, he, q⟩ := List.mem_filterMap.mp hm
      exact nofr (List.mem_filterMap.mpr ⟨e, List.mem_cons_of_mem _ he, q⟩)
    have S3 := J3.suite he3 hd3 na nL nF
    refine wpAny_handleBy_cons (codeAny_handlers_test ?_) (by intro q; cases q)
    refine Tuple_ ?_
    show wpAny _ _ (spliced ((false, eval (.Name x1 q1) X.env) :: backTo qt (starEach [.Name x2 q2, .Name x3 q3] X.env))) _ _ _
    refine Calls.spliced_cons (ld_glob S3 g1 m1 ?_ d1)
    show wpAny _ _ (spliced ((false, eval (.Name x2 q2) X.env) :: backTo qt (starEach [.Name x3 q3] X.env))) _ _ _
    refine Calls.spliced_cons (ld_glob S3 g2 m2 ?_ d2)
    show wpAny _ _ (spliced ((false, eval (.Name x3 q3) X.env) :: backTo qt (starEach [] X.env))) _ _ _
    refine Calls.spliced_cons (ld_glob S3 g3 m3 (Calls.spliced_nil ?_) d3)
    refine wpAny_newObj_type ?_ (by show 3 ≤ sizeLine; decide)
    have fl5 := fly_push (o := { cls := .type "tuple", data := .seq [Value.ref c1, .ref c2, .ref c3].toArray }) fl3
    have up5 : s'.heap.UpToSlots (h3.push { cls := .type "tuple", data := .seq [Value.ref c1, .ref c2, .ref c3].toArray }) := up3.trans (Heap.UpToSlots.of_keeps fun b o e => Heap.get?_push_of_some _ e)
    have LT : PySem.W.Looks (model X.prog X.w) (h3.push { cls := .type "tuple", data := .seq [Value.ref c1, .ref c2, .ref c3].toArray }) (typeOf (.ref a)) cls := fun A Q E s k q =>
      wpAny_typeOf_ref (k _ _ (Heap.get?_push_of_some _ he3)) (by rw [hz3.1]; exact q)
    have LM := PySem.W.exm_tup3 (M := model X.prog X.w) (J3.kIn.keeps fun b o e => Heap.get?_push_of_some _ e) LT (Heap.get?_push_size _ rfl) hany
    refine LM.here ?_
    refine codeAny_handlers_suite_as ?_
    refine HandSPX.lands_againZ fl5 fun h4 fl4 up4 => ?_
    have J4 : Inv X pins σ' H' { s' with heap := h4 } := J.landed nb fl4.1 ((up.trans up5).trans up4) os ag
    obtain ⟨oe4, vs4, he4, hz4, hd4⟩ := fl4.there
    have S4 := J4.suite he4 hd4 na nL nF
    refine store_ok (X := X.suite a ((a, oe4) :: (X.pn ++ pins))) (v := .ref a) S4 hN hi (.inl hln) rfl (fun s5 S5 => ?_) (.inr hln)
    refine wpAny_mono ((hsu a oe4 cls d (X.pn ++ pins) hz4 ⟨_, hd4⟩).run [] s5 _ H' _ S5 (hyes a na)) (fun fl s6 hsp => ?_) fun _ _ z => False.elim z
    cases fl with
    | next => obtain ⟨σ6, H6, S6, q6⟩ := hsp; exact gone_ok (S6.unsuite xok) hN hi hln fun s7 J7 => ⟨_, _, J7, q6⟩
    | brk => obtain ⟨σ6, H6, S6, q6⟩ := hsp; exact gone_ok (S6.unsuite xok) hN hi hln fun s7 J7 => ⟨_, _, J7, q6⟩
    | cont => obtain ⟨σ6, H6, S6, q6⟩ := hsp; exact gone_ok (S6.unsuite xok) hN hi hln fun s7 J7 => ⟨_, _, J7, q6⟩
    | ret u => obtain ⟨v6, σ6, H6, S6, r6, q6⟩ := hsp; exact gone_ok (S6.unsuite xok) hN hi hln fun s7 J7 => ⟨_, _, _, J7, r6, q6⟩
end Hv

namespace Hv
open PySem PySem.Spec PyProof.Rows L2
/-- a def's promise where the exception at p is handled and no repr is under way -/
structure FnP (P : Program) (w : World) (K : PySem.W.Frag) (mg : Str → Option Value) (base : Heap) (k : Nat) (f : Addr) (fd : FuncData) (ps : List Str) (sp : Addr × Obj → Sp) : Prop where
  len : ∀ p vs H Q E, sp p vs H Q E → vs.length = ps.length
  run : ∀ (A : Around) (outer : List Env) (s : Shared) (H : Hp) (us : List Value) (vs : List V) (Q : VK) (p : Addr × Obj), A.guards = some [] → L2H.RoomH k A → L2H.PinOk outer H s p → Env0 P w K mg base A outer s H →
    BindsTo s fd ⟨us, []⟩ (ps.zip us) → Vals vs us → sp p vs H Q E0 → codeAny (model P w) A (.call (.ref f) ⟨us, []⟩) (CR CX0 outer P w H s Q E0) s
/-- such a def by its body -/
theorem fnP_of {P : Program} {w : World} {K : PySem.W.Frag} {mg : Str → Option Value} {base : Heap} {k : Nat} {f : Addr} {fd : FuncData} {x qual : Str} {st : Stmt} {N ps : List Str} {sp : Addr × Obj → Sp} (F : Fun K x qual st f fd) (S : FnScope N ps (defScope st))
    (len : ∀ p vs H Q E, sp p vs H Q E → vs.length = ps.length)
    (body : ∀ (cdv : Value) (A : Around) (outer : List Env) (s : Shared) (H : Hp) (vs : List V) (Q : VK) (p : Addr × Obj), A.guards = some [] → L2H.RoomH k (A.deeper (envOfC qual (defScope st) s.heap.objs.size f cdv)) → sp p vs H Q E0 →
      ∃ t, PSs (L2H.cxH CX0 P w K mg base N qual (defScope st) f cdv A outer s H E0 p) (defBody st) t ∧ t { nx := fun _ H' => Q .non H', rt := Q } (start N vs) H) :
    FnP P w K mg base (k + 1) f fd ps sp := by
  obtain ⟨oc, od, kV, doc, pm, an, cdv, ct, osl, rfl, lk, hcd⟩ := F.ex
  refine ⟨len, fun A outer s H us vs Q p hG hr hp e0 hb r hsp => ?_⟩
  have X := e0.mod.kin.keeps (fun b o e => (e0.bs b o e).1)
  have free := e0.mod.nolimit.keeps (fun b o e => (e0.bs b o e).1)
  have par : ∀ y ∈ ps.zip us, (defScope st).names.lookup y.1 = some .local ∨ ((defScope st).names.lookup y.1 = some .cell ∧ ((cellsFrom (s.heap.objs.size + 1) (defScope st).names []).lookup y.1).isSome = true) := by
    rintro ⟨n, v⟩ hy
    exact (S.par n (List.of_mem_zip hy).1).imp id fun q => ⟨q, PySem.W.cellsFrom_some _ _ _ (Or.inl q)⟩
  apply codeAny_call_function hr.depth (X _ _ lk) rfl S.co S.gen rfl (PySem.W.codeRec_of X hcd)
  apply hb
  refine wpAny_newFunctionEnv_cells S.kind par ?_
  rintro env rfl s1 z
  refine ⟨free.keeps z.toInCall.keep, codeAny_func ?_⟩
  obtain ⟨t, ht, hq⟩ := body cdv A outer s H vs Q p hG (hr.deeper _) hsp
  have I := L2H.inv_startH (CX := CX0) (E := E0) S hp e0 (len _ _ _ _ _ hsp) r z
  apply wpAny_mono (ht.run [] s1 (start N vs) H _ I hq)
  · intro fl s' hs
    cases fl with
    | ret u => obtain ⟨v, σ', H', J, rv, q⟩ := hs; exact ⟨v, H', J.os, J.bare, J.base, J.hok, rv, q⟩
    | next => obtain ⟨σ', H', J, q⟩ := hs; exact ⟨V.non, H', J.os, J.bare, J.base, J.hok, rfl, q⟩
    | brk => obtain ⟨_, _, _, q⟩ := hs; exact q.elim
    | cont => obtain ⟨_, _, _, q⟩ := hs; exact q.elim
  · exact fun e s' hs => hs
section
variable {X : Cx} {k : Nat} {f : Addr} {fd : FuncData} {ps : List Str} {sp : Addr × Obj → Sp} {x : Str} {q pos : Pos} {e : Expr} {es : List Expr} {t : TA} {p : Addr × Obj}
theorem runP {pins : List (Addr × Obj)} {σ : L2.St} {H : Hp} {s : Shared} {Q : VK} {us : List Value} {vs : List V} (F : FnP X.prog X.w X.K X.mg X.base k f fd ps sp) (hG : X.A.guards = some []) (hr : L2H.RoomH k X.A) (hp : p ∈ X.pn) (hb : Binds X.K fd ps [])
    (I : Inv X pins σ H s) (r : Vals vs us) (h : sp p vs H Q E0) : wpAny (model X.prog X.w) X.A (call (.ref f) us) (EP X pins σ Q) X.xe s := by
  have hl : (us ++ []).length = ps.length := by
    rw [List.append_nil, ← r.length]
    exact F.len _ _ _ _ _ h
  have b := hb s us I.kIn hl
  rw [List.append_nil] at b
  obtain ⟨z1, z2, z3, z4, z5⟩ := I.pin p (List.mem_append_left _ hp)
  have pin : L2H.PinOk X.stack H s p := ⟨z1, z2, fun hm => (List.mem_cons.mp (I.stkSub p.1 hm)).elim z3 z4, z5⟩
  refine wpAny_call (codeAny_mono (F.run X.A X.stack s H us vs Q p hG hr pin I.env0 b r h) fun r s' hq => ?_)
  match r, hq with
  | .error e, hq => exact False.elim hq
  | .ok (.ret u), hq => exact I.after hq
  | .ok .next, hq => exact hq.elim
  | .ok .brk, hq => exact hq.elim
  | .ok .cont, hq => exact hq.elim
def tCallP (sp : Sp) (t : TA) : TE := fun σ H Q => t σ H fun vs H1 => sp vs H1 Q E0
/-- f(e, ..) where the exception at p is handled -/
theorem pe_callP (F : FnP X.prog X.w X.K X.mg X.base k f fd ps sp) (hG : X.A.guards = some []) (hr : L2H.RoomH k X.A) (hp : p ∈ X.pn) (hg : Gl X x) (hm : X.mg x = some (.ref f)) (hk : PySem.W.keepIn X.K (.ref f) = true) (hb : Binds X.K fd ps [])
    (ha : PA X (e :: es) t) (hdb : (x == ("__debug__" : Str)) = false := by decide) (he : starEach (e :: es) X.env = (false, eval e X.env) :: starEach es X.env := by rfl) (hpl : (backTo pos (starEach es X.env)).any (·.1) = false := by rfl) :
    PE X (.Call (.Name x q) (e :: es) [] pos) (tCallP (sp p) t) := by
  constructor
  intro pins s σ H Q I h
  apply wpAny_Call_Name_kw
  refine ld_glob I hg hm ?_ hdb
  refine PySem.W.callWith_K (h₀ := X.base) I.ok.mod.kin hk (thn (ha.run pos pins s σ H _ I h) ?_) he hpl
  rintro us s1 ⟨vs, H1, I1, r, z⟩
  exact ⟨I1.kIn, runP F hG hr hp hb I1 r z⟩
theorem pe_call0P (F : FnP X.prog X.w X.K X.mg X.base k f fd ps sp) (hG : X.A.guards = some []) (hr : L2H.RoomH k X.A) (hp : p ∈ X.pn) (hg : Gl X x) (hm : X.mg x = some (.ref f)) (hk : PySem.W.keepIn X.K (.ref f) = true) (hb : Binds X.K fd ps [])
    (hdb : (x == ("__debug__" : Str)) = false := by decide) : PE X (.Call (.Name x q) [] [] pos) (tCallP (sp p) tNil) := by
  constructor
  intro pins s σ H Q I h
  apply wpAny_Call_Name_kw
  refine ld_glob I hg hm ?_ hdb
  exact PySem.W.callWith_K0 I.kIn hk (runP (us := []) F hG hr hp hb I .nil h)
end
end Hv

namespace Hv
open PySem PySem.Spec PySem.Calls PyProof.Rows L2
section
variable {prog : Program} {w : World} {A : Around} {E : Value → Shared → Prop} {s : Shared} {K : PySem.W.Frag} {x D : Addr} {ox : Obj} {od : Option Obj}
theorem cls_there (c : ExcC K D) : ∃ c' d' cd sl, K.lookup D = some ⟨c', d', .cls cd, sl⟩ := by
  obtain ⟨cd, hc, _⟩ := PySem.W.any_some c.hd
  unfold PySem.W.clsIn at hc
  split at hc
  · rename_i c' d' cd' sl' ho
    exact ⟨c', d', cd', sl', ho⟩
  · cases hc
theorem exc_found (c : ExcC K D) : PySem.W.findObj K D od "__class__" = some (.bind (.builtin "getset_descriptor.__get__") (.builtin "object.__class__")) := by
  obtain ⟨cd, hc, _⟩ := PySem.W.any_some c.hd
  unfold PySem.W.findObj
  rw [hc, Option.bind_some, c.ha, Option.bind_some]
  simp [c.hn, c.ht]
/-- the class of an exception, whatever its dict -/
theorem exc_class {Q : Option Value → Shared → Prop} (c : ExcC K D) (X : K.In s.heap) (I : PySem.W.InstAt s.heap x ox D od) (h : Q (some (.ref D)) { s with toks := s.toks + 1 }) :
    wpAny (model prog w) A (getAttr? (.ref x) "__class__") Q E s := by
  obtain ⟨hp, g, d, t, os⟩ := s
  have l0 := I.type (M := model prog w)
  have l1 := PySem.W.looks_findIn (M := model prog w) X c.hg
  have l2 := PySem.W.looks_findIn (M := model prog w) X c.hk
  have l3 := PySem.W.looks_find (M := model prog w) X I (exc_found c)
  have sub : PySem.W.Looks (model prog w) hp (isInstance (.ref x) (.type "BaseException")) true := l0.andThen (PySem.W.looks_subIn X c.hs)
  have ne1 : (Value.builtin "BaseException.__getattribute__" == Value.builtin "object.__getattribute__") = false := by decide +kernel
  have ne2 : (onTheHeap (Value.ref D) && Value.builtin "BaseException.__getattribute__" == Value.builtin "object.__getattribute__") = false := by
    rw [ne1]
    rfl
  have ne3 : (false && onTheHeap (Value.builtin "BaseException.__getattribute__")) = false := rfl
  unfold getAttr? getAttrBy? getAttrBy
  refine wpAny_bind (wpAny_mkText (wpAny_bind (wpAny_attempt (wpAny_holding (wpAny_bind (l0.at (wpAny_bind (l1.at ?_))))))))
  show wpAny _ _ (if (onTheHeap (Value.ref D) && Value.builtin "BaseException.__getattribute__" == Value.builtin "object.__getattribute__") = true then _ else _) _ _ _
  rw [ne2, if_neg Bool.false_ne_true]
  unfold getAttrByItsOwn hookBefore
  apply wpAny_bind
  rw [if_pos (show onTheHeap (Value.ref D) = true from rfl)]
  apply l2.at
  refine wpAny_bind (wpAny_attempt (wpAny_holding ?_))
  unfold callGetattribute
  rw [ne3, if_neg Bool.false_ne_true]
  unfold boundAndCalled
  rw [PySem.F.excAttr_ValueError.ga.bind (.ref x)]
  apply wpAny_bind
  apply wpAny_pure
  show wpAny _ _ (call (.builtin "BaseException.__getattribute__") [.ref x, .str "__class__" t]) _ _ _
  refine wpAny_call (codeAny_call_builtin PySem.F.excAttr_ValueError.ga.plain PySem.F.entry_bexc_ga ?_)
  refine @PySem.W.check_slot (model prog w) _ _ ⟨hp, g, d, t + 1, os⟩ "BaseException.__getattribute__" "BaseException" "__getattribute__" (.ref x) [.str "__class__" t] [] _ (by decide +kernel) (by decide +kernel) sub (PySem.F.args_bexc_ga (.ref x) (.str "__class__" t)) ?_
  unfold Builtin.«object.__getattribute__»
  apply wpAny_bind
  refine wpAny_of_eq (a := ((Value.ref x : Value), [Value.str "__class__" t])) (by first | rfl | (simp only [slotArgs]; rfl)) ?_
  refine wpAny_bind (wpAny_pure (wpAny_bind (l0.at (wpAny_bind (l3.at ?_)))))
  show wpAny _ _ (holding [Value.builtin "object.__class__"] (call (.builtin "getset_descriptor.__get__") [.builtin "object.__class__", .ref x, .ref D]) >>= ret) _ _ _
  refine wpAny_bind (wpAny_holding (wpAny_call (PySem.W.class_get (s := ⟨hp, g, d, t + 1, os⟩) (ox := ox) (od := od) X I c.hm ?_)))
  apply wpAny_pure
  show wpAny _ _ (handedOut (.ref D)) _ _ _
  rw [PySem.W.handedOut_of (v := .ref D) rfl]
  first
    | exact wpAny_pure (wpAny_pure h)
    | exact wpAny_pure h
    | exact wpAny_pure (wpAny_bind (wpAny_pure (wpAny_pure h)))
theorem kitx_err (c : ExcC K D) : PySem.W.KitX K (.ref x) (.ref D) (fun h => ∃ od, PySem.W.InstAt h x ox D od) where
  ty := fun _ _ _ I => I.choose_spec.type
  it := fun _ _ X _ => by
    obtain ⟨c', d', cd, sl, ho⟩ := cls_there c
    intro A' Q' E' s' k q
    unfold isType loadHead
    exact wpAny_bind (wpAny_loadPart (k _ _ (X _ _ ho)) (wpAny_pure q))
  ne := fun h tp dd its n sl X htp => by
    obtain ⟨c', d', cd, sl2, ho⟩ := cls_there c
    rw [Bool.eq_false_iff]
    intro q
    cases Value.ref.inj (beq_iff_eq.mp q)
    have z := (X _ _ ho).symm.trans htp
    cases z
  ca := fun X I k => exc_class c X I.choose_spec k
end
section
variable {X : Cx} {p : Addr × Obj} {D : Addr} {d : Option Addr}
/-- the dict of an exception, if it has one -/
def XdAt (H : Hp) (d : Option Addr) (fs : List (Str × V)) : Prop := (d = none ∧ fs = []) ∨ ∃ dd, d = some dd ∧ H dd = some (.xd fs)
theorem inst_pin {pins : List (Addr × Obj)} {σ : L2.St} {H : Hp} {s : Shared} {fs : List (Str × V)} (I : Inv X pins σ H s) (hp : p ∈ X.pn) (hz : Zc (.ref D) d p.2) (hf : ∃ vs, p.2.data = .fields vs) (hd : XdAt H d fs) :
    ∃ od, PySem.W.InstAt s.heap p.1 p.2 D od ∧ ∀ n v, fs.lookup n = some v → ∃ o u, od = some o ∧ PySem.W.lookIn n o = some (some u) ∧ RelV v u := by
  obtain ⟨ha, _⟩ := I.pin p (List.mem_append_left _ hp)
  obtain ⟨vs, hv⟩ := hf
  have no : PySem.W.notCls p.2 = true := by
    unfold PySem.W.notCls
    rw [hv]
  rcases hd with ⟨rfl, rfl⟩ | ⟨dd, rfl, hx⟩
  · exact ⟨none, ⟨ha, hz.1, no, by rw [hz.2]; trivial⟩, fun n v e => by simp at e⟩
  · obtain ⟨mA, hns, hr⟩ := (show ObjOk X.prog X.w H s.heap dd (.xd fs) from I.hok dd _ hx)
    obtain ⟨od, ho, hl⟩ := lookIn_ns hns
    refine ⟨some od, ⟨ha, hz.1, no, by rw [hz.2]; exact ho⟩, fun n v e => ?_⟩
    obtain ⟨u, hu, ru⟩ := RelO.some_of (v := v) (o := mA n) (by rw [← e]; exact hr n)
    exact ⟨od, u, rfl, by rw [hl, hu], ru⟩
/-- isinstance(e, c), e the exception that is handled -/
@[irreducible] def rIsP (K : PySem.W.Frag) (a D : Addr) (d : Option Addr) : List V → Hp → VK → Prop := fun xs H Q =>
  ∃ (c : V) (cv : Value) (b : Bool) (fs : List (Str × V)), xs = [.ref a, c] ∧ (∀ u, RelV c u → u = cv) ∧ PySem.W.kitOne K (.ref D) cv = some b ∧ XdAt H d fs ∧ Q (.bl b) H
theorem rIsP_in {K : PySem.W.Frag} {a : Addr} {H : Hp} {c : V} {cv : Value} {b : Bool} {fs : List (Str × V)} {Q : VK} (h1 : ∀ u, RelV c u → u = cv) (h2 : PySem.W.kitOne K (.ref D) cv = some b) (h3 : XdAt H d fs) (q : Q (.bl b) H) : rIsP K a D d [.ref a, c] H Q := by
  unfold rIsP
  exact ⟨c, cv, b, fs, rfl, h1, h2, h3, q⟩
theorem call_isP (c : ExcC X.K D) (hp : p ∈ X.pn) (hz : Zc (.ref D) d p.2) (hf : ∃ vs, p.2.data = .fields vs) : CallR X (.builtin "isinstance") (rIsP X.K p.1 D d) := by
  intro pins s σ H xs us Q I r h
  unfold rIsP at h
  obtain ⟨cc, cv, b, fs, rfl, hcv, e, hd, q⟩ := h
  match us, r with
  | [_, _], .cons rx (.cons rt .nil) =>
    cases rx
    cases hcv _ rt
    obtain ⟨od, J, _⟩ := inst_pin I hp hz hf hd
    exact PySem.W.kia_one (kitx_err c) I.kIn ⟨od, J⟩ e (fun z => nomatch z) fun tk => ⟨.bl b, H, I.kept (t' := tk) fun _ _ z => z, rfl, q⟩
/-- e.n, e the exception that is handled -/
def tXp (a : Addr) (d : Option Addr) (n : Str) (te : TE) : TE := fun σ H Q => te σ H fun x H1 => x = .ref a ∧ ∃ (fs : List (Str × V)) (v : V), XdAt H1 d fs ∧ fs.lookup n = some v ∧ Q v H1
theorem pe_xp {e : Expr} {te : TE} {pos : Pos} {n : Str} (c : XfC X.K D) (hno : PySem.W.findIn X.K (.ref D) n = some none) (hp : p ∈ X.pn) (hz : Zc (.ref D) d p.2) (hf : ∃ vs, p.2.data = .fields vs) (he : PE X e te)
    (hb : attributeBase e n X.env (eval e X.env) = eval e X.env := by rfl) : PE X (.Attribute e n pos) (tXp p.1 d n te) := by
  constructor
  intro pins s σ H Q I h
  refine attr_of hb (thn (he.run pins s σ H _ I h) ?_)
  rintro u s1 ⟨x, H1, I1, rx, rfl, fs, v, hd, hl, q⟩
  cases (show u = Value.ref p.1 from rx)
  obtain ⟨od, J, look⟩ := inst_pin I1 hp hz hf hd
  obtain ⟨o, u, rfl, hu, ru⟩ := look n v hl
  exact HandSPX.exc_get I1.kIn J c.ga c.gg c.exC (PySem.W.findObj_own c.hdC hno rfl (by rw [hu])) (handed_of ru) ⟨v, H1, I1.tok _, ru, q⟩
end
end Hv

namespace Hv
open PySem PySem.Spec PyProof.Rows L2
/-- a reading by what it leads to -/
def clo (te : TE) : TE := fun σ H K => ∃ Q0 : VK, te σ H Q0 ∧ ∀ v H', Q0 v H' → K v H'
theorem pe_clo {X : Cx} {e : Expr} {te : TE} (he : PE X e te) : PE X e (clo te) := by
  constructor
  rintro pins s σ H K I ⟨Q0, h, m⟩
  refine wpAny_mono (he.run pins s σ H Q0 I h) ?_ fun _ _ z => z
  rintro u s' ⟨v, H', J, r, q⟩
  exact ⟨v, H', J, r, m v H' q⟩
/-! ### class X(..): def __init__(self, f): self.f = f -/
def eA (f : Str) (p1 p2 : Pos) : Arguments := { posonlyargs := [], args := [{ arg := "self", annotation := none, pos := p1 }, { arg := f, annotation := none, pos := p2 }], vararg := none, kwonlyargs := [], kw_defaults := [], kwarg := none, defaults := [] }
def eB (f : Str) (q1 q2 q3 q4 : Pos) : List Stmt := [.Assign [.Attribute (.Name "self" q1) f q2] (.Name f q3) q4]
def eS (f : Str) : Scope := { kind := .function, names := [(PySem.Str.ofString "self", .local), (f, .local)], isGenerator := false, isCoroutine := false, more := [] }
structure FldOk (f : Str) : Prop where
  sc : FnScope ["self", f] ["self", f] (eS f)
  lk : (eS f).names.lookup f = some .local
  d1 : (f == ("__debug__" : Str)) = false
  d2 : (f == ("__classdict__" : Str)) = false
  bd : ∀ (q : Str) (p1 p2 q1 q2 q3 q4 : Pos) (kV doc pm : Value) (an : Option Addr) (cd ct : Value) (us : List Value), us.length = 2 →
    bindArgs (PySem.W.fnOf "__init__" q (eA f p1 p2) (eB f q1 q2 q3 q4) (eS f) .none kV doc pm an cd ct) ⟨us, []⟩ = pure ((["self", f] : List Str).zip us)
theorem fld_given : FldOk "given" := ⟨⟨rfl, rfl, rfl, by decide +kernel, rfl, by decide +kernel, by decide +kernel⟩, rfl, by decide, by decide, fun _ _ _ _ _ _ _ _ _ _ _ _ _ us hl => match us, hl with | [_, _], _ => rfl⟩
theorem fld_index : FldOk "index" := ⟨⟨rfl, rfl, rfl, by decide +kernel, rfl, by decide +kernel, by decide +kernel⟩, rfl, by decide, by decide, fun _ _ _ _ _ _ _ _ _ _ _ _ _ us hl => match us, hl with | [_, _], _ => rfl⟩
theorem fld_kind : FldOk "kind" := ⟨⟨rfl, rfl, rfl, by decide +kernel, rfl, by decide +kernel, by decide +kernel⟩, rfl, by decide, by decide, fun _ _ _ _ _ _ _ _ _ _ _ _ _ us hl => match us, hl with | [_, _], _ => rfl⟩
/-- what the text has of such a class -/
structure ErrTxt (K : PySem.W.Frag) (mg : Str → Option Value) (x f : Str) (C : Addr) : Prop where
  mg : mg x = some (.ref C)
  fld : FldOk f
  oex : OexC K C
  isx : ExcC K C
  no : PySem.W.findIn K (.ref C) f = some none
  ini : ∃ (fI : Addr) (oc : Value) (od : Option Addr) (kV doc pm : Value) (an : Option Addr) (cd ct : Value) (sl : Array (Option Value)) (q : Str) (p1 p2 q1 q2 q3 q4 : Pos),
    PySem.W.findIn K (.ref C) "__init__" = some (some (.ref fI)) ∧ PySem.W.typeIn K (.ref fI) = some (.type "function") ∧
    K.lookup fI = some ⟨oc, od, .func (PySem.W.fnOf "__init__" q (eA f p1 p2) (eB f q1 q2 q3 q4) (eS f) .none kV doc pm an cd ct), sl⟩ ∧ PySem.W.codeIn K cd q = true
theorem ErrTxt.xf {K : PySem.W.Frag} {mg : Str → Option Value} {x f : Str} {C : Addr} (T : ErrTxt K mg x f C) : XfC K C := ⟨T.isx.hg, T.isx.hk, T.isx.hs, T.isx.hd⟩
def sp_einit (f : Str) (C : Addr) : Sp := fun vs H Q _ => ∃ (a : Addr) (v : V), vs = [.ref a, v] ∧ H a = some (exo a C none) ∧ ∀ dx, H dx = none → dx ≠ a → Q .non (upd (upd H dx (exd dx [(f, v)])) a (exo a C (some dx)))
theorem einit_ok {P : Program} {w : World} {K : PySem.W.Frag} {mg : Str → Option Value} {base : Heap} {x f : Str} {C : Addr} (T : ErrTxt K mg x f C) :
    ∃ fI fd, PySem.W.findIn K (.ref C) "__init__" = some (some (.ref fI)) ∧ PySem.W.typeIn K (.ref fI) = some (.type "function") ∧ FnOk P w K mg base CX0 1 fI fd ["self", f] (sp_einit f C) ∧ Binds K fd ["self", f] [] := by
  obtain ⟨fI, oc, od, kV, doc, pm, an, cd, ct, sl, q, p1, p2, q1, q2, q3, q4, h1, h2, h3, h4⟩ := T.ini
  refine ⟨fI, _, h1, h2, fn_of h3 h4 T.fld.sc (fun vs H Q E h => ?_) (fun A outer s H vs Q E hr h => ?_), .all fun us hl => T.fld.bd _ _ _ _ _ _ _ _ _ _ _ _ _ us hl⟩
  · obtain ⟨a, v, rfl, _⟩ := h
    rfl
  · obtain ⟨a, v, rfl, ha, ret⟩ := h
    refine ⟨_, pss_one (ps_ost (pe_var (i := 0) rfl (.inl rfl)) (pe_var (i := 1) rfl (.inl T.fld.lk) T.fld.d1 T.fld.d2)), ?_⟩
    exact ⟨v, rfl, .ref a, rfl, a, C, rfl, T.oex, T.no, .inl ⟨ha, fun dx h1 h2 => ret dx h1 h2⟩⟩
/-- an error is made -/
def tErr (C : Addr) (f : Str) (te : TE) : L2.St → Hp → XK → Prop := fun σ H Q => te σ H fun v H1 => ∀ d, H1 d = none → Q (.ref C) (some d) (upd H1 d (.xd [(f, v)]))
theorem pmk_err {X : Cx} {x f : Str} {C : Addr} {e : Expr} {te : TE} {p pos : Pos} (T : ErrTxt X.K X.mg x f C) (hr : Room 2 X.A) (hg : Gl X x) (he : PE X e te) (hdb : (x == ("__debug__" : Str)) = false := by decide)
    (hs : starEach [e] X.env = (false, eval e X.env) :: starEach [] X.env := by rfl) (hpl : (backTo pos (starEach [] X.env)).any (·.1) = false := by rfl) : PMk X (.Call (.Name x p) [e] [] pos) (tErr C f te) := by
  intro pins s σ H Q I h
  obtain ⟨fI, fd, h1, h2, F, hb⟩ := einit_ok (P := X.prog) (w := X.w) (base := X.base) T
  refine pmk_oex T.oex h1 h2 F hr hb .nil (fun _ _ _ _ _ _ _ z => False.elim z) hg T.mg (pa_cons (pe_clo he) pa_nil hs) hdb hs hpl pins s σ H Q I ?_
  refine ⟨_, h, fun v H1 q => ⟨by show 1 ≤ 1000; decide, fun a na => ⟨a, v, rfl, upd_same, fun dx n1 n2 => ⟨rfl, dx, [(f, v)], upd_same, by rw [upd_ne n2, upd_same], ?_, ?_⟩⟩⟩⟩
  · rw [upd_ne n2] at n1
    exact n1
  · rw [upd_ne n2] at n1
    have e : upd (del (upd (upd (upd H1 a (exo a C none)) dx (exd dx [(f, v)])) a (exo a C (some dx))) a) dx (.xd [(f, v)]) = upd H1 dx (.xd [(f, v)]) := by
      funext b
      by_cases hb : b = dx
      · rw [hb, upd_same, upd_same]
      · rw [upd_ne hb, upd_ne hb]
        by_cases ha : b = a
        · rw [ha, del_same, na]
        · rw [del_ne ha, upd_ne ha, upd_ne hb, upd_ne ha]
    rw [e]
    exact q dx n1
/-- raise X(e) -/
theorem ps_err {X : Cx} {W : WX} {x f : Str} {C : Addr} {e : Expr} {te : TE} {p pos pos' : Pos} (T : ErrTxt X.K X.mg x f C) (hr : Room 2 X.A) (hc : X.calm = true) (tk : Takes X W) (hg : Gl X x) (he : PE X e te) (hdb : (x == ("__debug__" : Str)) = false := by decide)
    (hs : starEach [e] X.env = (false, eval e X.env) :: starEach [] X.env := by rfl) (hpl : (backTo pos (starEach [] X.env)).any (·.1) = false := by rfl) :
    PS X (.Raise (some (.Call (.Name x p) [e] [] pos)) none pos') (fun _ σ H => tErr C f te σ H fun cls d H' => W cls d σ H') := ps_raise hc tk (pmk_err T hr hg he hdb hs hpl)
end Hv

namespace Hv
open PySem L2
/-- data of depth m and bulk n at most, that can be compared and shown -/
structure Fit (d : PyData) (m n : Nat) : Prop where
  lay : d.canLay0 = true
  sh : d.showable = true
  dp : d.depth ≤ m
  lv : d.leavesShort 2000 = true
  bk : d.bulk ≤ n
structure FitAll (ds : List PyData) (m n : Nat) : Prop where
  lay : PyData.canLayAll0 ds = true
  sh : PyData.showableAll ds = true
  dp : PyData.depthAll ds ≤ m
  lv : PyData.leavesShortAll 2000 ds = true
  bk : PyData.bulkAll ds ≤ n
theorem Fit.none {m n : Nat} : Fit .none m n := ⟨rfl, rfl, Nat.zero_le _, rfl, Nat.zero_le _⟩
theorem Fit.bool {b : Bool} {m n : Nat} : Fit (.bool b) m n := ⟨rfl, rfl, Nat.zero_le _, rfl, Nat.zero_le _⟩
theorem Fit.int {i : Int} {m n : Nat} (h : i.natAbs.log2 < 1920) : Fit (.int i) m n := by
  refine ⟨rfl, decide_eq_true h, Nat.zero_le _, decide_eq_true ?_, Nat.zero_le _⟩
  have := PyProof.Rows.int_text_len_1921 h
  show (PySem.Str.ofString (toString i)).length ≤ 2000
  omega
theorem small_log {i : Int} (h0 : -1000000 ≤ i) (h1 : i ≤ 1000000) : i.natAbs.log2 < 1920 := by
  by_cases h : i.natAbs = 0
  · rw [h]
    decide
  · refine Nat.lt_of_lt_of_le ((Nat.log2_lt h).mpr (show i.natAbs < 2 ^ 20 by omega)) (by decide)
theorem Fit.str {z : Str} {m n : Nat} (h : PyData.strOk z = true) (hl : z.length ≤ n) : Fit (.str z) m n := by
  refine ⟨h, rfl, Nat.zero_le _, ?_, hl⟩
  show (z.cps.toList.all fun c => decide (c < 16 ^ 8)) = true
  rw [List.all_eq_true]
  intro c hc
  unfold PyData.strOk at h
  rw [Array.all_eq_true'] at h
  have := of_decide_eq_true (h c (by simpa using hc))
  exact decide_eq_true (by omega)
theorem FitAll.nil {m n : Nat} : FitAll [] m n := ⟨rfl, rfl, Nat.zero_le _, rfl, Nat.zero_le _⟩
theorem FitAll.cons {d : PyData} {ds : List PyData} {m a b : Nat} (h : Fit d m a) (t : FitAll ds m b) : FitAll (d :: ds) m (a + 1 + b) := by
  have h1 := h.dp
  have h2 := t.dp
  have h3 := h.bk
  have h4 := t.bk
  refine ⟨?_, ?_, ?_, ?_, ?_⟩
  · show (PyData.canLay0 d && PyData.canLayAll0 ds) = true
    rw [h.lay, t.lay]; rfl
  · show (PyData.showable d && PyData.showableAll ds) = true
    rw [h.sh, t.sh]; rfl
  · show max (PyData.depth d) (PyData.depthAll ds) ≤ m
    omega
  · show (PyData.leavesShort 2000 d && PyData.leavesShortAll 2000 ds) = true
    rw [h.lv, t.lv]; rfl
  · show PyData.bulk d + 1 + PyData.bulkAll ds ≤ a + 1 + b
    omega
theorem Fit.list {ds : List PyData} {m n : Nat} (h : FitAll ds m n) : Fit (.list ds) (m + 1) n := by
  refine ⟨h.lay, h.sh, ?_, h.lv, h.bk⟩
  have := h.dp
  show PyData.depthAll ds + 1 ≤ m + 1
  omega
theorem Fit.tuple {ds : List PyData} {m n : Nat} (h : FitAll ds m n) : Fit (.tuple ds) (m + 1) n := by
  refine ⟨h.lay, h.sh, ?_, h.lv, h.bk⟩
  have := h.dp
  show PyData.depthAll ds + 1 ≤ m + 1
  omega
theorem Fit.mono {d : PyData} {m n m' n' : Nat} (h : Fit d m n) (a : m ≤ m') (b : n ≤ n') : Fit d m' n' := ⟨h.lay, h.sh, Nat.le_trans h.dp a, h.lv, Nat.le_trans h.bk b⟩
theorem Fit.shaped {d : PyData} {m n : Nat} (h : Fit d m n) (hm : m ≤ 60) : SeqAt.shaped d = true := by
  unfold SeqAt.shaped
  rw [h.lay, decide_eq_true (show d.depth ≤ 64 by have := h.dp; omega)]
  rfl
theorem Fit.noDict {d : PyData} {m n : Nat} (h : Fit d m n) : d.hasDict = false := PyData.hasDict_of_canLay d h.lay
theorem Fit.line {d : PyData} {m n : Nat} (h : Fit d m n) (hn : n ≤ 5000) : d.shown.length ≤ sizeLine := by
  have h1 := PyData.shown_le_bulk 2000 (by decide) d h.lv
  have h2 : 2002 * d.bulk ≤ 2002 * 5000 := Nat.mul_le_mul_left _ (Nat.le_trans h.bk hn)
  have h3 : 2002 * 5000 + 2000 ≤ sizeLine := by decide
  omega
theorem Fit.eqv {d : PyData} {m n : Nat} (h : Fit d m n) : PyData.eqv d d = true := SeqAt.eqv_refl d h.lay
/-- what repr asks -/
theorem Fit.repr {d : PyData} {m n : Nat} {K : PySem.W.Frag} {H : Hp} {v : V} {Q : VK} (h : Fit d m n) (hv : Dp K H v d) (hm : m ≤ 60) (hn : n ≤ 5000) (q : Q (.str d.shown) H) : rRepr K [v] H Q :=
  rd_repr hv h.sh h.noDict (Nat.le_trans h.dp hm) (h.line hn) q
end Hv

namespace Hv
open PySem L2
theorem strOk_iff {z : Str} : PyData.strOk z = true ↔ ∀ c ∈ z.cps.toList, c < 0x110000 := by
  unfold PyData.strOk
  rw [Array.all_eq_true']
  constructor
  · intro h c hc
    exact of_decide_eq_true (h c (by simpa using hc))
  · intro h c hc
    exact decide_eq_true (h c (by simpa using hc))
theorem strOk_app {a b : Str} (ha : PyData.strOk a = true) (hb : PyData.strOk b = true) : PyData.strOk (a ++ b) = true := by
  rw [strOk_iff] at *
  intro c hc
  have e : (a ++ b).cps.toList = a.cps.toList ++ b.cps.toList := by
    show (a.cps ++ b.cps).toList = _
    simp
  rw [e] at hc
  rcases List.mem_append.mp hc with q | q
  · exact ha c q
  · exact hb c q
theorem char_small (c : Char) : c.toNat < 0x110000 := by
  have := c.valid
  rcases this with h | ⟨_, h⟩
  · exact Nat.lt_trans h (by decide)
  · exact h
theorem strOk_of (s : String) : PyData.strOk (Str.ofString s) = true := by
  rw [strOk_iff, Str.ofString_eq_toList]
  intro c hc
  simp only [List.mem_map] at hc
  obtain ⟨d, _, rfl⟩ := hc
  exact char_small d
theorem strOk_join {sep : Str} (hs : PyData.strOk sep = true) : ∀ {ts : List Str}, (∀ t ∈ ts, PyData.strOk t = true) → PyData.strOk (Str.join sep ts) = true
  | [], _ => show PyData.strOk Str.empty = true by decide +kernel
  | [x], h => h x (by simp)
  | x :: y :: r, h => by
    show PyData.strOk (x ++ sep ++ Str.join sep (y :: r)) = true
    exact strOk_app (strOk_app (h x (by simp)) hs) (strOk_join hs fun t ht => h t (by simp at ht ⊢; exact .inr ht))
theorem strOk_from : ∀ (ts : List Str) (k : Nat) (acc : Str), PyData.strOk acc = true → (∀ t ∈ ts, PyData.strOk t = true) → PyData.strOk (textFrom k acc ts) = true
  | [], _, _, h, _ => h
  | t :: ts, k, acc, h, ht => by
    show PyData.strOk (textFrom (k + 1) (acc ++ (if k > 0 then ", " else "" : String) ++ t) ts) = true
    exact strOk_from ts (k + 1) _ (strOk_app (strOk_app h (strOk_of _)) (ht t (by simp))) fun u hu => ht u (by simp [hu])
theorem hex_small {c d : Nat} (h : d ∈ (Nat.toDigits 16 c).map Char.toNat) : d < 0x110000 := by
  simp only [List.mem_map] at h
  obtain ⟨x, _, rfl⟩ := h
  exact char_small x
theorem reprChar_small {q c d : Nat} (hq : q < 0x110000) (hc : c < 0x110000) (h : d ∈ Builtin.Str.reprChar q c) : d < 0x110000 := by
  unfold Builtin.Str.reprChar at h
  have hx : ∀ w d, d ∈ List.replicate w 48 ++ (Nat.toDigits 16 c).map Char.toNat → d < 0x110000 := fun w d h => by
    rcases List.mem_append.mp h with h | h
    · rw [List.eq_of_mem_replicate h]; decide
    · exact hex_small h
  dsimp only at h
  repeat' split at h
  all_goals first
    | (simp only [List.mem_cons, List.not_mem_nil, or_false] at h; omega)
    | (simp only [List.cons_append, List.nil_append, List.mem_cons] at h
       rcases h with h | h | h
       · omega
       · omega
       · exact hx _ _ h)
theorem quote_small (x : Str) : reprQuote x < 0x110000 := by
  unfold reprQuote
  split <;> decide
theorem strOk_repr {x : Str} (h : PyData.strOk x = true) : PyData.strOk (reprText x) = true := by
  rw [strOk_iff] at *
  have go : ∀ (l : List Nat) (acc : Array Nat), (∀ c ∈ l, c < 0x110000) → (∀ c ∈ acc.toList, c < 0x110000) → ∀ c ∈ (l.foldl (fun out c => out ++ (Builtin.Str.reprChar (reprQuote x) c).toArray) acc).toList, c < 0x110000 := by
    intro l
    induction l with
    | nil => intro acc _ h; exact h
    | cons d r ih =>
      intro acc h1 h2
      rw [List.foldl_cons]
      refine ih _ (fun c hc => h1 c (by simp [hc])) fun c hc => ?_
      rw [Array.toList_append] at hc
      rcases List.mem_append.mp hc with q | q
      · exact h2 c q
      · exact reprChar_small (quote_small x) (h1 d (by simp)) (by simpa using q)
  intro c hc
  unfold reprText at hc
  rw [Array.toList_push] at hc
  rcases List.mem_append.mp hc with q | q
  · rw [← Array.foldl_toList] at q
    exact go _ _ h (fun c hc => by simp at hc; rw [hc]; exact quote_small x) c q
  · simp at q
    rw [q]
    exact quote_small x
mutual
theorem shown_ok : ∀ d : PyData, d.canLay0 = true → PyData.strOk d.shown = true
  | .none, _ => by simp only [PyData.shown]; exact strOk_of _
  | .bool b, _ => by cases b <;> decide +kernel
  | .int i, _ => by simp only [PyData.shown]; exact strOk_of _
  | .str x, h => by simp only [PyData.shown]; exact strOk_repr (by simpa only [PyData.canLay0] using h)
  | .list xs, h => by
    simp only [PyData.shown]
    exact strOk_app (strOk_from _ _ _ (strOk_of _) (shown_okAll xs (by simpa only [PyData.canLay0] using h))) (strOk_of _)
  | .tuple xs, h => by
    simp only [PyData.shown]
    exact strOk_app (strOk_app (strOk_of _) (strOk_join (strOk_of _) (shown_okAll xs (by simpa only [PyData.canLay0] using h)))) (strOk_of _)
  | .dict _, h => by simp only [PyData.canLay0] at h; exact nomatch h
theorem shown_okAll : ∀ ds : List PyData, PyData.canLayAll0 ds = true → ∀ t ∈ PyData.shownAll ds, PyData.strOk t = true
  | [], _ => by intro t ht; simp [PyData.shownAll] at ht
  | x :: xs, h => by
    have h' : x.canLay0 = true ∧ PyData.canLayAll0 xs = true := by simpa only [PyData.canLayAll0, Bool.and_eq_true] using h
    intro t ht
    simp only [PyData.shownAll, List.mem_cons] at ht
    rcases ht with rfl | ht
    · exact shown_ok x h'.1
    · exact shown_okAll xs h'.2 t ht
end
end Hv

namespace Hv
open PySem L2
/-- an if whose test is false -/
theorem join_no {tt : TT} {t v : TS} {D : Ends} {σ : L2.St} {H : Hp} (S : Hp → Prop) (h : ∀ Q' : Bool → Hp → Prop, (∀ b H', b = false → S H' → Q' b H') → tt σ H Q') (k : ∀ H', S H' → v D σ H') : tSeq (tIfS tt t tNext) v D σ H :=
  h (fun b H' => if b = true then t { D with nx := v D } σ H' else tNext { D with nx := v D } σ H') (by
    rintro _ H' rfl hs
    exact k H' hs)
/-- a promise that is not looked into -/
@[irreducible] def lk (sp : Sp) : Sp := sp
theorem lk_eq (sp : Sp) : lk sp = sp := by
  unfold lk
  rfl
theorem lk_in {sp : Sp} {vs : List V} {H : Hp} {Q : VK} {E : XK} (h : sp vs H Q E) : lk sp vs H Q E := by
  rw [lk_eq]
  exact h
theorem fn_lk {P : Program} {w : World} {K : PySem.W.Frag} {mg : Str → Option Value} {base : Heap} {CX : CXT} {k : Nat} {f : Addr} {fd : FuncData} {ps : List Str} {sp : Sp} (F : FnOk P w K mg base CX k f fd ps sp) : FnOk P w K mg base CX k f fd ps (lk sp) := by
  rw [lk_eq]
  exact F
end Hv

namespace Hv
open PySem PySem.Spec PyProof.Rows L2
mutual
/-- data, empty dicts among it; no list of it stands at b -/
inductive Dq (K : PySem.W.Frag) (b : Addr) (H : Hp) : V → PyData → Prop
  | non : Dq K b H .non .none
  | bl (k : Bool) : Dq K b H (.bl k) (.bool k)
  | int (i : Int) : Dq K b H (.int i) (.int i)
  | str (z : Str) : Dq K b H (.str z) (.str z)
  | lst {a : Addr} {xs : List V} {ds : List PyData} (h : H a = some (.lst xs)) (n : a ≠ b) (t : DqAll K b H xs ds) : Dq K b H (.ref a) (.list ds)
  | tup {a : Addr} {xs : List V} {ds : List PyData} (h : H a = some (.tup xs)) (t : DqAll K b H xs ds) : Dq K b H (.ref a) (.tuple ds)
  | emp {a : Addr} (h : H a = some (.dK [])) : Dq K b H (.ref a) (.dict [])
inductive DqAll (K : PySem.W.Frag) (b : Addr) (H : Hp) : List V → List PyData → Prop
  | nil : DqAll K b H [] []
  | cons {v : V} {vs : List V} {d : PyData} {ds : List PyData} (h : Dq K b H v d) (t : DqAll K b H vs ds) : DqAll K b H (v :: vs) (d :: ds)
end
mutual
theorem Dq.same {K : PySem.W.Frag} {b : Addr} {H H' : Hp} (e : Same H H') : ∀ {d : PyData} {v : V}, Dq K b H v d → Dq K b H' v d
  | _, _, .non => .non
  | _, _, .bl k => .bl k
  | _, _, .int i => .int i
  | _, _, .str z => .str z
  | _, _, .lst h n t => .lst (e _ _ h) n (DqAll.same e t)
  | _, _, .tup h t => .tup (e _ _ h) (DqAll.same e t)
  | _, _, .emp h => .emp (e _ _ h)
theorem DqAll.same {K : PySem.W.Frag} {b : Addr} {H H' : Hp} (e : Same H H') : ∀ {ds : List PyData} {vs : List V}, DqAll K b H vs ds → DqAll K b H' vs ds
  | _, _, .nil => .nil
  | _, _, .cons h t => .cons (Dq.same e h) (DqAll.same e t)
end
mutual
theorem Dq.but {K : PySem.W.Frag} {b : Addr} {n : Nat} {H H' : Hp} (hb : Bag H b n) (e : But b H H') : ∀ {d : PyData} {v : V}, Dq K b H v d → Dq K b H' v d
  | _, _, .non => .non
  | _, _, .bl k => .bl k
  | _, _, .int i => .int i
  | _, _, .str z => .str z
  | _, _, .lst h n t => .lst (e _ _ n h) n (DqAll.but hb e t)
  | _, _, .tup h t => .tup (e _ _ (by obtain ⟨_, _, _, hb, _⟩ := hb; exact ne_of h hb (by intro q; cases q)) h) (DqAll.but hb e t)
  | _, _, .emp h => .emp (e _ _ (by obtain ⟨_, _, _, hb, _⟩ := hb; exact ne_of h hb (by intro q; cases q)) h)
theorem DqAll.but {K : PySem.W.Frag} {b : Addr} {n : Nat} {H H' : Hp} (hb : Bag H b n) (e : But b H H') : ∀ {ds : List PyData} {vs : List V}, DqAll K b H vs ds → DqAll K b H' vs ds
  | _, _, .nil => .nil
  | _, _, .cons h t => .cons (Dq.but hb e h) (DqAll.but hb e t)
end
section
variable {X : Cx} {pins : List (Addr × Obj)} {σ : L2.St} {H : Hp} {s : Shared} {b : Addr}
theorem emp_reads {a : Addr} (I : Inv X pins σ H s) (h : H a = some (.dK [])) : ∃ o es n, s.heap.get? a = some o ∧ o.cls = .type "dict" ∧ o.data = .dict es n ∧ es.toList = [] ∧ (a == sysModules) = false := by
  obtain ⟨_, hsm, vs, kv, o, es, ep, ho, hx, hd, _, hp, _⟩ := dk_of I.hok h
  cases kv
  refine ⟨o, es, ep, ho, hx.1, hd, ?_, hsm⟩
  cases q : es.toList with
  | nil => rfl
  | cons a b => rw [q] at hp; cases hp
mutual
theorem Dq.reads (I : Inv X pins σ H s) : ∀ (d : PyData) (v : V) (u : Value), Dq X.K b H v d → RelV v u → ∃ as, Reads s.heap u d as
  | .none, _, _, .non, r => by
    cases r
    exact ⟨_, .none⟩
  | .bool k, _, _, .bl _, r => by
    cases r
    exact ⟨_, .bool k⟩
  | .int i, _, _, .int _, r => by
    obtain ⟨t, rfl⟩ := r
    exact ⟨_, .int i t⟩
  | .str x, _, _, .str _, r => by
    obtain ⟨t, rfl⟩ := r
    exact ⟨_, .str x t⟩
  | .list ds, _, _, .lst h _ t, r => by
    cases r
    obtain ⟨its, rv, ⟨o, n, ho, hc, _, hd⟩, _⟩ := I.list (SqL.of h)
    obtain ⟨as, hr⟩ := DqAll.reads I ds _ its t rv
    exact ⟨_, .list ho hc hd hr⟩
  | .tuple ds, _, _, .tup h t, r => by
    cases r
    obtain ⟨its, rv, ⟨o, ho, hc, n, hd⟩, _⟩ := I.tuple (SqT.of h)
    obtain ⟨as, hr⟩ := DqAll.reads I ds _ its t rv
    exact ⟨_, .tuple ho hc hd hr⟩
  | .dict [], _, _, .emp h, r => by
    cases r
    obtain ⟨o, es, n, ho, hc, hd, he, _⟩ := emp_reads I h
    exact ⟨_, .dict (kvs := []) ho hc hd (by rw [he]; exact .nil) (by rw [he]; exact .nil)⟩
theorem DqAll.reads (I : Inv X pins σ H s) : ∀ (ds : List PyData) (vs : List V) (us : List Value), DqAll X.K b H vs ds → Vals vs us → ∃ as, ReadsAll s.heap us ds as
  | [], _, _, .nil, r => by
    cases r
    exact ⟨_, .nil⟩
  | d :: ds, _, _, .cons h t, r => by
    cases r with
    | cons r1 r2 =>
      obtain ⟨as, q1⟩ := Dq.reads I d _ _ h r1
      obtain ⟨bs, q2⟩ := DqAll.reads I ds _ _ t r2
      exact ⟨_, .cons q1 q2⟩
end
abbrev RK (s : Shared) (X : Cx) (bs : List Addr) (n : Nat) (u : Value) (t : Str) : Prop := ReprK X.prog X.w bs s.heap n u t
mutual
theorem Dq.shows (I : Inv X pins σ H s) : ∀ (d : PyData) (v : V) (u : Value), Dq X.K b H v d → RelV v u → d.showable = true → d.shown.length ≤ sizeLine → ∃ bs, ReadAtMost s.heap d.depth bs ∧ RK s X bs d.depth u d.shown
  | .none, _, _, .non, r, hs, hz => by
    cases r
    exact ReprK.of_reads .none hs (fun q => by cases q) hz
  | .bool k, _, _, .bl _, r, hs, hz => by
    cases r
    exact ReprK.of_reads (.bool k) hs (fun q => by cases q) hz
  | .int i, _, _, .int _, r, hs, hz => by
    obtain ⟨t, rfl⟩ := r
    exact ReprK.of_reads (.int i t) hs (fun q => by cases q) hz
  | .str x, _, _, .str _, r, hs, hz => by
    obtain ⟨t, rfl⟩ := r
    exact ReprK.of_reads (.str x t) hs (fun q => by cases q) hz
  | .list ds, _, _, .lst (a := a) h nb t, r, hs, hz => by
    cases r
    have hz' : (listText (PyData.shownAll ds)).length ≤ sizeLine := by
      simpa only [PyData.shown] using hz
    obtain ⟨its, rv, ⟨o, n, ho, hc, _, hd⟩, _⟩ := I.list (SqL.of h)
    obtain ⟨bs, hb, hk⟩ := DqAll.shows I ds _ its t rv (by simpa [PyData.showable] using hs) fun z hm => Nat.le_trans (listText_mem_le hm) hz'
    obtain ⟨as, rd⟩ := Dq.reads (b := b) I (.list ds) (.ref a) (.ref a) (.lst h nb t) rfl
    have dep : PyData.depthAll ds < (PyData.list ds).depth := by
      simp only [PyData.depth]
      omega
    have hna := not_mem_of_deeper rd dep hb
    refine ⟨a :: bs, ReadAtMost.cons rd (by simp only [PyData.depth]; omega) hb, ?_⟩
    show RK s X (a :: bs) (PyData.depth (.list ds)) (.ref a) (PyData.shown (.list ds))
    simp only [PyData.depth, PyData.shown]
    cases its with
    | nil =>
      cases rv
      cases t
      simp only [PyData.shownAll, listText_nil]
      exact ReprK.listEmpty ho hc hd
    | cons x l => exact ReprK.list ho hc hd hna (by simpa using hk.length_eq) fun i y e => hk.item i y (by simpa using e)
  | .tuple ds, _, _, .tup (a := a) h t, r, hs, hz => by
    cases r
    have hz' : (tupleText (PyData.shownAll ds)).length ≤ sizeLine := by
      simpa only [PyData.shown] using hz
    obtain ⟨its, rv, ⟨o, ho, hc, n, hd⟩, _⟩ := I.tuple (SqT.of h)
    obtain ⟨bs, hb, hk⟩ := DqAll.shows I ds _ its t rv (by simpa [PyData.showable] using hs) fun z hm => Nat.le_trans (tupleText_mem_le hm) hz'
    obtain ⟨as, rd⟩ := Dq.reads (b := b) I (.tuple ds) (.ref a) (.ref a) (.tup h t) rfl
    have dep : PyData.depthAll ds < (PyData.tuple ds).depth := by
      simp only [PyData.depth]
      omega
    have hna := not_mem_of_deeper rd dep hb
    refine ⟨a :: bs, ReadAtMost.cons rd (by simp only [PyData.depth]; omega) hb, ?_⟩
    show RK s X (a :: bs) (PyData.depth (.tuple ds)) (.ref a) (PyData.shown (.tuple ds))
    simp only [PyData.depth, PyData.shown]
    exact ReprK.tuple ho hc hd hna hk
  | .dict [], _, _, .emp (a := a) h, r, hs, hz => by
    cases r
    obtain ⟨o, es, n, ho, hc, hd, he, hsm⟩ := emp_reads I h
    refine ReprK.of_reads (as := [a] ++ []) (.dict (kvs := []) (as := []) (bs := []) ho hc hd (by rw [he]; exact .nil) (by rw [he]; exact .nil)) hs (fun _ hm => ?_) hz
    simp at hm
    rw [hm] at hsm
    simp at hsm
theorem DqAll.shows (I : Inv X pins σ H s) : ∀ (ds : List PyData) (vs : List V) (us : List Value), DqAll X.K b H vs ds → Vals vs us → PyData.showableAll ds = true → (∀ t ∈ PyData.shownAll ds, t.length ≤ sizeLine) →
    ∃ bs, ReadAtMost s.heap (PyData.depthAll ds) bs ∧ ReprAllK X.prog X.w bs s.heap (PyData.depthAll ds) us (PyData.shownAll ds)
  | [], _, _, .nil, r, _, _ => by
    cases r
    exact ⟨[], (fun _ h => nomatch h), .nil⟩
  | d :: ds, _, _, .cons h t, r, hs, hz => by
    cases r with
    | cons r1 r2 =>
      simp only [PyData.showableAll, Bool.and_eq_true] at hs
      simp only [PyData.shownAll, List.mem_cons] at hz
      obtain ⟨b1, m1, k1⟩ := Dq.shows I d _ _ h r1 hs.1 (hz _ (.inl rfl))
      obtain ⟨b2, m2, k2⟩ := DqAll.shows I ds _ _ t r2 hs.2 fun t ht => hz t (.inr ht)
      refine ⟨b1 ++ b2, fun a ha => ?_, ?_⟩
      · simp only [PyData.depthAll]
        rcases List.mem_append.mp ha with q | q
        · exact (m1 a q).imp fun d' ⟨as', r', hd'⟩ => ⟨as', r', Nat.le_trans hd' (Nat.le_max_left _ _)⟩
        · exact (m2 a q).imp fun d' ⟨as', r', hd'⟩ => ⟨as', r', Nat.le_trans hd' (Nat.le_max_right _ _)⟩
      · simp only [PyData.depthAll, PyData.shownAll]
        exact .cons ((k1.more fun a ha => List.mem_append_left _ ha).level_le (Nat.le_max_left _ _)) (k2.more_le (fun a ha => List.mem_append_right _ ha) (Nat.le_max_right _ _))
end
theorem Dq.showsBy {a : Addr} {d : PyData} (I : Inv X pins σ H s) (h : Dq X.K b H (.ref a) d) (hs : d.showable = true) (hz : d.shown.length ≤ sizeLine) : ∃ T idr, ShowsBy X.prog X.w s.heap a d T idr := by
  cases h with
  | @lst _ xs ds h nb t =>
    have hz' : (listText (PyData.shownAll ds)).length ≤ sizeLine := by
      simpa only [PyData.shown] using hz
    obtain ⟨its, rv, ⟨o, n, ho, hc, _, hd⟩, _⟩ := I.list (SqL.of h)
    obtain ⟨bs, hb, hk⟩ := DqAll.shows I ds _ its t rv (by simpa [PyData.showable] using hs) fun z hm => Nat.le_trans (listText_mem_le hm) hz'
    obtain ⟨as, rd⟩ := Dq.reads (b := b) I (.list ds) (.ref a) (.ref a) (.lst h nb t) rfl
    have dep : PyData.depthAll ds < (PyData.list ds).depth := by
      simp only [PyData.depth]
      omega
    have hna := not_mem_of_deeper rd dep hb
    refine ⟨"list", "list.__repr__", F.slot_list_repr.toG, F.slot_list_str, F.slot_list_format, (fun s' hk0 => ⟨o, hk0 _ _ ho, hc⟩), fun A E s' Q hg hu hk0 hQ => ?_⟩
    simp only [PyData.depth] at hu
    simp only [PyData.shown] at hQ
    cases its with
    | nil =>
      cases rv
      cases t
      simp only [PyData.shownAll, listText_nil] at hQ
      exact call_list_repr_empty ⟨o, hk0 _ _ ho, hc⟩ (hk0 _ _ ho) hd (hQ s'.heap _ _ fun _ _ e => e)
    | cons x l => exact call_list_reprK ho hc hd hna (by simpa using hk.length_eq) (fun i y e => hk.item i y (by simpa using e)) hg (fun b _ => Clear.nil b) hu hk0 hQ hz'
  | @tup _ xs ds h t =>
    have hz' : (tupleText (PyData.shownAll ds)).length ≤ sizeLine := by
      simpa only [PyData.shown] using hz
    obtain ⟨its, rv, ⟨o, ho, hc, n, hd⟩, _⟩ := I.tuple (SqT.of h)
    obtain ⟨bs, hb, hk⟩ := DqAll.shows I ds _ its t rv (by simpa [PyData.showable] using hs) fun z hm => Nat.le_trans (tupleText_mem_le hm) hz'
    obtain ⟨as, rd⟩ := Dq.reads (b := b) I (.tuple ds) (.ref a) (.ref a) (.tup h t) rfl
    have dep : PyData.depthAll ds < (PyData.tuple ds).depth := by
      simp only [PyData.depth]
      omega
    have hna := not_mem_of_deeper rd dep hb
    refine ⟨"tuple", "tuple.__repr__", F.slot_tuple_repr, F.slot_tuple_str, F.slot_tuple_format, (fun s' hk0 => ⟨o, hk0 _ _ ho, hc⟩), fun A E s' Q hg hu hk0 hQ => ?_⟩
    simp only [PyData.depth] at hu
    simp only [PyData.shown] at hQ
    exact call_tuple_reprK ho hc hd hna hk hg (fun b _ => Clear.nil b) hu hk0 hQ hz'
  | emp h =>
    obtain ⟨o, es, n, ho, hc, hd, he, hsm⟩ := emp_reads I h
    refine showsBy_of_reads (as := [a] ++ []) (.dict (kvs := []) (as := []) (bs := []) ho hc hd (by rw [he]; exact .nil) (by rw [he]; exact .nil)) hs (fun _ hm => ?_) hz
    simp at hm
    rw [hm] at hsm
    simp at hsm
end
/-! ### showing -/
/-- data of depth m and bulk n at most that can be shown -/
structure FitQ (d : PyData) (m n : Nat) : Prop where
  sh : d.showable = true
  dp : d.depth ≤ m
  lv : d.leavesShort 2000 = true
  bk : d.bulk ≤ n
  ok : PyData.strOk d.shown = true
structure FitQAll (ds : List PyData) (m n : Nat) : Prop where
  sh : PyData.showableAll ds = true
  dp : PyData.depthAll ds ≤ m
  lv : PyData.leavesShortAll 2000 ds = true
  bk : PyData.bulkAll ds ≤ n
  ok : ∀ t ∈ PyData.shownAll ds, PyData.strOk t = true
theorem Fit.q {d : PyData} {m n : Nat} (h : Fit d m n) : FitQ d m n := ⟨h.sh, h.dp, h.lv, h.bk, shown_ok d h.lay⟩
theorem FitQ.emp {m n : Nat} (hm : 1 ≤ m) : FitQ (.dict []) m n := ⟨rfl, by show 0 + 1 ≤ m; omega, rfl, Nat.zero_le _, by decide +kernel⟩
theorem FitQAll.nil {m n : Nat} : FitQAll [] m n := ⟨rfl, Nat.zero_le _, rfl, Nat.zero_le _, fun t ht => by simp [PyData.shownAll] at ht⟩
theorem FitQAll.cons {d : PyData} {ds : List PyData} {m a b : Nat} (h : FitQ d m a) (t : FitQAll ds m b) : FitQAll (d :: ds) m (a + 1 + b) := by
  have h1 := h.dp
  have h2 := t.dp
  have h3 := h.bk
  have h4 := t.bk
  refine ⟨?_, ?_, ?_, ?_, ?_⟩
  · show (PyData.showable d && PyData.showableAll ds) = true
    rw [h.sh, t.sh]; rfl
  · show max (PyData.depth d) (PyData.depthAll ds) ≤ m
    omega
  · show (PyData.leavesShort 2000 d && PyData.leavesShortAll 2000 ds) = true
    rw [h.lv, t.lv]; rfl
  · show PyData.bulk d + 1 + PyData.bulkAll ds ≤ a + 1 + b
    omega
  · intro z hz
    simp only [PyData.shownAll, List.mem_cons] at hz
    rcases hz with rfl | hz
    · exact h.ok
    · exact t.ok z hz
theorem FitQ.list {ds : List PyData} {m n : Nat} (h : FitQAll ds m n) : FitQ (.list ds) (m + 1) n := by
  have := h.dp
  refine ⟨h.sh, by show PyData.depthAll ds + 1 ≤ m + 1; omega, h.lv, h.bk, ?_⟩
  simp only [PyData.shown]
  exact strOk_app (strOk_from _ _ _ (strOk_of _) h.ok) (strOk_of _)
theorem FitQ.tuple {ds : List PyData} {m n : Nat} (h : FitQAll ds m n) : FitQ (.tuple ds) (m + 1) n := by
  have := h.dp
  refine ⟨h.sh, by show PyData.depthAll ds + 1 ≤ m + 1; omega, h.lv, h.bk, ?_⟩
  simp only [PyData.shown]
  exact strOk_app (strOk_app (strOk_of _) (strOk_join (strOk_of _) h.ok)) (strOk_of _)
theorem FitQ.mono {d : PyData} {m n m' n' : Nat} (h : FitQ d m n) (a : m ≤ m') (b : n ≤ n') : FitQ d m' n' := ⟨h.sh, Nat.le_trans h.dp a, h.lv, Nat.le_trans h.bk b, h.ok⟩
theorem FitQ.line {d : PyData} {m n : Nat} (h : FitQ d m n) (hn : n ≤ 5000) : d.shown.length ≤ sizeLine := by
  have h1 := PyData.shown_le_bulk 2000 (by decide) d h.lv
  have h2 : 2002 * d.bulk ≤ 2002 * 5000 := Nat.mul_le_mul_left _ (Nat.le_trans h.bk hn)
  have h3 : 2002 * 5000 + 2000 ≤ sizeLine := by decide
  omega
theorem FitQ.str {d : PyData} {m n : Nat} (h : FitQ d m n) (hn : n ≤ 5000) : Fit (.str d.shown) 1 sizeLine := .str h.ok (h.line hn)
/-- repr of such data -/
@[irreducible] def rReprQ (K : PySem.W.Frag) : List V → Hp → VK → Prop := fun xs H Q => ∃ (b : Addr) (v : V) (d : PyData) (m n : Nat), xs = [v] ∧ Dq K b H v d ∧ FitQ d m n ∧ m ≤ 60 ∧ n ≤ 5000 ∧ Q (.str d.shown) H
theorem rd_reprQ {K : PySem.W.Frag} {b : Addr} {H : Hp} {v : V} {d : PyData} {m n : Nat} {Q : VK} (hv : Dq K b H v d) (h : FitQ d m n) (hm : m ≤ 60) (hn : n ≤ 5000) (q : Q (.str d.shown) H) : rReprQ K [v] H Q := by
  unfold rReprQ
  exact ⟨b, v, d, m, n, rfl, hv, h, hm, hn, q⟩
theorem cr_reprQ {X : Cx} (hG : X.A.guards = some []) (hu : X.A.units + 64 < cLine) : CallR X (.builtin "repr") (rReprQ X.K) := by
  intro pins s σ H xs us Q I r h
  unfold rReprQ at h
  obtain ⟨b, v, d, m, n, rfl, hd, ft, hm, hn, q⟩ := h
  obtain ⟨u, rfl, ru⟩ : ∃ u, us = [u] ∧ RelV v u := by
    cases r with
    | cons a b => cases b with | nil => exact ⟨_, rfl, a⟩
  have hz := ft.line hn
  have hdp := ft.dp
  have go : ∀ a, v = .ref a → u = .ref a → wpAny (model X.prog X.w) X.A (call (.builtin "repr") [u]) (EP X pins σ Q) X.xe s := fun a e1 e2 => by
    subst e1
    subst e2
    obtain ⟨T, idr, S⟩ := Dq.showsBy I hd ft.sh hz
    exact call_repr_slot (by omega) (S.typeIs s fun _ _ e => e) S.slotRepr (S.call X.A.in1 X.xe s _ hG (by show X.A.units + 1 + d.depth < cLine; omega) (fun _ _ e => e) fun h' u' tk hk => ⟨_, _, rfl, ⟨.str _, H, I.kept hk, ⟨_, rfl⟩, q⟩⟩)
  cases hd with
  | non => cases ru; exact PySem.P.repr_of_none ⟨.str _, H, I.tok _, ⟨_, rfl⟩, q⟩
  | bl b => cases ru; exact PySem.P.repr_of_bool ⟨.str _, H, I.tok _, ⟨_, rfl⟩, q⟩
  | int i =>
    obtain ⟨t, rfl⟩ := ru
    refine PySem.P.repr_of_int ?_ ⟨.str _, H, I.tok _, ⟨_, rfl⟩, q⟩
    have := ft.sh
    simpa [PyData.showable] using this
  | str z =>
    obtain ⟨t, rfl⟩ := ru
    exact PySem.P.repr_of_str ⟨.str _, H, I.tok _, ⟨_, rfl⟩, q⟩ hz
  | lst h1 h2 h3 => exact go _ rfl (by cases ru; rfl)
  | tup h1 h2 => exact go _ rfl (by cases ru; rfl)
  | emp h1 => exact go _ rfl (by cases ru; rfl)
/-! ### types -/
def tyName : PyData → String
  | .none => "NoneType"
  | .bool _ => "bool"
  | .int _ => "int"
  | .str _ => "str"
  | .list _ => "list"
  | .tuple _ => "tuple"
  | .dict _ => "dict"
theorem Dq.ty {K : PySem.W.Frag} {b : Addr} {H : Hp} {v : V} {d : PyData} (h : Dq K b H v d) : TyX K H v (.type (tyName d)) := by
  cases h with
  | non => exact .base .non
  | bl k => exact .base (.bl k)
  | int i => exact .base (.int i)
  | str z => exact .base (.str z)
  | lst h _ _ => exact .base (.lst h)
  | tup h _ => exact .base (.tup h)
  | emp h => exact .base (.dK h)
end Hv

namespace Hv
open PySem PySem.Spec PyProof.Rows L2
abbrev tab0 : Obj := { cls := .none, data := .fields #[] }
/-- what may be tracked where the law begins -/
def Kept (K : PySem.W.Frag) (a : Addr) (cs : List (Addr × Addr)) (H : Hp) : Prop := ∀ b u, H b = some u → K.lookup b = none ∧ ((b ∈ cs.map (·.2) ∧ u = .tbl #[]) ∨ (b = a ∧ ∃ o xs, u = .frz o (.lst xs)))
theorem call_lawT {P : Program} {w : World} {K : PySem.W.Frag} {mg mb : Str → Option Value} {k : Nat} {fa a : Addr} {cs : List (Addr × Addr)} {fd : FuncData} {x : Str} {sp : Sp} {s : Shared} {vs : List Value} {ns : List Int}
    (KX : K.In s.heap) (gl : s.heap.Ns mainGlobals mg) (bl : s.heap.Ns builtinsNs mb) (hbb : ∀ x : Str, x ≠ "__name__" → mb x = bootBuiltins x) (lim : s.heap.NoLimit) (gens : s.gens = #[])
    (hT : ∀ p ∈ cs, s.heap.get? p.2 = some tab0) (nT : ∀ p ∈ cs, K.lookup p.2 = none) (cT : ∀ p ∈ cs, PySem.W.CodeHd s.heap p.1 p.2)
    (hbm : ∃ (bm : Addr) (ob : Obj), mg "__builtins__" = some (.ref bm) ∧ bm ≠ builtinsNs ∧ s.heap.get? bm = some ob ∧ ob.cls = .type "module" ∧ ob.dict = some builtinsNs ∧ ob.data = .plain)
    (ha : s.heap.get? a = some { cls := .type "list", data := .seq vs.toArray }) (hi : IntsAre vs ns) (hl : ns.length ≤ sizeLine) (hr : Room k callerA)
    (F : ∀ base : Heap, K.In base → base.Ns mainGlobals mg → (∀ p ∈ cs, LamX.TabB base mg p.1 p.2) → OkG P w K mg base CX0 k fa fd [x] sp) (bind : ∀ (s : Shared) (u : Value), BindsTo s fd ⟨[u], []⟩ [(x, u)])
    (hsp : ∀ H : Hp, (∀ p ∈ cs, H p.2 = some (.tbl #[])) → SqL K H a (ns.map V.int) → sp [.ref a] H (fun v _ => v = .bl true) fun _ _ _ => False) :
    codeAny (model P w) callerA (.call (.ref fa) ⟨[.ref a], []⟩) (fun r s' => r = .ok (.ret (.bool true)) ∧ OldK s.heap s'.heap ∧ s'.os = s.os ∧ AllBare s'.gens) s := by
  have rv := vals_ints hi
  have lenV := hi.length
  have isT : ∀ b ∈ cs.map (·.2), s.heap.get? b = some tab0 := fun b hb => by
    obtain ⟨p, hp, rfl⟩ := List.mem_map.mp hb
    exact hT p hp
  have isK : ∀ b ∈ cs.map (·.2), K.lookup b = none := fun b hb => by
    obtain ⟨p, hp, rfl⟩ := List.mem_map.mp hb
    exact nT p hp
  have inT : ∀ p ∈ cs, p.2 ∈ cs.map (·.2) := fun p hp => List.mem_map.mpr ⟨p, hp, rfl⟩
  have apart : a ∉ cs.map (·.2) := fun z => by
    have q := isT a z
    rw [ha] at q
    cases q
  have core : ∀ H : Hp, Kept K a cs H → (∀ p ∈ cs, H p.2 = some (.tbl #[])) → SqL K H a (ns.map V.int) → HOk P w H s.heap →
      codeAny (model P w) callerA (.call (.ref fa) ⟨[.ref a], []⟩) (fun r s' => r = .ok (.ret (.bool true)) ∧ OldK s.heap s'.heap ∧ s'.os = s.os ∧ AllBare s'.gens) s := by
    intro H kept hC hS ok
    have out : ∀ {b : Addr} {o : Obj}, s.heap.get? b = some o → (∀ vs n, o.data ≠ .seq vs n) → o.data ≠ .fields #[] → H b = none := by
      intro b o e n2 n3
      cases q : H b with
      | none => rfl
      | some u =>
        rcases (kept b u q).2 with ⟨z, _⟩ | ⟨rfl, _⟩
        · rw [isT b z] at e
          cases e
          exact absurd rfl n3
        · rw [ha] at e
          cases e
          exact absurd rfl (n2 _ _)
    have nsOut : ∀ {b : Addr} {m : Str → Option Value}, s.heap.Ns b m → (hidT s.heap H).Ns b m := by
      rintro b m ⟨o, es, ep, e, d, r⟩
      exact ⟨o, es, ep, hidT_get e (out e (fun _ _ z => by rw [d] at z; cases z) fun z => by rw [d] at z; cases z), d, r⟩
    have hKb : K.In (hidT s.heap H) := fun b o e => hidT_get (KX b o e) (by
      cases q : H b with
      | none => rfl
      | some u => rw [(kept b u q).1] at e; cases e)
    have hM : Mod K mg (hidT s.heap H) := by
      obtain ⟨mc, h1, h2⟩ := lim
      exact ⟨hKb, nsOut gl, ⟨mb, nsOut bl, hbb⟩, ⟨mc, nsOut h1, h2⟩⟩
    have TB : ∀ p ∈ cs, LamX.TabB (hidT s.heap H) mg p.1 p.2 := by
      intro p hp
      have e := hT p hp
      refine ⟨?_, ?_, ?_⟩
      · obtain ⟨o, us, file, tf, flags, tg, inF, text, tt, e1, r1, r2, r3, r4⟩ := cT p hp
        refine ⟨o, us, file, tf, flags, tg, inF, text, tt, hidT_get e1 (out e1 (fun _ _ z => by rw [r2] at z; cases z) fun z => ?_), r1, r2, r3, r4⟩
        rw [r2] at z
        cases z
        simp at r3
      · obtain ⟨bm, ob, b1, b2, b3, b4, b5, b6⟩ := hbm
        refine ⟨bm, ob, b1, b2, ?_, ?_, hidT_get b3 (out b3 (fun _ _ z => by rw [b6] at z; cases z) fun z => by rw [b6] at z; cases z), b4, b5, b6⟩
        · rintro rfl
          obtain ⟨o, es, ep, e', hd, _⟩ := gl
          rw [e'] at b3
          cases b3
          rw [hd] at b6
          cases b6
        · rintro rfl
          rw [e] at b3
          cases b3
          cases b6
      · intro z
        obtain ⟨o, es, ep, e', hd, _⟩ := gl
        rw [z, e] at e'
        cases e'
        cases hd
    have e0 : Env0 P w K mg (hidT s.heap H) callerA [] s H := by
      refine ⟨rfl, hM, fun b o e => of_hidT e, Nat.le_of_eq (hidT_size _ _), trivial, ?_, ok, .of_eq gens⟩
      intro b hb
      cases (show b ∈ ([] : List Addr) from hb)
    have go := (F _ hKb (nsOut gl) TB).run callerA [] s H ⟨[.ref a], []⟩ [.ref a] [.ref a] (fun v _ => v = .bl true) (fun _ _ _ => False) rfl hr e0 (bind s (.ref a)) (.cons rfl .nil) (hsp H hC hS)
    refine codeAny_mono go ?_
    intro r s' h
    match r, h with
    | .error e, h => exact (show False from h).elim
    | .ok .next, h => exact h.elim
    | .ok .brk, h => exact h.elim
    | .ok .cont, h => exact h.elim
    | .ok (.ret u), h =>
      obtain ⟨v, H', os, bare, un, ok', r', q⟩ := h
      cases (show v = .bl true from q)
      cases (show u = Value.bool true from r')
      have keep : ∀ b o, b ∉ cs.map (·.2) → s.heap.get? b = some o → s'.heap.get? b = some o := by
        intro b o nb e
        cases q : H b with
        | none => exact un.keep b o e q (by intro z; cases z) (by intro z; cases z)
        | some u =>
          rcases (kept b u q).2 with ⟨z, _⟩ | ⟨_, ob, xs, rfl⟩
          · exact absurd z nb
          · have k1 := (ok b _ q).1
            have k2 := (ok' b _ (un.frzs b ob _ q)).1
            rw [e] at k1
            cases k1
            exact k2
      have grown : ∀ p ∈ cs, ∃ more : Array Value, s'.heap.get? p.2 = some { cls := .none, data := .fields more } := by
        intro p hp
        obtain ⟨more, z⟩ := un.tbls p.2 #[] (hC p hp)
        exact ⟨_, ok' p.2 _ z⟩
      refine ⟨rfl, ⟨fun b o e => ?_, fun b o e => ?_⟩, os, bare⟩
      · by_cases hb : b ∈ cs.map (·.2)
        · obtain ⟨p, hp, rfl⟩ := List.mem_map.mp hb
          obtain ⟨more, hm⟩ := grown p hp
          rw [hT p hp] at e
          cases e
          refine .inr (.inl ⟨((cT p hp).tab (hT p hp)).isCodeTable, rfl, #[], more, rfl, ?_⟩)
          rw [Array.empty_append]
          exact hm
        · exact .inl (keep b o hb e)
      · by_cases hb : b ∈ cs.map (·.2)
        · obtain ⟨p, hp, rfl⟩ := List.mem_map.mp hb
          obtain ⟨more, hm⟩ := grown p hp
          exact ⟨_, hm⟩
        · exact ⟨o, keep b o hb e⟩
  let T0 : Hp := fun b => if b ∈ cs.map (·.2) then some (.tbl #[]) else none
  have t0 : ∀ b u, T0 b = some u → b ∈ cs.map (·.2) ∧ u = .tbl #[] := fun b u z => by
    by_cases hb : b ∈ cs.map (·.2)
    · exact ⟨hb, (Option.some.inj ((if_pos hb).symm.trans z)).symm⟩
    · have := (if_neg hb).symm.trans z
      cases this
  by_cases hk : K.lookup a = none
  · refine core (upd T0 a (.frz { cls := .type "list", data := .seq vs.toArray } (.lst (ns.map V.int)))) ?_ ?_ (.inl (.inr ⟨_, upd_same⟩)) ?_
    · intro b u z
      by_cases hb : b = a
      · subst hb
        rw [upd_same] at z
        cases z
        exact ⟨hk, .inr ⟨rfl, _, _, rfl⟩⟩
      · rw [upd_ne hb] at z
        obtain ⟨h1, h2⟩ := t0 b u z
        exact ⟨isK b h1, .inl ⟨h1, h2⟩⟩
    · intro p hp
      rw [upd_ne (fun z => apart (by rw [← z]; exact inT p hp))]
      exact if_pos (inT p hp)
    · intro b u z
      by_cases hb : b = a
      · subst hb
        rw [upd_same] at z
        cases z
        exact ⟨ha, by rw [List.length_map]; exact hl, vs, _, rv, ha⟩
      · rw [upd_ne hb] at z
        obtain ⟨h1, rfl⟩ := t0 b u z
        exact isT b h1
  · obtain ⟨o, ho⟩ := Option.ne_none_iff_exists'.mp hk
    have e := KX a o ho
    rw [ha] at e
    cases e
    refine core T0 (fun b u z => ⟨isK b (t0 b u z).1, .inl (t0 b u z)⟩) (fun p hp => if_pos (inT p hp)) (.inr ⟨_, vs.toArray, _, ho, rfl, rfl, rfl, ?_, ?_⟩) ?_
    · rw [List.size_toArray, lenV]
      exact hl
    · simpa using rv
    · intro b u z
      obtain ⟨h1, rfl⟩ := t0 b u z
      exact isT b h1
/-- the def named x, its code object at c and the table of that at P -/
structure TabAt (K : PySem.W.Frag) (mg : Str → Option Value) (h : Heap) (x : Str) (c P : Addr) : Prop where
  get : h.get? P = some tab0
  hd : PySem.W.CodeHd h c P
/-- what the top has left of a def that makes lambdas -/
def TabIn (K : PySem.W.Frag) (x : Str) (c P : Addr) : Prop := ∃ (f : Addr) (o : Obj) (fd : FuncData) (e : Value) (dd : Option Addr) (vs : Array Value) (sl : Array (Option Value)), PySem.W.nsIn K mainGlobals x = some (some (.ref f)) ∧ K.lookup f = some o ∧ o.data = .func fd ∧ fd.code = .ref c ∧
  K.lookup c = some ⟨e, dd, .fields vs, sl⟩ ∧ vs[11]? = some (.ref P) ∧ K.lookup P = none
theorem tabIn_mk {K : PySem.W.Frag} {x : Str} {c P f : Addr} {o : Obj} {fd : FuncData} {e : Value} {dd : Option Addr} {vs : Array Value} {sl : Array (Option Value)} (h1 : PySem.W.nsIn K mainGlobals x = some (some (.ref f))) (h2 : K.lookup f = some o) (h3 : o.data = .func fd) (h4 : fd.code = .ref c)
    (h5 : K.lookup c = some ⟨e, dd, .fields vs, sl⟩) (h6 : vs[11]? = some (.ref P)) (h7 : K.lookup P = none) : TabIn K x c P := ⟨f, o, fd, e, dd, vs, sl, h1, h2, h3, h4, h5, h6, h7⟩
theorem TabIn.out {K : PySem.W.Frag} {x : Str} {c P : Addr} (h : TabIn K x c P) : K.lookup P = none := by
  obtain ⟨_, _, _, _, _, _, _, _, _, _, _, _, _, h7⟩ := h
  exact h7
theorem TabIn.at {K : PySem.W.Frag} {x : Str} {c P : Addr} {q : Program} {loose : List Str} {mean : ExcName → Option Value} {mg mb : Str → Option Value} {h : Heap} (t : TabIn K x c P) (X : K.In h) (T : Top q loose mean mg mb h) (hrec : ((recsOf q).any fun e => e.name == x) = true) :
    h.get? P = some tab0 ∧ PySem.W.CodeHd h c P := by
  obtain ⟨f, o, fd, e, dd, vs, sl, k1, k2, k3, k4, k5, k6, _⟩ := t
  obtain ⟨d, hm, hn⟩ := List.any_eq_true.mp hrec
  obtain ⟨a', o', fd', c', P', h1, h2, h3, h4, h5, h6⟩ := T.tab d hm
  rw [beq_iff_eq.mp hn, PySem.W.mg_of X T.g k1] at h1
  cases h1
  have g1 := X _ _ k2
  rw [g1] at h2
  cases h2
  rw [k3] at h3
  cases h3
  rw [k4] at h4
  cases h4
  have hh := PySem.W.CodeHd.of h5 h6
  obtain ⟨⟨oc, vc, e1, _, e3, e4⟩, hP⟩ := h6
  have g2 := X _ _ k5
  rw [g2] at e1
  cases e1
  cases e3
  rw [k6] at e4
  cases e4
  exact ⟨hP, hh⟩
/-- the law's promise, with the tables cs of the defs xs -/
def LawT (l : PySem.W.OpenLaw) (w : World) (K : PySem.W.Frag) (k n : Nat) (x : Str) (mg : Str → Option Value) (fa : Addr) (xs : List Str) : Prop :=
  ∃ (fd : FuncData) (cs : List (Addr × Addr)) (sp : Sp), (∀ p ∈ cs, ∃ y ∈ xs, TabIn K y p.1 p.2) ∧ (∀ (s : Shared) (u : Value), BindsTo s fd ⟨[u], []⟩ [(x, u)]) ∧
    (∀ (H : Hp) (a : Addr) (ns : List Int), ns.length ≤ n → (∀ z ∈ ns, Builtin.Int.intBits z ≤ 1048576) → (∀ p ∈ cs, H p.2 = some (.tbl #[])) → SqL K H a (ns.map V.int) → sp [.ref a] H (fun v _ => v = .bl true) fun _ _ _ => False) ∧
    ∀ base : Heap, K.In base → base.Ns mainGlobals mg → (∀ p ∈ cs, LamX.TabB base mg p.1 p.2) → OkG l.prog w K mg base CX0 k fa fd [x] sp
theorem walkT {l : PySem.W.OpenLaw} {n k : Nat} {q : Program} {loose : List Str} {XP : (Str → Option Value) → Heap → Prop} {YP : World → Heap → Prop} {d : DefRec} {K : Params → PySem.W.Frag} {x : Str} (xs : List Str)
    (hn : l.most = some n) (hn2 : n ≤ sizeLine) (hdf : d.params.defaults = []) (hr : Room k callerA) (hrec : xs.all (fun y => (recsOf q).any fun e => e.name == y) = true) (hY : ∀ (w : World) (h : Heap), YP w h → (K w.params).In h)
    (F : ∀ (w : World) (mg : Str → Option Value) (fa : Addr) (h : Heap), (K w.params).In h → h.Ns mainGlobals mg → mg d.name = some (.ref fa) → LawT l w (K w.params) k n x mg fa xs) :
    PySem.W.WalkO q loose XP YP l.row.toRowW d [] (fun f vs => PySem.call f vs) := by
  refine Att.attach_callB hn hdf ?_
  intro w s₀ s₁ mg mb fa o pm cd doc a vs ns G Y ho hd hcd hmg hobj hints hlen hbits hg
  have X := hY w _ Y
  obtain ⟨fd, cs, sp, ht, hb, hsp, hF⟩ := F w mg fa _ X G.T.g hmg
  have tabs : ∀ p ∈ cs, s₁.heap.get? p.2 = some tab0 ∧ PySem.W.CodeHd s₁.heap p.1 p.2 := fun p hp => by
    obtain ⟨y, hy, t⟩ := ht p hp
    exact t.at X G.T (List.all_eq_true.mp hrec y hy)
  exact call_lawT X G.T.g G.T.b G.T.builtins G.T.nolimit hg (fun p hp => (tabs p hp).1) (fun p hp => (ht p hp).choose_spec.2.out) (fun p hp => (tabs p hp).2) G.T.bmain hobj hints (Nat.le_trans hlen hn2) hr hF hb fun H hC hS => hsp H a ns hlen hbits hC hS
end Hv

namespace L
open PySem L2 Hv
def top (i : Nat) : Stmt := PySem.Challenge.pw_heldvotes_k05_kinds_refused.main.body.getD i (.Pass ⟨0, 0, 0, 0⟩)
structure Txt (K : PySem.W.Frag) (mg : Str → Option Value) : Prop where
  ArithmeticError : mg "ArithmeticError" = none
  LookupError : mg "LookupError" = none
  ValueError : mg "ValueError" = none
  abs : mg "abs" = none
  all : mg "all" = none
  any : mg "any" = none
  bool : mg "bool" = none
  divmod : mg "divmod" = none
  int : mg "int" = none
  isinstance : mg "isinstance" = none
  len : mg "len" = none
  max : mg "max" = none
  min : mg "min" = none
  property : mg "property" = none
  range : mg "range" = none
  repr : mg "repr" = none
  str : mg "str" = none
  tuple : mg "tuple" = none
  cMOST_TALKS : ∃ t, mg "MOST_TALKS" = some (.int (3) t)
  cMOST_AFTER : ∃ t, mg "MOST_AFTER" = some (.int (3) t)
  cMOST_NEEDS : ∃ t, mg "MOST_NEEDS" = some (.int (9) t)
  cMOST_PART : ∃ t, mg "MOST_PART" = some (.int (12) t)
  cDIGITS : ∃ t, mg "DIGITS" = some (.str "0123456789" t)
  cLETTERS : ∃ t, mg "LETTERS" = some (.str "abcdefghijklmnopqrstuvwxyz" t)
  cMARK : ∃ t, mg "MARK" = some (.str "over " t)
end L

namespace L
open PySem L2 Hv
variable {P : Program} {w : World} {K : PySem.W.Frag} {mg : Str → Option Value} {base : Heap}
abbrev s_take : Stmt := top 57
abbrev N_take : List Str := ["_law_bag_here", "_law_many", "_law_digit"]
abbrev P_take : List Str := ["_law_bag_here", "_law_many"]
theorem sc_take : FnScope N_take P_take (defScope s_take) := ⟨rfl, rfl, rfl, by decide +kernel, rfl, by decide +kernel, by decide +kernel⟩
theorem ok_take {f : Addr} {fd : FuncData} (D : DefAt K mg "_law_take" s_take P_take f fd) (T : Txt K mg) : FnOk P w K mg base CX0 1 f fd P_take sp_take := by
  refine D.fn.ok sc_take (fun vs H Q E h => ?_) (fun cdv A outer s H vs Q E hr h => ?_)
  · obtain ⟨b, m, k, rfl, _⟩ := h
    rfl
  · obtain ⟨b, m, k, rfl, ⟨z, d, n, hb, d0, db, n0, nk⟩, hk, m0, m1, ret⟩ := h
    refine ⟨_, (pss_cons (ps_asg (pe_op op_add (pe_ix ix_list (pv 0) pe_int (fun _ _ => rfl)) pe_int) (pg_sub (pv 0) pe_int set_list))
      (pss_cons (ps_asg (pe_op op_mod (pe_callTy call_int1 (by rfl) T.int (by decide +kernel) (pa_cons (pe_op op_add (pe_op op_add (pe_op op_mul (pe_ix ix_list (pv 0) pe_int (fun _ _ => rfl)) pe_int) (pe_op op_mul (pe_op op_mul (pe_ix ix_list (pv 0) pe_int (fun _ _ => rfl)) (pe_ix ix_list (pv 0) pe_int (fun _ _ => rfl))) pe_int)) pe_int) pa_nil)) pe_int) (pg_sub (pv 0) pe_int set_list))
      (pss_cons (ps_if (pt_cmpR op_gt (pe_ix ix_list (pv 0) pe_int (fun _ _ => rfl)) pe_int (nomark _))
      (pss_cons (ps_asg (pe_callB call_divmodW (by rfl) T.divmod (by decide +kernel) (pa_cons (pe_ix ix_list (pv 0) pe_int (fun _ _ => rfl)) (pa_cons (pv 1) pa_nil))) (pg_tup (by rfl) (pgs_cons (pg_sub (pv 0) pe_int set_list) (pgs_cons (pg_name (i := 2) sc_take.nd rfl (.inl rfl)) pgs_nil))))
      (pss_one (ps_ret (pv 2))))
      pss_nil)
      (pss_one (ps_ret (pe_op op_mod (pe_callTy call_int1 (by rfl) T.int (by decide +kernel) (pa_cons (pe_op op_fdiv (pe_ix ix_list (pv 0) pe_int (fun _ _ => rfl)) pe_int) pa_nil)) (pv 1))))))), ?_⟩
    refine ⟨_, rfl, _, _, _, _, rfl, rfl, SqL.of hb, rfl, _, _, rfl, rfl, _, rfl, _, _, _, _, rfl, rfl, hb, rfl, ?_⟩
    have hb1 := upd_same (H := H) (a := b) (o := .lst (List.set [.int z, .int d, .int n] 2 (.int (n + 1))))
    refine ⟨_, rfl, _, _, _, _, rfl, rfl, SqL.of hb1, rfl, _, _, rfl, rfl, .inr ⟨by decide, by decide⟩, _, rfl, _, _, _, _, rfl, rfl, SqL.of hb1, rfl, _, rfl, _, _, _, _, rfl, rfl, SqL.of hb1, rfl, _, _, rfl, rfl, .inl ⟨by omega, by omega⟩,
      _, _, rfl, rfl, .inr ⟨by decide, by decide⟩, _, _, rfl, rfl, _, _, rfl, rfl, .inl ⟨_, rfl, _, _, rfl, rfl, (by show (0 : Int) < _; decide), _, rfl, _, _, _, _, rfl, rfl, hb1, rfl, ?_⟩⟩
    rw [upd_upd]
    have hb2 := upd_same (H := H) (a := b) (o := .lst [.int ((z * 91193 + (n + 1) * (n + 1) * 6827 + 40507) % 2147483399), .int d, .int (n + 1)])
    refine ⟨_, rfl, _, _, _, _, rfl, rfl, SqL.of hb2, rfl, _, _, rfl, rfl, _, rfl, ?_⟩
    refine ite2 (fun hc => ?_) (fun hc => ?_)
    · refine ⟨_, rfl, _, _, _, _, rfl, rfl, SqL.of hb2, rfl, _, rfl, _, _, rfl, ⟨m0, pylong_no m1⟩, fun p hp => ?_⟩
      have np : b ≠ p := ne_of_none hb2 hp
      refine ⟨_, _, rfl, SqT.of upd_same, rfl, _, _, rfl, _, rfl, _, _, _, _, rfl, rfl, (upd_ne np).trans hb2, rfl, _, _, rfl, rfl, _, rfl, ?_⟩
      refine ret _ _ (((But.refl.put).new hp).put) ⟨_, _, _, upd_same, ?_, bits_div d0 m0 db, ?_, ?_⟩ (Int.emod_nonneg _ (by omega)) (Int.emod_lt_of_pos _ m0)
      · exact Int.ediv_nonneg d0 (by omega)
      · omega
      · omega
    · refine ⟨_, rfl, _, _, _, _, rfl, rfl, SqL.of hb2, rfl, _, _, rfl, rfl, ⟨by decide, by decide⟩, .inl ⟨_, rfl, _, rfl, _, _, rfl, rfl, m0, ?_⟩⟩
      refine ret _ _ But.refl.put ⟨_, _, _, upd_same, d0, db, ?_, ?_⟩ (Int.emod_nonneg _ (by omega)) (Int.emod_lt_of_pos _ m0)
      · omega
      · omega
abbrev s_bag : Stmt := top 56
abbrev N_bag : List Str := ["_law_number", "_law_digits", "_law_state"]
abbrev P_bag : List Str := ["_law_number"]
theorem sc_bag : FnScope N_bag P_bag (defScope s_bag) := ⟨rfl, rfl, rfl, by decide +kernel, rfl, by decide +kernel, by decide +kernel⟩
theorem ok_bag {f : Addr} {fd : FuncData} (D : DefAt K mg "_law_bag" s_bag P_bag f fd) (T : Txt K mg) : FnOk P w K mg base CX0 1 f fd P_bag sp_bag := by
  refine D.fn.ok sc_bag (fun vs H Q E h => ?_) (fun cdv A outer s H vs Q E hr h => ?_)
  · obtain ⟨n, rfl, _⟩ := h
    rfl
  · obtain ⟨n, rfl, nb, ret⟩ := h
    refine ⟨_, (pss_cons (ps_asg (pe_ifExp (pt_chain op_le op_lt pe_int (pv 0) (pe_op op_pow pe_int pe_int)) pe_int (pe_callB call_abs (by rfl) T.abs (by decide +kernel) (pa_cons (pv 0) pa_nil))) (pg_name (i := 1) sc_bag.nd rfl (.inl rfl)))
      (pss_cons (ps_asg (pe_op op_mod (pe_callTy call_int1 (by rfl) T.int (by decide +kernel) (pa_cons (pv 0) pa_nil)) pe_int) (pg_name (i := 2) sc_bag.nd rfl (.inl rfl)))
      (pss_one (ps_ret (pe_lst (pa_cons (pe_op op_mod (pe_callTy call_int1 (by rfl) T.int (by decide +kernel) (pa_cons (pe_op op_add (pe_op op_mul (pv 2) (pe_op op_add (pe_op op_mod (pe_callTy call_int1 (by rfl) T.int (by decide +kernel) (pa_cons (pv 2) pa_nil)) pe_int) pe_int)) pe_int) pa_nil)) pe_int) (pa_cons (pv 1) (pa_cons pe_int pa_nil)))))))), ?_⟩
    have fin : ∀ d : Int, 0 ≤ d → Builtin.Int.intBits d ≤ 1048576 → ∀ p, H p = none → ∀ z : Int, Q (.ref p) (upd H p (.lst [.int z, .int d, .int 0])) := fun d d0 d1 p hp z =>
      ret p _ hp (same_new hp) ⟨z, d, 0, upd_same, d0, d1, by omega, by omega⟩
    refine ⟨_, rfl, _, _, rfl, rfl, _, rfl, ?_⟩
    refine ite2 (fun hc => ?_) (fun hc => ?_)
    · refine ⟨_, _, rfl, rfl, ⟨by decide, by decide, by decide⟩, _, _, rfl, rfl, _, rfl, ?_⟩
      refine ite2 (fun hc2 => ?_) (fun hc2 => ?_)
      · refine ⟨_, rfl, .inl ⟨_, rfl, _, _, rfl, rfl, (by show (0 : Int) < _; decide), _, rfl, _, rfl, .inl ⟨_, rfl, _, _, rfl, rfl, (by show (0 : Int) < _; decide), _, _, rfl, rfl, _, _, rfl, rfl, .inl ⟨?_, ?_⟩, _, _, rfl, rfl, .inl ⟨_, rfl, _, _, rfl, rfl, (by show (0 : Int) < _; decide), _, rfl, (by show 3 ≤ sizeLine; decide), fun p hp => ?_⟩⟩⟩⟩
        · show -(2 ^ 64) < n % 2147483399
          omega
        · show n % 2147483399 < 2 ^ 64
          omega
        · exact fin 0 (by decide) (by decide) p hp _
      · refine ⟨_, rfl, _, rfl, _, rfl, .inl ⟨_, rfl, _, _, rfl, rfl, (by show (0 : Int) < _; decide), _, rfl, _, rfl, .inl ⟨_, rfl, _, _, rfl, rfl, (by show (0 : Int) < _; decide), _, _, rfl, rfl, _, _, rfl, rfl, .inl ⟨?_, ?_⟩, _, _, rfl, rfl, .inl ⟨_, rfl, _, _, rfl, rfl, (by show (0 : Int) < _; decide), _, rfl, (by show 3 ≤ sizeLine; decide), fun p hp => ?_⟩⟩⟩⟩
        · show -(2 ^ 64) < n % 2147483399
          omega
        · show n % 2147483399 < 2 ^ 64
          omega
        · refine fin _ ?_ (Nat.le_trans (bits_mono ?_) nb) p hp _
          · split <;> omega
          · split <;> omega
    · refine ⟨_, rfl, iteF ⟨_, rfl, _, rfl, _, rfl, .inl ⟨_, rfl, _, _, rfl, rfl, (by show (0 : Int) < _; decide), _, rfl, _, rfl, .inl ⟨_, rfl, _, _, rfl, rfl, (by show (0 : Int) < _; decide), _, _, rfl, rfl, _, _, rfl, rfl, .inl ⟨?_, ?_⟩, _, _, rfl, rfl, .inl ⟨_, rfl, _, _, rfl, rfl, (by show (0 : Int) < _; decide), _, rfl, (by show 3 ≤ sizeLine; decide), fun p hp => ?_⟩⟩⟩⟩⟩
      · show -(2 ^ 64) < n % 2147483399
        omega
      · show n % 2147483399 < 2 ^ 64
        omega
      · refine fin _ ?_ (Nat.le_trans (bits_mono ?_) nb) p hp _
        · split <;> omega
        · split <;> omega
abbrev s_seed : Stmt := top 55
abbrev N_seed : List Str := ["_law_script", "_law_k", "_law_mixed", "_law_number"]
abbrev P_seed : List Str := ["_law_script", "_law_k"]
theorem sc_seed : FnScope N_seed P_seed (defScope s_seed) := ⟨rfl, rfl, rfl, by decide +kernel, rfl, by decide +kernel, by decide +kernel⟩
theorem ok_seed {f : Addr} {fd : FuncData} (D : DefAt K mg "_law_seed" s_seed P_seed f fd) (T : Txt K mg) : FnOk P w K mg base CX0 1 f fd P_seed (sp_seed K) := by
  refine D.fn.ok sc_seed (fun vs H Q E h => ?_) (fun cdv A outer s H vs Q E hr h => ?_)
  · obtain ⟨a, ns, k, rfl, _⟩ := h
    rfl
  · obtain ⟨a, ns, k, rfl, hS, bits, k0, k1, ret⟩ := h
    refine ⟨_, (pss_cons (ps_if (pt_cmpR op_lt (pv 1) (pe_callB call_len_seq (by rfl) T.len (by decide +kernel) (pa_cons (pv 0) pa_nil)) (nomark _))
      (pss_one (ps_ret (pe_ix ix_list (pv 0) (pv 1) (fun _ _ => rfl))))
      pss_nil)
      (pss_cons (ps_asg (pe_op op_add pe_int (pe_op op_mul (pe_op op_mul pe_int (pv 1)) (pv 1))) (pg_name (i := 2) sc_seed.nd rfl (.inl rfl)))
      (pss_cons (ps_for PassesOwn.never rfl (pi_list (pe_slice sl_list (pv 0) po_none (po_some pe_int))) (pg_name (i := 3) sc_seed.nd rfl (.inl rfl))
      (pss_one (ps_asg (pe_op op_mod (pe_callTy call_int1 (by rfl) T.int (by decide +kernel) (pa_cons (pe_op op_add (pe_op op_mul (pv 2) pe_int) (pv 3)) pa_nil)) pe_int) (pg_name (i := 2) sc_seed.nd rfl (.inl rfl)))))
      (pss_one (ps_ret (pv 2)))))), ?_⟩
    refine ⟨_, rfl, _, rfl, _, _, rfl, .inl hS, _, _, rfl, rfl, _, rfl, ?_⟩
    refine ite2 (fun hc => ?_) (fun hc => ?_)
    · have hlt : k < ns.length := by simpa using hc
      obtain ⟨j, rfl⟩ := Int.eq_ofNat_of_zero_le k0
      have hj : j < ns.length := by omega
      have hat : (ns.map V.int)[j]? = some (.int ns[j]) := by simp [hj]
      exact ⟨_, rfl, _, rfl, _, _, _, _, rfl, rfl, hS, atI_nat hat, ret _ _ (Same.refl H) (bits _ (List.getElem_mem _))⟩
    · refine ⟨_, rfl, _, _, rfl, rfl, .inl ⟨by decide, by decide⟩, _, rfl, _, _, rfl, rfl, .inr ⟨by omega, by omega⟩, _, _, rfl, rfl, _, rfl, _, rfl, _, _, rfl, hS, fun p hp => ?_⟩
      refine ⟨p, rfl, ⟨_, SqL.of upd_same⟩, for_list (K := K) (a := p) (xs := cutV (ns.map V.int) none (some 4)) (fun i σ' H' => ∃ (z : Int) (v : Option V), σ' = [some (.ref a), some (.int k), some (.int z), v] ∧
        H' = upd H p (.lst (cutV (ns.map V.int) none (some 4))) ∧ 0 ≤ z ∧ z < 2 ^ 50) ⟨_, none, rfl, rfl, ?_, ?_⟩ ?_ ?_ ?_⟩
      · have q : 0 ≤ k * k := Int.mul_nonneg k0 k0
        show 0 ≤ 7919 + 104729 * k * k
        rw [Int.mul_assoc]
        omega
      · have q : k * k ≤ 1000 * 1000 := Int.mul_le_mul (by omega) (by omega) k0 (by decide)
        show 7919 + 104729 * k * k < 2 ^ 50
        rw [Int.mul_assoc]
        omega
      · rintro i σ' H' _ ⟨z, v, _, rfl, _⟩
        exact SqL.of upd_same
      · rintro i x σ' H' hx ⟨z, v, rfl, rfl, _, _⟩
        have hm : x ∈ ns.map V.int := by
          have q := List.mem_of_getElem? hx
          exact List.mem_of_mem_drop (List.mem_of_mem_take q)
        obtain ⟨n, _, rfl⟩ := List.mem_map.mp hm
        refine ⟨_, rfl, _, _, rfl, rfl, .inr ⟨by decide, by decide⟩, _, rfl, _, _, rfl, rfl, .inl ⟨_, rfl, _, _, rfl, rfl, (by show (0 : Int) < _; decide), ?_⟩⟩
        refine ⟨_, _, rfl, rfl, ?_, ?_⟩
        · exact Int.emod_nonneg _ (by decide)
        · have q := Int.emod_lt_of_pos (z * 52711 + n) (b := 2147483563) (by decide)
          show (z * 52711 + n) % 2147483563 < 2 ^ 50
          omega
      · rintro σ' H' ⟨z, v, rfl, rfl, z0, z1⟩
        refine ⟨_, rfl, ret _ _ (same_new hp) (bits_small ?_)⟩
        have : z.natAbs < 2 ^ 50 := by omega
        exact Nat.lt_trans this (Nat.pow_lt_pow_right (by decide) (by decide))
end L

namespace Hv
open PySem L2
abbrev text (n : Nat) : Str := Str.ofString (toString ((n : Nat) : Int))
def numOf (z : Str) (most : Nat) : Option Nat := (List.range (most + 1)).find? fun n => decide (text n = z)
def numV : Option Nat → V
  | some n => .int (n : Int)
  | none => .non
theorem text_int : ∀ n < 13, intText? (text n) = some (n : Int) := by decide +kernel
theorem text_len : ∀ m < 13, ∀ n < m + 1, 1 ≤ (text n).length ∧ (text n).length ≤ (text m).length := by decide +kernel
theorem text_digits : ∀ n < 13, ∀ c ∈ (text n).cps.toList, c ∈ (Str.ofString "0123456789").cps.toList := by decide +kernel
theorem text_short : ∀ m < 13, (text m).length ≤ 2 := by decide +kernel
theorem digits_in : ∀ c ∈ (Str.ofString "0123456789").cps.toList, 48 ≤ c ∧ c ≤ 57 := by decide +kernel
theorem numOf_some {z : Str} {m n : Nat} (h : numOf z m = some n) : n ≤ m ∧ text n = z := by
  unfold numOf at h
  have h1 := List.mem_of_find?_eq_some h
  have h2 := List.find?_some h
  exact ⟨by have := List.mem_range.mp h1; omega, of_decide_eq_true h2⟩
theorem numOf_of {z : Str} {m n : Nat} (hm : m ≤ 12) (hn : n ≤ m) (e : text n = z) : numOf z m = some n := by
  cases q : numOf z m with
  | none =>
    unfold numOf at q
    have := (List.find?_eq_none.mp q) n (List.mem_range.mpr (by omega))
    exact absurd (decide_eq_true e) this
  | some k =>
    obtain ⟨h1, h2⟩ := numOf_some q
    have a := text_int n (by omega)
    have b := text_int k (by omega)
    rw [e] at a
    rw [h2, a] at b
    have := Option.some.inj b
    rw [Int.ofNat.inj this]
theorem numOf_none {z : Str} {m : Nat} (h : ∀ n, n ≤ m → text n ≠ z) : numOf z m = none := by
  cases q : numOf z m with
  | none => rfl
  | some k => exact absurd (numOf_some q).2 (h k (numOf_some q).1)
/-- the signs are all digits: the text is a number's -/
theorem all_digits {z : Str} (h1 : 1 ≤ z.length) (h2 : z.length ≤ 2) (h : ∀ c ∈ z.cps.toList, c ∈ (Str.ofString "0123456789").cps.toList) : ∃ n : Nat, intText? z = some (n : Int) := by
  have e : z = SX.S z.cps.toList := by
    cases z
    rfl
  refine ⟨NumText.digitsVal z.cps.toList, ?_⟩
  rw [e]
  refine SX.int_S ?_ ?_ ?_
  · rw [List.all_eq_true]
    intro c hc
    have := digits_in c (h c (by simpa using hc))
    rw [Bool.and_eq_true, decide_eq_true_eq, decide_eq_true_eq]
    exact this
  · intro q
    have : z.cps.toList.length = 0 := by rw [q]; rfl
    have l : z.length = z.cps.toList.length := by
      show z.cps.size = _
      simp
    omega
  · have l : z.length = z.cps.toList.length := by
      show z.cps.size = _
      simp
    omega

abbrev MARK : Str := Str.ofString "over "
abbrev SLASH : Str := Str.ofString "/"
def isOver (z : Str) : Bool := Txt.startswith z MARK
def fracOf (z : Str) : Option (Nat × Nat) :=
  match Txt.split (Txt.removeprefix z MARK) SLASH with
  | [a, b] =>
    match numOf a 12, numOf b 12 with
    | some p, some q => if q < 1 ∨ 1 < Nat.gcd p q then none else if p + (if isOver z then 1 else 0) ≤ q then some (p, q) else none
    | _, _ => none
  | _ => none
theorem fracOf_le {z : Str} {p q : Nat} (h : fracOf z = some (p, q)) : p ≤ 12 ∧ q ≤ 12 ∧ 1 ≤ q ∧ p ≤ q ∧ Nat.gcd p q = 1 := by
  unfold fracOf at h
  split at h
  · rename_i a b _
    cases e1 : numOf a 12 with
    | none => rw [e1] at h; cases h
    | some p1 =>
      cases e2 : numOf b 12 with
      | none => rw [e1, e2] at h; cases h
      | some q1 =>
        rw [e1, e2] at h
        dsimp only at h
        have l1 := (numOf_some e1).1
        have l2 := (numOf_some e2).1
        by_cases c : q1 < 1 ∨ 1 < Nat.gcd p1 q1
        · rw [if_pos c] at h; cases h
        · rw [if_neg c] at h
          by_cases d : p1 + (if isOver z = true then 1 else 0) ≤ q1
          · rw [if_pos d] at h
            cases h
            have g : 0 < Nat.gcd p q := Nat.gcd_pos_of_pos_right _ (by omega)
            refine ⟨l1, l2, by omega, by omega, by omega⟩
          · rw [if_neg d] at h; cases h
  · cases h
/-- what fraction_of asks of a text's length -/
structure TextOk (z : Str) : Prop where
  own : z.length + 2 ≤ sizeLine
  cut : (Txt.removeprefix z MARK).length + 2 ≤ sizeLine
  part : ∀ p ∈ Txt.split (Txt.removeprefix z MARK) SLASH, p.length ≤ sizeLine
/-- whether p of w meet the bound z, which is a / b -/
def met (z : Str) (a b : Nat) (p w : Int) : Bool := if isOver z then decide (w * a < p * b) else decide (w * a ≤ p * b)

theorem fracOf_len {z : Str} (h : (Txt.split (Txt.removeprefix z MARK) SLASH).length ≠ 2) : fracOf z = none := by
  unfold fracOf
  split
  · rename_i e
    rw [e] at h
    exact absurd rfl h
  · rfl
theorem fracOf_two {z a b : Str} (e : Txt.split (Txt.removeprefix z MARK) SLASH = [a, b]) : fracOf z = match numOf a 12, numOf b 12 with
    | some p, some q => if q < 1 ∨ 1 < Nat.gcd p q then none else if p + (if isOver z then 1 else 0) ≤ q then some (p, q) else none
    | _, _ => none := by
  unfold fracOf
  rw [e]
theorem two_of {l : List Str} (h : l.length = 2) : ∃ a b, l = [a, b] := by
  match l, h with
  | [a, b], _ => exact ⟨a, b, rfl⟩
/-! promises -/
def sp_is_integer (K : PySem.W.Frag) : Sp := fun vs H Q _ => ∃ (v : V) (t : Value) (b1 b2 : Bool), vs = [v] ∧ TyX K H v t ∧ PySem.W.kitOne K t (.type "int") = some b1 ∧
  PySem.W.kitOne K t (.type "bool") = some b2 ∧ Q (.bl (b1 && !b2)) H
def sp_gcd : Sp := fun vs H Q _ => ∃ (a b : Nat), vs = [.int a, .int b] ∧ Q (.int (Nat.gcd a b : Nat)) H
def sp_number_of : Sp := fun vs H Q _ => ∃ (z : Str) (m : Nat), vs = [.str z, .int m] ∧ z.length ≤ sizeLine ∧ m ≤ 12 ∧ ∀ H', Same H H' → Q (numV (numOf z m)) H'
/-- of a text, or of another value -/
def sp_fraction_of (K : PySem.W.Frag) : Sp := fun vs H Q _ =>
  (∃ z : Str, vs = [.str z] ∧ TextOk z ∧ (fracOf z = none → ∀ H', Same H H' → Q .non H') ∧
    ∀ a b, fracOf z = some (a, b) → ∀ p H', H p = none → Same H H' → H' p = some (.tup [.int (a : Int), .int (b : Int)]) → Q (.ref p) H') ∨
  ∃ (v : V) (t : Value), vs = [v] ∧ TyX K H v t ∧ PySem.W.kitOne K t (.type "str") = some false ∧ Q .non H
def sp_is_bound (K : PySem.W.Frag) : Sp := fun vs H Q _ =>
  (∃ z : Str, vs = [.str z] ∧ TextOk z ∧ ∀ H', Same H H' → Q (.bl (fracOf z).isSome) H') ∨
  ∃ (v : V) (t : Value), vs = [v] ∧ TyX K H v t ∧ PySem.W.kitOne K t (.type "str") = some false ∧ Q (.bl false) H
def sp_bound_met : Sp := fun vs H Q _ => ∃ (z : Str) (a b : Nat) (p w : Int), vs = [.str z, .int p, .int w] ∧ TextOk z ∧ fracOf z = some (a, b) ∧ ∀ H', Same H H' → Q (.bl (met z a b p w)) H'
end Hv
namespace L
open PySem L2 Hv
variable {P : Program} {w : World} {K : PySem.W.Frag} {mg : Str → Option Value} {base : Heap}
abbrev s_is_integer : Stmt := top 42
abbrev N_is_integer : List Str := ["value"]
abbrev P_is_integer : List Str := ["value"]
theorem sc_is_integer : FnScope N_is_integer P_is_integer (defScope s_is_integer) := ⟨rfl, rfl, rfl, by decide +kernel, rfl, by decide +kernel, by decide +kernel⟩
theorem ok_is_integer {f : Addr} {fd : FuncData} (D : DefAt K mg "is_integer" s_is_integer P_is_integer f fd) (T : Txt K mg) : FnOk P w K mg base CX0 1 f fd P_is_integer (sp_is_integer K) := by
  refine D.fn.ok sc_is_integer (fun vs H Q E h => ?_) (fun cdv A outer s H vs Q E hr h => ?_)
  · obtain ⟨v, t, b1, b2, rfl, _⟩ := h
    rfl
  · obtain ⟨v, t, b1, b2, rfl, ty, k1, k2, ret⟩ := h
    refine ⟨_, (pss_one (ps_ret (pe_and (pe_callB call_isi (by rfl) T.isinstance (by decide +kernel) (pa_cons (pv 0) (pa_cons (pe_bltn (v := .ty "int") (u := .type "int") (by rfl) T.int (by decide +kernel) rfl) pa_nil))) (pe_one (pe_not (pe_callB call_isi (by rfl) T.isinstance (by decide +kernel) (pa_cons (pv 0) (pa_cons (pe_bltn (v := .ty "bool") (u := .type "bool") (by rfl) T.bool (by decide +kernel) rfl) pa_nil)))))))), ?_⟩
    refine ⟨_, rfl, _, _, _, _, _, rfl, .ty _, ty, k1, _, rfl, ?_⟩
    cases b1 with
    | true => exact iteT ⟨_, rfl, _, _, _, _, _, rfl, .ty _, ty, k2, _, rfl, ret⟩
    | false => exact iteF ret
abbrev s_common_divisor : Stmt := top 44
abbrev N_common_divisor : List Str := ["one", "other"]
abbrev P_common_divisor : List Str := ["one", "other"]
theorem sc_common_divisor : FnScope N_common_divisor P_common_divisor (defScope s_common_divisor) := ⟨rfl, rfl, rfl, by decide +kernel, rfl, by decide +kernel, by decide +kernel⟩
theorem ok_common_divisor {f : Addr} {fd : FuncData} (D : DefAt K mg "common_divisor" s_common_divisor P_common_divisor f fd) (T : Txt K mg) : FnOk P w K mg base CX0 1 f fd P_common_divisor sp_gcd := by
  refine D.fn.ok sc_common_divisor (fun vs H Q E h => ?_) (fun cdv A outer s H vs Q E hr h => ?_)
  · obtain ⟨a, b, rfl, _⟩ := h
    rfl
  · obtain ⟨a, b, rfl, ret⟩ := h
    refine ⟨_, (pss_cons (ps_while PassesOwn.never (pt_cmpR op_gt (pv 1) pe_int (nomark _))
      (pss_one (ps_par (i := 0) (j := 1) (by rfl) sc_common_divisor.nd rfl rfl (by decide) rfl rfl (pa_cons (pv 1) (pa_cons (pe_op op_mod (pe_callTy call_int1 (by rfl) T.int (by decide +kernel) (pa_cons (pv 0) pa_nil)) (pv 1)) pa_nil)) (by rfl))))
      (pss_one (ps_ret (pv 0)))), ?_⟩
    refine ⟨fun m σ' H' => ∃ x y : Nat, σ' = [some (.int (x : Int)), some (.int (y : Int))] ∧ Nat.gcd x y = Nat.gcd a b ∧ m = y ∧ H' = H, ⟨b, a, b, rfl, rfl, rfl, rfl⟩, ?_⟩
    rintro m σ' H' ⟨x, y, rfl, e, rfl, rfl⟩
    refine ⟨_, rfl, _, _, rfl, rfl, _, rfl, ?_⟩
    refine ite2 (fun hc => ?_) (fun hc => ?_)
    · have hy : 0 < m := by have := of_decide_eq_true hc; omega
      refine ⟨fun σ2 H2 => σ2 = [some (.int (m : Int)), some (.int ((x % m : Nat) : Int))] ∧ H2 = H', ?_, ?_⟩
      · rintro σ2 H2 ⟨rfl, rfl⟩
        refine ⟨x % m, Nat.mod_lt _ hy, m, x % m, rfl, ?_, rfl, rfl⟩
        rw [Nat.gcd_comm, ← Nat.gcd_rec, Nat.gcd_comm, e]
      · refine ⟨_, rfl, _, rfl, .inl ⟨_, rfl, _, rfl, _, _, rfl, rfl, ?_, _, _, rfl, ?_, rfl⟩⟩
        · show (0 : Int) < m
          omega
        · rfl
    · have hy : m = 0 := by
        have : ¬ (0 : Int) < (m : Int) := fun q => hc (decide_eq_true q)
        omega
      subst hy
      refine ⟨_, rfl, ?_⟩
      rw [Nat.gcd_zero_right] at e
      rw [e]
      exact ret
abbrev s_number_of : Stmt := top 45
abbrev N_number_of : List Str := ["word", "most", "number", "sign"]
abbrev P_number_of : List Str := ["word", "most"]
theorem sc_number_of : FnScope N_number_of P_number_of (defScope s_number_of) := ⟨rfl, rfl, rfl, by decide +kernel, rfl, by decide +kernel, by decide +kernel⟩
theorem ok_number_of {f : Addr} {fd : FuncData} (D : DefAt K mg "number_of" s_number_of P_number_of f fd) (T : Txt K mg) : FnOk P w K mg base CX0 1 f fd P_number_of sp_number_of := by
  refine D.fn.ok sc_number_of (fun vs H Q E h => ?_) (fun cdv A outer s H vs Q E hr h => ?_)
  · obtain ⟨z, m, rfl, _⟩ := h
    rfl
  · obtain ⟨z, m, rfl, hz, hm, ret⟩ := h
    refine ⟨_, (pss_cons (ps_if (PW.pt (pw_or (pt_not (pt_chain op_le op_le pe_int (pe_callB call_len_str (by rfl) T.len (by decide +kernel) (pa_cons (pv 0) pa_nil)) (pe_callB call_len_str (by rfl) T.len (by decide +kernel) (pa_cons (pe_callTy call_str_int (by rfl) T.str (by decide +kernel) (pa_cons (pv 1) pa_nil)) pa_nil)))) (pw_or1 (pt_val (pe_callB (cr_any rfl) (by rfl) T.any (by decide +kernel) (pa_cons (pe_lc (own := [("sign", 3)]) (g := gName 3) rfl sc_number_of.nd (pi_str (pv 0)) (blkOk_by (own := [("sign", 3)]) (N := N_number_of) (sc := defScope s_number_of) (by decide +kernel)) (fun _ _ _ _ _ => (pg_name (i := 3) sc_number_of.nd rfl (.inl rfl))) (fun _ _ _ _ _ => pts_nil) (fun _ _ _ _ _ => (pe_cmpR op_notIn_sign (pv 3) (pe_glob (v := .str "0123456789") rfl T.cDIGITS.choose_spec ⟨_, rfl⟩) (by rfl)))) pa_nil))))))
      (pss_one (ps_ret pe_non))
      pss_nil)
      (pss_cons (ps_asg (pe_callTy call_int_str (by rfl) T.int (by decide +kernel) (pa_cons (pv 0) pa_nil)) (pg_name (i := 2) sc_number_of.nd rfl (.inl rfl)))
      (pss_one (ps_ret (pe_ifExp (PW.pt (pw_and (pt_cmpR op_le (pv 2) (pv 1) (nomark _)) (pw_and1 (pt_cmpR op_eq (pe_callTy call_str_int (by rfl) T.str (by decide +kernel) (pa_cons (pv 2) pa_nil)) (pv 0) (nomark _))))) (pv 2) pe_non))))), ?_⟩
    have none_ : numOf z m = none → ∀ H', Same H H' → Q .non H' := fun e H' s => by
      have q := ret H' s
      rw [e] at q
      exact q
    refine ⟨_, rfl, _, rfl, hz, _, _, rfl, rfl, _, rfl, ?_⟩
    refine ite2 (fun hc => ?_) (fun hc => ?_)
    · have c1 : (1 : Int) ≤ z.length := of_decide_eq_true hc
      have lg : (m : Int).natAbs.log2 < 1920 := Nat.lt_of_le_of_lt (log2_mono (show (m : Int).natAbs ≤ 12 by omega)) (by decide)
      refine ⟨_, rfl, _, rfl, lg, _, rfl, ?_, _, _, rfl, rfl, _, rfl, ?_⟩
      · exact Nat.le_trans (text_short m (by omega)) (by decide)
      refine ite2 (fun hc2 => ?_) (fun hc2 => ?_)
      · -- the length does not fit
        refine none_ (numOf_none fun n hn e => ?_) _ (Same.refl H)
        have l := (text_len m (by omega) n (by omega)).2
        rw [e] at l
        have : ¬ ((z.length : Int) ≤ ((text m).length : Int)) := nT hc2
        omega
      · have c2 : (z.length : Int) ≤ ((text m).length : Int) := nF hc2
        have c3 := text_short m (by omega)
        refine ⟨_, rfl, _, rfl, fun L hL => ?_⟩
        refine lc_it walk_str (fun i H' => H' = upd H L (.lst ((z.cps.toList.take i).map fun c => V.bl (!decide (c ∈ (Str.ofString "0123456789").cps.toList))))) ?_ (fun _ _ _ _ => trivial) ?_ ?_
        · rfl
        · rintro i x H1 H2 hi rfl ⟨rfl, c, hc, rfl⟩
          refine ⟨rfl, _, rfl, c, _, rfl, rfl, _, upd_same, ?_, ?_⟩
          · rw [List.length_map, List.length_take]
            have : z.cps.toList.length = z.length := by
              show _ = z.cps.size
              simp
            have s2 : 2 < sizeLine := by decide
            omega
          · rw [upd_upd, List.take_succ]
            have e : z.cps.toList[i]? = some c := by simpa using hc
            rw [e, List.map_append]
            rfl
        · rintro H1 rfl
          have e : List.take z.cps.size z.cps.toList = z.cps.toList := List.take_of_length_le (by simp)
          rw [e]
          refine ⟨_, z.cps.toList.map fun c => !decide (c ∈ (Str.ofString "0123456789").cps.toList), rfl, SqL.of (by rw [upd_same, List.map_map]; rfl), _, rfl, ?_⟩
          refine ite2 (fun ha => ?_) (fun ha => ?_)
          · refine none_ (numOf_none fun n hn q => ?_) _ (same_new hL)
            rw [List.any_map, List.any_eq_true] at ha
            obtain ⟨c, hc, hd⟩ := ha
            have := text_digits n (by omega) c (by rw [q]; exact hc)
            exact nT (p := c ∈ (Str.ofString "0123456789").cps.toList) hd this
          · have dg : ∀ c ∈ z.cps.toList, c ∈ (Str.ofString "0123456789").cps.toList := by
              intro c hc
              by_cases q : c ∈ (Str.ofString "0123456789").cps.toList
              · exact q
              · exfalso
                apply ha
                rw [List.any_map, List.any_eq_true]
                exact ⟨c, hc, by show (!decide (c ∈ (Str.ofString "0123456789").cps.toList)) = true; rw [decide_eq_false q]; rfl⟩
            obtain ⟨n, hn⟩ := all_digits (by omega) (by omega) dg
            refine ⟨_, rfl, _, _, rfl, hn, by omega, _, rfl, _, rfl, _, _, rfl, rfl, _, rfl, ?_⟩
            have no : ¬ (n ≤ m ∧ text n = z) → numOf z m = none := fun q => numOf_none fun k hk e => q (by
              have a := text_int k (by omega)
              rw [e, hn] at a
              have b : n = k := by have := Option.some.inj a; omega
              rw [b]
              exact ⟨hk, e⟩)
            refine ite2 (fun h1 => ?_) (fun h1 => ?_)
            · have h1' : n ≤ m := by have := of_decide_eq_true h1; omega
              have lg : (n : Int).natAbs.log2 < 1920 := Nat.lt_of_le_of_lt (log2_mono (show (n : Int).natAbs ≤ 12 by omega)) (by decide)
              refine ⟨_, rfl, _, rfl, lg, _, rfl, rfl, _, rfl, ?_⟩
              refine ite2 (fun h2 => ?_) (fun h2 => ?_)
              · have h2' : text n = z := V.str.inj (of_decide_eq_true h2)
                refine ⟨_, rfl, ?_⟩
                have q := ret _ (same_new (o := .lst (z.cps.toList.map fun c => V.bl (!decide (c ∈ (Str.ofString "0123456789").cps.toList)))) hL)
                rw [numOf_of hm h1' h2'] at q
                exact q
              · refine none_ (no fun q => h2 (decide_eq_true ?_)) _ (same_new hL)
                rw [← q.2]
            · refine iteF (none_ (no fun q => h1 (decide_eq_true ?_)) _ (same_new hL))
              have := q.1
              omega
    · refine ⟨_, rfl, iteT (none_ (numOf_none fun n hn e => ?_) _ (Same.refl H))⟩
      have l := (text_len m (by omega) n (by omega)).1
      rw [e] at l
      have : ¬ ((1 : Int) ≤ (z.length : Int)) := dF hc
      omega
abbrev s_fraction_of : Stmt := top 48
abbrev N_fraction_of : List Str := ["bound", "words", "part", "whole"]
abbrev P_fraction_of : List Str := ["bound"]
theorem sc_fraction_of : FnScope N_fraction_of P_fraction_of (defScope s_fraction_of) := ⟨rfl, rfl, rfl, by decide +kernel, rfl, by decide +kernel, by decide +kernel⟩
theorem ok_fraction_of {f f1 f2 : Addr} {fd fd1 fd2 : FuncData} (D : DefAt K mg "fraction_of" s_fraction_of P_fraction_of f fd) (T : Txt K mg)
    (D_number_of : DefAt K mg "number_of" s_number_of P_number_of f1 fd1) (D_common_divisor : DefAt K mg "common_divisor" s_common_divisor P_common_divisor f2 fd2) :
    FnOk P w K mg base CX0 2 f fd P_fraction_of (sp_fraction_of K) := by
  have G_number_of : FnOk P w K mg base CX0 1 f1 fd1 P_number_of sp_number_of := ok_number_of D_number_of T
  have G_common_divisor : FnOk P w K mg base CX0 1 f2 fd2 P_common_divisor sp_gcd := ok_common_divisor D_common_divisor T
  refine D.fn.ok sc_fraction_of (fun vs H Q E h => ?_) (fun cdv A outer s H vs Q E hr h => ?_)
  · rcases h with ⟨z, rfl, _⟩ | ⟨v, t, rfl, _⟩ <;> rfl
  · refine ⟨_, (pss_cons (ps_if (pt_not (pt_val (pe_callB call_isi (by rfl) T.isinstance (by decide +kernel) (pa_cons (pv 0) (pa_cons (pe_bltn (v := .ty "str") (u := .type "str") (by rfl) T.str (by decide +kernel) rfl) pa_nil)))))
      (pss_one (ps_ret pe_non))
      pss_nil)
      (pss_cons (ps_asg (pe_split (pe_bm PySem.F.plainAttrs_str PySem.F.slot_str_removeprefix PySem.F.type_str_removeprefix mt_removeprefix (pv 0) (pa_cons (pe_glob (v := .str "over ") rfl T.cMARK.choose_spec ⟨_, rfl⟩) pa_nil)) pe_str) (pg_name (i := 1) sc_fraction_of.nd rfl (.inl rfl)))
      (pss_cons (ps_if (pt_cmpR op_ne (pe_callB call_len_seq (by rfl) T.len (by decide +kernel) (pa_cons (pv 1) pa_nil)) pe_int (nomark _))
      (pss_one (ps_ret pe_non))
      pss_nil)
      (pss_cons (ps_par (i := 2) (j := 3) (by rfl) sc_fraction_of.nd rfl rfl (by decide) rfl rfl (pa_cons (pe_call G_number_of (hr.mono (by decide)) rfl D_number_of.mg D_number_of.fn.kp D_number_of.bd .nil pass0 (pa_cons (pe_ix ix_list (pv 1) pe_int (fun _ _ => rfl)) (pa_cons (pe_glob (v := .int 12) rfl T.cMOST_PART.choose_spec ⟨_, rfl⟩) pa_nil))) (pa_cons (pe_call G_number_of (hr.mono (by decide)) rfl D_number_of.mg D_number_of.fn.kp D_number_of.bd .nil pass0 (pa_cons (pe_ix ix_list (pv 1) pe_int (fun _ _ => rfl)) (pa_cons (pe_glob (v := .int 12) rfl T.cMOST_PART.choose_spec ⟨_, rfl⟩) pa_nil))) pa_nil)) (by rfl))
      (pss_cons (ps_if (PW.pt (pw_or (pt_cmpR op_isN (pv 2) pe_non (nomark _)) (pw_or (pt_cmpR op_isN (pv 3) pe_non (nomark _)) (pw_or (pt_cmpR op_lt (pv 3) pe_int (nomark _)) (pw_or1 (pt_cmpR op_gt (pe_call G_common_divisor (hr.mono (by decide)) rfl D_common_divisor.mg D_common_divisor.fn.kp D_common_divisor.bd .nil pass0 (pa_cons (pv 2) (pa_cons (pv 3) pa_nil))) pe_int (nomark _)))))))
      (pss_one (ps_ret pe_non))
      pss_nil)
      (pss_one (ps_ret (pe_ifExp (pt_cmpR op_le (pe_op op_add (pv 2) (pe_ifExp (pt_val (pe_m1 PySem.F.slot_str_startswith PySem.F.type_str_startswith mt_startswith (pv 0) (pe_glob (v := .str "over ") rfl T.cMARK.choose_spec ⟨_, rfl⟩))) pe_int pe_int)) (pv 3) (nomark _)) (pe_tup (pa_cons (pv 2) (pa_cons (pv 3) pa_nil))) pe_non)))))))), ?_⟩
    rcases h with ⟨z, rfl, ok, rn, rs⟩ | ⟨v, t, rfl, ty, kit, ret⟩
    · refine ⟨_, rfl, _, _, _, _, _, rfl, .ty _, .base (.str z), kit_ty (r := true) (by decide +kernel), _, rfl, ?_⟩
      refine ⟨_, rfl, rfl, _, _, rfl, rfl, by have := ok.own; omega, ⟨_, rfl⟩, _, _, rfl, rfl, by decide, ok.cut, fun p hp => ?_⟩
      have hL := upd_same (H := H) (a := p) (o := .lst ((Txt.split (Txt.removeprefix z MARK) SLASH).map V.str))
      have sm : Same H (upd H p (.lst ((Txt.split (Txt.removeprefix z MARK) SLASH).map V.str))) := same_new hp
      refine ⟨_, rfl, _, _, rfl, .inl (SqL.of hL), rfl, _, rfl, ?_⟩
      refine ite2 (fun hc => ?_) (fun hc => ?_)
      · refine rn (fracOf_len fun q => nT hc ?_) _ sm
        rw [List.length_map, q]
        rfl
      · have l2 : (Txt.split (Txt.removeprefix z MARK) SLASH).length = 2 := by
          have := V.int.inj (nF hc)
          rw [List.length_map] at this
          omega
        obtain ⟨a, b, e⟩ := two_of l2
        have la : a.length ≤ sizeLine := ok.part a (by rw [e]; simp)
        have lb : b.length ≤ sizeLine := ok.part b (by rw [e]; simp)
        rw [e] at hL sm ⊢
        have fe := fracOf_two e
        refine ⟨_, rfl, _, _, _, _, rfl, rfl, SqL.of hL, rfl, a, 12, rfl, la, by decide, fun H1 s1 => ?_⟩
        refine ⟨_, rfl, _, _, _, _, rfl, rfl, SqL.of (s1 _ _ hL), rfl, b, 12, rfl, lb, by decide, fun H2 s2 => ⟨_, _, rfl, ?_⟩⟩
        have sm2 : Same H H2 := (sm.trans s1).trans s2
        cases e1 : numOf a 12 with
        | none =>
          rw [e1] at fe
          refine ⟨_, rfl, rfl, _, rfl, ?_⟩
          exact ifT rfl (rn fe _ sm2)
        | some x =>
          cases e2 : numOf b 12 with
          | none =>
            rw [e1, e2] at fe
            refine ⟨_, rfl, rfl, _, rfl, ?_⟩
            refine ifF (fun q => by cases q) ⟨_, rfl, rfl, _, rfl, ?_⟩
            exact ifT rfl (rn fe _ sm2)
          | some y =>
            rw [e1, e2] at fe
            dsimp only at fe
            refine ⟨_, rfl, rfl, _, rfl, ?_⟩
            refine ifF (fun q => by cases q) ⟨_, rfl, rfl, _, rfl, ?_⟩
            refine ifF (fun q => by cases q) ⟨_, rfl, _, _, rfl, rfl, _, rfl, ?_⟩
            by_cases y1 : y < 1
            · refine ifT (by omega) (rn ?_ _ sm2)
              rw [fe, if_pos (.inl y1)]
            · refine ifF (by omega) ⟨_, rfl, _, rfl, x, y, rfl, _, _, rfl, rfl, _, rfl, ?_⟩
              by_cases g : 1 < Nat.gcd x y
              · refine ifT (by omega) (rn ?_ _ sm2)
                rw [fe, if_pos (.inr g)]
              · refine ifF (by omega) ⟨_, rfl, _, rfl, ⟨_, rfl⟩, _, _, rfl, rfl, _, rfl, ?_⟩
                rw [if_neg (by omega)] at fe
                have fin : ∀ k : Nat, k = (if isOver z = true then 1 else 0) → ∀ i : Int, i = k → (if decide ((x : Int) + i ≤ (y : Int)) = true then
                    tTup (tCons (tVar 2) (tCons (tVar 3) tNil)) [some (V.str z), some (V.ref p), some (V.int (x : Int)), some (V.int (y : Int))] H2 Q
                    else Q .non H2) := by
                  intro k hk i hi
                  by_cases c : x + k ≤ y
                  · refine ifT (by omega) ⟨_, rfl, _, rfl, by show 2 ≤ sizeLine; decide, fun t ht => ?_⟩
                    rw [← hk, if_pos c] at fe
                    exact rs x y fe t _ (sm2.free ht) (sm2.trans (same_new ht)) upd_same
                  · refine ifF (by omega) (rn ?_ _ sm2)
                    rw [fe, ← hk, if_neg c]
                cases ov : isOver z with
                | true =>
                  have ov' : Txt.startswith z MARK = true := ov
                  rw [ov']
                  exact ⟨_, _, rfl, rfl, _, rfl, _, _, rfl, rfl, _, rfl, fin 1 (by rw [ov]; rfl) 1 rfl⟩
                | false =>
                  have ov' : Txt.startswith z MARK = false := ov
                  rw [ov']
                  exact ⟨_, _, rfl, rfl, _, rfl, _, _, rfl, rfl, _, rfl, fin 0 (by rw [ov]; rfl) 0 rfl⟩
    · exact ⟨_, rfl, _, _, _, _, _, rfl, .ty _, ty, kit, _, rfl, ret⟩
abbrev s_is_bound : Stmt := top 49
abbrev N_is_bound : List Str := ["value"]
abbrev P_is_bound : List Str := ["value"]
theorem sc_is_bound : FnScope N_is_bound P_is_bound (defScope s_is_bound) := ⟨rfl, rfl, rfl, by decide +kernel, rfl, by decide +kernel, by decide +kernel⟩
theorem ok_is_bound {f f1 : Addr} {fd fd1 : FuncData} (D : DefAt K mg "is_bound" s_is_bound P_is_bound f fd) (D_fraction_of : DefAt K mg "fraction_of" s_fraction_of P_fraction_of f1 fd1)
    (G_fraction_of : FnOk P w K mg base CX0 2 f1 fd1 P_fraction_of (sp_fraction_of K)) : FnOk P w K mg base CX0 3 f fd P_is_bound (sp_is_bound K) := by
  refine D.fn.ok sc_is_bound (fun vs H Q E h => ?_) (fun cdv A outer s H vs Q E hr h => ?_)
  · rcases h with ⟨z, rfl, _⟩ | ⟨v, t, rfl, _⟩ <;> rfl
  · refine ⟨_, (pss_one (ps_ret (pe_cmpR op_notN (pe_call G_fraction_of (hr.mono (by decide)) rfl D_fraction_of.mg D_fraction_of.fn.kp D_fraction_of.bd .nil pass0 (pa_cons (pv 0) pa_nil)) pe_non (nomark _)))), ?_⟩
    rcases h with ⟨z, rfl, ok, ret⟩ | ⟨v, t, rfl, ty, kit, ret⟩
    · refine ⟨_, rfl, .inl ⟨z, rfl, ok, fun e H' sm => ?_, fun a b e p H' hp sm h' => ?_⟩⟩
      · have q := ret H' sm
        rw [e] at q
        exact ⟨rfl, q⟩
      · have q := ret H' sm
        rw [e] at q
        exact ⟨rfl, q⟩
    · exact ⟨_, rfl, .inr ⟨v, t, rfl, ty, kit, rfl, ret⟩⟩
end L

namespace Hv
open PySem L2
theorem str_len (z : Str) : z.cps.toList.length = z.length := by
  show _ = z.cps.size
  simp
end Hv

namespace Hv
open PySem L2
abbrev LETS : Str := Str.ofString "abcdefghijklmnopqrstuvwxyz"
abbrev DIGS : Str := Str.ofString "0123456789"
def signOk (c : Nat) : Bool := decide (c ∈ LETS.cps.toList) || decide (c ∈ DIGS.cps.toList)
/-- a name: one to eight signs, a letter first -/
def nameOk (z : Str) : Bool := match z.cps.toList with
  | [] => false
  | c :: _ => decide (z.length ≤ 8) && decide (c ∈ LETS.cps.toList) && z.cps.toList.all signOk
theorem atI_zero {α : Type} (c : α) (cs : List α) : atI (c :: cs) 0 = some c := by
  have h : ¬ ((cs.length : Int) + 1 ≤ 0) := by omega
  simp [atI, ixN]
  try omega
/-- of a text, or of another value -/
def sp_is_name (K : PySem.W.Frag) : Sp := fun vs H Q _ =>
  (∃ z : Str, vs = [.str z] ∧ z.length ≤ sizeLine ∧ ∀ H', Same H H' → Q (.bl (nameOk z)) H') ∨
  ∃ (v : V) (t : Value), vs = [v] ∧ TyX K H v t ∧ PySem.W.kitOne K t (.type "str") = some false ∧ Q (.bl false) H
end Hv
namespace L
open PySem L2 Hv
variable {P : Program} {w : World} {K : PySem.W.Frag} {mg : Str → Option Value} {base : Heap}
abbrev s_is_name : Stmt := top 43
abbrev N_is_name : List Str := ["value", "sign"]
abbrev P_is_name : List Str := ["value"]
theorem sc_is_name : FnScope N_is_name P_is_name (defScope s_is_name) := ⟨rfl, rfl, rfl, by decide +kernel, rfl, by decide +kernel, by decide +kernel⟩
theorem ok_is_name {f : Addr} {fd : FuncData} (D : DefAt K mg "is_name" s_is_name P_is_name f fd) (T : Txt K mg) : FnOk P w K mg base CX0 1 f fd P_is_name (sp_is_name K) := by
  refine D.fn.ok sc_is_name (fun vs H Q E h => ?_) (fun cdv A outer s H vs Q E hr h => ?_)
  · rcases h with ⟨z, rfl, _⟩ | ⟨v, t, rfl, _⟩ <;> rfl
  · refine ⟨_, (pss_cons (ps_if (PW.pt (pw_or (pt_not (pt_val (pe_callB call_isi (by rfl) T.isinstance (by decide +kernel) (pa_cons (pv 0) (pa_cons (pe_bltn (v := .ty "str") (u := .type "str") (by rfl) T.str (by decide +kernel) rfl) pa_nil))))) (pw_or (pt_not (pt_chain op_le op_le pe_int (pe_callB call_len_str (by rfl) T.len (by decide +kernel) (pa_cons (pv 0) pa_nil)) pe_int)) (pw_or1 (pt_cmpR op_notIn_sign (pe_ix ix_str (pv 0) pe_int (fun _ _ => rfl)) (pe_glob (v := .str "abcdefghijklmnopqrstuvwxyz") rfl T.cLETTERS.choose_spec ⟨_, rfl⟩) (by rfl))))))
      (pss_one (ps_ret pe_bl))
      pss_nil)
      (pss_one (ps_ret (pe_callB (cr_all rfl) (by rfl) T.all (by decide +kernel) (pa_cons (pe_lc (own := [("sign", 1)]) (g := gName 1) rfl sc_is_name.nd (pi_str (pv 0)) (blkOk_by (own := [("sign", 1)]) (N := N_is_name) (sc := defScope s_is_name) (by decide +kernel)) (fun _ _ _ _ _ => (pg_name (i := 1) sc_is_name.nd rfl (.inl rfl))) (fun _ _ _ _ _ => pts_nil) (fun _ _ _ _ _ => (pe_or (pe_cmpR op_in_sign (pv 1) (pe_glob (v := .str "abcdefghijklmnopqrstuvwxyz") rfl T.cLETTERS.choose_spec ⟨_, rfl⟩) (by rfl)) (pe_one (pe_cmpR op_in_sign (pv 1) (pe_glob (v := .str "0123456789") rfl T.cDIGITS.choose_spec ⟨_, rfl⟩) (by rfl)))))) pa_nil))))), ?_⟩
    rcases h with ⟨z, rfl, hz, ret⟩ | ⟨v, t, rfl, ty, kit, ret⟩
    · refine ⟨_, rfl, _, _, _, _, _, rfl, .ty _, .base (.str z), kit_ty (r := true) (by decide +kernel), _, rfl, ?_⟩
      refine ⟨_, rfl, _, rfl, hz, _, _, rfl, rfl, _, rfl, ?_⟩
      have no : nameOk z = false → ∀ H', Same H H' → Q (.bl false) H' := fun e H' sm => by
        have q := ret H' sm
        rw [e] at q
        exact q
      refine ite2 (fun h1 => ?_) (fun h1 => ?_)
      · have h1' : (1 : Int) ≤ z.length := of_decide_eq_true h1
        refine ⟨_, _, rfl, rfl, _, rfl, ?_⟩
        have l := str_len z
        obtain ⟨c, cs, hc⟩ : ∃ c cs, z.cps.toList = c :: cs := by
          cases e : z.cps.toList with
          | nil => rw [e] at l; simp at l; omega
          | cons c cs => exact ⟨c, cs, rfl⟩
        have un : nameOk z = (decide (z.length ≤ 8) && decide (c ∈ LETS.cps.toList) && z.cps.toList.all signOk) := by
          unfold nameOk
          rw [hc]
        refine ite2 (fun h2 => ?_) (fun h2 => ?_)
        · refine no ?_ H (Same.refl H)
          have : ¬ ((z.length : Int) ≤ 8) := nT h2
          rw [un, decide_eq_false (by omega)]
          rfl
        · have h8 : (z.length : Int) ≤ 8 := nF h2
          refine ⟨_, rfl, _, _, c, rfl, rfl, hz, by rw [hc]; exact atI_zero c cs, c, _, rfl, rfl, _, rfl, ?_⟩
          refine ite2 (fun h3 => ?_) (fun h3 => ?_)
          · refine no ?_ H (Same.refl H)
            rw [un, decide_eq_false (nT h3), Bool.and_false, Bool.false_and]
          · have h3' : c ∈ LETS.cps.toList := nF h3
            refine ⟨_, rfl, _, rfl, fun L hL => ?_⟩
            refine lc_it walk_str (fun i H' => H' = upd H L (.lst ((z.cps.toList.take i).map fun c => V.bl (signOk c)))) ?_ (fun _ _ _ _ => trivial) ?_ ?_
            · rfl
            · rintro i x H1 H2 hi rfl ⟨rfl, c, hc, rfl⟩
              have step : ∀ b, b = signOk c → ∃ xs, upd H L (.lst ((z.cps.toList.take i).map fun c => V.bl (signOk c))) L = some (.lst xs) ∧ xs.length < sizeLine ∧
                  upd (upd H L (.lst ((z.cps.toList.take i).map fun c => V.bl (signOk c)))) L (.lst (xs ++ [V.bl b])) = upd H L (.lst ((z.cps.toList.take (i + 1)).map fun c => V.bl (signOk c))) := by
                rintro b rfl
                refine ⟨_, upd_same, ?_, ?_⟩
                · rw [List.length_map, List.length_take]
                  have s2 : 8 < sizeLine := by decide
                  omega
                · rw [upd_upd, List.take_succ]
                  have e : z.cps.toList[i]? = some c := by simpa using hc
                  rw [e, List.map_append]
                  rfl
              refine ⟨rfl, _, rfl, c, _, rfl, rfl, _, rfl, ?_⟩
              refine ite2 (fun q => ?_) (fun q => ?_)
              · exact step true (by unfold signOk; rw [q]; rfl)
              · exact ⟨_, rfl, c, _, rfl, rfl, step _ (by unfold signOk; rw [Bool.eq_false_iff.mpr q]; rfl)⟩
            · rintro H1 rfl
              have e : List.take z.cps.size z.cps.toList = z.cps.toList := List.take_of_length_le (by simp)
              rw [e]
              refine ⟨_, z.cps.toList.map signOk, rfl, SqL.of (by rw [upd_same, List.map_map]; rfl), ?_⟩
              have q := ret _ (same_new (o := .lst (z.cps.toList.map fun c => V.bl (signOk c))) hL)
              rw [un, decide_eq_true (show z.length ≤ 8 by omega), decide_eq_true h3', Bool.true_and, Bool.true_and] at q
              rw [List.all_map]
              exact q
      · refine ⟨_, rfl, iteT (no ?_ H (Same.refl H))⟩
        have : ¬ ((1 : Int) ≤ z.length) := dF h1
        have l := str_len z
        unfold nameOk
        cases e : z.cps.toList with
        | nil => rfl
        | cons c cs => rw [e] at l; simp at l; omega
    · exact ⟨_, rfl, _, _, _, _, _, rfl, .ty _, ty, kit, _, rfl, ret⟩
end L

namespace Hv
open PySem L2
def lineOf (a b : Nat) : List Str := if Nat.gcd a b = 1 then (text a ++ SLASH ++ text b) :: (if a < b then [MARK ++ text a ++ SLASH ++ text b] else []) else []
def inner (b n : Nat) : List Str := (List.range n).flatMap fun a => lineOf a b
def outer (n : Nat) : List Str := (List.range n).flatMap fun i => inner (i + 1) (i + 2)
def BL : List Str := outer 12
def sp_bounds : Sp := fun vs H Q _ => vs = [] ∧ ∀ p H', H p = none → Same H H' → H' p = some (.lst (BL.map V.str)) → Q (.ref p) H'
def okLine (z : Str) : Bool :=
  match fracOf z with
  | some (a, b) => decide (Txt.split (Txt.replace z MARK (Str.ofString "")) SLASH = [text a, text b]) && (Txt.startswith z (Str.ofString "over") == isOver z) && decide (z.length ≤ 20) &&
      decide ((Txt.removeprefix z MARK).length ≤ 20) && (Txt.split (Txt.removeprefix z MARK) SLASH).all (fun p => decide (p.length ≤ 20)) && decide ((Txt.replace z MARK (Str.ofString "")).length ≤ 20)
  | none => false
theorem BL_ok : BL.all okLine = true := by decide +kernel
theorem BL_len : BL.length = 93 := by decide +kernel
theorem sz20 {n : Nat} (h : n ≤ 20) : n + 2 ≤ sizeLine := by
  have : 22 ≤ sizeLine := by decide
  omega
structure Line (z : Str) (a b : Nat) : Prop where
  fr : fracOf z = some (a, b)
  sp : Txt.split (Txt.replace z MARK (Str.ofString "")) SLASH = [text a, text b]
  ov : Txt.startswith z (Str.ofString "over") = isOver z
  ok : TextOk z
  len : z.length ≤ 20
  rl : (Txt.replace z MARK (Str.ofString "")).length ≤ 20
theorem okLine_line {z : Str} (h : okLine z = true) : ∃ a b, Line z a b := by
  unfold okLine at h
  cases e : fracOf z with
  | none => rw [e] at h; cases h
  | some p =>
    obtain ⟨a, b⟩ := p
    rw [e] at h
    simp only [Bool.and_eq_true, decide_eq_true_eq, beq_iff_eq, List.all_eq_true] at h
    obtain ⟨⟨⟨⟨⟨h1, h2⟩, h3⟩, h4⟩, h5⟩, h6⟩ := h
    exact ⟨a, b, e, h1, h2, ⟨sz20 h3, sz20 h4, fun p hp => by have := sz20 (h5 p hp); omega⟩, h3, h6⟩
theorem line_of {z : Str} (h : z ∈ BL) : ∃ a b, Line z a b := okLine_line (List.all_eq_true.mp BL_ok z h)
end Hv

namespace L
open PySem L2 Hv
variable {P : Program} {w : World} {K : PySem.W.Frag} {mg : Str → Option Value} {base : Heap}
abbrev s_common : Stmt := top 62
abbrev N_common : List Str := ["_law_one", "_law_two"]
abbrev P_common : List Str := ["_law_one", "_law_two"]
theorem sc_common : FnScope N_common P_common (defScope s_common) := ⟨rfl, rfl, rfl, by decide +kernel, rfl, by decide +kernel, by decide +kernel⟩
theorem ok_common {f : Addr} {fd : FuncData} (D : DefAt K mg "_law_common" s_common P_common f fd) (T : Txt K mg) : FnOk P w K mg base CX0 1 f fd P_common sp_gcd := by
  refine D.fn.ok sc_common (fun vs H Q E h => ?_) (fun cdv A outer s H vs Q E hr h => ?_)
  · obtain ⟨a, b, rfl, _⟩ := h
    rfl
  · obtain ⟨a, b, rfl, ret⟩ := h
    refine ⟨_, (pss_cons (ps_while PassesOwn.never (pt_cmpR op_gt (pv 1) pe_int (nomark _))
      (pss_one (ps_par (i := 0) (j := 1) (by rfl) sc_common.nd rfl rfl (by decide) rfl rfl (pa_cons (pv 1) (pa_cons (pe_op op_mod (pe_callTy call_int1 (by rfl) T.int (by decide +kernel) (pa_cons (pv 0) pa_nil)) (pv 1)) pa_nil)) (by rfl))))
      (pss_one (ps_ret (pv 0)))), ?_⟩
    refine ⟨fun m σ' H' => ∃ x y : Nat, σ' = [some (.int (x : Int)), some (.int (y : Int))] ∧ Nat.gcd x y = Nat.gcd a b ∧ m = y ∧ H' = H, ⟨b, a, b, rfl, rfl, rfl, rfl⟩, ?_⟩
    rintro m σ' H' ⟨x, y, rfl, e, rfl, rfl⟩
    refine ⟨_, rfl, _, _, rfl, rfl, _, rfl, ?_⟩
    refine ite2 (fun hc => ?_) (fun hc => ?_)
    · have hy : 0 < m := by have := of_decide_eq_true hc; omega
      refine ⟨fun σ2 H2 => σ2 = [some (.int (m : Int)), some (.int ((x % m : Nat) : Int))] ∧ H2 = H', ?_, ?_⟩
      · rintro σ2 H2 ⟨rfl, rfl⟩
        refine ⟨x % m, Nat.mod_lt _ hy, m, x % m, rfl, ?_, rfl, rfl⟩
        rw [Nat.gcd_comm, ← Nat.gcd_rec, Nat.gcd_comm, e]
      · refine ⟨_, rfl, _, rfl, .inl ⟨_, rfl, _, rfl, _, _, rfl, rfl, ?_, _, _, rfl, ?_, rfl⟩⟩
        · show (0 : Int) < m
          omega
        · rfl
    · have hy : m = 0 := by
        have : ¬ (0 : Int) < (m : Int) := fun q => hc (decide_eq_true q)
        omega
      subst hy
      refine ⟨_, rfl, ?_⟩
      rw [Nat.gcd_zero_right] at e
      rw [e]
      exact ret
abbrev s_bounds : Stmt := top 63
abbrev N_bounds : List Str := ["_law_found", "_law_below", "_law_above"]
abbrev P_bounds : List Str := []
theorem sc_bounds : FnScope N_bounds P_bounds (defScope s_bounds) := ⟨rfl, rfl, rfl, by decide +kernel, rfl, by decide +kernel, by decide +kernel⟩
theorem ok_bounds {f f1 : Addr} {fd fd1 : FuncData} (D : DefAt K mg "_law_bounds" s_bounds P_bounds f fd) (T : Txt K mg) (D_common : DefAt K mg "_law_common" s_common P_common f1 fd1) : FnOk P w K mg base CX0 2 f fd P_bounds sp_bounds := by
  have G_common : FnOk P w K mg base CX0 1 f1 fd1 P_common sp_gcd := ok_common D_common T
  refine D.fn.ok sc_bounds (fun vs H Q E h => ?_) (fun cdv A outer s H vs Q E hr h => ?_)
  · obtain ⟨rfl, _⟩ := h
    rfl
  · obtain ⟨rfl, ret⟩ := h
    have lg : ∀ n : Nat, n ≤ 12 → (n : Int).natAbs.log2 < 1920 := fun n hn => Nat.lt_of_le_of_lt (log2_mono (show (n : Int).natAbs ≤ 12 by omega)) (by decide)
    have tl : ∀ n : Nat, n ≤ 12 → (text n).length ≤ 2 := fun n hn => text_short n (by omega)
    refine ⟨_, (pss_cons (ps_asg (pe_lst pa_nil) (pg_name (i := 0) sc_bounds.nd rfl (.inl rfl)))
      (pss_cons (ps_for PassesOwn.never rfl (pi_range2 (by rfl) T.range (pa_cons pe_int (pa_cons pe_int pa_nil))) (pg_name (i := 1) sc_bounds.nd rfl (.inl rfl))
      (pss_one (ps_for PassesOwn.never rfl (pi_range1 (by rfl) T.range (pa_cons (pe_op op_add (pv 1) pe_int) pa_nil)) (pg_name (i := 2) sc_bounds.nd rfl (.inl rfl))
      (pss_one (ps_if (pt_cmpR op_eq (pe_call G_common (hr.mono (by decide)) rfl D_common.mg D_common.fn.kp D_common.bd .nil pass0 (pa_cons (pv 2) (pa_cons (pv 1) pa_nil))) pe_int (nomark _))
      (pss_cons (ps_expr (pe_bm PySem.F.plainAttrs_list PySem.F.slot_list_append PySem.F.type_list_append mt_append (pv 0) (pa_cons (pe_op op_add_str (pe_op op_add_str (pe_callTy call_str_int (by rfl) T.str (by decide +kernel) (pa_cons (pv 2) pa_nil)) pe_str) (pe_callTy call_str_int (by rfl) T.str (by decide +kernel) (pa_cons (pv 1) pa_nil))) pa_nil)))
      (pss_one (ps_if (pt_cmpR op_lt (pv 2) (pv 1) (nomark _))
      (pss_one (ps_expr (pe_bm PySem.F.plainAttrs_list PySem.F.slot_list_append PySem.F.type_list_append mt_append (pv 0) (pa_cons (pe_op op_add_str (pe_op op_add_str (pe_op op_add_str pe_str (pe_callTy call_str_int (by rfl) T.str (by decide +kernel) (pa_cons (pv 2) pa_nil))) pe_str) (pe_callTy call_str_int (by rfl) T.str (by decide +kernel) (pa_cons (pv 1) pa_nil))) pa_nil))))
      pss_nil)))
      pss_nil)))))
      (pss_one (ps_ret (pv 0))))), ?_⟩
    refine ⟨Nat.zero_le _, fun L hL => ?_⟩
    refine ⟨1, 13, rfl, ⟨by decide, by decide, by decide, by decide⟩, for_range (lo := 1) (n := 12)
      (fun i σ' H' => ∃ v1 v2, σ' = [some (.ref L), v1, v2] ∧ H' = upd H L (.lst ((Hv.outer i).map V.str)) ∧ i ≤ 12 ∧ (Hv.outer i).length ≤ i * 30) ⟨none, none, rfl, rfl, by decide, by decide⟩ ?_ ?_⟩
    · rintro i σ' H' hi ⟨v1, v2, rfl, rfl, _, hlen⟩
      have hn2 : ((1 : Int) + (i : Nat) + 1).toNat = i + 2 := by omega
      refine ⟨_, rfl, _, _, rfl, rfl, _, rfl, ?_, ?_, for_range (lo := 0) (n := ((1 : Int) + (i : Nat) + 1).toNat) (fun j σ2 H2 => ∃ v, σ2 = [some (.ref L), some (.int (1 + (i : Nat))), v] ∧
        H2 = upd H L (.lst ((Hv.outer i ++ Hv.inner (i + 1) j).map V.str)) ∧ (Hv.inner (i + 1) j).length ≤ j * 2) ?_ ?_ ?_⟩
      · show -(2 ^ 62) ≤ (1 : Int) + (i : Nat) + 1
        omega
      · show (1 : Int) + (i : Nat) + 1 < 2 ^ 62
        omega
      · refine ⟨_, rfl, ?_, Nat.zero_le _⟩
        show _ = upd H L (.lst ((Hv.outer i ++ []).map V.str))
        rw [List.append_nil]
      · rintro j σ2 H2 hj ⟨v, rfl, rfl, hl2⟩
        rw [hn2] at hj
        have sz : (Hv.outer i ++ Hv.inner (i + 1) j).length < 1000 := by
          rw [List.length_append]
          omega
        have step : Hv.inner (i + 1) (j + 1) = Hv.inner (i + 1) j ++ lineOf j (i + 1) := by
          unfold Hv.inner
          rw [List.range_succ, List.flatMap_append]
          simp
        have e0 : (0 : Int) + (j : Nat) = ((j : Nat) : Int) := Int.zero_add _
        have e1 : (1 : Int) + (i : Nat) = ((i + 1 : Nat) : Int) := by omega
        have l2 : (lineOf j (i + 1)).length ≤ 2 := by
          unfold lineOf
          split
          · split <;> simp
          · simp
        have big : ∀ n : Nat, n < 1002 → n < sizeLine := fun n hn => Nat.lt_of_lt_of_le hn (by decide)
        have lt2 : ∀ n : Nat, n ≤ 20 → n ≤ sizeLine := fun n hn => Nat.le_trans hn (by decide)
        have sl : (Str.ofString "/").length = 1 := rfl
        have mk : (Str.ofString "over ").length = 5 := rfl
        have tj : (Str.ofString (toString ((j : Nat) : Int))).length ≤ 2 := tl j (by omega)
        have ti : (Str.ofString (toString ((i + 1 : Nat) : Int))).length ≤ 2 := tl (i + 1) (by omega)
        show tIfS _ _ _ _ [some (.ref L), some (.int (1 + (i : Nat))), some (.int (0 + (j : Nat)))] _
        rw [e0, e1]
        refine ⟨_, rfl, _, rfl, j, i + 1, rfl, rfl, _, rfl, ?_⟩
        by_cases g : Nat.gcd j (i + 1) = 1
        · refine ifT (by rw [g]; rfl) ?_
          refine ⟨_, rfl, .inl ⟨rfl, _, SqL.of upd_same⟩, _, rfl, _, rfl, lg j (by omega), _, _, rfl, rfl, ?_, _, rfl, _, rfl, lg (i + 1) (by omega), _, _, rfl, rfl, ?_, _, _, _, rfl, rfl, upd_same, ?_, ?_⟩
          · exact lt2 _ (by omega)
          · rw [Str.length_append]
            exact lt2 _ (by omega)
          · rw [List.length_map]
            exact big _ (by omega)
          rw [upd_upd]
          refine ⟨_, rfl, _, rfl, _, _, rfl, rfl, _, rfl, ?_⟩
          by_cases c : j < i + 1
          · refine ifT (by omega) ?_
            refine ⟨_, rfl, .inl ⟨rfl, _, SqL.of upd_same⟩, _, rfl, _, rfl, lg j (by omega), _, _, rfl, rfl, ?_, _, _, rfl, rfl, ?_, _, rfl, _, rfl, lg (i + 1) (by omega), _, _, rfl, rfl, ?_, _, _, _, rfl, rfl, upd_same, ?_, ?_⟩
            · exact lt2 _ (by omega)
            · rw [Str.length_append]
              exact lt2 _ (by omega)
            · rw [Str.length_append, Str.length_append]
              exact lt2 _ (by omega)
            · rw [List.length_append, List.length_map]
              exact big _ (by simp; omega)
            · rw [upd_upd]
              refine ⟨_, rfl, ?_, ?_⟩
              · rw [step]
                unfold lineOf
                rw [if_pos g, if_pos c]
                simp
                rfl
              · rw [step, List.length_append]
                omega
          · refine ifF (by omega) ?_
            refine ⟨_, rfl, ?_, ?_⟩
            · rw [step]
              unfold lineOf
              rw [if_pos g, if_neg c]
              simp
              rfl
            · rw [step, List.length_append]
              omega
        · refine ifF (fun q => g (by have := V.int.inj q; omega)) ?_
          refine ⟨_, rfl, ?_, ?_⟩
          · rw [step]
            unfold lineOf
            rw [if_neg g, List.append_nil]
          · rw [step, List.length_append]
            omega
      · rintro σ2 H2 ⟨v, rfl, rfl, hl2⟩
        rw [hn2]
        rw [hn2] at hl2
        have step : Hv.outer (i + 1) = Hv.outer i ++ Hv.inner (i + 1) (i + 2) := by
          unfold Hv.outer
          rw [List.range_succ, List.flatMap_append]
          simp
        refine ⟨_, _, rfl, by rw [step], by omega, ?_⟩
        rw [step, List.length_append]
        omega
    · rintro σ' H' ⟨v1, v2, rfl, rfl, _, _⟩
      exact ⟨_, rfl, ret L _ hL (same_new hL) upd_same⟩
end L

namespace Hv
open PySem L2
/-- a text that is a bound -/
def BT (z : Str) : Prop := TextOk z ∧ (fracOf z).isSome = true
def endsV : Option Str → V
  | none => .non
  | some z => .str z
/-- the parts of a kind -/
structure Kd where
  name : Str
  talks : Int
  needs : V
  closing : Option (Int × Str)
  ends : Option Str
def ClosAt (K : PySem.W.Frag) (H : Hp) : Option (Int × Str) → V → Prop
  | none, v => v = .non
  | some (i, z), v => ∃ a, v = .ref a ∧ H a = some (.tup [.int i, .str z])
structure Kd.Ok (k : Kd) : Prop where
  name : nameOk k.name = true
  len : k.name.length ≤ sizeLine
  talks : 0 ≤ k.talks ∧ k.talks ≤ 3
  needs : (∃ i, k.needs = .int i ∧ 1 ≤ i ∧ i ≤ 9) ∨ ∃ z, k.needs = .str z ∧ BT z
  closing : ∀ i z, k.closing = some (i, z) → 0 ≤ i ∧ i ≤ 3 ∧ BT z
  ends : ∀ z, k.ends = some z → BT z
def KindAt (K : PySem.W.Frag) (C : Addr) (H : Hp) (a : Addr) (k : Kd) : Prop :=
  ∃ dx pt cl, H a = some (.ins C dx [("parts", .ref pt)]) ∧ H pt = some (.tup [.str k.name, .int k.talks, k.needs, cl, endsV k.ends]) ∧ ClosAt K H k.closing cl
theorem ClosAt.same {K : PySem.W.Frag} {H H' : Hp} {c : Option (Int × Str)} {v : V} (h : ClosAt K H c v) (e : Same H H') : ClosAt K H' c v := by
  cases c with
  | none => exact h
  | some p =>
    obtain ⟨a, h1, h2⟩ := h
    exact ⟨a, h1, e _ _ h2⟩
theorem KindAt.same {K : PySem.W.Frag} {C : Addr} {H H' : Hp} {a : Addr} {k : Kd} (h : KindAt K C H a k) (e : Same H H') : KindAt K C H' a k := by
  obtain ⟨dx, pt, cl, h1, h2, h3⟩ := h
  exact ⟨dx, pt, cl, e _ _ h1, e _ _ h2, h3.same e⟩
/-! promises -/
def sp_is_needs (K : PySem.W.Frag) : Sp := fun vs H Q _ =>
  (∃ i : Int, vs = [.int i] ∧ Q (.bl (decide (1 ≤ i) && decide (i ≤ 9))) H) ∨
  (∃ z : Str, vs = [.str z] ∧ TextOk z ∧ ∀ H', Same H H' → Q (.bl (fracOf z).isSome) H') ∨
  ∃ (v : V) (t : Value) (b1 b2 : Bool), vs = [v] ∧ TyX K H v t ∧ PySem.W.kitOne K t (.type "str") = some false ∧ PySem.W.kitOne K t (.type "int") = some b1 ∧
    PySem.W.kitOne K t (.type "bool") = some b2 ∧ (b1 && !b2) = false ∧ Q (.bl false) H
def sp_is_closing (K : PySem.W.Frag) : Sp := fun vs H Q _ =>
  (vs = [.non] ∧ Q (.bl true) H) ∨
  (∃ (a : Addr) (i : Int) (z : Str), vs = [.ref a] ∧ H a = some (.tup [.int i, .str z]) ∧ TextOk z ∧ ∀ H', Same H H' → Q (.bl (decide (0 ≤ i) && decide (i ≤ 3) && (fracOf z).isSome)) H')
def sp_kind_init (K : PySem.W.Frag) (C : Addr) : Sp := fun vs H Q _ => ∃ (x dx : Addr) (k : Kd) (cl : V), vs = [.ref x, .str k.name, .int k.talks, k.needs, cl, endsV k.ends] ∧ k.Ok ∧ ClosAt K H k.closing cl ∧
  H x = some (.ins C dx []) ∧ H dx = some (.own x) ∧ dx ≠ x ∧ ∀ H', (∀ b o, b ≠ x → H b = some o → H' b = some o) → KindAt K C H' x k → Q .non H'
end Hv

namespace L
open PySem L2 Hv
variable {P : Program} {w : World} {K : PySem.W.Frag} {mg : Str → Option Value} {base : Heap}
abbrev s_is_needs : Stmt := top 51
abbrev N_is_needs : List Str := ["value"]
abbrev P_is_needs : List Str := ["value"]
theorem sc_is_needs : FnScope N_is_needs P_is_needs (defScope s_is_needs) := ⟨rfl, rfl, rfl, by decide +kernel, rfl, by decide +kernel, by decide +kernel⟩
theorem ok_is_needs {f f1 f2 : Addr} {fd fd1 fd2 : FuncData} (D : DefAt K mg "is_needs" s_is_needs P_is_needs f fd) (T : Txt K mg)
    (D_is_bound : DefAt K mg "is_bound" s_is_bound P_is_bound f1 fd1) (G_is_bound : FnOk P w K mg base CX0 3 f1 fd1 P_is_bound (sp_is_bound K))
    (D_is_integer : DefAt K mg "is_integer" s_is_integer P_is_integer f2 fd2) (G_is_integer : FnOk P w K mg base CX0 1 f2 fd2 P_is_integer (sp_is_integer K)) :
    FnOk P w K mg base CX0 4 f fd P_is_needs (sp_is_needs K) := by
  refine D.fn.ok sc_is_needs (fun vs H Q E h => ?_) (fun cdv A outer s H vs Q E hr h => ?_)
  · rcases h with ⟨z, rfl, _⟩ | ⟨v, rfl, _⟩ | ⟨v, t, b1, b2, rfl, _⟩ <;> rfl
  · refine ⟨_, (pss_one (ps_ret (pe_or (pe_call G_is_bound (hr.mono (by decide)) rfl D_is_bound.mg D_is_bound.fn.kp D_is_bound.bd .nil pass0 (pa_cons (pv 0) pa_nil)) (pe_one (pe_and (pe_call G_is_integer (hr.mono (by decide)) rfl D_is_integer.mg D_is_integer.fn.kp D_is_integer.bd .nil pass0 (pa_cons (pv 0) pa_nil)) (pe_one (pe_chain op_le op_le pe_int (pv 0) (pe_glob (v := .int 9) rfl T.cMOST_NEEDS.choose_spec ⟨_, rfl⟩)))))))), ?_⟩
    rcases h with ⟨i, rfl, ret⟩ | ⟨z, rfl, ok, ret⟩ | ⟨v, t, b1, b2, rfl, ty, ks, k1, k2, kb, ret⟩
    · refine ⟨_, rfl, .inr ⟨_, _, rfl, .base (.int _), kit_ty (r := false) (by decide +kernel), _, rfl, ?_⟩⟩
      refine iteF ⟨_, rfl, _, _, true, false, rfl, .base (.int _), kit_ty (by decide +kernel), kit_ty (by decide +kernel), _, rfl, ?_⟩
      refine iteT ⟨_, rfl, _, _, rfl, rfl, _, rfl, ?_⟩
      cases h1 : decide (1 ≤ i) with
      | true =>
        rw [h1] at ret
        exact iteT ⟨_, _, rfl, rfl, ret⟩
      | false =>
        rw [h1] at ret
        exact iteF ret
    · refine ⟨_, rfl, .inl ⟨z, rfl, ok, fun H1 s1 => ⟨_, rfl, ?_⟩⟩⟩
      have q := ret H1 s1
      cases h1 : (fracOf z).isSome with
      | true =>
        rw [h1] at q
        exact iteT q
      | false =>
        rw [h1] at q
        exact iteF ⟨_, rfl, _, _, false, false, rfl, .base (.str _), kit_ty (by decide +kernel), kit_ty (by decide +kernel), _, rfl, iteF q⟩
    · refine ⟨_, rfl, .inr ⟨_, _, rfl, ty, ks, _, rfl, ?_⟩⟩
      refine iteF ⟨_, rfl, _, _, b1, b2, rfl, ty, k1, k2, _, rfl, ?_⟩
      rw [kb]
      exact iteF ret
end L

namespace Hv
open PySem L2
/-- one of the parts of an instance -/
def sp_part (C : Addr) (i : Int) : Sp := fun vs H Q _ => ∃ (a dx pt : Addr) (xs : List V) (v : V), vs = [.ref a] ∧ H a = some (.ins C dx [("parts", .ref pt)]) ∧ H pt = some (.tup xs) ∧ atI xs i = some v ∧ Q v H
end Hv
namespace L
open PySem L2 Hv
variable {P : Program} {w : World} {K : PySem.W.Frag} {mg : Str → Option Value} {base : Heap}
abbrev s_Kind_name : Stmt := inClass (top 53) 1
abbrev N_Kind_name : List Str := ["self"]
abbrev P_Kind_name : List Str := ["self"]
theorem sc_Kind_name : FnScope N_Kind_name P_Kind_name (defScope s_Kind_name) := ⟨rfl, rfl, rfl, by decide +kernel, rfl, by decide +kernel, by decide +kernel⟩
theorem ok_Kind_name {C f : Addr} {fd : FuncData} (D : PropAt K C "name" "Kind.name" s_Kind_name P_Kind_name f fd) (c : Cls K C) (na : NoAttr K C "parts") : FnOk P w K mg base CX0 1 f fd P_Kind_name (sp_part C 0) := by
  refine D.fn.ok sc_Kind_name (fun vs H Q E h => ?_) (fun cdv A outer s H vs Q E hr h => ?_)
  · obtain ⟨a, dx, pt, xs, v, rfl, _⟩ := h
    rfl
  · obtain ⟨a, dx, pt, xs, v, rfl, ha, hp, hv, ret⟩ := h
    refine ⟨_, (pss_one (ps_ret (pe_ix ix_tup (pe_fld (pv 0) rfl) pe_int (fun _ _ => rfl)))), ?_⟩
    exact ⟨_, rfl, a, C, dx, _, _, rfl, ha, c, na, rfl, pt, xs, _, v, rfl, rfl, SqT.of hp, hv, ret⟩
abbrev s_Kind_talks : Stmt := inClass (top 53) 2
abbrev N_Kind_talks : List Str := ["self"]
abbrev P_Kind_talks : List Str := ["self"]
theorem sc_Kind_talks : FnScope N_Kind_talks P_Kind_talks (defScope s_Kind_talks) := ⟨rfl, rfl, rfl, by decide +kernel, rfl, by decide +kernel, by decide +kernel⟩
theorem ok_Kind_talks {C f : Addr} {fd : FuncData} (D : PropAt K C "talks" "Kind.talks" s_Kind_talks P_Kind_talks f fd) (c : Cls K C) (na : NoAttr K C "parts") : FnOk P w K mg base CX0 1 f fd P_Kind_talks (sp_part C 1) := by
  refine D.fn.ok sc_Kind_talks (fun vs H Q E h => ?_) (fun cdv A outer s H vs Q E hr h => ?_)
  · obtain ⟨a, dx, pt, xs, v, rfl, _⟩ := h
    rfl
  · obtain ⟨a, dx, pt, xs, v, rfl, ha, hp, hv, ret⟩ := h
    refine ⟨_, (pss_one (ps_ret (pe_ix ix_tup (pe_fld (pv 0) rfl) pe_int (fun _ _ => rfl)))), ?_⟩
    exact ⟨_, rfl, a, C, dx, _, _, rfl, ha, c, na, rfl, pt, xs, _, v, rfl, rfl, SqT.of hp, hv, ret⟩
abbrev s_Kind_needs : Stmt := inClass (top 53) 3
abbrev N_Kind_needs : List Str := ["self"]
abbrev P_Kind_needs : List Str := ["self"]
theorem sc_Kind_needs : FnScope N_Kind_needs P_Kind_needs (defScope s_Kind_needs) := ⟨rfl, rfl, rfl, by decide +kernel, rfl, by decide +kernel, by decide +kernel⟩
theorem ok_Kind_needs {C f : Addr} {fd : FuncData} (D : PropAt K C "needs" "Kind.needs" s_Kind_needs P_Kind_needs f fd) (c : Cls K C) (na : NoAttr K C "parts") : FnOk P w K mg base CX0 1 f fd P_Kind_needs (sp_part C 2) := by
  refine D.fn.ok sc_Kind_needs (fun vs H Q E h => ?_) (fun cdv A outer s H vs Q E hr h => ?_)
  · obtain ⟨a, dx, pt, xs, v, rfl, _⟩ := h
    rfl
  · obtain ⟨a, dx, pt, xs, v, rfl, ha, hp, hv, ret⟩ := h
    refine ⟨_, (pss_one (ps_ret (pe_ix ix_tup (pe_fld (pv 0) rfl) pe_int (fun _ _ => rfl)))), ?_⟩
    exact ⟨_, rfl, a, C, dx, _, _, rfl, ha, c, na, rfl, pt, xs, _, v, rfl, rfl, SqT.of hp, hv, ret⟩
abbrev s_Kind_closing : Stmt := inClass (top 53) 4
abbrev N_Kind_closing : List Str := ["self"]
abbrev P_Kind_closing : List Str := ["self"]
theorem sc_Kind_closing : FnScope N_Kind_closing P_Kind_closing (defScope s_Kind_closing) := ⟨rfl, rfl, rfl, by decide +kernel, rfl, by decide +kernel, by decide +kernel⟩
theorem ok_Kind_closing {C f : Addr} {fd : FuncData} (D : PropAt K C "closing" "Kind.closing" s_Kind_closing P_Kind_closing f fd) (c : Cls K C) (na : NoAttr K C "parts") : FnOk P w K mg base CX0 1 f fd P_Kind_closing (sp_part C 3) := by
  refine D.fn.ok sc_Kind_closing (fun vs H Q E h => ?_) (fun cdv A outer s H vs Q E hr h => ?_)
  · obtain ⟨a, dx, pt, xs, v, rfl, _⟩ := h
    rfl
  · obtain ⟨a, dx, pt, xs, v, rfl, ha, hp, hv, ret⟩ := h
    refine ⟨_, (pss_one (ps_ret (pe_ix ix_tup (pe_fld (pv 0) rfl) pe_int (fun _ _ => rfl)))), ?_⟩
    exact ⟨_, rfl, a, C, dx, _, _, rfl, ha, c, na, rfl, pt, xs, _, v, rfl, rfl, SqT.of hp, hv, ret⟩
abbrev s_Kind_ends : Stmt := inClass (top 53) 5
abbrev N_Kind_ends : List Str := ["self"]
abbrev P_Kind_ends : List Str := ["self"]
theorem sc_Kind_ends : FnScope N_Kind_ends P_Kind_ends (defScope s_Kind_ends) := ⟨rfl, rfl, rfl, by decide +kernel, rfl, by decide +kernel, by decide +kernel⟩
theorem ok_Kind_ends {C f : Addr} {fd : FuncData} (D : PropAt K C "ends" "Kind.ends" s_Kind_ends P_Kind_ends f fd) (c : Cls K C) (na : NoAttr K C "parts") : FnOk P w K mg base CX0 1 f fd P_Kind_ends (sp_part C 4) := by
  refine D.fn.ok sc_Kind_ends (fun vs H Q E h => ?_) (fun cdv A outer s H vs Q E hr h => ?_)
  · obtain ⟨a, dx, pt, xs, v, rfl, _⟩ := h
    rfl
  · obtain ⟨a, dx, pt, xs, v, rfl, ha, hp, hv, ret⟩ := h
    refine ⟨_, (pss_one (ps_ret (pe_ix ix_tup (pe_fld (pv 0) rfl) pe_int (fun _ _ => rfl)))), ?_⟩
    exact ⟨_, rfl, a, C, dx, _, _, rfl, ha, c, na, rfl, pt, xs, _, v, rfl, rfl, SqT.of hp, hv, ret⟩
end L

namespace Hv
open PySem L2 TL
theorem str_ext {a b : Str} (h : a.cps.toList = b.cps.toList) : a = b := by
  obtain ⟨⟨x⟩⟩ := a
  obtain ⟨⟨y⟩⟩ := b
  cases (show x = y from h)
  rfl
/-- the parts, put together again -/
def glue (c : Nat) : List (List Nat) → List Nat
  | [] => []
  | [p] => p
  | p :: q :: r => p ++ c :: glue c (q :: r)
theorem pre_one {c d : Nat} {r : List Nat} : pre [c] (d :: r) = decide (d = c) := by
  show (List.take 1 (d :: r) == [c]) = _
  rw [Bool.eq_iff_iff]
  simp
theorem spl_ne (c : Nat) : ∀ (l acc : List Nat), spl [c] 0 acc l ≠ []
  | [], acc => by rw [spl_nil]; simp
  | d :: r, acc => by
    by_cases h : d = c
    · rw [spl_hit (by rw [pre_one, decide_eq_true h])]
      simp
    · rw [spl_miss (by rw [pre_one, decide_eq_false h])]
      exact spl_ne c r _
theorem spl_glue (c : Nat) : ∀ (l acc : List Nat), glue c (spl [c] 0 acc l) = acc ++ l
  | [], acc => by rw [spl_nil]; simp [glue]
  | d :: r, acc => by
    by_cases h : d = c
    · rw [spl_hit (by rw [pre_one, decide_eq_true h])]
      show glue c (acc :: spl [c] 0 [] r) = _
      have ih := spl_glue c r []
      cases e : spl [c] 0 [] r with
      | nil => exact absurd e (spl_ne c r [])
      | cons p q =>
        rw [e] at ih
        show acc ++ c :: glue c (p :: q) = _
        rw [ih, h]
        rfl
    · rw [spl_miss (by rw [pre_one, decide_eq_false h]), spl_glue c r]
      simp
theorem spl_len (c : Nat) : ∀ (l acc : List Nat), ∀ p ∈ spl [c] 0 acc l, p.length ≤ acc.length + l.length
  | [], acc => by
    rw [spl_nil]
    intro p hp
    rw [List.mem_singleton.mp hp]
    exact Nat.le_refl _
  | d :: r, acc => by
    intro p hp
    by_cases h : d = c
    · rw [spl_hit (by rw [pre_one, decide_eq_true h])] at hp
      rcases List.mem_cons.mp hp with rfl | hp
      · omega
      · have := spl_len c r [] p hp
        simp at this ⊢
        omega
    · rw [spl_miss (by rw [pre_one, decide_eq_false h])] at hp
      have := spl_len c r _ p hp
      simp at this ⊢
      omega
theorem kind_slash (z : Str) : ¬ Builtin.Str.strKind z < Builtin.Str.strKind SLASH := by
  have : Builtin.Str.strKind SLASH = 1 := by decide +kernel
  rw [this]
  unfold Builtin.Str.strKind
  repeat' split
  all_goals decide
theorem slash_tl : SLASH.cps.toList = [47] := by decide +kernel
theorem split_tl (z : Str) : (Txt.split z SLASH).map tl = spl [47] 0 [] z.cps.toList := by
  have := split_spl z SLASH (by rw [show tl SLASH = [47] from slash_tl]; simp) (kind_slash z)
  rw [show tl SLASH = [47] from slash_tl] at this
  exact this
theorem split_two {z a b : Str} (h : Txt.split z SLASH = [a, b]) : z = a ++ SLASH ++ b := by
  have e := split_tl z
  rw [h] at e
  have g := spl_glue 47 z.cps.toList []
  rw [← e] at g
  apply str_ext
  have l : (a ++ SLASH ++ b).cps.toList = a.cps.toList ++ SLASH.cps.toList ++ b.cps.toList := by
    show (a.cps ++ SLASH.cps ++ b.cps).toList = _
    simp
  rw [l, slash_tl]
  have g' : a.cps.toList ++ 47 :: b.cps.toList = [] ++ z.cps.toList := g
  simp only [List.nil_append] at g'
  rw [← g']
  simp
theorem prefix_two (z : Str) : (isOver z = true ∧ z = MARK ++ Txt.removeprefix z MARK) ∨ (isOver z = false ∧ Txt.removeprefix z MARK = z) := by
  have ml : MARK.length = 5 := by decide +kernel
  by_cases h : Builtin.Str.subAt z MARK 0 = true
  · have h' : z.cps.extract 0 5 = MARK.cps := by
      unfold Builtin.Str.subAt at h
      rw [ml] at h
      exact eq_of_beq h
    have sz : 5 ≤ z.cps.size := by
      have := congrArg Array.size h'
      rw [Array.size_extract] at this
      have m2 : MARK.cps.size = 5 := ml
      omega
    left
    refine ⟨?_, ?_⟩
    · unfold isOver Txt.startswith
      rw [h, ml]
      simp
      exact sz
    · unfold Txt.removeprefix
      rw [if_pos h, ml]
      unfold Txt.affix
      have zl : z.length = z.cps.size := rfl
      dsimp only
      rw [if_neg (by rw [beq_iff_eq, zl]; omega)]
      apply str_ext
      show z.cps.toList = (MARK.cps ++ z.cps.extract 5 z.length).toList
      rw [← h']
      simp [zl]
      rw [List.take_of_length_le (by simp; omega)]
  · right
    refine ⟨?_, ?_⟩
    · unfold isOver Txt.startswith
      rw [Bool.eq_false_iff.mpr h]
      simp
    · unfold Txt.removeprefix
      rw [if_neg h]
      rfl
def inBL (z : Str) : Bool := BL.any fun x => decide (x = z)
theorem inBL_iff {z : Str} : inBL z = true ↔ z ∈ BL := by
  unfold inBL
  rw [List.any_eq_true]
  constructor
  · rintro ⟨x, hx, e⟩
    rw [← of_decide_eq_true e]
    exact hx
  · exact fun h => ⟨z, h, decide_eq_true rfl⟩
def blTab (q p : Nat) : Bool := !(decide (1 ≤ q) && Nat.gcd p q == 1) || ((!decide (p ≤ q) || inBL (text p ++ SLASH ++ text q)) && (!decide (p + 1 ≤ q) || inBL (MARK ++ (text p ++ SLASH ++ text q))))
theorem bl_mem0 : ((List.range 13).all fun q => (List.range 13).all fun p => blTab q p) = true := by decide +kernel
theorem bl_mem (q : Nat) (h1 : q < 13) (p : Nat) (h2 : p < 13) (h3 : 1 ≤ q) (h4 : Nat.gcd p q = 1) : (p ≤ q → text p ++ SLASH ++ text q ∈ BL) ∧ (p + 1 ≤ q → MARK ++ (text p ++ SLASH ++ text q) ∈ BL) := by
  have h := List.all_eq_true.mp (List.all_eq_true.mp bl_mem0 q (List.mem_range.mpr h1)) p (List.mem_range.mpr h2)
  unfold blTab at h
  rw [decide_eq_true h3, h4] at h
  simp only [BEq.rfl, Bool.and_self, Bool.not_true, Bool.false_or, Bool.and_eq_true, Bool.or_eq_true, Bool.not_eq_true', decide_eq_false_iff_not] at h
  exact ⟨fun q => inBL_iff.mp (h.1.resolve_left (fun z => z q)), fun q => inBL_iff.mp (h.2.resolve_left (fun z => z q))⟩
theorem frac_mem {z : Str} (h : (fracOf z).isSome = true) : z ∈ BL := by
  obtain ⟨⟨p, q⟩, e⟩ := Option.isSome_iff_exists.mp h
  have len : (Txt.split (Txt.removeprefix z MARK) SLASH).length = 2 := by
    by_cases l : (Txt.split (Txt.removeprefix z MARK) SLASH).length = 2
    · exact l
    · rw [fracOf_len l] at e
      cases e
  obtain ⟨a, b, hs⟩ := two_of len
  have hz := split_two hs
  rw [fracOf_two hs] at e
  cases e1 : numOf a 12 with
  | none => rw [e1] at e; cases e
  | some p1 =>
    cases e2 : numOf b 12 with
    | none => rw [e1, e2] at e; cases e
    | some q1 =>
      rw [e1, e2] at e
      dsimp only at e
      obtain ⟨l1, t1⟩ := numOf_some e1
      obtain ⟨l2, t2⟩ := numOf_some e2
      by_cases c : q1 < 1 ∨ 1 < Nat.gcd p1 q1
      · rw [if_pos c] at e
        cases e
      · have g : 0 < Nat.gcd p1 q1 := Nat.gcd_pos_of_pos_right _ (by omega)
        obtain ⟨m1, m2⟩ := bl_mem q1 (by omega) p1 (by omega) (by omega) (by omega)
        rw [if_neg c] at e
        rw [← t1, ← t2] at hz
        rcases prefix_two z with ⟨ov, ez⟩ | ⟨ov, ez⟩
        · rw [ov] at e
          by_cases d : p1 + 1 ≤ q1
          · rw [ez, hz]
            exact m2 d
          · rw [if_neg (by simpa using d)] at e
            cases e
        · rw [ov] at e
          by_cases d : p1 ≤ q1
          · rw [← ez, hz]
            exact m1 d
          · rw [if_neg (by simpa using d)] at e
            cases e
theorem bl_iff (z : Str) : (fracOf z).isSome = inBL z := by
  cases h : (fracOf z).isSome with
  | true => rw [inBL_iff.mpr (frac_mem h)]
  | false =>
    symm
    rw [Bool.eq_false_iff]
    intro m
    have m := inBL_iff.mp m
    obtain ⟨a, b, l⟩ := line_of m
    rw [l.fr] at h
    cases h
theorem textOk_of {z : Str} (h : z.length ≤ 100000) : TextOk z := by
  have s1 : 100002 ≤ sizeLine := by decide
  have l : (Txt.removeprefix z MARK).length ≤ z.length := by
    rcases prefix_two z with ⟨_, ez⟩ | ⟨_, ez⟩
    · have := congrArg Str.length ez
      rw [Str.length_append] at this
      omega
    · rw [ez]
      exact Nat.le_refl _
  refine ⟨by omega, by omega, fun p hp => ?_⟩
  have m : tl p ∈ spl [47] 0 [] (Txt.removeprefix z MARK).cps.toList := by
    rw [← split_tl]
    exact List.mem_map.mpr ⟨p, hp, rfl⟩
  have := spl_len 47 _ _ _ m
  have e1 : (tl p).length = p.length := str_len p
  have e2 := str_len (Txt.removeprefix z MARK)
  rw [e1, e2] at this
  simp only [List.length_nil, Nat.zero_add] at this
  omega
end Hv

namespace Hv
open PySem PySem.Spec PyProof.Rows L2
theorem rhU {k : Nat} {A : Around} (r : L2H.RoomH k A) : A.units + 64 < cLine := by have := r.un; omega
theorem rh65 {k : Nat} {A : Around} (r : L2H.RoomH k A) : A.units + 65 < cLine := by have := r.un; omega
/-- l.count(True), l a list of truths -/
def rCntB (K : PySem.W.Frag) : V → List V → Hp → VK → Prop := fun x xs H Q => ∃ (p : Addr) (bs : List Bool), x = .ref p ∧ xs = [.bl true] ∧ SqL K H p (bs.map V.bl) ∧ Q (.int (bs.count true : Nat)) H
theorem dp_bools {K : PySem.W.Frag} {H : Hp} : ∀ bs : List Bool, DpAll K H (bs.map V.bl) (bs.map PyData.bool)
  | [] => .nil
  | b :: bs => .cons (.bl b) (dp_bools bs)
theorem plain_bools : ∀ bs : List Bool, PyData.plainAll (bs.map PyData.bool) = true
  | [] => rfl
  | b :: bs => by
    show (PyData.plain (.bool b) && PyData.plainAll (bs.map PyData.bool)) = true
    rw [plain_bools bs]
    rfl
theorem count_bools : ∀ bs : List Bool, (bs.map PyData.bool).countP (fun y => PyData.eqv y (.bool true)) = bs.count true
  | [] => rfl
  | b :: bs => by
    rw [List.map_cons, List.countP_cons, count_bools bs, List.count_cons]
    cases b <;> simp [PyData.eqv]
theorem mt_countB {X : Cx} (hu : X.A.units + 65 < cLine) : MtR X "list.count" (rCntB X.K) := by
  intro pins s σ H x xs v us Q I rx rxs h
  obtain ⟨p, bs, rfl, rfl, hs, q⟩ := h
  cases rx
  obtain ⟨u, rfl, ru⟩ := rxs.one
  cases (show u = Value.bool true from ru)
  obtain ⟨its, rv, ⟨o, n, ho, hc, hdn, hd⟩, hlen⟩ := I.list hs
  obtain ⟨as, h4⟩ := Dp.readsAll I _ _ its (dp_bools bs) rv
  refine SeqAt.count_list_data (l := p) (vs := its.toArray) (xs := bs.map PyData.bool) (d := .bool true) ⟨o, ho, hc, n, hd⟩ h4 (.bool true) (plain_bools bs) rfl ?_ ?_
  · have e : min (PyData.depthAll (bs.map PyData.bool)) (PyData.depth (.bool true)) = 0 := Nat.min_eq_right (Nat.zero_le _)
    rw [e]
    omega
  · rw [count_bools]
    exact ⟨.int _, H, I.tok _, ⟨_, rfl⟩, q⟩
/-! the classes by their numbers -/
def TERMS : List Str := ["InvalidName", "InvalidNumber", "InvalidBound", "InvalidNeeds", "InvalidClosing", "InvalidEnds", "InvalidAmount", "InvalidText", "InvalidHouse", "InvalidShare", "InvalidLimit", "InvalidLength", "InvalidWish", "InvalidIndex", "NotRules", "InvalidKinds", "InvalidRows", "InvalidChanges", "InvalidWishes", "UnknownName", "UnknownMember", "InUse", "NotFinite", "Over", "IsClosed", "NotListed", "TooFew", "UsedUp", "CannotClose", "NothingToUndo", "Broken"]
def term (j : Nat) : Str := TERMS.getD j ""
def fieldOf (j : Nat) : Str := if j ∈ [15, 16, 17, 18, 21] then "index" else if j ∈ [24, 25, 26, 27, 28] then "kind" else "given"
/-- those with one field -/
def oneF (j : Nat) : Bool := decide (j < 30) && decide (j ≠ 23) && decide (j ≠ 29)
structure ErrNames (mg : Str → Option Value) (c : Nat → Addr) : Prop where
  n0 : mg "InvalidName" = some (.ref (c 0))
  n1 : mg "InvalidNumber" = some (.ref (c 1))
  n2 : mg "InvalidBound" = some (.ref (c 2))
  n3 : mg "InvalidNeeds" = some (.ref (c 3))
  n4 : mg "InvalidClosing" = some (.ref (c 4))
  n5 : mg "InvalidEnds" = some (.ref (c 5))
  n6 : mg "InvalidAmount" = some (.ref (c 6))
  n7 : mg "InvalidText" = some (.ref (c 7))
  n8 : mg "InvalidHouse" = some (.ref (c 8))
  n9 : mg "InvalidShare" = some (.ref (c 9))
  n10 : mg "InvalidLimit" = some (.ref (c 10))
  n11 : mg "InvalidLength" = some (.ref (c 11))
  n12 : mg "InvalidWish" = some (.ref (c 12))
  n13 : mg "InvalidIndex" = some (.ref (c 13))
  n14 : mg "NotRules" = some (.ref (c 14))
  n15 : mg "InvalidKinds" = some (.ref (c 15))
  n16 : mg "InvalidRows" = some (.ref (c 16))
  n17 : mg "InvalidChanges" = some (.ref (c 17))
  n18 : mg "InvalidWishes" = some (.ref (c 18))
  n19 : mg "UnknownName" = some (.ref (c 19))
  n20 : mg "UnknownMember" = some (.ref (c 20))
  n21 : mg "InUse" = some (.ref (c 21))
  n22 : mg "NotFinite" = some (.ref (c 22))
  n23 : mg "Over" = some (.ref (c 23))
  n24 : mg "IsClosed" = some (.ref (c 24))
  n25 : mg "NotListed" = some (.ref (c 25))
  n26 : mg "TooFew" = some (.ref (c 26))
  n27 : mg "UsedUp" = some (.ref (c 27))
  n28 : mg "CannotClose" = some (.ref (c 28))
  n29 : mg "NothingToUndo" = some (.ref (c 29))
  n30 : mg "Broken" = some (.ref (c 30))
  n31 : mg "WrongValue" = some (.ref (c 31))
  n32 : mg "WrongName" = some (.ref (c 32))
  n33 : mg "NotPossible" = some (.ref (c 33))
/-- what the text has of the error class with the number j -/
structure ErrIx (K : PySem.W.Frag) (c : Nat → Addr) (j : Nat) : Prop where
  isx : ExcC K (c j)
  xf : XfC K (c j)
  kits : ∀ i, i < 31 → PySem.W.kitOne K (.ref (c j)) (.ref (c i)) = some (decide (i = j))
  kV : PySem.W.kitOne K (.ref (c j)) (.ref (c 31)) = some (decide (j < 19))
  kN : PySem.W.kitOne K (.ref (c j)) (.ref (c 32)) = some (decide (18 < j) && decide (j < 22))
  kP : PySem.W.kitOne K (.ref (c j)) (.ref (c 33)) = some (decide (21 < j))
  tV : PySem.W.kitOne K (.ref (c j)) (.type "ValueError") = some (decide (j < 19))
  tL : PySem.W.kitOne K (.ref (c j)) (.type "LookupError") = some (decide (18 < j) && decide (j < 22))
  tA : PySem.W.kitOne K (.ref (c j)) (.type "ArithmeticError") = some (decide (21 < j))
  f_given : PySem.W.findIn K (.ref (c j)) "given" = some none
  f_index : PySem.W.findIn K (.ref (c j)) "index" = some none
  f_kind : PySem.W.findIn K (.ref (c j)) "kind" = some none
  f_house : PySem.W.findIn K (.ref (c j)) "house" = some none
  any : PySem.W.exmAny K (.ref (c j)) [.ref (c 31), .ref (c 32), .ref (c 33)] = some true
/-- the exception at p: of the class j, with its one field v -/
def ErrAt (c : Nat → Addr) (j : Nat) (p : Addr × Obj) (d : Option Addr) (v : V) (H : Hp) : Prop := Zc (.ref (c j)) d p.2 ∧ (∃ vs, p.2.data = .fields vs) ∧ XdAt H d [(fieldOf j, v)]
def bitsOf (j : Nat) : List Bool := (List.range 31).map fun i => decide (i = j)
theorem sort_count : ∀ j < 31, (bitsOf j).count true = 1 := by decide
theorem XdAt.same {H H' : Hp} {d : Option Addr} {fs : List (Str × V)} (h : XdAt H d fs) (e : Same H H') : XdAt H' d fs := by
  rcases h with h | ⟨dd, h1, h2⟩
  · exact .inl h
  · exact .inr ⟨dd, h1, e _ _ h2⟩
theorem ErrAt.same {c : Nat → Addr} {j : Nat} {p : Addr × Obj} {d : Option Addr} {v : V} {H H' : Hp} (h : ErrAt c j p d v H) (e : Same H H') : ErrAt c j p d v H' := ⟨h.1, h.2.1, h.2.2.same e⟩
section
variable {K : PySem.W.Frag} {c : Nat → Addr} {j : Nat} {p : Addr × Obj} {d : Option Addr} {v : V} {H : Hp} {Q : VK}
@[irreducible] def rIdx (K : PySem.W.Frag) : V → List V → Hp → VK → Prop := rIndexD K
theorem mt_idx {X : Cx} (hu : X.A.units + 65 < cLine) : MtR X "list.index" (rIdx X.K) := by
  unfold rIdx
  exact mt_indexD hu
theorem is_r (EX : ErrIx K c j) (E : ErrAt c j p d v H) {i : Nat} (hi : i < 31) (q : Q (.bl (decide (i = j))) H) : rIsP K p.1 (c j) d [.ref p.1, .ref (c i)] H Q := rIsP_in (fun _ r => r) (EX.kits i hi) E.2.2 q
theorem sort_index {a : Addr} (hj : j < 31) (hS : SqL K H a ((bitsOf j).map V.bl)) (q : Q (.int (j : Nat)) H) : rIdx K (.ref a) [.bl true] H Q := by
  unfold rIdx
  have h : ∀ j < 31, SeqAt.shaped (.list ((bitsOf j).map PyData.bool)) = true ∧ (bitsOf j)[j]? = some true ∧ ∀ m < 31, m < j → (bitsOf j)[m]? = some false := by decide +kernel
  obtain ⟨h1, h2, h3⟩ := h j hj
  refine ⟨a, _, .bool true, (bitsOf j).map PyData.bool, j, .bool true, rfl, rfl, .lst hS (dp_bools _), .bl true, h1, by decide +kernel, by rw [List.getElem?_map, h2]; rfl, by decide +kernel, fun m z hm hz => ?_, q⟩
  rw [List.getElem?_map, h3 m (by omega) hm] at hz
  cases hz
  decide +kernel
/-- the places of the three base classes -/
def baseOf (j : Nat) : Nat := if j < 19 then 0 else if j < 22 then 1 else 2
def dueBits (j : Nat) : List Bool := [decide (j < 19), decide (18 < j) && decide (j < 22), decide (21 < j)]
theorem due_index {a : Addr} (hj : j < 31) (hS : SqL K H a ((dueBits j).map V.bl)) (q : Q (.int (baseOf j : Nat)) H) : rIdx K (.ref a) [.bl true] H Q := by
  unfold rIdx
  have h : ∀ j < 31, SeqAt.shaped (.list ((dueBits j).map PyData.bool)) = true ∧ (dueBits j)[baseOf j]? = some true ∧ ∀ m < 31, m < baseOf j → (dueBits j)[m]? = some false := by decide +kernel
  obtain ⟨h1, h2, h3⟩ := h j hj
  have h4 : baseOf j < 31 := by
    unfold baseOf
    split
    · decide
    · split <;> decide
  refine ⟨a, _, .bool true, (dueBits j).map PyData.bool, baseOf j, .bool true, rfl, rfl, .lst hS (dp_bools _), .bl true, h1, by decide +kernel, by rw [List.getElem?_map, h2]; rfl, by decide +kernel, fun m z hm hz => ?_, q⟩
  rw [List.getElem?_map, h3 m (by omega) hm] at hz
  cases hz
  decide +kernel
theorem due_at : ∀ j < 31, atI ((dueBits j).map V.bl) (baseOf j : Nat) = some (.bl true) := by decide +kernel
theorem terms_at : ∀ j < 31, atI (TERMS.map V.str) (j : Nat) = some (.str (term j)) := by decide +kernel
theorem due_list (hj : j < 31) : [V.bl (decide ((j : Int) < 19)), .bl (decide ((18 : Int) < j) && decide ((j : Int) < 22)), .bl (decide ((21 : Int) < j))] = (dueBits j).map V.bl := by
  have e1 : decide ((j : Int) < 19) = decide (j < 19) := decide_eq_decide.mpr (by omega)
  have e2 : decide ((18 : Int) < j) = decide (18 < j) := decide_eq_decide.mpr (by omega)
  have e3 : decide ((j : Int) < 22) = decide (j < 22) := decide_eq_decide.mpr (by omega)
  have e4 : decide ((21 : Int) < j) = decide (21 < j) := decide_eq_decide.mpr (by omega)
  rw [e1, e2, e3, e4]
  rfl
theorem due_eqv : ∀ j < 31, PyData.eqv (.list ((dueBits j).map PyData.bool)) (.list ((dueBits j).map PyData.bool)) = true ∧ SeqAt.shaped (.list ((dueBits j).map PyData.bool)) = true := by decide +kernel
theorem chain_i {σ : L2.St} {i k : Int} {n : Nat} (hn : σ[n]? = some (some (.int i))) (q : Q (.bl (decide (k < i) && decide (i < 22))) H) :
    tChain (rI0 fun a b => .bl (decide (a < b))) (rI0 fun a b => .bl (decide (a < b))) (tC (.int k)) (tVar n) (tC (.int 22)) σ H Q := by
  refine ⟨_, hn, _, _, rfl, rfl, _, rfl, ?_⟩
  cases h : decide (k < i) with
  | true =>
    rw [h] at q
    exact iteT ⟨_, _, rfl, rfl, q⟩
  | false =>
    rw [h] at q
    exact iteF q
end
def sp_terms : Addr × Obj → Sp := fun _ vs H Q _ => vs = [] ∧ ∀ p H', H p = none → Same H H' → H' p = some (.lst (TERMS.map V.str)) → Q (.ref p) H'
def sp_sort (K : PySem.W.Frag) (c : Nat → Addr) : Addr × Obj → Sp := fun p vs H Q _ => ∃ (j : Nat) (d : Option Addr) (v : V), vs = [.ref p.1] ∧ j < 31 ∧ ErrIx K c j ∧ ErrAt c j p d v H ∧ ∀ H', Same H H' → Q (.str (term j)) H'
def sp_held (K : PySem.W.Frag) (c : Nat → Addr) : Addr × Obj → Sp := fun p vs H Q _ => ∃ (j : Nat) (d : Option Addr) (v : V), vs = [.ref p.1, .str (term j)] ∧ oneF j = true ∧ ErrIx K c j ∧ ErrAt c j p d v H ∧ ∀ H', Same H H' → Q v H'
end Hv
namespace L
open PySem L2 Hv
variable {P : Program} {w : World} {K : PySem.W.Frag} {mg : Str → Option Value} {base : Heap}
abbrev s_terms : Stmt := top 58
abbrev N_terms : List Str := ["_law_found"]
abbrev P_terms : List Str := []
theorem sc_terms : FnScope N_terms P_terms (defScope s_terms) := ⟨rfl, rfl, rfl, by decide +kernel, rfl, by decide +kernel, by decide +kernel⟩
theorem ok_terms {f : Addr} {fd : FuncData} (D : DefAt K mg "_law_terms" s_terms P_terms f fd) (T : Txt K mg) : FnP P w K mg base 1 f fd P_terms sp_terms := by
  refine fnP_of D.fn sc_terms (fun p vs H Q E h => ?_) (fun cdv A outer s H vs Q p hG hr h => ?_)
  · obtain ⟨rfl, _⟩ := h
    rfl
  · obtain ⟨rfl, ret⟩ := h
    have hp : p ∈ [p] := List.mem_singleton.mpr rfl
    refine ⟨_, (pss_cons (ps_asg (pe_lst (pa_cons pe_str (pa_cons pe_str (pa_cons pe_str (pa_cons pe_str (pa_cons pe_str (pa_cons pe_str pa_nil))))))) (pg_name (i := 0) sc_terms.nd rfl (.inl rfl)))
      (pss_cons (ps_asg (pe_op op_cat (pv 0) (pe_lst (pa_cons pe_str (pa_cons pe_str (pa_cons pe_str (pa_cons pe_str (pa_cons pe_str (pa_cons pe_str pa_nil)))))))) (pg_name (i := 0) sc_terms.nd rfl (.inl rfl)))
      (pss_cons (ps_asg (pe_op op_cat (pv 0) (pe_lst (pa_cons pe_str (pa_cons pe_str (pa_cons pe_str (pa_cons pe_str (pa_cons pe_str (pa_cons pe_str pa_nil)))))))) (pg_name (i := 0) sc_terms.nd rfl (.inl rfl)))
      (pss_cons (ps_asg (pe_op op_cat (pv 0) (pe_lst (pa_cons pe_str (pa_cons pe_str (pa_cons pe_str (pa_cons pe_str (pa_cons pe_str (pa_cons pe_str (pa_cons pe_str pa_nil))))))))) (pg_name (i := 0) sc_terms.nd rfl (.inl rfl)))
      (pss_one (ps_ret (pe_op op_cat (pv 0) (pe_lst (pa_cons pe_str (pa_cons pe_str (pa_cons pe_str (pa_cons pe_str (pa_cons pe_str (pa_cons pe_str pa_nil)))))))))))))), ?_⟩
    refine ⟨by show 6 ≤ sizeLine; decide, fun p1 n1 => ?_⟩
    refine ⟨_, rfl, by show 6 ≤ sizeLine; decide, fun q1 m1 => ⟨p1, q1, _, _, rfl, rfl, same_new m1 _ _ upd_same, upd_same, by show 12 ≤ sizeLine; decide, fun p2 n2 => ?_⟩⟩
    refine ⟨_, rfl, by show 6 ≤ sizeLine; decide, fun q2 m2 => ⟨p2, q2, _, _, rfl, rfl, same_new m2 _ _ upd_same, upd_same, by show 18 ≤ sizeLine; decide, fun p3 n3 => ?_⟩⟩
    refine ⟨_, rfl, by show 7 ≤ sizeLine; decide, fun q3 m3 => ⟨p3, q3, _, _, rfl, rfl, same_new m3 _ _ upd_same, upd_same, by show 25 ≤ sizeLine; decide, fun p4 n4 => ?_⟩⟩
    refine ⟨_, rfl, by show 6 ≤ sizeLine; decide, fun q4 m4 => ⟨p4, q4, _, _, rfl, rfl, same_new m4 _ _ upd_same, upd_same, by show 31 ≤ sizeLine; decide, fun p5 n5 => ?_⟩⟩
    have sm : ∀ {H1 H2 H3 H4 H5 H6 H7 H8 : Hp}, Same H H1 → Same H1 H2 → Same H2 H3 → Same H3 H4 → Same H4 H5 → Same H5 H6 → Same H6 H7 → Same H7 H8 → Same H H8 := fun a b c d e f g h => ((((((a.trans b).trans c).trans d).trans e).trans f).trans g).trans h
    refine ret p5 _ (Same.free ?_ n5) (Same.trans ?_ (same_new n5)) upd_same <;> exact sm (same_new n1) (same_new m1) (same_new n2) (same_new m2) (same_new n3) (same_new m3) (same_new n4) (same_new m4)
abbrev s_sort : Stmt := top 59
abbrev N_sort : List Str := ["_law_e", "_law_sorts", "_law_at", "_law_due_here", "_law_own"]
abbrev P_sort : List Str := ["_law_e"]
theorem sc_sort : FnScope N_sort P_sort (defScope s_sort) := ⟨rfl, rfl, rfl, by decide +kernel, rfl, by decide +kernel, by decide +kernel⟩
theorem ok_sort {f f1 : Addr} {fd fd1 : FuncData} {c : Nat → Addr} (D : DefAt K mg "_law_sort" s_sort P_sort f fd) (T : Txt K mg) (EN : ErrNames mg c) (D_terms : DefAt K mg "_law_terms" s_terms P_terms f1 fd1) : FnP P w K mg base 2 f fd P_sort (sp_sort K c) := by
  have G_terms : FnP P w K mg base 1 f1 fd1 P_terms sp_terms := ok_terms D_terms T
  refine fnP_of D.fn sc_sort (fun p vs H Q E h => ?_) (fun cdv A outer s H vs Q p hG hr h => ?_)
  · obtain ⟨j, d, v, rfl, _⟩ := h
    rfl
  · obtain ⟨j, d, v, rfl, hj, EX, EA, ret⟩ := h
    have hp : p ∈ [p] := List.mem_singleton.mpr rfl
    have hz := EA.1
    have hf := EA.2.1
    refine ⟨_, (pss_cons (ps_asg (pe_lst (pa_cons (pe_callB (call_isP EX.isx hp hz hf) (by rfl) T.isinstance (by decide +kernel) (pa_cons (pv 0) (pa_cons (pe_glob (v := .ref (c 0)) rfl EN.n0 rfl) pa_nil))) (pa_cons (pe_callB (call_isP EX.isx hp hz hf) (by rfl) T.isinstance (by decide +kernel) (pa_cons (pv 0) (pa_cons (pe_glob (v := .ref (c 1)) rfl EN.n1 rfl) pa_nil))) (pa_cons (pe_callB (call_isP EX.isx hp hz hf) (by rfl) T.isinstance (by decide +kernel) (pa_cons (pv 0) (pa_cons (pe_glob (v := .ref (c 2)) rfl EN.n2 rfl) pa_nil))) pa_nil)))) (pg_name (i := 1) sc_sort.nd rfl (.inl rfl)))
      (pss_cons (ps_asg (pe_op op_cat (pv 1) (pe_lst (pa_cons (pe_callB (call_isP EX.isx hp hz hf) (by rfl) T.isinstance (by decide +kernel) (pa_cons (pv 0) (pa_cons (pe_glob (v := .ref (c 3)) rfl EN.n3 rfl) pa_nil))) (pa_cons (pe_callB (call_isP EX.isx hp hz hf) (by rfl) T.isinstance (by decide +kernel) (pa_cons (pv 0) (pa_cons (pe_glob (v := .ref (c 4)) rfl EN.n4 rfl) pa_nil))) (pa_cons (pe_callB (call_isP EX.isx hp hz hf) (by rfl) T.isinstance (by decide +kernel) (pa_cons (pv 0) (pa_cons (pe_glob (v := .ref (c 5)) rfl EN.n5 rfl) pa_nil))) pa_nil))))) (pg_name (i := 1) sc_sort.nd rfl (.inl rfl)))
      (pss_cons (ps_asg (pe_op op_cat (pv 1) (pe_lst (pa_cons (pe_callB (call_isP EX.isx hp hz hf) (by rfl) T.isinstance (by decide +kernel) (pa_cons (pv 0) (pa_cons (pe_glob (v := .ref (c 6)) rfl EN.n6 rfl) pa_nil))) (pa_cons (pe_callB (call_isP EX.isx hp hz hf) (by rfl) T.isinstance (by decide +kernel) (pa_cons (pv 0) (pa_cons (pe_glob (v := .ref (c 7)) rfl EN.n7 rfl) pa_nil))) (pa_cons (pe_callB (call_isP EX.isx hp hz hf) (by rfl) T.isinstance (by decide +kernel) (pa_cons (pv 0) (pa_cons (pe_glob (v := .ref (c 8)) rfl EN.n8 rfl) pa_nil))) pa_nil))))) (pg_name (i := 1) sc_sort.nd rfl (.inl rfl)))
      (pss_cons (ps_asg (pe_op op_cat (pv 1) (pe_lst (pa_cons (pe_callB (call_isP EX.isx hp hz hf) (by rfl) T.isinstance (by decide +kernel) (pa_cons (pv 0) (pa_cons (pe_glob (v := .ref (c 9)) rfl EN.n9 rfl) pa_nil))) (pa_cons (pe_callB (call_isP EX.isx hp hz hf) (by rfl) T.isinstance (by decide +kernel) (pa_cons (pv 0) (pa_cons (pe_glob (v := .ref (c 10)) rfl EN.n10 rfl) pa_nil))) (pa_cons (pe_callB (call_isP EX.isx hp hz hf) (by rfl) T.isinstance (by decide +kernel) (pa_cons (pv 0) (pa_cons (pe_glob (v := .ref (c 11)) rfl EN.n11 rfl) pa_nil))) pa_nil))))) (pg_name (i := 1) sc_sort.nd rfl (.inl rfl)))
      (pss_cons (ps_asg (pe_op op_cat (pv 1) (pe_lst (pa_cons (pe_callB (call_isP EX.isx hp hz hf) (by rfl) T.isinstance (by decide +kernel) (pa_cons (pv 0) (pa_cons (pe_glob (v := .ref (c 12)) rfl EN.n12 rfl) pa_nil))) (pa_cons (pe_callB (call_isP EX.isx hp hz hf) (by rfl) T.isinstance (by decide +kernel) (pa_cons (pv 0) (pa_cons (pe_glob (v := .ref (c 13)) rfl EN.n13 rfl) pa_nil))) (pa_cons (pe_callB (call_isP EX.isx hp hz hf) (by rfl) T.isinstance (by decide +kernel) (pa_cons (pv 0) (pa_cons (pe_glob (v := .ref (c 14)) rfl EN.n14 rfl) pa_nil))) pa_nil))))) (pg_name (i := 1) sc_sort.nd rfl (.inl rfl)))
      (pss_cons (ps_asg (pe_op op_cat (pv 1) (pe_lst (pa_cons (pe_callB (call_isP EX.isx hp hz hf) (by rfl) T.isinstance (by decide +kernel) (pa_cons (pv 0) (pa_cons (pe_glob (v := .ref (c 15)) rfl EN.n15 rfl) pa_nil))) (pa_cons (pe_callB (call_isP EX.isx hp hz hf) (by rfl) T.isinstance (by decide +kernel) (pa_cons (pv 0) (pa_cons (pe_glob (v := .ref (c 16)) rfl EN.n16 rfl) pa_nil))) (pa_cons (pe_callB (call_isP EX.isx hp hz hf) (by rfl) T.isinstance (by decide +kernel) (pa_cons (pv 0) (pa_cons (pe_glob (v := .ref (c 17)) rfl EN.n17 rfl) pa_nil))) pa_nil))))) (pg_name (i := 1) sc_sort.nd rfl (.inl rfl)))
      (pss_cons (ps_asg (pe_op op_cat (pv 1) (pe_lst (pa_cons (pe_callB (call_isP EX.isx hp hz hf) (by rfl) T.isinstance (by decide +kernel) (pa_cons (pv 0) (pa_cons (pe_glob (v := .ref (c 18)) rfl EN.n18 rfl) pa_nil))) (pa_cons (pe_callB (call_isP EX.isx hp hz hf) (by rfl) T.isinstance (by decide +kernel) (pa_cons (pv 0) (pa_cons (pe_glob (v := .ref (c 19)) rfl EN.n19 rfl) pa_nil))) (pa_cons (pe_callB (call_isP EX.isx hp hz hf) (by rfl) T.isinstance (by decide +kernel) (pa_cons (pv 0) (pa_cons (pe_glob (v := .ref (c 20)) rfl EN.n20 rfl) pa_nil))) pa_nil))))) (pg_name (i := 1) sc_sort.nd rfl (.inl rfl)))
      (pss_cons (ps_asg (pe_op op_cat (pv 1) (pe_lst (pa_cons (pe_callB (call_isP EX.isx hp hz hf) (by rfl) T.isinstance (by decide +kernel) (pa_cons (pv 0) (pa_cons (pe_glob (v := .ref (c 21)) rfl EN.n21 rfl) pa_nil))) (pa_cons (pe_callB (call_isP EX.isx hp hz hf) (by rfl) T.isinstance (by decide +kernel) (pa_cons (pv 0) (pa_cons (pe_glob (v := .ref (c 22)) rfl EN.n22 rfl) pa_nil))) (pa_cons (pe_callB (call_isP EX.isx hp hz hf) (by rfl) T.isinstance (by decide +kernel) (pa_cons (pv 0) (pa_cons (pe_glob (v := .ref (c 23)) rfl EN.n23 rfl) pa_nil))) (pa_cons (pe_callB (call_isP EX.isx hp hz hf) (by rfl) T.isinstance (by decide +kernel) (pa_cons (pv 0) (pa_cons (pe_glob (v := .ref (c 24)) rfl EN.n24 rfl) pa_nil))) pa_nil)))))) (pg_name (i := 1) sc_sort.nd rfl (.inl rfl)))
      (pss_cons (ps_asg (pe_op op_cat (pv 1) (pe_lst (pa_cons (pe_callB (call_isP EX.isx hp hz hf) (by rfl) T.isinstance (by decide +kernel) (pa_cons (pv 0) (pa_cons (pe_glob (v := .ref (c 25)) rfl EN.n25 rfl) pa_nil))) (pa_cons (pe_callB (call_isP EX.isx hp hz hf) (by rfl) T.isinstance (by decide +kernel) (pa_cons (pv 0) (pa_cons (pe_glob (v := .ref (c 26)) rfl EN.n26 rfl) pa_nil))) (pa_cons (pe_callB (call_isP EX.isx hp hz hf) (by rfl) T.isinstance (by decide +kernel) (pa_cons (pv 0) (pa_cons (pe_glob (v := .ref (c 27)) rfl EN.n27 rfl) pa_nil))) pa_nil))))) (pg_name (i := 1) sc_sort.nd rfl (.inl rfl)))
      (pss_cons (ps_asg (pe_op op_cat (pv 1) (pe_lst (pa_cons (pe_callB (call_isP EX.isx hp hz hf) (by rfl) T.isinstance (by decide +kernel) (pa_cons (pv 0) (pa_cons (pe_glob (v := .ref (c 28)) rfl EN.n28 rfl) pa_nil))) (pa_cons (pe_callB (call_isP EX.isx hp hz hf) (by rfl) T.isinstance (by decide +kernel) (pa_cons (pv 0) (pa_cons (pe_glob (v := .ref (c 29)) rfl EN.n29 rfl) pa_nil))) (pa_cons (pe_callB (call_isP EX.isx hp hz hf) (by rfl) T.isinstance (by decide +kernel) (pa_cons (pv 0) (pa_cons (pe_glob (v := .ref (c 30)) rfl EN.n30 rfl) pa_nil))) pa_nil))))) (pg_name (i := 1) sc_sort.nd rfl (.inl rfl)))
      (pss_cons (ps_if (pt_cmpR op_ne (pe_bm PySem.F.plainAttrs_list PySem.F.slot_list_count PySem.F.type_list_count (mt_countB (rh65 hr)) (pv 1) (pa_cons pe_bl pa_nil)) pe_int (nomark _))
      (pss_one (ps_ret pe_str))
      pss_nil)
      (pss_cons (ps_asg (pe_bm PySem.F.plainAttrs_list PySem.F.slot_list_index PySem.F.type_list_index (mt_idx (rh65 hr)) (pv 1) (pa_cons pe_bl pa_nil)) (pg_name (i := 2) sc_sort.nd rfl (.inl rfl)))
      (pss_cons (ps_asg (pe_lst (pa_cons (pe_cmpR op_lt (pv 2) pe_int (nomark _)) (pa_cons (pe_chain op_lt op_lt pe_int (pv 2) pe_int) (pa_cons (pe_cmpR op_lt pe_int (pv 2) (nomark _)) pa_nil)))) (pg_name (i := 3) sc_sort.nd rfl (.inl rfl)))
      (pss_cons (ps_asg (pe_lst (pa_cons (pe_callB (call_isP EX.isx hp hz hf) (by rfl) T.isinstance (by decide +kernel) (pa_cons (pv 0) (pa_cons (pe_bltn (v := .ty "ValueError") (u := .type "ValueError") (by rfl) T.ValueError (by decide +kernel) rfl) pa_nil))) (pa_cons (pe_callB (call_isP EX.isx hp hz hf) (by rfl) T.isinstance (by decide +kernel) (pa_cons (pv 0) (pa_cons (pe_bltn (v := .ty "LookupError") (u := .type "LookupError") (by rfl) T.LookupError (by decide +kernel) rfl) pa_nil))) (pa_cons (pe_callB (call_isP EX.isx hp hz hf) (by rfl) T.isinstance (by decide +kernel) (pa_cons (pv 0) (pa_cons (pe_bltn (v := .ty "ArithmeticError") (u := .type "ArithmeticError") (by rfl) T.ArithmeticError (by decide +kernel) rfl) pa_nil))) pa_nil)))) (pg_name (i := 4) sc_sort.nd rfl (.inl rfl)))
      (pss_cons (ps_if (pt_cmpR (op_neD (rhU hr)) (pe_lst (pa_cons (pe_callB (call_isP EX.isx hp hz hf) (by rfl) T.isinstance (by decide +kernel) (pa_cons (pv 0) (pa_cons (pe_glob (v := .ref (c 31)) rfl EN.n31 rfl) pa_nil))) (pa_cons (pe_callB (call_isP EX.isx hp hz hf) (by rfl) T.isinstance (by decide +kernel) (pa_cons (pv 0) (pa_cons (pe_glob (v := .ref (c 32)) rfl EN.n32 rfl) pa_nil))) (pa_cons (pe_callB (call_isP EX.isx hp hz hf) (by rfl) T.isinstance (by decide +kernel) (pa_cons (pv 0) (pa_cons (pe_glob (v := .ref (c 33)) rfl EN.n33 rfl) pa_nil))) pa_nil)))) (pv 3) (nomark _))
      (pss_one (ps_ret pe_str))
      pss_nil)
      (pss_one (ps_ret (pe_ifExp (pt_val (pe_ix ix_list (pv 4) (pe_bm PySem.F.plainAttrs_list PySem.F.slot_list_index PySem.F.type_list_index (mt_idx (rh65 hr)) (pv 3) (pa_cons pe_bl pa_nil)) (fun _ _ => rfl))) (pe_ix ix_list (pe_call0P G_terms hG (hr.mono (by decide)) hp rfl D_terms.mg D_terms.fn.kp D_terms.bd) (pv 2) (fun _ _ => rfl)) pe_str)))))))))))))))))), ?_⟩
    refine ⟨_, rfl, is_r EX EA (i := 0) (by decide) ⟨_, rfl, is_r EX EA (i := 1) (by decide) ⟨_, rfl, is_r EX EA (i := 2) (by decide) ⟨by show 3 ≤ sizeLine; decide, fun q0 m0 => ?_⟩⟩⟩⟩
    have s1 := same_new (o := .lst [.bl (decide (0 = j)), .bl (decide (1 = j)), .bl (decide (2 = j))]) m0
    refine ⟨_, rfl, ⟨_, rfl, is_r EX (EA.same s1) (i := 3) (by decide) ⟨_, rfl, is_r EX (EA.same s1) (i := 4) (by decide) ⟨_, rfl, is_r EX (EA.same s1) (i := 5) (by decide) ⟨by show 3 ≤ sizeLine; decide, fun q1 m1 => ⟨_, q1, _, _, rfl, rfl, same_new m1 _ _ upd_same, upd_same, by show 6 ≤ sizeLine; decide, fun r1 n1 => ?_⟩⟩⟩⟩⟩⟩
    have s2 := (s1.trans (same_new (o := .lst [.bl (decide (3 = j)), .bl (decide (4 = j)), .bl (decide (5 = j))]) m1)).trans (same_new (o := .lst [.bl (decide (0 = j)), .bl (decide (1 = j)), .bl (decide (2 = j)), .bl (decide (3 = j)), .bl (decide (4 = j)), .bl (decide (5 = j))]) n1)
    clear s1
    refine ⟨_, rfl, ⟨_, rfl, is_r EX (EA.same s2) (i := 6) (by decide) ⟨_, rfl, is_r EX (EA.same s2) (i := 7) (by decide) ⟨_, rfl, is_r EX (EA.same s2) (i := 8) (by decide) ⟨by show 3 ≤ sizeLine; decide, fun q2 m2 => ⟨_, q2, _, _, rfl, rfl, same_new m2 _ _ upd_same, upd_same, by show 9 ≤ sizeLine; decide, fun r2 n2 => ?_⟩⟩⟩⟩⟩⟩
    have s3 := (s2.trans (same_new (o := .lst [.bl (decide (6 = j)), .bl (decide (7 = j)), .bl (decide (8 = j))]) m2)).trans (same_new (o := .lst [.bl (decide (0 = j)), .bl (decide (1 = j)), .bl (decide (2 = j)), .bl (decide (3 = j)), .bl (decide (4 = j)), .bl (decide (5 = j)), .bl (decide (6 = j)), .bl (decide (7 = j)), .bl (decide (8 = j))]) n2)
    clear s2
    refine ⟨_, rfl, ⟨_, rfl, is_r EX (EA.same s3) (i := 9) (by decide) ⟨_, rfl, is_r EX (EA.same s3) (i := 10) (by decide) ⟨_, rfl, is_r EX (EA.same s3) (i := 11) (by decide) ⟨by show 3 ≤ sizeLine; decide, fun q3 m3 => ⟨_, q3, _, _, rfl, rfl, same_new m3 _ _ upd_same, upd_same, by show 12 ≤ sizeLine; decide, fun r3 n3 => ?_⟩⟩⟩⟩⟩⟩
    have s4 := (s3.trans (same_new (o := .lst [.bl (decide (9 = j)), .bl (decide (10 = j)), .bl (decide (11 = j))]) m3)).trans (same_new (o := .lst [.bl (decide (0 = j)), .bl (decide (1 = j)), .bl (decide (2 = j)), .bl (decide (3 = j)), .bl (decide (4 = j)), .bl (decide (5 = j)), .bl (decide (6 = j)), .bl (decide (7 = j)), .bl (decide (8 = j)), .bl (decide (9 = j)), .bl (decide (10 = j)), .bl (decide (11 = j))]) n3)
    clear s3
    refine ⟨_, rfl, ⟨_, rfl, is_r EX (EA.same s4) (i := 12) (by decide) ⟨_, rfl, is_r EX (EA.same s4) (i := 13) (by decide) ⟨_, rfl, is_r EX (EA.same s4) (i := 14) (by decide) ⟨by show 3 ≤ sizeLine; decide, fun q4 m4 => ⟨_, q4, _, _, rfl, rfl, same_new m4 _ _ upd_same, upd_same, by show 15 ≤ sizeLine; decide, fun r4 n4 => ?_⟩⟩⟩⟩⟩⟩
    have s5 := (s4.trans (same_new (o := .lst [.bl (decide (12 = j)), .bl (decide (13 = j)), .bl (decide (14 = j))]) m4)).trans (same_new (o := .lst [.bl (decide (0 = j)), .bl (decide (1 = j)), .bl (decide (2 = j)), .bl (decide (3 = j)), .bl (decide (4 = j)), .bl (decide (5 = j)), .bl (decide (6 = j)), .bl (decide (7 = j)), .bl (decide (8 = j)), .bl (decide (9 = j)), .bl (decide (10 = j)), .bl (decide (11 = j)), .bl (decide (12 = j)), .bl (decide (13 = j)), .bl (decide (14 = j))]) n4)
    clear s4
    refine ⟨_, rfl, ⟨_, rfl, is_r EX (EA.same s5) (i := 15) (by decide) ⟨_, rfl, is_r EX (EA.same s5) (i := 16) (by decide) ⟨_, rfl, is_r EX (EA.same s5) (i := 17) (by decide) ⟨by show 3 ≤ sizeLine; decide, fun q5 m5 => ⟨_, q5, _, _, rfl, rfl, same_new m5 _ _ upd_same, upd_same, by show 18 ≤ sizeLine; decide, fun r5 n5 => ?_⟩⟩⟩⟩⟩⟩
    have s6 := (s5.trans (same_new (o := .lst [.bl (decide (15 = j)), .bl (decide (16 = j)), .bl (decide (17 = j))]) m5)).trans (same_new (o := .lst [.bl (decide (0 = j)), .bl (decide (1 = j)), .bl (decide (2 = j)), .bl (decide (3 = j)), .bl (decide (4 = j)), .bl (decide (5 = j)), .bl (decide (6 = j)), .bl (decide (7 = j)), .bl (decide (8 = j)), .bl (decide (9 = j)), .bl (decide (10 = j)), .bl (decide (11 = j)), .bl (decide (12 = j)), .bl (decide (13 = j)), .bl (decide (14 = j)), .bl (decide (15 = j)), .bl (decide (16 = j)), .bl (decide (17 = j))]) n5)
    clear s5
    refine ⟨_, rfl, ⟨_, rfl, is_r EX (EA.same s6) (i := 18) (by decide) ⟨_, rfl, is_r EX (EA.same s6) (i := 19) (by decide) ⟨_, rfl, is_r EX (EA.same s6) (i := 20) (by decide) ⟨by show 3 ≤ sizeLine; decide, fun q6 m6 => ⟨_, q6, _, _, rfl, rfl, same_new m6 _ _ upd_same, upd_same, by show 21 ≤ sizeLine; decide, fun r6 n6 => ?_⟩⟩⟩⟩⟩⟩
    have s7 := (s6.trans (same_new (o := .lst [.bl (decide (18 = j)), .bl (decide (19 = j)), .bl (decide (20 = j))]) m6)).trans (same_new (o := .lst [.bl (decide (0 = j)), .bl (decide (1 = j)), .bl (decide (2 = j)), .bl (decide (3 = j)), .bl (decide (4 = j)), .bl (decide (5 = j)), .bl (decide (6 = j)), .bl (decide (7 = j)), .bl (decide (8 = j)), .bl (decide (9 = j)), .bl (decide (10 = j)), .bl (decide (11 = j)), .bl (decide (12 = j)), .bl (decide (13 = j)), .bl (decide (14 = j)), .bl (decide (15 = j)), .bl (decide (16 = j)), .bl (decide (17 = j)), .bl (decide (18 = j)), .bl (decide (19 = j)), .bl (decide (20 = j))]) n6)
    clear s6
    refine ⟨_, rfl, ⟨_, rfl, is_r EX (EA.same s7) (i := 21) (by decide) ⟨_, rfl, is_r EX (EA.same s7) (i := 22) (by decide) ⟨_, rfl, is_r EX (EA.same s7) (i := 23) (by decide) ⟨_, rfl, is_r EX (EA.same s7) (i := 24) (by decide) ⟨by show 4 ≤ sizeLine; decide, fun q7 m7 => ⟨_, q7, _, _, rfl, rfl, same_new m7 _ _ upd_same, upd_same, by show 25 ≤ sizeLine; decide, fun r7 n7 => ?_⟩⟩⟩⟩⟩⟩⟩
    have s8 := (s7.trans (same_new (o := .lst [.bl (decide (21 = j)), .bl (decide (22 = j)), .bl (decide (23 = j)), .bl (decide (24 = j))]) m7)).trans (same_new (o := .lst [.bl (decide (0 = j)), .bl (decide (1 = j)), .bl (decide (2 = j)), .bl (decide (3 = j)), .bl (decide (4 = j)), .bl (decide (5 = j)), .bl (decide (6 = j)), .bl (decide (7 = j)), .bl (decide (8 = j)), .bl (decide (9 = j)), .bl (decide (10 = j)), .bl (decide (11 = j)), .bl (decide (12 = j)), .bl (decide (13 = j)), .bl (decide (14 = j)), .bl (decide (15 = j)), .bl (decide (16 = j)), .bl (decide (17 = j)), .bl (decide (18 = j)), .bl (decide (19 = j)), .bl (decide (20 = j)), .bl (decide (21 = j)), .bl (decide (22 = j)), .bl (decide (23 = j)), .bl (decide (24 = j))]) n7)
    clear s7
    refine ⟨_, rfl, ⟨_, rfl, is_r EX (EA.same s8) (i := 25) (by decide) ⟨_, rfl, is_r EX (EA.same s8) (i := 26) (by decide) ⟨_, rfl, is_r EX (EA.same s8) (i := 27) (by decide) ⟨by show 3 ≤ sizeLine; decide, fun q8 m8 => ⟨_, q8, _, _, rfl, rfl, same_new m8 _ _ upd_same, upd_same, by show 28 ≤ sizeLine; decide, fun r8 n8 => ?_⟩⟩⟩⟩⟩⟩
    have s9 := (s8.trans (same_new (o := .lst [.bl (decide (25 = j)), .bl (decide (26 = j)), .bl (decide (27 = j))]) m8)).trans (same_new (o := .lst [.bl (decide (0 = j)), .bl (decide (1 = j)), .bl (decide (2 = j)), .bl (decide (3 = j)), .bl (decide (4 = j)), .bl (decide (5 = j)), .bl (decide (6 = j)), .bl (decide (7 = j)), .bl (decide (8 = j)), .bl (decide (9 = j)), .bl (decide (10 = j)), .bl (decide (11 = j)), .bl (decide (12 = j)), .bl (decide (13 = j)), .bl (decide (14 = j)), .bl (decide (15 = j)), .bl (decide (16 = j)), .bl (decide (17 = j)), .bl (decide (18 = j)), .bl (decide (19 = j)), .bl (decide (20 = j)), .bl (decide (21 = j)), .bl (decide (22 = j)), .bl (decide (23 = j)), .bl (decide (24 = j)), .bl (decide (25 = j)), .bl (decide (26 = j)), .bl (decide (27 = j))]) n8)
    clear s8
    refine ⟨_, rfl, ⟨_, rfl, is_r EX (EA.same s9) (i := 28) (by decide) ⟨_, rfl, is_r EX (EA.same s9) (i := 29) (by decide) ⟨_, rfl, is_r EX (EA.same s9) (i := 30) (by decide) ⟨by show 3 ≤ sizeLine; decide, fun q9 m9 => ⟨_, q9, _, _, rfl, rfl, same_new m9 _ _ upd_same, upd_same, by show 31 ≤ sizeLine; decide, fun r9 n9 => ?_⟩⟩⟩⟩⟩⟩
    have s10 := (s9.trans (same_new (o := .lst [.bl (decide (28 = j)), .bl (decide (29 = j)), .bl (decide (30 = j))]) m9)).trans (same_new (o := .lst ([.bl (decide (0 = j)), .bl (decide (1 = j)), .bl (decide (2 = j)), .bl (decide (3 = j)), .bl (decide (4 = j)), .bl (decide (5 = j)), .bl (decide (6 = j)), .bl (decide (7 = j)), .bl (decide (8 = j)), .bl (decide (9 = j)), .bl (decide (10 = j)), .bl (decide (11 = j)), .bl (decide (12 = j)), .bl (decide (13 = j)), .bl (decide (14 = j)), .bl (decide (15 = j)), .bl (decide (16 = j)), .bl (decide (17 = j)), .bl (decide (18 = j)), .bl (decide (19 = j)), .bl (decide (20 = j)), .bl (decide (21 = j)), .bl (decide (22 = j)), .bl (decide (23 = j)), .bl (decide (24 = j)), .bl (decide (25 = j)), .bl (decide (26 = j)), .bl (decide (27 = j))] ++ [.bl (decide (28 = j)), .bl (decide (29 = j)), .bl (decide (30 = j))])) n9)
    clear s9
    dsimp only [gName]
    generalize hx : upd _ r9 _ = Hx at s10 ⊢
    have hLx : Hx r9 = some (.lst ((bitsOf j).map V.bl)) := by
      rw [← hx]
      exact upd_same
    clear hx
    have hL : SqL K Hx r9 ((bitsOf j).map V.bl) := SqL.of hLx
    refine ⟨_, rfl, .inl ⟨rfl, _, hL⟩, r9, bitsOf j, rfl, rfl, hL, rfl, _, rfl, ?_⟩
    rw [sort_count j hj]
    refine ifNF rfl ?_
    refine ⟨_, rfl, .inl ⟨rfl, _, hL⟩, sort_index hj hL ?_⟩
    refine ⟨_, rfl, _, _, rfl, rfl, chain_i (n := 2) rfl ⟨_, rfl, _, _, rfl, rfl, by show 3 ≤ sizeLine; decide, fun a1 b1 => ?_⟩⟩
    rw [due_list hj]
    have t1 := s10.trans (same_new (o := .lst ((dueBits j).map V.bl)) b1)
    have E1 := EA.same t1
    refine ⟨_, rfl, rIsP_in (cv := .type "ValueError") (fun _ r => r) EX.tV E1.2.2 ⟨_, rfl, rIsP_in (cv := .type "LookupError") (fun _ r => r) EX.tL E1.2.2 ⟨_, rfl, rIsP_in (cv := .type "ArithmeticError") (fun _ r => r) EX.tA E1.2.2 ⟨by show 3 ≤ sizeLine; decide, fun a2 b2 => ?_⟩⟩⟩⟩
    have t2 := t1.trans (same_new (o := .lst ((dueBits j).map V.bl)) b2)
    have E2 := EA.same t2
    have D2 := same_new (o := .lst ((dueBits j).map V.bl)) b2 _ _ (upd_same (H := Hx) (a := a1) (o := .lst ((dueBits j).map V.bl)))
    refine ⟨_, rfl, rIsP_in (cv := .ref (c 31)) (fun _ r => r) EX.kV E2.2.2 ⟨_, rfl, rIsP_in (cv := .ref (c 32)) (fun _ r => r) EX.kN E2.2.2 ⟨_, rfl, rIsP_in (cv := .ref (c 33)) (fun _ r => r) EX.kP E2.2.2 ⟨by show 3 ≤ sizeLine; decide, fun a3 b3 => ?_⟩⟩⟩⟩
    have t3 := t2.trans (same_new (o := .lst ((dueBits j).map V.bl)) b3)
    obtain ⟨e1, e2⟩ := due_eqv j hj
    refine ⟨_, rfl, .list ((dueBits j).map PyData.bool), .list ((dueBits j).map PyData.bool), .lst (SqL.of upd_same) (dp_bools (dueBits j)), .lst (SqL.of (same_new b3 _ _ D2)) (dp_bools (dueBits j)), e2, e2, _, rfl, ?_⟩
    rw [e1]
    refine iteF ?_
    have O3 := same_new (o := .lst ((dueBits j).map V.bl)) b3 _ _ (upd_same (a := a2) (o := .lst ((dueBits j).map V.bl)))
    have D3 := same_new (o := .lst ((dueBits j).map V.bl)) b3 _ _ D2
    refine ⟨_, rfl, _, rfl, .inl ⟨rfl, _, SqL.of D3⟩, due_index hj (SqL.of D3) ⟨_, _, _, _, rfl, rfl, SqL.of O3, due_at j hj, _, rfl, iteT ?_⟩⟩
    refine ⟨rfl, fun q H' q0 sq hq => ⟨_, rfl, q, _, _, _, rfl, rfl, SqL.of hq, terms_at j hj, ret _ (t3.trans sq)⟩⟩
end L

namespace Hv
open PySem L2
/-- all that the walks ask of the error class j, of the classes cs -/
def errB (K : PySem.W.Frag) (cs : List Addr) (j : Nat) : Bool :=
  let D := cs.getD j 0
  decide (PySem.W.findIn K (.ref D) "__getattribute__" = some (some (.builtin "BaseException.__getattribute__"))) && (decide (PySem.W.findIn K (.ref D) "__getattr__" = some none) && (decide (PySem.W.subIn K (.ref D) (.type "BaseException") = some true) && (PySem.W.hasDictIn K D &&
  (decide (PySem.W.findIn K (.ref D) "__class__" = some (some (.builtin "object.__class__"))) && (decide (PySem.W.specialIn K (.builtin "object.__class__") "__get__" = some (some (.builtin "getset_descriptor.__get__"))) && (decide (PySem.W.takesIn K (.builtin "object.__class__") = some true) &&
  (decide (PySem.W.mroIn K D (.type "object") = some true) && ((List.range 31).all (fun i => decide (PySem.W.kitOne K (.ref D) (.ref (cs.getD i 0)) = some (decide (i = j)))) && (decide (PySem.W.kitOne K (.ref D) (.ref (cs.getD 31 0)) = some (decide (j < 19))) &&
  (decide (PySem.W.kitOne K (.ref D) (.ref (cs.getD 32 0)) = some (decide (18 < j) && decide (j < 22))) && (decide (PySem.W.kitOne K (.ref D) (.ref (cs.getD 33 0)) = some (decide (21 < j))) && (decide (PySem.W.kitOne K (.ref D) (.type "ValueError") = some (decide (j < 19))) &&
  (decide (PySem.W.kitOne K (.ref D) (.type "LookupError") = some (decide (18 < j) && decide (j < 22))) && (decide (PySem.W.kitOne K (.ref D) (.type "ArithmeticError") = some (decide (21 < j))) && (decide (PySem.W.findIn K (.ref D) "given" = some none) && (decide (PySem.W.findIn K (.ref D) "index" = some none) &&
  (decide (PySem.W.findIn K (.ref D) "kind" = some none) && (decide (PySem.W.findIn K (.ref D) "house" = some none) && decide (PySem.W.exmAny K (.ref D) [.ref (cs.getD 31 0), .ref (cs.getD 32 0), .ref (cs.getD 33 0)] = some true)))))))))))))))))))
theorem errB_ok {K : PySem.W.Frag} {cs : List Addr} {j : Nat} (h : errB K cs j = true) : ErrIx K (fun i => cs.getD i 0) j := by
  unfold errB at h
  simp only [Bool.and_eq_true, decide_eq_true_eq, List.all_eq_true, List.mem_range] at h
  obtain ⟨h1, h2, h3, h4, h5, h6, h7, h8, h9, h10, h11, h12, h13, h14, h15, h16, h17, h18, h19, h20⟩ := h
  exact ⟨⟨h1, h2, h3, h4, h5, h6, h7, h8⟩, ⟨h1, h2, h3, h4⟩, fun i hi => h9 i hi, h10, h11, h12, h13, h14, h15, h16, h17, h18, h19, h20⟩
/-- what the top has left of an error class with one field -/
structure ErrIn (K : PySem.W.Frag) (C : Addr) (f : Str) : Prop where
  oex : OexC K C
  ini : ∃ (fI : Addr) (oc : Value) (od : Option Addr) (kV doc pm : Value) (an : Option Addr) (cd ct : Value) (sl : Array (Option Value)) (q : Str) (p1 p2 q1 q2 q3 q4 : Pos),
    PySem.W.findIn K (.ref C) "__init__" = some (some (.ref fI)) ∧ PySem.W.typeIn K (.ref fI) = some (.type "function") ∧
    K.lookup fI = some ⟨oc, od, .func (PySem.W.fnOf "__init__" q (eA f p1 p2) (eB f q1 q2 q3 q4) (eS f) .none kV doc pm an cd ct), sl⟩ ∧ PySem.W.codeIn K cd q = true
theorem errIn_mk {K : PySem.W.Frag} {C fI : Addr} {f : Str} {nm q0 : Str} {N : Addr} {bs bm : List Value} {sn sub ab col dd k0 k1 k2 k3 k5} {oc : Value} {od : Option Addr} {kV doc pm : Value} {an : Option Addr} {cd ct : Value} {sl : Array (Option Value)} {q : Str} {p1 p2 q1 q2 q3 q4 : Pos}
    (h1 : K.lookup C = some (excClassObj nm q0 C N bs bm true sn sub ab col dd k0 k1 k2 k3 k5 "ValueError.__new__")) (h2 : PySem.HandSPX.refsVE bm = true) (h3 : PySem.W.findIn K (.ref C) "__setattr__" = some (some (.builtin "object.__setattr__")))
    (h4 : PySem.W.subIn K (.ref C) (.type "BaseException") = some true) (h5 : PySem.W.typeIn K (.ref C) = some (.type "type")) (h6 : PySem.W.keepIn K (.ref C) = true) (h7 : PySem.W.findIn K (.ref C) "__init__" = some (some (.ref fI))) (h8 : PySem.W.typeIn K (.ref fI) = some (.type "function"))
    (h9 : K.lookup fI = some ⟨oc, od, .func (PySem.W.fnOf "__init__" q (eA f p1 p2) (eB f q1 q2 q3 q4) (eS f) .none kV doc pm an cd ct), sl⟩) (h10 : PySem.W.codeIn K cd q = true) : ErrIn K C f :=
  ⟨⟨⟨nm, q0, N, bs, bm, sn, sub, ab, col, dd, k0, k1, k2, k3, k5, h1, h2⟩, h3, h4, h5, h6⟩, fI, oc, od, kV, doc, pm, an, cd, ct, sl, q, p1, p2, q1, q2, q3, q4, h7, h8, h9, h10⟩
theorem ErrIn.txt {K : PySem.W.Frag} {mg : Str → Option Value} {C : Addr} {x f : Str} (h : ErrIn K C f) (hm : mg x = some (.ref C)) (hi : ExcC K C) (hn : PySem.W.findIn K (.ref C) f = some none) (hf : FldOk f) : ErrTxt K mg x f C := ⟨hm, hf, h.oex, hi, hn, h.ini⟩
theorem tabIn_code {K : PySem.W.Frag} {x : Str} {c P f : Addr} {oc : Value} {od : Option Addr} {fd : FuncData} {sl : Array (Option Value)} (t : TabIn K x c P) (h1 : PySem.W.nsIn K mainGlobals x = some (some (.ref f))) (h2 : K.lookup f = some ⟨oc, od, .func fd, sl⟩) : fd.code = .ref c := by
  obtain ⟨f', o, fd', e, dd, vs, sl', k1, k2, k3, k4, _⟩ := t
  rw [h1] at k1
  cases k1
  rw [h2] at k2
  cases k2
  cases k3
  exact k4
end Hv

namespace Hv
open PySem L2
def L1 : List V := [.str "InvalidKinds", .str "InvalidRows", .str "InvalidChanges", .str "InvalidWishes", .str "InUse"]
def L2' : List V := [.str "IsClosed", .str "NotListed", .str "TooFew", .str "UsedUp", .str "CannotClose"]
def L3 : List V := [.str "Over", .str "NothingToUndo", .str ""]
theorem held_tab : ∀ j < 31, oneF j = true → inV (.str (term j)) L1 = decide (fieldOf j = "index") ∧ inV (.str (term j)) L2' = decide (fieldOf j = "kind") ∧ inV (.str (term j)) L3 = false ∧ decide (V.str (term j) = V.str "Broken") = false ∧
    (fieldOf j ≠ "index" → fieldOf j ≠ "kind" → fieldOf j = "given") := by decide +kernel
theorem oneF_lt {j : Nat} (h : oneF j = true) : j < 31 := by
  unfold oneF at h
  simp only [Bool.and_eq_true, decide_eq_true_eq] at h
  omega
end Hv
namespace L
open PySem L2 Hv
variable {P : Program} {w : World} {K : PySem.W.Frag} {mg : Str → Option Value} {base : Heap}
abbrev s_held : Stmt := top 60
abbrev N_held : List Str := ["_law_e", "_law_term"]
abbrev P_held : List Str := ["_law_e", "_law_term"]
theorem sc_held : FnScope N_held P_held (defScope s_held) := ⟨rfl, rfl, rfl, by decide +kernel, rfl, by decide +kernel, by decide +kernel⟩
theorem ok_held {f : Addr} {fd : FuncData} {c : Nat → Addr} (D : DefAt K mg "_law_held" s_held P_held f fd) (T : Txt K mg) : FnP P w K mg base 1 f fd P_held (sp_held K c) := by
  refine fnP_of D.fn sc_held (fun p vs H Q E h => ?_) (fun cdv A outer s H vs Q p hG hr h => ?_)
  · obtain ⟨j, d, v, rfl, _⟩ := h
    rfl
  · obtain ⟨j, d, v, rfl, hj, EX, EA, ret⟩ := h
    have hp : p ∈ [p] := List.mem_singleton.mpr rfl
    have hz := EA.1
    have hf := EA.2.1
    have h31 := oneF_lt hj
    obtain ⟨t1, t2, t3, t4, t5⟩ := held_tab j h31 hj
    refine ⟨_, (pss_cons (ps_if (pt_cmpR op_in_seq (pv 1) (pe_lst (pa_cons pe_str (pa_cons pe_str (pa_cons pe_str (pa_cons pe_str (pa_cons pe_str pa_nil)))))) (by rfl))
      (pss_one (ps_ret (pe_xp EX.xf (EX.f_index) hp hz hf (pv 0))))
      pss_nil)
      (pss_cons (ps_if (pt_cmpR op_in_seq (pv 1) (pe_lst (pa_cons pe_str (pa_cons pe_str (pa_cons pe_str (pa_cons pe_str (pa_cons pe_str pa_nil)))))) (by rfl))
      (pss_one (ps_ret (pe_xp EX.xf (EX.f_kind) hp hz hf (pv 0))))
      pss_nil)
      (pss_cons (ps_if (pt_cmpR op_in_seq (pv 1) (pe_lst (pa_cons pe_str (pa_cons pe_str (pa_cons pe_str pa_nil)))) (by rfl))
      (pss_one (ps_ret pe_non))
      pss_nil)
      (pss_one (ps_ret (pe_ifExp (pt_cmpR op_eq (pv 1) pe_str (nomark _)) (pe_lst (pa_cons (pe_xp EX.xf (EX.f_index) hp hz hf (pv 0)) (pa_cons (pe_xp EX.xf (EX.f_house) hp hz hf (pv 0)) pa_nil))) (pe_xp EX.xf (EX.f_given) hp hz hf (pv 0)))))))), ?_⟩
    refine ⟨_, rfl, by show 5 ≤ sizeLine; decide, fun p1 n1 => ⟨p1, L1, rfl, .inl (SqL.of upd_same), rfl, rfl, _, rfl, ?_⟩⟩
    have s1 := same_new (o := .lst L1) n1
    rw [t1]
    by_cases f1 : fieldOf j = "index"
    · refine ifT f1 ⟨_, rfl, rfl, _, v, (EA.same s1).2.2, by rw [f1]; rfl, ret _ s1⟩
    · refine ifF f1 ?_
      refine ⟨_, rfl, by show 5 ≤ sizeLine; decide, fun p2 n2 => ⟨p2, L2', rfl, .inl (SqL.of upd_same), rfl, rfl, _, rfl, ?_⟩⟩
      have s2 := s1.trans (same_new (o := .lst L2') n2)
      rw [t2]
      by_cases f2 : fieldOf j = "kind"
      · refine ifT f2 ⟨_, rfl, rfl, _, v, (EA.same s2).2.2, by rw [f2]; rfl, ret _ s2⟩
      · refine ifF f2 ?_
        refine ⟨_, rfl, by show 3 ≤ sizeLine; decide, fun p3 n3 => ⟨p3, L3, rfl, .inl (SqL.of upd_same), rfl, rfl, _, rfl, ?_⟩⟩
        have s3 := s2.trans (same_new (o := .lst L3) n3)
        rw [t3]
        refine iteF ⟨_, rfl, rfl, _, rfl, ?_⟩
        rw [t4]
        refine iteF ⟨_, rfl, rfl, _, v, (EA.same s3).2.2, by rw [t5 f1 f2]; rfl, ret _ s3⟩
end L
namespace Hv
open PySem PySem.Spec PyProof.Rows L2
theorem pe_imp {X : Cx} {e : Expr} {t t' : TE} (he : PE X e t) (h : ∀ σ H Q, t' σ H Q → t σ H Q) : PE X e t' := ⟨fun pins s σ H Q I q => he.run pins s σ H Q I (h σ H Q q)⟩
/-- what the catcher makes of an error -/
def echQ (K : PySem.W.Frag) (c : Nat → Addr) (Q : VK) : XK := fun cls d H' => ∃ (j : Nat) (b : Addr) (v : V) (pd : PyData) (m n : Nat), cls = .ref (c j) ∧ oneF j = true ∧ ErrIx K c j ∧ XdAt H' d [(fieldOf j, v)] ∧ Dq K b H' v pd ∧ FitQ pd m n ∧ m ≤ 60 ∧ n ≤ 5000 ∧
  ∀ p H2, H' p = none → Same H' H2 → H2 p = some (.lst [.str (term j), .str pd.shown]) → Q (.ref p) H2
/-- what it makes of a value -/
def toldQ (K : PySem.W.Frag) (Q : VK) : VK := fun v H1 => ∃ v0 : V, (some (some v) : Option (Option V)) = some (some v0) ∧ rReprQ K [v0] H1 fun x H2 => 2 ≤ sizeLine ∧ ∀ p, H2 p = none → Q (.ref p) (upd H2 p (.lst [.str "told", x]))
/-- what the catcher makes of a call: tl is its reading -/
def TCaught (K : PySem.W.Frag) (c : Nat → Addr) : (XK → Hp → VK → Prop) → Hp → VK → Prop := fun tl H Q => tl (echQ K c Q) H (toldQ K Q)
end Hv
namespace L
open PySem PySem.Spec PyProof.Rows L2 Hv
abbrev s_caught : Stmt := top 61
abbrev N_caught : List Str := ["_law_act", "_law_told", "_law_e", "_law_term"]
abbrev P_caught : List Str := ["_law_act"]
theorem sc_caught : FnScope N_caught P_caught (defScope s_caught) := ⟨rfl, rfl, rfl, by decide +kernel, rfl, by decide +kernel, by decide +kernel⟩
theorem caught_gives {X : Cx} {c : Nat → Addr} {g f1 f2 : Addr} {fd1 fd2 : FuncData} {cdg : Value} {q : Str} (hX : Room 4 X.A) (hG : X.A.guards = some []) (T : Txt X.K X.mg) (EN : ErrNames X.mg c)
    (D_sort : DefAt X.K X.mg "_law_sort" s_sort P_sort f1 fd1) (G_sort : FnP X.prog X.w X.K X.mg X.base 2 f1 fd1 P_sort (sp_sort X.K c))
    (D_held : DefAt X.K X.mg "_law_held" s_held P_held f2 fd2) (G_held : FnP X.prog X.w X.K X.mg X.base 1 f2 fd2 P_held (sp_held X.K c)) :
    LamX.GivesTo X N_caught "_law_caught" (defScope s_caught) g cdg (defBody s_caught) "_law_act" q (TCaught X.K c) := by
  intro f c' s H Q tl act hc h
  have rm := (L2H.roomH_of (hX.deeper (envOfC "_law_caught" (defScope s_caught) s.heap.objs.size g cdg))).mono (by decide : 2 ≤ 3)
  have bR : bootBuiltins "repr" = some (.builtin "repr") := by decide +kernel
  have hr := hX.deeper (envOfC "_law_caught" (defScope s_caught) s.heap.objs.size g cdg)
  refine ⟨_, pss_cons (ps_try_tup (X := (cxOf CX0 X.prog X.w X.K X.mg X.base N_caught "_law_caught" (defScope s_caught) g cdg X.A X.stack s H E0).nox) (i := 2)
      (tb := fun W D σ H => ∃ Ech : XK, (∀ cls d σ' H', Ech cls d H' → W cls d σ' H') ∧ σ[0]? = some (some (.ref f)) ∧ H c' = some (LamX.CodeO c' q) ∧ tl Ech H (fun v H' => D.nx (σ.set 1 (some v)) H'))
      rfl rfl sc_caught.nd rfl rfl rfl rfl rfl EN.n31 EN.n32 EN.n33 (fun W pn xe tk _ => ?b) (fun a oe cls d pn hz hf => pss_cons (ps_asg (pe_imp (t' := fun σ H Q => ∃ (j : Nat) (v : V), cls = .ref (c j) ∧ σ[2]? = some (some (.ref a)) ∧ j < 31 ∧ ErrIx X.K c j ∧ XdAt H d [(fieldOf j, v)] ∧ ∀ H', Same H H' → Q (.str (term j)) H')
          (pe_callP (X := (cxOf CX0 X.prog X.w X.K X.mg X.base N_caught "_law_caught" (defScope s_caught) g cdg X.A X.stack s H E0).nox.suite a ((a, oe) :: pn)) (p := (a, oe)) (x := "_law_sort") G_sort hG ⟨rm.dp, rm.un⟩ List.mem_cons_self rfl D_sort.mg D_sort.fn.kp D_sort.bd (pa_cons (pv 2) pa_nil)) ?s1) (pg_name (i := 3) sc_caught.nd rfl (.inl rfl)))
        (pss_one (ps_ret (pe_lst (pa_cons (pv 3) (pa_cons (pe_callB (show CallR ((cxOf CX0 X.prog X.w X.K X.mg X.base N_caught "_law_caught" (defScope s_caught) g cdg X.A X.stack s H E0).nox.suite a ((a, oe) :: pn)) (.builtin "repr") (rReprQ X.K) from cr_reprQ hG hr.units) (by rfl) T.repr bR (pa_cons (pe_imp (t' := fun σ H Q => ∃ (j : Nat) (v : V), cls = .ref (c j) ∧ σ[2]? = some (some (.ref a)) ∧ σ[3]? = some (some (.str (term j))) ∧ oneF j = true ∧ ErrIx X.K c j ∧ XdAt H d [(fieldOf j, v)] ∧ ∀ H', Same H H' → Q v H')
            (pe_callP (X := (cxOf CX0 X.prog X.w X.K X.mg X.base N_caught "_law_caught" (defScope s_caught) g cdg X.A X.stack s H E0).nox.suite a ((a, oe) :: pn)) (p := (a, oe)) (x := "_law_held") G_held hG ⟨(rm.mono (by decide : 1 ≤ 2)).dp, (rm.mono (by decide : 1 ≤ 2)).un⟩ List.mem_cons_self rfl D_held.mg D_held.fn.kp D_held.bd (pa_cons (pv 2) (pa_cons (pv 3) pa_nil))) ?s2) pa_nil)) pa_nil)))))))
      (pss_one (ps_ret (pe_lst (pa_cons pe_str (pa_cons (pe_callB (cr_reprQ (X := (cxOf CX0 X.prog X.w X.K X.mg X.base N_caught "_law_caught" (defScope s_caught) g cdg X.A X.stack s H E0).nox) hG hr.units) (by rfl) T.repr bR (pa_cons (pv 1) pa_nil)) pa_nil))))), ?_⟩
  case b =>
    refine ⟨fun pins s' σ H' D I h' => ?_⟩
    obtain ⟨Ech, hW, h1, h2, h3⟩ := h'
    exact (pss_one (ps_asg (act W pn xe Ech _ _ tk hW) (pg_name (i := 1) sc_caught.nd rfl (.inl rfl)))).run pins s' σ H' D I ⟨h1, h2, h3⟩
  case s1 =>
    rintro σ H Q ⟨j, v, rfl, hs, hj, EX, xd, q⟩
    exact ⟨_, hs, j, d, v, rfl, hj, EX, ⟨hz, hf, xd⟩, q⟩
  case s2 =>
    rintro σ H Q ⟨j, v, rfl, hs, ht, hj, EX, xd, q⟩
    exact ⟨_, hs, _, ht, j, d, v, rfl, hj, EX, ⟨hz, hf, xd⟩, q⟩
  refine ⟨echQ X.K c Q, fun cls d σ' H' z => ?_, rfl, hc, ?_⟩
  · obtain ⟨j, b, v, pd, m, n, rfl, hj, EX, xd, hd, ft, hm, hn, ret⟩ := z
    intro len
    refine ⟨EX.any, fun a na => ?_⟩
    have len : σ'.length = 4 := len
    match σ', len with
    | [x0, x1, x2, x3], _ =>
    refine ⟨j, v, rfl, rfl, oneF_lt hj, EX, xd, fun H1 s1 => ?_⟩
    refine ⟨_, rfl, j, v, rfl, rfl, rfl, hj, EX, xd.same s1, fun H2 s2 => ?_⟩
    have s12 := s1.trans s2
    refine rd_reprQ (hd.same s12) ft hm hn ⟨by show 2 ≤ sizeLine; decide, fun p np => ?_⟩
    exact ret p _ (s12.free np) (s12.trans (same_new np)) upd_same
  · exact h
end L

namespace Hv
open PySem PySem.Spec PyProof.Rows L2
/-- the rule for a def, where no repr is under way; its code object is known -/
theorem okGc {P : Program} {w : World} {K : PySem.W.Frag} {mg : Str → Option Value} {base : Heap} {k : Nat} {f cR : Addr} {fd : FuncData} {ps : List Str} {sp : Sp} {x qual : Str} {st : Stmt} {N : List Str} (F : Fun K x qual st f fd) (S : FnScope N ps (defScope st)) (hcode : fd.code = .ref cR)
    (len : ∀ vs H Q E, sp vs H Q E → vs.length = ps.length)
    (body : ∀ (A : Around) (outer : List Env) (s : Shared) (H : Hp) (vs : List V) (Q : VK) (E : XK), A.guards = some [] → Room k (A.deeper (envOfC qual (defScope st) s.heap.objs.size f (.ref cR))) → sp vs H Q E →
      ∃ t, PSs (cxOf CX0 P w K mg base N qual (defScope st) f (.ref cR) A outer s H E).nox (defBody st) t ∧ t { nx := fun _ H' => Q .non H', rt := Q } (start N vs) H) : OkG P w K mg base CX0 (k + 1) f fd ps sp := by
  obtain ⟨oc, od, kV, doc, pm, an, cdv, ct, osl, rfl, lk, hcd⟩ := F.ex
  cases (show cdv = .ref cR from hcode)
  refine ⟨len, fun A outer s H args us vs Q E hg hr e0 hb r hsp => ?_⟩
  have X := e0.mod.kin.keeps (fun b o e => (e0.bs b o e).1)
  have lim := e0.mod.nolimit.keeps (fun b o e => (e0.bs b o e).1)
  have kinds : ∀ y ∈ ps.zip us, (defScope st).names.lookup y.1 = some .local ∨ ((defScope st).names.lookup y.1 = some .cell ∧ ((cellsFrom (s.heap.objs.size + 1) (defScope st).names []).lookup y.1).isSome = true) := by
    rintro ⟨n, v⟩ hy
    exact (S.par n (List.of_mem_zip hy).1).imp id fun q => ⟨q, PySem.W.cellsFrom_some _ _ _ (Or.inl q)⟩
  apply codeAny_call_function hr.depth (X _ _ lk) rfl S.co S.gen rfl (PySem.W.codeRec_of X hcd)
  apply hb
  refine wpAny_newFunctionEnv_cells S.kind kinds ?_
  rintro env rfl s1 x
  refine ⟨lim.keeps x.toInCall.keep, codeAny_func ?_⟩
  obtain ⟨t, ht, hq⟩ := body A outer s H vs Q E hg (hr.deeper _) hsp
  have I := inv_start (CX := CX0) (E := E) S hr.hd e0 (len _ _ _ _ hsp) r x
  apply wpAny_mono (ht.nox.run [] s1 (start N vs) H _ I hq)
  · intro fl s' hs
    cases fl with
    | ret u => obtain ⟨v, σ', H', J, rv, q⟩ := hs; exact ⟨v, H', J.os, J.bare, J.base, J.hok, rv, q⟩
    | next => obtain ⟨σ', H', J, q⟩ := hs; exact ⟨V.non, H', J.os, J.bare, J.base, J.hok, rfl, q⟩
    | brk => obtain ⟨_, _, _, q⟩ := hs; exact q.elim
    | cont => obtain ⟨_, _, _, q⟩ := hs; exact q.elim
  · exact fun e s' hs => hs
/-! ### all but the tables stays -/
theorem ext_seq {K : PySem.W.Frag} {H H' : Hp} {a : Addr} {xs : List V} (e : LamX.ExtN H H') (h : SqL K H a xs) : SqL K H' a xs := by
  rcases h with (h | ⟨o, h⟩) | h
  · exact .inl (.inl (e _ _ h (by intro ps q; cases q)))
  · exact .inl (.inr ⟨o, e _ _ h (by intro ps q; cases q)⟩)
  · exact .inr h
theorem ext_bag {H H' : Hp} {b : Addr} {n : Nat} (e : LamX.ExtN H H') (h : Bag H b n) : Bag H' b n := by
  obtain ⟨s, d, m, h1, h2⟩ := h
  exact ⟨s, d, m, e _ _ h1 (by intro ps q; cases q), h2⟩
theorem ext_free {H H' : Hp} {a : Addr} (e : LamX.ExtN H H') (h : H' a = none) : H a = none ∨ ∃ ps, H a = some (.tbl ps) := by
  cases q : H a with
  | none => exact .inl rfl
  | some o =>
    by_cases z : ∃ ps, o = .tbl ps
    · obtain ⟨ps, rfl⟩ := z
      exact .inr ⟨ps, rfl⟩
    · rw [e a o q (fun ps w => z ⟨ps, w⟩)] at h
      cases h
mutual
theorem dq_ext {K : PySem.W.Frag} {b : Addr} {H H' : Hp} (e : LamX.ExtN H H') : ∀ {d : PyData} {v : V}, Dq K b H v d → Dq K b H' v d
  | _, _, .non => .non
  | _, _, .bl k => .bl k
  | _, _, .int i => .int i
  | _, _, .str z => .str z
  | _, _, .lst h n t => .lst (e _ _ h (by intro ps q; cases q)) n (dq_extAll e t)
  | _, _, .tup h t => .tup (e _ _ h (by intro ps q; cases q)) (dq_extAll e t)
  | _, _, .emp h => .emp (e _ _ h (by intro ps q; cases q))
theorem dq_extAll {K : PySem.W.Frag} {b : Addr} {H H' : Hp} (e : LamX.ExtN H H') : ∀ {ds : List PyData} {vs : List V}, DqAll K b H vs ds → DqAll K b H' vs ds
  | _, _, .nil => .nil
  | _, _, .cons h t => .cons (dq_ext e h) (dq_extAll e t)
end
/-- all but b and the tables stays -/
def ExtB (b : Addr) (H H' : Hp) : Prop := ∀ a o, a ≠ b → H a = some o → (∀ ps, o ≠ .tbl ps) → H' a = some o
theorem ExtB.of {b : Addr} {H H' : Hp} (e : But b H H') : ExtB b H H' := fun a o n h _ => e a o n h
theorem ExtB.ofN {b : Addr} {H H' : Hp} (e : LamX.ExtN H H') : ExtB b H H' := fun a o _ h n => e a o h n
theorem ExtB.trans {b : Addr} {H H1 H2 : Hp} (x : ExtB b H H1) (y : ExtB b H1 H2) : ExtB b H H2 := fun a o n h z => y a o n (x a o n h z) z
theorem ExtB.seq {b a : Addr} {K : PySem.W.Frag} {H H' : Hp} {xs : List V} (e : ExtB b H H') (n : a ≠ b) (h : SqL K H a xs) : SqL K H' a xs := by
  rcases h with (h | ⟨o, h⟩) | h
  · exact .inl (.inl (e _ _ n h (by intro ps q; cases q)))
  · exact .inl (.inr ⟨o, e _ _ n h (by intro ps q; cases q)⟩)
  · exact .inr h
theorem tabs_but {T : List (Addr × Str)} {H H' : Hp} {b : Addr} {n : Nat} (t : LamX.Tabs T H) (hb : Bag H b n) (e : But b H H') : LamX.Tabs T H' := fun p hp => by
  obtain ⟨s, d, m, hb, _⟩ := hb
  obtain ⟨ps, h1, h2, h3⟩ := t p hp
  have nb : p.1 ≠ b := ne_of h1 hb (by intro q; cases q)
  refine ⟨ps, e _ _ nb h1, h2, fun pos cv hc => ?_⟩
  obtain ⟨c, e1, e2⟩ := h3 pos cv hc
  exact ⟨c, e1, e _ _ (ne_of e2 hb (by intro q; unfold LamX.CodeO at q; cases q)) e2⟩
theorem tabs_nil {T : List (Addr × Str)} {H : Hp} (h : ∀ p ∈ T, H p.1 = some (.tbl #[])) : LamX.Tabs T H := fun p hp => LamX.TabS.nil (h p hp)
end Hv
namespace L
open PySem PySem.Spec PyProof.Rows L2 Hv
/-- _law_caught(lambda: body) -/
theorem pe_caught {X : Cx} {c : Nat → Addr} {g f1 f2 cR PR : Addr} {fdg fd1 fd2 : FuncData} {k : Nat} {Tb : List (Addr × Str)} {params : Arguments} {body : Expr} {scope : Scope} {t : XK → TE} {p lpos pos : Pos} (hX : Room (k + 4) X.A) (hG : X.A.guards = some []) (T : Txt X.K X.mg) (EN : ErrNames X.mg c)
    (D_caught : DefAt X.K X.mg "_law_caught" s_caught P_caught g fdg) (D_sort : DefAt X.K X.mg "_law_sort" s_sort P_sort f1 fd1) (G_sort : FnP X.prog X.w X.K X.mg X.base 2 f1 fd1 P_sort (sp_sort X.K c))
    (D_held : DefAt X.K X.mg "_law_held" s_held P_held f2 fd2) (G_held : FnP X.prog X.w X.K X.mg X.base 1 f2 fd2 P_held (sp_held X.K c)) (hg : Gl X "_law_caught")
    (TB : LamX.TabB X.base X.mg cR PR) (hcode : X.env.code = .ref cR) (hmT : (PR, X.env.qual ++ "<lambda>") ∈ Tb) (hu : ∀ p ∈ Tb, p.1 = PR → p.2 = X.env.qual ++ "<lambda>") (L : LamX.LamS X.env.scope scope) (hdef : defaultsOf params X.env = ([], []))
    (hbind : ∀ (q : Str) (cl : List (Str × Addr)) (pm cv ctv : Value), bindArgs (PySem.W.kla_fn "<lambda>" q params body scope cl pm cv ctv) ⟨[], []⟩ = pure [])
    (hbody : ∀ (A : Around) (outer : List Env) (s : Shared) (H : Hp) (E : XK) (f c' : Addr), Room k (A.deeper (LamX.lamEnv X scope s.heap.objs.size f c')) → PE (LamX.lamCx X A outer s H E scope f c') body (t E)) :
    PE X (.Call (.Name "_law_caught" p) [.Lambda params body scope lpos] [] pos) (LamX.tLam Tb (TCaught X.K c) t) := by
  obtain ⟨oc, od, kV, doc, pm, an, cdv, ct, osl, hfd, lk, hcd⟩ := D_caught.fn.ex
  subst hfd
  exact LamX.pe_lamcall hg D_caught.mg D_caught.fn.kp lk hcd D_caught.bd sc_caught rfl (.inl rfl) (caught_gives (hX.mono (by omega)) hG T EN D_sort G_sort D_held G_held) TB hcode hmT hu (hX.mono (by omega)) L hdef hbind hbody
end L

namespace Hv
open PySem L2
def isIntD : PyData → Bool
  | .int _ => true
  | _ => false
def isStrD : PyData → Bool
  | .str _ => true
  | _ => false
def geD (d : PyData) (low : Int) : Bool := match d with
  | .int i => decide (low ≤ i)
  | _ => false
def lessD (d e : PyData) : Bool := match d, e with
  | .int i, .int j => decide (i < j)
  | _, _ => false
/-- texts of it are short -/
def shortD : PyData → Bool
  | .str z => decide (z.length ≤ 1000)
  | _ => true
/-- an error of the class j is let out, with v -/
def GivenE (c : Nat → Addr) (j : Nat) (E : XK) (H : Hp) (v : V) : Prop := ∀ d H', H d = none → Same H H' → H' d = some (.xd [(fieldOf j, v)]) → E (.ref (c j)) (some d) H'
theorem GivenE.at {c : Nat → Addr} {j : Nat} {E : XK} {H H1 : Hp} {v : V} (h : GivenE c j E H v) (s : Same H H1) : ∀ d, H1 d = none → E (.ref (c j)) (some d) (upd H1 d (.xd [(fieldOf j, v)])) := fun d hd =>
  h d _ (s.free hd) (s.trans (same_new hd)) upd_same
section
variable {K : PySem.W.Frag} {b : Addr} {H : Hp} {v : V} {d : PyData} {Q : VK} {E : XK}
theorem kit_int (d : PyData) : ∃ b1 b2, PySem.W.kitOne K (.type (tyName d)) (.type "int") = some b1 ∧ PySem.W.kitOne K (.type (tyName d)) (.type "bool") = some b2 ∧ (b1 && !b2) = isIntD d := by
  cases d with
  | none => exact ⟨false, false, kit_ty (by dsimp only [tyName, isStrD]; decide +kernel), kit_ty (by dsimp only [tyName, isStrD]; decide +kernel), rfl⟩
  | bool _ => exact ⟨true, true, kit_ty (by dsimp only [tyName, isStrD]; decide +kernel), kit_ty (by dsimp only [tyName, isStrD]; decide +kernel), rfl⟩
  | int _ => exact ⟨true, false, kit_ty (by dsimp only [tyName, isStrD]; decide +kernel), kit_ty (by dsimp only [tyName, isStrD]; decide +kernel), rfl⟩
  | str _ => exact ⟨false, false, kit_ty (by dsimp only [tyName, isStrD]; decide +kernel), kit_ty (by dsimp only [tyName, isStrD]; decide +kernel), rfl⟩
  | list _ => exact ⟨false, false, kit_ty (by dsimp only [tyName, isStrD]; decide +kernel), kit_ty (by dsimp only [tyName, isStrD]; decide +kernel), rfl⟩
  | tuple _ => exact ⟨false, false, kit_ty (by dsimp only [tyName, isStrD]; decide +kernel), kit_ty (by dsimp only [tyName, isStrD]; decide +kernel), rfl⟩
  | dict _ => exact ⟨false, false, kit_ty (by dsimp only [tyName, isStrD]; decide +kernel), kit_ty (by dsimp only [tyName, isStrD]; decide +kernel), rfl⟩
theorem kit_str (d : PyData) : PySem.W.kitOne K (.type (tyName d)) (.type "str") = some (isStrD d) := by
  cases d <;> exact kit_ty (by dsimp only [tyName, isStrD]; decide +kernel)
theorem is_int_d (h : Dq K b H v d) (q : Q (.bl (isIntD d)) H) : lk (sp_is_integer K) [v] H Q E := by
  refine lk_in ?_
  obtain ⟨b1, b2, k1, k2, e⟩ := kit_int (K := K) d
  rw [← e] at q
  exact ⟨v, _, b1, b2, rfl, h.ty, k1, k2, q⟩
end
end Hv

namespace Hv
open PySem L2
def boundD : PyData → Bool
  | .str z => (fracOf z).isSome
  | _ => false
section
variable {K : PySem.W.Frag} {b : Addr} {H : Hp} {v : V} {d : PyData} {Q : VK} {E : XK}
theorem is_bound_d (h : Dq K b H v d) (sh : shortD d = true) (q : ∀ H', Same H H' → Q (.bl (boundD d)) H') : lk (sp_is_bound K) [v] H Q E := by
  refine lk_in ?_
  cases hd : isStrD d with
  | true =>
    cases h with
    | str z =>
      have : z.length ≤ 1000 := of_decide_eq_true sh
      exact .inl ⟨z, rfl, textOk_of (by omega), q⟩
    | _ => cases hd
  | false =>
    have e : boundD d = false := by cases d <;> first | rfl | cases hd
    have q := q H (Same.refl H)
    rw [e] at q
    have k := kit_str (K := K) d
    rw [hd] at k
    exact .inr ⟨v, _, rfl, h.ty, k, q⟩
end
end Hv

namespace Hv
open PySem L2 Evl
/-- data, no list of it where H0 has something -/
def Dn (K : PySem.W.Frag) (H0 H : Hp) (v : V) (d : PyData) : Prop := ∀ a, H0 a ≠ none → Dq K a H v d
def DnAll (K : PySem.W.Frag) (H0 H : Hp) (vs : List V) (ds : List PyData) : Prop := ∀ a, H0 a ≠ none → DqAll K a H vs ds
/-- an expression that makes data, an argument list that does -/
def EvQ (K : PySem.W.Frag) (H0 : Hp) (te : TE) (σ : L2.St) (H : Hp) (d : PyData) : Prop := ∀ H1, Ex H H1 → Ex H0 H1 → ∀ Q : VK, (∀ v H2, Ex H1 H2 → Dn K H0 H2 v d → Q v H2) → te σ H1 Q
def EvQA (K : PySem.W.Frag) (H0 : Hp) (ta : TA) (σ : L2.St) (H : Hp) (ds : List PyData) : Prop := ∀ H1, Ex H H1 → Ex H0 H1 → ∀ Q : List V → Hp → Prop, (∀ vs H2, Ex H1 H2 → vs.length = ds.length → DnAll K H0 H2 vs ds → Q vs H2) → ta σ H1 Q
theorem Dn.same {K : PySem.W.Frag} {H0 H H' : Hp} {v : V} {d : PyData} (h : Dn K H0 H v d) (e : Ex H H') : Dn K H0 H' v d := fun a ha => (h a ha).same e
theorem DnAll.same {K : PySem.W.Frag} {H0 H H' : Hp} {vs : List V} {ds : List PyData} (h : DnAll K H0 H vs ds) (e : Ex H H') : DnAll K H0 H' vs ds := fun a ha => (h a ha).same e
mutual
/-- the bag changes -/
theorem Dq.two {K : PySem.W.Frag} {a b : Addr} {n : Nat} {H H' : Hp} (hb : Bag H b n) (e : But b H H') : ∀ {d : PyData} {v : V}, Dq K b H v d → Dq K a H v d → Dq K a H' v d
  | _, _, .non, _ => .non
  | _, _, .bl k, _ => .bl k
  | _, _, .int i, _ => .int i
  | _, _, .str z, _ => .str z
  | _, _, .lst h nb t, h2 => by
    cases h2 with
    | lst h' na t' =>
      rw [h] at h'
      cases h'
      exact .lst (e _ _ nb h) na (DqAll.two hb e t t')
  | _, _, .tup h t, h2 => by
    cases h2 with
    | tup h' t' =>
      rw [h] at h'
      cases h'
      exact .tup (e _ _ (by obtain ⟨_, _, _, hb, _⟩ := hb; exact ne_of h hb (by intro q; cases q)) h) (DqAll.two hb e t t')
  | _, _, .emp h, _ => .emp (e _ _ (by obtain ⟨_, _, _, hb, _⟩ := hb; exact ne_of h hb (by intro q; cases q)) h)
theorem DqAll.two {K : PySem.W.Frag} {a b : Addr} {n : Nat} {H H' : Hp} (hb : Bag H b n) (e : But b H H') : ∀ {ds : List PyData} {vs : List V}, DqAll K b H vs ds → DqAll K a H vs ds → DqAll K a H' vs ds
  | _, _, .nil, _ => .nil
  | _, _, .cons h t, h2 => by
    cases h2 with
    | cons h' t' => exact .cons (Dq.two hb e h h') (DqAll.two hb e t t')
end
mutual
/-- a list is put in the place of a list that is none of the data's -/
theorem Dq.put {K : PySem.W.Frag} {a p : Addr} {xs : List V} {H : Hp} {o : HO} (hp : H p = some (.lst xs)) : ∀ {d : PyData} {v : V}, Dq K p H v d → Dq K a H v d → Dq K a (upd H p o) v d
  | _, _, .non, _ => .non
  | _, _, .bl k, _ => .bl k
  | _, _, .int i, _ => .int i
  | _, _, .str z, _ => .str z
  | _, _, .lst h nb t, h2 => by
    cases h2 with
    | lst h' na t' =>
      rw [h] at h'
      cases h'
      exact .lst (by rw [upd_ne nb]; exact h) na (DqAll.put hp t t')
  | _, _, .tup h t, h2 => by
    cases h2 with
    | tup h' t' =>
      rw [h] at h'
      cases h'
      exact .tup (by rw [upd_ne (ne_of h hp (by intro q; cases q))]; exact h) (DqAll.put hp t t')
  | _, _, .emp h, _ => .emp (by rw [upd_ne (ne_of h hp (by intro q; cases q))]; exact h)
theorem DqAll.put {K : PySem.W.Frag} {a p : Addr} {xs : List V} {H : Hp} {o : HO} (hp : H p = some (.lst xs)) : ∀ {ds : List PyData} {vs : List V}, DqAll K p H vs ds → DqAll K a H vs ds → DqAll K a (upd H p o) vs ds
  | _, _, .nil, _ => .nil
  | _, _, .cons h t, h2 => by
    cases h2 with
    | cons h' t' => exact .cons (Dq.put hp h h') (DqAll.put hp t t')
end
theorem DqAll.set {K : PySem.W.Frag} {b : Addr} {H : Hp} {v : V} {d : PyData} (h : Dq K b H v d) : ∀ {vs : List V} {ds : List PyData} (i : Nat), DqAll K b H vs ds → DqAll K b H (vs.set i v) (ds.set i d)
  | _, _, _, .nil => .nil
  | _, _, 0, .cons _ t => .cons h t
  | _, _, i + 1, .cons h' t => .cons h' (DqAll.set h i t)
theorem DqAll.len {K : PySem.W.Frag} {b : Addr} {H : Hp} : ∀ {vs : List V} {ds : List PyData}, DqAll K b H vs ds → vs.length = ds.length
  | _, _, .nil => rfl
  | _, _, .cons _ t => congrArg (· + 1) (DqAll.len t)
theorem DqAll.app {K : PySem.W.Frag} {b : Addr} {H : Hp} {ws : List V} {es : List PyData} (h2 : DqAll K b H ws es) : ∀ {vs : List V} {ds : List PyData}, DqAll K b H vs ds → DqAll K b H (vs ++ ws) (ds ++ es)
  | _, _, .nil => h2
  | _, _, .cons h t => .cons h (DqAll.app h2 t)
theorem DqAll.at {K : PySem.W.Frag} {b : Addr} {H : Hp} : ∀ {vs : List V} {ds : List PyData} (i : Nat), DqAll K b H vs ds → i < ds.length → ∃ v d, vs[i]? = some v ∧ ds[i]? = some d ∧ Dq K b H v d
  | _, _, _, .nil, h => absurd h (Nat.not_lt_zero _)
  | _, _, 0, .cons h _, _ => ⟨_, _, rfl, rfl, h⟩
  | _, _, i + 1, .cons _ t, hi => by
    obtain ⟨v, d, h1, h2, h3⟩ := DqAll.at i t (Nat.lt_of_succ_lt_succ hi)
    exact ⟨v, d, by simpa using h1, by simpa using h2, h3⟩
theorem ne_keep {H H1 : Hp} {b : Addr} (h : H b ≠ none) (e : Ex H H1) : H1 b ≠ none := by
  cases q : H b with
  | none => exact absurd q h
  | some o => rw [e b o q]; intro z; cases z
theorem Bag.some {H : Hp} {b : Addr} {n : Nat} (h : Bag H b n) : H b ≠ none := by
  obtain ⟨_, _, _, hb, _⟩ := h
  rw [hb]
  intro z
  cases z
section
variable {K : PySem.W.Frag} {H0 : Hp} {b : Addr} {σ : L2.St} {H : Hp} {te : TE} {ta : TA} {d : PyData} {ds es : List PyData}
theorem eq_non : EvQ K H0 (tC .non) σ H .none := fun H1 _ _ _ q => q _ H1 (Ex.refl H1) fun _ _ => .non
theorem eq_bl {k : Bool} : EvQ K H0 (tC (.bl k)) σ H (.bool k) := fun H1 _ _ _ q => q _ H1 (Ex.refl H1) fun _ _ => .bl k
theorem eq_int {i : Int} : EvQ K H0 (tC (.int i)) σ H (.int i) := fun H1 _ _ _ q => q _ H1 (Ex.refl H1) fun _ _ => .int i
theorem eq_str {z : Str} : EvQ K H0 (tC (.str z)) σ H (.str z) := fun H1 _ _ _ q => q _ H1 (Ex.refl H1) fun _ _ => .str z
theorem eq_ev {i : Int} (h : Ev te σ H (.int i)) : EvQ K H0 te σ H (.int i) := fun H1 e _ _ q => h H1 e _ fun H2 e2 => q _ H2 e2 fun _ _ => .int i
theorem eq_evs {z : Str} (h : Ev te σ H (.str z)) : EvQ K H0 te σ H (.str z) := fun H1 e _ _ q => h H1 e _ fun H2 e2 => q _ H2 e2 fun _ _ => .str z
theorem eq_var {i : Nat} {v : V} (h : σ[i]? = some (some v)) (hd : Dn K H0 H v d) : EvQ K H0 (tVar i) σ H d := fun H1 e _ _ q => ⟨v, h, q _ H1 (Ex.refl H1) (hd.same e)⟩
theorem new_ne {H2 : Hp} {p a : Addr} (e : Ex H0 H2) (np : H2 p = none) (ha : H0 a ≠ none) : p ≠ a := fun z => ne_keep ha e (z ▸ np)
theorem eq_tup (h : EvQA K H0 ta σ H ds) (hl : ds.length ≤ 1000 := by decide) : EvQ K H0 (tTup ta) σ H (.tuple ds) := fun H1 e nb _ q => h H1 e nb _ fun vs H2 e2 l2 q2 =>
  ⟨sz_of (by rw [l2]; omega), fun p np => q _ _ (e2.trans (Ex.new np)) fun a ha => .tup upd_same ((q2 a ha).same (Ex.new np))⟩
theorem eq_lst (h : EvQA K H0 ta σ H ds) (hl : ds.length ≤ 1000 := by decide) : EvQ K H0 (tLst ta) σ H (.list ds) := fun H1 e nb _ q => h H1 e nb _ fun vs H2 e2 l2 q2 =>
  ⟨sz_of (by rw [l2]; omega), fun p np => q _ _ (e2.trans (Ex.new np)) fun a ha => .lst upd_same (new_ne (nb.trans e2) np ha) ((q2 a ha).same (Ex.new np))⟩
theorem eq_emp : EvQ K H0 tDNewK σ H (.dict []) := fun H1 _ _ _ q p np => q _ _ (Ex.new np) fun _ _ => .emp upd_same
theorem eqa_nil : EvQA K H0 tNil σ H [] := fun H1 _ _ _ q => q _ H1 (Ex.refl H1) rfl fun _ _ => .nil
theorem eqa_cons (h : EvQ K H0 te σ H d) (t : EvQA K H0 ta σ H ds) : EvQA K H0 (tCons te ta) σ H (d :: ds) := fun H1 e nb _ q => h H1 e nb _ fun v H2 e2 q2 =>
  t H2 (e.trans e2) (nb.trans e2) _ fun vs H3 e3 l3 q3 => q _ H3 (e2.trans e3) (by rw [List.length_cons, List.length_cons, l3]) fun a ha => .cons ((q2 a ha).same e3) (q3 a ha)
/-- x = [..] -/
theorem q_asgQ {i : Nat} {D : Ends} {tz : TS} (h : EvQA K H0 ta σ H ds) (nb : Ex H0 H) (hl : ds.length ≤ 1000) (k : ∀ p vs H1, Ex H H1 → H1 p = some (.lst vs) → H p = none → vs.length = ds.length → DnAll K H0 H1 vs ds → tz D (σ.set i (some (.ref p))) H1) : tSeq (tAsg (tLst ta) (gName i)) tz D σ H :=
  h H (Ex.refl H) nb _ fun vs H2 e2 l2 q2 => ⟨sz_of (by rw [l2]; omega), fun p np => k p vs _ (e2.trans (Ex.new np)) upd_same (fresh_back e2 np) l2 (q2.same (Ex.new np))⟩
/-- x = y + [..] -/
theorem q_catQ {i j : Nat} {D : Ends} {tz : TS} {p : Addr} {vs : List V} (hs : σ[j]? = some (some (.ref p))) (hp : H p = some (.lst vs)) (hl0 : vs.length = ds.length) (hd : DnAll K H0 H vs ds) (h : EvQA K H0 ta σ H es) (nb : Ex H0 H) (hl : ds.length + es.length ≤ 1000)
    (k : ∀ q ws H1, Ex H H1 → H1 q = some (.lst ws) → H q = none → ws.length = (ds ++ es).length → DnAll K H0 H1 ws (ds ++ es) → tz D (σ.set i (some (.ref q))) H1) : tSeq (tAsg (tOp rCat (tVar j) (tLst ta)) (gName i)) tz D σ H :=
  ⟨_, hs, h H (Ex.refl H) nb _ fun ws H2 e2 l2 q2 => ⟨sz_of (by rw [l2]; omega), fun p2 n2 => ⟨p, p2, vs, ws, rfl, rfl, Ex.new n2 _ _ (e2 _ _ hp), upd_same, sz_of (by rw [hl0, l2]; exact Nat.le_trans hl (by decide)), fun q nq => by
    have e3 : Ex H (upd H2 p2 (.lst ws)) := e2.trans (Ex.new n2)
    exact k q _ _ (e3.trans (Ex.new nq)) upd_same (fresh_back e3 nq) (by rw [List.length_append, List.length_append, hl0, l2]) fun a ha => DqAll.app (((q2 a ha).same (Ex.new n2)).same (Ex.new nq)) (((hd a ha).same e3).same (Ex.new nq))⟩⟩⟩
end
def sp_odd (K : PySem.W.Frag) (ds : List PyData) : Sp := fun vs H Q _ => ∃ (b : Addr) (n : Nat), vs = [.ref b] ∧ Bag H b n ∧ n < 900000 ∧ ∀ (v : V) (d : PyData) (H' : Hp), d ∈ ds → But b H H' → Bag H' b (n + 1) → Dn K H H' v d → Q v H'
/-- return xs[take(bag, m)] -/
theorem s_oddat {K : PySem.W.Frag} {b p : Addr} {n i j : Nat} {σ : L2.St} {H H0 : Hp} {D : Ends} {vs : List V} {ds : List PyData} {m : Int} {ts : TE} (hb : Bag H0 b n) (hn : n < 900000) (e : Ex H0 H) (hs : σ[i]? = some (some (.ref p))) (hj : σ[j]? = some (some (.ref b)))
    (hp : H p = some (.lst vs)) (pn : H0 p = none) (hd : DnAll K H0 H vs ds) (hts : ∀ Q : VK, Q (.int m) H → ts σ H Q) (hm : m = (ds.length : Int)) (h0 : 0 < ds.length) (h1 : ds.length ≤ 1000)
    (ret : ∀ (v : V) (d : PyData) (H' : Hp), d ∈ ds → But b H0 H' → Bag H' b (n + 1) → Dn K H0 H' v d → D.rt v H') :
    tRet (tOp (rIxL K) (tVar i) (tCall sp_take [] E0 (tCons (tVar j) (tCons ts tNil)))) D σ H := by
  have pb : p ≠ b := hb.ne_none pn
  refine ⟨_, hs, _, hj, hts _ ⟨b, m, n, rfl, hb.same e, by omega, by omega, m_small (by omega) (by omega), fun r H1 u1 b1 r0 r1 => ?_⟩⟩
  obtain ⟨v, d, q1, q2, q3⟩ := (hd b hb.some).at r.toNat (by omega)
  obtain ⟨k, rfl⟩ := Int.eq_ofNat_of_zero_le r0
  refine ⟨p, vs, _, v, rfl, rfl, SqL.of (u1 _ _ pb hp), atI_nat q1, ret v d H1 (List.mem_of_getElem? q2) ((But.of e).trans u1) b1 fun a ha => ?_⟩
  obtain ⟨v', d', q1', q2', q3'⟩ := (hd a ha).at (k : Int).toNat (by omega)
  cases q1.symm.trans q1'
  cases q2.symm.trans q2'
  exact Dq.two (hb.same e) u1 q3 q3'
theorem kn_but {b a : Addr} {n : Nat} {H H1 : Hp} (e : But b H H1) (hb : Bag H1 b n) (h : H a ≠ none) : H1 a ≠ none := by
  by_cases q : a = b
  · rw [q]
    exact hb.some
  · cases z : H a with
    | none => exact absurd z h
    | some o => rw [e a o q z]; intro w; cases w
theorem DnAll.but {K : PySem.W.Frag} {b : Addr} {n : Nat} {H0 H H' : Hp} {vs : List V} {ds : List PyData} (h : DnAll K H0 H vs ds) (h0 : H0 b ≠ none) (hb : Bag H b n) (e : But b H H') : DnAll K H0 H' vs ds := fun a ha => DqAll.two hb e (h b h0) (h a ha)
theorem DnAll.sub {K : PySem.W.Frag} {H0 H1 H : Hp} {vs : List V} {ds : List PyData} (h : DnAll K H1 H vs ds) (k : ∀ a, H0 a ≠ none → H1 a ≠ none) : DnAll K H0 H vs ds := fun a ha => h a (k a ha)
/-- xs[take(bag, m)], the bag having been used before -/
theorem e_oddat {K : PySem.W.Frag} {b p : Addr} {n i j : Nat} {σ : L2.St} {H H0 : Hp} {Q : VK} {vs : List V} {ds : List PyData} {m : Int} {ts : TE} (hb : Bag H b n) (hn : n < 900000) (h0 : H0 b ≠ none) (hs : σ[i]? = some (some (.ref p))) (hj : σ[j]? = some (some (.ref b)))
    (hp : H p = some (.lst vs)) (pb : p ≠ b) (hd : DnAll K H0 H vs ds) (hts : ∀ Q : VK, Q (.int m) H → ts σ H Q) (hm : m = (ds.length : Int)) (l0 : 0 < ds.length) (l1 : ds.length ≤ 1000)
    (ret : ∀ (v : V) (d : PyData) (H' : Hp), d ∈ ds → But b H H' → Bag H' b (n + 1) → Dn K H0 H' v d → Q v H') :
    tOp (rIxL K) (tVar i) (tCall sp_take [] E0 (tCons (tVar j) (tCons ts tNil))) σ H Q := by
  refine ⟨_, hs, _, hj, hts _ ⟨b, m, n, rfl, hb, by omega, by omega, m_small (by omega) (by omega), fun r H1 u1 b1 r0 r1 => ?_⟩⟩
  obtain ⟨v, d, q1, q2, q3⟩ := (hd b h0).at r.toNat (by omega)
  obtain ⟨k, rfl⟩ := Int.eq_ofNat_of_zero_le r0
  refine ⟨p, vs, _, v, rfl, rfl, SqL.of (u1 _ _ pb hp), atI_nat q1, ret v d H1 (List.mem_of_getElem? q2) u1 b1 fun a ha => ?_⟩
  obtain ⟨v', d', q1', q2', q3'⟩ := (hd a ha).at (k : Int).toNat (by omega)
  cases q1.symm.trans q1'
  cases q2.symm.trans q2'
  exact Dq.two hb u1 q3 q3'
/-- what is asked of data that is drawn -/
def fitB (d : PyData) (m n : Nat) : Bool := d.showable && (decide (d.depth ≤ m) && (d.leavesShort 2000 && (decide (d.bulk ≤ n) && PyData.strOk d.shown)))
theorem fitB_ok {d : PyData} {m n : Nat} (h : fitB d m n = true) : FitQ d m n := by
  unfold fitB at h
  simp only [Bool.and_eq_true, decide_eq_true_eq] at h
  exact ⟨h.1, h.2.1, h.2.2.1, h.2.2.2.1, h.2.2.2.2⟩
theorem fit_mem {d : PyData} {ds : List PyData} {m n : Nat} (h : (ds.all fun d => fitB d m n) = true) (hd : d ∈ ds) : FitQ d m n := fitB_ok (List.all_eq_true.mp h d hd)
end Hv

namespace Hv
open PySem L2
section
variable {X : Cx} {e : Expr} {ta : TE} {C g : Addr} {f : Str} {pos : Pos} {n : Nat} {sp : Sp} {fd : FuncData} {ps : List Str}
theorem units65 {k : Nat} {A : Around} (r : Room k A) : A.units + 65 < cLine := by have := r.un; omega
theorem pe_propD (he : PE X e ta) (c : Cls X.K C) (p : PropK X.K C f g) (F : FnOk X.prog X.w X.K X.mg X.base CX0 n g fd ps sp) (hb : Binds X.K fd ps []) (hr : Room (n + 1) X.A)
    (hab : attributeBase e f X.env (eval e X.env) = eval e X.env := by rfl) : PE X (.Attribute e f pos) (tProp C sp [] E0 ta) := by
  obtain ⟨p, h1, h2, h3, h4⟩ := p.ex
  exact pe_prop he c ⟨h1, h2, h3, h4⟩ F hr hb .nil pass0 hab
end
structure KitNo (K : PySem.W.Frag) (C : Addr) : Prop where
  u1 : PySem.W.kitOne K (.type "NoneType") (.ref C) = some false
  u2 : PySem.W.kitOne K (.type "int") (.ref C) = some false
  u3 : PySem.W.kitOne K (.type "bool") (.ref C) = some false
  u4 : PySem.W.kitOne K (.type "str") (.ref C) = some false
  u5 : PySem.W.kitOne K (.type "list") (.ref C) = some false
  u6 : PySem.W.kitOne K (.type "tuple") (.ref C) = some false
theorem four_same (b : Bool) : [PyData.list [.bool true, .bool true, .bool true, .bool true], PyData.list [.bool false, .bool false, .bool false, .bool false]].any (fun z => PyData.eqv z (.list [.bool b, .bool b, .bool b, .bool b])) = true := by
  cases b <;> decide +kernel
end Hv

namespace Hv
open PySem L2
theorem FnOk.calm {P : Program} {w : World} {K : PySem.W.Frag} {mg : Str → Option Value} {base : Heap} {k : Nat} {f : Addr} {fd : FuncData} {ps : List Str} {sp : Sp} (F : FnOk P w K mg base (L2.CX P w) k f fd ps sp) : FnOk P w K mg base CX0 k f fd ps (fun vs H Q _ => sp vs H Q E0) := by
  refine ⟨fun vs H Q E h => F.len _ _ _ _ h, fun A outer s H args us vs Q E hr e0 hb r h => codeAny_mono (F.run A outer s H args us vs Q E0 hr e0 hb r h) fun r s' hq => ?_⟩
  match r, hq with
  | .error e, hq => obtain ⟨_, _, _, _, _, _, _, _, _, _, _, _, z⟩ := hq; exact z
  | .ok (.ret u), hq => exact hq
  | .ok .next, hq => exact hq
  | .ok .brk, hq => exact hq
  | .ok .cont, hq => exact hq
def nameD : PyData → Bool
  | .str z => nameOk z
  | _ => false
section
variable {K : PySem.W.Frag} {b : Addr} {H : Hp} {v : V} {d : PyData} {Q : VK} {E : XK}
theorem line_of_short {z : Str} (sh : shortD (.str z) = true) : z.length ≤ sizeLine := by
  have : z.length ≤ 1000 := of_decide_eq_true sh
  have : 1000 ≤ sizeLine := by decide
  omega
theorem is_name_d (h : Dq K b H v d) (sh : shortD d = true) (q : ∀ H', Same H H' → Q (.bl (nameD d)) H') : lk (sp_is_name K) [v] H Q E := by
  refine lk_in ?_
  cases hd : isStrD d with
  | true =>
    cases h with
    | str z => exact .inl ⟨z, rfl, line_of_short sh, q⟩
    | _ => cases hd
  | false =>
    have e : nameD d = false := by cases d <;> first | rfl | cases hd
    have q := q H (Same.refl H)
    rw [e] at q
    have k := kit_str (K := K) d
    rw [hd] at k
    exact .inr ⟨v, _, rfl, h.ty, k, q⟩
end
end Hv

namespace Hv
open PySem L2
def isTupD : PyData → Bool
  | .tuple _ => true
  | _ => false
theorem kit_tup {K : PySem.W.Frag} (d : PyData) : PySem.W.kitOne K (.type (tyName d)) (.type "tuple") = some (isTupD d) := by
  cases d <;> exact kit_ty (by dsimp only [tyName, isTupD]; decide +kernel)
/-- a whole number from lo to hi -/
def inD (d : PyData) (lo hi : Int) : Bool := match d with
  | .int i => decide (lo ≤ i) && decide (i ≤ hi)
  | _ => false
def needD (d : PyData) : Bool := boundD d || inD d 1 9
def closeD : PyData → Bool
  | .none => true
  | .tuple [d, e] => inD d 0 3 && boundD e
  | _ => false
def endD : PyData → Bool
  | .none => true
  | d => boundD d
/-- texts of it, and of the elements of a tuple, are short -/
def shortDD : PyData → Bool
  | .tuple ds => ds.all shortD
  | d => shortD d
section
variable {K : PySem.W.Frag} {b : Addr} {H : Hp} {v : V} {d : PyData} {Q : VK} {E : XK}
theorem is_needs_d (h : Dq K b H v d) (sh : shortD d = true) (q : ∀ H', Same H H' → Q (.bl (needD d)) H') : lk (sp_is_needs K) [v] H Q E := by
  refine lk_in ?_
  cases hi : isIntD d with
  | true =>
    cases h with
    | int i => exact .inl ⟨i, rfl, q H (Same.refl H)⟩
    | _ => cases hi
  | false =>
    cases hs : isStrD d with
    | true =>
      cases h with
      | str z =>
        have : z.length ≤ 1000 := of_decide_eq_true sh
        refine .inr (.inl ⟨z, rfl, textOk_of (by omega), fun H' s => ?_⟩)
        have := q H' s
        rw [show needD (.str z) = ((fracOf z).isSome || false) from rfl, Bool.or_false] at this
        exact this
      | _ => cases hs
    | false =>
      have e : needD d = false := by
        cases d with
        | int _ => cases hi
        | str _ => cases hs
        | _ => rfl
      have q := q H (Same.refl H)
      rw [e] at q
      obtain ⟨b1, b2, k1, k2, eb⟩ := kit_int (K := K) d
      have k := kit_str (K := K) d
      rw [hs] at k
      rw [hi] at eb
      exact .inr (.inr ⟨v, _, b1, b2, rfl, h.ty, k, k1, k2, eb, q⟩)
end
def sp_is_closingX (K : PySem.W.Frag) : Sp := fun vs H Q _ => ∃ (b : Addr) (v : V) (d : PyData), vs = [v] ∧ Dq K b H v d ∧ shortDD d = true ∧ ∀ H', Same H H' → Q (.bl (closeD d)) H'
def KindP (C : Addr) (H : Hp) (x : Addr) (vs : List V) : Prop := ∃ dx pt, H x = some (.ins C dx [("parts", .ref pt)]) ∧ H pt = some (.tup vs)
/-- five values with their data -/
structure Five (K : PySem.W.Frag) (b : Addr) (H : Hp) (v0 v1 v2 v3 v4 : V) (d0 d1 d2 d3 d4 : PyData) : Prop where
  q0 : Dq K b H v0 d0
  q1 : Dq K b H v1 d1
  q2 : Dq K b H v2 d2
  q3 : Dq K b H v3 d3
  q4 : Dq K b H v4 d4
  t0 : shortD d0 = true
  t2 : shortD d2 = true
  t3 : shortDD d3 = true
  t4 : shortD d4 = true
theorem Five.same {K : PySem.W.Frag} {b : Addr} {H H' : Hp} {v0 v1 v2 v3 v4 : V} {d0 d1 d2 d3 d4 : PyData} (h : Five K b H v0 v1 v2 v3 v4 d0 d1 d2 d3 d4) (e : Same H H') : Five K b H' v0 v1 v2 v3 v4 d0 d1 d2 d3 d4 :=
  ⟨h.q0.same e, h.q1.same e, h.q2.same e, h.q3.same e, h.q4.same e, h.t0, h.t2, h.t3, h.t4⟩
structure KindDue (c : Nat → Addr) (d0 d1 d2 d3 d4 : PyData) (v0 v1 v2 v3 v4 : V) (E : XK) (H : Hp) (ok : Prop) : Prop where
  e0 : nameD d0 = false → GivenE c 0 E H v0
  e1 : nameD d0 = true → inD d1 0 3 = false → GivenE c 1 E H v1
  e2 : nameD d0 = true → inD d1 0 3 = true → needD d2 = false → GivenE c 3 E H v2
  e3 : nameD d0 = true → inD d1 0 3 = true → needD d2 = true → closeD d3 = false → GivenE c 4 E H v3
  e4 : nameD d0 = true → inD d1 0 3 = true → needD d2 = true → closeD d3 = true → endD d4 = false → GivenE c 5 E H v4
  fine : nameD d0 = true → inD d1 0 3 = true → needD d2 = true → closeD d3 = true → endD d4 = true → ok
def sp_kind_initX (K : PySem.W.Frag) (c : Nat → Addr) (C : Addr) : Sp := fun vs H Q E => ∃ (b x dx : Addr) (v0 v1 v2 v3 v4 : V) (d0 d1 d2 d3 d4 : PyData), vs = [.ref x, v0, v1, v2, v3, v4] ∧ Five K b H v0 v1 v2 v3 v4 d0 d1 d2 d3 d4 ∧
  H x = some (.ins C dx []) ∧ H dx = some (.own x) ∧ dx ≠ x ∧ KindDue c d0 d1 d2 d3 d4 v0 v1 v2 v3 v4 E H (∀ H', (∀ b o, b ≠ x → H b = some o → H' b = some o) → KindP C H' x [v0, v1, v2, v3, v4] → Q .non H')
end Hv
namespace L
open PySem L2 Hv
variable {P : Program} {w : World} {K : PySem.W.Frag} {mg : Str → Option Value} {base : Heap}
abbrev s_is_closing : Stmt := top 52
abbrev N_is_closing : List Str := ["value"]
abbrev P_is_closing : List Str := ["value"]
theorem sc_is_closing : FnScope N_is_closing P_is_closing (defScope s_is_closing) := ⟨rfl, rfl, rfl, by decide +kernel, rfl, by decide +kernel, by decide +kernel⟩
theorem ok_is_closingX {f f1 f2 : Addr} {fd fd1 fd2 : FuncData} (D : DefAt K mg "is_closing" s_is_closing P_is_closing f fd) (T : Txt K mg)
    (D_is_bound : DefAt K mg "is_bound" s_is_bound P_is_bound f1 fd1) (G_is_bound : FnOk P w K mg base CX0 3 f1 fd1 P_is_bound (sp_is_bound K))
    (D_is_integer : DefAt K mg "is_integer" s_is_integer P_is_integer f2 fd2) (G_is_integer : FnOk P w K mg base CX0 1 f2 fd2 P_is_integer (sp_is_integer K)) :
    FnOk P w K mg base CX0 4 f fd P_is_closing (sp_is_closingX K) := by
  have G_is_bound := fn_lk G_is_bound
  have G_is_integer := fn_lk G_is_integer
  refine D.fn.ok sc_is_closing (fun vs H Q E h => ?_) (fun cdv A outer s H vs Q E hr h => ?_)
  · obtain ⟨b, v, d, rfl, _⟩ := h
    rfl
  · obtain ⟨b, v, d, rfl, hd, sh, ret⟩ := h
    refine ⟨_, (pss_cons (ps_if (pt_cmpR op_isN (pv 0) pe_non (nomark _))
      (pss_one (ps_ret pe_bl))
      pss_nil)
      (pss_cons (ps_if (PW.pt (pw_or (pt_not (pt_val (pe_callB call_isi (by rfl) T.isinstance (by decide +kernel) (pa_cons (pv 0) (pa_cons (pe_bltn (v := .ty "tuple") (u := .type "tuple") (by rfl) T.tuple (by decide +kernel) rfl) pa_nil))))) (pw_or1 (pt_cmpR op_ne (pe_callB call_len_seq (by rfl) T.len (by decide +kernel) (pa_cons (pv 0) pa_nil)) pe_int (nomark _)))))
      (pss_one (ps_ret pe_bl))
      pss_nil)
      (pss_one (ps_ret (pe_and (pe_call G_is_integer (hr.mono (by decide)) rfl D_is_integer.mg D_is_integer.fn.kp D_is_integer.bd .nil pass0 (pa_cons (pe_ix ix_tup (pv 0) pe_int (fun _ _ => rfl)) pa_nil)) (pe_and (pe_chain op_le op_le pe_int (pe_ix ix_tup (pv 0) pe_int (fun _ _ => rfl)) (pe_glob (v := .int 3) rfl T.cMOST_AFTER.choose_spec ⟨_, rfl⟩)) (pe_one (pe_call G_is_bound (hr.mono (by decide)) rfl D_is_bound.mg D_is_bound.fn.kp D_is_bound.bd .nil pass0 (pa_cons (pe_ix ix_tup (pv 0) pe_int (fun _ _ => rfl)) pa_nil))))))))), ?_⟩
    by_cases hv : v = .non
    · subst hv
      cases hd
      exact ⟨_, rfl, rfl, _, rfl, ifT rfl (ret _ (Same.refl H))⟩
    refine ⟨_, rfl, rfl, _, rfl, ifF hv ⟨_, rfl, _, _, _, _, isTupD d, rfl, .ty _, hd.ty, kit_tup d, _, rfl, ?_⟩⟩
    cases hs : isTupD d with
    | false =>
      have e : closeD d = false := by
        cases d with
        | none => cases hd; exact absurd rfl hv
        | tuple _ => cases hs
        | _ => rfl
      rw [e] at ret
      exact iteT (ret _ (Same.refl H))
    | true =>
      refine iteF ?_
      cases hd with
      | @tup a xs ds ha t =>
        refine ⟨_, rfl, _, _, rfl, .inr (SqT.of ha), rfl, _, rfl, ?_⟩
        have len := t.len
        by_cases h2 : xs.length = 2
        · refine ite2 (fun q => absurd (by show V.int (xs.length : Int) = _; rw [h2]; rfl) (nT q)) (fun _ => ?_)
          match xs, ds, t, h2 with
          | [x0, x1], [e0, e1], .cons t0 (.cons t1 .nil), _ =>
            have sh1 : shortD e1 = true := (List.all_eq_true.mp (show ([e0, e1].all shortD) = true from sh)) e1 (by simp)
            refine ⟨_, rfl, _, _, _, _, rfl, rfl, SqT.of ha, rfl, is_int_d t0 ⟨_, rfl, ?_⟩⟩
            cases hi : isIntD e0 with
            | false =>
              have e : closeD (.tuple [e0, e1]) = false := by
                show (inD e0 0 3 && boundD e1) = false
                rw [show inD e0 0 3 = false by cases e0 <;> first | rfl | cases hi]
                rfl
              rw [e] at ret
              exact iteF (ret _ (Same.refl H))
            | true =>
              cases t0 with
              | int i =>
                have q : ∀ H', Same H H' → Q (.bl (decide (0 ≤ i) && decide (i ≤ 3) && boundD e1)) H' := ret
                refine iteT ⟨_, rfl, _, _, _, _, rfl, rfl, SqT.of ha, rfl, _, _, rfl, rfl, _, rfl, ?_⟩
                cases h1 : decide (0 ≤ i) with
                | false =>
                  rw [h1] at q
                  exact iteF ⟨_, rfl, iteF (q _ (Same.refl H))⟩
                | true =>
                  refine iteT ⟨_, _, rfl, rfl, _, rfl, ?_⟩
                  cases h2 : decide (i ≤ 3) with
                  | false =>
                    rw [h1, h2] at q
                    exact iteF (q _ (Same.refl H))
                  | true =>
                    rw [h1, h2] at q
                    exact iteT ⟨_, rfl, _, _, _, _, rfl, rfl, SqT.of ha, rfl, is_bound_d t1 sh1 q⟩
              | _ => cases hi
        · refine ite2 (fun _ => ?_) (fun q => absurd (nF q) (fun z => h2 (by have := V.int.inj z; omega)))
          have e : closeD (.tuple ds) = false := by
            match ds, len with
            | [], _ => rfl
            | [_], _ => rfl
            | [_, _], len => exact absurd len h2
            | _ :: _ :: _ :: _, _ => rfl
          rw [e] at ret
          exact ret _ (Same.refl H)
      | _ => cases hs
abbrev s_Kind_init : Stmt := inClass (top 53) 0
abbrev N_Kind_init : List Str := ["self", "name", "talks", "needs", "closing", "ends"]
abbrev P_Kind_init : List Str := ["self", "name", "talks", "needs", "closing", "ends"]
theorem sc_Kind_init : FnScope N_Kind_init P_Kind_init (defScope s_Kind_init) := ⟨rfl, rfl, rfl, by decide +kernel, rfl, by decide +kernel, by decide +kernel⟩
theorem ok_Kind_initX {C f f1 f2 f3 f4 f5 : Addr} {fd fd1 fd2 fd3 fd4 fd5 : FuncData} {c : Nat → Addr} {kws : List (Str × V)} (D : FunD K "__init__" "Kind.__init__" (defArgs s_Kind_init) (defBody s_Kind_init) (defScope s_Kind_init) [] kws f fd) (T : Txt K mg) (cl : Cls K C) (na : NoAttr K C "parts")
    (ER_InvalidName : ErrTxt K mg "InvalidName" "given" (c 0)) (ER_InvalidNumber : ErrTxt K mg "InvalidNumber" "given" (c 1)) (ER_InvalidNeeds : ErrTxt K mg "InvalidNeeds" "given" (c 3)) (ER_InvalidClosing : ErrTxt K mg "InvalidClosing" "given" (c 4)) (ER_InvalidEnds : ErrTxt K mg "InvalidEnds" "given" (c 5))
    (D_is_name : DefAt K mg "is_name" s_is_name P_is_name f1 fd1) (G_is_name : FnOk P w K mg base CX0 1 f1 fd1 P_is_name (sp_is_name K))
    (D_is_bound : DefAt K mg "is_bound" s_is_bound P_is_bound f2 fd2) (G_is_bound : FnOk P w K mg base CX0 3 f2 fd2 P_is_bound (sp_is_bound K))
    (D_is_integer : DefAt K mg "is_integer" s_is_integer P_is_integer f3 fd3) (G_is_integer : FnOk P w K mg base CX0 1 f3 fd3 P_is_integer (sp_is_integer K))
    (D_is_needs : DefAt K mg "is_needs" s_is_needs P_is_needs f4 fd4) (G_is_needs : FnOk P w K mg base CX0 4 f4 fd4 P_is_needs (sp_is_needs K))
    (D_is_closing : DefAt K mg "is_closing" s_is_closing P_is_closing f5 fd5) (G_is_closing : FnOk P w K mg base CX0 4 f5 fd5 P_is_closing (sp_is_closingX K)) :
    FnOk P w K mg base (L2.CX P w) 5 f fd P_Kind_init (sp_kind_initX K c C) := by
  have G_is_name := fn_lk G_is_name
  have G_is_bound := fn_lk G_is_bound
  have G_is_integer := fn_lk G_is_integer
  have G_is_needs := fn_lk G_is_needs
  refine D.ok sc_Kind_init (fun vs H Q E h => ?_) (fun cdv A outer s H vs Q E hr h => ?_)
  · obtain ⟨b, x, dx, v0, v1, v2, v3, v4, d0, d1, d2, d3, d4, rfl, _⟩ := h
    rfl
  · obtain ⟨b, x, dx, v0, v1, v2, v3, v4, d0, d1, d2, d3, d4, rfl, F, hx, hd, nd, due⟩ := h
    refine ⟨_, (pss_cons (ps_if (pt_not (pt_val (pe_call G_is_name (hr.mono (by decide)) rfl D_is_name.mg D_is_name.fn.kp D_is_name.bd .nil pass0 (pa_cons (pv 1) pa_nil))))
      (pss_one (ps_err ER_InvalidName (hr.mono (by decide)) rfl (takes_of rfl rfl rfl rfl) rfl (pv 1)))
      pss_nil)
      (pss_cons (ps_if (PW.pt (pw_or (pt_not (pt_val (pe_call G_is_integer (hr.mono (by decide)) rfl D_is_integer.mg D_is_integer.fn.kp D_is_integer.bd .nil pass0 (pa_cons (pv 2) pa_nil)))) (pw_or1 (pt_not (pt_chain op_le op_le pe_int (pv 2) (pe_glob (v := .int 3) rfl T.cMOST_TALKS.choose_spec ⟨_, rfl⟩))))))
      (pss_one (ps_err ER_InvalidNumber (hr.mono (by decide)) rfl (takes_of rfl rfl rfl rfl) rfl (pv 2)))
      pss_nil)
      (pss_cons (ps_if (pt_not (pt_val (pe_call G_is_needs (hr.mono (by decide)) rfl D_is_needs.mg D_is_needs.fn.kp D_is_needs.bd .nil pass0 (pa_cons (pv 3) pa_nil))))
      (pss_one (ps_err ER_InvalidNeeds (hr.mono (by decide)) rfl (takes_of rfl rfl rfl rfl) rfl (pv 3)))
      pss_nil)
      (pss_cons (ps_if (pt_not (pt_val (pe_call G_is_closing (hr.mono (by decide)) rfl D_is_closing.mg D_is_closing.fn.kp D_is_closing.bd .nil pass0 (pa_cons (pv 4) pa_nil))))
      (pss_one (ps_err ER_InvalidClosing (hr.mono (by decide)) rfl (takes_of rfl rfl rfl rfl) rfl (pv 4)))
      pss_nil)
      (pss_cons (ps_if (PW.pt (pw_and (pt_cmpR op_notN (pv 5) pe_non (nomark _)) (pw_and1 (pt_not (pt_val (pe_call G_is_bound (hr.mono (by decide)) rfl D_is_bound.mg D_is_bound.fn.kp D_is_bound.bd .nil pass0 (pa_cons (pv 5) pa_nil)))))))
      (pss_one (ps_err ER_InvalidEnds (hr.mono (by decide)) rfl (takes_of rfl rfl rfl rfl) rfl (pv 5)))
      pss_nil)
      (pss_one (ps_fld (pv 0) (pe_tup (pa_cons (pv 1) (pa_cons (pv 2) (pa_cons (pv 3) (pa_cons (pv 4) (pa_cons (pv 5) pa_nil)))))) rfl))))))), ?_⟩
    refine ⟨_, rfl, is_name_d F.q0 F.t0 fun H1 s1 => ⟨_, rfl, ?_⟩⟩
    cases n0 : nameD d0 with
    | false => exact iteT ⟨_, rfl, (due.e0 n0).at s1⟩
    | true =>
    refine iteF ?_
    dsimp only [tNext]
    refine join_ifs (fun k H' => k = !inD d1 0 3 ∧ H' = H1) (fun Q' fin => ?_) ?_
    · have q1 := F.q1.same s1
      refine ⟨_, rfl, is_int_d q1 ⟨_, rfl, ?_⟩⟩
      cases hi : isIntD d1 with
      | false =>
        have e : inD d1 0 3 = false := by
          cases d1 with
          | int _ => cases hi
          | _ => rfl
        exact iteT (fin _ _ ⟨by rw [e]; rfl, rfl⟩)
      | true =>
        refine iteF ?_
        cases q1 with
        | int i =>
          refine ⟨_, rfl, _, _, rfl, rfl, _, rfl, ?_⟩
          cases h1 : decide (0 ≤ i) with
          | false =>
            refine iteF ⟨_, rfl, fin _ _ ⟨?_, rfl⟩⟩
            show _ = !(decide (0 ≤ i) && decide (i ≤ 3))
            rw [h1]
            rfl
          | true =>
            refine iteT ⟨_, _, rfl, rfl, _, rfl, fin _ _ ⟨?_, rfl⟩⟩
            show _ = !(decide (0 ≤ i) && decide (i ≤ 3))
            rw [h1]
            rfl
        | _ => cases hi
    rintro _ _ ⟨rfl, rfl⟩
    cases n1 : inD d1 0 3 with
    | false => exact iteT ⟨_, rfl, (due.e1 n0 n1).at s1⟩
    | true =>
    refine iteF ⟨_, rfl, is_needs_d (F.q2.same s1) F.t2 fun H2 s2 => ⟨_, rfl, ?_⟩⟩
    have s2 := s1.trans s2
    cases n2 : needD d2 with
    | false => exact iteT ⟨_, rfl, (due.e2 n0 n1 n2).at s2⟩
    | true =>
    refine iteF ⟨_, rfl, b, v3, d3, rfl, F.q3.same s2, F.t3, fun H3 s3 => ⟨_, rfl, ?_⟩⟩
    have s3 := s2.trans s3
    cases n3 : closeD d3 with
    | false => exact iteT ⟨_, rfl, (due.e3 n0 n1 n2 n3).at s3⟩
    | true =>
    refine iteF ?_
    dsimp only [tNext]
    refine join_ifs (fun k H' => k = !endD d4 ∧ Same H H') (fun Q' fin => ?_) ?_
    · have q4 := F.q4.same s3
      by_cases hv : v4 = .non
      · subst hv
        cases q4
        exact ⟨_, rfl, rfl, _, rfl, ifNF rfl (fin _ _ ⟨rfl, s3⟩)⟩
      · refine ⟨_, rfl, rfl, _, rfl, ifNT hv ⟨_, rfl, is_bound_d q4 F.t4 fun H4 s4 => ⟨_, rfl, fin _ _ ⟨?_, s3.trans s4⟩⟩⟩⟩
        cases d4 with
        | none => cases q4; exact absurd rfl hv
        | _ => rfl
    rintro _ H4 ⟨rfl, s4⟩
    cases n4 : endD d4 with
    | false => exact iteT ⟨_, rfl, (due.e4 n0 n1 n2 n3 n4).at s4⟩
    | true =>
    refine iteF ?_
    dsimp only [tNext]
    refine ⟨_, rfl, _, rfl, _, rfl, _, rfl, _, rfl, by show 5 ≤ sizeLine; decide, fun t ht => ?_⟩
    have tx : t ≠ x := (ne_of_none (s4 _ _ hx) ht).symm
    refine ⟨_, rfl, x, C, dx, [], rfl, same_new ht _ _ (s4 _ _ hx), cl, na, by decide, ?_⟩
    refine due.fine n0 n1 n2 n3 n4 _ (fun b o n e => ?_) ⟨dx, t, upd_same, by rw [upd_ne tx, upd_same]⟩
    rw [upd_ne n]
    exact same_new ht _ _ (s4 _ _ e)
end L

namespace Hv
open PySem L2
theorem inV_strs (z : Str) : ∀ l : List Str, inV (.str z) (l.map V.str) = l.any fun x => decide (x = z)
  | [] => rfl
  | x :: l => by
    have ih := inV_strs z l
    unfold inV at ih ⊢
    rw [List.map_cons, List.any_cons, List.any_cons, ih]
    congr 1
    try simp [eqV]
theorem flat_strs : ∀ l : List Str, ((l.map V.str).all flatV) = true
  | [] => rfl
  | x :: l => by
    rw [List.map_cons, List.all_cons, flat_strs l]
    rfl
end Hv
namespace Hv
open PySem L2
abbrev SIGNS : Str := Str.ofString "abcdefghijklmnopqrstuvwxyz0123456789"
theorem signs_let : ∀ j < 26, ∃ c, SIGNS.cps.toList[j]? = some c ∧ c ∈ LETS.cps.toList := by decide +kernel
theorem signs_ok : ∀ j < 36, ∃ c, SIGNS.cps.toList[j]? = some c ∧ signOk c = true := by decide +kernel
theorem atI_int {α : Type} {xs : List α} {r : Int} {c : α} (h0 : 0 ≤ r) (h : xs[r.toNat]? = some c) : atI xs r = some c := by
  have hl : r.toNat < xs.length := by
    rcases Nat.lt_or_ge r.toNat xs.length with q | q
    · exact q
    · rw [List.getElem?_eq_none q] at h
      cases h
  unfold atI ixN
  rw [if_pos h0, if_pos (by omega)]
  exact h
/-- the beginning of a name -/
def Tag (z : Str) (n : Nat) : Prop := z.length = n ∧ ∃ c cs, z.cps.toList = c :: cs ∧ c ∈ LETS.cps.toList ∧ (c :: cs).all signOk = true
theorem tag_one {c : Nat} (h : c ∈ LETS.cps.toList) : Tag ⟨#[c]⟩ 1 := by
  refine ⟨rfl, c, [], rfl, h, ?_⟩
  have : signOk c = true := by
    unfold signOk
    rw [decide_eq_true h]
    rfl
  simp [this]
theorem app_cps (a b : Str) : (a ++ b).cps.toList = a.cps.toList ++ b.cps.toList := by
  show (a.cps ++ b.cps).toList = _
  simp
theorem Tag.more {z : Str} {n c : Nat} (h : Tag z n) (hc : signOk c = true) : Tag (z ++ ⟨#[c]⟩) (n + 1) := by
  obtain ⟨h1, d, cs, h2, h3, h4⟩ := h
  refine ⟨by rw [Str.length_append, h1]; rfl, d, cs ++ [c], by rw [app_cps, h2]; rfl, h3, ?_⟩
  rw [← List.cons_append, List.all_append, h4]
  simp [hc]
theorem Tag.ok {z : Str} {n : Nat} (h : Tag z n) (hn : n ≤ 8) : nameOk z = true := by
  obtain ⟨h1, d, cs, h2, h3, h4⟩ := h
  unfold nameOk
  rw [h2]
  dsimp only
  rw [decide_eq_true (show z.length ≤ 8 by omega), decide_eq_true h3, h4]
  rfl
theorem Tag.of {z : Str} (h : nameOk z = true) : Tag z z.length ∧ z.length ≤ 8 := by
  unfold nameOk at h
  cases e : z.cps.toList with
  | nil => rw [e] at h; cases h
  | cons c cs =>
    rw [e] at h
    simp only [Bool.and_eq_true, decide_eq_true_eq] at h
    exact ⟨⟨rfl, c, cs, e, h.1.2, h.2⟩, h.1.1⟩
theorem cut_to (z : Str) (k : Nat) : (cutS z none (some (k : Int))).cps.toList = z.cps.toList.take k := by
  show ((z.cps.toList.drop (HT.sIx z.length 0 none)).take (HT.sIx z.length z.length (some (k : Int)) - HT.sIx z.length 0 none)) = _
  rw [HT.sIx_none, HT.sIx_nat, List.drop_zero, Nat.sub_zero, ← str_len z]
  by_cases h : k ≤ z.cps.toList.length
  · rw [Nat.min_eq_left h]
  · rw [Nat.min_eq_right (by omega), List.take_of_length_le (Nat.le_refl _), List.take_of_length_le (by omega)]
theorem cut_from (z : Str) (k : Nat) : (cutS z (some (k : Int)) none).cps.toList = z.cps.toList.drop k := by
  show ((z.cps.toList.drop (HT.sIx z.length 0 (some (k : Int)))).take (HT.sIx z.length z.length none - HT.sIx z.length 0 (some (k : Int)))) = _
  rw [HT.sIx_none, HT.sIx_nat, ← str_len z]
  by_cases h : k ≤ z.cps.toList.length
  · rw [Nat.min_eq_left h, List.take_of_length_le (by simp)]
  · rw [Nat.min_eq_right (by omega), List.drop_of_length_le (Nat.le_refl _), List.drop_of_length_le (by omega)]
    simp
theorem len_tl (z : Str) : z.length = z.cps.toList.length := (str_len z).symm
/-- a name with a letter put in the place of a sign -/
theorem Tag.swap {z : Str} {n k c : Nat} (h : Tag z n) (hk : k < n) (hc : c ∈ LETS.cps.toList) : Tag (cutS z none (some (k : Int)) ++ ⟨#[c]⟩ ++ cutS z (some ((k : Int) + 1)) none) n := by
  obtain ⟨h1, d, cs, h2, h3, h4⟩ := h
  have sc : signOk c = true := by unfold signOk; rw [decide_eq_true hc]; rfl
  have hl : (d :: cs).length = n := by rw [← h2, ← len_tl]; exact h1
  have e : (cutS z none (some (k : Int)) ++ ⟨#[c]⟩ ++ cutS z (some ((k : Int) + 1)) none).cps.toList = (d :: cs).take k ++ [c] ++ (d :: cs).drop (k + 1) := by
    rw [app_cps, app_cps, cut_to, show ((k : Int) + 1) = ((k + 1 : Nat) : Int) from rfl, cut_from, h2]
  have ha : ((d :: cs).take k ++ [c] ++ (d :: cs).drop (k + 1)).all signOk = true := by
    rw [List.all_eq_true] at h4 ⊢
    intro x hx
    simp only [List.mem_append, List.mem_singleton] at hx
    rcases hx with (hx | hx) | hx
    · exact h4 x (List.mem_of_mem_take hx)
    · rw [hx]; exact sc
    · exact h4 x (List.mem_of_mem_drop hx)
  refine ⟨?_, ?_⟩
  · rw [len_tl, e]
    simp at hl ⊢
    omega
  · cases k with
    | zero => exact ⟨c, _, e, hc, ha⟩
    | succ k => exact ⟨d, _, e, h3, ha⟩
/-- the beginning of a name -/
theorem Tag.front {z : Str} {n k : Nat} (h : Tag z n) (hk : k < n) : Tag (cutS z none (some ((k : Int) + 1))) (k + 1) := by
  obtain ⟨h1, d, cs, h2, h3, h4⟩ := h
  have hl : (d :: cs).length = n := by rw [← h2, ← len_tl]; exact h1
  have e : (cutS z none (some ((k : Int) + 1))).cps.toList = d :: cs.take k := by
    rw [show ((k : Int) + 1) = ((k + 1 : Nat) : Int) from rfl, cut_to, h2]
    rfl
  refine ⟨?_, d, _, e, h3, ?_⟩
  · rw [len_tl, e]
    simp at hl ⊢
    omega
  · rw [List.all_eq_true] at h4 ⊢
    intro x hx
    rcases List.mem_cons.mp hx with rfl | hx
    · exact h4 _ List.mem_cons_self
    · exact h4 x (List.mem_cons_of_mem _ (List.mem_of_mem_take hx))
theorem Tag.first {z : Str} {n : Nat} (h : Tag z n) : ∃ c, atI z.cps.toList 0 = some c ∧ c ∈ LETS.cps.toList := by
  obtain ⟨h1, d, cs, h2, h3, h4⟩ := h
  exact ⟨d, by rw [h2]; exact atI_zero d cs, h3⟩
theorem sub_len {α : Type} [DecidableEq α] : ∀ (l m : List α), l.Nodup → (∀ x ∈ l, x ∈ m) → l.length ≤ m.length
  | [], m, _, _ => Nat.zero_le _
  | x :: l, m, h1, h2 => by
    rw [List.nodup_cons] at h1
    have hx := h2 x List.mem_cons_self
    have ih := sub_len l (m.erase x) h1.2 fun y hy => (List.mem_erase_of_ne (fun q => h1.1 (by rw [← q]; exact hy))).mpr (h2 y (List.mem_cons_of_mem _ hy))
    rw [List.length_erase_of_mem hx] at ih
    have := List.length_pos_of_mem hx
    rw [List.length_cons]
    omega
def SPARE : List Str := [Str.ofString "x", Str.ofString "x0", Str.ofString "x1", Str.ofString "x2", Str.ofString "x3", Str.ofString "x4"]
theorem spare_nodup : SPARE.Nodup := by decide +kernel
theorem spare_ok : ∀ z ∈ SPARE, nameOk z = true ∧ z.length ≤ 8 := by decide +kernel
def spareOf (zs : List Str) (i : Nat) : List Str := (SPARE.take i).filter fun z => !decide (z ∈ zs)
theorem spare_succ (zs : List Str) {j : Nat} {y : Str} (h : SPARE[j]? = some y) : spareOf zs (j + 1) = spareOf zs j ++ if y ∈ zs then [] else [y] := by
  unfold spareOf
  rw [List.take_succ, h, List.filter_append]
  congr 1
  by_cases hm : y ∈ zs
  · rw [if_pos hm]
    simp [hm]
  · rw [if_neg hm]
    simp [hm]
theorem spare_some {zs : List Str} (h : zs.length < 6) : ∃ z l, spareOf zs 6 = z :: l ∧ z ∉ zs ∧ nameOk z = true ∧ z.length ≤ 8 := by
  cases e : spareOf zs 6 with
  | nil =>
    have : SPARE.length ≤ zs.length := sub_len SPARE zs spare_nodup fun x hx => by
      have := List.filter_eq_nil_iff.mp e x (by rw [List.take_of_length_le (by decide)]; exact hx)
      simpa using this
    have l6 : SPARE.length = 6 := rfl
    omega
  | cons z l =>
    have hz : z ∈ spareOf zs 6 := by rw [e]; exact List.mem_cons_self
    obtain ⟨h1, h2⟩ := List.mem_filter.mp hz
    have h3 := spare_ok z (List.mem_of_mem_take h1)
    exact ⟨z, l, rfl, by simpa using h2, h3.1, h3.2⟩
theorem inV_mem (z : Str) (l : List Str) : inV (.str z) (l.map V.str) = decide (z ∈ l) := by
  rw [inV_strs]
  induction l with
  | nil => rfl
  | cons x l ih =>
    rw [List.any_cons, ih]
    by_cases h : x = z
    · simp [h]
    · have : ¬ z = x := fun q => h q.symm
      simp [h, this]
theorem join_s {tt : TT} {tu tv tz : TS} {D : Ends} {σ : L2.St} {H : Hp} (S : L2.St → Hp → Prop) (h : ∀ N : L2.St → Hp → Prop, (∀ σ' H', S σ' H' → N σ' H') → tIfS tt tu tv { D with nx := N } σ H)
    (k : ∀ σ' H', S σ' H' → tz D σ' H') : tSeq (tIfS tt tu tv) tz D σ H := h (tz D) k
theorem But.mut {b p : Addr} {H H1 : Hp} {o : HO} (x : But b H H1) (hp : H p = none) : But b H (upd H1 p o) := fun a u n h => by
  rw [upd_ne (ne_of_none h hp)]
  exact x a u n h
/-- the names of a drawn list -/
structure Names (zs : List Str) : Prop where
  ok : ∀ z ∈ zs, nameOk z = true ∧ z.length ≤ 8
  nd : zs.Nodup
theorem Names.app {zs : List Str} {z : Str} (h : Names zs) (h1 : nameOk z = true) (h2 : z.length ≤ 8) (h3 : z ∉ zs) : Names (zs ++ [z]) := by
  refine ⟨fun x hx => ?_, ?_⟩
  · rcases List.mem_append.mp hx with q | q
    · exact h.ok x q
    · rw [List.mem_singleton.mp q]
      exact ⟨h1, h2⟩
  · rw [List.nodup_append]
    refine ⟨h.nd, by simp, ?_⟩
    intro a ha b hb
    rw [List.mem_singleton.mp hb]
    exact fun q => h3 (q ▸ ha)
theorem nameOk_str {z : Str} (h : nameOk z = true) : PyData.strOk z = true := by
  obtain ⟨⟨_, c, cs, e, _, ha⟩, _⟩ := Tag.of h
  rw [strOk_iff]
  intro x hx
  have hx : x ∈ z.cps.toList := by simpa using hx
  rw [e] at hx
  have := List.all_eq_true.mp ha x hx
  unfold signOk at this
  have l1 : ∀ c ∈ LETS.cps.toList, c < 0x110000 := by decide +kernel
  have l2 : ∀ c ∈ DIGS.cps.toList, c < 0x110000 := by decide +kernel
  rcases Bool.or_eq_true_iff.mp this with q | q
  · exact l1 x (of_decide_eq_true q)
  · exact l2 x (of_decide_eq_true q)
def sp_tags : Sp := fun vs H Q _ => ∃ (b : Addr) (m n : Nat), vs = [.ref b, .int (m : Int)] ∧ Bag H b n ∧ n < 800000 ∧ m ≤ 6 ∧
  ∀ (p : Addr) (zs : List Str) (H' : Hp), H p = none → But b H H' → Bag H' b (n + 13 * m) → H' p = some (.lst (zs.map V.str)) → p ≠ b → zs.length = m → Names zs → Q (.ref p) H'
def sp_tag : Sp := fun vs H Q _ => ∃ (b : Addr) (k : Nat), vs = [.ref b] ∧ Bag H b k ∧ k < 900000 ∧ ∀ (z : Str) (H' : Hp), But b H H' → Bag H' b (k + 10) → nameOk z = true → z.length ≤ 8 → Q (.str z) H'
end Hv
namespace L
open PySem L2 Hv
variable {P : Program} {w : World} {K : PySem.W.Frag} {mg : Str → Option Value} {base : Heap}
abbrev s_tag : Stmt := top 64
abbrev N_tag : List Str := ["_law_bag_here", "_law_signs", "_law_made", "_law_k"]
abbrev P_tag : List Str := ["_law_bag_here"]
theorem sc_tag : FnScope N_tag P_tag (defScope s_tag) := ⟨rfl, rfl, rfl, by decide +kernel, rfl, by decide +kernel, by decide +kernel⟩
theorem ok_tag {f f1 : Addr} {fd fd1 : FuncData} (D : DefAt K mg "_law_tag" s_tag P_tag f fd) (T : Txt K mg) (D_take : DefAt K mg "_law_take" s_take P_take f1 fd1) : FnOk P w K mg base CX0 2 f fd P_tag sp_tag := by
  have G_take : FnOk P w K mg base CX0 1 f1 fd1 P_take sp_take := ok_take D_take T
  refine D.fn.ok sc_tag (fun vs H Q E h => ?_) (fun cdv A outer s H vs Q E hr h => ?_)
  · obtain ⟨b, k, rfl, _⟩ := h
    rfl
  · obtain ⟨b, k, rfl, hb, hk, ret⟩ := h
    refine ⟨_, (pss_cons (ps_asg pe_str (pg_name (i := 1) sc_tag.nd rfl (.inl rfl)))
      (pss_cons (ps_asg (pe_ix ix_str (pv 1) (pe_call G_take (hr.mono (by decide)) rfl D_take.mg D_take.fn.kp D_take.bd .nil pass0 (pa_cons (pv 0) (pa_cons pe_int pa_nil))) (fun _ _ => rfl)) (pg_name (i := 2) sc_tag.nd rfl (.inl rfl)))
      (pss_cons (ps_for PassesOwn.never rfl (pi_range1 (by rfl) T.range (pa_cons (pe_call G_take (hr.mono (by decide)) rfl D_take.mg D_take.fn.kp D_take.bd .nil pass0 (pa_cons (pv 0) (pa_cons pe_int pa_nil))) pa_nil)) (pg_name (i := 3) sc_tag.nd rfl (.inl rfl))
      (pss_one (ps_asg (pe_op op_add_str (pv 2) (pe_ix ix_str (pv 1) (pe_call G_take (hr.mono (by decide)) rfl D_take.mg D_take.fn.kp D_take.bd .nil pass0 (pa_cons (pv 0) (pa_cons pe_int pa_nil))) (fun _ _ => rfl))) (pg_name (i := 2) sc_tag.nd rfl (.inl rfl)))))
      (pss_one (ps_ret (pv 2)))))), ?_⟩
    refine ⟨_, rfl, _, rfl, b, 26, k, rfl, hb, by omega, by decide, by decide, fun r H1 u1 b1 r0 r1 => ?_⟩
    obtain ⟨c, hc, hl⟩ := signs_let r.toNat (by omega)
    refine ⟨_, _, c, rfl, rfl, by decide, atI_int r0 hc, ?_⟩
    refine ⟨_, rfl, b, 8, k + 1, rfl, b1, by omega, by decide, by decide, fun m H2 u2 b2 m0 m1 => ?_⟩
    refine ⟨m, rfl, by omega, by omega, for_range (lo := 0) (fun i σ' H' => ∃ z v, σ' = [some (.ref b), some (.str SIGNS), some (.str z), v] ∧ Tag z (i + 1) ∧ But b H H' ∧ Bag H' b (k + 2 + i)) ?_ ?_ ?_⟩
    · exact ⟨_, _, rfl, tag_one hl, u1.trans u2, b2⟩
    · rintro i σ' H' hi ⟨z, v, rfl, tg, u, bb⟩
      refine ⟨_, rfl, _, rfl, _, rfl, b, 36, k + 2 + i, rfl, bb, by omega, by decide, by decide, fun q H3 u3 b3 q0 q1 => ?_⟩
      obtain ⟨c2, hc2, hl2⟩ := signs_ok q.toNat (by omega)
      refine ⟨_, _, c2, rfl, rfl, by decide, atI_int q0 hc2, _, _, rfl, rfl, ?_, ?_⟩
      · have := tg.1
        exact Evl.sz_of (by rw [this]; show i + 1 + 1 ≤ 100000; omega)
      · exact ⟨_, _, rfl, tg.more hl2, u.trans u3, b3⟩
    · rintro σ' H' ⟨z, v, rfl, tg, u, bb⟩
      exact ⟨_, rfl, ret z H' u (bb.mono (by omega)) (tg.ok (by omega)) (by have := tg.1; omega)⟩
abbrev s_tags : Stmt := top 65
abbrev N_tags : List Str := ["_law_bag_here", "_law_many", "_law_found", "_law_k", "_law_made", "_law_way", "_law_old", "_law_at", "_law_spare", "_law_tag_here"]
abbrev P_tags : List Str := ["_law_bag_here", "_law_many"]
theorem sc_tags : FnScope N_tags P_tags (defScope s_tags) := ⟨rfl, rfl, rfl, by decide +kernel, rfl, by decide +kernel, by decide +kernel⟩
theorem ok_tags {f f1 f2 : Addr} {fd fd1 fd2 : FuncData} (D : DefAt K mg "_law_tags" s_tags P_tags f fd) (T : Txt K mg) (D_take : DefAt K mg "_law_take" s_take P_take f1 fd1) (D_tag : DefAt K mg "_law_tag" s_tag P_tag f2 fd2) : FnOk P w K mg base CX0 3 f fd P_tags sp_tags := by
  have G_take : FnOk P w K mg base CX0 1 f1 fd1 P_take sp_take := ok_take D_take T
  have G_tag : FnOk P w K mg base CX0 2 f2 fd2 P_tag sp_tag := ok_tag D_tag T D_take
  refine D.fn.ok sc_tags (fun vs H Q E h => ?_) (fun cdv A outer s H vs Q E hr h => ?_)
  · obtain ⟨b, m, n, rfl, _⟩ := h
    rfl
  · obtain ⟨b, m, n, rfl, hb, hn, hm, ret⟩ := h
    refine ⟨_, (pss_cons (ps_asg (pe_lst pa_nil) (pg_name (i := 2) sc_tags.nd rfl (.inr rfl)))
      (pss_cons (ps_for PassesOwn.never rfl (pi_range1 (by rfl) T.range (pa_cons (pv 1) pa_nil)) (pg_name (i := 3) sc_tags.nd rfl (.inl rfl))
      (pss_cons (ps_par (i := 4) (j := 5) (by rfl) sc_tags.nd rfl rfl (by decide) rfl rfl (pa_cons (pe_call G_tag (hr.mono (by decide)) rfl D_tag.mg D_tag.fn.kp D_tag.bd .nil pass0 (pa_cons (pv 0) pa_nil)) (pa_cons (pe_call G_take (hr.mono (by decide)) rfl D_take.mg D_take.fn.kp D_take.bd .nil pass0 (pa_cons (pv 0) (pa_cons pe_int pa_nil))) pa_nil)) (by rfl))
      (pss_cons (ps_if (PW.pt (pw_and (pt_cmpR op_gt (pv 3) pe_int (nomark _)) (pw_and1 (pt_cmpR op_lt (pv 5) pe_int (nomark _)))))
      (pss_cons (ps_asg (pe_ix ix_list (pv 2) (pe_call G_take (hr.mono (by decide)) rfl D_take.mg D_take.fn.kp D_take.bd .nil pass0 (pa_cons (pv 0) (pa_cons (pv 3) pa_nil))) (fun _ _ => rfl)) (pg_name (i := 6) sc_tags.nd rfl (.inl rfl)))
      (pss_cons (ps_asg (pe_call G_take (hr.mono (by decide)) rfl D_take.mg D_take.fn.kp D_take.bd .nil pass0 (pa_cons (pv 0) (pa_cons (pe_callB call_len_str (by rfl) T.len (by decide +kernel) (pa_cons (pv 6) pa_nil)) pa_nil))) (pg_name (i := 7) sc_tags.nd rfl (.inl rfl)))
      (pss_one (ps_asg (pe_ifExp (pt_cmpR op_eq (pv 5) pe_int (nomark _)) (pe_op op_add_str (pe_op op_add_str (pe_slice sl_str (pv 6) po_none (po_some (pv 7))) (pe_ix ix_str (pv 4) pe_int (fun _ _ => rfl))) (pe_slice sl_str (pv 6) (po_some (pe_op op_add (pv 7) pe_int)) po_none)) (pe_slice sl_str (pv 6) po_none (po_some (pe_op op_add (pv 7) pe_int)))) (pg_name (i := 4) sc_tags.nd rfl (.inl rfl))))))
      pss_nil)
      (pss_cons (ps_setLc (i := 8) (own := [("_law_tag_here", 9)]) (g := gName 9) rfl sc_tags.nd rfl rfl (sw_true rfl rfl rfl (by decide +kernel)) (pi_list (pe_lst (pa_cons pe_str (pa_cons pe_str (pa_cons pe_str (pa_cons pe_str (pa_cons pe_str (pa_cons pe_str pa_nil)))))))) (blkOk_by (own := [("_law_tag_here", 9)]) (N := N_tags) (sc := defScope s_tags) (by decide +kernel)) (fun _ _ _ _ _ => (pg_name (i := 9) sc_tags.nd rfl (.inl rfl))) (fun _ _ _ _ _ => (pts_one (pt_cmpR (show OpR _ (compareOp .NotIn) (rIn K true) from op_notIn_seq) (pv 9) (pv 2) (by rfl)))) (fun _ _ _ _ _ => (pv 9)))
      (pss_one (ps_expr (pe_bm PySem.F.plainAttrs_list PySem.F.slot_list_append PySem.F.type_list_append mt_append (pv 2) (pa_cons (pe_ifExp (pt_cmpR op_in_seq (pv 4) (pv 2) (by rfl)) (pe_ix ix_list (pv 8) pe_int (fun _ _ => rfl)) (pv 4)) pa_nil))))))))
      (pss_one (ps_ret (pv 2))))), ?_⟩
    refine ⟨by decide, fun p np => ?_⟩
    have pb : p ≠ b := hb.ne_none np
    refine ⟨_, rfl, m, rfl, by omega, by omega, for_range (lo := 0) (fun i σ' H' => ∃ zs v3 v4 v5 v6 v7 v8 v9, σ' = [some (.ref b), some (.int (m : Int)), some (.ref p), v3, v4, v5, v6, v7, v8, v9] ∧ H' p = some (.lst (zs.map V.str)) ∧ zs.length = i ∧ Names zs ∧ But b H H' ∧ Bag H' b (n + 13 * i)) ?_ ?_ ?_⟩
    · exact ⟨[], none, none, none, none, none, none, none, rfl, upd_same, rfl, ⟨(fun _ h => nomatch h), .nil⟩, But.of (same_new np), hb.same (same_new np)⟩
    · rintro i σ' H' hi ⟨zs, v3, v4, v5, v6, v7, v8, v9, rfl, hp, hl, nm, u, bb⟩
      have hk : n + 13 * i < 900000 := by omega
      refine ⟨_, rfl, b, n + 13 * i, rfl, bb, hk, fun z1 H1 u1 b1 z1k z1l => ?_⟩
      refine ⟨_, rfl, b, 4, n + 13 * i + 10, rfl, b1, by omega, by decide, m_small (by decide) (by decide), fun way H2 u2 b2 w0 w1 => ⟨_, _, rfl, ?_⟩⟩
      have hp2 : H2 p = some (.lst (zs.map V.str)) := u2 _ _ pb (u1 _ _ pb hp)
      have u12 := (u.trans u1).trans u2
      have big : 1000 ≤ sizeLine := by decide
      dsimp only
      refine join_s (fun σ' H' => ∃ z v6 v7, σ' = [some (.ref b), some (.int (m : Int)), some (.ref p), some (.int (0 + (i : Int))), some (.str z), some (.int way), v6, v7, v8, v9] ∧ nameOk z = true ∧ z.length ≤ 8 ∧ But b H2 H' ∧ Bag H' b (n + 13 * i + 13)) (fun N fin => ?_) ?_
      · have skip : N [some (.ref b), some (.int (m : Int)), some (.ref p), some (.int (0 + (i : Int))), some (.str z1), some (.int way), v6, v7, v8, v9] H2 := fin _ _ ⟨z1, v6, v7, rfl, z1k, z1l, But.refl, b2.mono (by omega)⟩
        refine ⟨_, rfl, _, _, rfl, rfl, _, rfl, ite2 (fun c1 => ?_) (fun c1 => skip)⟩
        refine ⟨_, rfl, _, _, rfl, rfl, _, rfl, ite2 (fun c2 => ?_) (fun c2 => skip)⟩
        have i0 : 0 < (0 : Int) + (i : Int) := by have := of_decide_eq_true c1; omega
        refine ⟨_, rfl, _, rfl, _, rfl, b, _, _, rfl, b2, by omega, i0, m_small (by omega) (by omega), fun r H3 u3 b3 r0 r1 => ?_⟩
        have hr : r.toNat < zs.length := by omega
        obtain ⟨ok, ol⟩ := nm.ok _ (List.getElem_mem hr)
        have tg := (Tag.of ok).1
        refine ⟨p, _, r, .str zs[r.toNat], rfl, rfl, SqL.of (u3 _ _ pb hp2), atI_int r0 (by simp [hr]), ?_⟩
        generalize zs[r.toNat] = old at ok ol tg
        have ozl : old.length ≤ sizeLine := by omega
        have o1 : 1 ≤ old.length := by
          obtain ⟨_, d, cs, e, _⟩ := tg
          rw [len_tl, e]
          simp
        refine ⟨_, rfl, _, rfl, _, rfl, ozl, b, _, _, rfl, b3, by omega, by omega, m_small (by omega) (by omega), fun at_ H4 u4 b4 a0 a1 => ?_⟩
        obtain ⟨k, rfl⟩ := Int.eq_ofNat_of_zero_le a0
        have hk : k < old.length := by omega
        have u24 := u3.trans u4
        obtain ⟨c, hc, hcl⟩ := (Tag.of z1k).1.first
        have cl : ∀ lo hi, (cutS old lo hi).length ≤ 8 := fun lo hi => Nat.le_trans (cutS_length old lo hi) ol
        have c1 : (⟨#[c]⟩ : Str).length = 1 := rfl
        refine ⟨_, rfl, rfl, _, rfl, ite2 (fun c3 => ?_) (fun c3 => ?_)⟩
        · refine ⟨_, rfl, _, rfl, _, rfl, old, rfl, ozl, _, rfl, _, _, c, rfl, rfl, by omega, hc, _, _, rfl, rfl, ?_, _, rfl, _, rfl, _, _, rfl, rfl, _, rfl, old, rfl, ozl, _, _, rfl, rfl, ?_, ?_⟩
          · have := cl none (some (k : Int)); omega
          · have := cl none (some (k : Int)); have := cl (some ((k : Int) + 1)) none; rw [Str.length_append]; omega
          · have t := tg.swap hk hcl
            exact fin _ _ ⟨_, _, _, rfl, t.ok ol, by rw [t.1]; exact ol, u24, b4⟩
        · refine ⟨_, rfl, _, rfl, _, _, rfl, rfl, _, rfl, old, rfl, ozl, ?_⟩
          have t := tg.front hk
          exact fin _ _ ⟨_, _, _, rfl, t.ok (by omega), by rw [t.1]; omega, u24, b4⟩
      rintro _ H5 ⟨z, v6, v7, rfl, zk, zl, u5, b5⟩
      have hp5 : H5 p = some (.lst (zs.map V.str)) := u5 _ _ pb hp2
      have u05 := u12.trans u5
      refine ⟨by show 6 ≤ sizeLine; decide, fun L nL => ⟨L, rfl, ⟨_, SqL.of upd_same⟩, fun C nC => ?_⟩⟩
      have s6 : Same H5 (upd H5 L (.lst (SPARE.map V.str))) := same_new nL
      have hp6 := s6 _ _ hp5
      have b6 := b5.same s6
      have u06 := u05.trans (But.of s6)
      have hL6 := upd_same (H := H5) (a := L) (o := .lst (SPARE.map V.str))
      change upd H5 L (.lst (SPARE.map V.str)) C = none at nC
      generalize hx : upd H5 L (.lst (SPARE.map V.str)) = H6 at hp6 b6 u06 hL6 nC
      have Cp : C ≠ p := (ne_of_none hp6 nC).symm
      have CL : C ≠ L := (ne_of_none hL6 nC).symm
      have Cb : C ≠ b := b6.ne_none nC
      refine lc_list (K := K) (a := L) (xs := SPARE.map V.str) (fun j H' => H' = upd H6 C (.lst ((spareOf zs j).map V.str))) (by rw [← hx]; rfl) ?_ ?_ ?_
      · rintro j H' _ rfl
        exact SqL.of (by rw [upd_ne CL.symm]; exact hL6)
      · rintro j x Hj hxj rfl
        obtain ⟨y, hy, rfl⟩ : ∃ y, SPARE[j]? = some y ∧ V.str y = x := by
          rw [List.getElem?_map] at hxj
          cases q : SPARE[j]? with
          | none => rw [q] at hxj; cases hxj
          | some y => rw [q] at hxj; cases hxj; exact ⟨y, rfl, rfl⟩
        refine ⟨rfl, _, rfl, _, rfl, p, _, rfl, .inl (SqL.of (by rw [upd_ne Cp.symm]; exact hp6)), rfl, flat_strs zs, _, rfl, ?_⟩
        have e := spare_succ zs hy
        show (if (!inV (.str y) (zs.map V.str)) = true then _ else _)
        rw [inV_mem]
        by_cases hm : y ∈ zs
        · refine ifNF hm ?_
          rw [if_pos hm, List.append_nil] at e
          rw [e]
        · rw [if_neg hm] at e
          refine ifNT hm ⟨_, rfl, _, upd_same, ?_, ?_⟩
          · rw [List.length_map]
            have h1 : (spareOf zs j).length ≤ 6 := Nat.le_trans (List.length_filter_le _ _) (Nat.le_trans (by rw [List.length_take]; exact Nat.min_le_right _ _) (by decide))
            omega
          · rw [upd_upd, e, List.map_append]
            rfl
      rintro H7 rfl
      have hp7 : upd H6 C (.lst ((spareOf zs 6).map V.str)) p = some (.lst (zs.map V.str)) := by rw [upd_ne Cp.symm]; exact hp6
      have s7 : Same H6 (upd H6 C (.lst ((spareOf zs 6).map V.str))) := same_new nC
      have fin : ∀ y, nameOk y = true → y.length ≤ 8 → y ∉ zs → ∀ w8, ∃ (zs' : List Str) (x3 x4 x5 x6 x7 x8 x9 : Option V), [some (.ref b), some (.int (m : Int)), some (.ref p), some (.int (0 + (i : Int))), some (.str z), some (.int way), v6, v7, w8, v9] = [some (.ref b), some (.int (m : Int)), some (.ref p), x3, x4, x5, x6, x7, x8, x9] ∧
          upd (upd H6 C (.lst ((spareOf zs 6).map V.str))) p (.lst (zs.map V.str ++ [.str y])) p = some (.lst (zs'.map V.str)) ∧ zs'.length = i + 1 ∧ Names zs' ∧ But b H (upd (upd H6 C (.lst ((spareOf zs 6).map V.str))) p (.lst (zs.map V.str ++ [.str y]))) ∧ Bag (upd (upd H6 C (.lst ((spareOf zs 6).map V.str))) p (.lst (zs.map V.str ++ [.str y]))) b (n + 13 * (i + 1)) := fun y h1 h2 h3 w8 =>
        ⟨zs ++ [y], _, _, _, _, _, _, _, rfl, by rw [upd_same, List.map_append]; rfl, by rw [List.length_append, hl]; rfl, nm.app h1 h2 h3, (u06.trans (But.of s7)).mut np, ((b6.same s7).put pb).mono (by omega)⟩
      refine ⟨_, rfl, .inl ⟨rfl, _, SqL.of hp7⟩, _, rfl, _, rfl, p, _, rfl, .inl (SqL.of hp7), rfl, flat_strs zs, _, rfl, ?_⟩
      have sz : (zs.map V.str).length < sizeLine := by rw [List.length_map, hl]; omega
      rw [inV_mem]
      by_cases hm : z ∈ zs
      · obtain ⟨y, l, e, yn, yk, yl⟩ := spare_some (zs := zs) (by omega)
        refine ifT hm ⟨_, rfl, C, _, _, .str y, rfl, rfl, SqL.of upd_same, ?_, p, _, _, rfl, rfl, hp7, sz, fin y yk yl yn _⟩
        show atI ((spareOf zs 6).map V.str) 0 = _
        rw [e]
        exact atI_zero _ _
      · exact ifF hm ⟨_, rfl, p, _, _, rfl, rfl, hp7, sz, fin z zk zl hm _⟩
    · rintro σ' H' ⟨zs, v3, v4, v5, v6, v7, v8, v9, rfl, hp, hl, nm, u, bb⟩
      exact ⟨_, rfl, ret p zs H' np u (by simpa using bb) hp pb (by simpa using hl) nm⟩
end L

namespace Hv
open PySem L2
theorem signs_app : SIGNS.cps.toList = LETS.cps.toList ++ DIGS.cps.toList := by decide +kernel
theorem signs_in (c : Nat) : decide (c ∈ SIGNS.cps.toList) = signOk c := by
  rw [signs_app]
  unfold signOk
  by_cases h1 : c ∈ LETS.cps.toList <;> by_cases h2 : c ∈ DIGS.cps.toList <;> simp [h1, h2]
theorem signs_cut : cutS SIGNS none (some 26) = LETS := by decide +kernel
def sp_is_tag (K : PySem.W.Frag) : Sp := fun vs H Q _ => ∃ (b : Addr) (v : V) (d : PyData), vs = [v] ∧ Dq K b H v d ∧ shortD d = true ∧ ∀ H', Same H H' → Q (.bl (nameD d)) H'
theorem is_tag_d {K : PySem.W.Frag} {b : Addr} {H : Hp} {v : V} {d : PyData} {Q : VK} {E : XK} (h : Dq K b H v d) (sh : shortD d = true) (q : ∀ H', Same H H' → Q (.bl (nameD d)) H') : lk (sp_is_tag K) [v] H Q E := lk_in ⟨b, v, d, rfl, h, sh, q⟩
end Hv
namespace L
open PySem L2 Hv
variable {P : Program} {w : World} {K : PySem.W.Frag} {mg : Str → Option Value} {base : Heap}
abbrev s_is_tag : Stmt := top 67
abbrev N_is_tag : List Str := ["_law_term", "_law_signs", "_law_sign"]
abbrev P_is_tag : List Str := ["_law_term"]
theorem sc_is_tag : FnScope N_is_tag P_is_tag (defScope s_is_tag) := ⟨rfl, rfl, rfl, by decide +kernel, rfl, by decide +kernel, by decide +kernel⟩
theorem ok_is_tag {f : Addr} {fd : FuncData} (D : DefAt K mg "_law_is_tag" s_is_tag P_is_tag f fd) (T : Txt K mg) : FnOk P w K mg base CX0 1 f fd P_is_tag (sp_is_tag K) := by
  refine D.fn.ok sc_is_tag (fun vs H Q E h => ?_) (fun cdv A outer s H vs Q E hr h => ?_)
  · obtain ⟨b, v, d, rfl, _⟩ := h
    rfl
  · obtain ⟨b, v, d, rfl, hd, sh, ret⟩ := h
    refine ⟨_, (pss_cons (ps_asg pe_str (pg_name (i := 1) sc_is_tag.nd rfl (.inr rfl)))
      (pss_cons (ps_if (PW.pt (pw_or (pt_not (pt_val (pe_callB call_isi (by rfl) T.isinstance (by decide +kernel) (pa_cons (pv 0) (pa_cons (pe_bltn (v := .ty "str") (u := .type "str") (by rfl) T.str (by decide +kernel) rfl) pa_nil))))) (pw_or (pt_not (pt_chain op_lt op_lt pe_int (pe_callB call_len_str (by rfl) T.len (by decide +kernel) (pa_cons (pv 0) pa_nil)) pe_int)) (pw_or1 (pt_cmpR op_notIn_sign (pe_ix ix_str (pv 0) pe_int (fun _ _ => rfl)) (pe_slice sl_str (pv 1) po_none (po_some pe_int)) (by rfl))))))
      (pss_one (ps_ret pe_bl))
      pss_nil)
      (pss_one (ps_ret (pe_callB (cr_all rfl) (by rfl) T.all (by decide +kernel) (pa_cons (pe_lc (own := [("_law_sign", 2)]) (g := gName 2) rfl sc_is_tag.nd (pi_str (pv 0)) (blkOk_by (own := [("_law_sign", 2)]) (N := N_is_tag) (sc := defScope s_is_tag) (by decide +kernel)) (fun _ _ _ _ _ => (pg_name (i := 2) sc_is_tag.nd rfl (.inl rfl))) (fun _ _ _ _ _ => pts_nil) (fun _ _ _ _ _ => (pe_cmpR op_in_sign (pv 2) (pv 1) (by rfl)))) pa_nil)))))), ?_⟩
    have k1 := kit_str (K := K) d
    refine ⟨_, rfl, _, _, _, _, _, rfl, .ty _, hd.ty, k1, _, rfl, ?_⟩
    cases hs : isStrD d with
    | false =>
      have e : nameD d = false := by cases d <;> first | rfl | cases hs
      rw [e] at ret
      exact iteT (ret _ (Same.refl H))
    | true =>
      refine iteF ?_
      cases hd with
      | str z =>
        have hz := line_of_short sh
        have no : nameOk z = false → ∀ H', Same H H' → Q (.bl false) H' := fun e H' sm => by
          have q : Q (.bl (nameOk z)) H' := ret H' sm
          rw [e] at q
          exact q
        refine ⟨_, rfl, _, rfl, hz, _, _, rfl, rfl, _, rfl, ?_⟩
        refine ite2 (fun h1 => ?_) (fun h1 => ?_)
        · have h1' : (0 : Int) < z.length := of_decide_eq_true h1
          refine ⟨_, _, rfl, rfl, _, rfl, ?_⟩
          have l := str_len z
          obtain ⟨c, cs, hc⟩ : ∃ c cs, z.cps.toList = c :: cs := by
            cases e : z.cps.toList with
            | nil => rw [e] at l; simp at l; omega
            | cons c cs => exact ⟨c, cs, rfl⟩
          have un : nameOk z = (decide (z.length ≤ 8) && decide (c ∈ LETS.cps.toList) && z.cps.toList.all signOk) := by
            unfold nameOk
            rw [hc]
          refine ite2 (fun h2 => ?_) (fun h2 => ?_)
          · refine no ?_ H (Same.refl H)
            have : ¬ ((z.length : Int) < 9) := nT h2
            rw [un, decide_eq_false (by omega)]
            rfl
          · have h8 : (z.length : Int) < 9 := nF h2
            refine ⟨_, rfl, _, _, c, rfl, rfl, hz, by rw [hc]; exact atI_zero c cs, _, rfl, _, rfl, _, rfl, by decide, ?_⟩
            rw [signs_cut]
            refine ⟨c, _, rfl, rfl, _, rfl, ?_⟩
            refine ite2 (fun h3 => ?_) (fun h3 => ?_)
            · refine no ?_ H (Same.refl H)
              rw [un, decide_eq_false (nT h3), Bool.and_false, Bool.false_and]
            · have h3' : c ∈ LETS.cps.toList := nF h3
              refine ⟨_, rfl, _, rfl, fun L hL => ?_⟩
              refine lc_it walk_str (fun i H' => H' = upd H L (.lst ((z.cps.toList.take i).map fun c => V.bl (signOk c)))) ?_ (fun _ _ _ _ => trivial) ?_ ?_
              · rfl
              · rintro i x H1 H2 hi rfl ⟨rfl, c, hc, rfl⟩
                have step : ∀ b, b = signOk c → ∃ xs, upd H L (.lst ((z.cps.toList.take i).map fun c => V.bl (signOk c))) L = some (.lst xs) ∧ xs.length < sizeLine ∧
                    upd (upd H L (.lst ((z.cps.toList.take i).map fun c => V.bl (signOk c)))) L (.lst (xs ++ [V.bl b])) = upd H L (.lst ((z.cps.toList.take (i + 1)).map fun c => V.bl (signOk c))) := by
                  rintro b rfl
                  refine ⟨_, upd_same, ?_, ?_⟩
                  · rw [List.length_map, List.length_take]
                    have s2 : 8 < sizeLine := by decide
                    omega
                  · rw [upd_upd, List.take_succ]
                    have e : z.cps.toList[i]? = some c := by simpa using hc
                    rw [e, List.map_append]
                    rfl
                exact ⟨rfl, _, rfl, _, rfl, c, _, rfl, rfl, step _ (signs_in c)⟩
              · rintro H1 rfl
                have e : List.take z.cps.size z.cps.toList = z.cps.toList := List.take_of_length_le (by simp)
                rw [e]
                refine ⟨_, z.cps.toList.map signOk, rfl, SqL.of (by rw [upd_same, List.map_map]; rfl), ?_⟩
                have q : Q (.bl (nameOk z)) _ := ret _ (same_new (o := .lst (z.cps.toList.map fun c => V.bl (signOk c))) hL)
                rw [un, decide_eq_true (show z.length ≤ 8 by omega), decide_eq_true h3', Bool.true_and, Bool.true_and] at q
                rw [List.all_map]
                exact q
        · refine ⟨_, rfl, iteT (no ?_ H (Same.refl H))⟩
          have : ¬ ((0 : Int) < z.length) := dF h1
          have l := str_len z
          unfold nameOk
          cases e : z.cps.toList with
          | nil => rfl
          | cons c cs => rw [e] at l; simp at l; omega
      | _ => cases hs
end L

namespace Hv
open PySem L2
theorem cutS_ok {z : Str} (h : PyData.strOk z = true) (lo hi : Option Int) : PyData.strOk (cutS z lo hi) = true := by
  rw [strOk_iff] at *
  intro c hc
  have : c ∈ (z.cps.toList.drop (HT.sIx z.length 0 lo)).take (HT.sIx z.length z.length hi - HT.sIx z.length 0 lo) := by
    unfold cutS at hc
    simpa using hc
  exact h c (List.mem_of_mem_drop (List.mem_of_mem_take this))
theorem atI_some {α : Type} {xs : List α} {r : Int} (h0 : 0 ≤ r) (h : r.toNat < xs.length) : atI xs r = some xs[r.toNat] := by
  unfold atI ixN
  rw [if_pos h0, if_pos (by omega)]
  simp [h]
theorem one_ok {c : Nat} (h : c < 0x110000) : PyData.strOk ⟨#[c]⟩ = true := by
  rw [strOk_iff]
  intro d hd
  simp at hd
  omega
abbrev SPOIL : Str := Str.ofString "abcdefghijklmnopqrstuvwxyz0123456789 _-/ABCZ.,:"
theorem spoil_len : SPOIL.cps.toList.length = 47 := by decide +kernel
theorem spoil_ok : ∀ c ∈ SPOIL.cps.toList, c < 0x110000 := by decide +kernel
theorem cut_two (z : Str) {k : Nat} (hk : k ≤ z.length) : (cutS z none (some (k : Int))).length = k ∧ (cutS z (some (k : Int)) none).length = z.length - k ∧ (cutS z (some ((k : Int) + 1)) none).length = z.length - (k + 1) := by
  refine ⟨?_, ?_, ?_⟩
  · rw [len_tl, cut_to, List.length_take, ← len_tl]
    omega
  · rw [len_tl, cut_from, List.length_drop, ← len_tl]
  · rw [len_tl, show ((k : Int) + 1) = ((k + 1 : Nat) : Int) from rfl, cut_from, List.length_drop, ← len_tl]
def sp_bent : Sp := fun vs H Q _ => ∃ (b : Addr) (z : Str) (n : Nat), vs = [.ref b, .str z] ∧ Bag H b n ∧ n < 800000 ∧ z.length ≤ 100 ∧ PyData.strOk z = true ∧ ∀ (r : Str) (H' : Hp), But b H H' → Bag H' b (n + 3) → r.length ≤ z.length + 1 → PyData.strOk r = true → Q (.str r) H'
end Hv
namespace L
open PySem L2 Hv
variable {P : Program} {w : World} {K : PySem.W.Frag} {mg : Str → Option Value} {base : Heap}
abbrev s_bent : Stmt := top 66
abbrev N_bent : List Str := ["_law_bag_here", "_law_line", "_law_signs", "_law_at", "_law_way", "_law_sign"]
abbrev P_bent : List Str := ["_law_bag_here", "_law_line"]
theorem sc_bent : FnScope N_bent P_bent (defScope s_bent) := ⟨rfl, rfl, rfl, by decide +kernel, rfl, by decide +kernel, by decide +kernel⟩
theorem ok_bent {f f1 : Addr} {fd fd1 : FuncData} (D : DefAt K mg "_law_bent" s_bent P_bent f fd) (T : Txt K mg) (D_take : DefAt K mg "_law_take" s_take P_take f1 fd1) : FnOk P w K mg base CX0 2 f fd P_bent sp_bent := by
  have G_take : FnOk P w K mg base CX0 1 f1 fd1 P_take sp_take := ok_take D_take T
  refine D.fn.ok sc_bent (fun vs H Q E h => ?_) (fun cdv A outer s H vs Q E hr h => ?_)
  · obtain ⟨b, z, n, rfl, _⟩ := h
    rfl
  · obtain ⟨b, z, n, rfl, hb, hn, hz, zk, ret⟩ := h
    have big : 1000 ≤ sizeLine := by decide
    have zs : z.length ≤ sizeLine := by omega
    refine ⟨_, (pss_cons (ps_asg pe_str (pg_name (i := 2) sc_bent.nd rfl (.inl rfl)))
      (pss_cons (ps_par (i := 3) (j := 4) (by rfl) sc_bent.nd rfl rfl (by decide) rfl rfl (pa_cons (pe_call G_take (hr.mono (by decide)) rfl D_take.mg D_take.fn.kp D_take.bd .nil pass0 (pa_cons (pv 0) (pa_cons (pe_op op_add (pe_callB call_len_str (by rfl) T.len (by decide +kernel) (pa_cons (pv 1) pa_nil)) pe_int) pa_nil))) (pa_cons (pe_call G_take (hr.mono (by decide)) rfl D_take.mg D_take.fn.kp D_take.bd .nil pass0 (pa_cons (pv 0) (pa_cons pe_int pa_nil))) pa_nil)) (by rfl))
      (pss_cons (ps_asg (pe_ix ix_str (pv 2) (pe_call G_take (hr.mono (by decide)) rfl D_take.mg D_take.fn.kp D_take.bd .nil pass0 (pa_cons (pv 0) (pa_cons pe_int pa_nil))) (fun _ _ => rfl)) (pg_name (i := 5) sc_bent.nd rfl (.inl rfl)))
      (pss_cons (ps_if (pt_cmpR op_eq (pv 4) pe_int (nomark _))
      (pss_one (ps_ret (pe_op op_add_str (pe_op op_add_str (pe_slice sl_str (pv 1) po_none (po_some (pv 3))) (pv 5)) (pe_slice sl_str (pv 1) (po_some (pv 3)) po_none))))
      pss_nil)
      (pss_one (ps_ret (pe_ifExp (pt_cmpR op_eq (pv 4) pe_int (nomark _)) (pe_op op_add_str (pe_op op_add_str (pe_slice sl_str (pv 1) po_none (po_some (pv 3))) (pv 5)) (pe_slice sl_str (pv 1) (po_some (pe_op op_add (pv 3) pe_int)) po_none)) (pe_op op_add_str (pe_slice sl_str (pv 1) po_none (po_some (pv 3))) (pe_slice sl_str (pv 1) (po_some (pe_op op_add (pv 3) pe_int)) po_none))))))))), ?_⟩
    refine ⟨_, rfl, _, rfl, _, rfl, zs, _, _, rfl, rfl, b, _, n, rfl, hb, by omega, by omega, m_small (by omega) (by omega), fun r H1 u1 b1 r0 r1 => ?_⟩
    refine ⟨_, rfl, b, 3, n + 1, rfl, b1, by omega, by decide, m_small (by decide) (by decide), fun way H2 u2 b2 w0 w1 => ⟨_, _, rfl, ?_⟩⟩
    refine ⟨_, rfl, _, rfl, b, 47, n + 2, rfl, b2, by omega, by decide, m_small (by decide) (by decide), fun q H3 u3 b3 q0 q1 => ?_⟩
    have ql : q.toNat < SPOIL.cps.toList.length := by rw [spoil_len]; omega
    have hc := spoil_ok _ (List.getElem_mem ql)
    refine ⟨_, _, _, rfl, rfl, by decide, atI_some q0 ql, ?_⟩
    generalize SPOIL.cps.toList[q.toNat] = c at hc
    have ck := one_ok hc
    have c1 : (⟨#[c]⟩ : Str).length = 1 := rfl
    have u := (u1.trans u2).trans u3
    obtain ⟨k, rfl⟩ := Int.eq_ofNat_of_zero_le r0
    obtain ⟨l1, l2, l3⟩ := cut_two z (show k ≤ z.length by omega)
    have al : ∀ a b : Str, (a ++ b).length = a.length + b.length := fun a b => Str.length_append a b
    refine ⟨_, rfl, rfl, _, rfl, ?_⟩
    refine ite2 (fun h1 => ?_) (fun h1 => ?_)
    · refine ⟨_, rfl, _, rfl, _, rfl, z, rfl, zs, _, rfl, _, _, rfl, rfl, ?_, _, rfl, _, rfl, _, rfl, z, rfl, zs, _, _, rfl, rfl, ?_, ret _ H3 u b3 ?_ (strOk_app (strOk_app (cutS_ok zk _ _) ck) (cutS_ok zk _ _))⟩
      · omega
      · rw [al]; omega
      · rw [al, al]; omega
    · refine ⟨_, rfl, rfl, _, rfl, ?_⟩
      refine ite2 (fun h2 => ?_) (fun h2 => ?_)
      · refine ⟨_, rfl, _, rfl, _, rfl, z, rfl, zs, _, rfl, _, _, rfl, rfl, ?_, _, rfl, _, rfl, _, _, rfl, rfl, _, rfl, z, rfl, zs, _, _, rfl, rfl, ?_, ret _ H3 u b3 ?_ (strOk_app (strOk_app (cutS_ok zk _ _) ck) (cutS_ok zk _ _))⟩
        · omega
        · rw [al]; omega
        · rw [al, al]; omega
      · refine ⟨_, rfl, _, rfl, _, rfl, z, rfl, zs, _, rfl, _, rfl, _, _, rfl, rfl, _, rfl, z, rfl, zs, _, _, rfl, rfl, ?_, ret _ H3 u b3 ?_ (strOk_app (cutS_ok zk _ _) (cutS_ok zk _ _))⟩
        · omega
        · rw [al]; omega
end L

namespace Hv
open PySem L2
theorem dp_strs {K : PySem.W.Frag} {H : Hp} : ∀ l : List Str, DpAll K H (l.map V.str) (l.map PyData.str)
  | [] => .nil
  | z :: l => .cons (.str z) (dp_strs l)
theorem fit_strs : ∀ {l : List Str}, (∀ z ∈ l, Fit (.str z) 1 sizeLine) → ∃ n, FitAll (l.map PyData.str) 1 n
  | [], _ => ⟨0, .nil⟩
  | z :: l, h => by
    obtain ⟨n, f⟩ := fit_strs (l := l) fun x hx => h x (by simp [hx])
    exact ⟨_, .cons (h z (by simp)) f⟩
theorem shaped_strs {l : List Str} (h : ∀ z ∈ l, Fit (.str z) 1 sizeLine) : SeqAt.shaped (.list (l.map PyData.str)) = true := by
  obtain ⟨n, f⟩ := fit_strs h
  exact (Fit.list f).shaped (by decide)
theorem refl_strs {l : List Str} (h : ∀ z ∈ l, Fit (.str z) 1 sizeLine) : PyData.eqv (.list (l.map PyData.str)) (.list (l.map PyData.str)) = true := by
  obtain ⟨n, f⟩ := fit_strs h
  exact (Fit.list f).eqv
theorem eqv_nil (l : List Str) : PyData.eqv (.list (l.map PyData.str)) (.list []) = decide (l = []) := by
  cases l with
  | nil => decide +kernel
  | cons z l => simp [PyData.eqv, PyData.eqvAll]
/-- what the catcher tells, if due is due and d is what is told otherwise -/
def toldL (due : List Str) (d : PyData) : List Str := if due = [] then [Str.ofString "told", d.shown] else due
theorem told_fit {due : List Str} {d : PyData} {m n : Nat} (h : ∀ z ∈ due, Fit (.str z) 1 sizeLine) (f : FitQ d m n) (hn : n ≤ 5000) : ∀ z ∈ toldL due d, Fit (.str z) 1 sizeLine := by
  intro z hz
  unfold toldL at hz
  split at hz
  · simp only [List.mem_cons, List.not_mem_nil, or_false] at hz
    rcases hz with rfl | rfl
    · exact .str (strOk_of _) (by decide +kernel)
    · exact f.str hn
  · exact h z hz
section
variable {K : PySem.W.Frag} {b : Addr} {σ : L2.St} {H : Hp} {L U : Addr} {i j : Nat} {te : TE} {v : V} {d : PyData} {m n : Nat} {due : List Str} {Q : VK}
/-- due == [] -/
theorem due_nil {te' : TE} {U' : Addr} (hU : H U' = some (.lst (due.map V.str))) (hf : ∀ z ∈ due, Fit (.str z) 1 sizeLine) (ht : ∀ Q : VK, Q (.ref U') H → te' σ H Q) (q : ∀ H2, Same H H2 → Q (.bl (decide (due = []))) H2) : tOp (rEqD K) te' (tLst tNil) σ H Q := by
  refine ht _ ⟨by decide, fun e ne => ⟨.list (due.map PyData.str), .list [], .lst (SqL.of (same_new ne _ _ hU)) (dp_strs _), .lst (SqL.of upd_same) .nil, shaped_strs hf, by decide +kernel, ?_⟩⟩
  rw [eqv_nil]
  exact q _ (same_new ne)
theorem due_some {te' : TE} {U' : Addr} (hU : H U' = some (.lst (due.map V.str))) (hf : ∀ z ∈ due, Fit (.str z) 1 sizeLine) (ht : ∀ Q : VK, Q (.ref U') H → te' σ H Q) (q : ∀ H2, Same H H2 → Q (.bl (!decide (due = []))) H2) : tOp (rNeD K) te' (tLst tNil) σ H Q := by
  refine ht _ ⟨by decide, fun e ne => ⟨.list (due.map PyData.str), .list [], .lst (SqL.of (same_new ne _ _ hU)) (dp_strs _), .lst (SqL.of upd_same) .nil, shaped_strs hf, by decide +kernel, ?_⟩⟩
  rw [eqv_nil]
  exact q _ (same_new ne)
theorem due_someN {te' : TE} (hf : ∀ z ∈ due, Fit (.str z) 1 sizeLine) (ht : ∀ Q : VK, (∀ U' H1, Same H H1 → H1 U' = some (.lst (due.map V.str)) → Q (.ref U') H1) → te' σ H Q) (q : ∀ H2, Same H H2 → Q (.bl (!decide (due = []))) H2) : tOp (rNeD K) te' (tLst tNil) σ H Q := by
  refine ht _ fun U' H1 s1 hU => ⟨by decide, fun e ne => ⟨.list (due.map PyData.str), .list [], .lst (SqL.of (same_new ne _ _ hU)) (dp_strs _), .lst (SqL.of upd_same) .nil, shaped_strs hf, by decide +kernel, ?_⟩⟩
  rw [eqv_nil]
  exact q _ (s1.trans (same_new ne))
/-- ['told', repr(..)] if due == [] else due -/
theorem told_due (hj : σ[j]? = some (some (.ref U))) (hU : H U = some (.lst (due.map V.str))) (hf : ∀ z ∈ due, Fit (.str z) 1 sizeLine) (ht : ∀ H1 (Q : VK), Same H H1 → Q v H1 → te σ H1 Q) (hv : Dq K b H v d) (fv : FitQ d m n) (hm : m ≤ 60) (hn : n ≤ 5000)
    (q : ∀ p H2, Same H H2 → H2 p = some (.lst ((toldL due d).map V.str)) → Q (.ref p) H2) :
    tIf (tTest (tOp (rEqD K) (tVar j) (tLst tNil))) (tLst (tCons (tC (.str (Str.ofString "told"))) (tCons (tCB (rReprQ K) (tCons te tNil)) tNil))) (tVar j) σ H Q := by
  refine due_nil (U' := U) hU hf (fun Q q => ⟨_, hj, q⟩) fun H2 s2 => ⟨_, rfl, ?_⟩
  by_cases h : due = []
  · refine ifT h (ht H2 _ s2 (rd_reprQ (hv.same s2) fv hm hn ⟨by show 2 ≤ sizeLine; decide, fun p np => q p _ (s2.trans (same_new np)) ?_⟩))
    rw [upd_same]
    unfold toldL
    rw [if_pos h]
    rfl
  · refine ifF h ⟨_, hj, q U H2 s2 ?_⟩
    rw [s2 _ _ hU]
    unfold toldL
    rw [if_neg h]
/-- told != (that) -/
theorem told_ne (hi : σ[i]? = some (some (.ref L))) (hL : H L = some (.lst ((toldL due d).map V.str))) (hj : σ[j]? = some (some (.ref U))) (hU : H U = some (.lst (due.map V.str))) (hf : ∀ z ∈ due, Fit (.str z) 1 sizeLine) (ht : ∀ H1 (Q : VK), Same H H1 → Q v H1 → te σ H1 Q) (hv : Dq K b H v d)
    (fv : FitQ d m n) (hm : m ≤ 60) (hn : n ≤ 5000) (q : ∀ H2, Same H H2 → Q (.bl false) H2) :
    tOp (rNeD K) (tVar i) (tIf (tTest (tOp (rEqD K) (tVar j) (tLst tNil))) (tLst (tCons (tC (.str (Str.ofString "told"))) (tCons (tCB (rReprQ K) (tCons te tNil)) tNil))) (tVar j)) σ H Q := by
  have ft := told_fit hf fv hn
  refine ⟨_, hi, told_due hj hU hf ht hv fv hm hn fun p H2 s2 h2 => ⟨.list ((toldL due d).map PyData.str), .list ((toldL due d).map PyData.str), .lst (SqL.of (s2 _ _ hL)) (dp_strs _), .lst (SqL.of h2) (dp_strs _), shaped_strs ft, shaped_strs ft, ?_⟩⟩
  rw [refl_strs ft]
  exact q H2 s2
/-- told == (that) -/
theorem told_eq (hi : σ[i]? = some (some (.ref L))) (hL : H L = some (.lst ((toldL due d).map V.str))) (hj : σ[j]? = some (some (.ref U))) (hU : H U = some (.lst (due.map V.str))) (hf : ∀ z ∈ due, Fit (.str z) 1 sizeLine) (ht : ∀ H1 (Q : VK), Same H H1 → Q v H1 → te σ H1 Q) (hv : Dq K b H v d)
    (fv : FitQ d m n) (hm : m ≤ 60) (hn : n ≤ 5000) (q : ∀ H2, Same H H2 → Q (.bl true) H2) :
    tOp (rEqD K) (tVar i) (tIf (tTest (tOp (rEqD K) (tVar j) (tLst tNil))) (tLst (tCons (tC (.str (Str.ofString "told"))) (tCons (tCB (rReprQ K) (tCons te tNil)) tNil))) (tVar j)) σ H Q := by
  have ft := told_fit hf fv hn
  refine ⟨_, hi, told_due hj hU hf ht hv fv hm hn fun p H2 s2 h2 => ⟨.list ((toldL due d).map PyData.str), .list ((toldL due d).map PyData.str), .lst (SqL.of (s2 _ _ hL)) (dp_strs _), .lst (SqL.of h2) (dp_strs _), shaped_strs ft, shaped_strs ft, ?_⟩⟩
  rw [refl_strs ft]
  exact q H2 s2
end
/-- an error that is told: [its name, what it holds] -/
theorem ech_tell {K : PySem.W.Frag} {c : Nat → Addr} {H : Hp} {j : Nat} {b : Addr} {v : V} {d : PyData} {m n : Nat} {Q : VK} (hj : oneF j = true) (EX : ErrIx K c j) (hv : Dq K b H v d) (fv : FitQ d m n) (hm : m ≤ 60) (hn : n ≤ 5000)
    (q : ∀ p H2, H p = none → Same H H2 → H2 p = some (.lst [.str (term j), .str d.shown]) → Q (.ref p) H2) : GivenE c j (echQ K c Q) H v := fun dd H' hd s hx =>
  ⟨j, b, v, d, m, n, rfl, hj, EX, .inr ⟨dd, rfl, hx⟩, hv.same s, fv, hm, hn, fun p H2 hp s2 h => q p H2 (s.free hp) (s.trans s2) h⟩
end Hv

namespace Hv
open PySem L2
def ODD1 : List PyData := [.none, .bool true, .bool false, .int 0, .int 1, .int 3, .int 4, .int 9, .int 10, .int (-1), .str (Str.ofString ""), .str (Str.ofString "1"), .str (Str.ofString "a"), .str (Str.ofString "1/2"), .tuple [], .tuple [.int 1], .list [.int 1], .dict [], .tuple [.int 2, .str (Str.ofString "1/2")], .list [.int 2, .str (Str.ofString "1/2")]]
def WP1 (z : Str) : List PyData := [.tuple [.int 4, .str z], .tuple [.int (-1), .str z], .tuple [.bool true, .str z], .tuple [.str z, .int 1], .tuple [.int 1, .str z, .int 0], .tuple [.int 1], .tuple [.none, .str z], .tuple [.int 2, .none], .tuple [.int 0, .tuple [.str z]]]
def WP2 (z : Str) : List PyData := [.tuple [.int 1, .str (Str.ofString "2/4")], .list [.int 1, .str z], .tuple [.str (Str.ofString "1"), .str z], .tuple [.int 0, .str z], .tuple [.int 3, .str z], .tuple [.tuple [.int 1, .str z]]]
def goodD (d : PyData) : Bool := fitB d 2 60 && (shortD d && shortDD d)
theorem odd_good : (ODD1.all goodD) = true := by decide +kernel
structure GoodD (d : PyData) : Prop where
  fit : FitQ d 2 60
  sh : shortD d = true
  sd : shortDD d = true
theorem good_of {d : PyData} (this : goodD d = true) : GoodD d := by
  unfold goodD at this
  simp only [Bool.and_eq_true] at this
  exact ⟨fitB_ok this.1, this.2.1, this.2.2⟩
theorem good_odd {d : PyData} (h : d ∈ ODD1) : GoodD d := good_of (List.all_eq_true.mp odd_good d h)
theorem good_str {z : Str} (h : PyData.strOk z = true) (l : z.length ≤ 50) : GoodD (.str z) := ⟨(Fit.str h (by omega)).q, decide_eq_true (by omega), decide_eq_true (by omega)⟩
theorem good_int {i : Int} (h0 : -1000000 ≤ i) (h1 : i ≤ 1000000) : GoodD (.int i) := ⟨(Fit.int (small_log h0 h1)).q, rfl, rfl⟩
theorem good_none : GoodD .none := ⟨Fit.none.q, rfl, rfl⟩
theorem good_pair {i : Int} {z : Str} (h0 : -1000000 ≤ i) (h1 : i ≤ 1000000) (h : PyData.strOk z = true) (l : z.length ≤ 50) : GoodD (.tuple [.int i, .str z]) := by
  refine ⟨((Fit.tuple (.cons (Fit.int (m := 1) (n := 0) (small_log h0 h1)) (.cons (Fit.str h l) (.nil (n := 0))))).mono (by decide) (by decide)).q, rfl, ?_⟩
  show ([PyData.int i, .str z].all shortD) = true
  simp [shortD]
  omega
theorem bl_at {j : Int} (h0 : 0 ≤ j) (h1 : j < 93) : ∃ z, atI (BL.map V.str) j = some (.str z) ∧ z ∈ BL := by
  have hl : j.toNat < BL.length := by rw [BL_len]; omega
  refine ⟨BL[j.toNat], ?_, List.getElem_mem hl⟩
  have := atI_some (xs := BL.map V.str) h0 (by simpa using hl)
  simpa using this
theorem bl_len : ((BL.map V.str).length : Int) = 93 := by rw [List.length_map, BL_len]; rfl
theorem good_WP1 {z : Str} (h : PyData.strOk z = true) (l : z.length ≤ 20) : ∀ d ∈ WP1 z, GoodD d := by
  have l2 : z.length ≤ 1000 := by omega
  have e : shortD (.str z) = true := decide_eq_true l2
  intro d hd
  simp only [WP1, List.mem_cons, List.not_mem_nil, or_false] at hd
  rcases hd with rfl | rfl | rfl | rfl | rfl | rfl | rfl | rfl | rfl
  · exact ⟨(Fit.mono (Fit.tuple (.cons (Fit.int (n := 0) (small_log (i := 4) (by decide) (by decide))) (.cons (Fit.str (n := 20) h l) (FitAll.nil (m := 1) (n := 0))))) (by decide) (by decide) : Fit _ 2 60).q, rfl, by first | rfl | (show (List.all _ shortD) = true; simp only [List.all_cons, List.all_nil, e]; decide +kernel) | (simp [shortDD, shortD]; done) | (simp [shortDD, shortD]; omega)⟩
  · exact ⟨(Fit.mono (Fit.tuple (.cons (Fit.int (n := 0) (small_log (i := (-1)) (by decide) (by decide))) (.cons (Fit.str (n := 20) h l) (FitAll.nil (m := 1) (n := 0))))) (by decide) (by decide) : Fit _ 2 60).q, rfl, by first | rfl | (show (List.all _ shortD) = true; simp only [List.all_cons, List.all_nil, e]; decide +kernel) | (simp [shortDD, shortD]; done) | (simp [shortDD, shortD]; omega)⟩
  · exact ⟨(Fit.mono (Fit.tuple (.cons (Fit.bool (n := 0)) (.cons (Fit.str (n := 20) h l) (FitAll.nil (m := 1) (n := 0))))) (by decide) (by decide) : Fit _ 2 60).q, rfl, by first | rfl | (show (List.all _ shortD) = true; simp only [List.all_cons, List.all_nil, e]; decide +kernel) | (simp [shortDD, shortD]; done) | (simp [shortDD, shortD]; omega)⟩
  · exact ⟨(Fit.mono (Fit.tuple (.cons (Fit.str (n := 20) h l) (.cons (Fit.int (n := 0) (small_log (i := 1) (by decide) (by decide))) (FitAll.nil (m := 1) (n := 0))))) (by decide) (by decide) : Fit _ 2 60).q, rfl, by first | rfl | (show (List.all _ shortD) = true; simp only [List.all_cons, List.all_nil, e]; decide +kernel) | (simp [shortDD, shortD]; done) | (simp [shortDD, shortD]; omega)⟩
  · exact ⟨(Fit.mono (Fit.tuple (.cons (Fit.int (n := 0) (small_log (i := 1) (by decide) (by decide))) (.cons (Fit.str (n := 20) h l) (.cons (Fit.int (n := 0) (small_log (i := 0) (by decide) (by decide))) (FitAll.nil (m := 1) (n := 0)))))) (by decide) (by decide) : Fit _ 2 60).q, rfl, by first | rfl | (show (List.all _ shortD) = true; simp only [List.all_cons, List.all_nil, e]; decide +kernel) | (simp [shortDD, shortD]; done) | (simp [shortDD, shortD]; omega)⟩
  · exact ⟨(Fit.mono (Fit.tuple (.cons (Fit.int (n := 0) (small_log (i := 1) (by decide) (by decide))) (FitAll.nil (m := 1) (n := 0)))) (by decide) (by decide) : Fit _ 2 60).q, rfl, by first | rfl | (show (List.all _ shortD) = true; simp only [List.all_cons, List.all_nil, e]; decide +kernel) | (simp [shortDD, shortD]; done) | (simp [shortDD, shortD]; omega)⟩
  · exact ⟨(Fit.mono (Fit.tuple (.cons (Fit.none (n := 0)) (.cons (Fit.str (n := 20) h l) (FitAll.nil (m := 1) (n := 0))))) (by decide) (by decide) : Fit _ 2 60).q, rfl, by first | rfl | (show (List.all _ shortD) = true; simp only [List.all_cons, List.all_nil, e]; decide +kernel) | (simp [shortDD, shortD]; done) | (simp [shortDD, shortD]; omega)⟩
  · exact ⟨(Fit.mono (Fit.tuple (.cons (Fit.int (n := 0) (small_log (i := 2) (by decide) (by decide))) (.cons (Fit.none (n := 0)) (FitAll.nil (m := 1) (n := 0))))) (by decide) (by decide) : Fit _ 2 60).q, rfl, by first | rfl | (show (List.all _ shortD) = true; simp only [List.all_cons, List.all_nil, e]; decide +kernel) | (simp [shortDD, shortD]; done) | (simp [shortDD, shortD]; omega)⟩
  · exact ⟨(Fit.mono (Fit.tuple (.cons (Fit.int (n := 0) (small_log (i := 0) (by decide) (by decide))) (.cons (Fit.tuple (.cons (Fit.str (n := 20) h l) (FitAll.nil (m := 0) (n := 0)))) (FitAll.nil (m := 1) (n := 0))))) (by decide) (by decide) : Fit _ 2 60).q, rfl, by first | rfl | (show (List.all _ shortD) = true; simp only [List.all_cons, List.all_nil, e]; decide +kernel) | (simp [shortDD, shortD]; done) | (simp [shortDD, shortD]; omega)⟩
theorem good_WP2 {z : Str} (h : PyData.strOk z = true) (l : z.length ≤ 20) : ∀ d ∈ WP2 z, GoodD d := by
  have l2 : z.length ≤ 1000 := by omega
  have e : shortD (.str z) = true := decide_eq_true l2
  intro d hd
  simp only [WP2, List.mem_cons, List.not_mem_nil, or_false] at hd
  rcases hd with rfl | rfl | rfl | rfl | rfl | rfl
  · exact ⟨(Fit.mono (Fit.tuple (.cons (Fit.int (n := 0) (small_log (i := 1) (by decide) (by decide))) (.cons (Fit.str (n := 20) (by decide +kernel) (by decide +kernel)) (FitAll.nil (m := 1) (n := 0))))) (by decide) (by decide) : Fit _ 2 60).q, rfl, by first | rfl | (show (List.all _ shortD) = true; simp only [List.all_cons, List.all_nil, e]; decide +kernel) | (simp [shortDD, shortD]; done) | (simp [shortDD, shortD]; omega)⟩
  · exact ⟨(Fit.mono (Fit.list (.cons (Fit.int (n := 0) (small_log (i := 1) (by decide) (by decide))) (.cons (Fit.str (n := 20) h l) (FitAll.nil (m := 1) (n := 0))))) (by decide) (by decide) : Fit _ 2 60).q, rfl, by first | rfl | (show (List.all _ shortD) = true; simp only [List.all_cons, List.all_nil, e]; decide +kernel) | (simp [shortDD, shortD]; done) | (simp [shortDD, shortD]; omega)⟩
  · exact ⟨(Fit.mono (Fit.tuple (.cons (Fit.str (n := 20) (by decide +kernel) (by decide +kernel)) (.cons (Fit.str (n := 20) h l) (FitAll.nil (m := 1) (n := 0))))) (by decide) (by decide) : Fit _ 2 60).q, rfl, by first | rfl | (show (List.all _ shortD) = true; simp only [List.all_cons, List.all_nil, e]; decide +kernel) | (simp [shortDD, shortD]; done) | (simp [shortDD, shortD]; omega)⟩
  · exact ⟨(Fit.mono (Fit.tuple (.cons (Fit.int (n := 0) (small_log (i := 0) (by decide) (by decide))) (.cons (Fit.str (n := 20) h l) (FitAll.nil (m := 1) (n := 0))))) (by decide) (by decide) : Fit _ 2 60).q, rfl, by first | rfl | (show (List.all _ shortD) = true; simp only [List.all_cons, List.all_nil, e]; decide +kernel) | (simp [shortDD, shortD]; done) | (simp [shortDD, shortD]; omega)⟩
  · exact ⟨(Fit.mono (Fit.tuple (.cons (Fit.int (n := 0) (small_log (i := 3) (by decide) (by decide))) (.cons (Fit.str (n := 20) h l) (FitAll.nil (m := 1) (n := 0))))) (by decide) (by decide) : Fit _ 2 60).q, rfl, by first | rfl | (show (List.all _ shortD) = true; simp only [List.all_cons, List.all_nil, e]; decide +kernel) | (simp [shortDD, shortD]; done) | (simp [shortDD, shortD]; omega)⟩
  · exact ⟨(Fit.mono (Fit.tuple (.cons (Fit.tuple (.cons (Fit.int (n := 0) (small_log (i := 1) (by decide) (by decide))) (.cons (Fit.str (n := 20) h l) (FitAll.nil (m := 0) (n := 0))))) (FitAll.nil (m := 1) (n := 0)))) (by decide) (by decide) : Fit _ 2 60).q, rfl, by first | rfl | (show (List.all _ shortD) = true; simp only [List.all_cons, List.all_nil, e]; decide +kernel) | (simp [shortDD, shortD]; done) | (simp [shortDD, shortD]; omega)⟩
theorem BL_str : BL.all (fun z => PyData.strOk z && decide (z.length ≤ 20)) = true := by decide +kernel
theorem bl_str {z : Str} (h : z ∈ BL) : PyData.strOk z = true ∧ z.length ≤ 20 ∧ (∀ d ∈ WP1 z, GoodD d) ∧ ∀ d ∈ WP2 z, GoodD d := by
  have := List.all_eq_true.mp BL_str z h
  simp only [Bool.and_eq_true, decide_eq_true_eq] at this
  exact ⟨this.1, this.2, good_WP1 this.1 this.2, good_WP2 this.1 this.2⟩
def sp_is_num (K : PySem.W.Frag) : Sp := fun vs H Q _ => ∃ (b : Addr) (v : V) (d : PyData) (lo hi : Int), vs = [v, .int lo, .int hi] ∧ Dq K b H v d ∧ Q (.bl (inD d lo hi)) H
theorem is_num_d {K : PySem.W.Frag} {b : Addr} {H : Hp} {v : V} {d : PyData} {lo hi : Int} {Q : VK} {E : XK} (h : Dq K b H v d) (q : Q (.bl (inD d lo hi)) H) : lk (sp_is_num K) [v, .int lo, .int hi] H Q E := lk_in ⟨b, v, d, lo, hi, rfl, h, q⟩
def sp_is_bnd (K : PySem.W.Frag) : Sp := fun vs H Q _ => ∃ (b bl : Addr) (v : V) (d : PyData), vs = [v, .ref bl] ∧ Dq K b H v d ∧ SqL K H bl (BL.map V.str) ∧ Q (.bl (boundD d)) H
theorem is_bnd_d {K : PySem.W.Frag} {b bl : Addr} {H : Hp} {v : V} {d : PyData} {Q : VK} {E : XK} (h : Dq K b H v d) (hS : SqL K H bl (BL.map V.str)) (q : Q (.bl (boundD d)) H) : lk (sp_is_bnd K) [v, .ref bl] H Q E := lk_in ⟨b, bl, v, d, rfl, h, hS, q⟩
def pairD : PyData → Bool
  | .tuple [d, e] => inD d 0 3 && boundD e
  | _ => false
def sp_is_pair (K : PySem.W.Frag) : Sp := fun vs H Q _ => ∃ (b bl : Addr) (v : V) (d : PyData), vs = [v, .ref bl] ∧ Dq K b H v d ∧ SqL K H bl (BL.map V.str) ∧ Q (.bl (pairD d)) H
theorem is_pair_d {K : PySem.W.Frag} {b bl : Addr} {H : Hp} {v : V} {d : PyData} {Q : VK} {E : XK} (h : Dq K b H v d) (hS : SqL K H bl (BL.map V.str)) (q : Q (.bl (pairD d)) H) : lk (sp_is_pair K) [v, .ref bl] H Q E := lk_in ⟨b, bl, v, d, rfl, h, hS, q⟩
def sp_wrong (K : PySem.W.Frag) : Sp := fun vs H Q _ => ∃ (b bl : Addr) (n : Nat), vs = [.ref b, .ref bl] ∧ Bag H b n ∧ n < 790000 ∧ SqL K H bl (BL.map V.str) ∧ bl ≠ b ∧
  ∀ (v : V) (d : PyData) (H' : Hp), But b H H' → Bag H' b (n + 5) → Dn K H H' v d → GoodD d → Q v H'
end Hv
namespace L
open PySem L2 Hv Evl
variable {P : Program} {w : World} {K : PySem.W.Frag} {mg : Str → Option Value} {base : Heap}
abbrev s_odd : Stmt := top 71
abbrev N_odd : List Str := ["_law_bag_here", "_law_some"]
abbrev P_odd : List Str := ["_law_bag_here"]
theorem sc_odd : FnScope N_odd P_odd (defScope s_odd) := ⟨rfl, rfl, rfl, by decide +kernel, rfl, by decide +kernel, by decide +kernel⟩
theorem ok_odd {f f1 : Addr} {fd fd1 : FuncData} (D : DefAt K mg "_law_odd" s_odd P_odd f fd) (T : Txt K mg) (D_take : DefAt K mg "_law_take" s_take P_take f1 fd1) : FnOk P w K mg base CX0 2 f fd P_odd (sp_odd K ODD1) := by
  have G_take : FnOk P w K mg base CX0 1 f1 fd1 P_take sp_take := ok_take D_take T
  refine D.fn.ok sc_odd (fun vs H Q E h => ?_) (fun cdv A outer s H vs Q E hr h => ?_)
  · obtain ⟨b, n, rfl, _⟩ := h
    rfl
  · obtain ⟨b, n, rfl, hb, hn, ret⟩ := h
    refine ⟨_, (pss_cons (ps_asg (pe_lst (pa_cons pe_non (pa_cons pe_bl (pa_cons pe_bl (pa_cons pe_int (pa_cons pe_int (pa_cons pe_int (pa_cons pe_int (pa_cons pe_int (pa_cons pe_int (pa_cons (pe_un un_neg pe_int) (pa_cons pe_str (pa_cons pe_str (pa_cons pe_str (pa_cons pe_str (pa_cons (pe_tup pa_nil) (pa_cons (pe_tup (pa_cons pe_int pa_nil)) (pa_cons (pe_lst (pa_cons pe_int pa_nil)) (pa_cons pe_dnewK (pa_cons (pe_tup (pa_cons pe_int (pa_cons pe_str pa_nil))) (pa_cons (pe_lst (pa_cons pe_int (pa_cons pe_str pa_nil))) pa_nil))))))))))))))))))))) (pg_name (i := 1) sc_odd.nd rfl (.inl rfl)))
      (pss_one (ps_ret (pe_ix ix_list (pv 1) (pe_call G_take (hr.mono (by decide)) rfl D_take.mg D_take.fn.kp D_take.bd .nil pass0 (pa_cons (pv 0) (pa_cons pe_int pa_nil))) (fun _ _ => rfl))))), ?_⟩
    refine q_asgQ (show EvQA K H _ _ _ ODD1 from (eqa_cons eq_non (eqa_cons eq_bl (eqa_cons eq_bl (eqa_cons eq_int (eqa_cons eq_int (eqa_cons eq_int (eqa_cons eq_int (eqa_cons eq_int (eqa_cons eq_int (eqa_cons (eq_ev (ev_un ev_c ru_neg)) (eqa_cons eq_str (eqa_cons eq_str (eqa_cons eq_str (eqa_cons eq_str (eqa_cons (eq_tup eqa_nil) (eqa_cons (eq_tup (eqa_cons eq_int eqa_nil)) (eqa_cons (eq_lst (eqa_cons eq_int eqa_nil)) (eqa_cons eq_emp (eqa_cons (eq_tup (eqa_cons eq_int (eqa_cons eq_str eqa_nil))) (eqa_cons (eq_lst (eqa_cons eq_int (eqa_cons eq_str eqa_nil))) eqa_nil))))))))))))))))))))) (Ex.refl H) (by decide) fun p1 vs1 H1 e1 h1 n1 l1 d1 => ?_
    exact s_oddat hb hn e1 rfl rfl h1 n1 d1 (fun Q q => q) rfl (by decide) (by decide) ret
abbrev s_is_number : Stmt := top 68
abbrev N_is_number : List Str := ["_law_thing", "_law_low", "_law_high"]
abbrev P_is_number : List Str := ["_law_thing", "_law_low", "_law_high"]
theorem sc_is_number : FnScope N_is_number P_is_number (defScope s_is_number) := ⟨rfl, rfl, rfl, by decide +kernel, rfl, by decide +kernel, by decide +kernel⟩
theorem ok_is_number {f : Addr} {fd : FuncData} (D : DefAt K mg "_law_is_number" s_is_number P_is_number f fd) (T : Txt K mg) : FnOk P w K mg base CX0 1 f fd P_is_number (sp_is_num K) := by
  refine D.fn.ok sc_is_number (fun vs H Q E h => ?_) (fun cdv A outer s H vs Q E hr h => ?_)
  · obtain ⟨b, v, d, lo, hi, rfl, _⟩ := h
    rfl
  · obtain ⟨b, v, d, lo, hi, rfl, hd, ret⟩ := h
    refine ⟨_, (pss_one (ps_ret (pe_and (pe_callB call_isi (by rfl) T.isinstance (by decide +kernel) (pa_cons (pv 0) (pa_cons (pe_bltn (v := .ty "int") (u := .type "int") (by rfl) T.int (by decide +kernel) rfl) pa_nil))) (pe_and (pe_not (pe_callB call_isi (by rfl) T.isinstance (by decide +kernel) (pa_cons (pv 0) (pa_cons (pe_bltn (v := .ty "bool") (u := .type "bool") (by rfl) T.bool (by decide +kernel) rfl) pa_nil)))) (pe_one (pe_chain op_le op_le (pv 1) (pv 0) (pv 2))))))), ?_⟩
    obtain ⟨b1, b2, k1, k2, e⟩ := kit_int (K := K) d
    have no : isIntD d = false → Q (.bl false) H := fun q => by
      have : inD d lo hi = false := by
        cases d with
        | int _ => cases q
        | _ => rfl
      rw [this] at ret
      exact ret
    refine ⟨_, rfl, _, _, _, _, b1, rfl, .ty _, hd.ty, k1, b1, rfl, ?_⟩
    cases b1 with
    | false => exact iteF (no e.symm)
    | true =>
      refine iteT ⟨_, rfl, _, _, _, _, b2, rfl, .ty _, hd.ty, k2, _, rfl, _, rfl, ?_⟩
      cases b2 with
      | true => exact iteF (no e.symm)
      | false =>
        refine iteT ?_
        have hi : isIntD d = true := e.symm
        cases hd with
        | int i =>
          refine ⟨_, rfl, _, rfl, _, _, rfl, rfl, _, rfl, ?_⟩
          have ret : Q (.bl (decide (lo ≤ i) && decide (i ≤ _))) H := ret
          cases h1 : decide (lo ≤ i) with
          | false =>
            rw [h1] at ret
            exact iteF ret
          | true =>
            rw [h1] at ret
            exact iteT ⟨_, rfl, _, _, rfl, rfl, ret⟩
        | _ => cases hi
abbrev s_lis_bound : Stmt := top 69
abbrev N_lis_bound : List Str := ["_law_thing", "_law_bounds_here"]
abbrev P_lis_bound : List Str := ["_law_thing", "_law_bounds_here"]
theorem sc_lis_bound : FnScope N_lis_bound P_lis_bound (defScope s_lis_bound) := ⟨rfl, rfl, rfl, by decide +kernel, rfl, by decide +kernel, by decide +kernel⟩
theorem ok_is_bnd {f : Addr} {fd : FuncData} (D : DefAt K mg "_law_is_bound" s_lis_bound P_lis_bound f fd) (T : Txt K mg) : FnOk P w K mg base CX0 1 f fd P_lis_bound (sp_is_bnd K) := by
  refine D.fn.ok sc_lis_bound (fun vs H Q E h => ?_) (fun cdv A outer s H vs Q E hr h => ?_)
  · obtain ⟨b, bl, v, d, rfl, _⟩ := h
    rfl
  · obtain ⟨b, bl, v, d, rfl, hd, hS, ret⟩ := h
    refine ⟨_, (pss_one (ps_ret (pe_and (pe_callB call_isi (by rfl) T.isinstance (by decide +kernel) (pa_cons (pv 0) (pa_cons (pe_bltn (v := .ty "str") (u := .type "str") (by rfl) T.str (by decide +kernel) rfl) pa_nil))) (pe_one (pe_cmpR op_in_seq (pv 0) (pv 1) (by rfl)))))), ?_⟩
    refine ⟨_, rfl, _, _, _, _, isStrD d, rfl, .ty _, hd.ty, kit_str (K := K) d, _, rfl, ?_⟩
    cases hs : isStrD d with
    | false =>
      have e : boundD d = false := by
        cases d with
        | str _ => cases hs
        | _ => rfl
      rw [e] at ret
      exact iteF ret
    | true =>
      refine iteT ?_
      cases hd with
      | str z =>
        refine ⟨_, rfl, _, rfl, bl, _, rfl, .inl hS, rfl, flat_strs BL, ?_⟩
        show Q (.bl (inV (.str z) (BL.map V.str))) H
        rw [inV_strs]
        have e := bl_iff z
        rw [show boundD (.str z) = (fracOf z).isSome from rfl, e] at ret
        exact ret
      | _ => cases hs
end L
namespace L
open PySem L2 Hv Evl
variable {P : Program} {w : World} {K : PySem.W.Frag} {mg : Str → Option Value} {base : Heap}
abbrev s_is_pair : Stmt := top 70
abbrev N_is_pair : List Str := ["_law_thing", "_law_bounds_here"]
abbrev P_is_pair : List Str := ["_law_thing", "_law_bounds_here"]
theorem sc_is_pair : FnScope N_is_pair P_is_pair (defScope s_is_pair) := ⟨rfl, rfl, rfl, by decide +kernel, rfl, by decide +kernel, by decide +kernel⟩
theorem ok_is_pair {f f1 f2 : Addr} {fd fd1 fd2 : FuncData} (D : DefAt K mg "_law_is_pair" s_is_pair P_is_pair f fd) (T : Txt K mg) (D_is_number : DefAt K mg "_law_is_number" s_is_number P_is_number f1 fd1) (D_lis_bound : DefAt K mg "_law_is_bound" s_lis_bound P_lis_bound f2 fd2) : FnOk P w K mg base CX0 2 f fd P_is_pair (sp_is_pair K) := by
  have G_is_number := fn_lk (ok_is_number (P := P) (w := w) (base := base) D_is_number T)
  have G_lis_bound := fn_lk (ok_is_bnd (P := P) (w := w) (base := base) D_lis_bound T)
  refine D.fn.ok sc_is_pair (fun vs H Q E h => ?_) (fun cdv A outer s H vs Q E hr h => ?_)
  · obtain ⟨b, bl, v, d, rfl, _⟩ := h
    rfl
  · obtain ⟨b, bl, v, d, rfl, hd, hS, ret⟩ := h
    refine ⟨_, (pss_cons (ps_if (PW.pt (pw_or (pt_not (pt_val (pe_callB call_isi (by rfl) T.isinstance (by decide +kernel) (pa_cons (pv 0) (pa_cons (pe_bltn (v := .ty "tuple") (u := .type "tuple") (by rfl) T.tuple (by decide +kernel) rfl) pa_nil))))) (pw_or1 (pt_cmpR op_ne (pe_callB call_len_seq (by rfl) T.len (by decide +kernel) (pa_cons (pv 0) pa_nil)) pe_int (nomark _)))))
      (pss_one (ps_ret pe_bl))
      pss_nil)
      (pss_one (ps_ret (pe_and (pe_call G_is_number (hr.mono (by decide)) rfl D_is_number.mg D_is_number.fn.kp D_is_number.bd .nil pass0 (pa_cons (pe_ix ix_tup (pv 0) pe_int (fun _ _ => rfl)) (pa_cons pe_int (pa_cons pe_int pa_nil)))) (pe_one (pe_call G_lis_bound (hr.mono (by decide)) rfl D_lis_bound.mg D_lis_bound.fn.kp D_lis_bound.bd .nil pass0 (pa_cons (pe_ix ix_tup (pv 0) pe_int (fun _ _ => rfl)) (pa_cons (pv 1) pa_nil)))))))), ?_⟩
    refine ⟨_, rfl, _, _, _, _, isTupD d, rfl, .ty _, hd.ty, kit_tup d, _, rfl, ?_⟩
    cases hs : isTupD d with
    | false =>
      have e : pairD d = false := by
        cases d with
        | tuple _ => cases hs
        | _ => rfl
      rw [e] at ret
      exact iteT ret
    | true =>
      refine iteF ?_
      cases hd with
      | @tup a xs ds ha t =>
        refine ⟨_, rfl, _, _, rfl, .inr (SqT.of ha), rfl, _, rfl, ?_⟩
        have len := t.len
        by_cases h2 : xs.length = 2
        · refine ite2 (fun q => absurd (by show V.int (xs.length : Int) = _; rw [h2]; rfl) (nT q)) (fun _ => ?_)
          match xs, ds, t, h2 with
          | [x0, x1], [e0, e1], .cons t0 (.cons t1 .nil), _ =>
            have ret : Q (.bl (inD e0 0 3 && boundD e1)) H := ret
            refine ⟨_, rfl, _, _, _, _, rfl, rfl, SqT.of ha, rfl, is_num_d t0 ⟨_, rfl, ?_⟩⟩
            cases hi : inD e0 0 3 with
            | false =>
              rw [hi] at ret
              exact iteF ret
            | true =>
              rw [hi] at ret
              exact iteT ⟨_, rfl, _, _, _, _, rfl, rfl, SqT.of ha, rfl, _, rfl, is_bnd_d t1 hS ret⟩
        · refine ite2 (fun _ => ?_) (fun q => absurd (nF q) (fun z => h2 (by have := V.int.inj z; omega)))
          have e : pairD (.tuple ds) = false := by
            match ds, len with
            | [], _ => rfl
            | [_], _ => rfl
            | [_, _], len => exact absurd len h2
            | _ :: _ :: _ :: _, _ => rfl
          rw [e] at ret
          exact ret
      | _ => cases hs
abbrev s_wrong_pair : Stmt := top 72
abbrev N_wrong_pair : List Str := ["_law_bag_here", "_law_bounds_here", "_law_line", "_law_some"]
abbrev P_wrong_pair : List Str := ["_law_bag_here", "_law_bounds_here"]
theorem sc_wrong_pair : FnScope N_wrong_pair P_wrong_pair (defScope s_wrong_pair) := ⟨rfl, rfl, rfl, by decide +kernel, rfl, by decide +kernel, by decide +kernel⟩
theorem ok_wrong {f f1 f2 : Addr} {fd fd1 fd2 : FuncData} (D : DefAt K mg "_law_wrong_pair" s_wrong_pair P_wrong_pair f fd) (T : Txt K mg) (D_take : DefAt K mg "_law_take" s_take P_take f1 fd1) (D_bent : DefAt K mg "_law_bent" s_bent P_bent f2 fd2) : FnOk P w K mg base CX0 3 f fd P_wrong_pair (sp_wrong K) := by
  have G_take : FnOk P w K mg base CX0 1 f1 fd1 P_take sp_take := ok_take D_take T
  have G_bent : FnOk P w K mg base CX0 2 f2 fd2 P_bent sp_bent := ok_bent D_bent T D_take
  refine D.fn.ok sc_wrong_pair (fun vs H Q E h => ?_) (fun cdv A outer s H vs Q E hr h => ?_)
  · obtain ⟨b, bl, n, rfl, _⟩ := h
    rfl
  · obtain ⟨b, bl, n, rfl, hb, hn, hS, nb, ret⟩ := h
    refine ⟨_, (pss_cons (ps_asg (pe_ix ix_list (pv 1) (pe_call G_take (hr.mono (by decide)) rfl D_take.mg D_take.fn.kp D_take.bd .nil pass0 (pa_cons (pv 0) (pa_cons (pe_callB call_len_seq (by rfl) T.len (by decide +kernel) (pa_cons (pv 1) pa_nil)) pa_nil))) (fun _ _ => rfl)) (pg_name (i := 2) sc_wrong_pair.nd rfl (.inl rfl)))
      (pss_cons (ps_asg (pe_lst (pa_cons (pe_tup (pa_cons pe_int (pa_cons (pv 2) pa_nil))) (pa_cons (pe_tup (pa_cons (pe_un un_neg pe_int) (pa_cons (pv 2) pa_nil))) (pa_cons (pe_tup (pa_cons pe_bl (pa_cons (pv 2) pa_nil))) (pa_cons (pe_tup (pa_cons (pv 2) (pa_cons pe_int pa_nil))) (pa_cons (pe_tup (pa_cons pe_int (pa_cons (pv 2) (pa_cons pe_int pa_nil)))) (pa_cons (pe_tup (pa_cons pe_int pa_nil)) (pa_cons (pe_tup (pa_cons pe_non (pa_cons (pv 2) pa_nil))) (pa_cons (pe_tup (pa_cons pe_int (pa_cons pe_non pa_nil))) (pa_cons (pe_tup (pa_cons pe_int (pa_cons (pe_tup (pa_cons (pv 2) pa_nil)) pa_nil))) pa_nil)))))))))) (pg_name (i := 3) sc_wrong_pair.nd rfl (.inl rfl)))
      (pss_cons (ps_asg (pe_op op_cat (pv 3) (pe_lst (pa_cons (pe_tup (pa_cons pe_int (pa_cons (pe_call G_bent (hr.mono (by decide)) rfl D_bent.mg D_bent.fn.kp D_bent.bd .nil pass0 (pa_cons (pv 0) (pa_cons (pv 2) pa_nil))) pa_nil))) (pa_cons (pe_tup (pa_cons pe_int (pa_cons pe_str pa_nil))) (pa_cons (pe_lst (pa_cons pe_int (pa_cons (pv 2) pa_nil))) (pa_cons (pe_tup (pa_cons pe_str (pa_cons (pv 2) pa_nil))) (pa_cons (pe_tup (pa_cons pe_int (pa_cons (pv 2) pa_nil))) (pa_cons (pe_tup (pa_cons pe_int (pa_cons (pv 2) pa_nil))) (pa_cons (pe_tup (pa_cons (pe_tup (pa_cons pe_int (pa_cons (pv 2) pa_nil))) pa_nil)) pa_nil))))))))) (pg_name (i := 3) sc_wrong_pair.nd rfl (.inl rfl)))
      (pss_one (ps_ret (pe_ix ix_list (pv 3) (pe_call G_take (hr.mono (by decide)) rfl D_take.mg D_take.fn.kp D_take.bd .nil pass0 (pa_cons (pv 0) (pa_cons pe_int pa_nil))) (fun _ _ => rfl))))))), ?_⟩
    refine ⟨_, rfl, _, rfl, _, rfl, bl, _, rfl, .inl hS, b, _, n, rfl, hb, by omega, by rw [bl_len]; decide, by rw [bl_len]; decide, fun j H1 u1 b1 j0 j1 => ?_⟩
    rw [bl_len] at j1
    obtain ⟨z, hz, zm⟩ := bl_at j0 j1
    obtain ⟨zk, zl, w1, w2⟩ := bl_str zm
    refine ⟨bl, _, j, _, rfl, rfl, u1.seq nb hS, hz, ?_⟩
    refine q_asgQ (show EvQA K H1 _ _ _ (WP1 z) from (eqa_cons (eq_tup (eqa_cons eq_int (eqa_cons (eq_evs (ev_var rfl)) eqa_nil)) (by simp)) (eqa_cons (eq_tup (eqa_cons (eq_ev (ev_un ev_c ru_neg)) (eqa_cons (eq_evs (ev_var rfl)) eqa_nil)) (by simp)) (eqa_cons (eq_tup (eqa_cons eq_bl (eqa_cons (eq_evs (ev_var rfl)) eqa_nil)) (by simp)) (eqa_cons (eq_tup (eqa_cons (eq_evs (ev_var rfl)) (eqa_cons eq_int eqa_nil)) (by simp)) (eqa_cons (eq_tup (eqa_cons eq_int (eqa_cons (eq_evs (ev_var rfl)) (eqa_cons eq_int eqa_nil))) (by simp)) (eqa_cons (eq_tup (eqa_cons eq_int eqa_nil) (by simp)) (eqa_cons (eq_tup (eqa_cons eq_non (eqa_cons (eq_evs (ev_var rfl)) eqa_nil)) (by simp)) (eqa_cons (eq_tup (eqa_cons eq_int (eqa_cons eq_non eqa_nil)) (by simp)) (eqa_cons (eq_tup (eqa_cons eq_int (eqa_cons (eq_tup (eqa_cons (eq_evs (ev_var rfl)) eqa_nil) (by simp)) eqa_nil)) (by simp)) eqa_nil)))))))))) (Ex.refl H1) (by show 9 ≤ 1000; decide) fun p1 vs1 H2 e2 h1 n1 l1 d1 => ?_
    have b2 := b1.same e2
    have p1b : p1 ≠ b := b1.ne_none n1
    refine ⟨_, rfl, _, rfl, _, rfl, b, z, n + 1, rfl, b2, by omega, by omega, zk, fun r H3 u3 b3 rl rk => ⟨by show 2 ≤ sizeLine; decide, fun t nt => ?_⟩⟩
    have s4 := same_new (o := .tup [.int 3, .str r]) nt
    have h4t := upd_same (H := H3) (a := t) (o := .tup [.int 3, .str r])
    have d4 := (d1.but (kn_but But.refl b1 b1.some) b2 u3).same s4
    have h4 := s4 _ _ (u3 _ _ p1b h1)
    have b4 := b3.same s4
    have u4 : But b H1 (upd H3 t (.tup [.int 3, .str r])) := (But.of e2).trans (u3.trans (But.of s4))
    generalize hx : upd H3 t _ = H4 at s4 h4t d4 h4 b4 u4 ⊢
    refine (show EvQA K H4 _ _ _ (WP2 z) from (eqa_cons (eq_tup (eqa_cons eq_int (eqa_cons eq_str eqa_nil)) (by simp)) (eqa_cons (eq_lst (eqa_cons eq_int (eqa_cons (eq_evs (ev_var rfl)) eqa_nil)) (by simp)) (eqa_cons (eq_tup (eqa_cons eq_str (eqa_cons (eq_evs (ev_var rfl)) eqa_nil)) (by simp)) (eqa_cons (eq_tup (eqa_cons eq_int (eqa_cons (eq_evs (ev_var rfl)) eqa_nil)) (by simp)) (eqa_cons (eq_tup (eqa_cons eq_int (eqa_cons (eq_evs (ev_var rfl)) eqa_nil)) (by simp)) (eqa_cons (eq_tup (eqa_cons (eq_tup (eqa_cons eq_int (eqa_cons (eq_evs (ev_var rfl)) eqa_nil)) (by simp)) eqa_nil) (by simp)) eqa_nil))))))) H4 (Ex.refl H4) (Ex.refl H4) _ fun vs2 H5 e5 l5 d5 => ⟨sz_of (by rw [List.length_cons, l5]; show 7 ≤ 100000; decide), fun q2 nq2 => ⟨p1, q2, vs1, _, rfl, rfl, same_new nq2 _ _ (e5 _ _ h4), upd_same, sz_of (by rw [List.length_cons, l1, l5]; show 16 ≤ 100000; decide), fun q nq => ?_⟩⟩
    have s56 := (same_new (o := .lst (.ref t :: vs2)) nq2).trans (same_new (o := .lst (vs1 ++ (.ref t :: vs2))) nq)
    have e56 := e5.trans s56
    have b6 := b4.same e56
    have qb : q ≠ b := (b4.same (e5.trans (same_new (o := .lst (.ref t :: vs2)) nq2))).ne_none nq
    have D6 : DnAll K H1 _ (vs1 ++ (.ref t :: vs2)) (WP1 z ++ (.tuple [.int 3, .str r] :: WP2 z)) := fun a ha =>
      DqAll.app (.cons (.tup (e56 _ _ h4t) (.cons (.int 3) (.cons (.str r) .nil))) ((d5 a (kn_but u4 b4 ha)).same s56)) ((d4 a ha).same e56)
    refine e_oddat (H0 := H1) (m := 16) b6 (by omega) b1.some rfl rfl upd_same qb D6 (fun Q q => q) (by rfl) (by rw [List.length_append]; show 0 < 9 + 7; decide) (by rw [List.length_append]; show 9 + 7 ≤ 1000; decide) fun v d H7 hd u7 b7 dn => ?_
    refine ret v d H7 ((u1.trans u4).trans ((But.of e56).trans u7)) b7 (fun a ha => dn a (kn_but u1 b1 ha)) ?_
    rcases List.mem_append.mp hd with q | q
    · exact w1 d q
    · rcases List.mem_cons.mp q with rfl | q
      · exact good_pair (by decide) (by decide) rk (by omega)
      · exact w2 d q
end L
namespace Hv
open PySem L2
/-- the five parts of a kind that are being drawn, at p -/
structure Made (K : PySem.W.Frag) (b p : Addr) (H0 H : Hp) (vs : List V) (ds : List PyData) (n : Nat) : Prop where
  hp : H p = some (.lst vs)
  vl : vs.length = 5
  dl : ds.length = 5
  qb : DqAll K b H vs ds
  qp : DqAll K p H vs ds
  good : ∀ d ∈ ds, GoodD d
  u : But b H0 H
  bb : Bag H b n
section
variable {K : PySem.W.Frag} {b p : Addr} {H0 H H' : Hp} {vs : List V} {ds : List PyData} {n n' : Nat} {v : V} {d : PyData}
theorem Made.but (m : Made K b p H0 H vs ds n) (pb : p ≠ b) (u : But b H H') (b' : Bag H' b n') : Made K b p H0 H' vs ds n' :=
  ⟨u _ _ pb m.hp, m.vl, m.dl, m.qb.but m.bb u, DqAll.two m.bb u m.qb m.qp, m.good, m.u.trans u, b'⟩
theorem Made.put (m : Made K b p H0 H vs ds n) (pb : p ≠ b) (np : H0 p = none) (k : Nat) (h1 : Dq K b H v d) (h2 : Dq K p H v d) (g : GoodD d) : Made K b p H0 (upd H p (.lst (vs.set k v))) (vs.set k v) (ds.set k d) n := by
  refine ⟨upd_same, by simp [m.vl], by simp [m.dl], DqAll.set (Dq.put m.hp h2 h1) _ (DqAll.put m.hp m.qp m.qb), DqAll.set (Dq.put m.hp h2 h2) _ (DqAll.put m.hp m.qp m.qp), fun x hx => ?_, m.u.mut np, m.bb.put pb⟩
  rcases List.mem_or_eq_of_mem_set hx with q | rfl
  · exact m.good x q
  · exact g
theorem Made.mono (m : Made K b p H0 H vs ds n) (h : n ≤ n') : Made K b p H0 H vs ds n' := ⟨m.hp, m.vl, m.dl, m.qb, m.qp, m.good, m.u, m.bb.mono h⟩
theorem Made.ix (m : Made K b p H0 H vs ds n) {i : Int} (h0 : 0 ≤ i) (h1 : i < 5) : ixN vs.length i = some i.toNat := by
  unfold ixN
  rw [if_pos h0, if_pos (by rw [m.vl]; omega)]
theorem Made.some (m : Made K b p H0 H vs ds n) : H p ≠ none := by
  rw [m.hp]
  intro z
  cases z
end
/-- data that is no list -/
def Flat (K : PySem.W.Frag) (v : V) (d : PyData) : Prop := ∀ a H, Dq K a H v d
theorem pick3 {K : PySem.W.Frag} {z : Str} {c : Int} (h0 : 0 ≤ c) (h1 : c < 3) (zk : PyData.strOk z = true) (zl : z.length ≤ 20) : ∃ v d, atI [.int 1, .int 9, .str z] c = some v ∧ Flat K v d ∧ GoodD d := by
  rcases (show c = 0 ∨ c = 1 ∨ c = 2 by omega) with rfl | rfl | rfl
  · exact ⟨_, _, rfl, fun a H => .int 1, good_int (by decide) (by decide)⟩
  · exact ⟨_, _, rfl, fun a H => .int 9, good_int (by decide) (by decide)⟩
  · exact ⟨_, _, rfl, fun a H => .str z, good_str zk (by omega)⟩
def sp_drawn (K : PySem.W.Frag) : Sp := fun vs H Q _ => ∃ (b bl : Addr) (n : Nat), vs = [.ref b, .ref bl] ∧ Bag H b n ∧ n < 700000 ∧ SqL K H bl (BL.map V.str) ∧ bl ≠ b ∧
  ∀ (p : Addr) (vs : List V) (ds : List PyData) (H' : Hp), H p = none → p ≠ b → Made K b p H H' vs ds (n + 80) → Q (.ref p) H'
theorem five {α : Type} {l : List α} (h : l.length = 5) : ∃ a b c d e, l = [a, b, c, d, e] := by
  match l, h with
  | [a, b, c, d, e], _ => exact ⟨a, b, c, d, e, rfl⟩
end Hv
namespace L
open PySem L2 Hv Evl
variable {P : Program} {w : World} {K : PySem.W.Frag} {mg : Str → Option Value} {base : Heap}
abbrev s_drawn : Stmt := top 73
abbrev N_drawn : List Str := ["_law_bag_here", "_law_bounds_here", "_law_line", "_law_tag_here", "_law_made", "_law_turn", "_law_at", "_law_way"]
abbrev P_drawn : List Str := ["_law_bag_here", "_law_bounds_here"]
theorem sc_drawn : FnScope N_drawn P_drawn (defScope s_drawn) := ⟨rfl, rfl, rfl, by decide +kernel, rfl, by decide +kernel, by decide +kernel⟩
theorem ok_drawn {f f1 f2 f3 f4 f5 : Addr} {fd fd1 fd2 fd3 fd4 fd5 : FuncData} (D : DefAt K mg "_law_drawn" s_drawn P_drawn f fd) (T : Txt K mg) (D_take : DefAt K mg "_law_take" s_take P_take f1 fd1) (D_tag : DefAt K mg "_law_tag" s_tag P_tag f2 fd2)
    (D_odd : DefAt K mg "_law_odd" s_odd P_odd f3 fd3) (D_bent : DefAt K mg "_law_bent" s_bent P_bent f4 fd4) (D_wrong_pair : DefAt K mg "_law_wrong_pair" s_wrong_pair P_wrong_pair f5 fd5) : FnOk P w K mg base CX0 4 f fd P_drawn (sp_drawn K) := by
  have G_take : FnOk P w K mg base CX0 1 f1 fd1 P_take sp_take := ok_take D_take T
  have G_tag : FnOk P w K mg base CX0 2 f2 fd2 P_tag sp_tag := ok_tag D_tag T D_take
  have G_odd : FnOk P w K mg base CX0 2 f3 fd3 P_odd (sp_odd K ODD1) := ok_odd D_odd T D_take
  have G_bent : FnOk P w K mg base CX0 2 f4 fd4 P_bent sp_bent := ok_bent D_bent T D_take
  have G_wrong_pair : FnOk P w K mg base CX0 3 f5 fd5 P_wrong_pair (sp_wrong K) := ok_wrong D_wrong_pair T D_take D_bent
  refine D.fn.ok sc_drawn (fun vs H Q E h => ?_) (fun cdv A outer s H vs Q E hr h => ?_)
  · obtain ⟨b, bl, n, rfl, _⟩ := h
    rfl
  · obtain ⟨b, bl, n, rfl, hb, hn, hS, nb, ret⟩ := h
    refine ⟨_, (pss_cons (ps_par (i := 2) (j := 3) (by rfl) sc_drawn.nd rfl rfl (by decide) rfl rfl (pa_cons (pe_ix ix_list (pv 1) (pe_call G_take (hr.mono (by decide)) rfl D_take.mg D_take.fn.kp D_take.bd .nil pass0 (pa_cons (pv 0) (pa_cons (pe_callB call_len_seq (by rfl) T.len (by decide +kernel) (pa_cons (pv 1) pa_nil)) pa_nil))) (fun _ _ => rfl)) (pa_cons (pe_call G_tag (hr.mono (by decide)) rfl D_tag.mg D_tag.fn.kp D_tag.bd .nil pass0 (pa_cons (pv 0) pa_nil)) pa_nil)) (by rfl))
      (pss_cons (ps_asg (pe_lst (pa_cons (pv 3) (pa_cons (pe_call G_take (hr.mono (by decide)) rfl D_take.mg D_take.fn.kp D_take.bd .nil pass0 (pa_cons (pv 0) (pa_cons pe_int pa_nil))) (pa_cons (pe_ix ix_list (pe_lst (pa_cons pe_int (pa_cons pe_int (pa_cons (pv 2) pa_nil)))) (pe_call G_take (hr.mono (by decide)) rfl D_take.mg D_take.fn.kp D_take.bd .nil pass0 (pa_cons (pv 0) (pa_cons pe_int pa_nil))) (fun _ _ => rfl)) (pa_cons (pe_tup (pa_cons (pe_call G_take (hr.mono (by decide)) rfl D_take.mg D_take.fn.kp D_take.bd .nil pass0 (pa_cons (pv 0) (pa_cons pe_int pa_nil))) (pa_cons (pv 2) pa_nil))) (pa_cons (pv 2) pa_nil)))))) (pg_name (i := 4) sc_drawn.nd rfl (.inl rfl)))
      (pss_cons (ps_if (pt_cmpR op_eq (pe_call G_take (hr.mono (by decide)) rfl D_take.mg D_take.fn.kp D_take.bd .nil pass0 (pa_cons (pv 0) (pa_cons pe_int pa_nil))) pe_int (nomark _))
      (pss_one (ps_asg pe_non (pg_sub (pv 4) pe_int set_list)))
      pss_nil)
      (pss_cons (ps_for PassesOwn.never rfl (pi_range1 (by rfl) T.range (pa_cons (pe_call G_take (hr.mono (by decide)) rfl D_take.mg D_take.fn.kp D_take.bd .nil pass0 (pa_cons (pv 0) (pa_cons pe_int pa_nil))) pa_nil)) (pg_name (i := 5) sc_drawn.nd rfl (.inl rfl))
      (pss_cons (ps_par (i := 6) (j := 7) (by rfl) sc_drawn.nd rfl rfl (by decide) rfl rfl (pa_cons (pe_call G_take (hr.mono (by decide)) rfl D_take.mg D_take.fn.kp D_take.bd .nil pass0 (pa_cons (pv 0) (pa_cons pe_int pa_nil))) (pa_cons (pe_call G_take (hr.mono (by decide)) rfl D_take.mg D_take.fn.kp D_take.bd .nil pass0 (pa_cons (pv 0) (pa_cons pe_int pa_nil))) pa_nil)) (by rfl))
      (pss_cons (ps_asg (pe_call G_odd (hr.mono (by decide)) rfl D_odd.mg D_odd.fn.kp D_odd.bd .nil pass0 (pa_cons (pv 0) pa_nil)) (pg_sub (pv 4) (pv 6) set_list))
      (pss_cons (ps_if (PW.pt (pw_and (pt_cmpR op_eq (pv 7) pe_int (nomark _)) (pw_and1 (pt_cmpR op_in_seq (pv 6) (pe_lst (pa_cons pe_int (pa_cons pe_int (pa_cons pe_int pa_nil)))) (by rfl)))))
      (pss_one (ps_asg (pe_call G_bent (hr.mono (by decide)) rfl D_bent.mg D_bent.fn.kp D_bent.bd .nil pass0 (pa_cons (pv 0) (pa_cons (pe_ifExp (pt_cmpR op_eq (pv 6) pe_int (nomark _)) (pv 3) (pv 2)) pa_nil))) (pg_sub (pv 4) (pv 6) set_list)))
      pss_nil)
      (pss_cons (ps_if (PW.pt (pw_and (pt_cmpR op_eq (pv 7) pe_int (nomark _)) (pw_and1 (pt_cmpR op_in_seq (pv 6) (pe_lst (pa_cons pe_int (pa_cons pe_int pa_nil))) (by rfl)))))
      (pss_one (ps_asg (pe_op op_sub (pe_call G_take (hr.mono (by decide)) rfl D_take.mg D_take.fn.kp D_take.bd .nil pass0 (pa_cons (pv 0) (pa_cons pe_int pa_nil))) pe_int) (pg_sub (pv 4) (pv 6) set_list)))
      pss_nil)
      (pss_one (ps_if (PW.pt (pw_and (pt_cmpR op_lt (pv 7) pe_int (nomark _)) (pw_and1 (pt_cmpR op_eq (pv 6) pe_int (nomark _)))))
      (pss_one (ps_asg (pe_call G_wrong_pair (hr.mono (by decide)) rfl D_wrong_pair.mg D_wrong_pair.fn.kp D_wrong_pair.bd .nil pass0 (pa_cons (pv 0) (pa_cons (pv 1) pa_nil))) (pg_sub (pv 4) (pv 6) set_list)))
      pss_nil)))))))
      (pss_one (ps_ret (pv 4))))))), ?_⟩
    refine ⟨_, rfl, _, rfl, _, rfl, bl, _, rfl, .inl hS, b, _, n, rfl, hb, by omega, by rw [bl_len]; decide, by rw [bl_len]; decide, fun j H1 u1 b1 j0 j1 => ?_⟩
    rw [bl_len] at j1
    obtain ⟨z, hz, zm⟩ := bl_at j0 j1
    obtain ⟨zk, zl, _⟩ := bl_str zm
    refine ⟨bl, _, j, _, rfl, rfl, u1.seq nb hS, hz, ?_⟩
    refine ⟨_, rfl, b, n + 1, rfl, b1, by omega, fun tg H2 u2 b2 tk tl => ⟨_, _, rfl, ?_⟩⟩
    have tgk := nameOk_str tk
    refine ⟨_, rfl, _, rfl, b, 4, n + 11, rfl, b2, by omega, by decide, m_small (by decide) (by decide), fun a3 H3 u3 b3 a30 a31 => ?_⟩
    refine ⟨_, rfl, by show 3 ≤ sizeLine; decide, fun l4 n4 => ?_⟩
    have s4 := same_new (o := .lst [.int 1, .int 9, .str z]) n4
    have l4b : l4 ≠ b := b3.ne_none n4
    refine ⟨_, rfl, b, 3, n + 12, rfl, b3.same s4, by omega, by decide, m_small (by decide) (by decide), fun c5 H5 u5 b5 c50 c51 => ?_⟩
    obtain ⟨w2, e2, hat, fw2, gw2⟩ := pick3 (K := K) c50 c51 zk zl
    refine ⟨l4, _, _, _, rfl, rfl, SqL.of (u5 _ _ l4b upd_same), hat, ?_⟩
    refine ⟨_, rfl, b, 4, n + 13, rfl, b5, by omega, by decide, m_small (by decide) (by decide), fun a6 H6 u6 b6 a60 a61 => ?_⟩
    refine ⟨_, rfl, by show 2 ≤ sizeLine; decide, fun t7 n7 => ?_⟩
    have s7 := same_new (o := .tup [.int a6, .str z]) n7
    refine ⟨_, rfl, by show 5 ≤ sizeLine; decide, fun p np => ?_⟩
    have s8 := same_new (o := .lst [.str tg, .int a3, w2, .ref t7, .str z]) np
    have b7 := b6.same s7
    have pb : p ≠ b := b7.ne_none np
    have u7 : But b H (upd H6 t7 (.tup [.int a6, .str z])) := (((u1.trans u2).trans u3).trans (But.of s4)).trans ((u5.trans u6).trans (But.of s7))
    have np0 : H p = none := u7.free pb np
    have ht7 := s8 _ _ (upd_same (H := H6) (a := t7) (o := .tup [.int a6, .str z]))
    have M0 : Made K b p H (upd (upd H6 t7 (.tup [.int a6, .str z])) p (.lst [.str tg, .int a3, w2, .ref t7, .str z])) [.str tg, .int a3, w2, .ref t7, .str z] [.str tg, .int a3, e2, .tuple [.int a6, .str z], .str z] (n + 14) := by
      refine ⟨upd_same, rfl, rfl, .cons (.str _) (.cons (.int _) (.cons (fw2 _ _) (.cons (.tup ht7 (.cons (.int _) (.cons (.str _) .nil))) (.cons (.str _) .nil)))), .cons (.str _) (.cons (.int _) (.cons (fw2 _ _) (.cons (.tup ht7 (.cons (.int _) (.cons (.str _) .nil))) (.cons (.str _) .nil)))), fun d hd => ?_, u7.trans (But.of s8), b7.same s8⟩
      simp only [List.mem_cons, List.not_mem_nil, or_false] at hd
      rcases hd with rfl | rfl | rfl | rfl | rfl
      · exact good_str tgk (by omega)
      · exact good_int (by omega) (by omega)
      · exact gw2
      · exact good_pair (by omega) (by omega) zk (by omega)
      · exact good_str zk (by omega)
    generalize upd (upd H6 t7 _) p _ = H8 at M0 ⊢
    clear ht7 s8 np s7 n7 u7 b7 b6 u6 b5 u5 hat s4 n4 b3 u3 u2 b2 b1 l4b
    dsimp only [gName]
    refine join_s (fun σ' H' => ∃ vs ds x5 x6 x7, σ' = [some (.ref b), some (.ref bl), some (.str z), some (.str tg), some (.ref p), x5, x6, x7] ∧ Made K b p H H' vs ds (n + 15)) (fun N fin => ?_) ?_
    · refine ⟨_, rfl, b, 2, n + 14, rfl, M0.bb, by omega, by decide, m_small (by decide) (by decide), fun r H9 u9 b9 r0 r1 => ⟨rfl, _, rfl, ite2 (fun c1 => ?_) (fun c1 => ?_)⟩⟩
      · have M9 := M0.but pb u9 b9
        exact ⟨_, rfl, p, _, _, 4, rfl, rfl, M9.hp, rfl, fin _ _ ⟨_, _, _, _, _, rfl, M9.put pb np0 4 (d := .none) .non .non good_none⟩⟩
      · exact fin _ _ ⟨_, _, _, _, _, rfl, M0.but pb u9 b9⟩
    rintro _ H9 ⟨vs, ds, x5, x6, x7, rfl, M9⟩
    refine ⟨_, rfl, b, 4, n + 15, rfl, M9.bb, by omega, by decide, m_small (by decide) (by decide), fun m Ha ua ba m0 m1 => ?_⟩
    have Ma := M9.but pb ua ba
    refine ⟨m, rfl, by omega, by omega, for_range (lo := 0) (fun i σ' H' => ∃ vs ds x5 x6 x7, σ' = [some (.ref b), some (.ref bl), some (.str z), some (.str tg), some (.ref p), x5, x6, x7] ∧ Made K b p H H' vs ds (n + 16 + 15 * i)) ?_ ?_ ?_⟩
    · exact ⟨vs, ds, _, _, _, rfl, Ma⟩
    · rintro i σ' H' hi ⟨vs, ds, x5, x6, x7, rfl, M⟩
      refine ⟨_, rfl, b, 5, _, rfl, M.bb, by omega, by decide, m_small (by decide) (by decide), fun at_ H1 u1 b1 a0 a1 => ?_⟩
      refine ⟨_, rfl, b, 3, _, rfl, b1, by omega, by decide, m_small (by decide) (by decide), fun way H2 u2 b2 w0 w1 => ⟨_, _, rfl, ?_⟩⟩
      have M2 := M.but pb (u1.trans u2) b2
      clear M u1 u2 b1 b2
      -- made[at] = odd
      refine ⟨_, rfl, b, _, rfl, M2.bb, by omega, fun v d H3 hd u3 b3 dn => ?_⟩
      have M3 := M2.but pb u3 b3
      refine ⟨_, rfl, _, rfl, p, _, _, _, rfl, rfl, M3.hp, M3.ix a0 a1, ?_⟩
      have M4 := M3.put pb np0 at_.toNat (dn b M2.bb.some) (dn p M2.some) (good_odd hd)
      clear M2 M3 dn u3 b3 hd
      generalize upd H3 p _ = H4 at M4 ⊢
      generalize vs.set at_.toNat v = vs4 at M4
      generalize ds.set at_.toNat d = ds4 at M4
      -- a text is bent
      dsimp only
      refine join_s (fun σ' H' => ∃ vs ds, σ' = [some (.ref b), some (.ref bl), some (.str z), some (.str tg), some (.ref p), some (.int (0 + (i : Int))), some (.int at_), some (.int way)] ∧ Made K b p H H' vs ds (n + 16 + 15 * i + 6)) (fun N fin => ?_) ?_
      · refine ⟨_, rfl, rfl, _, rfl, ite2 (fun c1 => ?_) (fun c1 => fin _ _ ⟨_, _, rfl, M4.mono (by omega)⟩)⟩
        refine ⟨_, rfl, by show 3 ≤ sizeLine; decide, fun l nl => ⟨l, _, rfl, .inl (SqL.of upd_same), rfl, rfl, _, rfl, ?_⟩⟩
        have s5 := same_new (o := .lst [.int 0, .int 2, .int 4]) nl
        have M5 := M4.but pb (But.of s5) (M4.bb.same s5)
        refine ite2 (fun c2 => ?_) (fun c2 => fin _ _ ⟨_, _, rfl, M5.mono (by omega)⟩)
        have fin2 : ∀ r H6, But b _ H6 → Bag H6 b (n + 16 + 15 * i + 2 + 1 + 3) → r.length ≤ 30 → PyData.strOk r = true → gSub (tVar 4) (tVar 6) rSetL (.str r) [some (.ref b), some (.ref bl), some (.str z), some (.str tg), some (.ref p), some (.int (0 + (i : Int))), some (.int at_), some (.int way)] H6 N := fun r H6 u6 b6 rl rk => by
          have M6 := M5.but pb u6 b6
          exact ⟨_, rfl, _, rfl, p, _, _, _, rfl, rfl, M6.hp, M6.ix a0 a1, fin _ _ ⟨_, _, rfl, M6.put pb np0 at_.toNat (d := .str r) (.str r) (.str r) (good_str rk (by omega))⟩⟩
        refine ⟨_, rfl, _, rfl, rfl, _, rfl, ite2 (fun c3 => ?_) (fun c3 => ?_)⟩
        · exact ⟨_, rfl, b, tg, _, rfl, M5.bb, by omega, by omega, tgk, fun r H6 u6 b6 rl rk => fin2 r H6 u6 b6 (by omega) rk⟩
        · exact ⟨_, rfl, b, z, _, rfl, M5.bb, by omega, by omega, zk, fun r H6 u6 b6 rl rk => fin2 r H6 u6 b6 (by omega) rk⟩
      rintro _ H5 ⟨vs5, ds5, rfl, M5⟩
      clear M4
      -- a number
      refine join_s (fun σ' H' => ∃ vs ds, σ' = [some (.ref b), some (.ref bl), some (.str z), some (.str tg), some (.ref p), some (.int (0 + (i : Int))), some (.int at_), some (.int way)] ∧ Made K b p H H' vs ds (n + 16 + 15 * i + 7)) (fun N fin => ?_) ?_
      · refine ⟨_, rfl, rfl, _, rfl, ite2 (fun c1 => ?_) (fun c1 => fin _ _ ⟨_, _, rfl, M5.mono (by omega)⟩)⟩
        refine ⟨_, rfl, by show 2 ≤ sizeLine; decide, fun l nl => ⟨l, _, rfl, .inl (SqL.of upd_same), rfl, rfl, _, rfl, ?_⟩⟩
        have s6 := same_new (o := .lst [.int 1, .int 2]) nl
        have M6 := M5.but pb (But.of s6) (M5.bb.same s6)
        refine ite2 (fun c2 => ?_) (fun c2 => fin _ _ ⟨_, _, rfl, M6.mono (by omega)⟩)
        refine ⟨_, rfl, b, 14, _, rfl, M6.bb, by omega, by decide, m_small (by decide) (by decide), fun r H7 u7 b7 r0 r1 => ⟨_, _, rfl, rfl, ?_⟩⟩
        have M7 := M6.but pb u7 b7
        exact ⟨_, rfl, _, rfl, p, _, _, _, rfl, rfl, M7.hp, M7.ix a0 a1, fin _ _ ⟨_, _, rfl, M7.put pb np0 at_.toNat (d := .int (r - 2)) (.int _) (.int _) (good_int (by omega) (by omega))⟩⟩
      rintro _ H6 ⟨vs6, ds6, rfl, M6⟩
      clear M5
      -- a wrong pair
      refine ⟨_, rfl, _, _, rfl, rfl, _, rfl, ite2 (fun c1 => ?_) (fun c1 => ⟨_, _, _, _, _, rfl, M6.mono (by omega)⟩)⟩
      refine ⟨_, rfl, rfl, _, rfl, ite2 (fun c2 => ?_) (fun c2 => ⟨_, _, _, _, _, rfl, M6.mono (by omega)⟩)⟩
      refine ⟨_, rfl, _, rfl, b, bl, _, rfl, M6.bb, by omega, M6.u.seq nb hS, nb, fun v d H7 u7 b7 dn g => ?_⟩
      have M7 := M6.but pb u7 b7
      exact ⟨_, rfl, _, rfl, p, _, _, _, rfl, rfl, M7.hp, M7.ix a0 a1, _, _, _, _, _, rfl, (M7.put pb np0 at_.toNat (dn b M6.bb.some) (dn p M6.some) g).mono (by omega)⟩
    · rintro σ' H' ⟨vs, ds, x5, x6, x7, rfl, M⟩
      exact ⟨_, rfl, ret p vs ds H' np0 pb (M.mono (by omega))⟩
end L
namespace Hv
open PySem L2
def dueK (d0 d1 d2 d3 d4 : PyData) : List Str :=
  if nameD d0 = false then [Str.ofString "InvalidName", d0.shown] else if inD d1 0 3 = false then [Str.ofString "InvalidNumber", d1.shown] else if needD d2 = false then [Str.ofString "InvalidNeeds", d2.shown] else
  if closeD d3 = false then [Str.ofString "InvalidClosing", d3.shown] else if endD d4 = false then [Str.ofString "InvalidEnds", d4.shown] else []
/-- a drawn kind at p -/
structure Row5 (K : PySem.W.Frag) (b p : Addr) (H : Hp) (v0 v1 v2 v3 v4 : V) (d0 d1 d2 d3 d4 : PyData) : Prop where
  hp : H p = some (.lst [v0, v1, v2, v3, v4])
  pb : p ≠ b
  q0 : Dq K b H v0 d0
  q1 : Dq K b H v1 d1
  q2 : Dq K b H v2 d2
  q3 : Dq K b H v3 d3
  q4 : Dq K b H v4 d4
  g0 : GoodD d0
  g1 : GoodD d1
  g2 : GoodD d2
  g3 : GoodD d3
  g4 : GoodD d4
section
variable {K : PySem.W.Frag} {b p : Addr} {H H' : Hp} {v0 v1 v2 v3 v4 : V} {d0 d1 d2 d3 d4 : PyData} {n : Nat}
theorem Row5.same (h : Row5 K b p H v0 v1 v2 v3 v4 d0 d1 d2 d3 d4) (e : Same H H') : Row5 K b p H' v0 v1 v2 v3 v4 d0 d1 d2 d3 d4 := ⟨e _ _ h.hp, h.pb, h.q0.same e, h.q1.same e, h.q2.same e, h.q3.same e, h.q4.same e, h.g0, h.g1, h.g2, h.g3, h.g4⟩
theorem Row5.ext (h : Row5 K b p H v0 v1 v2 v3 v4 d0 d1 d2 d3 d4) (x : LamX.ExtN H H') : Row5 K b p H' v0 v1 v2 v3 v4 d0 d1 d2 d3 d4 := ⟨x _ _ h.hp (by intro ps q; cases q), h.pb, dq_ext x h.q0, dq_ext x h.q1, dq_ext x h.q2, dq_ext x h.q3, dq_ext x h.q4, h.g0, h.g1, h.g2, h.g3, h.g4⟩
theorem Row5.sq (h : Row5 K b p H v0 v1 v2 v3 v4 d0 d1 d2 d3 d4) : SqL K H p [v0, v1, v2, v3, v4] := SqL.of h.hp
theorem Row5.dq (h : Row5 K b p H v0 v1 v2 v3 v4 d0 d1 d2 d3 d4) : Dq K b H (.ref p) (.list [d0, d1, d2, d3, d4]) := .lst h.hp h.pb (.cons h.q0 (.cons h.q1 (.cons h.q2 (.cons h.q3 (.cons h.q4 .nil)))))
theorem Row5.fit (h : Row5 K b p H v0 v1 v2 v3 v4 d0 d1 d2 d3 d4) : FitQ (.list [d0, d1, d2, d3, d4]) 3 305 := (FitQ.list (.cons h.g0.fit (.cons h.g1.fit (.cons h.g2.fit (.cons h.g3.fit (.cons h.g4.fit (.nil (n := 0)))))))).mono (by decide) (by decide)
theorem Row5.five (h : Row5 K b p H v0 v1 v2 v3 v4 d0 d1 d2 d3 d4) : Five K b H v0 v1 v2 v3 v4 d0 d1 d2 d3 d4 := ⟨h.q0, h.q1, h.q2, h.q3, h.q4, h.g0.sh, h.g2.sh, h.g3.sd, h.g4.sh⟩
theorem Made.row {H0 : Hp} {vs : List V} {ds : List PyData} (m : Made K b p H0 H vs ds n) (pb : p ≠ b) : ∃ v0 v1 v2 v3 v4 d0 d1 d2 d3 d4, Row5 K b p H v0 v1 v2 v3 v4 d0 d1 d2 d3 d4 := by
  obtain ⟨hp, vl, dl, qb, qp, good, u, bb⟩ := m
  obtain ⟨v0, v1, v2, v3, v4, rfl⟩ := Hv.five vl
  obtain ⟨d0, d1, d2, d3, d4, rfl⟩ := Hv.five dl
  cases qb with
  | cons g0 qb => cases qb with
    | cons g1 qb => cases qb with
      | cons g2 qb => cases qb with
        | cons g3 qb => cases qb with
          | cons g4 _ => exact ⟨v0, v1, v2, v3, v4, d0, d1, d2, d3, d4, hp, pb, g0, g1, g2, g3, g4, good _ (by simp), good _ (by simp), good _ (by simp), good _ (by simp), good _ (by simp)⟩
theorem none_iff {v : V} {d : PyData} (h : Dq K b H v d) : v = .non ↔ d = .none := by
  cases h <;> simp
theorem close_eq {d : PyData} (h : d ≠ .none) : closeD d = pairD d := by
  cases d with
  | none => exact absurd rfl h
  | tuple ds =>
    match ds with
    | [] => rfl
    | [_] => rfl
    | [_, _] => rfl
    | _ :: _ :: _ :: _ => rfl
  | _ => rfl
theorem end_eq {d : PyData} (h : d ≠ .none) : endD d = boundD d := by
  cases d with
  | none => exact absurd rfl h
  | _ => rfl
end
def sp_due (K : PySem.W.Frag) : Sp := fun vs H Q _ => ∃ (b p bl : Addr) (v0 v1 v2 v3 v4 : V) (d0 d1 d2 d3 d4 : PyData), vs = [.ref p, .ref bl] ∧ Row5 K b p H v0 v1 v2 v3 v4 d0 d1 d2 d3 d4 ∧ SqL K H bl (BL.map V.str) ∧ ∀ q H', H q = none → Same H H' → H' q = some (.lst ((dueK d0 d1 d2 d3 d4).map V.str)) → Q (.ref q) H'
theorem new_list {H H1 : Hp} {Q : VK} {L L' : List Str} {xs : List V} (s : Same H H1) (ret : ∀ q H', H q = none → Same H H' → H' q = some (.lst (L.map V.str)) → Q (.ref q) H') (e : L = L') (e2 : xs = L'.map V.str) : ∀ p, H1 p = none → Q (.ref p) (upd H1 p (.lst xs)) := fun p np => by
  subst e e2
  exact ret p _ (s.free np) (s.trans (same_new np)) upd_same
end Hv
namespace L
open PySem L2 Hv
variable {P : Program} {w : World} {K : PySem.W.Frag} {mg : Str → Option Value} {base : Heap}
abbrev s_due : Stmt := top 74
abbrev N_due : List Str := ["_law_row", "_law_bounds_here"]
abbrev P_due : List Str := ["_law_row", "_law_bounds_here"]
theorem sc_due : FnScope N_due P_due (defScope s_due) := ⟨rfl, rfl, rfl, by decide +kernel, rfl, by decide +kernel, by decide +kernel⟩
theorem ok_due {f f1 f2 f3 f4 : Addr} {fd fd1 fd2 fd3 fd4 : FuncData} (D : DefAt K mg "_law_due" s_due P_due f fd) (T : Txt K mg) (D_is_tag : DefAt K mg "_law_is_tag" s_is_tag P_is_tag f1 fd1) (D_is_number : DefAt K mg "_law_is_number" s_is_number P_is_number f2 fd2)
    (D_lis_bound : DefAt K mg "_law_is_bound" s_lis_bound P_lis_bound f3 fd3) (D_is_pair : DefAt K mg "_law_is_pair" s_is_pair P_is_pair f4 fd4) : OkG P w K mg base CX0 3 f fd P_due (sp_due K) := by
  have G_is_tag := fn_lk (ok_is_tag (P := P) (w := w) (base := base) D_is_tag T)
  have G_is_number := fn_lk (ok_is_number (P := P) (w := w) (base := base) D_is_number T)
  have G_lis_bound := fn_lk (ok_is_bnd (P := P) (w := w) (base := base) D_lis_bound T)
  have G_is_pair := fn_lk (ok_is_pair (P := P) (w := w) (base := base) D_is_pair T D_is_number D_lis_bound)
  refine okG0 D.fn sc_due (fun vs H Q E h => ?_) (fun cdv A outer s H vs Q E hG hr h => ?_)
  · obtain ⟨b, p, bl, v0, v1, v2, v3, v4, d0, d1, d2, d3, d4, rfl, _⟩ := h
    rfl
  · obtain ⟨b, p, bl, v0, v1, v2, v3, v4, d0, d1, d2, d3, d4, rfl, R, hS, ret⟩ := h
    refine ⟨_, (pss_cons (ps_if (pt_not (pt_val (pe_call G_is_tag (hr.mono (by decide)) rfl D_is_tag.mg D_is_tag.fn.kp D_is_tag.bd .nil pass0 (pa_cons (pe_ix ix_list (pv 0) pe_int (fun _ _ => rfl)) pa_nil))))
      (pss_one (ps_ret (pe_lst (pa_cons pe_str (pa_cons (pe_callB (cr_reprQ hG hr.units) (by rfl) T.repr (by decide +kernel) (pa_cons (pe_ix ix_list (pv 0) pe_int (fun _ _ => rfl)) pa_nil)) pa_nil)))))
      pss_nil)
      (pss_cons (ps_if (pt_not (pt_val (pe_call G_is_number (hr.mono (by decide)) rfl D_is_number.mg D_is_number.fn.kp D_is_number.bd .nil pass0 (pa_cons (pe_ix ix_list (pv 0) pe_int (fun _ _ => rfl)) (pa_cons pe_int (pa_cons pe_int pa_nil))))))
      (pss_one (ps_ret (pe_lst (pa_cons pe_str (pa_cons (pe_callB (cr_reprQ hG hr.units) (by rfl) T.repr (by decide +kernel) (pa_cons (pe_ix ix_list (pv 0) pe_int (fun _ _ => rfl)) pa_nil)) pa_nil)))))
      pss_nil)
      (pss_cons (ps_if (PW.pt (pw_and (pt_not (pt_val (pe_call G_is_number (hr.mono (by decide)) rfl D_is_number.mg D_is_number.fn.kp D_is_number.bd .nil pass0 (pa_cons (pe_ix ix_list (pv 0) pe_int (fun _ _ => rfl)) (pa_cons pe_int (pa_cons pe_int pa_nil)))))) (pw_and1 (pt_not (pt_val (pe_call G_lis_bound (hr.mono (by decide)) rfl D_lis_bound.mg D_lis_bound.fn.kp D_lis_bound.bd .nil pass0 (pa_cons (pe_ix ix_list (pv 0) pe_int (fun _ _ => rfl)) (pa_cons (pv 1) pa_nil))))))))
      (pss_one (ps_ret (pe_lst (pa_cons pe_str (pa_cons (pe_callB (cr_reprQ hG hr.units) (by rfl) T.repr (by decide +kernel) (pa_cons (pe_ix ix_list (pv 0) pe_int (fun _ _ => rfl)) pa_nil)) pa_nil)))))
      pss_nil)
      (pss_cons (ps_if (PW.pt (pw_and (pt_cmpR op_notN (pe_ix ix_list (pv 0) pe_int (fun _ _ => rfl)) pe_non (nomark _)) (pw_and1 (pt_not (pt_val (pe_call G_is_pair (hr.mono (by decide)) rfl D_is_pair.mg D_is_pair.fn.kp D_is_pair.bd .nil pass0 (pa_cons (pe_ix ix_list (pv 0) pe_int (fun _ _ => rfl)) (pa_cons (pv 1) pa_nil))))))))
      (pss_one (ps_ret (pe_lst (pa_cons pe_str (pa_cons (pe_callB (cr_reprQ hG hr.units) (by rfl) T.repr (by decide +kernel) (pa_cons (pe_ix ix_list (pv 0) pe_int (fun _ _ => rfl)) pa_nil)) pa_nil)))))
      pss_nil)
      (pss_cons (ps_if (PW.pt (pw_and (pt_cmpR op_notN (pe_ix ix_list (pv 0) pe_int (fun _ _ => rfl)) pe_non (nomark _)) (pw_and1 (pt_not (pt_val (pe_call G_lis_bound (hr.mono (by decide)) rfl D_lis_bound.mg D_lis_bound.fn.kp D_lis_bound.bd .nil pass0 (pa_cons (pe_ix ix_list (pv 0) pe_int (fun _ _ => rfl)) (pa_cons (pv 1) pa_nil))))))))
      (pss_one (ps_ret (pe_lst (pa_cons pe_str (pa_cons (pe_callB (cr_reprQ hG hr.units) (by rfl) T.repr (by decide +kernel) (pa_cons (pe_ix ix_list (pv 0) pe_int (fun _ _ => rfl)) pa_nil)) pa_nil)))))
      pss_nil)
      (pss_one (ps_ret (pe_lst pa_nil)))))))), ?_⟩
    refine ⟨_, rfl, p, _, _, v0, rfl, rfl, R.sq, rfl, is_tag_d R.q0 R.g0.sh fun H1 s1 => ⟨_, rfl, ?_⟩⟩
    have R := R.same s1
    have hS := s1.seq hS
    have bad : ∀ (x : String) (d : PyData) (L' : List Str), L' = [Str.ofString x, d.shown] → dueK d0 d1 d2 d3 d4 = L' → (2 ≤ sizeLine ∧ ∀ q, H1 q = none → Q (.ref q) (upd H1 q (.lst [.str (Str.ofString x), .str d.shown]))) := fun x d L' e1 e2 =>
      ⟨by decide, new_list (L' := [_, _]) s1 ret (e2.trans e1) rfl⟩
    cases n0 : nameD d0 with
    | false => exact iteT ⟨_, rfl, p, _, _, v0, rfl, rfl, R.sq, rfl, rd_reprQ R.q0 R.g0.fit (by decide) (by decide) (bad _ d0 _ rfl (by unfold dueK; rw [if_pos n0]))⟩
    | true =>
    have i0 : ¬ nameD d0 = false := by rw [n0]; decide
    refine iteF ⟨_, rfl, p, _, _, v1, rfl, rfl, R.sq, rfl, is_num_d R.q1 ⟨_, rfl, ?_⟩⟩
    cases n1 : inD d1 0 3 with
    | false => exact iteT ⟨_, rfl, p, _, _, v1, rfl, rfl, R.sq, rfl, rd_reprQ R.q1 R.g1.fit (by decide) (by decide) (bad _ d1 _ rfl (by unfold dueK; rw [if_neg i0, if_pos n1]))⟩
    | true =>
    have i1 : ¬ inD d1 0 3 = false := by rw [n1]; decide
    refine iteF ?_
    dsimp only [tNext]
    refine join_ifs (fun k H' => k = !needD d2 ∧ H' = H1) (fun Q' fin => ?_) ?_
    · refine ⟨_, rfl, p, _, _, v2, rfl, rfl, R.sq, rfl, is_num_d R.q2 ⟨_, rfl, ?_⟩⟩
      cases h1 : inD d2 1 9 with
      | true =>
        refine iteF (fin _ _ ⟨?_, rfl⟩)
        unfold needD
        rw [h1, Bool.or_true]
        rfl
      | false =>
        refine iteT ⟨_, rfl, p, _, _, v2, rfl, rfl, R.sq, rfl, _, rfl, is_bnd_d R.q2 hS ⟨_, rfl, fin _ _ ⟨?_, rfl⟩⟩⟩
        unfold needD
        rw [h1, Bool.or_false]
    rintro _ _ ⟨rfl, rfl⟩
    cases n2 : needD d2 with
    | false => exact iteT ⟨_, rfl, p, _, _, v2, rfl, rfl, R.sq, rfl, rd_reprQ R.q2 R.g2.fit (by decide) (by decide) (bad _ d2 _ rfl (by unfold dueK; rw [if_neg i0, if_neg i1, if_pos n2]))⟩
    | true =>
    have i2 : ¬ needD d2 = false := by rw [n2]; decide
    refine iteF ?_
    dsimp only [tNext]
    rename_i H1
    refine join_ifs (fun k H' => k = !closeD d3 ∧ H' = H1) (fun Q' fin => ?_) ?_
    · refine ⟨_, rfl, p, _, _, v3, rfl, rfl, R.sq, rfl, rfl, _, rfl, ?_⟩
      by_cases hv : v3 = .non
      · refine ifNF hv (fin _ _ ⟨?_, rfl⟩)
        rw [(none_iff R.q3).mp hv]
        rfl
      · refine ifNT hv ⟨_, rfl, p, _, _, v3, rfl, rfl, R.sq, rfl, _, rfl, is_pair_d R.q3 hS ⟨_, rfl, fin _ _ ⟨?_, rfl⟩⟩⟩
        rw [close_eq fun q => hv ((none_iff R.q3).mpr q)]
    rintro _ _ ⟨rfl, rfl⟩
    cases n3 : closeD d3 with
    | false => exact iteT ⟨_, rfl, p, _, _, v3, rfl, rfl, R.sq, rfl, rd_reprQ R.q3 R.g3.fit (by decide) (by decide) (bad _ d3 _ rfl (by unfold dueK; rw [if_neg i0, if_neg i1, if_neg i2, if_pos n3]))⟩
    | true =>
    have i3 : ¬ closeD d3 = false := by rw [n3]; decide
    refine iteF ?_
    dsimp only [tNext]
    rename_i H1
    refine join_ifs (fun k H' => k = !endD d4 ∧ H' = H1) (fun Q' fin => ?_) ?_
    · refine ⟨_, rfl, p, _, _, v4, rfl, rfl, R.sq, rfl, rfl, _, rfl, ?_⟩
      by_cases hv : v4 = .non
      · refine ifNF hv (fin _ _ ⟨?_, rfl⟩)
        rw [(none_iff R.q4).mp hv]
        rfl
      · refine ifNT hv ⟨_, rfl, p, _, _, v4, rfl, rfl, R.sq, rfl, _, rfl, is_bnd_d R.q4 hS ⟨_, rfl, fin _ _ ⟨?_, rfl⟩⟩⟩
        rw [end_eq fun q => hv ((none_iff R.q4).mpr q)]
    rintro _ _ ⟨rfl, rfl⟩
    cases n4 : endD d4 with
    | false => exact iteT ⟨_, rfl, p, _, _, v4, rfl, rfl, R.sq, rfl, rd_reprQ R.q4 R.g4.fit (by decide) (by decide) (bad _ d4 _ rfl (by unfold dueK; rw [if_neg i0, if_neg i1, if_neg i2, if_neg i3, if_pos n4]))⟩
    | true =>
    refine iteF ⟨by decide, new_list (L' := []) s1 ret ?_ rfl⟩
    unfold dueK
    rw [if_neg i0, if_neg i1, if_neg i2, if_neg i3, if_neg (by rw [n4]; decide)]
end L

namespace L
open PySem L2 Hv
variable {K : PySem.W.Frag}
def kwsK : List (Str × V) := [("talks", .int 0), ("needs", .int 1), ("closing", .non), ("ends", .non)]
abbrev FunK (K : PySem.W.Frag) (f : Addr) (fd : FuncData) : Prop := FunD K "__init__" "Kind.__init__" (defArgs s_Kind_init) (defBody s_Kind_init) (defScope s_Kind_init) [] kwsK f fd
end L

namespace Hv
open PySem L2
theorem term0 : term 0 = Str.ofString "InvalidName" := by decide +kernel
theorem term1 : term 1 = Str.ofString "InvalidNumber" := by decide +kernel
theorem term3 : term 3 = Str.ofString "InvalidNeeds" := by decide +kernel
theorem term4 : term 4 = Str.ofString "InvalidClosing" := by decide +kernel
theorem term5 : term 5 = Str.ofString "InvalidEnds" := by decide +kernel
section
variable {K : PySem.W.Frag} {c : Nat → Addr} {C b p x dx : Addr} {H : Hp} {v0 v1 v2 v3 v4 : V} {d0 d1 d2 d3 d4 : PyData} {Q QR : VK} {E : XK}
theorem made_same {H1 : Hp} (nx : H1 x = none) (nd : H1 dx = none) : Same H1 (upd (upd H1 dx (.own x)) x (.ins C dx [])) := fun b o e => by
  rw [upd_ne (ne_of_none e nx), upd_ne (ne_of_none e nd)]
  exact e
/-- the errors that the catcher knows -/
structure Errs5 (K : PySem.W.Frag) (c : Nat → Addr) : Prop where
  x0 : ErrIx K c 0
  x1 : ErrIx K c 1
  x3 : ErrIx K c 3
  x4 : ErrIx K c 4
  x5 : ErrIx K c 5
/-- what is shown of each -/
structure Fits (d0 d1 d2 d3 d4 : PyData) : Prop where
  f0 : FitQ d0 2 60
  f1 : FitQ d1 2 60
  f2 : FitQ d2 2 60
  f3 : FitQ d3 2 60
  f4 : FitQ d4 2 60
theorem Row5.fits (h : Row5 K b p H v0 v1 v2 v3 v4 d0 d1 d2 d3 d4) : Fits d0 d1 d2 d3 d4 := ⟨h.g0.fit, h.g1.fit, h.g2.fit, h.g3.fit, h.g4.fit⟩
theorem two_fit {s : String} {d : PyData} (h : (Str.ofString s).length ≤ 60) (f : FitQ d 2 60) {z : Str} (hz : z ∈ [Str.ofString s, d.shown]) : Fit (.str z) 1 sizeLine := by
  have : 60 ≤ sizeLine := by decide
  simp only [List.mem_cons, List.not_mem_nil, or_false] at hz
  rcases hz with rfl | rfl
  · exact .str (strOk_of _) (by omega)
  · exact f.str (by decide)
theorem due_fit (F : Fits d0 d1 d2 d3 d4) : ∀ z ∈ dueK d0 d1 d2 d3 d4, Fit (.str z) 1 sizeLine := by
  intro z hz
  unfold dueK at hz
  split at hz
  · exact two_fit (by decide +kernel) F.f0 hz
  · split at hz
    · exact two_fit (by decide +kernel) F.f1 hz
    · split at hz
      · exact two_fit (by decide +kernel) F.f2 hz
      · split at hz
        · exact two_fit (by decide +kernel) F.f3 hz
        · split at hz
          · exact two_fit (by decide +kernel) F.f4 hz
          · cases hz
/-- Kind(..) of five values, within the catcher -/
theorem kind_tl (F : Five K b H v0 v1 v2 v3 v4 d0 d1 d2 d3 d4) (G : Fits d0 d1 d2 d3 d4) (X : Errs5 K c) (nx : H x = none) (nd : H dx = none) (ne : dx ≠ x)
    (bad : dueK d0 d1 d2 d3 d4 ≠ [] → ∀ q H2, H q = none → Same H H2 → H2 q = some (.lst ((dueK d0 d1 d2 d3 d4).map V.str)) → Q (.ref q) H2)
    (fine : dueK d0 d1 d2 d3 d4 = [] → ∀ H2, Same H H2 → KindP C H2 x [v0, v1, v2, v3, v4] → QR .non H2) :
    lk (sp_kind_initX K c C) [.ref x, v0, v1, v2, v3, v4] (upd (upd H dx (.own x)) x (.ins C dx [])) QR (echQ K c Q) := by
  have s1 := made_same (C := C) nx nd
  have tell : ∀ {j : Nat} {v : V} {d : PyData}, oneF j = true → ErrIx K c j → Dq K b H v d → FitQ d 2 60 → dueK d0 d1 d2 d3 d4 = [term j, d.shown] → GivenE c j (echQ K c Q) (upd (upd H dx (.own x)) x (.ins C dx [])) v := fun hj EX hv fv e =>
    ech_tell hj EX (hv.same s1) fv (by decide) (by decide) fun q H2 nq s2 h => bad (by rw [e]; intro z; cases z) q H2 (s1.free nq) (s1.trans s2) (by rw [e]; exact h)
  refine lk_in ⟨b, x, dx, v0, v1, v2, v3, v4, d0, d1, d2, d3, d4, rfl, F.same s1, upd_same, by rw [upd_ne ne, upd_same], ne, ⟨fun n0 => ?_, fun n0 n1 => ?_, fun n0 n1 n2 => ?_, fun n0 n1 n2 n3 => ?_, fun n0 n1 n2 n3 n4 => ?_, fun n0 n1 n2 n3 n4 H2 keep hr => ?_⟩⟩
  · refine tell (by decide) X.x0 F.q0 G.f0 ?_
    unfold dueK
    rw [if_pos n0, term0]
  · refine tell (by decide) X.x1 F.q1 G.f1 ?_
    unfold dueK
    rw [if_neg (by rw [n0]; decide), if_pos n1, term1]
  · refine tell (by decide) X.x3 F.q2 G.f2 ?_
    unfold dueK
    rw [if_neg (by rw [n0]; decide), if_neg (by rw [n1]; decide), if_pos n2, term3]
  · refine tell (by decide) X.x4 F.q3 G.f3 ?_
    unfold dueK
    rw [if_neg (by rw [n0]; decide), if_neg (by rw [n1]; decide), if_neg (by rw [n2]; decide), if_pos n3, term4]
  · refine tell (by decide) X.x5 F.q4 G.f4 ?_
    unfold dueK
    rw [if_neg (by rw [n0]; decide), if_neg (by rw [n1]; decide), if_neg (by rw [n2]; decide), if_neg (by rw [n3]; decide), if_pos n4, term5]
  · refine fine ?_ H2 (fun a o e => keep a o (ne_of_none e nx) (s1 _ _ e)) hr
    unfold dueK
    rw [if_neg (by rw [n0]; decide), if_neg (by rw [n1]; decide), if_neg (by rw [n2]; decide), if_neg (by rw [n3]; decide), if_neg (by rw [n4]; decide)]
/-- Kind(..).part, within the catcher -/
theorem kind_caught {i : Int} {v : V} {d : PyData} (R : Row5 K b p H v0 v1 v2 v3 v4 d0 d1 d2 d3 d4) (X : Errs5 K c) (hat : atI [v0, v1, v2, v3, v4] i = some v) (hv : Dq K b H v d) (fv : FitQ d 2 60)
    (ret : ∀ q H2, H q = none → Same H H2 → H2 q = some (.lst ((toldL (dueK d0 d1 d2 d3 d4) d).map V.str)) → Q (.ref q) H2) :
    ∀ x dx, H x = none → H dx = none → dx ≠ x → lk (sp_kind_initX K c C) [.ref x, v0, v1, v2, v3, v4] (upd (upd H dx (.own x)) x (.ins C dx []))
      (fun u H2 => u = .non ∧ ∃ a dx fs, V.ref x = .ref a ∧ H2 a = some (.ins C dx fs) ∧ sp_part C i [.ref a] H2 (toldQ K Q) E0) (echQ K c Q) := by
  intro x dx nx nd ne
  refine kind_tl R.five R.fits X nx nd ne (fun h q H2 nq s2 hq => ret q H2 nq s2 ?_) (fun h H2 s2 hr => ?_)
  · unfold toldL
    rw [if_neg h]
    exact hq
  · obtain ⟨dx', pt, h1, h2⟩ := hr
    refine ⟨rfl, x, dx', _, rfl, h1, x, dx', pt, _, v, rfl, h1, h2, hat, _, rfl, rd_reprQ (hv.same s2) fv (by decide) (by decide) ⟨by decide, fun q nq => ret q _ (s2.free nq) (s2.trans (same_new nq)) ?_⟩⟩
    rw [upd_same]
    unfold toldL
    rw [if_pos h]
    rfl
end
end Hv
namespace L
open PySem L2 Hv
variable {K : PySem.W.Frag}
def g_tnce {α : Type} (us mv ws : List α) : List α := match mv, ws with
  | [], [z0, z1, z2, z3] => us ++ [z0, z1, z2, z3]
  | _, _ => []
theorem kb_tnce {f : Addr} {fd : FuncData} (F : FunK K f fd) : ∃ mv : List Value, KBn K fd P_Kind_init 2 ["talks", "needs", "closing", "ends"] (fun us ws => g_tnce us mv ws) (fun vs zs => g_tnce vs [] zs) := by
  refine F.kbinds0 2 ["talks", "needs", "closing", "ends"] [] (fun {α} => g_tnce (α := α)) (by simp [kwsK]) (by simp [kwsK]) ?_ ?_
  · intro vs mz zs us mv ws r1 r2 r3
    cases r2 with
    | cons _ _ => first | exact .nil | (cases r3 <;> exact .nil)
    | nil =>
      cases r3 with
      | nil => exact .nil
      | cons b0 br0 =>
        cases br0 with
        | nil => exact .nil
        | cons b1 br1 =>
          cases br1 with
          | nil => exact .nil
          | cons b2 br2 =>
            cases br2 with
            | nil => exact .nil
            | cons b3 br3 =>
              cases br3 with
              | cons _ _ => first | exact .nil | (cases r3 <;> exact .nil)
              | nil =>
                exact r1.append (.cons b0 (.cons b1 (.cons b2 (.cons b3 .nil))))
  · intro D doc pm an cdv ct us mv ws h1 h2 h3
    match us, mv, ws, h1, h2, h3 with
    | [_, _], [], [_, _, _, _], _, _, _ => exact rfl
def g_ecntn {α : Type} (us mv ws : List α) : List α := match mv, ws with
  | [], [z0, z1, z2, z3, z4] => us ++ [z4, z3, z2, z1, z0]
  | _, _ => []
theorem kb_ecntn {f : Addr} {fd : FuncData} (F : FunK K f fd) : ∃ mv : List Value, KBn K fd P_Kind_init 1 ["ends", "closing", "needs", "talks", "name"] (fun us ws => g_ecntn us mv ws) (fun vs zs => g_ecntn vs [] zs) := by
  refine F.kbinds0 1 ["ends", "closing", "needs", "talks", "name"] [] (fun {α} => g_ecntn (α := α)) (by simp [kwsK]) (by simp [kwsK]) ?_ ?_
  · intro vs mz zs us mv ws r1 r2 r3
    cases r2 with
    | cons _ _ => first | exact .nil | (cases r3 <;> exact .nil)
    | nil =>
      cases r3 with
      | nil => exact .nil
      | cons b0 br0 =>
        cases br0 with
        | nil => exact .nil
        | cons b1 br1 =>
          cases br1 with
          | nil => exact .nil
          | cons b2 br2 =>
            cases br2 with
            | nil => exact .nil
            | cons b3 br3 =>
              cases br3 with
              | nil => exact .nil
              | cons b4 br4 =>
                cases br4 with
                | cons _ _ => first | exact .nil | (cases r3 <;> exact .nil)
                | nil =>
                  exact r1.append (.cons b4 (.cons b3 (.cons b2 (.cons b1 (.cons b0 .nil)))))
  · intro D doc pm an cdv ct us mv ws h1 h2 h3
    match us, mv, ws, h1, h2, h3 with
    | [_], [], [_, _, _, _, _], _, _, _ => exact rfl
def g_t {α : Type} (us mv ws : List α) : List α := match mv, ws with
  | [m0, m1, m2], [z0] => us ++ [z0, m0, m1, m2]
  | _, _ => []
theorem kb_t {f : Addr} {fd : FuncData} (F : FunK K f fd) : ∃ mv : List Value, KBn K fd P_Kind_init 2 ["talks"] (fun us ws => g_t us mv ws) (fun vs zs => g_t vs [(V.int 1), (V.non), (V.non)] zs) := by
  refine F.kbinds0 2 ["talks"] [("needs", .int 1), ("closing", .non), ("ends", .non)] (fun {α} => g_t (α := α)) (by simp [kwsK]) (by simp [kwsK]) ?_ ?_
  · intro vs mz zs us mv ws r1 r2 r3
    cases r2 with
    | nil => exact .nil
    | cons a0 ar0 =>
      cases ar0 with
      | nil => exact .nil
      | cons a1 ar1 =>
        cases ar1 with
        | nil => exact .nil
        | cons a2 ar2 =>
          cases ar2 with
          | cons _ _ => first | exact .nil | (cases r3 <;> exact .nil)
          | nil =>
            cases r3 with
            | nil => exact .nil
            | cons b0 br0 =>
              cases br0 with
              | cons _ _ => first | exact .nil | (cases r3 <;> exact .nil)
              | nil =>
                exact r1.append (.cons b0 (.cons a0 (.cons a1 (.cons a2 .nil))))
  · intro D doc pm an cdv ct us mv ws h1 h2 h3
    match us, mv, ws, h1, h2, h3 with
    | [_, _], [_, _, _], [_], _, _, _ => exact ⟨_, _, _, _, _, _, rfl, rfl, ⟨_, _, _, _, _, _, rfl, rfl, ⟨_, _, _, _, _, _, rfl, rfl, rfl⟩⟩⟩
def g_tn {α : Type} (us mv ws : List α) : List α := match mv, ws with
  | [m0, m1], [z0, z1] => us ++ [z0, z1, m0, m1]
  | _, _ => []
theorem kb_tn {f : Addr} {fd : FuncData} (F : FunK K f fd) : ∃ mv : List Value, KBn K fd P_Kind_init 2 ["talks", "needs"] (fun us ws => g_tn us mv ws) (fun vs zs => g_tn vs [(V.non), (V.non)] zs) := by
  refine F.kbinds0 2 ["talks", "needs"] [("closing", .non), ("ends", .non)] (fun {α} => g_tn (α := α)) (by simp [kwsK]) (by simp [kwsK]) ?_ ?_
  · intro vs mz zs us mv ws r1 r2 r3
    cases r2 with
    | nil => exact .nil
    | cons a0 ar0 =>
      cases ar0 with
      | nil => exact .nil
      | cons a1 ar1 =>
        cases ar1 with
        | cons _ _ => first | exact .nil | (cases r3 <;> exact .nil)
        | nil =>
          cases r3 with
          | nil => exact .nil
          | cons b0 br0 =>
            cases br0 with
            | nil => exact .nil
            | cons b1 br1 =>
              cases br1 with
              | cons _ _ => first | exact .nil | (cases r3 <;> exact .nil)
              | nil =>
                exact r1.append (.cons b0 (.cons b1 (.cons a0 (.cons a1 .nil))))
  · intro D doc pm an cdv ct us mv ws h1 h2 h3
    match us, mv, ws, h1, h2, h3 with
    | [_, _], [_, _], [_, _], _, _, _ => exact ⟨_, _, _, _, _, _, rfl, rfl, ⟨_, _, _, _, _, _, rfl, rfl, rfl⟩⟩
def g_ec {α : Type} (us mv ws : List α) : List α := match mv, ws with
  | [m0, m1], [z0, z1] => us ++ [m0, m1, z1, z0]
  | _, _ => []
theorem kb_ec {f : Addr} {fd : FuncData} (F : FunK K f fd) : ∃ mv : List Value, KBn K fd P_Kind_init 2 ["ends", "closing"] (fun us ws => g_ec us mv ws) (fun vs zs => g_ec vs [(V.int 0), (V.int 1)] zs) := by
  refine F.kbinds0 2 ["ends", "closing"] [("talks", .int 0), ("needs", .int 1)] (fun {α} => g_ec (α := α)) (by simp [kwsK]) (by simp [kwsK]) ?_ ?_
  · intro vs mz zs us mv ws r1 r2 r3
    cases r2 with
    | nil => exact .nil
    | cons a0 ar0 =>
      cases ar0 with
      | nil => exact .nil
      | cons a1 ar1 =>
        cases ar1 with
        | cons _ _ => first | exact .nil | (cases r3 <;> exact .nil)
        | nil =>
          cases r3 with
          | nil => exact .nil
          | cons b0 br0 =>
            cases br0 with
            | nil => exact .nil
            | cons b1 br1 =>
              cases br1 with
              | cons _ _ => first | exact .nil | (cases r3 <;> exact .nil)
              | nil =>
                exact r1.append (.cons a0 (.cons a1 (.cons b1 (.cons b0 .nil))))
  · intro D doc pm an cdv ct us mv ws h1 h2 h3
    match us, mv, ws, h1, h2, h3 with
    | [_, _], [_, _], [_, _], _, _, _ => exact ⟨_, _, _, _, _, _, rfl, rfl, ⟨_, _, _, _, _, _, rfl, rfl, rfl⟩⟩
end L
namespace L
open PySem L2 Hv
variable {P : Program} {w : World} {K : PySem.W.Frag} {mg : Str → Option Value} {base : Heap}
def sp_right (K : PySem.W.Frag) (Tb : List (Addr × Str)) : Sp := fun vs H Q _ => ∃ (b bl : Addr) (n : Nat), vs = [.ref b, .ref bl] ∧ Bag H b n ∧ n < 600000 ∧ SqL K H bl (BL.map V.str) ∧ bl ≠ b ∧ LamX.Tabs Tb H ∧ ∀ H', ExtB b H H' → Bag H' b (n + 80) → LamX.Tabs Tb H' → Q (.bl true) H'
abbrev s_right : Stmt := top 75
abbrev N_right : List Str := ["_law_bag_here", "_law_bounds_here", "_law_row", "_law_before", "_law_due_here", "_law_told"]
abbrev P_right : List Str := ["_law_bag_here", "_law_bounds_here"]
theorem sc_right : FnScope N_right P_right (defScope s_right) := ⟨rfl, rfl, rfl, by decide +kernel, rfl, by decide +kernel, by decide +kernel⟩
abbrev qR : Str := (PyProof.Rows.envOfC "_law_right" (defScope s_right) 0 0 .none).qual
structure KTxt (K : PySem.W.Frag) (mg : Str → Option Value) (C : Addr) : Prop where
  mg : mg "Kind" = some (.ref C)
  c : Cls K C
  na : NoAttr K C "parts"
theorem ok_right {C f f1 f2 f3 f4 f5 f7 f8 f9 fK cR PR : Addr} {fd fd1 fd2 fd3 fd4 fd5 fd7 fd8 fd9 fdK : FuncData} {c : Nat → Addr} {Tb : List (Addr × Str)} (D : DefAt K mg "_law_right" s_right P_right f fd) (T : Txt K mg) (EN : ErrNames mg c) (hcode : fd.code = .ref cR) (TB : LamX.TabB base mg cR PR)
    (hmT : (PR, qR ++ "<lambda>") ∈ Tb) (hu : ∀ p ∈ Tb, p.1 = PR → p.2 = qR ++ "<lambda>") (XS : Errs5 K c) (TL : KTxt K mg C)
    (D_drawn : DefAt K mg "_law_drawn" s_drawn P_drawn f2 fd2) (G_drawn : FnOk P w K mg base CX0 4 f2 fd2 P_drawn (sp_drawn K)) (D_due : DefAt K mg "_law_due" s_due P_due f3 fd3) (G_due : OkG P w K mg base CX0 3 f3 fd3 P_due (sp_due K))
    (D_Kind_talks : PropAt K C "talks" "Kind.talks" s_Kind_talks P_Kind_talks f4 fd4) (D_Kind_ends : PropAt K C "ends" "Kind.ends" s_Kind_ends P_Kind_ends f5 fd5)
    (D_caught : DefAt K mg "_law_caught" s_caught P_caught f7 fd7) (D_sort : DefAt K mg "_law_sort" s_sort P_sort f8 fd8) (G_sort : FnP P w K mg base 2 f8 fd8 P_sort (sp_sort K c)) (D_held : DefAt K mg "_law_held" s_held P_held f9 fd9) (G_held : FnP P w K mg base 1 f9 fd9 P_held (sp_held K c))
    (M_Kind : Mk K C fK) (FK : FunK K fK fdK) (G_Kind_initX : FnOk P w K mg base (L2.CX P w) 5 fK fdK P_Kind_init (sp_kind_initX K c C)) : OkG P w K mg base CX0 11 f fd P_right (sp_right K Tb) := by
  have G_Kind_initX := fn_lk G_Kind_initX
  have G_Kind_talks : FnOk P w K mg base CX0 1 f4 fd4 P_Kind_talks (sp_part C 1) := ok_Kind_talks D_Kind_talks TL.c TL.na
  have G_Kind_ends : FnOk P w K mg base CX0 1 f5 fd5 P_Kind_ends (sp_part C 4) := ok_Kind_ends D_Kind_ends TL.c TL.na
  obtain ⟨mv1, KB_talks_needs_closing_ends⟩ := kb_tnce FK
  obtain ⟨mv2, KB_ends_closing_needs_talks_name⟩ := kb_ecntn FK
  refine okGc D.fn sc_right hcode (fun vs H Q E h => ?_) (fun A outer s H vs Q E hG hr h => ?_)
  · obtain ⟨b, bl, n, rfl, _⟩ := h
    rfl
  · obtain ⟨b, bl, n, rfl, hb, hn, hS, nb, hT, ret⟩ := h
    refine ⟨_, (pss_cons (ps_asg (pe_call G_drawn (hr.mono (by decide)) rfl D_drawn.mg D_drawn.fn.kp D_drawn.bd .nil pass0 (pa_cons (pv 0) (pa_cons (pv 1) pa_nil))) (pg_name (i := 2) sc_right.nd rfl (.inr rfl)))
      (pss_cons (ps_par (i := 3) (j := 4) (by rfl) sc_right.nd rfl rfl (by decide) rfl rfl (pa_cons (pe_callB (cr_reprQ hG hr.units) (by rfl) T.repr (by decide +kernel) (pa_cons (pv 2) pa_nil)) (pa_cons (pe_callG G_due hG (hr.mono (by decide)) rfl D_due.mg D_due.fn.kp D_due.bd .nil pass0 (pa_cons (pv 2) (pa_cons (pv 1) pa_nil))) pa_nil)) (by rfl))
      (pss_cons (ps_asg (pe_caught (k := 6) (hr.mono (by decide)) hG T EN D_caught D_sort G_sort D_held G_held rfl TB rfl hmT hu (LamX.lamS_by (sc := defScope s_right) (by decide +kernel)) rfl (fun _ _ _ _ _ => rfl) (fun A1 outer1 s1 H1 E1 f1 c1 hr1 => (pe_propD (pe_makeK (E := E1) M_Kind G_Kind_initX (hr1.mono (by decide)) rfl TL.mg KB_talks_needs_closing_ends (passes_call (takes_of rfl rfl rfl rfl) (fun _ _ _ _ z => z)) (pa_cons (pe_ix (show IxR _ (rIxL K) from ix_list) (pv 2) pe_int (fun _ _ => rfl)) pa_nil) (pk_cons (pe_ix (show IxR _ (rIxL K) from ix_list) (pv 2) pe_int (fun _ _ => rfl)) (pk_cons (pe_ix (show IxR _ (rIxL K) from ix_list) (pv 2) pe_int (fun _ _ => rfl)) (pk_cons (pe_ix (show IxR _ (rIxL K) from ix_list) (pv 2) pe_int (fun _ _ => rfl)) (pk_cons (pe_ix (show IxR _ (rIxL K) from ix_list) (pv 2) pe_int (fun _ _ => rfl)) pk_nil))))) TL.c D_Kind_talks.pr G_Kind_talks D_Kind_talks.bd (hr1.mono (by decide))))) (pg_name (i := 5) sc_right.nd rfl (.inl rfl)))
      (pss_cons (ps_if (pt_cmpR (op_neD hr.units) (pv 5) (pe_ifExp (pt_cmpR (op_eqD hr.units) (pv 4) (pe_lst pa_nil) (nomark _)) (pe_lst (pa_cons pe_str (pa_cons (pe_callB (cr_reprQ hG hr.units) (by rfl) T.repr (by decide +kernel) (pa_cons (pe_ix ix_list (pv 2) pe_int (fun _ _ => rfl)) pa_nil)) pa_nil))) (pv 4)) (nomark _))
      (pss_one (ps_ret pe_bl))
      pss_nil)
      (pss_cons (ps_asg (pe_caught (k := 6) (hr.mono (by decide)) hG T EN D_caught D_sort G_sort D_held G_held rfl TB rfl hmT hu (LamX.lamS_by (sc := defScope s_right) (by decide +kernel)) rfl (fun _ _ _ _ _ => rfl) (fun A1 outer1 s1 H1 E1 f1 c1 hr1 => (pe_propD (pe_makeK0 (E := E1) M_Kind G_Kind_initX (hr1.mono (by decide)) rfl TL.mg KB_ends_closing_needs_talks_name (passes_call (takes_of rfl rfl rfl rfl) (fun _ _ _ _ z => z)) (pk_cons (pe_ix (show IxR _ (rIxL K) from ix_list) (pv 2) pe_int (fun _ _ => rfl)) (pk_cons (pe_ix (show IxR _ (rIxL K) from ix_list) (pv 2) pe_int (fun _ _ => rfl)) (pk_cons (pe_ix (show IxR _ (rIxL K) from ix_list) (pv 2) pe_int (fun _ _ => rfl)) (pk_cons (pe_ix (show IxR _ (rIxL K) from ix_list) (pv 2) pe_int (fun _ _ => rfl)) (pk_cons (pe_ix (show IxR _ (rIxL K) from ix_list) (pv 2) pe_int (fun _ _ => rfl)) pk_nil)))))) TL.c D_Kind_ends.pr G_Kind_ends D_Kind_ends.bd (hr1.mono (by decide))))) (pg_name (i := 5) sc_right.nd rfl (.inl rfl)))
      (pss_one (ps_ret (pe_and (pe_cmpR (op_eqD hr.units) (pv 5) (pe_ifExp (pt_cmpR (op_eqD hr.units) (pv 4) (pe_lst pa_nil) (nomark _)) (pe_lst (pa_cons pe_str (pa_cons (pe_callB (cr_reprQ hG hr.units) (by rfl) T.repr (by decide +kernel) (pa_cons (pe_ix ix_list (pv 2) pe_int (fun _ _ => rfl)) pa_nil)) pa_nil))) (pv 4)) (nomark _)) (pe_one (pe_cmpR op_eq (pe_callB (cr_reprQ hG hr.units) (by rfl) T.repr (by decide +kernel) (pa_cons (pv 2) pa_nil)) (pv 3) (nomark _))))))))))), ?_⟩
    refine ⟨_, rfl, _, rfl, b, bl, n, rfl, hb, by omega, hS, nb, fun p vs ds H1 np pb M1 => ?_⟩
    have u1 := M1.u
    have b1 := M1.bb
    obtain ⟨v0, v1, v2, v3, v4, d0, d1, d2, d3, d4, R1⟩ := M1.row pb
    have hS1 := u1.seq nb hS
    have T1 := tabs_but hT hb u1
    have y1 : ExtB b H H1 := ExtB.of u1
    clear M1 vs ds hS
    -- before, due
    refine ⟨_, rfl, rd_reprQ R1.dq R1.fit (by decide) (by decide) ?_⟩
    refine ⟨_, rfl, _, rfl, b, p, bl, v0, v1, v2, v3, v4, d0, d1, d2, d3, d4, rfl, R1, hS1, fun du H2 du0 s2 hdu => ⟨_, _, rfl, ?_⟩⟩
    have df := due_fit R1.fits
    -- the first call
    refine ⟨T1.ext s2, fun H3 x3 T3 => ?_⟩
    have R3 := (R1.same s2).ext x3
    have hdu3 := x3 _ _ hdu (by intro ps q; cases q)
    have b3 := ext_bag x3 (b1.same s2)
    have y3 : ExtB b H H3 := (y1.trans (ExtB.of (But.of s2))).trans (ExtB.ofN x3)
    clear T1 b1 y1 x3 s2 hdu
    refine ⟨_, rfl, p, _, _, v0, rfl, rfl, R3.sq, rfl, _, rfl, p, _, _, v1, rfl, rfl, R3.sq, rfl, _, rfl, p, _, _, v2, rfl, rfl, R3.sq, rfl, _, rfl, p, _, _, v3, rfl, rfl, R3.sq, rfl, _, rfl, p, _, _, v4, rfl, rfl, R3.sq, rfl, rfl, rfl, kind_caught R3 XS rfl R3.q1 R3.g1.fit fun tl1 H4 ntl s4 htl => ?_⟩
    have R4 := R3.same s4
    have hdu4 := s4 _ _ hdu3
    have b4 := b3.same s4
    have T4 := T3.ext s4
    have y4 := y3.trans (ExtB.of (But.of s4))
    clear R3 hdu3 b3 T3 y3 s4
    dsimp only [gName]
    refine join_no (fun H' => Same H4 H') (fun Q' fin => ?_) ?_
    · exact told_ne (i := 5) (j := 4) rfl htl rfl hdu4 df (fun H5 Q s5 q => ⟨_, rfl, p, _, _, v1, rfl, rfl, (R4.same s5).sq, rfl, q⟩) R4.q1 R4.g1.fit (by decide) (by decide) fun H5 s5 => ⟨_, rfl, fin _ _ rfl s5⟩
    intro H5 s5
    have R5 := R4.same s5
    have hdu5 := s5 _ _ hdu4
    have b5 := b4.same s5
    have T5 := T4.ext s5
    have y5 := y4.trans (ExtB.of (But.of s5))
    clear R4 hdu4 b4 T4 y4 s5 htl
    -- the second call
    refine ⟨T5, fun H6 x6 T6 => ?_⟩
    have R6 := R5.ext x6
    have hdu6 := x6 _ _ hdu5 (by intro ps q; cases q)
    have b6 := ext_bag x6 b5
    have y6 := y5.trans (ExtB.ofN x6)
    refine ⟨_, rfl, p, _, _, v4, rfl, rfl, R6.sq, rfl, _, rfl, p, _, _, v3, rfl, rfl, R6.sq, rfl, _, rfl, p, _, _, v2, rfl, rfl, R6.sq, rfl, _, rfl, p, _, _, v1, rfl, rfl, R6.sq, rfl, _, rfl, p, _, _, v0, rfl, rfl, R6.sq, rfl, rfl, rfl, kind_caught R6 XS rfl R6.q4 R6.g4.fit fun tl2 H7 ntl s7 htl => ?_⟩
    have R7 := R6.same s7
    have hdu7 := s7 _ _ hdu6
    have b7 := b6.same s7
    have T7 := T6.ext s7
    have y7 := y6.trans (ExtB.of (But.of s7))
    clear R6 hdu6 b6 T6 y6 s7 R5 hdu5 b5 T5 y5 x6
    refine told_eq (i := 5) (j := 4) rfl htl rfl hdu7 df (fun H5 Q s5 q => ⟨_, rfl, p, _, _, v4, rfl, rfl, (R7.same s5).sq, rfl, q⟩) R7.q4 R7.g4.fit (by decide) (by decide) fun H8 s8 => ⟨_, rfl, iteT ?_⟩
    refine ⟨_, rfl, rd_reprQ (R7.same s8).dq R7.fit (by decide) (by decide) ⟨_, rfl, rfl, ?_⟩⟩
    rw [decide_eq_true rfl]
    exact ret _ (y7.trans (ExtB.of (But.of s8))) ((b7.same s8).mono (by omega)) (T7.ext s8)
end L
namespace Hv
open PySem L2
theorem due1 : dueK (.str (Str.ofString "A")) (.int 4) (.int 1) .none .none = [Str.ofString "InvalidName", Str.ofString "'A'"] := by decide +kernel
theorem due2 : dueK (.str (Str.ofString "a")) (.int 4) (.int 0) .none .none = [Str.ofString "InvalidNumber", Str.ofString "4"] := by decide +kernel
theorem due3 : dueK (.str (Str.ofString "a")) (.int 0) (.int 1) (.tuple [.int 0, .str (Str.ofString "1/0")]) (.str (Str.ofString "1/0")) = [Str.ofString "InvalidClosing", Str.ofString "(0, '1/0')"] := by decide +kernel
def fitsB (d0 d1 d2 d3 d4 : PyData) : Bool := [d0, d1, d2, d3, d4].all fun d => fitB d 2 60
theorem fits_of {d0 d1 d2 d3 d4 : PyData} (h : fitsB d0 d1 d2 d3 d4 = true) : Fits d0 d1 d2 d3 d4 := by
  have k := List.all_eq_true.mp h
  exact ⟨fitB_ok (k _ (by simp)), fitB_ok (k _ (by simp)), fitB_ok (k _ (by simp)), fitB_ok (k _ (by simp)), fitB_ok (k _ (by simp))⟩
theorem kind_lit {K : PySem.W.Frag} {c : Nat → Addr} {C b : Addr} {H : Hp} {v0 v1 v2 v3 v4 : V} {d0 d1 d2 d3 d4 : PyData} {Q QR : VK} {a u : Str} (F : Five K b H v0 v1 v2 v3 v4 d0 d1 d2 d3 d4) (g : fitsB d0 d1 d2 d3 d4 = true) (h : dueK d0 d1 d2 d3 d4 = [a, u]) (X : Errs5 K c)
    (ret : ∀ q H2, H q = none → Same H H2 → H2 q = some (.lst [.str a, .str u]) → Q (.ref q) H2) :
    ∀ x dx, H x = none → H dx = none → dx ≠ x → lk (sp_kind_initX K c C) [.ref x, v0, v1, v2, v3, v4] (upd (upd H dx (.own x)) x (.ins C dx [])) QR (echQ K c Q) := fun x dx nx nd ne =>
  kind_tl F (fits_of g) X nx nd ne (fun _ q H2 nq s2 hq => ret q H2 nq s2 (by rw [h] at hq; exact hq)) fun e => by rw [h] at e; cases e
def sp_law (K : PySem.W.Frag) (Tb : List (Addr × Str)) : Sp := fun vs H Q _ => ∃ (a : Addr) (ns : List Int), vs = [.ref a] ∧ SqL K H a (ns.map V.int) ∧ ns.length ≤ 63 ∧ (∀ z ∈ ns, Builtin.Int.intBits z ≤ 1048576) ∧ LamX.Tabs Tb H ∧ ∀ H', Q (.bl true) H'
/-- a list is put in the place of a list -/
theorem tabs_put {T : List (Addr × Str)} {H : Hp} {L : Addr} {xs ys : List V} (t : LamX.Tabs T H) (hL : H L = some (.lst xs)) : LamX.Tabs T (upd H L (.lst ys)) := by
  intro p hp
  obtain ⟨ps, z1, z2, z3⟩ := t p hp
  refine ⟨ps, by rw [upd_ne (ne_of z1 hL (by intro q; cases q))]; exact z1, z2, fun pos cv hc => ?_⟩
  obtain ⟨cc, e1, e2⟩ := z3 pos cv hc
  exact ⟨cc, e1, by rw [upd_ne (ne_of e2 hL (by intro q; unfold LamX.CodeO at q; cases q))]; exact e2⟩
end Hv
namespace L
open PySem L2 Hv
variable {P : Program} {w : World} {K : PySem.W.Frag} {mg : Str → Option Value} {base : Heap}
abbrev s_law : Stmt := top 76
abbrev N_law : List Str := ["_law_script", "_law_bounds_here", "_law_told", "_law_k", "_law_bag_here", "_law_turn"]
abbrev P_law : List Str := ["_law_script"]
theorem sc_law : FnScope N_law P_law (defScope s_law) := ⟨rfl, rfl, rfl, by decide +kernel, rfl, by decide +kernel, by decide +kernel⟩
abbrev qL : Str := (PyProof.Rows.envOfC "law" (defScope s_law) 0 0 .none).qual
theorem ok_law {C f f1 f2 f3 f4 f5 f7 f8 f9 fK cL PL : Addr} {fd fd1 fd2 fd3 fd4 fd5 fd7 fd8 fd9 fdK : FuncData} {c : Nat → Addr} {Tb : List (Addr × Str)} (D : Fun K "law" "law" s_law f fd) (T : Txt K mg) (EN : ErrNames mg c) (hcode : fd.code = .ref cL) (TB : LamX.TabB base mg cL PL)
    (hmT : (PL, qL ++ "<lambda>") ∈ Tb) (hu : ∀ p ∈ Tb, p.1 = PL → p.2 = qL ++ "<lambda>") (XS : Errs5 K c) (TL : KTxt K mg C)
    (D_bag : DefAt K mg "_law_bag" s_bag P_bag f1 fd1) (D_seed : DefAt K mg "_law_seed" s_seed P_seed f2 fd2) (D_bounds : DefAt K mg "_law_bounds" s_bounds P_bounds f3 fd3) (D_common : DefAt K mg "_law_common" s_common P_common f4 fd4)
    (D_right : DefAt K mg "_law_right" s_right P_right f5 fd5) (G_right : OkG P w K mg base CX0 11 f5 fd5 P_right (sp_right K Tb)) (D_caught : DefAt K mg "_law_caught" s_caught P_caught f7 fd7)
    (D_sort : DefAt K mg "_law_sort" s_sort P_sort f8 fd8) (G_sort : FnP P w K mg base 2 f8 fd8 P_sort (sp_sort K c)) (D_held : DefAt K mg "_law_held" s_held P_held f9 fd9) (G_held : FnP P w K mg base 1 f9 fd9 P_held (sp_held K c))
    (M_Kind : Mk K C fK) (FK : FunK K fK fdK) (G_Kind_initX : FnOk P w K mg base (L2.CX P w) 5 fK fdK P_Kind_init (sp_kind_initX K c C)) : OkG P w K mg base CX0 12 f fd P_law (sp_law K Tb) := by
  have G_bag : FnOk P w K mg base CX0 1 f1 fd1 P_bag sp_bag := ok_bag D_bag T
  have G_seed : FnOk P w K mg base CX0 1 f2 fd2 P_seed (sp_seed K) := ok_seed D_seed T
  have G_bounds : FnOk P w K mg base CX0 2 f3 fd3 P_bounds sp_bounds := ok_bounds D_bounds T D_common
  have G_Kind_initX := fn_lk G_Kind_initX
  obtain ⟨mv1, KB_talks⟩ := kb_t FK
  obtain ⟨mv2, KB_talks_needs⟩ := kb_tn FK
  obtain ⟨mv3, KB_ends_closing⟩ := kb_ec FK
  refine okGc D sc_law hcode (fun vs H Q E h => ?_) (fun A outer s H vs Q E hG hr h => ?_)
  · obtain ⟨a, ns, rfl, _⟩ := h
    rfl
  · obtain ⟨a, ns, rfl, hS, hlen, bits, hT, ret⟩ := h
    refine ⟨_, (pss_cons (ps_asg (pe_call0 G_bounds (hr.mono (by decide)) rfl D_bounds.mg D_bounds.fn.kp D_bounds.bd .nil pass0) (pg_name (i := 1) sc_law.nd rfl (.inr rfl)))
      (pss_cons (ps_asg (pe_lst (pa_cons (pe_caught (k := 6) (hr.mono (by decide)) hG T EN D_caught D_sort G_sort D_held G_held rfl TB rfl hmT hu (LamX.lamS_by (sc := defScope s_law) (by decide +kernel)) rfl (fun _ _ _ _ _ => rfl) (fun A1 outer1 s1 H1 E1 f1 c1 hr1 => (pe_makeK (E := E1) M_Kind G_Kind_initX (hr1.mono (by decide)) rfl TL.mg KB_talks (passes_call (takes_of rfl rfl rfl rfl) (fun _ _ _ _ z => z)) (pa_cons pe_str pa_nil) (pk_cons pe_int pk_nil)))) pa_nil)) (pg_name (i := 2) sc_law.nd rfl (.inl rfl)))
      (pss_cons (ps_expr (pe_bm PySem.F.plainAttrs_list PySem.F.slot_list_append PySem.F.type_list_append mt_append (pv 2) (pa_cons (pe_caught (k := 6) (hr.mono (by decide)) hG T EN D_caught D_sort G_sort D_held G_held rfl TB rfl hmT hu (LamX.lamS_by (sc := defScope s_law) (by decide +kernel)) rfl (fun _ _ _ _ _ => rfl) (fun A1 outer1 s1 H1 E1 f1 c1 hr1 => (pe_makeK (E := E1) M_Kind G_Kind_initX (hr1.mono (by decide)) rfl TL.mg KB_talks_needs (passes_call (takes_of rfl rfl rfl rfl) (fun _ _ _ _ z => z)) (pa_cons pe_str pa_nil) (pk_cons pe_int (pk_cons pe_int pk_nil))))) pa_nil)))
      (pss_cons (ps_expr (pe_bm PySem.F.plainAttrs_list PySem.F.slot_list_append PySem.F.type_list_append mt_append (pv 2) (pa_cons (pe_caught (k := 6) (hr.mono (by decide)) hG T EN D_caught D_sort G_sort D_held G_held rfl TB rfl hmT hu (LamX.lamS_by (sc := defScope s_law) (by decide +kernel)) rfl (fun _ _ _ _ _ => rfl) (fun A1 outer1 s1 H1 E1 f1 c1 hr1 => (pe_makeK (E := E1) M_Kind G_Kind_initX (hr1.mono (by decide)) rfl TL.mg KB_ends_closing (passes_call (takes_of rfl rfl rfl rfl) (fun _ _ _ _ z => z)) (pa_cons pe_str pa_nil) (pk_cons pe_str (pk_cons (pe_tup (pa_cons pe_int (pa_cons pe_str pa_nil))) pk_nil))))) pa_nil)))
      (pss_cons (ps_if (pt_cmpR (op_neD hr.units) (pv 2) (pe_lst (pa_cons (pe_lst (pa_cons pe_str (pa_cons pe_str pa_nil))) (pa_cons (pe_lst (pa_cons pe_str (pa_cons pe_str pa_nil))) (pa_cons (pe_lst (pa_cons pe_str (pa_cons pe_str pa_nil))) pa_nil)))) (nomark _))
      (pss_one (ps_ret pe_bl))
      pss_nil)
      (pss_cons (ps_for PassesOwn.never rfl (pi_range1 (by rfl) T.range (pa_cons (pe_callB (call_max2 rfl) (by rfl) T.max (by decide +kernel) (pa_cons pe_int (pa_cons (pe_callB (call_min2 rfl) (by rfl) T.min (by decide +kernel) (pa_cons (pe_callB call_len_seq (by rfl) T.len (by decide +kernel) (pa_cons (pv 0) pa_nil)) (pa_cons pe_int pa_nil))) pa_nil))) pa_nil)) (pg_name (i := 3) sc_law.nd rfl (.inl rfl))
      (pss_cons (ps_asg (pe_call G_bag (hr.mono (by decide)) rfl D_bag.mg D_bag.fn.kp D_bag.bd .nil pass0 (pa_cons (pe_call G_seed (hr.mono (by decide)) rfl D_seed.mg D_seed.fn.kp D_seed.bd .nil pass0 (pa_cons (pv 0) (pa_cons (pv 3) pa_nil))) pa_nil)) (pg_name (i := 4) sc_law.nd rfl (.inr rfl)))
      (pss_one (ps_if (pt_not (pt_val (pe_callB (cr_all rfl) (by rfl) T.all (by decide +kernel) (pa_cons (pe_lc (own := [("_law_turn", 5)]) (g := gName 5) rfl sc_law.nd (pi_range1 (by rfl) T.range (pa_cons pe_int pa_nil)) (blkOk_by (own := [("_law_turn", 5)]) (N := N_law) (sc := defScope s_law) (by decide +kernel)) (fun _ _ _ _ _ => (pg_name (i := 5) sc_law.nd rfl (.inl rfl))) (fun _ _ _ _ _ => pts_nil) (fun _ _ _ _ _ => (pe_callG G_right hG (hr.mono (by decide)) rfl D_right.mg D_right.fn.kp D_right.bd .nil pass0 (pa_cons (pv 4) (pa_cons (pv 1) pa_nil))))) pa_nil))))
      (pss_one (ps_ret pe_bl))
      pss_nil))))
      (pss_one (ps_ret pe_bl)))))))), ?_⟩
    refine ⟨rfl, fun bl H1 bl0 s1 h1 => ?_⟩
    dsimp only [gName]
    refine ⟨hT.ext s1, fun H2 x2 T2 => ⟨rfl, rfl, fun x dx nx nd ne => kind_lit (b := 0) ⟨.str _, .int _, .int _, .non, .non, by decide +kernel, rfl, rfl, rfl⟩ (by decide +kernel) due1 XS (fun p1 H3 p10 s3 hp1 => ?_) x dx nx nd ne⟩⟩
    refine ⟨by show 1 ≤ sizeLine; decide, fun L nL => ?_⟩
    have p1L : p1 ≠ L := ne_of_none hp1 nL
    have s4 := s3.trans (same_new (o := .lst [.ref p1]) nL)
    have hp4 := same_new (o := .lst [.ref p1]) nL _ _ hp1
    refine ⟨_, rfl, .inl ⟨rfl, _, SqL.of upd_same⟩, T2.ext s4, fun H5 x5 T5 => ?_⟩
    have hL5 := x5 _ _ (upd_same (H := H3) (a := L) (o := .lst [.ref p1])) (by intro ps q; cases q)
    have hp5 := x5 _ _ hp4 (by intro ps q; cases q)
    refine ⟨rfl, rfl, fun x dx nx nd ne => kind_lit (b := 0) ⟨.str _, .int _, .int _, .non, .non, by decide +kernel, rfl, rfl, rfl⟩ (by decide +kernel) due2 XS (fun p2 H6 p20 s6 hp2 => ?_) x dx nx nd ne⟩
    have hL6 := s6 _ _ hL5
    have p2L : p2 ≠ L := (ne_of_none hL5 p20).symm
    refine ⟨L, _, _, rfl, rfl, hL6, by show 1 < sizeLine; decide, ?_⟩
    have T7 : LamX.Tabs Tb (upd H6 L (.lst ([.ref p1] ++ [.ref p2]))) := tabs_put (T5.ext s6) hL6
    have hp17 : upd H6 L (.lst ([.ref p1] ++ [.ref p2])) p1 = some (.lst [.str (Str.ofString "InvalidName"), .str (Str.ofString "'A'")]) := by rw [upd_ne p1L]; exact s6 _ _ hp5
    have hp27 : upd H6 L (.lst ([.ref p1] ++ [.ref p2])) p2 = some (.lst [.str (Str.ofString "InvalidNumber"), .str (Str.ofString "4")]) := by rw [upd_ne p2L]; exact hp2
    have hL7 : upd H6 L (.lst ([.ref p1] ++ [.ref p2])) L = some (.lst [.ref p1, .ref p2]) := upd_same
    have old7 : ∀ d o, H1 d = some o → (∀ ps, o ≠ .tbl ps) → upd H6 L (.lst ([.ref p1] ++ [.ref p2])) d = some o := fun d o e nt => by
      have e3 := s3 _ _ (x2 _ _ e nt)
      rw [upd_ne (ne_of_none e3 nL)]
      exact s6 _ _ (x5 _ _ (same_new nL _ _ e3) nt)
    generalize upd H6 L _ = H7 at T7 hp17 hp27 hL7 old7 ⊢
    refine ⟨_, rfl, .inl ⟨rfl, _, SqL.of hL7⟩, T7, fun H8 x8 T8 => ?_⟩
    refine ⟨by show 2 ≤ sizeLine; decide, fun t nt => ⟨rfl, rfl, fun x dx nx nd ne => kind_lit (b := 0) ⟨.str _, .int _, .int _, .tup upd_same (.cons (.int _) (.cons (.str _) .nil)), .str _, by decide +kernel, rfl, by decide +kernel, by decide +kernel⟩ (by decide +kernel) due3 XS (fun p3 H9 p30 s9 hp3 => ?_) x dx nx nd ne⟩⟩
    have s9 := (same_new (o := .tup [.int 0, .str (Str.ofString "1/0")]) nt).trans s9
    have p30 : H8 p3 = none := (same_new (o := .tup [.int 0, .str (Str.ofString "1/0")]) nt).free p30
    have hL8 := x8 _ _ hL7 (by intro ps q; cases q)
    have hL9 := s9 _ _ hL8
    have p3L : p3 ≠ L := (ne_of_none hL8 p30).symm
    refine ⟨L, _, _, rfl, rfl, hL9, by show 2 < sizeLine; decide, ?_⟩
    have Tx : LamX.Tabs Tb (upd H9 L (.lst ([.ref p1, .ref p2] ++ [.ref p3]))) := tabs_put (T8.ext s9) hL9
    have g1 : upd H9 L (.lst ([.ref p1, .ref p2] ++ [.ref p3])) p1 = some (.lst [.str (Str.ofString "InvalidName"), .str (Str.ofString "'A'")]) := by rw [upd_ne p1L]; exact s9 _ _ (x8 _ _ hp17 (by intro ps q; cases q))
    have g2 : upd H9 L (.lst ([.ref p1, .ref p2] ++ [.ref p3])) p2 = some (.lst [.str (Str.ofString "InvalidNumber"), .str (Str.ofString "4")]) := by rw [upd_ne p2L]; exact s9 _ _ (x8 _ _ hp27 (by intro ps q; cases q))
    have g3 : upd H9 L (.lst ([.ref p1, .ref p2] ++ [.ref p3])) p3 = some (.lst [.str (Str.ofString "InvalidClosing"), .str (Str.ofString "(0, '1/0')")]) := by rw [upd_ne p3L]; exact hp3
    have g4 : upd H9 L (.lst ([.ref p1, .ref p2] ++ [.ref p3])) L = some (.lst [.ref p1, .ref p2, .ref p3]) := upd_same
    have oldx : ∀ d o, H1 d = some o → (∀ ps, o ≠ .tbl ps) → upd H9 L (.lst ([.ref p1, .ref p2] ++ [.ref p3])) d = some o := fun d o e nt' => by
      have e3 := s3 _ _ (x2 _ _ e nt')
      rw [upd_ne (ne_of_none e3 nL)]
      exact s9 _ _ (x8 _ _ (old7 _ _ e nt') nt')
    generalize upd H9 L _ = Hx at Tx g1 g2 g3 g4 oldx ⊢
    have hSx : SqL K Hx a (ns.map V.int) := ext_seq oldx (s1.seq hS)
    have hBx : Hx bl = some (.lst (BL.map V.str)) := oldx _ _ h1 (by intro ps q; cases q)
    clear oldx old7
    dsimp only
    refine join_no (fun H' => Same Hx H') (fun Q' fin => ?_) ?_
    · refine ⟨_, rfl, by show 2 ≤ sizeLine; decide, fun y1 m1 => ⟨by show 2 ≤ sizeLine; decide, fun y2 m2 => ⟨by show 2 ≤ sizeLine; decide, fun y3 m3 => ⟨by show 3 ≤ sizeLine; decide, fun y4 m4 => ?_⟩⟩⟩⟩
      have z1 := same_new (o := .lst [.str (Str.ofString "InvalidName"), .str (Str.ofString "'A'")]) m1
      have z2 := same_new (o := .lst [.str (Str.ofString "InvalidNumber"), .str (Str.ofString "4")]) m2
      have z3 := same_new (o := .lst [.str (Str.ofString "InvalidClosing"), .str (Str.ofString "(0, '1/0')")]) m3
      have z4 := same_new (o := .lst [.ref y1, .ref y2, .ref y3]) m4
      have z := ((z1.trans z2).trans z3).trans z4
      refine ⟨.list [.list [.str (Str.ofString "InvalidName"), .str (Str.ofString "'A'")], .list [.str (Str.ofString "InvalidNumber"), .str (Str.ofString "4")], .list [.str (Str.ofString "InvalidClosing"), .str (Str.ofString "(0, '1/0')")]],
        .list [.list [.str (Str.ofString "InvalidName"), .str (Str.ofString "'A'")], .list [.str (Str.ofString "InvalidNumber"), .str (Str.ofString "4")], .list [.str (Str.ofString "InvalidClosing"), .str (Str.ofString "(0, '1/0')")]],
        .lst (SqL.of (z _ _ g4)) (.cons (.lst (SqL.of (z _ _ g1)) (.cons (.str _) (.cons (.str _) .nil))) (.cons (.lst (SqL.of (z _ _ g2)) (.cons (.str _) (.cons (.str _) .nil))) (.cons (.lst (SqL.of (z _ _ g3)) (.cons (.str _) (.cons (.str _) .nil))) .nil))),
        .lst (SqL.of upd_same) (.cons (.lst (SqL.of (z4 _ _ (z3 _ _ (z2 _ _ upd_same)))) (.cons (.str _) (.cons (.str _) .nil))) (.cons (.lst (SqL.of (z4 _ _ (z3 _ _ upd_same))) (.cons (.str _) (.cons (.str _) .nil))) (.cons (.lst (SqL.of (z4 _ _ upd_same)) (.cons (.str _) (.cons (.str _) .nil))) .nil))),
        by decide +kernel, by decide +kernel, _, rfl, fin _ _ (by decide +kernel) z⟩
    intro Hy sy
    refine ⟨_, rfl, _, _, rfl, .inl (sy.seq hSx), _, _, rfl, _, _, rfl, _, rfl, ?_, ?_, for_range (lo := 0) (fun i σ' H' => ∃ v3 v4 v5, σ' = [some (.ref a), some (.ref bl), some (.ref L), v3, v4, v5] ∧
      SqL K H' a (ns.map V.int) ∧ H' bl = some (.lst (BL.map V.str)) ∧ LamX.Tabs Tb H') ⟨none, none, none, rfl, sy.seq hSx, sy _ _ hBx, Tx.ext sy⟩ ?_ ?_⟩
    · split <;> split <;> omega
    · split <;> split <;> omega
    · rintro i σ' H' hi ⟨v3, v4, v5, rfl, hS1, hB1, T1⟩
      have hi' : i < 1000 := by
        refine Nat.lt_of_lt_of_le hi ?_
        split <;> split <;> omega
      refine ⟨_, rfl, _, rfl, a, ns, _, rfl, hS1, bits, by omega, by omega, fun n H2 s2 nb2 => ⟨n, rfl, nb2, fun p H3 np s3 bg => ?_⟩⟩
      refine ⟨8, rfl, by decide, by decide, fun C hC => ?_⟩
      have nCp : C ≠ p := bg.ne_none hC
      have s23 := s2.trans s3
      have blp : bl ≠ p := ne_of_none (s2 _ _ hB1) np
      have C2 : H2 C = none := s3.free hC
      refine lc_range (lo := 0) (n := 8) (fun j H' => LamX.ExtN H2 H' ∧ LamX.Tabs Tb H' ∧ Bag H' p (80 * j) ∧ H' C = some (.lst (List.replicate j (.bl true))))
        ⟨LamX.ExtN.of (s3.trans (same_new hC)), T1.ext (s23.trans (same_new hC)), bg.same (same_new hC), upd_same⟩ ?_ ?_
      · rintro j H4 hj ⟨j1, j3, j4, j5⟩
        refine ⟨rfl, _, rfl, _, rfl, p, bl, 80 * j, rfl, j4, by omega, SqL.of (j1 _ _ (s2 _ _ hB1) (by intro ps q; cases q)), blp, j3, fun H5 e5 b5 T5 => ⟨_, e5 _ _ nCp j5 (by intro ps q; cases q), ?_, ?_⟩⟩
        · rw [List.length_replicate]
          exact Nat.lt_trans hj (by decide)
        · have hC5 := e5 _ _ nCp j5 (by intro ps q; cases q)
          refine ⟨fun d o e nt => ?_, tabs_put T5 hC5, (b5.put nCp).mono (by omega), ?_⟩
          · rw [upd_ne (ne_of_none e C2)]
            exact e5 _ _ (ne_of_none e np) (j1 _ _ e nt) nt
          · rw [upd_same, List.replicate_succ']
      rintro H4 ⟨j1, j3, j4, j5⟩
      refine ⟨C, List.replicate 8 true, rfl, SqL.of j5, _, rfl, ?_⟩
      refine iteF ?_
      exact ⟨_, _, _, rfl, ext_seq j1 (s2.seq hS1), j1 _ _ (s2 _ _ hB1) (by intro ps q; cases q), j3⟩
    · rintro σ' H' ⟨v3, v4, v5, rfl, _⟩
      exact ret _
end L

namespace Hv
open PySem PySem.Spec PyProof.Rows L2
/-! ### the part of the heap that is told -/
abbrev Look := Addr → Option Obj
def names1 (g : Look) (x : Str) : Addr := He.ga (He.frG g [mainGlobals]) x
def next1 (g : Look) (a : Addr) : List Addr := match g a with
  | some o => He.refsD o
  | none => []
/-- a function: what it names; another object: what that names, and so on -/
def next2 (g : Look) (a : Addr) : List Addr := match g a with
  | some ⟨_, _, .func fd, _⟩ => He.refV fd.code ++ He.refV fd.defaults ++ He.refV fd.kwdefaults
  | some o => He.refsD o ++ (He.refsD o).flatMap (next1 g)
  | none => []
def ofCls (g : Look) (C : Addr) : List Addr := C :: match g C with
  | some ⟨_, _, .cls cd, _⟩ => cd.ns :: (next1 g cd.ns).flatMap fun a => a :: next2 g a
  | _ => []
/-- the defs fs, the classes cs with all their methods, the classes ds without -/
def asO (g : Look) (fs cs ds : List Str) : List Addr := mainGlobals :: ((fs.flatMap fun x => names1 g x :: next1 g (names1 g x)) ++ ((cs.flatMap fun x => ofCls g (names1 g x)) ++ ds.flatMap fun x => names1 g x :: match g (names1 g x) with
  | some ⟨_, _, .cls cd, _⟩ => [cd.ns]
  | _ => []))
/-! ### a def at a place -/
structure DefQ where
  at_ : PySem.W.Frag → Addr
  name : Str
  qual : Str
  st : Stmt
  dfl : List He.Dv := []
def DefQ.val (d : DefQ) : He.FnW := some (d.name, d.qual, defArgs d.st, .stmts (defBody d.st), defScope d.st, mainGlobals, [], builtinsNs)
def DefQ.obs (K : PySem.W.Frag) (d : DefQ) : He.FnW := match K.lookup (d.at_ K) with
  | some ⟨_, _, .func fd, _⟩ => some (fd.name, fd.qualname, fd.params, fd.body, fd.scope, fd.globals, fd.closure, fd.builtins)
  | _ => none
def DefQ.dvs (K : PySem.W.Frag) (d : DefQ) : List V := d.dfl.map (He.Dv.v K)
def DefQ.ok (K : PySem.W.Frag) (d : DefQ) : Bool := PySem.W.keepIn K (.ref (d.at_ K)) && (match K.lookup (d.at_ K) with
  | some ⟨_, _, .func fd, _⟩ => PySem.W.codeIn K fd.code d.qual && He.dflB K fd.defaults (d.dvs K)
  | _ => false)
/-- what is known of it -/
def DefO (K : PySem.W.Frag) (d : DefQ) : Prop := ∃ (oc : Value) (od : Option Addr) (dV kV doc pm : Value) (an : Option Addr) (cd ct : Value) (sl : Array (Option Value)),
  K.lookup (d.at_ K) = some ⟨oc, od, .func (PySem.W.fnOf d.name d.qual (defArgs d.st) (defBody d.st) (defScope d.st) dV kV doc pm an cd ct), sl⟩ ∧ PySem.W.codeIn K cd d.qual = true ∧ DflV K dV (d.dvs K) ∧ PySem.W.keepIn K (.ref (d.at_ K)) = true
theorem DefQ.out {K : PySem.W.Frag} {d : DefQ} (e : d.obs K = d.val) (c : d.ok K = true) : DefO K d := by
  obtain ⟨kp, c2⟩ := He.ba c
  unfold DefQ.obs at e
  cases q : K.lookup (d.at_ K) with
  | none =>
    rw [q] at c2
    cases c2
  | some o =>
    obtain ⟨oc, od, dt, osl⟩ := o
    rw [q] at c2 e
    cases dt with
    | func fd =>
      obtain ⟨n1, n2, n3, n4, n5, n6, n7, n8, n9, n10, n11, n12, n13, n14, n15⟩ := fd
      have e2 : (some (n1, n2, n3, n4, n5, n6, n7, n15) : He.FnW) = some (d.name, d.qual, defArgs d.st, .stmts (defBody d.st), defScope d.st, mainGlobals, [], builtinsNs) := e
      simp only [Option.some.injEq, Prod.mk.injEq] at e2
      obtain ⟨h1, h2, h3, h4, h5, h6, h7, h8⟩ := e2
      subst h1 h2 h3 h4 h5 h6 h7 h8
      obtain ⟨k1, k2⟩ := He.ba (show (PySem.W.codeIn K n13 d.qual && He.dflB K n8 (d.dvs K)) = true from c2)
      exact ⟨oc, od, n8, n9, n10, n11, n12, n13, n14, osl, q, k1, He.dflB_ok k2, kp⟩
    | _ => cases c2
/-! ### the Hook -/
abbrev Fb := PySem.W.Frag → Bool
def tabB (g : Look) (K : PySem.W.Frag) (x : Str) : Bool := PySem.W.codeHdIn K (He.cT K (x, none)).1 (He.cT K (x, none)).2 && (match g (He.cT K (x, none)).2 with
  | some o => He.emptyTab o
  | none => false)
abbrev Ob := Bool × List He.FnW
def obO (fb : List Fb) (fn : List DefQ) (tf : List Str) (g : Look) (K : PySem.W.Frag) : Ob := ((fb.all fun b => b K) && (fn.all (fun d => d.ok K) && tf.all (fun x => tabB g K x)), fn.map fun d => d.obs K)
structure Says (fb : List Fb) (fn : List DefQ) (tf : List Str) (h : Heap) (K : PySem.W.Frag) : Prop where
  kin : K.In h
  bs : ∀ b ∈ fb, b K = true
  df : ∀ d ∈ fn, DefO K d
  hd : ∀ x ∈ tf, PySem.W.codeHdIn K (He.cT K (x, none)).1 (He.cT K (x, none)).2 = true
  no : ∀ x ∈ tf, K.lookup (He.cT K (x, none)).2 = none
  em : ∀ x ∈ tf, h.get? (He.cT K (x, none)).2 = some tab0
theorem says_of {fb : List Fb} {fn : List DefQ} {tf : List Str} {h : Heap} {as : List Addr} (e : obO fb fn tf h.get? (He.frT h.get? as) = (true, fn.map DefQ.val)) : Says fb fn tf h (He.frT h.get? as) := by
  obtain ⟨e1, e2⟩ := Prod.mk.inj e
  obtain ⟨h1, h2⟩ := He.ba e1
  obtain ⟨h3, h4⟩ := He.ba h2
  have key : ∀ x ∈ tf, PySem.W.codeHdIn (He.frT h.get? as) (He.cT (He.frT h.get? as) (x, none)).1 (He.cT (He.frT h.get? as) (x, none)).2 = true ∧ ∃ o, h.get? (He.cT (He.frT h.get? as) (x, none)).2 = some o ∧ He.emptyTab o = true := fun x hx => by
    obtain ⟨k1, k2⟩ := He.ba (List.all_eq_true.mp h4 x hx)
    refine ⟨k1, ?_⟩
    cases q : h.get? (He.cT (He.frT h.get? as) (x, none)).2 with
    | none =>
      rw [q] at k2
      cases k2
    | some o =>
      rw [q] at k2
      exact ⟨o, rfl, k2⟩
  refine ⟨He.frT_in, fun b hb => List.all_eq_true.mp h1 b hb, fun d hd => ?_, fun x hx => (key x hx).1, fun x hx => ?_, fun x hx => ?_⟩
  · refine DefQ.out ?_ (List.all_eq_true.mp h3 d hd)
    exact List.map_inj_left.mp e2 d hd
  · obtain ⟨_, o, q, z⟩ := key x hx
    exact He.frT_none q z
  · obtain ⟨_, o, q, z⟩ := key x hx
    rw [q, He.emptyTab_eq z]
def hookO (fs cs ds : List Str) (fb : List Fb) (fn : List DefQ) (tf : List Str) : PySem.W.Hook where
  α := Ob
  obs := fun s => obO fb fn tf s.heap.get? (He.frT s.heap.get? (asO s.heap.get? fs cs ds))
  val := fun _ => (true, fn.map DefQ.val)
  says := fun _ h => ∃ K : PySem.W.Frag, Says fb fn tf h K
  of := fun _ _ e => ⟨_, says_of e⟩
  keeps := fun _ _ _ ⟨K, c⟩ k => ⟨K, PySem.W.Frag.In.keeps c.kin k, c.bs, c.df, c.hd, c.no, fun x hx => k _ _ (c.em x hx)⟩
def obT (fs cs ds : List Str) (fb : List Fb) (fn : List DefQ) (tf : List Str) (s : PySem.W.SharedT) : Ob := obO fb fn tf (HandSHeadRun.getT s) (He.frT (HandSHeadRun.getT s) (asO (HandSHeadRun.getT s) fs cs ds))
theorem obT_eq {fs cs ds : List Str} {fb : List Fb} {fn : List DefQ} {tf : List Str} (s : PySem.W.SharedT) : obT fs cs ds fb fn tf s = (hookO fs cs ds fb fn tf).obs s.abs := by
  have e : HandSHeadRun.getT s = s.abs.heap.get? := funext (HandSHeadRun.getT_eq s)
  unfold obT
  rw [e]
  rfl
section
variable {fb : List Fb} {fn : List DefQ} {tf : List Str} {h : Heap} {K : PySem.W.Frag}
theorem Says.b (c : Says fb fn tf h K) (i : Nat) {f : Fb} (hf : fb[i]? = some f := by rfl) : f K = true := c.bs f (List.mem_of_getElem? hf)
theorem Says.d (c : Says fb fn tf h K) (i : Nat) {f : DefQ} (hf : fn[i]? = some f := by rfl) : DefO K f := c.df f (List.mem_of_getElem? hf)
theorem dfl_none {dV : Value} (h : DflV K dV []) : dV = .none := by
  rcases h with ⟨_, h⟩ | ⟨h, _⟩
  · exact h
  · exact absurd rfl h
/-- a def of the module -/
abbrev defG (x : Str) (st : Stmt) : DefQ := ⟨fun K => He.ga K x, x, x, st, []⟩
theorem defIn_of {x : Str} {st : Stmt} (h : DefO K (defG x st)) (hg : PySem.W.nsIn K mainGlobals x = some (some (.ref (He.ga K x)))) : DefIn K x st := by
  obtain ⟨oc, od, dV, kV, doc, pm, an, cd, ct, sl, h1, h2, h3, h4⟩ := h
  cases dfl_none h3
  exact ⟨_, oc, od, kV, doc, pm, an, cd, ct, sl, hg, h1, h2, h4⟩
theorem tabIn_of {x : Str} {st : Stmt} (c : Says fb fn tf h K) (hx : x ∈ tf) (d : DefO K (defG x st)) (hg : PySem.W.nsIn K mainGlobals x = some (some (.ref (He.ga K x)))) : TabIn K x (He.cT K (x, none)).1 (He.cT K (x, none)).2 := by
  obtain ⟨oc, od, dV, kV, doc, pm, an, cd, ct, sl, h1, h2, h3, h4⟩ := d
  obtain ⟨cc, rfl⟩ := He.codeIn_ref h2
  have e : (He.cT K (x, none)).1 = cc := He.codeOf_eq (p := (x, none)) h1 rfl
  have hd := c.hd x hx
  have no := c.no x hx
  generalize (He.cT K (x, none)).2 = P at hd no ⊢
  rw [e] at hd ⊢
  unfold PySem.W.codeHdIn at hd
  split at hd
  · rename_i dd vs sl2 hk
    simp only [Bool.and_eq_true] at hd
    obtain ⟨⟨⟨⟨⟨q, _⟩, _⟩, _⟩, _⟩, _⟩ := hd
    have hv : vs[11]? = some (.ref P) := by
      split at q
      · rename_i P' e'
        rw [e', beq_iff_eq.mp q]
      · cases q
    exact ⟨_, _, _, _, _, _, _, hg, h1, rfl, rfl, hk, hv, no⟩
  · cases hd
end
/-! ### an error class -/
def excB (K : PySem.W.Frag) (C : Addr) : Bool := match K.lookup C with
  | some ⟨.type c, _, .cls cd, sl⟩ => (match cd.mro, sl.toList with
    | .ref C' :: bm, [_, _, _, _, some (.builtin n), _] => decide (c = "type") && (decide (C' = C) && (decide (n = "ValueError.__new__") && (!cd.hasDel && (cd.hasDict && PySem.HandSPX.refsVE bm))))
    | _, _ => false)
  | _ => false
theorem excB_ok {K : PySem.W.Frag} {C : Addr} (h : excB K C = true) : ∃ nm q N bs bm sn sub ab col dd k0 k1 k2 k3 k5, K.lookup C = some (excClassObj nm q C N bs bm true sn sub ab col dd k0 k1 k2 k3 k5 "ValueError.__new__") ∧ PySem.HandSPX.refsVE bm = true := by
  unfold excB at h
  split at h
  · rename_i c dd cd sl hk
    split at h
    · rename_i C' bm k0 k1 k2 k3 n k5 hm hs
      simp only [Bool.and_eq_true, decide_eq_true_eq, Bool.not_eq_true'] at h
      obtain ⟨rfl, rfl, rfl, hdel, hdict, hr⟩ := h
      obtain ⟨nm, bs, mro, ns, qn, hd, sn, sub, ab, col, del⟩ := cd
      dsimp only at hm hdel hdict
      subst hm hdel hdict
      have hsl : sl = #[k0, k1, k2, k3, some (.builtin "ValueError.__new__"), k5] := by
        obtain ⟨l⟩ := sl
        simp only at hs
        rw [hs]
      subst hsl
      exact ⟨nm, qn, ns, bs, bm, sn, sub, ab, col, dd, k0, k1, k2, k3, k5, hk, hr⟩
    · cases h
  · cases h
/-- all of it, for the class named x -/
def errInB (x : Str) : Fb := fun K => excB K (He.ga K x) && (decide (PySem.W.findIn K (.ref (He.ga K x)) "__setattr__" = some (some (.builtin "object.__setattr__"))) && (decide (PySem.W.subIn K (.ref (He.ga K x)) (.type "BaseException") = some true) && (decide (PySem.W.typeIn K (.ref (He.ga K x)) = some (.type "type")) &&
  (PySem.W.keepIn K (.ref (He.ga K x)) && (decide (PySem.W.findIn K (.ref (He.ga K x)) "__init__" = some (some (.ref (He.ma K (He.ga K x) "__init__")))) && decide (PySem.W.typeIn K (.ref (He.ma K (He.ga K x) "__init__")) = some (.type "function")))))))
abbrev defM (C m q : Str) (st : Stmt) (dfl : List He.Dv := []) : DefQ := ⟨fun K => He.ma K (He.ga K C) m, m, q, st, dfl⟩
theorem errIn_of {K : PySem.W.Frag} {x f q : Str} {st : Stmt} (h : errInB x K = true) (d : DefO K (defM x "__init__" q st)) (ha : ∃ p1 p2, defArgs st = eA f p1 p2) (hb : ∃ q1 q2 q3 q4, defBody st = eB f q1 q2 q3 q4) (hs : defScope st = eS f) : ErrIn K (He.ga K x) f := by
  unfold errInB at h
  simp only [Bool.and_eq_true, decide_eq_true_eq] at h
  obtain ⟨h1, h2, h3, h4, h5, h6, h7⟩ := h
  obtain ⟨oc, od, dV, kV, doc, pm, an, cd, ct, sl, d1, d2, d3, d4⟩ := d
  cases dfl_none d3
  obtain ⟨p1, p2, ha⟩ := ha
  obtain ⟨q1, q2, q3, q4, hb⟩ := hb
  refine ⟨⟨excB_ok h1, h2, h3, h4, h5⟩, _, oc, od, kV, doc, pm, an, cd, ct, sl, q, p1, p2, q1, q2, q3, q4, h6, h7, ?_, d2⟩
  rw [← ha, ← hb, ← hs]
  exact d1
/-! ### a method, a property -/
def methB (C m : Str) : Fb := fun K => decide (PySem.W.findIn K (.ref (He.ga K C)) m = some (some (.ref (He.ma K (He.ga K C) m)))) && PySem.W.isFn K (.ref (He.ma K (He.ga K C) m))
theorem methIn_of {K : PySem.W.Frag} {C m q : Str} {st : Stmt} (h : methB C m K = true) (d : DefO K (defM C m q st)) : MethIn K (He.ga K C) m q st := by
  unfold methB at h
  simp only [Bool.and_eq_true, decide_eq_true_eq] at h
  obtain ⟨oc, od, dV, kV, doc, pm, an, cd, ct, sl, d1, d2, d3, d4⟩ := d
  cases dfl_none d3
  exact ⟨_, oc, od, kV, doc, pm, an, cd, ct, sl, h.1, h.2, d1, d2, d4⟩
def pg (C m : Str) (K : PySem.W.Frag) : Addr := match PySem.W.recIn K (He.ma K (He.ga K C) m) "property" with
  | some (.ref g :: _) => g
  | _ => 0
def propB (C m : Str) : Fb := fun K => decide (PySem.W.findIn K (.ref (He.ga K C)) m = some (some (.ref (He.ma K (He.ga K C) m)))) && (decide (PySem.W.specialIn K (.ref (He.ma K (He.ga K C) m)) "__get__" = some (some (.builtin "property.__get__"))) && (decide (PySem.W.takesIn K (.ref (He.ma K (He.ga K C) m)) = some true) &&
  (match PySem.W.recIn K (He.ma K (He.ga K C) m) "property" with
  | some (.ref _ :: _) => true
  | _ => false)))
abbrev defP (C m q : Str) (st : Stmt) : DefQ := ⟨pg C m, m, q, st, []⟩
theorem propIn_of {K : PySem.W.Frag} {C m q : Str} {st : Stmt} (h : propB C m K = true) (d : DefO K (defP C m q st)) : PropIn K (He.ga K C) m q st := by
  unfold propB at h
  simp only [Bool.and_eq_true, decide_eq_true_eq] at h
  obtain ⟨h1, h2, h3, h4⟩ := h
  obtain ⟨oc, od, dV, kV, doc, pm, an, cd, ct, sl, d1, d2, d3, d4⟩ := d
  cases dfl_none d3
  split at h4
  · rename_i g rest e
    have eg : pg C m K = g := by
      unfold pg
      rw [e]
    rw [show (defP C m q st).at_ K = g from eg] at d1 d4
    exact ⟨g, oc, od, kV, doc, pm, an, cd, ct, sl, ⟨_, h1, h2, h3, rest, e⟩, d1, d2, d4⟩
  · cases h4
/-! ### constants -/
def intB (x : Str) (i : Int) : Fb := fun K => match PySem.W.nsIn K mainGlobals x with
  | some (some (.int j _)) => decide (j = i)
  | _ => false
theorem intIn_of {K : PySem.W.Frag} {x : Str} {i : Int} (h : intB x i K = true) : ∃ v, PySem.W.nsIn K mainGlobals x = some (some v) ∧ ∃ t, v = .int i t := by
  unfold intB at h
  split at h
  · rename_i j t e
    cases of_decide_eq_true h
    exact ⟨_, e, _, rfl⟩
  · cases h
def strB (x z : Str) : Fb := fun K => match PySem.W.nsIn K mainGlobals x with
  | some (some (.str y _)) => decide (y = z)
  | _ => false
theorem strIn_of {K : PySem.W.Frag} {x z : Str} (h : strB x z K = true) : ∃ v, PySem.W.nsIn K mainGlobals x = some (some v) ∧ ∃ t, v = .str z t := by
  unfold strB at h
  split at h
  · rename_i y t e
    cases of_decide_eq_true h
    exact ⟨_, e, _, rfl⟩
  · cases h
/-! ### the end -/
theorem walkTE {l : PySem.W.OpenLaw} {n k : Nat} {q : Program} {loose : List Str} {XP : (Str → Option Value) → Heap → Prop} {YP : World → Heap → Prop} {d : DefRec} {x : Str} {fb : List Fb} {fn : List DefQ} (xs : List Str)
    (hn : l.most = some n) (hn2 : n ≤ sizeLine) (hdf : d.params.defaults = []) (hr : Room k callerA) (hY : ∀ (w : World) (h : Heap), YP w h → ∃ K, Says fb fn xs h K)
    (F : ∀ (w : World) (mg : Str → Option Value) (fa : Addr) (h : Heap) (K : PySem.W.Frag), Says fb fn xs h K → h.Ns mainGlobals mg → mg d.name = some (.ref fa) → LawT l w K k n x mg fa xs) :
    PySem.W.WalkO q loose XP YP l.row.toRowW d [] (fun f vs => PySem.call f vs) := by
  refine Att.attach_callB hn hdf ?_
  intro w s₀ s₁ mg mb fa o pm cd doc a vs ns G Y ho hd hcd hmg hobj hints hlen hbits hg
  obtain ⟨K, c⟩ := hY w _ Y
  have X := c.kin
  obtain ⟨fd, cs, sp, ht, hb, hsp, hF⟩ := F w mg fa _ K c G.T.g hmg
  have key : ∀ p ∈ cs, ∃ y ∈ xs, p = He.cT K (y, none) := fun p hp => by
    obtain ⟨y, hy, f, o, fd, e, dd, us, sl, k1, k2, k3, k4, k5, k6, _⟩ := ht p hp
    refine ⟨y, hy, ?_⟩
    have eg : He.fAd K (y, none) = f := by
      show He.ga K y = f
      unfold He.ga
      rw [k1]
    obtain ⟨oc, od, dt, osl⟩ := o
    cases k3
    have e1 : He.codeOf K (y, none) = p.1 := He.codeOf_eq (by rw [eg]; exact k2) k4
    have e2 : He.tabOf K p.1 = p.2 := by
      unfold He.tabOf
      rw [k5]
      show (match us.getD 11 .none with | .ref P => P | _ => 0) = p.2
      rw [Array.getD_eq_getD_getElem?, k6]
      rfl
    unfold He.cT
    rw [e1, e2]
  refine call_lawT X G.T.g G.T.b G.T.builtins G.T.nolimit hg (fun p hp => ?_) (fun p hp => ?_) (fun p hp => ?_) G.T.bmain hobj hints (Nat.le_trans hlen hn2) hr hF hb fun H hC hS => hsp H a ns hlen hbits hC hS
  · obtain ⟨y, hy, rfl⟩ := key p hp
    exact c.em y hy
  · obtain ⟨y, hy, rfl⟩ := key p hp
    exact c.no y hy
  · obtain ⟨y, hy, rfl⟩ := key p hp
    exact PySem.W.codeHd_of_K X (c.hd y hy)
end Hv

namespace L
open PySem L2 Hv
/-- Kind.__init__ as the top has left it -/
def KindInitIn (K : PySem.W.Frag) (C : Addr) : Prop := ∃ (f : Addr) (fd : FuncData), FunK K f fd ∧ PySem.W.findIn K (.ref C) "__init__" = some (some (.ref f)) ∧ PySem.W.isFn K (.ref f) = true
def isInt (i : Int) : Option (Option Value) → Bool
  | some (some (.int j _)) => decide (j = i)
  | _ => false
theorem isInt_ok {i : Int} {o : Option (Option Value)} (h : isInt i o = true) : ∃ v, o = some (some v) ∧ ∃ t, v = .int i t := by
  unfold isInt at h
  split at h
  · cases of_decide_eq_true h
    exact ⟨_, rfl, _, rfl⟩
  · cases h
def isNone : Option (Option Value) → Bool
  | some (some .none) => true
  | _ => false
theorem isNone_ok {o : Option (Option Value)} (h : isNone o = true) : o = some (some .none) := by
  unfold isNone at h
  split at h
  · rfl
  · cases h
def kindKwB : Hv.Fb := fun K => match K.lookup (He.ma K (He.ga K "Kind") "__init__") with
  | some ⟨_, _, .func fd, _⟩ => (match fd.kwdefaults with
    | .ref DD => isInt 0 (PySem.W.nsIn K DD "talks") && (isInt 1 (PySem.W.nsIn K DD "needs") && (isNone (PySem.W.nsIn K DD "closing") && isNone (PySem.W.nsIn K DD "ends")))
    | _ => false)
  | _ => false
theorem kindInit_of {K : PySem.W.Frag} (h : Hv.methB "Kind" "__init__" K = true) (kw : kindKwB K = true) (d : Hv.DefO K (Hv.defM "Kind" "__init__" "Kind.__init__" s_Kind_init)) : KindInitIn K (He.ga K "Kind") := by
  unfold Hv.methB at h
  simp only [Bool.and_eq_true, decide_eq_true_eq] at h
  obtain ⟨oc, od, dV, kV, doc, pm, an, cd, ct, sl, d1, d2, d3, d4⟩ := d
  cases Hv.dfl_none d3
  unfold kindKwB at kw
  rw [show K.lookup (He.ma K (He.ga K "Kind") "__init__") = _ from d1] at kw
  cases kV with
  | ref DD =>
    have kw : (isInt 0 (PySem.W.nsIn K DD "talks") && (isInt 1 (PySem.W.nsIn K DD "needs") && (isNone (PySem.W.nsIn K DD "closing") && isNone (PySem.W.nsIn K DD "ends")))) = true := kw
    simp only [Bool.and_eq_true] at kw
    obtain ⟨k1, k2, k3, k4⟩ := kw
    obtain ⟨u1, n1, r1⟩ := isInt_ok k1
    obtain ⟨u2, n2, r2⟩ := isInt_ok k2
    have n3 := isNone_ok k3
    have n4 := isNone_ok k4
    refine ⟨_, _, ⟨⟨oc, od, .none, .ref DD, doc, pm, an, cd, ct, sl, rfl, d1, d2, .inl ⟨rfl, rfl⟩, .inr ⟨DD, rfl, ?_⟩⟩, d4⟩, h.1, h.2⟩
    intro q hq
    simp only [kwsK, List.mem_cons, List.not_mem_nil, or_false] at hq
    rcases hq with rfl | rfl | rfl | rfl
    · exact ⟨u1, n1, r1⟩
    · exact ⟨u2, n2, r2⟩
    · exact ⟨.none, n3, rfl⟩
    · exact ⟨.none, n4, rfl⟩
  | _ => exact absurd kw (by intro z; cases z)
end L

namespace L
open PySem L2 Hv
theorem all_mk {l : PySem.W.OpenLaw} {w : World} {K : PySem.W.Frag} {h : Heap} {mg : Str → Option Value} {fa : Addr} (X : K.In h) (G : h.Ns mainGlobals mg) (hfa : mg "law" = some (.ref fa))
    {C : Addr}
    (o_Kind_a : PySem.W.nsIn K mainGlobals "Kind" = some (some (.ref C)))
    (o_Kind_pg : PySem.W.plainGet K C Str.empty = true)
    (o_Kind_hd : PySem.W.hasDictIn K C = true)
    (o_Kind_po : PySem.W.plainOver K C = true)
    (o_Kind_sa : PySem.W.findIn K (.ref C) "__setattr__" = some (some (.builtin "object.__setattr__")))
    (o_Kind_kp : PySem.W.keepIn K (.ref C) = true)
    (o_Kind_mk : PySem.W.makesIn K C = true)
    (o_Kind_na_parts : PySem.W.findIn K (.ref C) "parts" = some none)
    (m_Kind_init : KindInitIn K C)
    (m_Kind_talks : PropIn K C "talks" "Kind.talks" s_Kind_talks)
    (m_Kind_ends : PropIn K C "ends" "Kind.ends" s_Kind_ends)
    {E0 E1 E2 E3 E4 E5 E6 E7 E8 E9 E10 E11 E12 E13 E14 E15 E16 E17 E18 E19 E20 E21 E22 E23 E24 E25 E26 E27 E28 E29 E30 E31 E32 E33 : Addr}
    (n_E0 : PySem.W.nsIn K mainGlobals "InvalidName" = some (some (.ref E0)))
    (n_E1 : PySem.W.nsIn K mainGlobals "InvalidNumber" = some (some (.ref E1)))
    (n_E2 : PySem.W.nsIn K mainGlobals "InvalidBound" = some (some (.ref E2)))
    (n_E3 : PySem.W.nsIn K mainGlobals "InvalidNeeds" = some (some (.ref E3)))
    (n_E4 : PySem.W.nsIn K mainGlobals "InvalidClosing" = some (some (.ref E4)))
    (n_E5 : PySem.W.nsIn K mainGlobals "InvalidEnds" = some (some (.ref E5)))
    (n_E6 : PySem.W.nsIn K mainGlobals "InvalidAmount" = some (some (.ref E6)))
    (n_E7 : PySem.W.nsIn K mainGlobals "InvalidText" = some (some (.ref E7)))
    (n_E8 : PySem.W.nsIn K mainGlobals "InvalidHouse" = some (some (.ref E8)))
    (n_E9 : PySem.W.nsIn K mainGlobals "InvalidShare" = some (some (.ref E9)))
    (n_E10 : PySem.W.nsIn K mainGlobals "InvalidLimit" = some (some (.ref E10)))
    (n_E11 : PySem.W.nsIn K mainGlobals "InvalidLength" = some (some (.ref E11)))
    (n_E12 : PySem.W.nsIn K mainGlobals "InvalidWish" = some (some (.ref E12)))
    (n_E13 : PySem.W.nsIn K mainGlobals "InvalidIndex" = some (some (.ref E13)))
    (n_E14 : PySem.W.nsIn K mainGlobals "NotRules" = some (some (.ref E14)))
    (n_E15 : PySem.W.nsIn K mainGlobals "InvalidKinds" = some (some (.ref E15)))
    (n_E16 : PySem.W.nsIn K mainGlobals "InvalidRows" = some (some (.ref E16)))
    (n_E17 : PySem.W.nsIn K mainGlobals "InvalidChanges" = some (some (.ref E17)))
    (n_E18 : PySem.W.nsIn K mainGlobals "InvalidWishes" = some (some (.ref E18)))
    (n_E19 : PySem.W.nsIn K mainGlobals "UnknownName" = some (some (.ref E19)))
    (n_E20 : PySem.W.nsIn K mainGlobals "UnknownMember" = some (some (.ref E20)))
    (n_E21 : PySem.W.nsIn K mainGlobals "InUse" = some (some (.ref E21)))
    (n_E22 : PySem.W.nsIn K mainGlobals "NotFinite" = some (some (.ref E22)))
    (n_E23 : PySem.W.nsIn K mainGlobals "Over" = some (some (.ref E23)))
    (n_E24 : PySem.W.nsIn K mainGlobals "IsClosed" = some (some (.ref E24)))
    (n_E25 : PySem.W.nsIn K mainGlobals "NotListed" = some (some (.ref E25)))
    (n_E26 : PySem.W.nsIn K mainGlobals "TooFew" = some (some (.ref E26)))
    (n_E27 : PySem.W.nsIn K mainGlobals "UsedUp" = some (some (.ref E27)))
    (n_E28 : PySem.W.nsIn K mainGlobals "CannotClose" = some (some (.ref E28)))
    (n_E29 : PySem.W.nsIn K mainGlobals "NothingToUndo" = some (some (.ref E29)))
    (n_E30 : PySem.W.nsIn K mainGlobals "Broken" = some (some (.ref E30)))
    (n_E31 : PySem.W.nsIn K mainGlobals "WrongValue" = some (some (.ref E31)))
    (n_E32 : PySem.W.nsIn K mainGlobals "WrongName" = some (some (.ref E32)))
    (n_E33 : PySem.W.nsIn K mainGlobals "NotPossible" = some (some (.ref E33)))
    (x_E0 : errB K [E0, E1, E2, E3, E4, E5, E6, E7, E8, E9, E10, E11, E12, E13, E14, E15, E16, E17, E18, E19, E20, E21, E22, E23, E24, E25, E26, E27, E28, E29, E30, E31, E32, E33] 0 = true)
    (y_E0 : ErrIn K E0 "given")
    (x_E1 : errB K [E0, E1, E2, E3, E4, E5, E6, E7, E8, E9, E10, E11, E12, E13, E14, E15, E16, E17, E18, E19, E20, E21, E22, E23, E24, E25, E26, E27, E28, E29, E30, E31, E32, E33] 1 = true)
    (y_E1 : ErrIn K E1 "given")
    (x_E3 : errB K [E0, E1, E2, E3, E4, E5, E6, E7, E8, E9, E10, E11, E12, E13, E14, E15, E16, E17, E18, E19, E20, E21, E22, E23, E24, E25, E26, E27, E28, E29, E30, E31, E32, E33] 3 = true)
    (y_E3 : ErrIn K E3 "given")
    (x_E4 : errB K [E0, E1, E2, E3, E4, E5, E6, E7, E8, E9, E10, E11, E12, E13, E14, E15, E16, E17, E18, E19, E20, E21, E22, E23, E24, E25, E26, E27, E28, E29, E30, E31, E32, E33] 4 = true)
    (y_E4 : ErrIn K E4 "given")
    (x_E5 : errB K [E0, E1, E2, E3, E4, E5, E6, E7, E8, E9, E10, E11, E12, E13, E14, E15, E16, E17, E18, E19, E20, E21, E22, E23, E24, E25, E26, E27, E28, E29, E30, E31, E32, E33] 5 = true)
    (y_E5 : ErrIn K E5 "given")
    {tc_right tp_right tc_law tp_law : Addr}
    (t_right : TabIn K "_law_right" tc_right tp_right)
    (t_law : TabIn K "law" tc_law tp_law)
    (tn_right_law : tp_right ≠ tp_law)
    (d_is_integer : DefIn K "is_integer" s_is_integer)
    (d_is_name : DefIn K "is_name" s_is_name)
    (d_common_divisor : DefIn K "common_divisor" s_common_divisor)
    (d_number_of : DefIn K "number_of" s_number_of)
    (d_fraction_of : DefIn K "fraction_of" s_fraction_of)
    (d_is_bound : DefIn K "is_bound" s_is_bound)
    (d_is_needs : DefIn K "is_needs" s_is_needs)
    (d_is_closing : DefIn K "is_closing" s_is_closing)
    (d_seed : DefIn K "_law_seed" s_seed)
    (d_bag : DefIn K "_law_bag" s_bag)
    (d_take : DefIn K "_law_take" s_take)
    (d_terms : DefIn K "_law_terms" s_terms)
    (d_sort : DefIn K "_law_sort" s_sort)
    (d_held : DefIn K "_law_held" s_held)
    (d_caught : DefIn K "_law_caught" s_caught)
    (d_common : DefIn K "_law_common" s_common)
    (d_bounds : DefIn K "_law_bounds" s_bounds)
    (d_tag : DefIn K "_law_tag" s_tag)
    (d_tags : DefIn K "_law_tags" s_tags)
    (d_bent : DefIn K "_law_bent" s_bent)
    (d_is_tag : DefIn K "_law_is_tag" s_is_tag)
    (d_is_number : DefIn K "_law_is_number" s_is_number)
    (d_lis_bound : DefIn K "_law_is_bound" s_lis_bound)
    (d_is_pair : DefIn K "_law_is_pair" s_is_pair)
    (d_odd : DefIn K "_law_odd" s_odd)
    (d_wrong_pair : DefIn K "_law_wrong_pair" s_wrong_pair)
    (d_drawn : DefIn K "_law_drawn" s_drawn)
    (d_due : DefIn K "_law_due" s_due)
    (d_right : DefIn K "_law_right" s_right)
    (d_law : DefIn K "law" s_law)
    (b_ArithmeticError : PySem.W.nsIn K mainGlobals "ArithmeticError" = some none)
    (b_LookupError : PySem.W.nsIn K mainGlobals "LookupError" = some none)
    (b_ValueError : PySem.W.nsIn K mainGlobals "ValueError" = some none)
    (b_abs : PySem.W.nsIn K mainGlobals "abs" = some none)
    (b_all : PySem.W.nsIn K mainGlobals "all" = some none)
    (b_any : PySem.W.nsIn K mainGlobals "any" = some none)
    (b_bool : PySem.W.nsIn K mainGlobals "bool" = some none)
    (b_divmod : PySem.W.nsIn K mainGlobals "divmod" = some none)
    (b_int : PySem.W.nsIn K mainGlobals "int" = some none)
    (b_isinstance : PySem.W.nsIn K mainGlobals "isinstance" = some none)
    (b_len : PySem.W.nsIn K mainGlobals "len" = some none)
    (b_max : PySem.W.nsIn K mainGlobals "max" = some none)
    (b_min : PySem.W.nsIn K mainGlobals "min" = some none)
    (b_property : PySem.W.nsIn K mainGlobals "property" = some none)
    (b_range : PySem.W.nsIn K mainGlobals "range" = some none)
    (b_repr : PySem.W.nsIn K mainGlobals "repr" = some none)
    (b_str : PySem.W.nsIn K mainGlobals "str" = some none)
    (b_tuple : PySem.W.nsIn K mainGlobals "tuple" = some none)
    (c_MOST_TALKS : ∃ v, PySem.W.nsIn K mainGlobals "MOST_TALKS" = some (some v) ∧ ∃ t, v = (.int (3) t))
    (c_MOST_AFTER : ∃ v, PySem.W.nsIn K mainGlobals "MOST_AFTER" = some (some v) ∧ ∃ t, v = (.int (3) t))
    (c_MOST_NEEDS : ∃ v, PySem.W.nsIn K mainGlobals "MOST_NEEDS" = some (some v) ∧ ∃ t, v = (.int (9) t))
    (c_MOST_PART : ∃ v, PySem.W.nsIn K mainGlobals "MOST_PART" = some (some v) ∧ ∃ t, v = (.int (12) t))
    (c_DIGITS : ∃ v, PySem.W.nsIn K mainGlobals "DIGITS" = some (some v) ∧ ∃ t, v = (.str "0123456789" t))
    (c_LETTERS : ∃ v, PySem.W.nsIn K mainGlobals "LETTERS" = some (some v) ∧ ∃ t, v = (.str "abcdefghijklmnopqrstuvwxyz" t))
    (c_MARK : ∃ v, PySem.W.nsIn K mainGlobals "MARK" = some (some v) ∧ ∃ t, v = (.str "over " t))
    : LawT l w K 12 63 "_law_script" mg fa ["_law_right", "law"] := by
  have T : Txt K mg := ⟨PySem.W.mg_none_of X G b_ArithmeticError, PySem.W.mg_none_of X G b_LookupError, PySem.W.mg_none_of X G b_ValueError, PySem.W.mg_none_of X G b_abs, PySem.W.mg_none_of X G b_all, PySem.W.mg_none_of X G b_any, PySem.W.mg_none_of X G b_bool, PySem.W.mg_none_of X G b_divmod, PySem.W.mg_none_of X G b_int, PySem.W.mg_none_of X G b_isinstance, PySem.W.mg_none_of X G b_len, PySem.W.mg_none_of X G b_max, PySem.W.mg_none_of X G b_min, PySem.W.mg_none_of X G b_property, PySem.W.mg_none_of X G b_range, PySem.W.mg_none_of X G b_repr, PySem.W.mg_none_of X G b_str, PySem.W.mg_none_of X G b_tuple, (by obtain ⟨v, e, t, rfl⟩ := c_MOST_TALKS; exact ⟨t, PySem.W.mg_of X G e⟩), (by obtain ⟨v, e, t, rfl⟩ := c_MOST_AFTER; exact ⟨t, PySem.W.mg_of X G e⟩), (by obtain ⟨v, e, t, rfl⟩ := c_MOST_NEEDS; exact ⟨t, PySem.W.mg_of X G e⟩), (by obtain ⟨v, e, t, rfl⟩ := c_MOST_PART; exact ⟨t, PySem.W.mg_of X G e⟩), (by obtain ⟨v, e, t, rfl⟩ := c_DIGITS; exact ⟨t, PySem.W.mg_of X G e⟩), (by obtain ⟨v, e, t, rfl⟩ := c_LETTERS; exact ⟨t, PySem.W.mg_of X G e⟩), (by obtain ⟨v, e, t, rfl⟩ := c_MARK; exact ⟨t, PySem.W.mg_of X G e⟩)⟩
  obtain ⟨f_is_integer, fd_is_integer, D_is_integer⟩ := d_is_integer.at X G (ps := P_is_integer) (fun _ _ _ _ _ _ us hl => match us, hl with | [_], _ => rfl)
  obtain ⟨f_is_name, fd_is_name, D_is_name⟩ := d_is_name.at X G (ps := P_is_name) (fun _ _ _ _ _ _ us hl => match us, hl with | [_], _ => rfl)
  obtain ⟨f_common_divisor, fd_common_divisor, D_common_divisor⟩ := d_common_divisor.at X G (ps := P_common_divisor) (fun _ _ _ _ _ _ us hl => match us, hl with | [_, _], _ => rfl)
  obtain ⟨f_number_of, fd_number_of, D_number_of⟩ := d_number_of.at X G (ps := P_number_of) (fun _ _ _ _ _ _ us hl => match us, hl with | [_, _], _ => rfl)
  obtain ⟨f_fraction_of, fd_fraction_of, D_fraction_of⟩ := d_fraction_of.at X G (ps := P_fraction_of) (fun _ _ _ _ _ _ us hl => match us, hl with | [_], _ => rfl)
  obtain ⟨f_is_bound, fd_is_bound, D_is_bound⟩ := d_is_bound.at X G (ps := P_is_bound) (fun _ _ _ _ _ _ us hl => match us, hl with | [_], _ => rfl)
  obtain ⟨f_is_needs, fd_is_needs, D_is_needs⟩ := d_is_needs.at X G (ps := P_is_needs) (fun _ _ _ _ _ _ us hl => match us, hl with | [_], _ => rfl)
  obtain ⟨f_is_closing, fd_is_closing, D_is_closing⟩ := d_is_closing.at X G (ps := P_is_closing) (fun _ _ _ _ _ _ us hl => match us, hl with | [_], _ => rfl)
  obtain ⟨f_seed, fd_seed, D_seed⟩ := d_seed.at X G (ps := P_seed) (fun _ _ _ _ _ _ us hl => match us, hl with | [_, _], _ => rfl)
  obtain ⟨f_bag, fd_bag, D_bag⟩ := d_bag.at X G (ps := P_bag) (fun _ _ _ _ _ _ us hl => match us, hl with | [_], _ => rfl)
  obtain ⟨f_take, fd_take, D_take⟩ := d_take.at X G (ps := P_take) (fun _ _ _ _ _ _ us hl => match us, hl with | [_, _], _ => rfl)
  obtain ⟨f_terms, fd_terms, D_terms⟩ := d_terms.at X G (ps := P_terms) (fun _ _ _ _ _ _ us hl => match us, hl with | [], _ => rfl)
  obtain ⟨f_sort, fd_sort, D_sort⟩ := d_sort.at X G (ps := P_sort) (fun _ _ _ _ _ _ us hl => match us, hl with | [_], _ => rfl)
  obtain ⟨f_held, fd_held, D_held⟩ := d_held.at X G (ps := P_held) (fun _ _ _ _ _ _ us hl => match us, hl with | [_, _], _ => rfl)
  obtain ⟨f_caught, fd_caught, D_caught⟩ := d_caught.at X G (ps := P_caught) (fun _ _ _ _ _ _ us hl => match us, hl with | [_], _ => rfl)
  obtain ⟨f_common, fd_common, D_common⟩ := d_common.at X G (ps := P_common) (fun _ _ _ _ _ _ us hl => match us, hl with | [_, _], _ => rfl)
  obtain ⟨f_bounds, fd_bounds, D_bounds⟩ := d_bounds.at X G (ps := P_bounds) (fun _ _ _ _ _ _ us hl => match us, hl with | [], _ => rfl)
  obtain ⟨f_tag, fd_tag, D_tag⟩ := d_tag.at X G (ps := P_tag) (fun _ _ _ _ _ _ us hl => match us, hl with | [_], _ => rfl)
  obtain ⟨f_tags, fd_tags, D_tags⟩ := d_tags.at X G (ps := P_tags) (fun _ _ _ _ _ _ us hl => match us, hl with | [_, _], _ => rfl)
  obtain ⟨f_bent, fd_bent, D_bent⟩ := d_bent.at X G (ps := P_bent) (fun _ _ _ _ _ _ us hl => match us, hl with | [_, _], _ => rfl)
  obtain ⟨f_is_tag, fd_is_tag, D_is_tag⟩ := d_is_tag.at X G (ps := P_is_tag) (fun _ _ _ _ _ _ us hl => match us, hl with | [_], _ => rfl)
  obtain ⟨f_is_number, fd_is_number, D_is_number⟩ := d_is_number.at X G (ps := P_is_number) (fun _ _ _ _ _ _ us hl => match us, hl with | [_, _, _], _ => rfl)
  obtain ⟨f_lis_bound, fd_lis_bound, D_lis_bound⟩ := d_lis_bound.at X G (ps := P_lis_bound) (fun _ _ _ _ _ _ us hl => match us, hl with | [_, _], _ => rfl)
  obtain ⟨f_is_pair, fd_is_pair, D_is_pair⟩ := d_is_pair.at X G (ps := P_is_pair) (fun _ _ _ _ _ _ us hl => match us, hl with | [_, _], _ => rfl)
  obtain ⟨f_odd, fd_odd, D_odd⟩ := d_odd.at X G (ps := P_odd) (fun _ _ _ _ _ _ us hl => match us, hl with | [_], _ => rfl)
  obtain ⟨f_wrong_pair, fd_wrong_pair, D_wrong_pair⟩ := d_wrong_pair.at X G (ps := P_wrong_pair) (fun _ _ _ _ _ _ us hl => match us, hl with | [_, _], _ => rfl)
  obtain ⟨f_drawn, fd_drawn, D_drawn⟩ := d_drawn.at X G (ps := P_drawn) (fun _ _ _ _ _ _ us hl => match us, hl with | [_, _], _ => rfl)
  obtain ⟨f_due, fd_due, D_due⟩ := d_due.at X G (ps := P_due) (fun _ _ _ _ _ _ us hl => match us, hl with | [_, _], _ => rfl)
  obtain ⟨f_right, fd_right, D_right⟩ := d_right.at X G (ps := P_right) (fun _ _ _ _ _ _ us hl => match us, hl with | [_, _], _ => rfl)
  obtain ⟨f_Kind_talks, fd_Kind_talks, D_Kind_talks⟩ := m_Kind_talks.at (ps := P_Kind_talks) (fun _ _ _ _ _ _ us hl => match us, hl with | [_], _ => rfl)
  obtain ⟨f_Kind_ends, fd_Kind_ends, D_Kind_ends⟩ := m_Kind_ends.at (ps := P_Kind_ends) (fun _ _ _ _ _ _ us hl => match us, hl with | [_], _ => rfl)
  have EN : ErrNames mg (fun i => ([E0, E1, E2, E3, E4, E5, E6, E7, E8, E9, E10, E11, E12, E13, E14, E15, E16, E17, E18, E19, E20, E21, E22, E23, E24, E25, E26, E27, E28, E29, E30, E31, E32, E33] : List Addr).getD i 0) := ⟨PySem.W.mg_of X G n_E0, PySem.W.mg_of X G n_E1, PySem.W.mg_of X G n_E2, PySem.W.mg_of X G n_E3, PySem.W.mg_of X G n_E4, PySem.W.mg_of X G n_E5, PySem.W.mg_of X G n_E6, PySem.W.mg_of X G n_E7, PySem.W.mg_of X G n_E8, PySem.W.mg_of X G n_E9, PySem.W.mg_of X G n_E10, PySem.W.mg_of X G n_E11, PySem.W.mg_of X G n_E12, PySem.W.mg_of X G n_E13, PySem.W.mg_of X G n_E14, PySem.W.mg_of X G n_E15, PySem.W.mg_of X G n_E16, PySem.W.mg_of X G n_E17, PySem.W.mg_of X G n_E18, PySem.W.mg_of X G n_E19, PySem.W.mg_of X G n_E20, PySem.W.mg_of X G n_E21, PySem.W.mg_of X G n_E22, PySem.W.mg_of X G n_E23, PySem.W.mg_of X G n_E24, PySem.W.mg_of X G n_E25, PySem.W.mg_of X G n_E26, PySem.W.mg_of X G n_E27, PySem.W.mg_of X G n_E28, PySem.W.mg_of X G n_E29, PySem.W.mg_of X G n_E30, PySem.W.mg_of X G n_E31, PySem.W.mg_of X G n_E32, PySem.W.mg_of X G n_E33⟩
  have EX0 := errB_ok x_E0
  have ER_InvalidName : ErrTxt K mg "InvalidName" "given" E0 := y_E0.txt (PySem.W.mg_of X G n_E0) EX0.isx EX0.f_given fld_given
  have EX1 := errB_ok x_E1
  have ER_InvalidNumber : ErrTxt K mg "InvalidNumber" "given" E1 := y_E1.txt (PySem.W.mg_of X G n_E1) EX1.isx EX1.f_given fld_given
  have EX3 := errB_ok x_E3
  have ER_InvalidNeeds : ErrTxt K mg "InvalidNeeds" "given" E3 := y_E3.txt (PySem.W.mg_of X G n_E3) EX3.isx EX3.f_given fld_given
  have EX4 := errB_ok x_E4
  have ER_InvalidClosing : ErrTxt K mg "InvalidClosing" "given" E4 := y_E4.txt (PySem.W.mg_of X G n_E4) EX4.isx EX4.f_given fld_given
  have EX5 := errB_ok x_E5
  have ER_InvalidEnds : ErrTxt K mg "InvalidEnds" "given" E5 := y_E5.txt (PySem.W.mg_of X G n_E5) EX5.isx EX5.f_given fld_given
  obtain ⟨f_law, oc, od, kV, doc, pm, an, cd, ct, sl, e_law, l_law, c_law, k_law⟩ := d_law
  have e := hfa.symm.trans (PySem.W.mg_of X G e_law)
  cases e
  have D_law := fun_mk (st := s_law) l_law c_law k_law
  have hcL := tabIn_code t_law e_law l_law
  obtain ⟨oc1, od1, kV1, doc1, pm1, an1, cdv1, ct1, osl1, hfd1, lk1, hcd1⟩ := D_right.fn.ex
  have hcR : fd_right.code = .ref tc_right := by
    obtain ⟨f', o, fd', e, dd, vs, sl', k1, k2, k3, k4, _⟩ := t_right
    have e1 := D_right.mg.symm.trans (PySem.W.mg_of X G k1)
    cases e1
    rw [lk1] at k2
    cases k2
    cases k3
    exact k4
  obtain ⟨fI, fdI, FK, fIa, fIi⟩ := m_Kind_init
  have M_Kind : Mk K C fI := ⟨o_Kind_mk, fIa, fIi, o_Kind_kp⟩
  have TX : KTxt K mg C := ⟨PySem.W.mg_of X G o_Kind_a, ⟨o_Kind_pg, o_Kind_hd, o_Kind_po, o_Kind_sa⟩, o_Kind_na_parts⟩
  have XS : Errs5 K (fun i => ([E0, E1, E2, E3, E4, E5, E6, E7, E8, E9, E10, E11, E12, E13, E14, E15, E16, E17, E18, E19, E20, E21, E22, E23, E24, E25, E26, E27, E28, E29, E30, E31, E32, E33] : List Addr).getD i 0) := ⟨EX0, EX1, EX3, EX4, EX5⟩
  refine ⟨PySem.W.fnOf "law" "law" (defArgs s_law) (defBody s_law) (defScope s_law) .none kV doc pm an cd ct, [(tc_right, tp_right), (tc_law, tp_law)], sp_law K [(tp_right, qR ++ "<lambda>"), (tp_law, qL ++ "<lambda>")], ?_, fun s v => .of_eq rfl, ?_, fun base hK hg hB => ?_⟩
  · intro p hp
    simp only [List.mem_cons, List.not_mem_nil, or_false] at hp
    rcases hp with rfl | rfl
    · exact ⟨_, by simp, t_right⟩
    · exact ⟨_, by simp, t_law⟩
  · intro H a ns hl hb hC hS
    refine ⟨a, ns, rfl, hS, hl, hb, tabs_nil ?_, fun _ => rfl⟩
    intro p hp
    simp only [List.mem_cons, List.not_mem_nil, or_false] at hp
    rcases hp with rfl | rfl
    · exact hC (tc_right, tp_right) (by simp)
    · exact hC (tc_law, tp_law) (by simp)
  · have G_is_integer : FnOk l.prog w K mg base CX0 1 f_is_integer fd_is_integer P_is_integer (sp_is_integer K) := ok_is_integer D_is_integer T
    have G_is_name : FnOk l.prog w K mg base CX0 1 f_is_name fd_is_name P_is_name (sp_is_name K) := ok_is_name D_is_name T
    have G_fraction_of : FnOk l.prog w K mg base CX0 2 f_fraction_of fd_fraction_of P_fraction_of (sp_fraction_of K) := ok_fraction_of D_fraction_of T D_number_of D_common_divisor
    have G_is_bound : FnOk l.prog w K mg base CX0 3 f_is_bound fd_is_bound P_is_bound (sp_is_bound K) := ok_is_bound D_is_bound D_fraction_of G_fraction_of
    have G_is_needs : FnOk l.prog w K mg base CX0 4 f_is_needs fd_is_needs P_is_needs (sp_is_needs K) := ok_is_needs D_is_needs T D_is_bound G_is_bound D_is_integer G_is_integer
    have G_is_closing : FnOk l.prog w K mg base CX0 4 f_is_closing fd_is_closing P_is_closing (sp_is_closingX K) := ok_is_closingX D_is_closing T D_is_bound G_is_bound D_is_integer G_is_integer
    have G_Kind_initX := ok_Kind_initX (P := l.prog) (w := w) (base := base) (c := fun i => ([E0, E1, E2, E3, E4, E5, E6, E7, E8, E9, E10, E11, E12, E13, E14, E15, E16, E17, E18, E19, E20, E21, E22, E23, E24, E25, E26, E27, E28, E29, E30, E31, E32, E33] : List Addr).getD i 0) FK T TX.c TX.na ER_InvalidName ER_InvalidNumber ER_InvalidNeeds ER_InvalidClosing ER_InvalidEnds D_is_name G_is_name D_is_bound G_is_bound D_is_integer G_is_integer D_is_needs G_is_needs D_is_closing G_is_closing
    have G_sort := ok_sort (P := l.prog) (w := w) (base := base) D_sort T EN D_terms
    have G_held := ok_held (P := l.prog) (w := w) (base := base) (c := fun i => ([E0, E1, E2, E3, E4, E5, E6, E7, E8, E9, E10, E11, E12, E13, E14, E15, E16, E17, E18, E19, E20, E21, E22, E23, E24, E25, E26, E27, E28, E29, E30, E31, E32, E33] : List Addr).getD i 0) D_held T
    have hu1 : ∀ p ∈ [(tp_right, qR ++ ("<lambda>" : Str)), (tp_law, qL ++ ("<lambda>" : Str))], p.1 = tp_right → p.2 = qR ++ ("<lambda>" : Str) := by
      intro p hp e
      simp only [List.mem_cons, List.not_mem_nil, or_false] at hp
      rcases hp with rfl | rfl
      · rfl
      · exact absurd e.symm tn_right_law
    have hu2 : ∀ p ∈ [(tp_right, qR ++ ("<lambda>" : Str)), (tp_law, qL ++ ("<lambda>" : Str))], p.1 = tp_law → p.2 = qL ++ ("<lambda>" : Str) := by
      intro p hp e
      simp only [List.mem_cons, List.not_mem_nil, or_false] at hp
      rcases hp with rfl | rfl
      · exact absurd e tn_right_law
      · rfl
    have G_drawn : FnOk l.prog w K mg base CX0 4 f_drawn fd_drawn P_drawn (sp_drawn K) := ok_drawn D_drawn T D_take D_tag D_odd D_bent D_wrong_pair
    have G_due : OkG l.prog w K mg base CX0 3 f_due fd_due P_due (sp_due K) := ok_due D_due T D_is_tag D_is_number D_lis_bound D_is_pair
    exact ok_law D_law T EN hcL (hB (tc_law, tp_law) (by simp)) (by simp) hu2 XS TX D_bag D_seed D_bounds D_common D_right
      (ok_right (f1 := 0) (fd1 := fd_right) D_right T EN hcR (hB (tc_right, tp_right) (by simp)) (by simp) hu1 XS TX D_drawn G_drawn D_due G_due D_Kind_talks D_Kind_ends D_caught D_sort G_sort D_held G_held M_Kind FK G_Kind_initX)
      D_caught D_sort G_sort D_held G_held M_Kind FK G_Kind_initX
/-! ### the head -/
abbrev R : PySem.W.OpenRow := PySem.W.OpenLaw.row PySem.Challenge.rw_heldvotes_k05_kinds_refused
def fb_0 : Hv.Fb := fun K => decide (PySem.W.nsIn K mainGlobals "Kind" = some (some (.ref (He.ga K "Kind"))))
def fb_1 : Hv.Fb := fun K => decide (PySem.W.plainGet K (He.ga K "Kind") Str.empty = true)
def fb_2 : Hv.Fb := fun K => decide (PySem.W.hasDictIn K (He.ga K "Kind") = true)
def fb_3 : Hv.Fb := fun K => decide (PySem.W.plainOver K (He.ga K "Kind") = true)
def fb_4 : Hv.Fb := fun K => decide (PySem.W.findIn K (.ref (He.ga K "Kind")) "__setattr__" = some (some (.builtin "object.__setattr__")))
def fb_5 : Hv.Fb := fun K => decide (PySem.W.keepIn K (.ref (He.ga K "Kind")) = true)
def fb_6 : Hv.Fb := fun K => decide (PySem.W.makesIn K (He.ga K "Kind") = true)
def fb_7 : Hv.Fb := fun K => decide (PySem.W.findIn K (.ref (He.ga K "Kind")) "parts" = some none)
def fb_8 : Hv.Fb := fun K => Hv.methB "Kind" "__init__" K
def fb_9 : Hv.Fb := fun K => kindKwB K
def fb_10 : Hv.Fb := fun K => Hv.propB "Kind" "talks" K
def fb_11 : Hv.Fb := fun K => Hv.propB "Kind" "ends" K
def fb_12 : Hv.Fb := fun K => decide (PySem.W.nsIn K mainGlobals "InvalidName" = some (some (.ref (He.ga K "InvalidName"))))
def fb_13 : Hv.Fb := fun K => decide (PySem.W.nsIn K mainGlobals "InvalidNumber" = some (some (.ref (He.ga K "InvalidNumber"))))
def fb_14 : Hv.Fb := fun K => decide (PySem.W.nsIn K mainGlobals "InvalidBound" = some (some (.ref (He.ga K "InvalidBound"))))
def fb_15 : Hv.Fb := fun K => decide (PySem.W.nsIn K mainGlobals "InvalidNeeds" = some (some (.ref (He.ga K "InvalidNeeds"))))
def fb_16 : Hv.Fb := fun K => decide (PySem.W.nsIn K mainGlobals "InvalidClosing" = some (some (.ref (He.ga K "InvalidClosing"))))
def fb_17 : Hv.Fb := fun K => decide (PySem.W.nsIn K mainGlobals "InvalidEnds" = some (some (.ref (He.ga K "InvalidEnds"))))
def fb_18 : Hv.Fb := fun K => decide (PySem.W.nsIn K mainGlobals "InvalidAmount" = some (some (.ref (He.ga K "InvalidAmount"))))
def fb_19 : Hv.Fb := fun K => decide (PySem.W.nsIn K mainGlobals "InvalidText" = some (some (.ref (He.ga K "InvalidText"))))
def fb_20 : Hv.Fb := fun K => decide (PySem.W.nsIn K mainGlobals "InvalidHouse" = some (some (.ref (He.ga K "InvalidHouse"))))
def fb_21 : Hv.Fb := fun K => decide (PySem.W.nsIn K mainGlobals "InvalidShare" = some (some (.ref (He.ga K "InvalidShare"))))
def fb_22 : Hv.Fb := fun K => decide (PySem.W.nsIn K mainGlobals "InvalidLimit" = some (some (.ref (He.ga K "InvalidLimit"))))
def fb_23 : Hv.Fb := fun K => decide (PySem.W.nsIn K mainGlobals "InvalidLength" = some (some (.ref (He.ga K "InvalidLength"))))
def fb_24 : Hv.Fb := fun K => decide (PySem.W.nsIn K mainGlobals "InvalidWish" = some (some (.ref (He.ga K "InvalidWish"))))
def fb_25 : Hv.Fb := fun K => decide (PySem.W.nsIn K mainGlobals "InvalidIndex" = some (some (.ref (He.ga K "InvalidIndex"))))
def fb_26 : Hv.Fb := fun K => decide (PySem.W.nsIn K mainGlobals "NotRules" = some (some (.ref (He.ga K "NotRules"))))
def fb_27 : Hv.Fb := fun K => decide (PySem.W.nsIn K mainGlobals "InvalidKinds" = some (some (.ref (He.ga K "InvalidKinds"))))
def fb_28 : Hv.Fb := fun K => decide (PySem.W.nsIn K mainGlobals "InvalidRows" = some (some (.ref (He.ga K "InvalidRows"))))
def fb_29 : Hv.Fb := fun K => decide (PySem.W.nsIn K mainGlobals "InvalidChanges" = some (some (.ref (He.ga K "InvalidChanges"))))
def fb_30 : Hv.Fb := fun K => decide (PySem.W.nsIn K mainGlobals "InvalidWishes" = some (some (.ref (He.ga K "InvalidWishes"))))
def fb_31 : Hv.Fb := fun K => decide (PySem.W.nsIn K mainGlobals "UnknownName" = some (some (.ref (He.ga K "UnknownName"))))
def fb_32 : Hv.Fb := fun K => decide (PySem.W.nsIn K mainGlobals "UnknownMember" = some (some (.ref (He.ga K "UnknownMember"))))
def fb_33 : Hv.Fb := fun K => decide (PySem.W.nsIn K mainGlobals "InUse" = some (some (.ref (He.ga K "InUse"))))
def fb_34 : Hv.Fb := fun K => decide (PySem.W.nsIn K mainGlobals "NotFinite" = some (some (.ref (He.ga K "NotFinite"))))
def fb_35 : Hv.Fb := fun K => decide (PySem.W.nsIn K mainGlobals "Over" = some (some (.ref (He.ga K "Over"))))
def fb_36 : Hv.Fb := fun K => decide (PySem.W.nsIn K mainGlobals "IsClosed" = some (some (.ref (He.ga K "IsClosed"))))
def fb_37 : Hv.Fb := fun K => decide (PySem.W.nsIn K mainGlobals "NotListed" = some (some (.ref (He.ga K "NotListed"))))
def fb_38 : Hv.Fb := fun K => decide (PySem.W.nsIn K mainGlobals "TooFew" = some (some (.ref (He.ga K "TooFew"))))
def fb_39 : Hv.Fb := fun K => decide (PySem.W.nsIn K mainGlobals "UsedUp" = some (some (.ref (He.ga K "UsedUp"))))
def fb_40 : Hv.Fb := fun K => decide (PySem.W.nsIn K mainGlobals "CannotClose" = some (some (.ref (He.ga K "CannotClose"))))
def fb_41 : Hv.Fb := fun K => decide (PySem.W.nsIn K mainGlobals "NothingToUndo" = some (some (.ref (He.ga K "NothingToUndo"))))
def fb_42 : Hv.Fb := fun K => decide (PySem.W.nsIn K mainGlobals "Broken" = some (some (.ref (He.ga K "Broken"))))
def fb_43 : Hv.Fb := fun K => decide (PySem.W.nsIn K mainGlobals "WrongValue" = some (some (.ref (He.ga K "WrongValue"))))
def fb_44 : Hv.Fb := fun K => decide (PySem.W.nsIn K mainGlobals "WrongName" = some (some (.ref (He.ga K "WrongName"))))
def fb_45 : Hv.Fb := fun K => decide (PySem.W.nsIn K mainGlobals "NotPossible" = some (some (.ref (He.ga K "NotPossible"))))
def fb_46 : Hv.Fb := fun K => decide (errB K [(He.ga K "InvalidName"), (He.ga K "InvalidNumber"), (He.ga K "InvalidBound"), (He.ga K "InvalidNeeds"), (He.ga K "InvalidClosing"), (He.ga K "InvalidEnds"), (He.ga K "InvalidAmount"), (He.ga K "InvalidText"), (He.ga K "InvalidHouse"), (He.ga K "InvalidShare"), (He.ga K "InvalidLimit"), (He.ga K "InvalidLength"), (He.ga K "InvalidWish"), (He.ga K "InvalidIndex"), (He.ga K "NotRules"), (He.ga K "InvalidKinds"), (He.ga K "InvalidRows"), (He.ga K "InvalidChanges"), (He.ga K "InvalidWishes"), (He.ga K "UnknownName"), (He.ga K "UnknownMember"), (He.ga K "InUse"), (He.ga K "NotFinite"), (He.ga K "Over"), (He.ga K "IsClosed"), (He.ga K "NotListed"), (He.ga K "TooFew"), (He.ga K "UsedUp"), (He.ga K "CannotClose"), (He.ga K "NothingToUndo"), (He.ga K "Broken"), (He.ga K "WrongValue"), (He.ga K "WrongName"), (He.ga K "NotPossible")] 0 = true)
def fb_47 : Hv.Fb := fun K => Hv.errInB "InvalidName" K
def fb_48 : Hv.Fb := fun K => decide (errB K [(He.ga K "InvalidName"), (He.ga K "InvalidNumber"), (He.ga K "InvalidBound"), (He.ga K "InvalidNeeds"), (He.ga K "InvalidClosing"), (He.ga K "InvalidEnds"), (He.ga K "InvalidAmount"), (He.ga K "InvalidText"), (He.ga K "InvalidHouse"), (He.ga K "InvalidShare"), (He.ga K "InvalidLimit"), (He.ga K "InvalidLength"), (He.ga K "InvalidWish"), (He.ga K "InvalidIndex"), (He.ga K "NotRules"), (He.ga K "InvalidKinds"), (He.ga K "InvalidRows"), (He.ga K "InvalidChanges"), (He.ga K "InvalidWishes"), (He.ga K "UnknownName"), (He.ga K "UnknownMember"), (He.ga K "InUse"), (He.ga K "NotFinite"), (He.ga K "Over"), (He.ga K "IsClosed"), (He.ga K "NotListed"), (He.ga K "TooFew"), (He.ga K "UsedUp"), (He.ga K "CannotClose"), (He.ga K "NothingToUndo"), (He.ga K "Broken"), (He.ga K "WrongValue"), (He.ga K "WrongName"), (He.ga K "NotPossible")] 1 = true)
def fb_49 : Hv.Fb := fun K => Hv.errInB "InvalidNumber" K
def fb_50 : Hv.Fb := fun K => decide (errB K [(He.ga K "InvalidName"), (He.ga K "InvalidNumber"), (He.ga K "InvalidBound"), (He.ga K "InvalidNeeds"), (He.ga K "InvalidClosing"), (He.ga K "InvalidEnds"), (He.ga K "InvalidAmount"), (He.ga K "InvalidText"), (He.ga K "InvalidHouse"), (He.ga K "InvalidShare"), (He.ga K "InvalidLimit"), (He.ga K "InvalidLength"), (He.ga K "InvalidWish"), (He.ga K "InvalidIndex"), (He.ga K "NotRules"), (He.ga K "InvalidKinds"), (He.ga K "InvalidRows"), (He.ga K "InvalidChanges"), (He.ga K "InvalidWishes"), (He.ga K "UnknownName"), (He.ga K "UnknownMember"), (He.ga K "InUse"), (He.ga K "NotFinite"), (He.ga K "Over"), (He.ga K "IsClosed"), (He.ga K "NotListed"), (He.ga K "TooFew"), (He.ga K "UsedUp"), (He.ga K "CannotClose"), (He.ga K "NothingToUndo"), (He.ga K "Broken"), (He.ga K "WrongValue"), (He.ga K "WrongName"), (He.ga K "NotPossible")] 3 = true)
def fb_51 : Hv.Fb := fun K => Hv.errInB "InvalidNeeds" K
def fb_52 : Hv.Fb := fun K => decide (errB K [(He.ga K "InvalidName"), (He.ga K "InvalidNumber"), (He.ga K "InvalidBound"), (He.ga K "InvalidNeeds"), (He.ga K "InvalidClosing"), (He.ga K "InvalidEnds"), (He.ga K "InvalidAmount"), (He.ga K "InvalidText"), (He.ga K "InvalidHouse"), (He.ga K "InvalidShare"), (He.ga K "InvalidLimit"), (He.ga K "InvalidLength"), (He.ga K "InvalidWish"), (He.ga K "InvalidIndex"), (He.ga K "NotRules"), (He.ga K "InvalidKinds"), (He.ga K "InvalidRows"), (He.ga K "InvalidChanges"), (He.ga K "InvalidWishes"), (He.ga K "UnknownName"), (He.ga K "UnknownMember"), (He.ga K "InUse"), (He.ga K "NotFinite"), (He.ga K "Over"), (He.ga K "IsClosed"), (He.ga K "NotListed"), (He.ga K "TooFew"), (He.ga K "UsedUp"), (He.ga K "CannotClose"), (He.ga K "NothingToUndo"), (He.ga K "Broken"), (He.ga K "WrongValue"), (He.ga K "WrongName"), (He.ga K "NotPossible")] 4 = true)
def fb_53 : Hv.Fb := fun K => Hv.errInB "InvalidClosing" K
def fb_54 : Hv.Fb := fun K => decide (errB K [(He.ga K "InvalidName"), (He.ga K "InvalidNumber"), (He.ga K "InvalidBound"), (He.ga K "InvalidNeeds"), (He.ga K "InvalidClosing"), (He.ga K "InvalidEnds"), (He.ga K "InvalidAmount"), (He.ga K "InvalidText"), (He.ga K "InvalidHouse"), (He.ga K "InvalidShare"), (He.ga K "InvalidLimit"), (He.ga K "InvalidLength"), (He.ga K "InvalidWish"), (He.ga K "InvalidIndex"), (He.ga K "NotRules"), (He.ga K "InvalidKinds"), (He.ga K "InvalidRows"), (He.ga K "InvalidChanges"), (He.ga K "InvalidWishes"), (He.ga K "UnknownName"), (He.ga K "UnknownMember"), (He.ga K "InUse"), (He.ga K "NotFinite"), (He.ga K "Over"), (He.ga K "IsClosed"), (He.ga K "NotListed"), (He.ga K "TooFew"), (He.ga K "UsedUp"), (He.ga K "CannotClose"), (He.ga K "NothingToUndo"), (He.ga K "Broken"), (He.ga K "WrongValue"), (He.ga K "WrongName"), (He.ga K "NotPossible")] 5 = true)
def fb_55 : Hv.Fb := fun K => Hv.errInB "InvalidEnds" K
def fb_56 : Hv.Fb := fun K => decide (PySem.W.nsIn K mainGlobals "_law_right" = some (some (.ref (He.ga K "_law_right"))))
def fb_57 : Hv.Fb := fun K => decide (PySem.W.nsIn K mainGlobals "law" = some (some (.ref (He.ga K "law"))))
def fb_58 : Hv.Fb := fun K => decide ((He.cT K ("_law_right", none)).2 ≠ (He.cT K ("law", none)).2)
def fb_59 : Hv.Fb := fun K => decide (PySem.W.nsIn K mainGlobals "is_integer" = some (some (.ref (He.ga K "is_integer"))))
def fb_60 : Hv.Fb := fun K => decide (PySem.W.nsIn K mainGlobals "is_name" = some (some (.ref (He.ga K "is_name"))))
def fb_61 : Hv.Fb := fun K => decide (PySem.W.nsIn K mainGlobals "common_divisor" = some (some (.ref (He.ga K "common_divisor"))))
def fb_62 : Hv.Fb := fun K => decide (PySem.W.nsIn K mainGlobals "number_of" = some (some (.ref (He.ga K "number_of"))))
def fb_63 : Hv.Fb := fun K => decide (PySem.W.nsIn K mainGlobals "fraction_of" = some (some (.ref (He.ga K "fraction_of"))))
def fb_64 : Hv.Fb := fun K => decide (PySem.W.nsIn K mainGlobals "is_bound" = some (some (.ref (He.ga K "is_bound"))))
def fb_65 : Hv.Fb := fun K => decide (PySem.W.nsIn K mainGlobals "is_needs" = some (some (.ref (He.ga K "is_needs"))))
def fb_66 : Hv.Fb := fun K => decide (PySem.W.nsIn K mainGlobals "is_closing" = some (some (.ref (He.ga K "is_closing"))))
def fb_67 : Hv.Fb := fun K => decide (PySem.W.nsIn K mainGlobals "_law_seed" = some (some (.ref (He.ga K "_law_seed"))))
def fb_68 : Hv.Fb := fun K => decide (PySem.W.nsIn K mainGlobals "_law_bag" = some (some (.ref (He.ga K "_law_bag"))))
def fb_69 : Hv.Fb := fun K => decide (PySem.W.nsIn K mainGlobals "_law_take" = some (some (.ref (He.ga K "_law_take"))))
def fb_70 : Hv.Fb := fun K => decide (PySem.W.nsIn K mainGlobals "_law_terms" = some (some (.ref (He.ga K "_law_terms"))))
def fb_71 : Hv.Fb := fun K => decide (PySem.W.nsIn K mainGlobals "_law_sort" = some (some (.ref (He.ga K "_law_sort"))))
def fb_72 : Hv.Fb := fun K => decide (PySem.W.nsIn K mainGlobals "_law_held" = some (some (.ref (He.ga K "_law_held"))))
def fb_73 : Hv.Fb := fun K => decide (PySem.W.nsIn K mainGlobals "_law_caught" = some (some (.ref (He.ga K "_law_caught"))))
def fb_74 : Hv.Fb := fun K => decide (PySem.W.nsIn K mainGlobals "_law_common" = some (some (.ref (He.ga K "_law_common"))))
def fb_75 : Hv.Fb := fun K => decide (PySem.W.nsIn K mainGlobals "_law_bounds" = some (some (.ref (He.ga K "_law_bounds"))))
def fb_76 : Hv.Fb := fun K => decide (PySem.W.nsIn K mainGlobals "_law_tag" = some (some (.ref (He.ga K "_law_tag"))))
def fb_77 : Hv.Fb := fun K => decide (PySem.W.nsIn K mainGlobals "_law_tags" = some (some (.ref (He.ga K "_law_tags"))))
def fb_78 : Hv.Fb := fun K => decide (PySem.W.nsIn K mainGlobals "_law_bent" = some (some (.ref (He.ga K "_law_bent"))))
def fb_79 : Hv.Fb := fun K => decide (PySem.W.nsIn K mainGlobals "_law_is_tag" = some (some (.ref (He.ga K "_law_is_tag"))))
def fb_80 : Hv.Fb := fun K => decide (PySem.W.nsIn K mainGlobals "_law_is_number" = some (some (.ref (He.ga K "_law_is_number"))))
def fb_81 : Hv.Fb := fun K => decide (PySem.W.nsIn K mainGlobals "_law_is_bound" = some (some (.ref (He.ga K "_law_is_bound"))))
def fb_82 : Hv.Fb := fun K => decide (PySem.W.nsIn K mainGlobals "_law_is_pair" = some (some (.ref (He.ga K "_law_is_pair"))))
def fb_83 : Hv.Fb := fun K => decide (PySem.W.nsIn K mainGlobals "_law_odd" = some (some (.ref (He.ga K "_law_odd"))))
def fb_84 : Hv.Fb := fun K => decide (PySem.W.nsIn K mainGlobals "_law_wrong_pair" = some (some (.ref (He.ga K "_law_wrong_pair"))))
def fb_85 : Hv.Fb := fun K => decide (PySem.W.nsIn K mainGlobals "_law_drawn" = some (some (.ref (He.ga K "_law_drawn"))))
def fb_86 : Hv.Fb := fun K => decide (PySem.W.nsIn K mainGlobals "_law_due" = some (some (.ref (He.ga K "_law_due"))))
def fb_87 : Hv.Fb := fun K => decide (PySem.W.nsIn K mainGlobals "ArithmeticError" = some none)
def fb_88 : Hv.Fb := fun K => decide (PySem.W.nsIn K mainGlobals "LookupError" = some none)
def fb_89 : Hv.Fb := fun K => decide (PySem.W.nsIn K mainGlobals "ValueError" = some none)
def fb_90 : Hv.Fb := fun K => decide (PySem.W.nsIn K mainGlobals "abs" = some none)
def fb_91 : Hv.Fb := fun K => decide (PySem.W.nsIn K mainGlobals "all" = some none)
def fb_92 : Hv.Fb := fun K => decide (PySem.W.nsIn K mainGlobals "any" = some none)
def fb_93 : Hv.Fb := fun K => decide (PySem.W.nsIn K mainGlobals "bool" = some none)
def fb_94 : Hv.Fb := fun K => decide (PySem.W.nsIn K mainGlobals "divmod" = some none)
def fb_95 : Hv.Fb := fun K => decide (PySem.W.nsIn K mainGlobals "int" = some none)
def fb_96 : Hv.Fb := fun K => decide (PySem.W.nsIn K mainGlobals "isinstance" = some none)
def fb_97 : Hv.Fb := fun K => decide (PySem.W.nsIn K mainGlobals "len" = some none)
def fb_98 : Hv.Fb := fun K => decide (PySem.W.nsIn K mainGlobals "max" = some none)
def fb_99 : Hv.Fb := fun K => decide (PySem.W.nsIn K mainGlobals "min" = some none)
def fb_100 : Hv.Fb := fun K => decide (PySem.W.nsIn K mainGlobals "property" = some none)
def fb_101 : Hv.Fb := fun K => decide (PySem.W.nsIn K mainGlobals "range" = some none)
def fb_102 : Hv.Fb := fun K => decide (PySem.W.nsIn K mainGlobals "repr" = some none)
def fb_103 : Hv.Fb := fun K => decide (PySem.W.nsIn K mainGlobals "str" = some none)
def fb_104 : Hv.Fb := fun K => decide (PySem.W.nsIn K mainGlobals "tuple" = some none)
def fb_105 : Hv.Fb := fun K => Hv.intB "MOST_TALKS" (3) K
def fb_106 : Hv.Fb := fun K => Hv.intB "MOST_AFTER" (3) K
def fb_107 : Hv.Fb := fun K => Hv.intB "MOST_NEEDS" (9) K
def fb_108 : Hv.Fb := fun K => Hv.intB "MOST_PART" (12) K
def fb_109 : Hv.Fb := fun K => Hv.strB "DIGITS" "0123456789" K
def fb_110 : Hv.Fb := fun K => Hv.strB "LETTERS" "abcdefghijklmnopqrstuvwxyz" K
def fb_111 : Hv.Fb := fun K => Hv.strB "MARK" "over " K
def fbs_0 : List Hv.Fb := [fb_0, fb_1, fb_2, fb_3, fb_4, fb_5, fb_6, fb_7, fb_8, fb_9, fb_10, fb_11, fb_12, fb_13, fb_14, fb_15, fb_16, fb_17, fb_18, fb_19, fb_20, fb_21, fb_22, fb_23, fb_24, fb_25, fb_26, fb_27, fb_28, fb_29]
def fbs_1 : List Hv.Fb := [fb_30, fb_31, fb_32, fb_33, fb_34, fb_35, fb_36, fb_37, fb_38, fb_39, fb_40, fb_41, fb_42, fb_43, fb_44, fb_45, fb_46, fb_47, fb_48, fb_49, fb_50, fb_51, fb_52, fb_53, fb_54, fb_55, fb_56, fb_57, fb_58, fb_59]
def fbs_2 : List Hv.Fb := [fb_60, fb_61, fb_62, fb_63, fb_64, fb_65, fb_66, fb_67, fb_68, fb_69, fb_70, fb_71, fb_72, fb_73, fb_74, fb_75, fb_76, fb_77, fb_78, fb_79, fb_80, fb_81, fb_82, fb_83, fb_84, fb_85, fb_86, fb_87, fb_88, fb_89]
def fbs_3 : List Hv.Fb := [fb_90, fb_91, fb_92, fb_93, fb_94, fb_95, fb_96, fb_97, fb_98, fb_99, fb_100, fb_101, fb_102, fb_103, fb_104, fb_105, fb_106, fb_107, fb_108, fb_109, fb_110, fb_111]
def fbs : List Hv.Fb := fbs_0 ++ (fbs_1 ++ (fbs_2 ++ (fbs_3)))
def fns_0 : List Hv.DefQ := [Hv.defM "Kind" "__init__" "Kind.__init__" s_Kind_init, Hv.defP "Kind" "talks" "Kind.talks" s_Kind_talks, Hv.defP "Kind" "ends" "Kind.ends" s_Kind_ends, Hv.defM "InvalidName" "__init__" "InvalidName.__init__" (inClass (top 2) 0), Hv.defM "InvalidNumber" "__init__" "InvalidNumber.__init__" (inClass (top 3) 0), Hv.defM "InvalidNeeds" "__init__" "InvalidNeeds.__init__" (inClass (top 5) 0), Hv.defM "InvalidClosing" "__init__" "InvalidClosing.__init__" (inClass (top 6) 0), Hv.defM "InvalidEnds" "__init__" "InvalidEnds.__init__" (inClass (top 7) 0), Hv.defG "_law_right" s_right, Hv.defG "law" s_law, Hv.defG "is_integer" s_is_integer, Hv.defG "is_name" s_is_name, Hv.defG "common_divisor" s_common_divisor, Hv.defG "number_of" s_number_of, Hv.defG "fraction_of" s_fraction_of, Hv.defG "is_bound" s_is_bound, Hv.defG "is_needs" s_is_needs, Hv.defG "is_closing" s_is_closing, Hv.defG "_law_seed" s_seed, Hv.defG "_law_bag" s_bag, Hv.defG "_law_take" s_take, Hv.defG "_law_terms" s_terms, Hv.defG "_law_sort" s_sort, Hv.defG "_law_held" s_held, Hv.defG "_law_caught" s_caught, Hv.defG "_law_common" s_common, Hv.defG "_law_bounds" s_bounds, Hv.defG "_law_tag" s_tag, Hv.defG "_law_tags" s_tags, Hv.defG "_law_bent" s_bent]
def fns_1 : List Hv.DefQ := [Hv.defG "_law_is_tag" s_is_tag, Hv.defG "_law_is_number" s_is_number, Hv.defG "_law_is_bound" s_lis_bound, Hv.defG "_law_is_pair" s_is_pair, Hv.defG "_law_odd" s_odd, Hv.defG "_law_wrong_pair" s_wrong_pair, Hv.defG "_law_drawn" s_drawn, Hv.defG "_law_due" s_due]
def fns : List Hv.DefQ := fns_0 ++ (fns_1)
def hfs_0 : List Str := ["is_integer", "is_name", "common_divisor", "number_of", "fraction_of", "is_bound", "is_needs", "is_closing", "_law_seed", "_law_bag", "_law_take", "_law_terms", "_law_sort", "_law_held", "_law_caught", "_law_common", "_law_bounds", "_law_tag", "_law_tags", "_law_bent", "_law_is_tag", "_law_is_number", "_law_is_bound", "_law_is_pair", "_law_odd", "_law_wrong_pair", "_law_drawn", "_law_due", "_law_right", "law"]
def hfs : List Str := hfs_0
def hcs_0 : List Str := ["Kind", "InvalidName", "InvalidNumber", "InvalidNeeds", "InvalidClosing", "InvalidEnds"]
def hcs : List Str := hcs_0
def hds_0 : List Str := ["InvalidBound", "InvalidAmount", "InvalidText", "InvalidHouse", "InvalidShare", "InvalidLimit", "InvalidLength", "InvalidWish", "InvalidIndex", "NotRules", "InvalidKinds", "InvalidRows", "InvalidChanges", "InvalidWishes", "UnknownName", "UnknownMember", "InUse", "NotFinite", "Over", "IsClosed", "NotListed", "TooFew", "UsedUp", "CannotClose", "NothingToUndo", "Broken", "WrongValue", "WrongName", "NotPossible"]
def hds : List Str := hds_0
def htf_0 : List Str := ["_law_right", "law"]
def htf : List Str := htf_0
def loose_0 : List Str := ["__name__", "WrongValue", "InvalidName", "InvalidNumber", "InvalidBound", "InvalidNeeds", "InvalidClosing", "InvalidEnds", "InvalidAmount", "InvalidText", "InvalidHouse", "InvalidShare", "InvalidLimit", "InvalidLength", "InvalidWish", "InvalidIndex", "NotRules", "InvalidKinds", "InvalidRows", "InvalidChanges", "InvalidWishes", "WrongName", "UnknownName", "UnknownMember", "InUse", "NotPossible", "NotFinite", "Over", "IsClosed", "NotListed"]
def loose_1 : List Str := ["TooFew", "UsedUp", "CannotClose", "NothingToUndo", "Broken", "MOST_TALKS", "MOST_AFTER", "MOST_NEEDS", "MOST_PART", "DIGITS", "LETTERS", "is_integer", "is_name", "common_divisor", "number_of", "MARK", "fraction_of", "is_bound", "is_needs", "is_closing", "Kind", "_law_seed", "_law_bag", "_law_take", "_law_terms", "_law_sort", "_law_held", "_law_caught", "_law_common", "_law_bounds"]
def loose_2 : List Str := ["_law_tag", "_law_tags", "_law_bent", "_law_is_tag", "_law_is_number", "_law_is_bound", "_law_is_pair", "_law_odd", "_law_wrong_pair", "_law_drawn", "_law_due", "_law_right"]
def loose : List Str := loose_0 ++ (loose_1 ++ (loose_2))
abbrev hk : PySem.W.Hook := Hv.hookO hfs hcs hds fbs fns htf
def ob (s : PySem.W.SharedT) : Hv.Ob := Hv.obT hfs hcs hds fbs fns htf s
theorem ob_eq (s : PySem.W.SharedT) : ob s = hk.obs s.abs := Hv.obT_eq s
theorem run (w : World) : HandSHeadRun.RunEq R (PySem.W.view R.prog [76]) hk ob 60000 loose w := by
  intro os
  kernel_rfl
theorem all_in {w : World} {mg : Str → Option Value} {fa : Addr} {h : Heap} {K : PySem.W.Frag} (c : Hv.Says fbs fns htf h K) (G : h.Ns mainGlobals mg) (hfa : mg "law" = some (.ref fa)) : Hv.LawT PySem.Challenge.rw_heldvotes_k05_kinds_refused w K 12 63 "_law_script" mg fa htf :=
  all_mk c.kin G hfa (C := (He.ga K "Kind")) (E0 := (He.ga K "InvalidName")) (E1 := (He.ga K "InvalidNumber")) (E2 := (He.ga K "InvalidBound")) (E3 := (He.ga K "InvalidNeeds")) (E4 := (He.ga K "InvalidClosing")) (E5 := (He.ga K "InvalidEnds")) (E6 := (He.ga K "InvalidAmount")) (E7 := (He.ga K "InvalidText")) (E8 := (He.ga K "InvalidHouse")) (E9 := (He.ga K "InvalidShare")) (E10 := (He.ga K "InvalidLimit")) (E11 := (He.ga K "InvalidLength")) (E12 := (He.ga K "InvalidWish")) (E13 := (He.ga K "InvalidIndex")) (E14 := (He.ga K "NotRules")) (E15 := (He.ga K "InvalidKinds")) (E16 := (He.ga K "InvalidRows")) (E17 := (He.ga K "InvalidChanges")) (E18 := (He.ga K "InvalidWishes")) (E19 := (He.ga K "UnknownName")) (E20 := (He.ga K "UnknownMember")) (E21 := (He.ga K "InUse")) (E22 := (He.ga K "NotFinite")) (E23 := (He.ga K "Over")) (E24 := (He.ga K "IsClosed")) (E25 := (He.ga K "NotListed")) (E26 := (He.ga K "TooFew")) (E27 := (He.ga K "UsedUp")) (E28 := (He.ga K "CannotClose")) (E29 := (He.ga K "NothingToUndo")) (E30 := (He.ga K "Broken")) (E31 := (He.ga K "WrongValue")) (E32 := (He.ga K "WrongName")) (E33 := (He.ga K "NotPossible")) (tc_right := (He.cT K ("_law_right", none)).1) (tp_right := (He.cT K ("_law_right", none)).2) (tc_law := (He.cT K ("law", none)).1) (tp_law := (He.cT K ("law", none)).2)
    (o_Kind_a := (of_decide_eq_true (c.b 0 (f := fb_0) rfl)))
    (o_Kind_pg := (of_decide_eq_true (c.b 1 (f := fb_1) rfl)))
    (o_Kind_hd := (of_decide_eq_true (c.b 2 (f := fb_2) rfl)))
    (o_Kind_po := (of_decide_eq_true (c.b 3 (f := fb_3) rfl)))
    (o_Kind_sa := (of_decide_eq_true (c.b 4 (f := fb_4) rfl)))
    (o_Kind_kp := (of_decide_eq_true (c.b 5 (f := fb_5) rfl)))
    (o_Kind_mk := (of_decide_eq_true (c.b 6 (f := fb_6) rfl)))
    (o_Kind_na_parts := (of_decide_eq_true (c.b 7 (f := fb_7) rfl)))
    (m_Kind_init := (kindInit_of (c.b 8 (f := fb_8) rfl) (c.b 9 (f := fb_9) rfl) (c.d 0 (f := Hv.defM "Kind" "__init__" "Kind.__init__" s_Kind_init) rfl)))
    (m_Kind_talks := (Hv.propIn_of (c.b 10 (f := fb_10) rfl) (c.d 1 (f := Hv.defP "Kind" "talks" "Kind.talks" s_Kind_talks) rfl)))
    (m_Kind_ends := (Hv.propIn_of (c.b 11 (f := fb_11) rfl) (c.d 2 (f := Hv.defP "Kind" "ends" "Kind.ends" s_Kind_ends) rfl)))
    (n_E0 := (of_decide_eq_true (c.b 12 (f := fb_12) rfl)))
    (n_E1 := (of_decide_eq_true (c.b 13 (f := fb_13) rfl)))
    (n_E2 := (of_decide_eq_true (c.b 14 (f := fb_14) rfl)))
    (n_E3 := (of_decide_eq_true (c.b 15 (f := fb_15) rfl)))
    (n_E4 := (of_decide_eq_true (c.b 16 (f := fb_16) rfl)))
    (n_E5 := (of_decide_eq_true (c.b 17 (f := fb_17) rfl)))
    (n_E6 := (of_decide_eq_true (c.b 18 (f := fb_18) rfl)))
    (n_E7 := (of_decide_eq_true (c.b 19 (f := fb_19) rfl)))
    (n_E8 := (of_decide_eq_true (c.b 20 (f := fb_20) rfl)))
    (n_E9 := (of_decide_eq_true (c.b 21 (f := fb_21) rfl)))
    (n_E10 := (of_decide_eq_true (c.b 22 (f := fb_22) rfl)))
    (n_E11 := (of_decide_eq_true (c.b 23 (f := fb_23) rfl)))
    (n_E12 := (of_decide_eq_true (c.b 24 (f := fb_24) rfl)))
    (n_E13 := (of_decide_eq_true (c.b 25 (f := fb_25) rfl)))
    (n_E14 := (of_decide_eq_true (c.b 26 (f := fb_26) rfl)))
    (n_E15 := (of_decide_eq_true (c.b 27 (f := fb_27) rfl)))
    (n_E16 := (of_decide_eq_true (c.b 28 (f := fb_28) rfl)))
    (n_E17 := (of_decide_eq_true (c.b 29 (f := fb_29) rfl)))
    (n_E18 := (of_decide_eq_true (c.b 30 (f := fb_30) rfl)))
    (n_E19 := (of_decide_eq_true (c.b 31 (f := fb_31) rfl)))
    (n_E20 := (of_decide_eq_true (c.b 32 (f := fb_32) rfl)))
    (n_E21 := (of_decide_eq_true (c.b 33 (f := fb_33) rfl)))
    (n_E22 := (of_decide_eq_true (c.b 34 (f := fb_34) rfl)))
    (n_E23 := (of_decide_eq_true (c.b 35 (f := fb_35) rfl)))
    (n_E24 := (of_decide_eq_true (c.b 36 (f := fb_36) rfl)))
    (n_E25 := (of_decide_eq_true (c.b 37 (f := fb_37) rfl)))
    (n_E26 := (of_decide_eq_true (c.b 38 (f := fb_38) rfl)))
    (n_E27 := (of_decide_eq_true (c.b 39 (f := fb_39) rfl)))
    (n_E28 := (of_decide_eq_true (c.b 40 (f := fb_40) rfl)))
    (n_E29 := (of_decide_eq_true (c.b 41 (f := fb_41) rfl)))
    (n_E30 := (of_decide_eq_true (c.b 42 (f := fb_42) rfl)))
    (n_E31 := (of_decide_eq_true (c.b 43 (f := fb_43) rfl)))
    (n_E32 := (of_decide_eq_true (c.b 44 (f := fb_44) rfl)))
    (n_E33 := (of_decide_eq_true (c.b 45 (f := fb_45) rfl)))
    (x_E0 := (of_decide_eq_true (c.b 46 (f := fb_46) rfl)))
    (y_E0 := (Hv.errIn_of (st := inClass (top 2) 0) (c.b 47 (f := fb_47) rfl) (c.d 3 (f := Hv.defM "InvalidName" "__init__" "InvalidName.__init__" (inClass (top 2) 0)) rfl) ⟨_, _, rfl⟩ ⟨_, _, _, _, rfl⟩ rfl))
    (x_E1 := (of_decide_eq_true (c.b 48 (f := fb_48) rfl)))
    (y_E1 := (Hv.errIn_of (st := inClass (top 3) 0) (c.b 49 (f := fb_49) rfl) (c.d 4 (f := Hv.defM "InvalidNumber" "__init__" "InvalidNumber.__init__" (inClass (top 3) 0)) rfl) ⟨_, _, rfl⟩ ⟨_, _, _, _, rfl⟩ rfl))
    (x_E3 := (of_decide_eq_true (c.b 50 (f := fb_50) rfl)))
    (y_E3 := (Hv.errIn_of (st := inClass (top 5) 0) (c.b 51 (f := fb_51) rfl) (c.d 5 (f := Hv.defM "InvalidNeeds" "__init__" "InvalidNeeds.__init__" (inClass (top 5) 0)) rfl) ⟨_, _, rfl⟩ ⟨_, _, _, _, rfl⟩ rfl))
    (x_E4 := (of_decide_eq_true (c.b 52 (f := fb_52) rfl)))
    (y_E4 := (Hv.errIn_of (st := inClass (top 6) 0) (c.b 53 (f := fb_53) rfl) (c.d 6 (f := Hv.defM "InvalidClosing" "__init__" "InvalidClosing.__init__" (inClass (top 6) 0)) rfl) ⟨_, _, rfl⟩ ⟨_, _, _, _, rfl⟩ rfl))
    (x_E5 := (of_decide_eq_true (c.b 54 (f := fb_54) rfl)))
    (y_E5 := (Hv.errIn_of (st := inClass (top 7) 0) (c.b 55 (f := fb_55) rfl) (c.d 7 (f := Hv.defM "InvalidEnds" "__init__" "InvalidEnds.__init__" (inClass (top 7) 0)) rfl) ⟨_, _, rfl⟩ ⟨_, _, _, _, rfl⟩ rfl))
    (t_right := (Hv.tabIn_of c (by decide) (c.d 8 (f := Hv.defG "_law_right" s_right) rfl) (of_decide_eq_true (c.b 56 (f := fb_56) rfl))))
    (t_law := (Hv.tabIn_of c (by decide) (c.d 9 (f := Hv.defG "law" s_law) rfl) (of_decide_eq_true (c.b 57 (f := fb_57) rfl))))
    (tn_right_law := (of_decide_eq_true (c.b 58 (f := fb_58) rfl)))
    (d_is_integer := (Hv.defIn_of (c.d 10 (f := Hv.defG "is_integer" s_is_integer) rfl) (of_decide_eq_true (c.b 59 (f := fb_59) rfl))))
    (d_is_name := (Hv.defIn_of (c.d 11 (f := Hv.defG "is_name" s_is_name) rfl) (of_decide_eq_true (c.b 60 (f := fb_60) rfl))))
    (d_common_divisor := (Hv.defIn_of (c.d 12 (f := Hv.defG "common_divisor" s_common_divisor) rfl) (of_decide_eq_true (c.b 61 (f := fb_61) rfl))))
    (d_number_of := (Hv.defIn_of (c.d 13 (f := Hv.defG "number_of" s_number_of) rfl) (of_decide_eq_true (c.b 62 (f := fb_62) rfl))))
    (d_fraction_of := (Hv.defIn_of (c.d 14 (f := Hv.defG "fraction_of" s_fraction_of) rfl) (of_decide_eq_true (c.b 63 (f := fb_63) rfl))))
    (d_is_bound := (Hv.defIn_of (c.d 15 (f := Hv.defG "is_bound" s_is_bound) rfl) (of_decide_eq_true (c.b 64 (f := fb_64) rfl))))
    (d_is_needs := (Hv.defIn_of (c.d 16 (f := Hv.defG "is_needs" s_is_needs) rfl) (of_decide_eq_true (c.b 65 (f := fb_65) rfl))))
    (d_is_closing := (Hv.defIn_of (c.d 17 (f := Hv.defG "is_closing" s_is_closing) rfl) (of_decide_eq_true (c.b 66 (f := fb_66) rfl))))
    (d_seed := (Hv.defIn_of (c.d 18 (f := Hv.defG "_law_seed" s_seed) rfl) (of_decide_eq_true (c.b 67 (f := fb_67) rfl))))
    (d_bag := (Hv.defIn_of (c.d 19 (f := Hv.defG "_law_bag" s_bag) rfl) (of_decide_eq_true (c.b 68 (f := fb_68) rfl))))
    (d_take := (Hv.defIn_of (c.d 20 (f := Hv.defG "_law_take" s_take) rfl) (of_decide_eq_true (c.b 69 (f := fb_69) rfl))))
    (d_terms := (Hv.defIn_of (c.d 21 (f := Hv.defG "_law_terms" s_terms) rfl) (of_decide_eq_true (c.b 70 (f := fb_70) rfl))))
    (d_sort := (Hv.defIn_of (c.d 22 (f := Hv.defG "_law_sort" s_sort) rfl) (of_decide_eq_true (c.b 71 (f := fb_71) rfl))))
    (d_held := (Hv.defIn_of (c.d 23 (f := Hv.defG "_law_held" s_held) rfl) (of_decide_eq_true (c.b 72 (f := fb_72) rfl))))
    (d_caught := (Hv.defIn_of (c.d 24 (f := Hv.defG "_law_caught" s_caught) rfl) (of_decide_eq_true (c.b 73 (f := fb_73) rfl))))
    (d_common := (Hv.defIn_of (c.d 25 (f := Hv.defG "_law_common" s_common) rfl) (of_decide_eq_true (c.b 74 (f := fb_74) rfl))))
    (d_bounds := (Hv.defIn_of (c.d 26 (f := Hv.defG "_law_bounds" s_bounds) rfl) (of_decide_eq_true (c.b 75 (f := fb_75) rfl))))
    (d_tag := (Hv.defIn_of (c.d 27 (f := Hv.defG "_law_tag" s_tag) rfl) (of_decide_eq_true (c.b 76 (f := fb_76) rfl))))
    (d_tags := (Hv.defIn_of (c.d 28 (f := Hv.defG "_law_tags" s_tags) rfl) (of_decide_eq_true (c.b 77 (f := fb_77) rfl))))
    (d_bent := (Hv.defIn_of (c.d 29 (f := Hv.defG "_law_bent" s_bent) rfl) (of_decide_eq_true (c.b 78 (f := fb_78) rfl))))
    (d_is_tag := (Hv.defIn_of (c.d 30 (f := Hv.defG "_law_is_tag" s_is_tag) rfl) (of_decide_eq_true (c.b 79 (f := fb_79) rfl))))
    (d_is_number := (Hv.defIn_of (c.d 31 (f := Hv.defG "_law_is_number" s_is_number) rfl) (of_decide_eq_true (c.b 80 (f := fb_80) rfl))))
    (d_lis_bound := (Hv.defIn_of (c.d 32 (f := Hv.defG "_law_is_bound" s_lis_bound) rfl) (of_decide_eq_true (c.b 81 (f := fb_81) rfl))))
    (d_is_pair := (Hv.defIn_of (c.d 33 (f := Hv.defG "_law_is_pair" s_is_pair) rfl) (of_decide_eq_true (c.b 82 (f := fb_82) rfl))))
    (d_odd := (Hv.defIn_of (c.d 34 (f := Hv.defG "_law_odd" s_odd) rfl) (of_decide_eq_true (c.b 83 (f := fb_83) rfl))))
    (d_wrong_pair := (Hv.defIn_of (c.d 35 (f := Hv.defG "_law_wrong_pair" s_wrong_pair) rfl) (of_decide_eq_true (c.b 84 (f := fb_84) rfl))))
    (d_drawn := (Hv.defIn_of (c.d 36 (f := Hv.defG "_law_drawn" s_drawn) rfl) (of_decide_eq_true (c.b 85 (f := fb_85) rfl))))
    (d_due := (Hv.defIn_of (c.d 37 (f := Hv.defG "_law_due" s_due) rfl) (of_decide_eq_true (c.b 86 (f := fb_86) rfl))))
    (d_right := (Hv.defIn_of (c.d 8 (f := Hv.defG "_law_right" s_right) rfl) (of_decide_eq_true (c.b 56 (f := fb_56) rfl))))
    (d_law := (Hv.defIn_of (c.d 9 (f := Hv.defG "law" s_law) rfl) (of_decide_eq_true (c.b 57 (f := fb_57) rfl))))
    (b_ArithmeticError := (of_decide_eq_true (c.b 87 (f := fb_87) rfl)))
    (b_LookupError := (of_decide_eq_true (c.b 88 (f := fb_88) rfl)))
    (b_ValueError := (of_decide_eq_true (c.b 89 (f := fb_89) rfl)))
    (b_abs := (of_decide_eq_true (c.b 90 (f := fb_90) rfl)))
    (b_all := (of_decide_eq_true (c.b 91 (f := fb_91) rfl)))
    (b_any := (of_decide_eq_true (c.b 92 (f := fb_92) rfl)))
    (b_bool := (of_decide_eq_true (c.b 93 (f := fb_93) rfl)))
    (b_divmod := (of_decide_eq_true (c.b 94 (f := fb_94) rfl)))
    (b_int := (of_decide_eq_true (c.b 95 (f := fb_95) rfl)))
    (b_isinstance := (of_decide_eq_true (c.b 96 (f := fb_96) rfl)))
    (b_len := (of_decide_eq_true (c.b 97 (f := fb_97) rfl)))
    (b_max := (of_decide_eq_true (c.b 98 (f := fb_98) rfl)))
    (b_min := (of_decide_eq_true (c.b 99 (f := fb_99) rfl)))
    (b_property := (of_decide_eq_true (c.b 100 (f := fb_100) rfl)))
    (b_range := (of_decide_eq_true (c.b 101 (f := fb_101) rfl)))
    (b_repr := (of_decide_eq_true (c.b 102 (f := fb_102) rfl)))
    (b_str := (of_decide_eq_true (c.b 103 (f := fb_103) rfl)))
    (b_tuple := (of_decide_eq_true (c.b 104 (f := fb_104) rfl)))
    (c_MOST_TALKS := (Hv.intIn_of (c.b 105 (f := fb_105) rfl)))
    (c_MOST_AFTER := (Hv.intIn_of (c.b 106 (f := fb_106) rfl)))
    (c_MOST_NEEDS := (Hv.intIn_of (c.b 107 (f := fb_107) rfl)))
    (c_MOST_PART := (Hv.intIn_of (c.b 108 (f := fb_108) rfl)))
    (c_DIGITS := (Hv.strIn_of (c.b 109 (f := fb_109) rfl)))
    (c_LETTERS := (Hv.strIn_of (c.b 110 (f := fb_110) rfl)))
    (c_MARK := (Hv.strIn_of (c.b 111 (f := fb_111) rfl)))
end L

open PySem PySem.W PySem.Calls PyProof.Rows in
set_option maxRecDepth 100000 in
set_option maxHeartbeats 0 in
theorem PySem.Challenge.cw_heldvotes_k05_kinds_refused_holds : PySem.Challenge.rw_heldvotes_k05_kinds_refused.Holds := by
  w_on; o_law
  refine HandSHeadRun.head_any (r := OpenLaw.row PySem.Challenge.rw_heldvotes_k05_kinds_refused) (q := view (OpenLaw.row PySem.Challenge.rw_heldvotes_k05_kinds_refused).prog [76]) (H := L.hk) (ob := L.ob) (M := 60000) (loose := L.loose) (d := HandSHeadRun.topDef (OpenLaw.row PySem.Challenge.rw_heldvotes_k05_kinds_refused).prog 76) (kwd := []) L.ob_eq
    (by kernel_rfl) (fun s => by kernel_rfl) L.run (by kernel_rfl) (by kernel_rfl) (by kernel_rfl) (by rfl) (by first | assumption | decide +kernel) (by decide +kernel) ⟨rfl, rfl, rfl, rfl, rfl, by decide +kernel⟩ ?hw ?hc
  case hw => w_witness2
  case hc =>
    refine Hv.walkTE (l := PySem.Challenge.rw_heldvotes_k05_kinds_refused) (n := 63) (k := 12) (x := "_law_script") (fb := L.fbs) (fn := L.fns) L.htf rfl (by decide) (by kernel_rfl) ⟨rfl, by decide, by decide⟩ (fun w h Y => Y) ?F
    intro w mg fa h K c G hmg0
    have hmg : mg ("law" : PySem.Str) = some (.ref fa) := by
      have e : (HandSHeadRun.topDef (OpenLaw.row PySem.Challenge.rw_heldvotes_k05_kinds_refused).prog 76).name = ("law" : PySem.Str) := by kernel_rfl
      rw [← e]
      exact hmg0
    exact L.all_in c G hmg


