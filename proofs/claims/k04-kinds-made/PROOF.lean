import PyProof.Rows.All
import Wide.All
import OpenK.AllK
import Wide.FinOn
import HandS.ForMost
import HandS.ForExc
import HandS.EndBits
import HandS.Wide
import HandS.WideBits
import HandS.IsInst
import HandS.StrMore
import HandS.Style
import HandS.Evl
import PyProof.ReprRoads
import HandS.ReplaceDef
import HandS.ReplaceLit
import HandS.NoneIn
import HandS.Walk
import HandS.Codes
import PyProof.FactsAll.object_2
import PyProof.FactsAll.str_1
import PyProof.FactsAll.str_2
import PyProof.FactsAll.tuple_1
import PyProof.FactsAll.tuple_2
import PyProof.FactsAll.list_1
import PyProof.FactsAll.list_2
import PyProof.FactsAll.int_1
import PyProof.FactsAll.int_2
import PyProof.FactsAll.int_3
import PyProof.FactsAll.NoneType_1
import PyProof.FactsAll.bool_1
import PyProof.FactsAll.bool_2
import PyProof.StrReplace2
import HandS.OwnEq
import HandS.ForSpec
import HandS.SlotsOwn
import HandS.More
import HandS.Defaults
import HandS.MakeKwOnly
import HandS.Property
import PyProof.ReprBulk
import PyProof.Rows.RegStrFacts
import HandS.Records
import HandS.Deep
import KE.DataCmp
import PySem.Challenge.RW_heldvotes_k04_kinds_made
set_option Elab.async false
set_option linter.all false
set_option maxRecDepth 100000
set_option maxHeartbeats 4000000
namespace Hv
open PySem PySem.Spec PyProof.Rows L2

/-- a promise that is kept wherever no repr is under way -/
structure OkG (P : Program) (w : World) (K : PySem.W.Frag) (mg : Str → Option Value) (base : Heap) (CX : CXT) (k : Nat)
    (f : Addr) (fd : FuncData) (ps : List Str) (sp : Sp) : Prop where
  len : ∀ vs H Q E, sp vs H Q E → vs.length = ps.length
  run : ∀ (A : Around) (outer : List Env) (s : Shared) (H : Hp) (args : Args) (us : List Value) (vs : List V) (Q : VK) (E : XK),
    A.guards = some [] → Room k A → Env0 P w K mg base A outer s H → BindsTo s fd args (ps.zip us) → Vals vs us →
    sp vs H Q E → codeAny (model P w) A (.call (.ref f) args) (CR CX outer P w H s Q E) s

section
variable {P : Program} {w : World} {K : PySem.W.Frag} {mg : Str → Option Value} {base : Heap} {CX : CXT} {k : Nat}
  {f : Addr} {fd : FuncData} {ps : List Str} {sp : Sp}
theorem OkG.of (F : FnOk P w K mg base CX k f fd ps sp) : OkG P w K mg base CX k f fd ps sp :=
  ⟨F.len, fun A outer s H args us vs Q E _ => F.run A outer s H args us vs Q E⟩
theorem OkG.mono {j : Nat} (F : OkG P w K mg base CX j f fd ps sp) (h : j ≤ k) : OkG P w K mg base CX k f fd ps sp :=
  ⟨F.len, fun A outer s H args us vs Q E hg hr => F.run A outer s H args us vs Q E hg (hr.mono h)⟩

/-- the rule for a def, where no repr is under way -/
theorem okG {x qual : Str} {st : Stmt} {N : List Str} (F : Fun K x qual st f fd) (S : FnScope N ps (defScope st))
    (len : ∀ vs H Q E, sp vs H Q E → vs.length = ps.length)
    (body : ∀ (cdv : Value) (A : Around) (outer : List Env) (s : Shared) (H : Hp) (vs : List V) (Q : VK) (E : XK),
      A.guards = some [] → Room k (A.deeper (envOfC qual (defScope st) s.heap.objs.size f cdv)) → sp vs H Q E →
      ∃ t, PSs (cxOf CX P w K mg base N qual (defScope st) f cdv A outer s H E) (defBody st) t ∧
        t { nx := fun _ H' => Q .non H', rt := Q } (start N vs) H) :
    OkG P w K mg base CX (k + 1) f fd ps sp := by
  obtain ⟨oc, od, kV, doc, pm, an, cdv, ct, osl, rfl, lk, hcd⟩ := F.ex
  constructor
  · exact len
  intro A outer s H args us vs Q E hg hr e0 hb r hsp
  have KX : K.In s.heap := e0.mod.kin.keeps (fun b o e => (e0.bs b o e).1)
  have lim := e0.mod.nolimit.keeps (fun b o e => (e0.bs b o e).1)
  have kinds : ∀ y ∈ ps.zip us, (defScope st).names.lookup y.1 = some .local ∨
      ((defScope st).names.lookup y.1 = some .cell ∧
        ((cellsFrom (s.heap.objs.size + 1) (defScope st).names []).lookup y.1).isSome = true) := by
    rintro ⟨n, v⟩ hy
    cases S.par n (List.of_mem_zip hy).1 with
    | inl q => exact Or.inl q
    | inr q => exact Or.inr ⟨q, PySem.W.cellsFrom_some _ _ _ (Or.inl q)⟩
  apply codeAny_call_function hr.depth (KX _ _ lk) rfl S.co S.gen rfl (PySem.W.codeRec_of KX hcd)
  apply hb
  refine wpAny_newFunctionEnv_cells S.kind kinds ?_
  rintro env rfl s1 x
  refine ⟨lim.keeps x.toInCall.keep, codeAny_func ?_⟩
  obtain ⟨t, ht, hq⟩ := body cdv A outer s H vs Q E hg (hr.deeper _) hsp
  have I := inv_start (CX := CX) (E := E) S hr.hd e0 (len _ _ _ _ hsp) r x
  apply wpAny_mono (ht.run [] s1 (start N vs) H _ I hq)
  · intro fl s' hs
    cases fl with
    | ret u =>
      obtain ⟨v, σ', H', J, rv, q⟩ := hs
      exact ⟨v, H', J.os, J.bare, J.base, J.hok, rv, q⟩
    | next =>
      obtain ⟨σ', H', J, q⟩ := hs
      exact ⟨V.non, H', J.os, J.bare, J.base, J.hok, rfl, q⟩
    | brk =>
      obtain ⟨_, _, _, q⟩ := hs
      exact q.elim
    | cont =>
      obtain ⟨_, _, _, q⟩ := hs
      exact q.elim
  · intro e s' hs
    exact hs
end

theorem okG0 {P : Program} {w : World} {K : PySem.W.Frag} {mg : Str → Option Value} {base : Heap} {k : Nat} {f : Addr} {fd : FuncData} {ps : List Str} {sp : Sp}
    {x qual : Str} {st : Stmt} {N : List Str} (F : Fun K x qual st f fd) (S : FnScope N ps (defScope st)) (len : ∀ vs H Q E, sp vs H Q E → vs.length = ps.length)
    (body : ∀ (cdv : Value) (A : Around) (outer : List Env) (s : Shared) (H : Hp) (vs : List V) (Q : VK) (E : XK),
      A.guards = some [] → Room k (A.deeper (envOfC qual (defScope st) s.heap.objs.size f cdv)) → sp vs H Q E →
      ∃ t, PSs (cxOf CX0 P w K mg base N qual (defScope st) f cdv A outer s H E).nox (defBody st) t ∧
        t { nx := fun _ H' => Q .non H', rt := Q } (start N vs) H) : OkG P w K mg base CX0 (k + 1) f fd ps sp :=
  okG F S len fun cdv A outer s H vs Q E hg hr hsp =>
    let ⟨t, h, q⟩ := body cdv A outer s H vs Q E hg hr hsp
    ⟨t, h.nox, q⟩
section
variable {X : Cx} {CX : CXT} {k : Nat} {f : Addr} {fd : FuncData} {ps : List Str} {sp : Sp} {dvs : List V} {ds : List Value}
  {E : XK} {x : Str} {p pos : Pos} {e : Expr} {es : List Expr} {t : TA}
theorem runG {pins : List (Addr × Obj)} {σ : L2.St} {H : Hp} {s : Shared} {Q : VK} {us : List Value} {vs : List V}
    (F : OkG X.prog X.w X.K X.mg X.base CX k f fd ps sp) (hG : X.A.guards = some []) (hr : Room k X.A)
    (hb : Binds X.K fd ps ds) (hd : Vals dvs ds) (hx : Passes CX X E) (I : Inv X pins σ H s) (r : Vals vs us)
    (h : sp (vs ++ dvs) H Q E) : wpAny (model X.prog X.w) X.A (call (.ref f) us) (EP X pins σ Q) X.xe s := by
  have r2 : Vals (vs ++ dvs) (us ++ ds) := r.append hd
  have hl : (us ++ ds).length = ps.length := r2.length.symm.trans (F.len _ _ _ _ h)
  have go := F.run X.A X.stack s H ⟨us, []⟩ (us ++ ds) (vs ++ dvs) Q E hG hr I.env0 (hb s us I.kIn hl) r2 h
  refine wpAny_call (codeAny_mono go ?_)
  intro r s' hq
  match r, hq with
  | .error e, hq => exact hx pins σ H s e s' I hq
  | .ok (.ret u), hq => exact I.after hq
  | .ok .next, hq => exact hq.elim
  | .ok .brk, hq => exact hq.elim
  | .ok .cont, hq => exact hq.elim
/-- f(e, ..) for such a def -/
theorem pe_callG (F : OkG X.prog X.w X.K X.mg X.base CX k f fd ps sp) (hG : X.A.guards = some []) (hr : Room k X.A) (hg : Gl X x)
    (hm : X.mg x = some (.ref f)) (hk : PySem.W.keepIn X.K (.ref f) = true) (hb : Binds X.K fd ps ds) (hd : Vals dvs ds)
    (hx : Passes CX X E) (ha : PA X (e :: es) t) (hdb : (x == ("__debug__" : Str)) = false := by decide)
    (he : starEach (e :: es) X.env = (false, eval e X.env) :: starEach es X.env := by rfl)
    (hpl : (backTo pos (starEach es X.env)).any (·.1) = false := by rfl) :
    PE X (.Call (.Name x p) (e :: es) [] pos) (tCall sp dvs E t) := by
  constructor
  intro pins s σ H Q I h
  apply wpAny_Call_Name_kw
  refine ld_glob I hg hm ?_ hdb
  refine PySem.W.callWith_K (h₀ := X.base) I.ok.mod.kin hk (thn (ha.run pos pins s σ H _ I h) ?_) he hpl
  rintro us s1 ⟨vs, H1, I1, r, q⟩
  exact ⟨I1.kIn, runG F hG hr hb hd hx I1 r q⟩
theorem pe_call0G (F : OkG X.prog X.w X.K X.mg X.base CX k f fd ps sp) (hG : X.A.guards = some []) (hr : Room k X.A) (hg : Gl X x)
    (hm : X.mg x = some (.ref f)) (hk : PySem.W.keepIn X.K (.ref f) = true) (hb : Binds X.K fd ps ds) (hd : Vals dvs ds)
    (hx : Passes CX X E) (hdb : (x == ("__debug__" : Str)) = false := by decide) :
    PE X (.Call (.Name x p) [] [] pos) (tCall sp dvs E tNil) := by
  constructor
  intro pins s σ H Q I h
  apply wpAny_Call_Name_kw
  refine ld_glob I hg hm ?_ hdb
  exact PySem.W.callWith_K0 I.kIn hk (runG (us := []) F hG hr hb hd hx I .nil h)

/-- repr of data -/
@[irreducible] def rRepr (K : PySem.W.Frag) : List V → Hp → VK → Prop := fun xs H Q => ∃ v d, xs = [v] ∧ Dp K H v d ∧ d.showable = true ∧ d.hasDict = false ∧ d.depth ≤ 60 ∧ d.shown.length ≤ sizeLine ∧ Q (.str d.shown) H
theorem rd_repr {K : PySem.W.Frag} {H : Hp} {v : V} {d : PyData} {Q : VK} (hv : Dp K H v d) (h1 : d.showable = true) (h2 : d.hasDict = false) (h3 : d.depth ≤ 60) (h4 : d.shown.length ≤ sizeLine) (q : Q (.str d.shown) H) : rRepr K [v] H Q := by
  unfold rRepr
  exact ⟨v, d, rfl, hv, h1, h2, h3, h4, q⟩
theorem cr_repr (hG : X.A.guards = some []) (hu : X.A.units + 64 < cLine) : CallR X (.builtin "repr") (rRepr X.K) := by
  intro pins s σ H xs us Q I r h
  unfold rRepr at h
  obtain ⟨v, d, rfl, hd, hs, hn, hdep, hz, q⟩ := h
  obtain ⟨u, rfl, ru⟩ : ∃ u, us = [u] ∧ RelV v u := by
    cases r with
    | cons a b => cases b with | nil => exact ⟨_, rfl, a⟩
  obtain ⟨as, rd⟩ := Dp.reads I d v u hd ru
  cases hd with
  | non => cases ru; exact PySem.P.repr_of_none ⟨.str _, H, I.tok _, ⟨_, rfl⟩, q⟩
  | bl b => cases ru; exact PySem.P.repr_of_bool ⟨.str _, H, I.tok _, ⟨_, rfl⟩, q⟩
  | int i =>
    obtain ⟨t, rfl⟩ := ru
    refine PySem.P.repr_of_int ?_ ⟨.str _, H, I.tok _, ⟨_, rfl⟩, q⟩
    simpa [PyData.showable] using hs
  | str z =>
    obtain ⟨t, rfl⟩ := ru
    exact PySem.P.repr_of_str ⟨.str _, H, I.tok _, ⟨_, rfl⟩, q⟩ hz
  | lst h1 h2 =>
    cases ru
    refine repr_of_reads' rd hs (by rw [hn]; intro z; cases z) hG (by omega) (fun _ _ e => e) ?_ hz
    intro h' u' tk hk
    exact ⟨.str _, H, I.kept hk, ⟨_, rfl⟩, q⟩
  | tup h1 h2 =>
    cases ru
    refine repr_of_reads' rd hs (by rw [hn]; intro z; cases z) hG (by omega) (fun _ _ e => e) ?_ hz
    intro h' u' tk hk
    exact ⟨.str _, H, I.kept hk, ⟨_, rfl⟩, q⟩
end

/-! ### the end: the law's call, where no repr is under way -/
theorem old_of {P : Program} {w : World} {H H' : Hp} {h h' : Heap} (hO : Only H) (un : Un (frs []) [] H H' h h') (ok : HOk P w H h) (ok' : HOk P w H' h') : OldK h h' := by
  apply OldK.of_keep
  intro b o e
  rcases hO b with z | ⟨ob, xs, z⟩
  · exact un.keep b o e z (by intro q; cases q) (by intro q; cases q)
  · have k1 := (ok b _ z).1
    have k2 := (ok' b _ (un.frzs b ob _ z)).1
    rw [e] at k1
    cases k1
    exact k2
theorem call_lawG {P : Program} {w : World} {K : PySem.W.Frag} {mg mb : Str → Option Value} {CX : CXT} {k : Nat} {fa a : Addr} {fd : FuncData}
    {x : Str} {sp : Sp} {s : Shared} {vs : List Value} {ns : List Int} (KX : K.In s.heap) (gl : s.heap.Ns mainGlobals mg)
    (bl : s.heap.Ns builtinsNs mb) (hbb : ∀ x : Str, x ≠ "__name__" → mb x = bootBuiltins x) (lim : s.heap.NoLimit) (gens : s.gens = #[])
    (ha : s.heap.get? a = some { cls := .type "list", data := .seq vs.toArray }) (hi : IntsAre vs ns) (hl : ns.length ≤ sizeLine)
    (hr : Room k callerA) (F : ∀ base : Heap, K.In base → base.Ns mainGlobals mg → OkG P w K mg base CX k fa fd [x] sp)
    (bind : ∀ (s : Shared) (u : Value), BindsTo s fd ⟨[u], []⟩ [(x, u)])
    (hsp : ∀ H : Hp, SqL K H a (ns.map V.int) → sp [.ref a] H (fun v _ => v = .bl true) fun _ _ _ => False)
    (hCX : ∀ H e s', CX [] H s (fun _ _ _ => False) e s' → False) :
    codeAny (model P w) callerA (.call (.ref fa) ⟨[.ref a], []⟩)
      (fun r s' => r = .ok (.ret (.bool true)) ∧ OldK s.heap s'.heap ∧ s'.os = s.os ∧ AllBare s'.gens) s := by
  have rv := vals_ints hi
  have core : ∀ H : Hp, Only H → SqL K H a (ns.map V.int) → HOk P w H s.heap → (∀ b, H b ≠ none → b = a) → (H a ≠ none → K.lookup a = none) →
      codeAny (model P w) callerA (.call (.ref fa) ⟨[.ref a], []⟩)
        (fun r s' => r = .ok (.ret (.bool true)) ∧ OldK s.heap s'.heap ∧ s'.os = s.os ∧ AllBare s'.gens) s := by
    intro H hO hS ok hA hK
    -- what is no list is not tracked
    have free : ∀ {b : Addr} {o : Obj}, s.heap.get? b = some o → (b = a → H a = none) → H b = none := by
      intro b o _ z
      by_cases q : H b = none
      · exact q
      · have e := hA b q
        rw [e]
        exact z e
    have ns' : ∀ {b : Addr} {m : Str → Option Value}, s.heap.Ns b m → (hidT s.heap H).Ns b m := by
      rintro b m ⟨o, es, ep, e, d, r⟩
      refine ⟨o, es, ep, hidT_get e (free e fun q => ?_), d, r⟩
      subst q
      rw [ha] at e
      cases e
      cases d
    have hKb : K.In (hidT s.heap H) := by
      intro b o e
      refine hidT_get (KX b o e) (free (KX b o e) fun q => ?_)
      subst q
      by_cases z : H b = none
      · exact z
      · rw [hK z] at e
        cases e
    have hM : Mod K mg (hidT s.heap H) := by
      obtain ⟨mc, h1, h2⟩ := lim
      exact ⟨hKb, ns' gl, ⟨mb, ns' bl, hbb⟩, ⟨mc, ns' h1, h2⟩⟩
    have e0 : Env0 P w K mg (hidT s.heap H) callerA [] s H := by
      refine ⟨rfl, hM, fun b o e => of_hidT e, Nat.le_of_eq (hidT_size _ _), trivial, ?_, ok, .of_eq gens⟩
      intro b hb
      cases (show b ∈ ([] : List Addr) from hb)
    have go := (F _ hKb (ns' gl)).run callerA [] s H ⟨[.ref a], []⟩ [.ref a] [.ref a] (fun v _ => v = .bl true) (fun _ _ _ => False)
      rfl hr e0 (bind s (.ref a)) (.cons rfl .nil) (hsp H hS)
    refine codeAny_mono go ?_
    intro r s' h
    match r, h with
    | .error e, h => exact (hCX H e s' h).elim
    | .ok .next, h => exact h.elim
    | .ok .brk, h => exact h.elim
    | .ok .cont, h => exact h.elim
    | .ok (.ret u), h =>
      obtain ⟨v, H', os, bare, un, ok', r', q⟩ := h
      cases (show v = .bl true from q)
      cases (show u = Value.bool true from r')
      exact ⟨rfl, old_of hO un ok ok', os, bare⟩
  by_cases hk : K.lookup a = none
  · refine core (upd (fun _ => none) a (.frz { cls := .type "list", data := .seq vs.toArray } (.lst (ns.map V.int)))) ?_ (.inl (.inr ⟨_, upd_same⟩)) ?_ ?_ fun _ => hk
    · intro b
      by_cases hb : b = a
      · subst hb
        exact .inr ⟨_, _, upd_same⟩
      · exact .inl (upd_ne hb)
    · intro b u z
      by_cases hb : b = a
      · subst hb
        rw [upd_same] at z
        cases z
        exact ⟨ha, by rw [List.length_map]; exact hl, vs, _, rv, ha⟩
      · rw [upd_ne hb] at z
        cases z
    · intro b z
      by_cases hb : b = a
      · exact hb
      · exact absurd (upd_ne hb) z
  · obtain ⟨o, ho⟩ := Option.ne_none_iff_exists'.mp hk
    have e := KX a o ho
    rw [ha] at e
    cases e
    have lenV := hi.length
    refine core (fun _ => none) (fun _ => .inl rfl) (.inr ⟨_, vs.toArray, _, ho, rfl, rfl, rfl, ?_, ?_⟩) ?_ ?_ ?_
    · rw [List.size_toArray, lenV]
      exact hl
    · simpa using rv
    · intro b u z
      cases (show (none : Option HO) = some u from z)
    · intro b z
      exact absurd rfl z
    · intro z
      exact absurd rfl z
theorem walkG {l : PySem.W.OpenLaw} {n k : Nat} {q : Program} {loose : List Str} {XP : (Str → Option Value) → Heap → Prop}
    {YP : World → Heap → Prop} {d : DefRec} {K : Params → PySem.W.Frag} {CX : World → CXT} {sp : World → Sp} {x : Str}
    (hn : l.most = some n) (hn2 : n ≤ sizeLine) (hdf : d.params.defaults = []) (hr : Room k callerA)
    (hY : ∀ (w : World) (h : Heap), YP w h → (K w.params).In h)
    (F : ∀ (w : World) (mg : Str → Option Value) (fa : Addr) (h : Heap), (K w.params).In h → h.Ns mainGlobals mg →
      mg d.name = some (.ref fa) → ∃ fd : FuncData, (∀ (s : Shared) (u : Value), BindsTo s fd ⟨[u], []⟩ [(x, u)]) ∧
        ∀ base : Heap, (K w.params).In base → base.Ns mainGlobals mg → OkG l.prog w (K w.params) mg base (CX w) k fa fd [x] (sp w))
    (hsp : ∀ (w : World) (H : Hp) (a : Addr) (ns : List Int), ns.length ≤ n → (∀ z ∈ ns, Builtin.Int.intBits z ≤ 1048576) →
      SqL (K w.params) H a (ns.map V.int) → sp w [.ref a] H (fun v _ => v = .bl true) fun _ _ _ => False)
    (hCX : ∀ (w : World) (H : Hp) (s : Shared) (e : Value) (s' : Shared), CX w [] H s (fun _ _ _ => False) e s' → False) :
    PySem.W.WalkO q loose XP YP l.row.toRowW d [] (fun f vs => PySem.call f vs) := by
  refine Att.attach_callB hn hdf ?_
  intro w s₀ s₁ mg mb fa o pm cd doc a vs ns G Y ho hd hcd hmg hobj hints hlen hbits hg
  obtain ⟨fd, hb, hF⟩ := F w mg fa _ (hY w _ Y) G.T.g hmg
  exact call_lawG (hY w _ Y) G.T.g G.T.b G.T.builtins G.T.nolimit hg hobj hints (Nat.le_trans hlen hn2) hr hF hb
    (fun H hS => hsp w H a ns hlen hbits hS) (fun H e s' => hCX w H s₁ e s')
end Hv

namespace Hv
open PySem PySem.Spec PyProof.Rows L2
section
variable {X : Cx} {o e : Expr} {to te : TE}
/-- a text's method of one argument; its receiver wants a token -/
theorem pet_m1 {id : String} {name : Str} {apos pos : Pos} {r : V → List V → Hp → VK → Prop} (slot : Slot "str" name id)
    (ty : typeOf (.builtin id) = pure (.type "method_descriptor")) (rule : MtR X id r) (ho : PET X o to) (he : PE X e te)
    (hs : starEach [e] X.env = [(false, eval e X.env)] := by rfl) (hbase : attributeBase o name X.env (eval o X.env) = eval o X.env := by rfl)
    (hline : (apos.endLine == pos.line) = true := by rfl) : PET X (.Call (.Attribute o name apos) [e] [] pos) (tM1 r to te) := by
  intro pins s σ H Q h0 I h
  apply PySem.Call_method1 hbase hs hline
  apply thn (ho pins s σ H _ h0 I h)
  rintro v s1 ⟨x, H1, I1, r1, ⟨a, rfl⟩, q1⟩
  obtain ⟨t, rfl⟩ := _root_.id r1
  refine ⟨"str", _, F.plainAttrs_str, slot, ty, typeIs_str _ _ _, (fun _ e => nomatch e), ?_⟩
  refine Calls.callWith_builtin rfl (Calls.evalArgs_plain (Calls.spliced_cons (thn (he.run pins s1 σ H1 _ I1 q1) ?_)))
  rintro u s2 ⟨y, H2, I2, r2, q2⟩
  exact Calls.spliced_nil (rule pins s2 σ H2 _ [y] _ [u] Q I2 r1 (.cons r2 .nil) q2)
theorem pst_asg {tg : Expr} {g : TG} {pos : Pos} (he : PET X e te) (hg : PG X tg g) (hs : swapsWithSole [tg] e pos.line X.env = pure false := by rfl)
    (hw : swappedStores [tg] e X.env = pure none := by rfl) (h1 : (assignEach [tg] X.env).map (·.2) = [assign tg X.env] := by rfl) :
    PST X (.Assign [tg] e pos) (tAsg te g) := by
  intro pins s σ H D h0 I h
  refine wpAny_Assign_stores (thn (he pins s σ H _ h0 I h) ?_) hs hw
  rintro v s1 ⟨x, H1, I1, r1, q1⟩
  rw [h1]
  exact thn (hg.run pins s1 σ H1 x v _ I1 r1 q1) fun _ s2 q => q
/-- f(k = v, ..), no positional argument -/
theorem pe_callK0 {CX : CXT} {k : Nat} {f : Addr} {fd : FuncData} {ps ks : List Str} {sp : Sp} {E : XK} {x : Str} {p pos : Pos} {kws : List Keyword} {tk : TA}
    {g : List Value → List Value → List Value} {gV : List V → List V → List V} (F : FnOk X.prog X.w X.K X.mg X.base CX k f fd ps sp) (hr : Room k X.A) (hg : Gl X x)
    (hm : X.mg x = some (.ref f)) (hk : PySem.W.keepIn X.K (.ref f) = true) (hb : KBinds X.K fd ps ks g gV) (hx : Passes CX X E) (hkw : PK X kws tk)
    (hall : (backToKw pos (keywordEach kws X.env)).all (·.1.isSome) = true := by rfl) (hks : (backToKw pos (keywordEach kws X.env)).filterMap (·.1) = ks := by rfl)
    (hdb : (x == ("__debug__" : Str)) = false := by decide)
    (hpl : ((backTo pos (starEach [] X.env)).any (·.1) || (backToKw pos (keywordEach kws X.env)).any (·.1.isNone)) = false := by rfl) :
    PE X (.Call (.Name x p) [] kws pos) (tCallK sp gV E tNil tk) := by
  constructor
  intro pins s σ H Q I h
  apply wpAny_Call_Name_kw
  refine ld_glob I hg hm ?_ hdb
  refine PySem.W.callWith_KW0 (h₀ := X.base) I.ok.mod.kin hk hall ?_ hpl
  apply thn (hkw.run pos pins s σ H _ I h)
  rintro ws s2 ⟨zs, H2, I2, rz, q2⟩
  rw [hks]
  exact ⟨I2.kIn, run_fnk (us := []) F hr hb hx I2 .nil rz q2⟩
/-- repr of a truth value -/
theorem cr_reprB : CallR X (.builtin "repr") (fun xs H Q => ∃ b, xs = [.bl b] ∧ Q (.str (if b then "True" else "False")) H) := by
  intro pins s σ H xs us Q I r h
  obtain ⟨b, rfl, q⟩ := h
  cases r with
  | cons a t =>
    cases t
    cases a
    exact PySem.P.repr_of_bool ⟨.str _, H, I.tok _, ⟨_, rfl⟩, q⟩
end
section
variable {P : Program} {w : World} {K : PySem.W.Frag} {mg : Str → Option Value} {base : Heap} {CX : CXT} {k : Nat} {f : Addr} {fd : FuncData} {ps : List Str} {sp : Sp}
/-- the rule for a def without cells: a token is out when its body begins -/
theorem okT {x qual : Str} {st : Stmt} {N : List Str} (F : Fun K x qual st f fd) (S : FnScope N ps (defScope st)) (hnc : ∀ y ∈ (defScope st).names, y.2 ≠ .cell) (hps : 1 ≤ ps.length)
    (len : ∀ vs H Q E, sp vs H Q E → vs.length = ps.length)
    (body : ∀ (cdv : Value) (A : Around) (outer : List Env) (s : Shared) (H : Hp) (vs : List V) (Q : VK) (E : XK),
      Room k (A.deeper (envOfC qual (defScope st) s.heap.objs.size f cdv)) → sp vs H Q E →
      ∃ t, PSsT (cxOf CX P w K mg base N qual (defScope st) f cdv A outer s H E) (defBody st) t ∧ t { nx := fun _ H' => Q .non H', rt := Q } (start N vs) H) :
    FnOk P w K mg base CX (k + 1) f fd ps sp := by
  obtain ⟨oc, od, kV, doc, pm, an, cdv, ct, osl, rfl, lk, hcd⟩ := F.ex
  exact fn_ofT lk hcd S hnc hps len fun A outer s H vs Q E hr hsp => body cdv A outer s H vs Q E hr hsp
end
end Hv

namespace Hv
open PySem L2

theorem dT {p : Prop} [Decidable p] (h : decide p = true) : p := of_decide_eq_true h
theorem dF {p : Prop} [Decidable p] (h : ¬ decide p = true) : ¬ p := fun q => h (decide_eq_true q)
theorem nT {p : Prop} [Decidable p] (h : (!decide p) = true) : ¬ p := fun q => by
  rw [decide_eq_true q] at h
  cases h
theorem nF {p : Prop} [Decidable p] (h : ¬ (!decide p) = true) : p := by
  by_cases q : p
  · exact q
  · exact absurd (by rw [decide_eq_false q]; rfl) h

theorem ifT {p : Prop} [Decidable p] {A B : Prop} (hp : p) (h : A) : if decide p = true then A else B := by
  rw [if_pos (decide_eq_true hp)]
  exact h
theorem ifF {p : Prop} [Decidable p] {A B : Prop} (hp : ¬ p) (h : B) : if decide p = true then A else B := by
  rw [if_neg (fun q => hp (of_decide_eq_true q))]
  exact h
theorem ifNT {p : Prop} [Decidable p] {A B : Prop} (hp : ¬ p) (h : A) : if (!decide p) = true then A else B := by
  rw [decide_eq_false hp]
  exact h
theorem ifNF {p : Prop} [Decidable p] {A B : Prop} (hp : p) (h : B) : if (!decide p) = true then A else B := by
  rw [decide_eq_true hp]
  exact h

/-- a value's reading by what holds behind it -/
theorem join_te {te : TE} {σ : L2.St} {H : Hp} {Q : VK} (S : V → Hp → Prop) (h : ∀ Q' : VK, (∀ v H', S v H' → Q' v H') → te σ H Q') (k : ∀ v H', S v H' → Q v H') : te σ H Q := h Q k

theorem join_asg {te : TE} {g : TG} {u : TS} {D : Ends} {σ : L2.St} {H : Hp} (S : V → Hp → Prop) (h : ∀ Q' : VK, (∀ v H', S v H' → Q' v H') → te σ H Q')
    (k : ∀ v H', S v H' → g v σ H' (u D)) : tSeq (tAsg te g) u D σ H := h _ k

theorem join_ifs {tt : TT} {t u v : TS} {D : Ends} {σ : L2.St} {H : Hp} (S : Bool → Hp → Prop) (h : ∀ Q' : Bool → Hp → Prop, (∀ b H', S b H' → Q' b H') → tt σ H Q')
    (k : ∀ b H', S b H' → if b = true then t { D with nx := v D } σ H' else u { D with nx := v D } σ H') : tSeq (tIfS tt t u) v D σ H := h _ k
/-- both ways of an if come to the same -/
theorem join_if {c : Bool} {A B R : Prop} (hB : c = false → R → B) (hA : c = true → R → A) (r : R) : if c = true then A else B := by
  cases c with
  | true => exact hA rfl r
  | false => exact hB rfl r

structure DefAt (K : PySem.W.Frag) (mg : Str → Option Value) (x : Str) (st : Stmt) (ps : List Str) (f : Addr) (fd : FuncData) : Prop where
  fn : Fun K x x st f fd
  mg : mg x = some (.ref f)
  bd : Binds K fd ps []
/-- what the top has left of a def -/
def DefIn (K : PySem.W.Frag) (x : Str) (st : Stmt) : Prop :=
  ∃ (f : Addr) (oc : Value) (od : Option Addr) (kV doc pm : Value) (an : Option Addr) (cd ct : Value) (sl : Array (Option Value)),
    PySem.W.nsIn K mainGlobals x = some (some (.ref f)) ∧
    K.lookup f = some ⟨oc, od, .func (PySem.W.fnOf x x (defArgs st) (defBody st) (defScope st) .none kV doc pm an cd ct), sl⟩ ∧
    PySem.W.codeIn K cd x = true ∧ PySem.W.keepIn K (.ref f) = true
theorem defIn_mk {K : PySem.W.Frag} {x : Str} {st : Stmt} {f : Addr} {oc : Value} {od : Option Addr} {kV doc pm : Value} {an : Option Addr} {cd ct : Value} {sl : Array (Option Value)}
    (a : PySem.W.nsIn K mainGlobals x = some (some (.ref f)))
    (l : K.lookup f = some ⟨oc, od, .func (PySem.W.fnOf x x (defArgs st) (defBody st) (defScope st) .none kV doc pm an cd ct), sl⟩)
    (c : PySem.W.codeIn K cd x = true) (k : PySem.W.keepIn K (.ref f) = true) : DefIn K x st :=
  ⟨f, oc, od, kV, doc, pm, an, cd, ct, sl, a, l, c, k⟩
theorem constIn_mk {K : PySem.W.Frag} {x : Str} {C : Value → Prop} {v : Value} (a : PySem.W.nsIn K mainGlobals x = some (some v)) (c : C v) : ∃ v, PySem.W.nsIn K mainGlobals x = some (some v) ∧ C v := ⟨v, a, c⟩
theorem DefIn.at {K : PySem.W.Frag} {mg : Str → Option Value} {h : Heap} {x : Str} {st : Stmt} {ps : List Str} (d : DefIn K x st) (X : K.In h) (G : h.Ns mainGlobals mg)
    (hb : ∀ (kV doc pm : Value) (an : Option Addr) (cdv ct : Value) (us : List Value), us.length = ps.length →
      bindArgs (PySem.W.fnOf x x (defArgs st) (defBody st) (defScope st) .none kV doc pm an cdv ct) ⟨us, []⟩ = pure (ps.zip us)) :
    ∃ f fd, DefAt K mg x st ps f fd := by
  obtain ⟨f, oc, od, kV, doc, pm, an, cd, ct, sl, a, l, c, k⟩ := d
  have F := fun_mk (st := st) l c k
  exact ⟨f, _, F, PySem.W.mg_of X G a, F.binds hb⟩

/-- the draws' bag: three ints, the second one from 0 on and not beyond the script's bits, the third at most k -/
def Bag (H : Hp) (b : Addr) (k : Nat) : Prop :=
  ∃ s d n : Int, H b = some (.lst [.int s, .int d, .int n]) ∧ 0 ≤ d ∧ Builtin.Int.intBits d ≤ 1048576 ∧ 0 ≤ n ∧ n ≤ k
theorem Bag.mono {H : Hp} {b : Addr} {j k : Nat} (h : Bag H b j) (le : j ≤ k) : Bag H b k := by
  obtain ⟨s, d, n, h1, h2, h3, h4, h5⟩ := h
  exact ⟨s, d, n, h1, h2, h3, h4, by omega⟩
theorem Bag.same {H H' : Hp} {b : Addr} {k : Nat} (h : Bag H b k) (e : Same H H') : Bag H' b k := by
  obtain ⟨s, d, n, h1, h2⟩ := h
  exact ⟨s, d, n, e _ _ h1, h2⟩
theorem Bag.ne_none {H : Hp} {b p : Addr} {k : Nat} (h : Bag H b k) (hp : H p = none) : p ≠ b := by
  obtain ⟨s, d, n, h1, _⟩ := h
  exact (ne_of_none h1 hp).symm
/-- all that is tracked but b stays -/
def But (b : Addr) (H H' : Hp) : Prop := ∀ a o, a ≠ b → H a = some o → H' a = some o
theorem But.refl {b : Addr} {H : Hp} : But b H H := fun _ _ _ h => h
theorem But.trans {b : Addr} {H H1 H2 : Hp} (x : But b H H1) (y : But b H1 H2) : But b H H2 := fun a o n h => y a o n (x a o n h)
theorem But.put {b : Addr} {H H1 : Hp} {o : HO} (x : But b H H1) : But b H (upd H1 b o) := fun a u n h => by
  rw [upd_ne n]; exact x a u n h
theorem But.new {b p : Addr} {H H1 : Hp} {o : HO} (x : But b H H1) (hp : H1 p = none) : But b H (upd H1 p o) := fun a u n h => by
  have q := x a u n h
  rw [upd_ne (ne_of_none q hp)]; exact q
theorem But.of {b : Addr} {H H' : Hp} (e : Same H H') : But b H H' := fun a o _ h => e a o h
theorem But.seq {b a : Addr} {K : PySem.W.Frag} {H H' : Hp} {xs : List V} (e : But b H H') (n : a ≠ b) (h : SqL K H a xs) : SqL K H' a xs := by
  rcases h with (h | ⟨o, h⟩) | h
  · exact .inl (.inl (e _ _ n h))
  · exact .inl (.inr ⟨o, e _ _ n h⟩)
  · exact .inr h
theorem same_new {H : Hp} {p : Addr} {o : HO} (hp : H p = none) : Same H (upd H p o) := fun a u e => by
  rw [upd_ne (ne_of_none e hp)]; exact e
theorem But.free {b p : Addr} {H H' : Hp} (e : But b H H') (n : p ≠ b) (h : H' p = none) : H p = none := by
  cases q : H p with
  | none => rfl
  | some o =>
    rw [e p o n q] at h
    cases h

/-- changes at places that H did not know -/
theorem same_but {H H1 H2 : Hp} {b : Addr} (s : Same H H1) (hb : H b = none) (e : But b H1 H2) : Same H H2 := fun a o h =>
  e a o (ne_of_none h hb) (s a o h)
theorem same_put {H H1 : Hp} {b : Addr} {o : HO} (s : Same H H1) (hb : H b = none) : Same H (upd H1 b o) := fun a u h => by
  rw [upd_ne (ne_of_none h hb)]
  exact s a u h
theorem Bag.put {H : Hp} {b p : Addr} {k : Nat} {o : HO} (h : Bag H b k) (n : p ≠ b) : Bag (upd H p o) b k := by
  obtain ⟨s, d, m, h1, h2⟩ := h
  exact ⟨s, d, m, by rw [upd_ne n.symm]; exact h1, h2⟩
theorem log2_mono {a b : Nat} (h : a ≤ b) : a.log2 ≤ b.log2 := by
  by_cases h0 : a = 0
  · subst h0
    rw [Nat.log2_zero]
    exact Nat.zero_le _
  · have h1 := Nat.log2_self_le h0
    exact (Nat.le_log2 (by omega)).mpr (Nat.le_trans h1 h)
theorem bits_mono {a b : Int} (h : a.natAbs ≤ b.natAbs) : Builtin.Int.intBits a ≤ Builtin.Int.intBits b := by
  unfold Builtin.Int.intBits
  have := log2_mono h
  by_cases h0 : a = 0
  · rw [if_pos (by rw [h0]; rfl)]
    exact Nat.zero_le _
  · by_cases h1 : b = 0
    · subst h1
      simp at h
      exact absurd h h0
    · rw [if_neg (by simpa using h0), if_neg (by simpa using h1)]
      omega
theorem bits_div {d m : Int} (h0 : 0 ≤ d) (hm : 0 < m) (h : Builtin.Int.intBits d ≤ 1048576) : Builtin.Int.intBits (d / m) ≤ 1048576 := by
  refine Nat.le_trans (bits_mono ?_) h
  have h1 : 0 ≤ d / m := Int.ediv_nonneg h0 (by omega)
  have h2 : d / m ≤ d := Int.ediv_le_self _ h0
  omega
theorem bits_small {n : Int} (h : n.natAbs < 2 ^ 1000) : Builtin.Int.intBits n ≤ 1048576 := by
  unfold Builtin.Int.intBits
  split
  · decide
  · by_cases h0 : n.natAbs = 0
    · rw [h0]
      decide
    · have := (Nat.log2_lt h0).mpr h
      omega
theorem pylong_no {d m : Int} (h : m.natAbs < 2 ^ 1000) : Builtin.divisionGoesByPylong d m = false := by
  unfold Builtin.divisionGoesByPylong
  rw [Bool.and_eq_false_iff]
  left
  rw [decide_eq_false_iff_not]
  dsimp only
  split
  · decide
  · rename_i hz
    have h0 : m.natAbs ≠ 0 := by
      intro q
      apply hz
      rw [beq_iff_eq]
      omega
    have := (Nat.log2_lt h0).mpr h
    omega
theorem m_small {m : Int} (h0 : 0 ≤ m) (h : m ≤ 10 ^ 41) : m.natAbs < 2 ^ 1000 := by
  have e : (10 : Nat) ^ 41 < 2 ^ 1000 := by decide +kernel
  have : m.natAbs ≤ 10 ^ 41 := by omega
  exact Nat.lt_of_le_of_lt this e
/-- a number of the script, or one mixed of its first ones -/
def sp_seed (K : PySem.W.Frag) : Sp := fun vs H Q _ => ∃ (a : Addr) (ns : List Int) (k : Int), vs = [.ref a, .int k] ∧ SqL K H a (ns.map V.int) ∧
  (∀ z ∈ ns, Builtin.Int.intBits z ≤ 1048576) ∧ 0 ≤ k ∧ k < 1000 ∧ ∀ (n : Int) (H' : Hp), Same H H' → Builtin.Int.intBits n ≤ 1048576 → Q (.int n) H'
def sp_bag : Sp := fun vs H Q _ => ∃ (n : Int), vs = [.int n] ∧ Builtin.Int.intBits n ≤ 1048576 ∧
  ∀ (p : Addr) (H' : Hp), H p = none → Same H H' → Bag H' p 0 → Q (.ref p) H'
/-- a draw below m -/
def sp_take : Sp := fun vs H Q _ => ∃ (b : Addr) (m : Int) (k : Nat), vs = [.ref b, .int m] ∧ Bag H b k ∧ k < 1000000 ∧ 0 < m ∧ m.natAbs < 2 ^ 1000 ∧
  ∀ (r : Int) (H' : Hp), But b H H' → Bag H' b (k + 1) → 0 ≤ r → r < m → Q (.int r) H'
end Hv

namespace Hv
open PySem PySem.Spec PyProof.Rows
section
variable {prog : Program} {w : World} {A : Around} {E : Value → Shared → Prop} {s : Shared} {K : PySem.W.Frag} {x C f L : Addr} {h₀ : Heap} {m : Str → Option Value} {ox : Obj} {od : Option Obj}
/-- v.__eq__(x) or v.__ne__(x) declines, the state stays -/
def Declines (prog : Program) (w : World) (A : Around) (E : Value → Shared → Prop) (s : Shared) (op : CmpOp) (v : Value) (x : Addr) : Prop :=
  ∃ T id, s.TypeIs v T ∧ Slot T (cmpInfo op).2.1 id ∧ wpAny (model prog w) A (call (.builtin id) [v, .ref x]) (fun r s' => r = .notImplemented ∧ s' = s) E s
/-- v op x, x an instance on the right: v declines, x is asked -/
theorem cmp_right {op : CmpOp} {v : Value} {T : String} {Q : Value → Shared → Prop} (hu : A.units < cLine) (X : K.In s.heap) (I : PySem.W.InstAt s.heap x ox C od) (hT : s.TypeIs v T) {id : String} (slot : Slot T (cmpInfo op).2.1 id)
    (dec : wpAny (model prog w) A (call (.builtin id) [v, .ref x]) (fun r s' => r = .notImplemented ∧ s' = s) E s) (hsub : PySem.W.subIn K (.ref C) (.type T) = some false)
    (back : wpAny (model prog w) A (tryCompare (.ref x) (cmpInfo op).2.2 v) (fun r s' => ∃ u, r = some u ∧ Q u s') E s) : wpAny (model prog w) A (richCompare op v (.ref x)) Q E s := by
  have hne : (Value.type T != Value.ref C) = true := by
    rw [bne_iff_ne]
    intro q
    cases q
  have one : wpAny (model prog w) A (tryCompare v (cmpInfo op).2.1 (.ref x)) (fun r s' => r = none ∧ s' = s) E s := by
    unfold tryCompare
    refine wpAny_bind (wpAny_callSpecialIfBound?_slot hT slot (wpAny_mono dec ?_ fun _ _ e => e))
    rintro r s' ⟨rfl, rfl⟩
    exact wpAny_pure ⟨rfl, rfl⟩
  unfold richCompare
  simp only [hT.oneThing_none]
  refine wpAny_holding (wpAny_bind (wpAny_cRoomFor hu ?_))
  refine wpAny_bind (wpAny_typeOf hT (wpAny_bind (I.type.here ?_)))
  simp only [hne, if_true]
  refine wpAny_bind ((PySem.W.looks_subIn X hsub).here ?_)
  simp only [Bool.false_eq_true, if_false]
  refine wpAny_bind (wpAny_mono one ?_ fun _ _ e => e)
  rintro r s' ⟨rfl, rfl⟩
  simp only [Bool.not_false, if_true]
  refine wpAny_bind (wpAny_mono back ?_ fun _ _ e => e)
  rintro r s' ⟨u, rfl, q⟩
  exact wpAny_pure q
/-- x.__eq__(b) by the class's own def -/
theorem try_eq {b : Value} {Q : Value → Shared → Prop} (X : K.In s.heap) (I : PySem.W.InstAt s.heap x ox C od) (hs : PySem.W.findIn K (.ref C) "__eq__" = some (some (.ref f))) (hf : PySem.W.isFn K (.ref f) = true)
    (h : wpAny (model prog w) A (call (.ref f) [.ref x, b]) (fun v s' => ∃ k, v = .bool k ∧ Q (.bool k) s') E s) :
    wpAny (model prog w) A (tryCompare (.ref x) "__eq__" b) (fun r s' => ∃ u, r = some u ∧ Q u s') E s := by
  unfold tryCompare
  refine wpAny_bind (PySem.W.ifBound_K X I hs hf (wpAny_mono h ?_ fun _ _ e => e))
  rintro v s' ⟨k, rfl, q⟩
  exact wpAny_pure ⟨_, rfl, q⟩
/-- x != b of an instance whose class has __eq__ alone -/
theorem try_ne {b : Value} {Q : Value → Shared → Prop} (hu : A.in1.units < cLine) (X : K.In s.heap) (I : PySem.W.InstAt s.heap x ox C od) (hn : PySem.W.findIn K (.ref C) "__ne__" = some (some (.builtin "object.__ne__")))
    (hm : PySem.W.mroIn K C (.type "object") = some true) (hs : PySem.W.findIn K (.ref C) "__eq__" = some (some (.ref f))) (hf : PySem.W.isFn K (.ref f) = true)
    (h : wpAny (model prog w) A.in1 (call (.ref f) [.ref x, b]) (fun v s' => ∃ k, v = .bool k ∧ Q (.bool (!k)) s') E s) :
    wpAny (model prog w) A (tryCompare (.ref x) "__ne__" b) (fun r s' => ∃ u, r = some u ∧ Q u s') E s := by
  have call_ne : wpAny (model prog w) A (call (.builtin "object.__ne__") [.ref x, b]) (fun v s' => ∃ k, v = .bool k ∧ Q (.bool k) s') E s := by
    refine wpAny_call (codeAny_call_builtin PySem.F.slot_object_ne.plain PySem.F.entry_object_ne (PySem.W.check_slot (i := "object.__ne__") (owner := "object") (n := "__ne__") (by decide +kernel) (by decide +kernel)
      (I.type.andThen (PySem.W.looks_mroIn X hm)) (PySem.F.args_object_ne_2 _ _) ?_))
    unfold Builtin.«object.__ne__»
    refine wpAny_bind (wpAny_pure ?_)
    refine wpAny_bind (m := cRoomFor _ _) (wpAny_cRoomFor hu ?_)
    refine wpAny_bind (m := callSpecialIfBound? (.ref x) (Str.ofString "__eq__") _) (PySem.W.ifBound_K X I hs hf (wpAny_mono h ?_ fun _ _ e => e))
    rintro v s' ⟨k, rfl, q⟩
    exact wpAny_bind (wpAny_pure (wpAny_pure ⟨_, rfl, q⟩))
  unfold tryCompare
  refine wpAny_bind ?_
  simp only [callSpecialIfBound?, bindSpecialIfBound?]
  refine wpAny_holding (wpAny_bind (wpAny_bind (wpAny_bind (I.type.here ((PySem.W.looks_findIn X hn).here ?_)))))
  simp only [PySem.F.slot_object_ne.bind]
  refine wpAny_bind (wpAny_askSetting (wpAny_ite ?_))
  have fin : wpAny (model prog w) A (call (.builtin "object.__ne__") ([.ref x] ++ [b]) >>= fun v => pure (some v))
      (fun a s' => wpAny (model prog w) A (match a with | some Value.notImplemented => pure none | none => pure none | some v => pure (some v)) (fun r s' => ∃ u, r = some u ∧ Q u s') E s') E s := by
    refine wpAny_bind (wpAny_mono call_ne ?_ fun _ _ e => e)
    rintro v s' ⟨k, rfl, q⟩
    exact wpAny_pure (wpAny_pure ⟨_, rfl, q⟩)
  split
  · exact wpAny_bind (wpAny_pure (wpAny_pure fin))
  · exact wpAny_tryCatch (wpAny_bind (wpAny_pure (wpAny_pure fin)))
/-- x op b, the instance on the left, by what tryCompare gives -/
theorem cmp_left {op : CmpOp} {b tb : Value} {Q : Value → Shared → Prop} (hu : A.units < cLine) (X : K.In s.heap) (I : PySem.W.InstAt s.heap x ox C od) (hb : PySem.W.Looks (model prog w) s.heap (typeOf b) tb) (hn : PySem.W.notFirst K C tb = true)
    (one : wpAny (model prog w) A (tryCompare (.ref x) (cmpInfo op).2.1 b) (fun r s' => ∃ u, r = some u ∧ Q u s') E s) : wpAny (model prog w) A (richCompare op (.ref x) b) Q E s := by
  unfold richCompare
  simp only [oneThing_ref]
  refine wpAny_holding (wpAny_bind (wpAny_cRoomFor hu ?_))
  refine wpAny_bind (I.type.here (wpAny_bind (hb.here ?_)))
  have last : ∀ r s', (∃ u, r = some u ∧ Q u s') → wpAny (model prog w) A (match r with | some v => pure v | none => (pure Value.none : Sem Value)) Q E s' := by
    rintro r s' ⟨u, rfl, q⟩
    exact wpAny_pure q
  split
  · rename_i q
    have e : PySem.W.subIn K tb (.ref C) = some false := by
      unfold PySem.W.notFirst at hn
      rcases Bool.or_eq_true_iff.mp hn with e | e
      · rw [beq_iff_eq.mp e] at q
        simp at q
      · exact beq_iff_eq.mp e
    refine wpAny_bind ((PySem.W.looks_subIn X e).here ?_)
    simp only [Bool.false_eq_true, if_false]
    refine wpAny_bind (wpAny_mono one ?_ fun _ _ e => e)
    rintro r s' ⟨u, rfl, hq⟩
    exact wpAny_pure hq
  · refine wpAny_bind (wpAny_pure ?_)
    simp only [Bool.false_eq_true, if_false]
    refine wpAny_bind (wpAny_mono one ?_ fun _ _ e => e)
    rintro r s' ⟨u, rfl, hq⟩
    exact wpAny_pure hq
/-! who declines an instance -/
theorem asStr_no {M : Model} {A : Around} {E : Value → Shared → Prop} {s : Shared} {o : Obj} {Q : Option Str → Shared → Prop} (hx : s.heap.get? x = some o) (hd : o.data = .plain) (q : Q none s) : wpAny M A (asStr? (.ref x)) Q E s := by
  obtain ⟨oc, od, dt, osl⟩ := o
  cases (show dt = .plain from hd)
  refine wpAny_bind (wpAny_load hx ?_)
  exact wpAny_pure q
theorem asInt_no {M : Model} {A : Around} {E : Value → Shared → Prop} {s : Shared} {o : Obj} {Q : Option Int → Shared → Prop} (hx : s.heap.get? x = some o) (hd : o.data = .plain) (q : Q none s) : wpAny M A (asInt? (.ref x)) Q E s := by
  obtain ⟨oc, od, dt, osl⟩ := o
  cases (show dt = .plain from hd)
  refine wpAny_bind (wpAny_load hx ?_)
  exact wpAny_pure q
theorem str_eq_no {o : Obj} (hd : o.data = .plain) (a : Str) (t : Tok) : GivesAt (fun s => s.heap.get? x = some o) (Builtin.«str.__eq__» ⟨[.str a t, .ref x], []⟩) (.val .notImplemented) := by
  intro prog w A R s hP h
  unfold Builtin.«str.__eq__» Builtin.Str.strCompare
  refine wpAny_bind (wpAny_pure ?_)
  exact wpAny_bind (asStr_no hP hd (wpAny_bind (wpAny_rule (wpAny_pure h))))
theorem str_ne_no {o : Obj} (hd : o.data = .plain) (a : Str) (t : Tok) : GivesAt (fun s => s.heap.get? x = some o) (Builtin.«str.__ne__» ⟨[.str a t, .ref x], []⟩) (.val .notImplemented) := by
  intro prog w A R s hP h
  unfold Builtin.«str.__ne__» Builtin.Str.strCompare
  refine wpAny_bind (wpAny_pure ?_)
  exact wpAny_bind (asStr_no hP hd (wpAny_bind (wpAny_rule (wpAny_pure h))))
theorem int_cmp_no {o : Obj} (hd : o.data = .plain) (nm : String) (g : Int → Int → Bool) (v : Value) (hv : (∃ a t, v = .int a t) ∨ ∃ b, v = .bool b) :
    GivesAt (fun s => s.heap.get? x = some o) (Builtin.Int.intBinary nm (fun x y => ret (.bool (g x y))) false ⟨[v, .ref x], []⟩) (.val .notImplemented) := by
  intro prog w A R s hP h
  unfold Builtin.Int.intBinary
  refine wpAny_bind (wpAny_pure ?_)
  rcases hv with ⟨a, t, rfl⟩ | ⟨b, rfl⟩
  · refine wpAny_bind (wpAny_pure ?_)
    exact wpAny_bind (asInt_no hP hd (wpAny_bind (wpAny_rule (wpAny_pure h))))
  · refine wpAny_bind (wpAny_pure ?_)
    exact wpAny_bind (asInt_no hP hd (wpAny_bind (wpAny_rule (wpAny_pure h))))
theorem int_eq_no {o : Obj} (hd : o.data = .plain) (v : Value) (hv : (∃ a t, v = .int a t) ∨ ∃ b, v = .bool b) : GivesAt (fun s => s.heap.get? x = some o) (Builtin.«int.__eq__» ⟨[v, .ref x], []⟩) (.val .notImplemented) :=
  int_cmp_no hd "__eq__" (· == ·) v hv
theorem int_ne_no {o : Obj} (hd : o.data = .plain) (v : Value) (hv : (∃ a t, v = .int a t) ∨ ∃ b, v = .bool b) : GivesAt (fun s => s.heap.get? x = some o) (Builtin.«int.__ne__» ⟨[v, .ref x], []⟩) (.val .notImplemented) :=
  int_cmp_no hd "__ne__" (· != ·) v hv
/-- a list, a tuple: is the other one such? -/
def InstP (K : PySem.W.Frag) (x C : Addr) (ox : Obj) (od : Option Obj) (s : Shared) : Prop := K.In s.heap ∧ PySem.W.InstAt s.heap x ox C od
theorem list_eq_no (v : Value) (hsub : PySem.W.subIn K (.ref C) (.type "list") = some false) : GivesAt (InstP K x C ox od) (Builtin.«list.__eq__» ⟨[v, .ref x], []⟩) (.val .notImplemented) := by
  intro prog w A R s ⟨X, I⟩ h
  have L : PySem.W.Looks (model prog w) s.heap (isInstance (.ref x) (.type "list")) false := I.type.andThen (PySem.W.looks_subIn X hsub)
  show wpAny _ _ (isInstance (.ref x) (.type "list") >>= _) _ _ s
  refine wpAny_bind (L.here ?_)
  simp only [Bool.not_false, if_true]
  exact wpAny_pure h
theorem list_ne_no (v : Value) (hsub : PySem.W.subIn K (.ref C) (.type "list") = some false) : GivesAt (InstP K x C ox od) (Builtin.«list.__ne__» ⟨[v, .ref x], []⟩) (.val .notImplemented) := by
  intro prog w A R s ⟨X, I⟩ h
  have L : PySem.W.Looks (model prog w) s.heap (isInstance (.ref x) (.type "list")) false := I.type.andThen (PySem.W.looks_subIn X hsub)
  show wpAny _ _ (isInstance (.ref x) (.type "list") >>= _) _ _ s
  refine wpAny_bind (L.here ?_)
  simp only [Bool.not_false, if_true]
  exact wpAny_pure h
theorem tuple_eq_no (v : Value) (hsub : PySem.W.subIn K (.ref C) (.type "tuple") = some false) : GivesAt (InstP K x C ox od) (Builtin.«tuple.__eq__» ⟨[v, .ref x], []⟩) (.val .notImplemented) := by
  intro prog w A R s ⟨X, I⟩ h
  have L : PySem.W.Looks (model prog w) s.heap (isInstance (.ref x) (.type "tuple")) false := I.type.andThen (PySem.W.looks_subIn X hsub)
  show wpAny _ _ (isInstance (.ref x) (.type "tuple") >>= _) _ _ s
  refine wpAny_bind (L.here ?_)
  simp only [Bool.not_false, if_true]
  exact wpAny_pure h
theorem tuple_ne_no (v : Value) (hsub : PySem.W.subIn K (.ref C) (.type "tuple") = some false) : GivesAt (InstP K x C ox od) (Builtin.«tuple.__ne__» ⟨[v, .ref x], []⟩) (.val .notImplemented) := by
  intro prog w A R s ⟨X, I⟩ h
  have L : PySem.W.Looks (model prog w) s.heap (isInstance (.ref x) (.type "tuple")) false := I.type.andThen (PySem.W.looks_subIn X hsub)
  show wpAny _ _ (isInstance (.ref x) (.type "tuple") >>= _) _ _ s
  refine wpAny_bind (L.here ?_)
  simp only [Bool.not_false, if_true]
  exact wpAny_pure h
theorem none_eq_no : GivesAt (fun _ => True) (Builtin.«NoneType.__eq__» ⟨[.none, .ref x], []⟩) (.val .notImplemented) := by
  intro prog w A R s _ h
  unfold Builtin.«NoneType.__eq__»
  refine wpAny_bind (wpAny_pure ?_)
  exact wpAny_pure h
theorem none_ne_no : GivesAt (fun _ => True) (Builtin.«NoneType.__ne__» ⟨[.none, .ref x], []⟩) (.val .notImplemented) := by
  intro prog w A R s _ h
  unfold Builtin.«NoneType.__ne__»
  refine wpAny_bind (wpAny_pure ?_)
  exact wpAny_pure h
/-- the values that decline an instance of the class at C -/
inductive NoEq (K : PySem.W.Frag) (C : Addr) (s : Shared) : Value → String → Prop
  | none : NoEq K C s .none "NoneType"
  | int (i : Int) (t : Tok) : NoEq K C s (.int i t) "int"
  | bool (b : Bool) : NoEq K C s (.bool b) "bool"
  | str (a : Str) (t : Tok) : NoEq K C s (.str a t) "str"
  | list (l : Addr) (h : s.TypeIs (.ref l) "list") : NoEq K C s (.ref l) "list"
  | tuple (l : Addr) (h : s.TypeIs (.ref l) "tuple") : NoEq K C s (.ref l) "tuple"
structure NoSub (K : PySem.W.Frag) (C : Addr) : Prop where
  none : PySem.W.subIn K (.ref C) (.type "NoneType") = some false
  int : PySem.W.subIn K (.ref C) (.type "int") = some false
  bool : PySem.W.subIn K (.ref C) (.type "bool") = some false
  str : PySem.W.subIn K (.ref C) (.type "str") = some false
  list : PySem.W.subIn K (.ref C) (.type "list") = some false
  tuple : PySem.W.subIn K (.ref C) (.type "tuple") = some false
theorem eq_declined {v : Value} {T : String} {op : CmpOp} (ho : op = .Eq ∨ op = .NotEq) (X : K.In s.heap) (I : PySem.W.InstAt s.heap x ox C od) (hx : s.heap.get? x = some ox) (hd : ox.data = .plain) (c : NoSub K C) (hv : NoEq K C s v T) :
    ∃ id, s.TypeIs v T ∧ Slot T (cmpInfo op).2.1 id ∧ wpAny (model prog w) A (call (.builtin id) [v, .ref x]) (fun r s' => r = .notImplemented ∧ s' = s) E s := by
  rcases ho with rfl | rfl
  · cases hv with
    | none => exact ⟨_, rfl, F.slot_NoneType_eq, call_givesAt F.slot_NoneType_eq rfl F.entry_NoneType_eq (F.args_NoneType_eq_2 _ _) none_eq_no trivial ⟨rfl, rfl⟩⟩
    | int i t => exact ⟨_, rfl, F.slot_int_eq, call_givesAt F.slot_int_eq rfl F.entry_int_eq (F.args_int_eq_2 _ _) (int_eq_no hd _ (.inl ⟨_, _, rfl⟩)) hx ⟨rfl, rfl⟩⟩
    | bool b => exact ⟨_, rfl, F.slot_bool_eq, call_givesAt F.slot_bool_eq rfl F.entry_int_eq (F.args_int_eq_2 _ _) (int_eq_no hd _ (.inr ⟨_, rfl⟩)) hx ⟨rfl, rfl⟩⟩
    | str a t => exact ⟨_, rfl, F.slot_str_eq, call_givesAt F.slot_str_eq rfl F.entry_str_eq (F.args_str_eq_2 _ _) (str_eq_no hd _ _) hx ⟨rfl, rfl⟩⟩
    | list l h => exact ⟨_, h, F.slot_list_eq, call_givesAt F.slot_list_eq h F.entry_list_eq (F.args_list_eq_2 _ _) (list_eq_no _ c.list) ⟨X, I⟩ ⟨rfl, rfl⟩⟩
    | tuple l h => exact ⟨_, h, F.slot_tuple_eq, call_givesAt F.slot_tuple_eq h F.entry_tuple_eq (F.args_tuple_eq_2 _ _) (tuple_eq_no _ c.tuple) ⟨X, I⟩ ⟨rfl, rfl⟩⟩
  · cases hv with
    | none => exact ⟨_, rfl, F.slot_NoneType_ne, call_givesAt F.slot_NoneType_ne rfl F.entry_NoneType_ne (F.args_NoneType_ne_2 _ _) none_ne_no trivial ⟨rfl, rfl⟩⟩
    | int i t => exact ⟨_, rfl, F.slot_int_ne, call_givesAt F.slot_int_ne rfl F.entry_int_ne (F.args_int_ne_2 _ _) (int_ne_no hd _ (.inl ⟨_, _, rfl⟩)) hx ⟨rfl, rfl⟩⟩
    | bool b => exact ⟨_, rfl, F.slot_bool_ne, call_givesAt F.slot_bool_ne rfl F.entry_int_ne (F.args_int_ne_2 _ _) (int_ne_no hd _ (.inr ⟨_, rfl⟩)) hx ⟨rfl, rfl⟩⟩
    | str a t => exact ⟨_, rfl, F.slot_str_ne, call_givesAt F.slot_str_ne rfl F.entry_str_ne (F.args_str_ne_2 _ _) (str_ne_no hd _ _) hx ⟨rfl, rfl⟩⟩
    | list l h => exact ⟨_, h, F.slot_list_ne, call_givesAt F.slot_list_ne h F.entry_list_ne (F.args_list_ne_2 _ _) (list_ne_no _ c.list) ⟨X, I⟩ ⟨rfl, rfl⟩⟩
    | tuple l h => exact ⟨_, h, F.slot_tuple_ne, call_givesAt F.slot_tuple_ne h F.entry_tuple_ne (F.args_tuple_ne_2 _ _) (tuple_ne_no _ c.tuple) ⟨X, I⟩ ⟨rfl, rfl⟩⟩
theorem NoSub.at (c : NoSub K C) {v : Value} {T : String} (hv : NoEq K C s v T) : PySem.W.subIn K (.ref C) (.type T) = some false := by
  cases hv
  · exact c.none
  · exact c.int
  · exact c.bool
  · exact c.str
  · exact c.list
  · exact c.tuple
end
end Hv

namespace Hv
open PySem PySem.Spec PyProof.Rows L2
/-- what == and != ask of the class at C whose own __eq__ is at f -/
structure EqO (K : PySem.W.Frag) (C f : Addr) : Prop where
  eq : PySem.W.findIn K (.ref C) "__eq__" = some (some (.ref f))
  fn : PySem.W.isFn K (.ref f) = true
  ne : PySem.W.findIn K (.ref C) "__ne__" = some (some (.builtin "object.__ne__"))
  ob : PySem.W.mroIn K C (.type "object") = some true
  no : NoSub K C
  u1 : PySem.W.subIn K (.type "NoneType") (.ref C) = some false
  u2 : PySem.W.subIn K (.type "int") (.ref C) = some false
  u3 : PySem.W.subIn K (.type "bool") (.ref C) = some false
  u4 : PySem.W.subIn K (.type "str") (.ref C) = some false
  u5 : PySem.W.subIn K (.type "list") (.ref C) = some false
  u6 : PySem.W.subIn K (.type "tuple") (.ref C) = some false
/-- values of built-in types that stand in H -/
inductive Oth (K : PySem.W.Frag) (H : Hp) : V → Prop
  | non : Oth K H .non
  | int (i : Int) : Oth K H (.int i)
  | bl (b : Bool) : Oth K H (.bl b)
  | str (z : Str) : Oth K H (.str z)
  | lst (a : Addr) (xs : List V) (h : H a = some (.lst xs)) : Oth K H (.ref a)
  | tup (a : Addr) (xs : List V) (h : SqT K H a xs) : Oth K H (.ref a)
section
variable {X : Cx} {CX : CXT} {n : Nat} {C f : Addr} {sp : Sp} {E : XK} {pins : List (Addr × Obj)} {σ : L2.St} {H : Hp} {s : Shared}
theorem run_below {k : Nat} {A : Around} {Q : VK} {us : List Value} {vs : List V} (sb : Sub X k A) (F : FnR X.prog X.w X.K X.mg X.base CX k f sp) (hx : Passes CX X E) (I : Inv X pins σ H s) (r : Vals vs us) (h : sp vs H Q E) :
    wpAny (model X.prog X.w) A (call (.ref f) us) (EP X pins σ Q) X.xe s := by
  have e0 : Env0 X.prog X.w X.K X.mg X.base A X.stack s H := by
    have e := I.env0
    exact ⟨by rw [sb.fr]; exact e.frames, e.mod, e.bs, e.bsz, e.funs, e.frf, e.hok, e.bare⟩
  refine wpAny_call (codeAny_mono (F A X.stack s H us vs Q E sb.room e0 r h) fun r s' hq => ?_)
  cases r with
  | error e => exact hx pins σ H s e s' I hq
  | ok fl =>
    cases fl with
    | ret u => exact I.after hq
    | next => exact False.elim hq
    | brk => exact False.elim hq
    | cont => exact False.elim hq
theorem oth_no {y : V} {u : Value} (I : Inv X pins σ H s) (o : Oth X.K H y) (r : RelV y u) : ∃ T, NoEq X.K C s u T := by
  cases o with
  | non => cases (show u = Value.none from r); exact ⟨_, .none⟩
  | int i => obtain ⟨t, rfl⟩ := (show ∃ t, u = Value.int i t from r); exact ⟨_, .int i t⟩
  | bl b => cases (show u = Value.bool b from r); exact ⟨_, .bool b⟩
  | str z => obtain ⟨t, rfl⟩ := (show ∃ t, u = Value.str z t from r); exact ⟨_, .str z t⟩
  | lst a xs h =>
    cases (show u = Value.ref a from r)
    obtain ⟨z, its, k, r, e⟩ := I.hok a _ h
    exact ⟨_, .list a ⟨_, e, rfl⟩⟩
  | tup a xs h =>
    cases (show u = Value.ref a from r)
    obtain ⟨its, r, ⟨o, ho, hc, n, hd⟩, hz⟩ := I.tuple h
    exact ⟨_, .tuple a ⟨o, ho, hc⟩⟩
theorem EqO.first (c : EqO X.K C f) {u : Value} {T : String} (h : NoEq X.K C s u T) : PySem.W.notFirst X.K C (.type T) = true := by
  unfold PySem.W.notFirst
  cases h
  · rw [c.u1]; simp
  · rw [c.u2]; simp
  · rw [c.u3]; simp
  · rw [c.u4]; simp
  · rw [c.u5]; simp
  · rw [c.u6]; simp
/-- the other side of an instance of C -/
def Mate (K : PySem.W.Frag) (C : Addr) (H : Hp) (y : V) : Prop := Oth K H y ∨ ∃ b D dy gs, y = .ref b ∧ H b = some (.ins D dy gs) ∧ PySem.W.notFirst K C (.ref D) = true
/-- x == y, x != y with an instance of C on the left -/
def rOwnL (K : PySem.W.Frag) (C : Addr) (g : Bool → Bool) (sp : Sp) (E : XK) : R2 := fun x y H Q => ∃ a dx fs, x = .ref a ∧ H a = some (.ins C dx fs) ∧ Mate K C H y ∧ sp [x, y] H (fun v H' => ∃ k, v = .bl k ∧ Q (.bl (g k)) H') E
/-- the same with an instance of C on the right, a value of a built-in type on the left -/
def rOwnR (K : PySem.W.Frag) (C : Addr) (g : Bool → Bool) (sp : Sp) (E : XK) : R2 := fun x y H Q => ∃ a dx fs, y = .ref a ∧ H a = some (.ins C dx fs) ∧ Oth K H x ∧ sp [y, x] H (fun v H' => ∃ k, v = .bl k ∧ Q (.bl (g k)) H') E
theorem run_bool {g : Bool → Bool} {k : Nat} {A : Around} {Q : VK} {us : List Value} {vs : List V} (sb : Sub X k A) (F : FnR X.prog X.w X.K X.mg X.base CX k f sp) (hx : Passes CX X E) (I : Inv X pins σ H s) (r : Vals vs us)
    (h : sp vs H (fun v H' => ∃ k, v = .bl k ∧ Q (.bl (g k)) H') E) :
    wpAny (model X.prog X.w) A (call (.ref f) us) (fun v s' => ∃ k, v = .bool k ∧ EP X pins σ Q (.bool (g k)) s') X.xe s := by
  refine wpAny_mono (run_below sb F hx I r h) ?_ fun _ _ z => z
  rintro v s' ⟨z, H', I', rz, k, rfl, q⟩
  cases (show v = Value.bool k from rz)
  exact ⟨k, rfl, .bl (g k), H', I', rfl, q⟩
theorem looks_ty {M : Model} {l : Addr} {T : String} (h : s.TypeIs (.ref l) T) : PySem.W.Looks M s.heap (typeOf (.ref l)) (.type T) := by
  obtain ⟨o, ho, hc⟩ := h
  exact fun A Q E s' k q => wpAny_typeOf ⟨o, k _ _ ho, hc⟩ q
theorem mate_type {y : V} {u : Value} (c : EqO X.K C f) (I : Inv X pins σ H s) (h : Mate X.K C H y) (r : RelV y u) : ∃ tb, PySem.W.Looks (model X.prog X.w) s.heap (typeOf u) tb ∧ PySem.W.notFirst X.K C tb = true := by
  rcases h with h | ⟨b, D, dy, gs, rfl, hb, hn⟩
  · obtain ⟨T, h⟩ := oth_no (C := C) I h r
    refine ⟨.type T, ?_, c.first h⟩
    cases h with
    | none => exact PySem.W.Looks.now
    | int i t => exact PySem.W.Looks.now
    | bool b => exact PySem.W.Looks.now
    | str a t => exact PySem.W.Looks.now
    | list l h => exact looks_ty h
    | tuple l h => exact looks_ty h
  · cases (show u = Value.ref b from r)
    obtain ⟨mB, J', _⟩ := ins_get I.hok hb
    obtain ⟨od', J', _⟩ := J'.look
    exact ⟨_, J'.type, hn⟩
theorem op_eqOwnL (c : EqO X.K C f) (F : FnR X.prog X.w X.K X.mg X.base CX n f sp) (hr : Room n X.A) (hx : Passes CX X E) : OpR X (compareOp .Eq) (rOwnL X.K C id sp E) := by
  intro pins s σ H x y v u Q I rx ry h
  obtain ⟨a, dx, fs, rfl, ha, hm, q⟩ := h
  cases (show v = Value.ref a from rx)
  obtain ⟨mA, J, _⟩ := ins_get I.hok ha
  obtain ⟨od, J, _⟩ := J.look
  obtain ⟨tb, L, hn⟩ := mate_type c I hm ry
  show wpAny (model X.prog X.w) X.A (richCompare .Eq (.ref a) u) (EP X pins σ Q) X.xe s
  exact cmp_left (op := .Eq) hr.units0 I.kIn J L hn (try_eq I.kIn J c.eq c.fn (run_bool (g := id) ⟨hr, rfl⟩ F hx I (vs := [.ref a, y]) (.cons rfl (.cons ry .nil)) q))
theorem op_neOwnL (c : EqO X.K C f) (F : FnR X.prog X.w X.K X.mg X.base CX n f sp) (hr : Room (n + 1) X.A) (hx : Passes CX X E) : OpR X (compareOp .NotEq) (rOwnL X.K C (!·) sp E) := by
  intro pins s σ H x y v u Q I rx ry h
  obtain ⟨a, dx, fs, rfl, ha, hm, q⟩ := h
  cases (show v = Value.ref a from rx)
  obtain ⟨mA, J, _⟩ := ins_get I.hok ha
  obtain ⟨od, J, _⟩ := J.look
  obtain ⟨tb, L, hn⟩ := mate_type c I hm ry
  have sb : Sub X (n + 1) X.A := ⟨hr, rfl⟩
  show wpAny (model X.prog X.w) X.A (richCompare .NotEq (.ref a) u) (EP X pins σ Q) X.xe s
  exact cmp_left (op := .NotEq) hr.units0 I.kIn J L hn (try_ne sb.in1.room.units0 I.kIn J c.ne c.ob c.eq c.fn (run_bool (g := (!·)) sb.in1 F hx I (vs := [.ref a, y]) (.cons rfl (.cons ry .nil)) q))
theorem op_eqOwnR (c : EqO X.K C f) (F : FnR X.prog X.w X.K X.mg X.base CX n f sp) (hr : Room n X.A) (hx : Passes CX X E) : OpR X (compareOp .Eq) (rOwnR X.K C id sp E) := by
  intro pins s σ H x y v u Q I rx ry h
  obtain ⟨a, dx, fs, rfl, ha, hm, q⟩ := h
  cases (show u = Value.ref a from ry)
  obtain ⟨mA, J0, _⟩ := ins_get I.hok ha
  obtain ⟨od, J, _⟩ := J0.look
  obtain ⟨T, hT⟩ := oth_no (C := C) I hm rx
  obtain ⟨id', t1, t2, t3⟩ := eq_declined (prog := X.prog) (w := X.w) (A := X.A) (E := X.xe) (op := .Eq) (.inl rfl) I.kIn J J.at_ rfl c.no hT
  show wpAny (model X.prog X.w) X.A (richCompare .Eq v (.ref a)) (EP X pins σ Q) X.xe s
  exact cmp_right (op := .Eq) hr.units0 I.kIn J t1 t2 t3 (c.no.at hT) (try_eq I.kIn J c.eq c.fn (run_bool (g := id) ⟨hr, rfl⟩ F hx I (vs := [.ref a, x]) (.cons rfl (.cons rx .nil)) q))
theorem op_neOwnR (c : EqO X.K C f) (F : FnR X.prog X.w X.K X.mg X.base CX n f sp) (hr : Room (n + 1) X.A) (hx : Passes CX X E) : OpR X (compareOp .NotEq) (rOwnR X.K C (!·) sp E) := by
  intro pins s σ H x y v u Q I rx ry h
  obtain ⟨a, dx, fs, rfl, ha, hm, q⟩ := h
  cases (show u = Value.ref a from ry)
  obtain ⟨mA, J0, _⟩ := ins_get I.hok ha
  obtain ⟨od, J, _⟩ := J0.look
  obtain ⟨T, hT⟩ := oth_no (C := C) I hm rx
  obtain ⟨id', t1, t2, t3⟩ := eq_declined (prog := X.prog) (w := X.w) (A := X.A) (E := X.xe) (op := .NotEq) (.inr rfl) I.kIn J J.at_ rfl c.no hT
  have sb : Sub X (n + 1) X.A := ⟨hr, rfl⟩
  show wpAny (model X.prog X.w) X.A (richCompare .NotEq v (.ref a)) (EP X pins σ Q) X.xe s
  exact cmp_right (op := .NotEq) hr.units0 I.kIn J t1 t2 t3 (c.no.at hT) (try_ne sb.in1.room.units0 I.kIn J c.ne c.ob c.eq c.fn (run_bool (g := (!·)) sb.in1 F hx I (vs := [.ref a, x]) (.cons rfl (.cons rx .nil)) q))
theorem op_or {op : Value → Value → Sem Value} {r1 r2 : R2} (h1 : OpR X op r1) (h2 : OpR X op r2) : OpR X op (fun x y H Q => r1 x y H Q ∨ r2 x y H Q) := by
  intro pins s σ H x y v u Q I rx ry h
  rcases h with h | h
  · exact h1 pins s σ H x y v u Q I rx ry h
  · exact h2 pins s σ H x y v u Q I rx ry h
end
end Hv

namespace Hv
open PySem L2 SlX
/-- a def of a class as the top has left it -/
def MethIn (K : PySem.W.Frag) (C : Addr) (x qual : Str) (st : Stmt) : Prop :=
  ∃ (f : Addr) (oc : Value) (od : Option Addr) (kV doc pm : Value) (an : Option Addr) (cd ct : Value) (sl : Array (Option Value)),
    PySem.W.findIn K (.ref C) x = some (some (.ref f)) ∧ PySem.W.isFn K (.ref f) = true ∧
    K.lookup f = some ⟨oc, od, .func (PySem.W.fnOf x qual (defArgs st) (defBody st) (defScope st) .none kV doc pm an cd ct), sl⟩ ∧
    PySem.W.codeIn K cd qual = true ∧ PySem.W.keepIn K (.ref f) = true
theorem methIn_mk {K : PySem.W.Frag} {C : Addr} {x qual : Str} {st : Stmt} {f : Addr} {oc : Value} {od : Option Addr} {kV doc pm : Value} {an : Option Addr} {cd ct : Value} {sl : Array (Option Value)}
    (a : PySem.W.findIn K (.ref C) x = some (some (.ref f))) (i : PySem.W.isFn K (.ref f) = true)
    (l : K.lookup f = some ⟨oc, od, .func (PySem.W.fnOf x qual (defArgs st) (defBody st) (defScope st) .none kV doc pm an cd ct), sl⟩)
    (c : PySem.W.codeIn K cd qual = true) (k : PySem.W.keepIn K (.ref f) = true) : MethIn K C x qual st :=
  ⟨f, oc, od, kV, doc, pm, an, cd, ct, sl, a, i, l, c, k⟩
structure MethAt (K : PySem.W.Frag) (C : Addr) (x qual : Str) (st : Stmt) (ps : List Str) (f : Addr) (fd : FuncData) : Prop where
  at_ : PySem.W.findIn K (.ref C) x = some (some (.ref f))
  isf : PySem.W.isFn K (.ref f) = true
  fn : Fun K x qual st f fd
  bd : Binds K fd ps []
theorem MethIn.at {K : PySem.W.Frag} {C : Addr} {x qual : Str} {st : Stmt} {ps : List Str} (d : MethIn K C x qual st)
    (hb : ∀ (kV doc pm : Value) (an : Option Addr) (cdv ct : Value) (us : List Value), us.length = ps.length →
      bindArgs (PySem.W.fnOf x qual (defArgs st) (defBody st) (defScope st) .none kV doc pm an cdv ct) ⟨us, []⟩ = pure (ps.zip us)) :
    ∃ f fd, MethAt K C x qual st ps f fd := by
  obtain ⟨f, oc, od, kV, doc, pm, an, cd, ct, sl, a, i, l, c, k⟩ := d
  have F := fun_mk (st := st) l c k
  exact ⟨f, _, a, i, F, F.binds hb⟩
/-- a property of a class, its getter at g -/
structure PropK (K : PySem.W.Frag) (C : Addr) (x : Str) (g : Addr) : Prop where
  ex : ∃ p, PySem.W.findIn K (.ref C) x = some (some (.ref p)) ∧ PySem.W.specialIn K (.ref p) "__get__" = some (some (.builtin "property.__get__")) ∧
    PySem.W.takesIn K (.ref p) = some true ∧ ∃ rest, PySem.W.recIn K p "property" = some (.ref g :: rest)
def PropIn (K : PySem.W.Frag) (C : Addr) (x qual : Str) (st : Stmt) : Prop :=
  ∃ (g : Addr) (oc : Value) (od : Option Addr) (kV doc pm : Value) (an : Option Addr) (cd ct : Value) (sl : Array (Option Value)), PropK K C x g ∧
    K.lookup g = some ⟨oc, od, .func (PySem.W.fnOf x qual (defArgs st) (defBody st) (defScope st) .none kV doc pm an cd ct), sl⟩ ∧
    PySem.W.codeIn K cd qual = true ∧ PySem.W.keepIn K (.ref g) = true
theorem propIn_mk {K : PySem.W.Frag} {C p : Addr} {rest : List Value} {x qual : Str} {st : Stmt} {g : Addr} {oc : Value} {od : Option Addr} {kV doc pm : Value} {an : Option Addr} {cd ct : Value} {sl : Array (Option Value)}
    (a : PySem.W.findIn K (.ref C) x = some (some (.ref p))) (b : PySem.W.specialIn K (.ref p) "__get__" = some (some (.builtin "property.__get__"))) (t : PySem.W.takesIn K (.ref p) = some true)
    (r : PySem.W.recIn K p "property" = some (.ref g :: rest))
    (l : K.lookup g = some ⟨oc, od, .func (PySem.W.fnOf x qual (defArgs st) (defBody st) (defScope st) .none kV doc pm an cd ct), sl⟩)
    (c : PySem.W.codeIn K cd qual = true) (k : PySem.W.keepIn K (.ref g) = true) : PropIn K C x qual st :=
  ⟨g, oc, od, kV, doc, pm, an, cd, ct, sl, ⟨p, a, b, t, rest, r⟩, l, c, k⟩
structure PropAt (K : PySem.W.Frag) (C : Addr) (x qual : Str) (st : Stmt) (ps : List Str) (f : Addr) (fd : FuncData) : Prop where
  pr : PropK K C x f
  fn : Fun K x qual st f fd
  bd : Binds K fd ps []
theorem PropIn.at {K : PySem.W.Frag} {C : Addr} {x qual : Str} {st : Stmt} {ps : List Str} (d : PropIn K C x qual st)
    (hb : ∀ (kV doc pm : Value) (an : Option Addr) (cdv ct : Value) (us : List Value), us.length = ps.length →
      bindArgs (PySem.W.fnOf x qual (defArgs st) (defBody st) (defScope st) .none kV doc pm an cdv ct) ⟨us, []⟩ = pure (ps.zip us)) :
    ∃ f fd, PropAt K C x qual st ps f fd := by
  obtain ⟨f, oc, od, kV, doc, pm, an, cd, ct, sl, pr, l, c, k⟩ := d
  have F := fun_mk (st := st) l c k
  exact ⟨f, _, pr, F, F.binds hb⟩
theorem raw_ok {P : Program} {w : World} {K : PySem.W.Frag} {mg : Str → Option Value} {base : Heap} {CX : CXT} {k : Nat} {f : Addr} {fd : FuncData} {ps : List Str} {sp : Sp} (F : FnOk P w K mg base CX k f fd ps sp) (hb : Binds K fd ps []) :
    FnR P w K mg base CX k f sp := (FnOk.raw F hb .nil).imp fun vs H Q E h => by
  rw [List.append_nil]
  exact h
section
variable {X : Cx} {e : Expr} {ta : TE} {C g : Addr} {f : Str} {pos : Pos} {n : Nat} {sp : Sp}
/-- a property of an instance with slots -/
theorem pe_propO (he : PE X e ta) (c : SCls X.K C) (p : PropK X.K C f g) (F : FnR X.prog X.w X.K X.mg X.base CX0 n g sp) (hr : Room (n + 1) X.A)
    (hb : attributeBase e f X.env (eval e X.env) = eval e X.env := by rfl) : PE X (.Attribute e f pos) (tPropSl C sp E0 ta) := by
  obtain ⟨p, h1, h2, h3, h4⟩ := p.ex
  exact pe_propSl he c h1 h2 h3 h4 F hr (fun _ _ _ _ z => z) hb
/-- one of two ways to read a call -/
theorem callR_or {v : Value} {r1 r2 : List V → Hp → VK → Prop} (h1 : CallR X v r1) (h2 : CallR X v r2) : CallR X v (fun xs H Q => r1 xs H Q ∨ r2 xs H Q) := by
  intro pins s σ H xs us Q I r h
  rcases h with h | h
  · exact h1 pins s σ H xs us Q I r h
  · exact h2 pins s σ H xs us Q I r h
end
end Hv

namespace L
open PySem L2 Hv
def top (i : Nat) : Stmt := PySem.Challenge.pw_heldvotes_k04_kinds_made.main.body.getD i (.Pass ⟨0, 0, 0, 0⟩)
structure Txt (K : PySem.W.Frag) (mg : Str → Option Value) : Prop where
  ValueError : mg "ValueError" = none
  abs : mg "abs" = none
  all : mg "all" = none
  any : mg "any" = none
  bool : mg "bool" = none
  divmod : mg "divmod" = none
  int : mg "int" = none
  isinstance : mg "isinstance" = none
  len : mg "len" = none
  list : mg "list" = none
  max : mg "max" = none
  min : mg "min" = none
  property : mg "property" = none
  range : mg "range" = none
  repr : mg "repr" = none
  str : mg "str" = none
  tuple : mg "tuple" = none
  cMOST_TALKS : ∃ t, mg "MOST_TALKS" = some (.int (3) t)
  cMOST_TIMES : ∃ t, mg "MOST_TIMES" = some (.int (3) t)
  cMOST_AFTER : ∃ t, mg "MOST_AFTER" = some (.int (3) t)
  cMOST_NEEDS : ∃ t, mg "MOST_NEEDS" = some (.int (9) t)
  cMOST_PART : ∃ t, mg "MOST_PART" = some (.int (12) t)
  cDIGITS : ∃ t, mg "DIGITS" = some (.str "0123456789" t)
  cLETTERS : ∃ t, mg "LETTERS" = some (.str "abcdefghijklmnopqrstuvwxyz" t)
  cMARK : ∃ t, mg "MARK" = some (.str "over " t)
end L

namespace L
open PySem L2 Hv
variable {P : Program} {w : World} {K : PySem.W.Frag} {mg : Str → Option Value} {base : Heap}
abbrev s_take : Stmt := top 33
abbrev N_take : List Str := ["_law_bag_here", "_law_many", "_law_digit"]
abbrev P_take : List Str := ["_law_bag_here", "_law_many"]
theorem sc_take : FnScope N_take P_take (defScope s_take) := ⟨rfl, rfl, rfl, by decide +kernel, rfl, by decide +kernel, by decide +kernel⟩
theorem ok_take {f : Addr} {fd : FuncData} (D : DefAt K mg "_law_take" s_take P_take f fd) (T : Txt K mg) : FnOk P w K mg base CX0 1 f fd P_take sp_take := by
  refine D.fn.ok sc_take (fun vs H Q E h => ?_) (fun cdv A outer s H vs Q E hr h => ?_)
  · obtain ⟨b, m, k, rfl, _⟩ := h
    rfl
  · obtain ⟨b, m, k, rfl, ⟨z, d, n, hb, d0, db, n0, nk⟩, hk, m0, m1, ret⟩ := h
    refine ⟨_, (pss_cons (ps_asg (pe_op op_add (pe_ix ix_list (pv 0) pe_int (fun _ _ => rfl)) pe_int) (pg_sub (pv 0) pe_int set_list))
      (pss_cons (ps_asg (pe_op op_mod (pe_callTy call_int1 (by rfl) T.int (by decide +kernel) (pa_cons (pe_op op_add (pe_op op_add (pe_op op_mul (pe_ix ix_list (pv 0) pe_int (fun _ _ => rfl)) pe_int) (pe_op op_mul (pe_op op_mul (pe_ix ix_list (pv 0) pe_int (fun _ _ => rfl)) (pe_ix ix_list (pv 0) pe_int (fun _ _ => rfl))) pe_int)) pe_int) pa_nil)) pe_int) (pg_sub (pv 0) pe_int set_list))
      (pss_cons (ps_if (pt_cmpR op_gt (pe_ix ix_list (pv 0) pe_int (fun _ _ => rfl)) pe_int (nomark _))
      (pss_cons (ps_asg (pe_callB call_divmodW (by rfl) T.divmod (by decide +kernel) (pa_cons (pe_ix ix_list (pv 0) pe_int (fun _ _ => rfl)) (pa_cons (pv 1) pa_nil))) (pg_tup (by rfl) (pgs_cons (pg_sub (pv 0) pe_int set_list) (pgs_cons (pg_name (i := 2) sc_take.nd rfl (.inl rfl)) pgs_nil))))
      (pss_one (ps_ret (pv 2))))
      pss_nil)
      (pss_one (ps_ret (pe_op op_mod (pe_callTy call_int1 (by rfl) T.int (by decide +kernel) (pa_cons (pe_op op_fdiv (pe_ix ix_list (pv 0) pe_int (fun _ _ => rfl)) pe_int) pa_nil)) (pv 1))))))), ?_⟩
    refine ⟨_, rfl, _, _, _, _, rfl, rfl, SqL.of hb, rfl, _, _, rfl, rfl, _, rfl, _, _, _, _, rfl, rfl, hb, rfl, ?_⟩
    have hb1 := upd_same (H := H) (a := b) (o := .lst (List.set [.int z, .int d, .int n] 2 (.int (n + 1))))
    refine ⟨_, rfl, _, _, _, _, rfl, rfl, SqL.of hb1, rfl, _, _, rfl, rfl, .inr ⟨by decide, by decide⟩, _, rfl, _, _, _, _, rfl, rfl, SqL.of hb1, rfl, _, rfl, _, _, _, _, rfl, rfl, SqL.of hb1, rfl, _, _, rfl, rfl, .inl ⟨by omega, by omega⟩,
      _, _, rfl, rfl, .inr ⟨by decide, by decide⟩, _, _, rfl, rfl, _, _, rfl, rfl, .inl ⟨_, rfl, _, _, rfl, rfl, (by show (0 : Int) < _; decide), _, rfl, _, _, _, _, rfl, rfl, hb1, rfl, ?_⟩⟩
    rw [upd_upd]
    have hb2 := upd_same (H := H) (a := b) (o := .lst [.int ((z * 91193 + (n + 1) * (n + 1) * 6827 + 40507) % 2147483399), .int d, .int (n + 1)])
    refine ⟨_, rfl, _, _, _, _, rfl, rfl, SqL.of hb2, rfl, _, _, rfl, rfl, _, rfl, ?_⟩
    refine ite2 (fun hc => ?_) (fun hc => ?_)
    · refine ⟨_, rfl, _, _, _, _, rfl, rfl, SqL.of hb2, rfl, _, rfl, _, _, rfl, ⟨m0, pylong_no m1⟩, fun p hp => ?_⟩
      have np : b ≠ p := ne_of_none hb2 hp
      refine ⟨_, _, rfl, SqT.of upd_same, rfl, _, _, rfl, _, rfl, _, _, _, _, rfl, rfl, (upd_ne np).trans hb2, rfl, _, _, rfl, rfl, _, rfl, ?_⟩
      refine ret _ _ (((But.refl.put).new hp).put) ⟨_, _, _, upd_same, ?_, bits_div d0 m0 db, ?_, ?_⟩ (Int.emod_nonneg _ (by omega)) (Int.emod_lt_of_pos _ m0)
      · exact Int.ediv_nonneg d0 (by omega)
      · omega
      · omega
    · refine ⟨_, rfl, _, _, _, _, rfl, rfl, SqL.of hb2, rfl, _, _, rfl, rfl, ⟨by decide, by decide⟩, .inl ⟨_, rfl, _, rfl, _, _, rfl, rfl, m0, ?_⟩⟩
      refine ret _ _ But.refl.put ⟨_, _, _, upd_same, d0, db, ?_, ?_⟩ (Int.emod_nonneg _ (by omega)) (Int.emod_lt_of_pos _ m0)
      · omega
      · omega
abbrev s_bag : Stmt := top 32
abbrev N_bag : List Str := ["_law_number", "_law_digits", "_law_state"]
abbrev P_bag : List Str := ["_law_number"]
theorem sc_bag : FnScope N_bag P_bag (defScope s_bag) := ⟨rfl, rfl, rfl, by decide +kernel, rfl, by decide +kernel, by decide +kernel⟩
theorem ok_bag {f : Addr} {fd : FuncData} (D : DefAt K mg "_law_bag" s_bag P_bag f fd) (T : Txt K mg) : FnOk P w K mg base CX0 1 f fd P_bag sp_bag := by
  refine D.fn.ok sc_bag (fun vs H Q E h => ?_) (fun cdv A outer s H vs Q E hr h => ?_)
  · obtain ⟨n, rfl, _⟩ := h
    rfl
  · obtain ⟨n, rfl, nb, ret⟩ := h
    refine ⟨_, (pss_cons (ps_asg (pe_ifExp (pt_chain op_le op_lt pe_int (pv 0) (pe_op op_pow pe_int pe_int)) pe_int (pe_callB call_abs (by rfl) T.abs (by decide +kernel) (pa_cons (pv 0) pa_nil))) (pg_name (i := 1) sc_bag.nd rfl (.inl rfl)))
      (pss_cons (ps_asg (pe_op op_mod (pe_callTy call_int1 (by rfl) T.int (by decide +kernel) (pa_cons (pv 0) pa_nil)) pe_int) (pg_name (i := 2) sc_bag.nd rfl (.inl rfl)))
      (pss_one (ps_ret (pe_lst (pa_cons (pe_op op_mod (pe_callTy call_int1 (by rfl) T.int (by decide +kernel) (pa_cons (pe_op op_add (pe_op op_mul (pv 2) (pe_op op_add (pe_op op_mod (pe_callTy call_int1 (by rfl) T.int (by decide +kernel) (pa_cons (pv 2) pa_nil)) pe_int) pe_int)) pe_int) pa_nil)) pe_int) (pa_cons (pv 1) (pa_cons pe_int pa_nil)))))))), ?_⟩
    have fin : ∀ d : Int, 0 ≤ d → Builtin.Int.intBits d ≤ 1048576 → ∀ p, H p = none → ∀ z : Int, Q (.ref p) (upd H p (.lst [.int z, .int d, .int 0])) := fun d d0 d1 p hp z =>
      ret p _ hp (same_new hp) ⟨z, d, 0, upd_same, d0, d1, by omega, by omega⟩
    refine ⟨_, rfl, _, _, rfl, rfl, _, rfl, ?_⟩
    refine ite2 (fun hc => ?_) (fun hc => ?_)
    · refine ⟨_, _, rfl, rfl, ⟨by decide, by decide, by decide⟩, _, _, rfl, rfl, _, rfl, ?_⟩
      refine ite2 (fun hc2 => ?_) (fun hc2 => ?_)
      · refine ⟨_, rfl, .inl ⟨_, rfl, _, _, rfl, rfl, (by show (0 : Int) < _; decide), _, rfl, _, rfl, .inl ⟨_, rfl, _, _, rfl, rfl, (by show (0 : Int) < _; decide), _, _, rfl, rfl, _, _, rfl, rfl, .inl ⟨?_, ?_⟩, _, _, rfl, rfl, .inl ⟨_, rfl, _, _, rfl, rfl, (by show (0 : Int) < _; decide), _, rfl, (by show 3 ≤ sizeLine; decide), fun p hp => ?_⟩⟩⟩⟩
        · show -(2 ^ 64) < n % 2147483399
          omega
        · show n % 2147483399 < 2 ^ 64
          omega
        · exact fin 0 (by decide) (by decide) p hp _
      · refine ⟨_, rfl, _, rfl, _, rfl, .inl ⟨_, rfl, _, _, rfl, rfl, (by show (0 : Int) < _; decide), _, rfl, _, rfl, .inl ⟨_, rfl, _, _, rfl, rfl, (by show (0 : Int) < _; decide), _, _, rfl, rfl, _, _, rfl, rfl, .inl ⟨?_, ?_⟩, _, _, rfl, rfl, .inl ⟨_, rfl, _, _, rfl, rfl, (by show (0 : Int) < _; decide), _, rfl, (by show 3 ≤ sizeLine; decide), fun p hp => ?_⟩⟩⟩⟩
        · show -(2 ^ 64) < n % 2147483399
          omega
        · show n % 2147483399 < 2 ^ 64
          omega
        · refine fin _ ?_ (Nat.le_trans (bits_mono ?_) nb) p hp _
          · split <;> omega
          · split <;> omega
    · refine ⟨_, rfl, iteF ⟨_, rfl, _, rfl, _, rfl, .inl ⟨_, rfl, _, _, rfl, rfl, (by show (0 : Int) < _; decide), _, rfl, _, rfl, .inl ⟨_, rfl, _, _, rfl, rfl, (by show (0 : Int) < _; decide), _, _, rfl, rfl, _, _, rfl, rfl, .inl ⟨?_, ?_⟩, _, _, rfl, rfl, .inl ⟨_, rfl, _, _, rfl, rfl, (by show (0 : Int) < _; decide), _, rfl, (by show 3 ≤ sizeLine; decide), fun p hp => ?_⟩⟩⟩⟩⟩
      · show -(2 ^ 64) < n % 2147483399
        omega
      · show n % 2147483399 < 2 ^ 64
        omega
      · refine fin _ ?_ (Nat.le_trans (bits_mono ?_) nb) p hp _
        · split <;> omega
        · split <;> omega
abbrev s_seed : Stmt := top 31
abbrev N_seed : List Str := ["_law_script", "_law_k", "_law_mixed", "_law_number"]
abbrev P_seed : List Str := ["_law_script", "_law_k"]
theorem sc_seed : FnScope N_seed P_seed (defScope s_seed) := ⟨rfl, rfl, rfl, by decide +kernel, rfl, by decide +kernel, by decide +kernel⟩
theorem ok_seed {f : Addr} {fd : FuncData} (D : DefAt K mg "_law_seed" s_seed P_seed f fd) (T : Txt K mg) : FnOk P w K mg base CX0 1 f fd P_seed (sp_seed K) := by
  refine D.fn.ok sc_seed (fun vs H Q E h => ?_) (fun cdv A outer s H vs Q E hr h => ?_)
  · obtain ⟨a, ns, k, rfl, _⟩ := h
    rfl
  · obtain ⟨a, ns, k, rfl, hS, bits, k0, k1, ret⟩ := h
    refine ⟨_, (pss_cons (ps_if (pt_cmpR op_lt (pv 1) (pe_callB call_len_seq (by rfl) T.len (by decide +kernel) (pa_cons (pv 0) pa_nil)) (nomark _))
      (pss_one (ps_ret (pe_ix ix_list (pv 0) (pv 1) (fun _ _ => rfl))))
      pss_nil)
      (pss_cons (ps_asg (pe_op op_add pe_int (pe_op op_mul (pe_op op_mul pe_int (pv 1)) (pv 1))) (pg_name (i := 2) sc_seed.nd rfl (.inl rfl)))
      (pss_cons (ps_for PassesOwn.never rfl (pi_list (pe_slice sl_list (pv 0) po_none (po_some pe_int))) (pg_name (i := 3) sc_seed.nd rfl (.inl rfl))
      (pss_one (ps_asg (pe_op op_mod (pe_callTy call_int1 (by rfl) T.int (by decide +kernel) (pa_cons (pe_op op_add (pe_op op_mul (pv 2) pe_int) (pv 3)) pa_nil)) pe_int) (pg_name (i := 2) sc_seed.nd rfl (.inl rfl)))))
      (pss_one (ps_ret (pv 2)))))), ?_⟩
    refine ⟨_, rfl, _, rfl, _, _, rfl, .inl hS, _, _, rfl, rfl, _, rfl, ?_⟩
    refine ite2 (fun hc => ?_) (fun hc => ?_)
    · have hlt : k < ns.length := by simpa using hc
      obtain ⟨j, rfl⟩ := Int.eq_ofNat_of_zero_le k0
      have hj : j < ns.length := by omega
      have hat : (ns.map V.int)[j]? = some (.int ns[j]) := by simp [hj]
      exact ⟨_, rfl, _, rfl, _, _, _, _, rfl, rfl, hS, atI_nat hat, ret _ _ (Same.refl H) (bits _ (List.getElem_mem _))⟩
    · refine ⟨_, rfl, _, _, rfl, rfl, .inl ⟨by decide, by decide⟩, _, rfl, _, _, rfl, rfl, .inr ⟨by omega, by omega⟩, _, _, rfl, rfl, _, rfl, _, rfl, _, _, rfl, hS, fun p hp => ?_⟩
      refine ⟨p, rfl, ⟨_, SqL.of upd_same⟩, for_list (K := K) (a := p) (xs := cutV (ns.map V.int) none (some 4)) (fun i σ' H' => ∃ (z : Int) (v : Option V), σ' = [some (.ref a), some (.int k), some (.int z), v] ∧
        H' = upd H p (.lst (cutV (ns.map V.int) none (some 4))) ∧ 0 ≤ z ∧ z < 2 ^ 50) ⟨_, none, rfl, rfl, ?_, ?_⟩ ?_ ?_ ?_⟩
      · have q : 0 ≤ k * k := Int.mul_nonneg k0 k0
        show 0 ≤ 7919 + 104729 * k * k
        rw [Int.mul_assoc]
        omega
      · have q : k * k ≤ 1000 * 1000 := Int.mul_le_mul (by omega) (by omega) k0 (by decide)
        show 7919 + 104729 * k * k < 2 ^ 50
        rw [Int.mul_assoc]
        omega
      · rintro i σ' H' _ ⟨z, v, _, rfl, _⟩
        exact SqL.of upd_same
      · rintro i x σ' H' hx ⟨z, v, rfl, rfl, _, _⟩
        have hm : x ∈ ns.map V.int := by
          have q := List.mem_of_getElem? hx
          exact List.mem_of_mem_drop (List.mem_of_mem_take q)
        obtain ⟨n, _, rfl⟩ := List.mem_map.mp hm
        refine ⟨_, rfl, _, _, rfl, rfl, .inr ⟨by decide, by decide⟩, _, rfl, _, _, rfl, rfl, .inl ⟨_, rfl, _, _, rfl, rfl, (by show (0 : Int) < _; decide), ?_⟩⟩
        refine ⟨_, _, rfl, rfl, ?_, ?_⟩
        · exact Int.emod_nonneg _ (by decide)
        · have q := Int.emod_lt_of_pos (z * 52711 + n) (b := 2147483563) (by decide)
          show (z * 52711 + n) % 2147483563 < 2 ^ 50
          omega
      · rintro σ' H' ⟨z, v, rfl, rfl, z0, z1⟩
        refine ⟨_, rfl, ret _ _ (same_new hp) (bits_small ?_)⟩
        have : z.natAbs < 2 ^ 50 := by omega
        exact Nat.lt_trans this (Nat.pow_lt_pow_right (by decide) (by decide))
end L

namespace Hv
open PySem L2
abbrev text (n : Nat) : Str := Str.ofString (toString ((n : Nat) : Int))
def numOf (z : Str) (most : Nat) : Option Nat := (List.range (most + 1)).find? fun n => decide (text n = z)
def numV : Option Nat → V
  | some n => .int (n : Int)
  | none => .non
theorem text_int : ∀ n < 13, intText? (text n) = some (n : Int) := by decide +kernel
theorem text_len : ∀ m < 13, ∀ n < m + 1, 1 ≤ (text n).length ∧ (text n).length ≤ (text m).length := by decide +kernel
theorem text_digits : ∀ n < 13, ∀ c ∈ (text n).cps.toList, c ∈ (Str.ofString "0123456789").cps.toList := by decide +kernel
theorem text_short : ∀ m < 13, (text m).length ≤ 2 := by decide +kernel
theorem digits_in : ∀ c ∈ (Str.ofString "0123456789").cps.toList, 48 ≤ c ∧ c ≤ 57 := by decide +kernel
theorem numOf_some {z : Str} {m n : Nat} (h : numOf z m = some n) : n ≤ m ∧ text n = z := by
  unfold numOf at h
  have h1 := List.mem_of_find?_eq_some h
  have h2 := List.find?_some h
  exact ⟨by have := List.mem_range.mp h1; omega, of_decide_eq_true h2⟩
theorem numOf_of {z : Str} {m n : Nat} (hm : m ≤ 12) (hn : n ≤ m) (e : text n = z) : numOf z m = some n := by
  cases q : numOf z m with
  | none =>
    unfold numOf at q
    have := (List.find?_eq_none.mp q) n (List.mem_range.mpr (by omega))
    exact absurd (decide_eq_true e) this
  | some k =>
    obtain ⟨h1, h2⟩ := numOf_some q
    have a := text_int n (by omega)
    have b := text_int k (by omega)
    rw [e] at a
    rw [h2, a] at b
    have := Option.some.inj b
    rw [Int.ofNat.inj this]
theorem numOf_none {z : Str} {m : Nat} (h : ∀ n, n ≤ m → text n ≠ z) : numOf z m = none := by
  cases q : numOf z m with
  | none => rfl
  | some k => exact absurd (numOf_some q).2 (h k (numOf_some q).1)
/-- the signs are all digits: the text is a number's -/
theorem all_digits {z : Str} (h1 : 1 ≤ z.length) (h2 : z.length ≤ 2) (h : ∀ c ∈ z.cps.toList, c ∈ (Str.ofString "0123456789").cps.toList) : ∃ n : Nat, intText? z = some (n : Int) := by
  have e : z = SX.S z.cps.toList := by
    cases z
    rfl
  refine ⟨NumText.digitsVal z.cps.toList, ?_⟩
  rw [e]
  refine SX.int_S ?_ ?_ ?_
  · rw [List.all_eq_true]
    intro c hc
    have := digits_in c (h c (by simpa using hc))
    rw [Bool.and_eq_true, decide_eq_true_eq, decide_eq_true_eq]
    exact this
  · intro q
    have : z.cps.toList.length = 0 := by rw [q]; rfl
    have l : z.length = z.cps.toList.length := by
      show z.cps.size = _
      simp
    omega
  · have l : z.length = z.cps.toList.length := by
      show z.cps.size = _
      simp
    omega

abbrev MARK : Str := Str.ofString "over "
abbrev SLASH : Str := Str.ofString "/"
def isOver (z : Str) : Bool := Txt.startswith z MARK
def fracOf (z : Str) : Option (Nat × Nat) :=
  match Txt.split (Txt.removeprefix z MARK) SLASH with
  | [a, b] =>
    match numOf a 12, numOf b 12 with
    | some p, some q => if q < 1 ∨ 1 < Nat.gcd p q then none else if p + (if isOver z then 1 else 0) ≤ q then some (p, q) else none
    | _, _ => none
  | _ => none
theorem fracOf_le {z : Str} {p q : Nat} (h : fracOf z = some (p, q)) : p ≤ 12 ∧ q ≤ 12 ∧ 1 ≤ q ∧ p ≤ q ∧ Nat.gcd p q = 1 := by
  unfold fracOf at h
  split at h
  · rename_i a b _
    cases e1 : numOf a 12 with
    | none => rw [e1] at h; cases h
    | some p1 =>
      cases e2 : numOf b 12 with
      | none => rw [e1, e2] at h; cases h
      | some q1 =>
        rw [e1, e2] at h
        dsimp only at h
        have l1 := (numOf_some e1).1
        have l2 := (numOf_some e2).1
        by_cases c : q1 < 1 ∨ 1 < Nat.gcd p1 q1
        · rw [if_pos c] at h; cases h
        · rw [if_neg c] at h
          by_cases d : p1 + (if isOver z = true then 1 else 0) ≤ q1
          · rw [if_pos d] at h
            cases h
            have g : 0 < Nat.gcd p q := Nat.gcd_pos_of_pos_right _ (by omega)
            refine ⟨l1, l2, by omega, by omega, by omega⟩
          · rw [if_neg d] at h; cases h
  · cases h
/-- what fraction_of asks of a text's length -/
structure TextOk (z : Str) : Prop where
  own : z.length + 2 ≤ sizeLine
  cut : (Txt.removeprefix z MARK).length + 2 ≤ sizeLine
  part : ∀ p ∈ Txt.split (Txt.removeprefix z MARK) SLASH, p.length ≤ sizeLine
/-- whether p of w meet the bound z, which is a / b -/
def met (z : Str) (a b : Nat) (p w : Int) : Bool := if isOver z then decide (w * a < p * b) else decide (w * a ≤ p * b)

theorem fracOf_len {z : Str} (h : (Txt.split (Txt.removeprefix z MARK) SLASH).length ≠ 2) : fracOf z = none := by
  unfold fracOf
  split
  · rename_i e
    rw [e] at h
    exact absurd rfl h
  · rfl
theorem fracOf_two {z a b : Str} (e : Txt.split (Txt.removeprefix z MARK) SLASH = [a, b]) : fracOf z = match numOf a 12, numOf b 12 with
    | some p, some q => if q < 1 ∨ 1 < Nat.gcd p q then none else if p + (if isOver z then 1 else 0) ≤ q then some (p, q) else none
    | _, _ => none := by
  unfold fracOf
  rw [e]
theorem two_of {l : List Str} (h : l.length = 2) : ∃ a b, l = [a, b] := by
  match l, h with
  | [a, b], _ => exact ⟨a, b, rfl⟩
/-! promises -/
def sp_is_integer (K : PySem.W.Frag) : Sp := fun vs H Q _ => ∃ (v : V) (t : Value) (b1 b2 : Bool), vs = [v] ∧ TyX K H v t ∧ PySem.W.kitOne K t (.type "int") = some b1 ∧
  PySem.W.kitOne K t (.type "bool") = some b2 ∧ Q (.bl (b1 && !b2)) H
def sp_gcd : Sp := fun vs H Q _ => ∃ (a b : Nat), vs = [.int a, .int b] ∧ Q (.int (Nat.gcd a b : Nat)) H
def sp_number_of : Sp := fun vs H Q _ => ∃ (z : Str) (m : Nat), vs = [.str z, .int m] ∧ z.length ≤ sizeLine ∧ m ≤ 12 ∧ ∀ H', Same H H' → Q (numV (numOf z m)) H'
/-- of a text, or of another value -/
def sp_fraction_of (K : PySem.W.Frag) : Sp := fun vs H Q _ =>
  (∃ z : Str, vs = [.str z] ∧ TextOk z ∧ (fracOf z = none → ∀ H', Same H H' → Q .non H') ∧
    ∀ a b, fracOf z = some (a, b) → ∀ p H', H p = none → Same H H' → H' p = some (.tup [.int (a : Int), .int (b : Int)]) → Q (.ref p) H') ∨
  ∃ (v : V) (t : Value), vs = [v] ∧ TyX K H v t ∧ PySem.W.kitOne K t (.type "str") = some false ∧ Q .non H
def sp_is_bound (K : PySem.W.Frag) : Sp := fun vs H Q _ =>
  (∃ z : Str, vs = [.str z] ∧ TextOk z ∧ ∀ H', Same H H' → Q (.bl (fracOf z).isSome) H') ∨
  ∃ (v : V) (t : Value), vs = [v] ∧ TyX K H v t ∧ PySem.W.kitOne K t (.type "str") = some false ∧ Q (.bl false) H
def sp_bound_met : Sp := fun vs H Q _ => ∃ (z : Str) (a b : Nat) (p w : Int), vs = [.str z, .int p, .int w] ∧ TextOk z ∧ fracOf z = some (a, b) ∧ ∀ H', Same H H' → Q (.bl (met z a b p w)) H'
end Hv
namespace L
open PySem L2 Hv
variable {P : Program} {w : World} {K : PySem.W.Frag} {mg : Str → Option Value} {base : Heap}
abbrev s_is_integer : Stmt := top 16
abbrev N_is_integer : List Str := ["value"]
abbrev P_is_integer : List Str := ["value"]
theorem sc_is_integer : FnScope N_is_integer P_is_integer (defScope s_is_integer) := ⟨rfl, rfl, rfl, by decide +kernel, rfl, by decide +kernel, by decide +kernel⟩
theorem ok_is_integer {f : Addr} {fd : FuncData} (D : DefAt K mg "is_integer" s_is_integer P_is_integer f fd) (T : Txt K mg) : FnOk P w K mg base CX0 1 f fd P_is_integer (sp_is_integer K) := by
  refine D.fn.ok sc_is_integer (fun vs H Q E h => ?_) (fun cdv A outer s H vs Q E hr h => ?_)
  · obtain ⟨v, t, b1, b2, rfl, _⟩ := h
    rfl
  · obtain ⟨v, t, b1, b2, rfl, ty, k1, k2, ret⟩ := h
    refine ⟨_, (pss_one (ps_ret (pe_and (pe_callB call_isi (by rfl) T.isinstance (by decide +kernel) (pa_cons (pv 0) (pa_cons (pe_bltn (v := .ty "int") (u := .type "int") (by rfl) T.int (by decide +kernel) rfl) pa_nil))) (pe_one (pe_not (pe_callB call_isi (by rfl) T.isinstance (by decide +kernel) (pa_cons (pv 0) (pa_cons (pe_bltn (v := .ty "bool") (u := .type "bool") (by rfl) T.bool (by decide +kernel) rfl) pa_nil)))))))), ?_⟩
    refine ⟨_, rfl, _, _, _, _, _, rfl, .ty _, ty, k1, _, rfl, ?_⟩
    cases b1 with
    | true => exact iteT ⟨_, rfl, _, _, _, _, _, rfl, .ty _, ty, k2, _, rfl, ret⟩
    | false => exact iteF ret
abbrev s_common_divisor : Stmt := top 18
abbrev N_common_divisor : List Str := ["one", "other"]
abbrev P_common_divisor : List Str := ["one", "other"]
theorem sc_common_divisor : FnScope N_common_divisor P_common_divisor (defScope s_common_divisor) := ⟨rfl, rfl, rfl, by decide +kernel, rfl, by decide +kernel, by decide +kernel⟩
theorem ok_common_divisor {f : Addr} {fd : FuncData} (D : DefAt K mg "common_divisor" s_common_divisor P_common_divisor f fd) (T : Txt K mg) : FnOk P w K mg base CX0 1 f fd P_common_divisor sp_gcd := by
  refine D.fn.ok sc_common_divisor (fun vs H Q E h => ?_) (fun cdv A outer s H vs Q E hr h => ?_)
  · obtain ⟨a, b, rfl, _⟩ := h
    rfl
  · obtain ⟨a, b, rfl, ret⟩ := h
    refine ⟨_, (pss_cons (ps_while PassesOwn.never (pt_cmpR op_gt (pv 1) pe_int (nomark _))
      (pss_one (ps_par (i := 0) (j := 1) (by rfl) sc_common_divisor.nd rfl rfl (by decide) rfl rfl (pa_cons (pv 1) (pa_cons (pe_op op_mod (pe_callTy call_int1 (by rfl) T.int (by decide +kernel) (pa_cons (pv 0) pa_nil)) (pv 1)) pa_nil)) (by rfl))))
      (pss_one (ps_ret (pv 0)))), ?_⟩
    refine ⟨fun m σ' H' => ∃ x y : Nat, σ' = [some (.int (x : Int)), some (.int (y : Int))] ∧ Nat.gcd x y = Nat.gcd a b ∧ m = y ∧ H' = H, ⟨b, a, b, rfl, rfl, rfl, rfl⟩, ?_⟩
    rintro m σ' H' ⟨x, y, rfl, e, rfl, rfl⟩
    refine ⟨_, rfl, _, _, rfl, rfl, _, rfl, ?_⟩
    refine ite2 (fun hc => ?_) (fun hc => ?_)
    · have hy : 0 < m := by have := of_decide_eq_true hc; omega
      refine ⟨fun σ2 H2 => σ2 = [some (.int (m : Int)), some (.int ((x % m : Nat) : Int))] ∧ H2 = H', ?_, ?_⟩
      · rintro σ2 H2 ⟨rfl, rfl⟩
        refine ⟨x % m, Nat.mod_lt _ hy, m, x % m, rfl, ?_, rfl, rfl⟩
        rw [Nat.gcd_comm, ← Nat.gcd_rec, Nat.gcd_comm, e]
      · refine ⟨_, rfl, _, rfl, .inl ⟨_, rfl, _, rfl, _, _, rfl, rfl, ?_, _, _, rfl, ?_, rfl⟩⟩
        · show (0 : Int) < m
          omega
        · rfl
    · have hy : m = 0 := by
        have : ¬ (0 : Int) < (m : Int) := fun q => hc (decide_eq_true q)
        omega
      subst hy
      refine ⟨_, rfl, ?_⟩
      rw [Nat.gcd_zero_right] at e
      rw [e]
      exact ret
abbrev s_number_of : Stmt := top 19
abbrev N_number_of : List Str := ["word", "most", "number", "sign"]
abbrev P_number_of : List Str := ["word", "most"]
theorem sc_number_of : FnScope N_number_of P_number_of (defScope s_number_of) := ⟨rfl, rfl, rfl, by decide +kernel, rfl, by decide +kernel, by decide +kernel⟩
theorem ok_number_of {f : Addr} {fd : FuncData} (D : DefAt K mg "number_of" s_number_of P_number_of f fd) (T : Txt K mg) : FnOk P w K mg base CX0 1 f fd P_number_of sp_number_of := by
  refine D.fn.ok sc_number_of (fun vs H Q E h => ?_) (fun cdv A outer s H vs Q E hr h => ?_)
  · obtain ⟨z, m, rfl, _⟩ := h
    rfl
  · obtain ⟨z, m, rfl, hz, hm, ret⟩ := h
    refine ⟨_, (pss_cons (ps_if (PW.pt (pw_or (pt_not (pt_chain op_le op_le pe_int (pe_callB call_len_str (by rfl) T.len (by decide +kernel) (pa_cons (pv 0) pa_nil)) (pe_callB call_len_str (by rfl) T.len (by decide +kernel) (pa_cons (pe_callTy call_str_int (by rfl) T.str (by decide +kernel) (pa_cons (pv 1) pa_nil)) pa_nil)))) (pw_or1 (pt_val (pe_callB (cr_any rfl) (by rfl) T.any (by decide +kernel) (pa_cons (pe_lc (own := [("sign", 3)]) (g := gName 3) rfl sc_number_of.nd (pi_str (pv 0)) (blkOk_by (own := [("sign", 3)]) (N := N_number_of) (sc := defScope s_number_of) (by decide +kernel)) (fun _ _ _ _ _ => (pg_name (i := 3) sc_number_of.nd rfl (.inl rfl))) (fun _ _ _ _ _ => pts_nil) (fun _ _ _ _ _ => (pe_cmpR op_notIn_sign (pv 3) (pe_glob (v := .str "0123456789") rfl T.cDIGITS.choose_spec ⟨_, rfl⟩) (by rfl)))) pa_nil))))))
      (pss_one (ps_ret pe_non))
      pss_nil)
      (pss_cons (ps_asg (pe_callTy call_int_str (by rfl) T.int (by decide +kernel) (pa_cons (pv 0) pa_nil)) (pg_name (i := 2) sc_number_of.nd rfl (.inl rfl)))
      (pss_one (ps_ret (pe_ifExp (PW.pt (pw_and (pt_cmpR op_le (pv 2) (pv 1) (nomark _)) (pw_and1 (pt_cmpR op_eq (pe_callTy call_str_int (by rfl) T.str (by decide +kernel) (pa_cons (pv 2) pa_nil)) (pv 0) (nomark _))))) (pv 2) pe_non))))), ?_⟩
    have none_ : numOf z m = none → ∀ H', Same H H' → Q .non H' := fun e H' s => by
      have q := ret H' s
      rw [e] at q
      exact q
    refine ⟨_, rfl, _, rfl, hz, _, _, rfl, rfl, _, rfl, ?_⟩
    refine ite2 (fun hc => ?_) (fun hc => ?_)
    · have c1 : (1 : Int) ≤ z.length := of_decide_eq_true hc
      have lg : (m : Int).natAbs.log2 < 1920 := Nat.lt_of_le_of_lt (log2_mono (show (m : Int).natAbs ≤ 12 by omega)) (by decide)
      refine ⟨_, rfl, _, rfl, lg, _, rfl, ?_, _, _, rfl, rfl, _, rfl, ?_⟩
      · exact Nat.le_trans (text_short m (by omega)) (by decide)
      refine ite2 (fun hc2 => ?_) (fun hc2 => ?_)
      · -- the length does not fit
        refine none_ (numOf_none fun n hn e => ?_) _ (Same.refl H)
        have l := (text_len m (by omega) n (by omega)).2
        rw [e] at l
        have : ¬ ((z.length : Int) ≤ ((text m).length : Int)) := nT hc2
        omega
      · have c2 : (z.length : Int) ≤ ((text m).length : Int) := nF hc2
        have c3 := text_short m (by omega)
        refine ⟨_, rfl, _, rfl, fun L hL => ?_⟩
        refine lc_it walk_str (fun i H' => H' = upd H L (.lst ((z.cps.toList.take i).map fun c => V.bl (!decide (c ∈ (Str.ofString "0123456789").cps.toList))))) ?_ (fun _ _ _ _ => trivial) ?_ ?_
        · rfl
        · rintro i x H1 H2 hi rfl ⟨rfl, c, hc, rfl⟩
          refine ⟨rfl, _, rfl, c, _, rfl, rfl, _, upd_same, ?_, ?_⟩
          · rw [List.length_map, List.length_take]
            have : z.cps.toList.length = z.length := by
              show _ = z.cps.size
              simp
            have s2 : 2 < sizeLine := by decide
            omega
          · rw [upd_upd, List.take_succ]
            have e : z.cps.toList[i]? = some c := by simpa using hc
            rw [e, List.map_append]
            rfl
        · rintro H1 rfl
          have e : List.take z.cps.size z.cps.toList = z.cps.toList := List.take_of_length_le (by simp)
          rw [e]
          refine ⟨_, z.cps.toList.map fun c => !decide (c ∈ (Str.ofString "0123456789").cps.toList), rfl, SqL.of (by rw [upd_same, List.map_map]; rfl), _, rfl, ?_⟩
          refine ite2 (fun ha => ?_) (fun ha => ?_)
          · refine none_ (numOf_none fun n hn q => ?_) _ (same_new hL)
            rw [List.any_map, List.any_eq_true] at ha
            obtain ⟨c, hc, hd⟩ := ha
            have := text_digits n (by omega) c (by rw [q]; exact hc)
            exact nT (p := c ∈ (Str.ofString "0123456789").cps.toList) hd this
          · have dg : ∀ c ∈ z.cps.toList, c ∈ (Str.ofString "0123456789").cps.toList := by
              intro c hc
              by_cases q : c ∈ (Str.ofString "0123456789").cps.toList
              · exact q
              · exfalso
                apply ha
                rw [List.any_map, List.any_eq_true]
                exact ⟨c, hc, by show (!decide (c ∈ (Str.ofString "0123456789").cps.toList)) = true; rw [decide_eq_false q]; rfl⟩
            obtain ⟨n, hn⟩ := all_digits (by omega) (by omega) dg
            refine ⟨_, rfl, _, _, rfl, hn, by omega, _, rfl, _, rfl, _, _, rfl, rfl, _, rfl, ?_⟩
            have no : ¬ (n ≤ m ∧ text n = z) → numOf z m = none := fun q => numOf_none fun k hk e => q (by
              have a := text_int k (by omega)
              rw [e, hn] at a
              have b : n = k := by have := Option.some.inj a; omega
              rw [b]
              exact ⟨hk, e⟩)
            refine ite2 (fun h1 => ?_) (fun h1 => ?_)
            · have h1' : n ≤ m := by have := of_decide_eq_true h1; omega
              have lg : (n : Int).natAbs.log2 < 1920 := Nat.lt_of_le_of_lt (log2_mono (show (n : Int).natAbs ≤ 12 by omega)) (by decide)
              refine ⟨_, rfl, _, rfl, lg, _, rfl, rfl, _, rfl, ?_⟩
              refine ite2 (fun h2 => ?_) (fun h2 => ?_)
              · have h2' : text n = z := V.str.inj (of_decide_eq_true h2)
                refine ⟨_, rfl, ?_⟩
                have q := ret _ (same_new (o := .lst (z.cps.toList.map fun c => V.bl (!decide (c ∈ (Str.ofString "0123456789").cps.toList)))) hL)
                rw [numOf_of hm h1' h2'] at q
                exact q
              · refine none_ (no fun q => h2 (decide_eq_true ?_)) _ (same_new hL)
                rw [← q.2]
            · refine iteF (none_ (no fun q => h1 (decide_eq_true ?_)) _ (same_new hL))
              have := q.1
              omega
    · refine ⟨_, rfl, iteT (none_ (numOf_none fun n hn e => ?_) _ (Same.refl H))⟩
      have l := (text_len m (by omega) n (by omega)).1
      rw [e] at l
      have : ¬ ((1 : Int) ≤ (z.length : Int)) := dF hc
      omega
abbrev s_fraction_of : Stmt := top 22
abbrev N_fraction_of : List Str := ["bound", "words", "part", "whole"]
abbrev P_fraction_of : List Str := ["bound"]
theorem sc_fraction_of : FnScope N_fraction_of P_fraction_of (defScope s_fraction_of) := ⟨rfl, rfl, rfl, by decide +kernel, rfl, by decide +kernel, by decide +kernel⟩
theorem ok_fraction_of {f f1 f2 : Addr} {fd fd1 fd2 : FuncData} (D : DefAt K mg "fraction_of" s_fraction_of P_fraction_of f fd) (T : Txt K mg)
    (D_number_of : DefAt K mg "number_of" s_number_of P_number_of f1 fd1) (D_common_divisor : DefAt K mg "common_divisor" s_common_divisor P_common_divisor f2 fd2) :
    FnOk P w K mg base CX0 2 f fd P_fraction_of (sp_fraction_of K) := by
  have G_number_of : FnOk P w K mg base CX0 1 f1 fd1 P_number_of sp_number_of := ok_number_of D_number_of T
  have G_common_divisor : FnOk P w K mg base CX0 1 f2 fd2 P_common_divisor sp_gcd := ok_common_divisor D_common_divisor T
  refine D.fn.ok sc_fraction_of (fun vs H Q E h => ?_) (fun cdv A outer s H vs Q E hr h => ?_)
  · rcases h with ⟨z, rfl, _⟩ | ⟨v, t, rfl, _⟩ <;> rfl
  · refine ⟨_, (pss_cons (ps_if (pt_not (pt_val (pe_callB call_isi (by rfl) T.isinstance (by decide +kernel) (pa_cons (pv 0) (pa_cons (pe_bltn (v := .ty "str") (u := .type "str") (by rfl) T.str (by decide +kernel) rfl) pa_nil)))))
      (pss_one (ps_ret pe_non))
      pss_nil)
      (pss_cons (ps_asg (pe_split (pe_bm PySem.F.plainAttrs_str PySem.F.slot_str_removeprefix PySem.F.type_str_removeprefix mt_removeprefix (pv 0) (pa_cons (pe_glob (v := .str "over ") rfl T.cMARK.choose_spec ⟨_, rfl⟩) pa_nil)) pe_str) (pg_name (i := 1) sc_fraction_of.nd rfl (.inl rfl)))
      (pss_cons (ps_if (pt_cmpR op_ne (pe_callB call_len_seq (by rfl) T.len (by decide +kernel) (pa_cons (pv 1) pa_nil)) pe_int (nomark _))
      (pss_one (ps_ret pe_non))
      pss_nil)
      (pss_cons (ps_par (i := 2) (j := 3) (by rfl) sc_fraction_of.nd rfl rfl (by decide) rfl rfl (pa_cons (pe_call G_number_of (hr.mono (by decide)) rfl D_number_of.mg D_number_of.fn.kp D_number_of.bd .nil pass0 (pa_cons (pe_ix ix_list (pv 1) pe_int (fun _ _ => rfl)) (pa_cons (pe_glob (v := .int 12) rfl T.cMOST_PART.choose_spec ⟨_, rfl⟩) pa_nil))) (pa_cons (pe_call G_number_of (hr.mono (by decide)) rfl D_number_of.mg D_number_of.fn.kp D_number_of.bd .nil pass0 (pa_cons (pe_ix ix_list (pv 1) pe_int (fun _ _ => rfl)) (pa_cons (pe_glob (v := .int 12) rfl T.cMOST_PART.choose_spec ⟨_, rfl⟩) pa_nil))) pa_nil)) (by rfl))
      (pss_cons (ps_if (PW.pt (pw_or (pt_cmpR op_isN (pv 2) pe_non (nomark _)) (pw_or (pt_cmpR op_isN (pv 3) pe_non (nomark _)) (pw_or (pt_cmpR op_lt (pv 3) pe_int (nomark _)) (pw_or1 (pt_cmpR op_gt (pe_call G_common_divisor (hr.mono (by decide)) rfl D_common_divisor.mg D_common_divisor.fn.kp D_common_divisor.bd .nil pass0 (pa_cons (pv 2) (pa_cons (pv 3) pa_nil))) pe_int (nomark _)))))))
      (pss_one (ps_ret pe_non))
      pss_nil)
      (pss_one (ps_ret (pe_ifExp (pt_cmpR op_le (pe_op op_add (pv 2) (pe_ifExp (pt_val (pe_m1 PySem.F.slot_str_startswith PySem.F.type_str_startswith mt_startswith (pv 0) (pe_glob (v := .str "over ") rfl T.cMARK.choose_spec ⟨_, rfl⟩))) pe_int pe_int)) (pv 3) (nomark _)) (pe_tup (pa_cons (pv 2) (pa_cons (pv 3) pa_nil))) pe_non)))))))), ?_⟩
    rcases h with ⟨z, rfl, ok, rn, rs⟩ | ⟨v, t, rfl, ty, kit, ret⟩
    · refine ⟨_, rfl, _, _, _, _, _, rfl, .ty _, .base (.str z), kit_ty (r := true) (by decide +kernel), _, rfl, ?_⟩
      refine ⟨_, rfl, rfl, _, _, rfl, rfl, by have := ok.own; omega, ⟨_, rfl⟩, _, _, rfl, rfl, by decide, ok.cut, fun p hp => ?_⟩
      have hL := upd_same (H := H) (a := p) (o := .lst ((Txt.split (Txt.removeprefix z MARK) SLASH).map V.str))
      have sm : Same H (upd H p (.lst ((Txt.split (Txt.removeprefix z MARK) SLASH).map V.str))) := same_new hp
      refine ⟨_, rfl, _, _, rfl, .inl (SqL.of hL), rfl, _, rfl, ?_⟩
      refine ite2 (fun hc => ?_) (fun hc => ?_)
      · refine rn (fracOf_len fun q => nT hc ?_) _ sm
        rw [List.length_map, q]
        rfl
      · have l2 : (Txt.split (Txt.removeprefix z MARK) SLASH).length = 2 := by
          have := V.int.inj (nF hc)
          rw [List.length_map] at this
          omega
        obtain ⟨a, b, e⟩ := two_of l2
        have la : a.length ≤ sizeLine := ok.part a (by rw [e]; simp)
        have lb : b.length ≤ sizeLine := ok.part b (by rw [e]; simp)
        rw [e] at hL sm ⊢
        have fe := fracOf_two e
        refine ⟨_, rfl, _, _, _, _, rfl, rfl, SqL.of hL, rfl, a, 12, rfl, la, by decide, fun H1 s1 => ?_⟩
        refine ⟨_, rfl, _, _, _, _, rfl, rfl, SqL.of (s1 _ _ hL), rfl, b, 12, rfl, lb, by decide, fun H2 s2 => ⟨_, _, rfl, ?_⟩⟩
        have sm2 : Same H H2 := (sm.trans s1).trans s2
        cases e1 : numOf a 12 with
        | none =>
          rw [e1] at fe
          refine ⟨_, rfl, rfl, _, rfl, ?_⟩
          exact ifT rfl (rn fe _ sm2)
        | some x =>
          cases e2 : numOf b 12 with
          | none =>
            rw [e1, e2] at fe
            refine ⟨_, rfl, rfl, _, rfl, ?_⟩
            refine ifF (fun q => by cases q) ⟨_, rfl, rfl, _, rfl, ?_⟩
            exact ifT rfl (rn fe _ sm2)
          | some y =>
            rw [e1, e2] at fe
            dsimp only at fe
            refine ⟨_, rfl, rfl, _, rfl, ?_⟩
            refine ifF (fun q => by cases q) ⟨_, rfl, rfl, _, rfl, ?_⟩
            refine ifF (fun q => by cases q) ⟨_, rfl, _, _, rfl, rfl, _, rfl, ?_⟩
            by_cases y1 : y < 1
            · refine ifT (by omega) (rn ?_ _ sm2)
              rw [fe, if_pos (.inl y1)]
            · refine ifF (by omega) ⟨_, rfl, _, rfl, x, y, rfl, _, _, rfl, rfl, _, rfl, ?_⟩
              by_cases g : 1 < Nat.gcd x y
              · refine ifT (by omega) (rn ?_ _ sm2)
                rw [fe, if_pos (.inr g)]
              · refine ifF (by omega) ⟨_, rfl, _, rfl, ⟨_, rfl⟩, _, _, rfl, rfl, _, rfl, ?_⟩
                rw [if_neg (by omega)] at fe
                have fin : ∀ k : Nat, k = (if isOver z = true then 1 else 0) → ∀ i : Int, i = k → (if decide ((x : Int) + i ≤ (y : Int)) = true then
                    tTup (tCons (tVar 2) (tCons (tVar 3) tNil)) [some (V.str z), some (V.ref p), some (V.int (x : Int)), some (V.int (y : Int))] H2 Q
                    else Q .non H2) := by
                  intro k hk i hi
                  by_cases c : x + k ≤ y
                  · refine ifT (by omega) ⟨_, rfl, _, rfl, by show 2 ≤ sizeLine; decide, fun t ht => ?_⟩
                    rw [← hk, if_pos c] at fe
                    exact rs x y fe t _ (sm2.free ht) (sm2.trans (same_new ht)) upd_same
                  · refine ifF (by omega) (rn ?_ _ sm2)
                    rw [fe, ← hk, if_neg c]
                cases ov : isOver z with
                | true =>
                  have ov' : Txt.startswith z MARK = true := ov
                  rw [ov']
                  exact ⟨_, _, rfl, rfl, _, rfl, _, _, rfl, rfl, _, rfl, fin 1 (by rw [ov]; rfl) 1 rfl⟩
                | false =>
                  have ov' : Txt.startswith z MARK = false := ov
                  rw [ov']
                  exact ⟨_, _, rfl, rfl, _, rfl, _, _, rfl, rfl, _, rfl, fin 0 (by rw [ov]; rfl) 0 rfl⟩
    · exact ⟨_, rfl, _, _, _, _, _, rfl, .ty _, ty, kit, _, rfl, ret⟩
abbrev s_is_bound : Stmt := top 23
abbrev N_is_bound : List Str := ["value"]
abbrev P_is_bound : List Str := ["value"]
theorem sc_is_bound : FnScope N_is_bound P_is_bound (defScope s_is_bound) := ⟨rfl, rfl, rfl, by decide +kernel, rfl, by decide +kernel, by decide +kernel⟩
theorem ok_is_bound {f f1 : Addr} {fd fd1 : FuncData} (D : DefAt K mg "is_bound" s_is_bound P_is_bound f fd) (D_fraction_of : DefAt K mg "fraction_of" s_fraction_of P_fraction_of f1 fd1)
    (G_fraction_of : FnOk P w K mg base CX0 2 f1 fd1 P_fraction_of (sp_fraction_of K)) : FnOk P w K mg base CX0 3 f fd P_is_bound (sp_is_bound K) := by
  refine D.fn.ok sc_is_bound (fun vs H Q E h => ?_) (fun cdv A outer s H vs Q E hr h => ?_)
  · rcases h with ⟨z, rfl, _⟩ | ⟨v, t, rfl, _⟩ <;> rfl
  · refine ⟨_, (pss_one (ps_ret (pe_cmpR op_notN (pe_call G_fraction_of (hr.mono (by decide)) rfl D_fraction_of.mg D_fraction_of.fn.kp D_fraction_of.bd .nil pass0 (pa_cons (pv 0) pa_nil)) pe_non (nomark _)))), ?_⟩
    rcases h with ⟨z, rfl, ok, ret⟩ | ⟨v, t, rfl, ty, kit, ret⟩
    · refine ⟨_, rfl, .inl ⟨z, rfl, ok, fun e H' sm => ?_, fun a b e p H' hp sm h' => ?_⟩⟩
      · have q := ret H' sm
        rw [e] at q
        exact ⟨rfl, q⟩
      · have q := ret H' sm
        rw [e] at q
        exact ⟨rfl, q⟩
    · exact ⟨_, rfl, .inr ⟨v, t, rfl, ty, kit, rfl, ret⟩⟩
end L

namespace Hv
open PySem L2
abbrev LETS : Str := Str.ofString "abcdefghijklmnopqrstuvwxyz"
abbrev DIGS : Str := Str.ofString "0123456789"
def signOk (c : Nat) : Bool := decide (c ∈ LETS.cps.toList) || decide (c ∈ DIGS.cps.toList)
/-- a name: one to eight signs, a letter first -/
def nameOk (z : Str) : Bool := match z.cps.toList with
  | [] => false
  | c :: _ => decide (z.length ≤ 8) && decide (c ∈ LETS.cps.toList) && z.cps.toList.all signOk
theorem str_len (z : Str) : z.cps.toList.length = z.length := by
  show _ = z.cps.size
  simp
theorem atI_zero {α : Type} (c : α) (cs : List α) : atI (c :: cs) 0 = some c := by
  have h : ¬ ((cs.length : Int) + 1 ≤ 0) := by omega
  simp [atI, ixN]
  try omega
/-- of a text, or of another value -/
def sp_is_name (K : PySem.W.Frag) : Sp := fun vs H Q _ =>
  (∃ z : Str, vs = [.str z] ∧ z.length ≤ sizeLine ∧ ∀ H', Same H H' → Q (.bl (nameOk z)) H') ∨
  ∃ (v : V) (t : Value), vs = [v] ∧ TyX K H v t ∧ PySem.W.kitOne K t (.type "str") = some false ∧ Q (.bl false) H
end Hv
namespace L
open PySem L2 Hv
variable {P : Program} {w : World} {K : PySem.W.Frag} {mg : Str → Option Value} {base : Heap}
abbrev s_is_name : Stmt := top 17
abbrev N_is_name : List Str := ["value", "sign"]
abbrev P_is_name : List Str := ["value"]
theorem sc_is_name : FnScope N_is_name P_is_name (defScope s_is_name) := ⟨rfl, rfl, rfl, by decide +kernel, rfl, by decide +kernel, by decide +kernel⟩
theorem ok_is_name {f : Addr} {fd : FuncData} (D : DefAt K mg "is_name" s_is_name P_is_name f fd) (T : Txt K mg) : FnOk P w K mg base CX0 1 f fd P_is_name (sp_is_name K) := by
  refine D.fn.ok sc_is_name (fun vs H Q E h => ?_) (fun cdv A outer s H vs Q E hr h => ?_)
  · rcases h with ⟨z, rfl, _⟩ | ⟨v, t, rfl, _⟩ <;> rfl
  · refine ⟨_, (pss_cons (ps_if (PW.pt (pw_or (pt_not (pt_val (pe_callB call_isi (by rfl) T.isinstance (by decide +kernel) (pa_cons (pv 0) (pa_cons (pe_bltn (v := .ty "str") (u := .type "str") (by rfl) T.str (by decide +kernel) rfl) pa_nil))))) (pw_or (pt_not (pt_chain op_le op_le pe_int (pe_callB call_len_str (by rfl) T.len (by decide +kernel) (pa_cons (pv 0) pa_nil)) pe_int)) (pw_or1 (pt_cmpR op_notIn_sign (pe_ix ix_str (pv 0) pe_int (fun _ _ => rfl)) (pe_glob (v := .str "abcdefghijklmnopqrstuvwxyz") rfl T.cLETTERS.choose_spec ⟨_, rfl⟩) (by rfl))))))
      (pss_one (ps_ret pe_bl))
      pss_nil)
      (pss_one (ps_ret (pe_callB (cr_all rfl) (by rfl) T.all (by decide +kernel) (pa_cons (pe_lc (own := [("sign", 1)]) (g := gName 1) rfl sc_is_name.nd (pi_str (pv 0)) (blkOk_by (own := [("sign", 1)]) (N := N_is_name) (sc := defScope s_is_name) (by decide +kernel)) (fun _ _ _ _ _ => (pg_name (i := 1) sc_is_name.nd rfl (.inl rfl))) (fun _ _ _ _ _ => pts_nil) (fun _ _ _ _ _ => (pe_or (pe_cmpR op_in_sign (pv 1) (pe_glob (v := .str "abcdefghijklmnopqrstuvwxyz") rfl T.cLETTERS.choose_spec ⟨_, rfl⟩) (by rfl)) (pe_one (pe_cmpR op_in_sign (pv 1) (pe_glob (v := .str "0123456789") rfl T.cDIGITS.choose_spec ⟨_, rfl⟩) (by rfl)))))) pa_nil))))), ?_⟩
    rcases h with ⟨z, rfl, hz, ret⟩ | ⟨v, t, rfl, ty, kit, ret⟩
    · refine ⟨_, rfl, _, _, _, _, _, rfl, .ty _, .base (.str z), kit_ty (r := true) (by decide +kernel), _, rfl, ?_⟩
      refine ⟨_, rfl, _, rfl, hz, _, _, rfl, rfl, _, rfl, ?_⟩
      have no : nameOk z = false → ∀ H', Same H H' → Q (.bl false) H' := fun e H' sm => by
        have q := ret H' sm
        rw [e] at q
        exact q
      refine ite2 (fun h1 => ?_) (fun h1 => ?_)
      · have h1' : (1 : Int) ≤ z.length := of_decide_eq_true h1
        refine ⟨_, _, rfl, rfl, _, rfl, ?_⟩
        have l := str_len z
        obtain ⟨c, cs, hc⟩ : ∃ c cs, z.cps.toList = c :: cs := by
          cases e : z.cps.toList with
          | nil => rw [e] at l; simp at l; omega
          | cons c cs => exact ⟨c, cs, rfl⟩
        have un : nameOk z = (decide (z.length ≤ 8) && decide (c ∈ LETS.cps.toList) && z.cps.toList.all signOk) := by
          unfold nameOk
          rw [hc]
        refine ite2 (fun h2 => ?_) (fun h2 => ?_)
        · refine no ?_ H (Same.refl H)
          have : ¬ ((z.length : Int) ≤ 8) := nT h2
          rw [un, decide_eq_false (by omega)]
          rfl
        · have h8 : (z.length : Int) ≤ 8 := nF h2
          refine ⟨_, rfl, _, _, c, rfl, rfl, hz, by rw [hc]; exact atI_zero c cs, c, _, rfl, rfl, _, rfl, ?_⟩
          refine ite2 (fun h3 => ?_) (fun h3 => ?_)
          · refine no ?_ H (Same.refl H)
            rw [un, decide_eq_false (nT h3), Bool.and_false, Bool.false_and]
          · have h3' : c ∈ LETS.cps.toList := nF h3
            refine ⟨_, rfl, _, rfl, fun L hL => ?_⟩
            refine lc_it walk_str (fun i H' => H' = upd H L (.lst ((z.cps.toList.take i).map fun c => V.bl (signOk c)))) ?_ (fun _ _ _ _ => trivial) ?_ ?_
            · rfl
            · rintro i x H1 H2 hi rfl ⟨rfl, c, hc, rfl⟩
              have step : ∀ b, b = signOk c → ∃ xs, upd H L (.lst ((z.cps.toList.take i).map fun c => V.bl (signOk c))) L = some (.lst xs) ∧ xs.length < sizeLine ∧
                  upd (upd H L (.lst ((z.cps.toList.take i).map fun c => V.bl (signOk c)))) L (.lst (xs ++ [V.bl b])) = upd H L (.lst ((z.cps.toList.take (i + 1)).map fun c => V.bl (signOk c))) := by
                rintro b rfl
                refine ⟨_, upd_same, ?_, ?_⟩
                · rw [List.length_map, List.length_take]
                  have s2 : 8 < sizeLine := by decide
                  omega
                · rw [upd_upd, List.take_succ]
                  have e : z.cps.toList[i]? = some c := by simpa using hc
                  rw [e, List.map_append]
                  rfl
              refine ⟨rfl, _, rfl, c, _, rfl, rfl, _, rfl, ?_⟩
              refine ite2 (fun q => ?_) (fun q => ?_)
              · exact step true (by unfold signOk; rw [q]; rfl)
              · exact ⟨_, rfl, c, _, rfl, rfl, step _ (by unfold signOk; rw [Bool.eq_false_iff.mpr q]; rfl)⟩
            · rintro H1 rfl
              have e : List.take z.cps.size z.cps.toList = z.cps.toList := List.take_of_length_le (by simp)
              rw [e]
              refine ⟨_, z.cps.toList.map signOk, rfl, SqL.of (by rw [upd_same, List.map_map]; rfl), ?_⟩
              have q := ret _ (same_new (o := .lst (z.cps.toList.map fun c => V.bl (signOk c))) hL)
              rw [un, decide_eq_true (show z.length ≤ 8 by omega), decide_eq_true h3', Bool.true_and, Bool.true_and] at q
              rw [List.all_map]
              exact q
      · refine ⟨_, rfl, iteT (no ?_ H (Same.refl H))⟩
        have : ¬ ((1 : Int) ≤ z.length) := dF h1
        have l := str_len z
        unfold nameOk
        cases e : z.cps.toList with
        | nil => rfl
        | cons c cs => rw [e] at l; simp at l; omega
    · exact ⟨_, rfl, _, _, _, _, _, rfl, .ty _, ty, kit, _, rfl, ret⟩
end L

namespace Hv
open PySem L2
def lineOf (a b : Nat) : List Str := if Nat.gcd a b = 1 then (text a ++ SLASH ++ text b) :: (if a < b then [MARK ++ text a ++ SLASH ++ text b] else []) else []
def inner (b n : Nat) : List Str := (List.range n).flatMap fun a => lineOf a b
def outer (n : Nat) : List Str := (List.range n).flatMap fun i => inner (i + 1) (i + 2)
def BL : List Str := outer 12
def sp_bounds : Sp := fun vs H Q _ => vs = [] ∧ ∀ p H', H p = none → Same H H' → H' p = some (.lst (BL.map V.str)) → Q (.ref p) H'
def okLine (z : Str) : Bool :=
  match fracOf z with
  | some (a, b) => decide (Txt.split (Txt.replace z MARK (Str.ofString "")) SLASH = [text a, text b]) && (Txt.startswith z (Str.ofString "over") == isOver z) && decide (z.length ≤ 20) &&
      decide ((Txt.removeprefix z MARK).length ≤ 20) && (Txt.split (Txt.removeprefix z MARK) SLASH).all (fun p => decide (p.length ≤ 20)) && decide ((Txt.replace z MARK (Str.ofString "")).length ≤ 20)
  | none => false
theorem BL_ok : BL.all okLine = true := by decide +kernel
theorem BL_len : BL.length = 93 := by decide +kernel
theorem sz20 {n : Nat} (h : n ≤ 20) : n + 2 ≤ sizeLine := by
  have : 22 ≤ sizeLine := by decide
  omega
structure Line (z : Str) (a b : Nat) : Prop where
  fr : fracOf z = some (a, b)
  sp : Txt.split (Txt.replace z MARK (Str.ofString "")) SLASH = [text a, text b]
  ov : Txt.startswith z (Str.ofString "over") = isOver z
  ok : TextOk z
  len : z.length ≤ 20
  rl : (Txt.replace z MARK (Str.ofString "")).length ≤ 20
theorem okLine_line {z : Str} (h : okLine z = true) : ∃ a b, Line z a b := by
  unfold okLine at h
  cases e : fracOf z with
  | none => rw [e] at h; cases h
  | some p =>
    obtain ⟨a, b⟩ := p
    rw [e] at h
    simp only [Bool.and_eq_true, decide_eq_true_eq, beq_iff_eq, List.all_eq_true] at h
    obtain ⟨⟨⟨⟨⟨h1, h2⟩, h3⟩, h4⟩, h5⟩, h6⟩ := h
    exact ⟨a, b, e, h1, h2, ⟨sz20 h3, sz20 h4, fun p hp => by have := sz20 (h5 p hp); omega⟩, h3, h6⟩
theorem line_of {z : Str} (h : z ∈ BL) : ∃ a b, Line z a b := okLine_line (List.all_eq_true.mp BL_ok z h)
end Hv
namespace L
open PySem L2 Hv
variable {P : Program} {w : World} {K : PySem.W.Frag} {mg : Str → Option Value} {base : Heap}
abbrev s_common : Stmt := top 34
abbrev N_common : List Str := ["_law_one", "_law_two"]
abbrev P_common : List Str := ["_law_one", "_law_two"]
theorem sc_common : FnScope N_common P_common (defScope s_common) := ⟨rfl, rfl, rfl, by decide +kernel, rfl, by decide +kernel, by decide +kernel⟩
theorem ok_common {f : Addr} {fd : FuncData} (D : DefAt K mg "_law_common" s_common P_common f fd) (T : Txt K mg) : FnOk P w K mg base CX0 1 f fd P_common sp_gcd := by
  refine D.fn.ok sc_common (fun vs H Q E h => ?_) (fun cdv A outer s H vs Q E hr h => ?_)
  · obtain ⟨a, b, rfl, _⟩ := h
    rfl
  · obtain ⟨a, b, rfl, ret⟩ := h
    refine ⟨_, (pss_cons (ps_while PassesOwn.never (pt_cmpR op_gt (pv 1) pe_int (nomark _))
      (pss_one (ps_par (i := 0) (j := 1) (by rfl) sc_common.nd rfl rfl (by decide) rfl rfl (pa_cons (pv 1) (pa_cons (pe_op op_mod (pe_callTy call_int1 (by rfl) T.int (by decide +kernel) (pa_cons (pv 0) pa_nil)) (pv 1)) pa_nil)) (by rfl))))
      (pss_one (ps_ret (pv 0)))), ?_⟩
    refine ⟨fun m σ' H' => ∃ x y : Nat, σ' = [some (.int (x : Int)), some (.int (y : Int))] ∧ Nat.gcd x y = Nat.gcd a b ∧ m = y ∧ H' = H, ⟨b, a, b, rfl, rfl, rfl, rfl⟩, ?_⟩
    rintro m σ' H' ⟨x, y, rfl, e, rfl, rfl⟩
    refine ⟨_, rfl, _, _, rfl, rfl, _, rfl, ?_⟩
    refine ite2 (fun hc => ?_) (fun hc => ?_)
    · have hy : 0 < m := by have := of_decide_eq_true hc; omega
      refine ⟨fun σ2 H2 => σ2 = [some (.int (m : Int)), some (.int ((x % m : Nat) : Int))] ∧ H2 = H', ?_, ?_⟩
      · rintro σ2 H2 ⟨rfl, rfl⟩
        refine ⟨x % m, Nat.mod_lt _ hy, m, x % m, rfl, ?_, rfl, rfl⟩
        rw [Nat.gcd_comm, ← Nat.gcd_rec, Nat.gcd_comm, e]
      · refine ⟨_, rfl, _, rfl, .inl ⟨_, rfl, _, rfl, _, _, rfl, rfl, ?_, _, _, rfl, ?_, rfl⟩⟩
        · show (0 : Int) < m
          omega
        · rfl
    · have hy : m = 0 := by
        have : ¬ (0 : Int) < (m : Int) := fun q => hc (decide_eq_true q)
        omega
      subst hy
      refine ⟨_, rfl, ?_⟩
      rw [Nat.gcd_zero_right] at e
      rw [e]
      exact ret
abbrev s_bounds : Stmt := top 35
abbrev N_bounds : List Str := ["_law_found", "_law_below", "_law_above"]
abbrev P_bounds : List Str := []
theorem sc_bounds : FnScope N_bounds P_bounds (defScope s_bounds) := ⟨rfl, rfl, rfl, by decide +kernel, rfl, by decide +kernel, by decide +kernel⟩
theorem ok_bounds {f f1 : Addr} {fd fd1 : FuncData} (D : DefAt K mg "_law_bounds" s_bounds P_bounds f fd) (T : Txt K mg) (D_common : DefAt K mg "_law_common" s_common P_common f1 fd1) : FnOk P w K mg base CX0 2 f fd P_bounds sp_bounds := by
  have G_common : FnOk P w K mg base CX0 1 f1 fd1 P_common sp_gcd := ok_common D_common T
  refine D.fn.ok sc_bounds (fun vs H Q E h => ?_) (fun cdv A outer s H vs Q E hr h => ?_)
  · obtain ⟨rfl, _⟩ := h
    rfl
  · obtain ⟨rfl, ret⟩ := h
    have lg : ∀ n : Nat, n ≤ 12 → (n : Int).natAbs.log2 < 1920 := fun n hn => Nat.lt_of_le_of_lt (log2_mono (show (n : Int).natAbs ≤ 12 by omega)) (by decide)
    have tl : ∀ n : Nat, n ≤ 12 → (text n).length ≤ 2 := fun n hn => text_short n (by omega)
    refine ⟨_, (pss_cons (ps_asg (pe_lst pa_nil) (pg_name (i := 0) sc_bounds.nd rfl (.inl rfl)))
      (pss_cons (ps_for PassesOwn.never rfl (pi_range2 (by rfl) T.range (pa_cons pe_int (pa_cons pe_int pa_nil))) (pg_name (i := 1) sc_bounds.nd rfl (.inl rfl))
      (pss_one (ps_for PassesOwn.never rfl (pi_range1 (by rfl) T.range (pa_cons (pe_op op_add (pv 1) pe_int) pa_nil)) (pg_name (i := 2) sc_bounds.nd rfl (.inl rfl))
      (pss_one (ps_if (pt_cmpR op_eq (pe_call G_common (hr.mono (by decide)) rfl D_common.mg D_common.fn.kp D_common.bd .nil pass0 (pa_cons (pv 2) (pa_cons (pv 1) pa_nil))) pe_int (nomark _))
      (pss_cons (ps_expr (pe_bm PySem.F.plainAttrs_list PySem.F.slot_list_append PySem.F.type_list_append mt_append (pv 0) (pa_cons (pe_op op_add_str (pe_op op_add_str (pe_callTy call_str_int (by rfl) T.str (by decide +kernel) (pa_cons (pv 2) pa_nil)) pe_str) (pe_callTy call_str_int (by rfl) T.str (by decide +kernel) (pa_cons (pv 1) pa_nil))) pa_nil)))
      (pss_one (ps_if (pt_cmpR op_lt (pv 2) (pv 1) (nomark _))
      (pss_one (ps_expr (pe_bm PySem.F.plainAttrs_list PySem.F.slot_list_append PySem.F.type_list_append mt_append (pv 0) (pa_cons (pe_op op_add_str (pe_op op_add_str (pe_op op_add_str pe_str (pe_callTy call_str_int (by rfl) T.str (by decide +kernel) (pa_cons (pv 2) pa_nil))) pe_str) (pe_callTy call_str_int (by rfl) T.str (by decide +kernel) (pa_cons (pv 1) pa_nil))) pa_nil))))
      pss_nil)))
      pss_nil)))))
      (pss_one (ps_ret (pv 0))))), ?_⟩
    refine ⟨Nat.zero_le _, fun L hL => ?_⟩
    refine ⟨1, 13, rfl, ⟨by decide, by decide, by decide, by decide⟩, for_range (lo := 1) (n := 12)
      (fun i σ' H' => ∃ v1 v2, σ' = [some (.ref L), v1, v2] ∧ H' = upd H L (.lst ((Hv.outer i).map V.str)) ∧ i ≤ 12 ∧ (Hv.outer i).length ≤ i * 30) ⟨none, none, rfl, rfl, by decide, by decide⟩ ?_ ?_⟩
    · rintro i σ' H' hi ⟨v1, v2, rfl, rfl, _, hlen⟩
      have hn2 : ((1 : Int) + (i : Nat) + 1).toNat = i + 2 := by omega
      refine ⟨_, rfl, _, _, rfl, rfl, _, rfl, ?_, ?_, for_range (lo := 0) (n := ((1 : Int) + (i : Nat) + 1).toNat) (fun j σ2 H2 => ∃ v, σ2 = [some (.ref L), some (.int (1 + (i : Nat))), v] ∧
        H2 = upd H L (.lst ((Hv.outer i ++ Hv.inner (i + 1) j).map V.str)) ∧ (Hv.inner (i + 1) j).length ≤ j * 2) ?_ ?_ ?_⟩
      · show -(2 ^ 62) ≤ (1 : Int) + (i : Nat) + 1
        omega
      · show (1 : Int) + (i : Nat) + 1 < 2 ^ 62
        omega
      · refine ⟨_, rfl, ?_, Nat.zero_le _⟩
        show _ = upd H L (.lst ((Hv.outer i ++ []).map V.str))
        rw [List.append_nil]
      · rintro j σ2 H2 hj ⟨v, rfl, rfl, hl2⟩
        rw [hn2] at hj
        have sz : (Hv.outer i ++ Hv.inner (i + 1) j).length < 1000 := by
          rw [List.length_append]
          omega
        have step : Hv.inner (i + 1) (j + 1) = Hv.inner (i + 1) j ++ lineOf j (i + 1) := by
          unfold Hv.inner
          rw [List.range_succ, List.flatMap_append]
          simp
        have e0 : (0 : Int) + (j : Nat) = ((j : Nat) : Int) := Int.zero_add _
        have e1 : (1 : Int) + (i : Nat) = ((i + 1 : Nat) : Int) := by omega
        have l2 : (lineOf j (i + 1)).length ≤ 2 := by
          unfold lineOf
          split
          · split <;> simp
          · simp
        have big : ∀ n : Nat, n < 1002 → n < sizeLine := fun n hn => Nat.lt_of_lt_of_le hn (by decide)
        have lt2 : ∀ n : Nat, n ≤ 20 → n ≤ sizeLine := fun n hn => Nat.le_trans hn (by decide)
        have sl : (Str.ofString "/").length = 1 := rfl
        have mk : (Str.ofString "over ").length = 5 := rfl
        have tj : (Str.ofString (toString ((j : Nat) : Int))).length ≤ 2 := tl j (by omega)
        have ti : (Str.ofString (toString ((i + 1 : Nat) : Int))).length ≤ 2 := tl (i + 1) (by omega)
        show tIfS _ _ _ _ [some (.ref L), some (.int (1 + (i : Nat))), some (.int (0 + (j : Nat)))] _
        rw [e0, e1]
        refine ⟨_, rfl, _, rfl, j, i + 1, rfl, rfl, _, rfl, ?_⟩
        by_cases g : Nat.gcd j (i + 1) = 1
        · refine ifT (by rw [g]; rfl) ?_
          refine ⟨_, rfl, .inl ⟨rfl, _, SqL.of upd_same⟩, _, rfl, _, rfl, lg j (by omega), _, _, rfl, rfl, ?_, _, rfl, _, rfl, lg (i + 1) (by omega), _, _, rfl, rfl, ?_, _, _, _, rfl, rfl, upd_same, ?_, ?_⟩
          · exact lt2 _ (by omega)
          · rw [Str.length_append]
            exact lt2 _ (by omega)
          · rw [List.length_map]
            exact big _ (by omega)
          rw [upd_upd]
          refine ⟨_, rfl, _, rfl, _, _, rfl, rfl, _, rfl, ?_⟩
          by_cases c : j < i + 1
          · refine ifT (by omega) ?_
            refine ⟨_, rfl, .inl ⟨rfl, _, SqL.of upd_same⟩, _, rfl, _, rfl, lg j (by omega), _, _, rfl, rfl, ?_, _, _, rfl, rfl, ?_, _, rfl, _, rfl, lg (i + 1) (by omega), _, _, rfl, rfl, ?_, _, _, _, rfl, rfl, upd_same, ?_, ?_⟩
            · exact lt2 _ (by omega)
            · rw [Str.length_append]
              exact lt2 _ (by omega)
            · rw [Str.length_append, Str.length_append]
              exact lt2 _ (by omega)
            · rw [List.length_append, List.length_map]
              exact big _ (by simp; omega)
            · rw [upd_upd]
              refine ⟨_, rfl, ?_, ?_⟩
              · rw [step]
                unfold lineOf
                rw [if_pos g, if_pos c]
                simp
                rfl
              · rw [step, List.length_append]
                omega
          · refine ifF (by omega) ?_
            refine ⟨_, rfl, ?_, ?_⟩
            · rw [step]
              unfold lineOf
              rw [if_pos g, if_neg c]
              simp
              rfl
            · rw [step, List.length_append]
              omega
        · refine ifF (fun q => g (by have := V.int.inj q; omega)) ?_
          refine ⟨_, rfl, ?_, ?_⟩
          · rw [step]
            unfold lineOf
            rw [if_neg g, List.append_nil]
          · rw [step, List.length_append]
            omega
      · rintro σ2 H2 ⟨v, rfl, rfl, hl2⟩
        rw [hn2]
        rw [hn2] at hl2
        have step : Hv.outer (i + 1) = Hv.outer i ++ Hv.inner (i + 1) (i + 2) := by
          unfold Hv.outer
          rw [List.range_succ, List.flatMap_append]
          simp
        refine ⟨_, _, rfl, by rw [step], by omega, ?_⟩
        rw [step, List.length_append]
        omega
    · rintro σ' H' ⟨v1, v2, rfl, rfl, _, _⟩
      exact ⟨_, rfl, ret L _ hL (same_new hL) upd_same⟩
end L

namespace Hv
open PySem L2
/-- a text that is a bound -/
def BT (z : Str) : Prop := TextOk z ∧ (fracOf z).isSome = true
def endsV : Option Str → V
  | none => .non
  | some z => .str z
/-- the parts of a kind -/
structure Kd where
  name : Str
  talks : Int
  needs : V
  closing : Option (Int × Str)
  ends : Option Str
def ClosAt (K : PySem.W.Frag) (H : Hp) : Option (Int × Str) → V → Prop
  | none, v => v = .non
  | some (i, z), v => ∃ a, v = .ref a ∧ H a = some (.tup [.int i, .str z])
structure Kd.Ok (k : Kd) : Prop where
  name : nameOk k.name = true
  len : k.name.length ≤ sizeLine
  talks : 0 ≤ k.talks ∧ k.talks ≤ 3
  needs : (∃ i, k.needs = .int i ∧ 1 ≤ i ∧ i ≤ 9) ∨ ∃ z, k.needs = .str z ∧ BT z
  closing : ∀ i z, k.closing = some (i, z) → 0 ≤ i ∧ i ≤ 3 ∧ BT z
  ends : ∀ z, k.ends = some z → BT z
def KindAt (K : PySem.W.Frag) (C : Addr) (H : Hp) (a : Addr) (k : Kd) : Prop :=
  ∃ dx pt cl, H a = some (.ins C dx [("parts", .ref pt)]) ∧ H pt = some (.tup [.str k.name, .int k.talks, k.needs, cl, endsV k.ends]) ∧ ClosAt K H k.closing cl
theorem ClosAt.same {K : PySem.W.Frag} {H H' : Hp} {c : Option (Int × Str)} {v : V} (h : ClosAt K H c v) (e : Same H H') : ClosAt K H' c v := by
  cases c with
  | none => exact h
  | some p =>
    obtain ⟨a, h1, h2⟩ := h
    exact ⟨a, h1, e _ _ h2⟩
theorem KindAt.same {K : PySem.W.Frag} {C : Addr} {H H' : Hp} {a : Addr} {k : Kd} (h : KindAt K C H a k) (e : Same H H') : KindAt K C H' a k := by
  obtain ⟨dx, pt, cl, h1, h2, h3⟩ := h
  exact ⟨dx, pt, cl, e _ _ h1, e _ _ h2, h3.same e⟩
/-! promises -/
def sp_is_needs (K : PySem.W.Frag) : Sp := fun vs H Q _ =>
  (∃ i : Int, vs = [.int i] ∧ Q (.bl (decide (1 ≤ i) && decide (i ≤ 9))) H) ∨
  (∃ z : Str, vs = [.str z] ∧ TextOk z ∧ ∀ H', Same H H' → Q (.bl (fracOf z).isSome) H') ∨
  ∃ (v : V) (t : Value) (b1 b2 : Bool), vs = [v] ∧ TyX K H v t ∧ PySem.W.kitOne K t (.type "str") = some false ∧ PySem.W.kitOne K t (.type "int") = some b1 ∧
    PySem.W.kitOne K t (.type "bool") = some b2 ∧ (b1 && !b2) = false ∧ Q (.bl false) H
def sp_is_closing (K : PySem.W.Frag) : Sp := fun vs H Q _ =>
  (vs = [.non] ∧ Q (.bl true) H) ∨
  (∃ (a : Addr) (i : Int) (z : Str), vs = [.ref a] ∧ H a = some (.tup [.int i, .str z]) ∧ TextOk z ∧ ∀ H', Same H H' → Q (.bl (decide (0 ≤ i) && decide (i ≤ 3) && (fracOf z).isSome)) H')
def sp_kind_init (K : PySem.W.Frag) (C : Addr) : Sp := fun vs H Q _ => ∃ (x dx : Addr) (k : Kd) (cl : V), vs = [.ref x, .str k.name, .int k.talks, k.needs, cl, endsV k.ends] ∧ k.Ok ∧ ClosAt K H k.closing cl ∧
  H x = some (.ins C dx []) ∧ H dx = some (.own x) ∧ dx ≠ x ∧ ∀ H', (∀ b o, b ≠ x → H b = some o → H' b = some o) → KindAt K C H' x k → Q .non H'
end Hv
namespace L
open PySem L2 Hv
variable {P : Program} {w : World} {K : PySem.W.Frag} {mg : Str → Option Value} {base : Heap}
abbrev s_is_needs : Stmt := top 25
abbrev N_is_needs : List Str := ["value"]
abbrev P_is_needs : List Str := ["value"]
theorem sc_is_needs : FnScope N_is_needs P_is_needs (defScope s_is_needs) := ⟨rfl, rfl, rfl, by decide +kernel, rfl, by decide +kernel, by decide +kernel⟩
theorem ok_is_needs {f f1 f2 : Addr} {fd fd1 fd2 : FuncData} (D : DefAt K mg "is_needs" s_is_needs P_is_needs f fd) (T : Txt K mg)
    (D_is_bound : DefAt K mg "is_bound" s_is_bound P_is_bound f1 fd1) (G_is_bound : FnOk P w K mg base CX0 3 f1 fd1 P_is_bound (sp_is_bound K))
    (D_is_integer : DefAt K mg "is_integer" s_is_integer P_is_integer f2 fd2) (G_is_integer : FnOk P w K mg base CX0 1 f2 fd2 P_is_integer (sp_is_integer K)) :
    FnOk P w K mg base CX0 4 f fd P_is_needs (sp_is_needs K) := by
  refine D.fn.ok sc_is_needs (fun vs H Q E h => ?_) (fun cdv A outer s H vs Q E hr h => ?_)
  · rcases h with ⟨z, rfl, _⟩ | ⟨v, rfl, _⟩ | ⟨v, t, b1, b2, rfl, _⟩ <;> rfl
  · refine ⟨_, (pss_one (ps_ret (pe_or (pe_call G_is_bound (hr.mono (by decide)) rfl D_is_bound.mg D_is_bound.fn.kp D_is_bound.bd .nil pass0 (pa_cons (pv 0) pa_nil)) (pe_one (pe_and (pe_call G_is_integer (hr.mono (by decide)) rfl D_is_integer.mg D_is_integer.fn.kp D_is_integer.bd .nil pass0 (pa_cons (pv 0) pa_nil)) (pe_one (pe_chain op_le op_le pe_int (pv 0) (pe_glob (v := .int 9) rfl T.cMOST_NEEDS.choose_spec ⟨_, rfl⟩)))))))), ?_⟩
    rcases h with ⟨i, rfl, ret⟩ | ⟨z, rfl, ok, ret⟩ | ⟨v, t, b1, b2, rfl, ty, ks, k1, k2, kb, ret⟩
    · refine ⟨_, rfl, .inr ⟨_, _, rfl, .base (.int _), kit_ty (r := false) (by decide +kernel), _, rfl, ?_⟩⟩
      refine iteF ⟨_, rfl, _, _, true, false, rfl, .base (.int _), kit_ty (by decide +kernel), kit_ty (by decide +kernel), _, rfl, ?_⟩
      refine iteT ⟨_, rfl, _, _, rfl, rfl, _, rfl, ?_⟩
      cases h1 : decide (1 ≤ i) with
      | true =>
        rw [h1] at ret
        exact iteT ⟨_, _, rfl, rfl, ret⟩
      | false =>
        rw [h1] at ret
        exact iteF ret
    · refine ⟨_, rfl, .inl ⟨z, rfl, ok, fun H1 s1 => ⟨_, rfl, ?_⟩⟩⟩
      have q := ret H1 s1
      cases h1 : (fracOf z).isSome with
      | true =>
        rw [h1] at q
        exact iteT q
      | false =>
        rw [h1] at q
        exact iteF ⟨_, rfl, _, _, false, false, rfl, .base (.str _), kit_ty (by decide +kernel), kit_ty (by decide +kernel), _, rfl, iteF q⟩
    · refine ⟨_, rfl, .inr ⟨_, _, rfl, ty, ks, _, rfl, ?_⟩⟩
      refine iteF ⟨_, rfl, _, _, b1, b2, rfl, ty, k1, k2, _, rfl, ?_⟩
      rw [kb]
      exact iteF ret
abbrev s_is_closing : Stmt := top 26
abbrev N_is_closing : List Str := ["value"]
abbrev P_is_closing : List Str := ["value"]
theorem sc_is_closing : FnScope N_is_closing P_is_closing (defScope s_is_closing) := ⟨rfl, rfl, rfl, by decide +kernel, rfl, by decide +kernel, by decide +kernel⟩
theorem ok_is_closing {f f1 f2 : Addr} {fd fd1 fd2 : FuncData} (D : DefAt K mg "is_closing" s_is_closing P_is_closing f fd) (T : Txt K mg)
    (D_is_bound : DefAt K mg "is_bound" s_is_bound P_is_bound f1 fd1) (G_is_bound : FnOk P w K mg base CX0 3 f1 fd1 P_is_bound (sp_is_bound K))
    (D_is_integer : DefAt K mg "is_integer" s_is_integer P_is_integer f2 fd2) (G_is_integer : FnOk P w K mg base CX0 1 f2 fd2 P_is_integer (sp_is_integer K)) :
    FnOk P w K mg base CX0 4 f fd P_is_closing (sp_is_closing K) := by
  refine D.fn.ok sc_is_closing (fun vs H Q E h => ?_) (fun cdv A outer s H vs Q E hr h => ?_)
  · rcases h with ⟨rfl, _⟩ | ⟨a, i, z, rfl, _⟩ <;> rfl
  · refine ⟨_, (pss_cons (ps_if (pt_cmpR op_isN (pv 0) pe_non (nomark _))
      (pss_one (ps_ret pe_bl))
      pss_nil)
      (pss_cons (ps_if (PW.pt (pw_or (pt_not (pt_val (pe_callB call_isi (by rfl) T.isinstance (by decide +kernel) (pa_cons (pv 0) (pa_cons (pe_bltn (v := .ty "tuple") (u := .type "tuple") (by rfl) T.tuple (by decide +kernel) rfl) pa_nil))))) (pw_or1 (pt_cmpR op_ne (pe_callB call_len_seq (by rfl) T.len (by decide +kernel) (pa_cons (pv 0) pa_nil)) pe_int (nomark _)))))
      (pss_one (ps_ret pe_bl))
      pss_nil)
      (pss_one (ps_ret (pe_and (pe_call G_is_integer (hr.mono (by decide)) rfl D_is_integer.mg D_is_integer.fn.kp D_is_integer.bd .nil pass0 (pa_cons (pe_ix ix_tup (pv 0) pe_int (fun _ _ => rfl)) pa_nil)) (pe_and (pe_chain op_le op_le pe_int (pe_ix ix_tup (pv 0) pe_int (fun _ _ => rfl)) (pe_glob (v := .int 3) rfl T.cMOST_AFTER.choose_spec ⟨_, rfl⟩)) (pe_one (pe_call G_is_bound (hr.mono (by decide)) rfl D_is_bound.mg D_is_bound.fn.kp D_is_bound.bd .nil pass0 (pa_cons (pe_ix ix_tup (pv 0) pe_int (fun _ _ => rfl)) pa_nil))))))))), ?_⟩
    rcases h with ⟨rfl, ret⟩ | ⟨a, i, z, rfl, ha, ok, ret⟩
    · exact ⟨_, rfl, rfl, _, rfl, ifT rfl ret⟩
    · refine ⟨_, rfl, rfl, _, rfl, ifF (by intro q; cases q) ?_⟩
      refine ⟨_, rfl, _, _, _, _, _, rfl, .ty _, .base (.tup ha), kit_ty (r := true) (by decide +kernel), _, rfl, ?_⟩
      refine ⟨_, rfl, _, _, rfl, .inr (SqT.of ha), rfl, _, rfl, ?_⟩
      refine ite2 (fun q => absurd rfl (nT q)) (fun _ => ?_)
      refine ⟨_, rfl, _, _, _, _, rfl, rfl, SqT.of ha, rfl, _, _, true, false, rfl, .base (.int _), kit_ty (by decide +kernel), kit_ty (by decide +kernel), _, rfl, ?_⟩
      refine iteT ⟨_, rfl, _, _, _, _, rfl, rfl, SqT.of ha, rfl, _, _, rfl, rfl, _, rfl, ?_⟩
      cases h1 : decide (0 ≤ i) with
      | false =>
        have q := ret H (Same.refl H)
        rw [h1] at q
        exact iteF ⟨_, rfl, iteF q⟩
      | true =>
        refine iteT ⟨_, _, rfl, rfl, _, rfl, ?_⟩
        cases h2 : decide (i ≤ 3) with
        | false =>
          have q := ret H (Same.refl H)
          rw [h1, h2] at q
          exact iteF q
        | true =>
          refine iteT ⟨_, rfl, _, _, _, _, rfl, rfl, SqT.of ha, rfl, .inl ⟨z, rfl, ok, fun H1 s1 => ?_⟩⟩
          have q := ret H1 s1
          rw [h1, h2] at q
          exact q
abbrev s_Kind_init : Stmt := inClass (top 28) 0
abbrev N_Kind_init : List Str := ["self", "name", "talks", "needs", "closing", "ends"]
abbrev P_Kind_init : List Str := ["self", "name", "talks", "needs", "closing", "ends"]
theorem sc_Kind_init : FnScope N_Kind_init P_Kind_init (defScope s_Kind_init) := ⟨rfl, rfl, rfl, by decide +kernel, rfl, by decide +kernel, by decide +kernel⟩
theorem ok_Kind_init {C f f1 f2 f3 f4 f5 : Addr} {fd fd1 fd2 fd3 fd4 fd5 : FuncData} {kws : List (Str × V)} (D : FunD K "__init__" "Kind.__init__" (defArgs s_Kind_init) (defBody s_Kind_init) (defScope s_Kind_init) [] kws f fd) (T : Txt K mg) (c : Cls K C) (na : NoAttr K C "parts")
    (D_is_name : DefAt K mg "is_name" s_is_name P_is_name f1 fd1) (G_is_name : FnOk P w K mg base CX0 1 f1 fd1 P_is_name (sp_is_name K))
    (D_is_bound : DefAt K mg "is_bound" s_is_bound P_is_bound f2 fd2) (G_is_bound : FnOk P w K mg base CX0 3 f2 fd2 P_is_bound (sp_is_bound K))
    (D_is_integer : DefAt K mg "is_integer" s_is_integer P_is_integer f3 fd3) (G_is_integer : FnOk P w K mg base CX0 1 f3 fd3 P_is_integer (sp_is_integer K))
    (D_is_needs : DefAt K mg "is_needs" s_is_needs P_is_needs f4 fd4) (G_is_needs : FnOk P w K mg base CX0 4 f4 fd4 P_is_needs (sp_is_needs K))
    (D_is_closing : DefAt K mg "is_closing" s_is_closing P_is_closing f5 fd5) (G_is_closing : FnOk P w K mg base CX0 4 f5 fd5 P_is_closing (sp_is_closing K)) :
    FnOk P w K mg base CX0 5 f fd P_Kind_init (sp_kind_init K C) := by
  refine D.ok sc_Kind_init (fun vs H Q E h => ?_) (fun cdv A outer s H vs Q E hr h => ?_)
  · obtain ⟨x, dx, k, cl, rfl, _⟩ := h
    rfl
  · obtain ⟨x, dx, k, cl, rfl, ok, hcl, hx, hd, nd, ret⟩ := h
    refine ⟨_, (pss_cons (ps_if (pt_not (pt_val (pe_call G_is_name (hr.mono (by decide)) rfl D_is_name.mg D_is_name.fn.kp D_is_name.bd .nil pass0 (pa_cons (pv 1) pa_nil))))
      (pss_one ps_never)
      pss_nil)
      (pss_cons (ps_if (PW.pt (pw_or (pt_not (pt_val (pe_call G_is_integer (hr.mono (by decide)) rfl D_is_integer.mg D_is_integer.fn.kp D_is_integer.bd .nil pass0 (pa_cons (pv 2) pa_nil)))) (pw_or1 (pt_not (pt_chain op_le op_le pe_int (pv 2) (pe_glob (v := .int 3) rfl T.cMOST_TALKS.choose_spec ⟨_, rfl⟩))))))
      (pss_one ps_never)
      pss_nil)
      (pss_cons (ps_if (pt_not (pt_val (pe_call G_is_needs (hr.mono (by decide)) rfl D_is_needs.mg D_is_needs.fn.kp D_is_needs.bd .nil pass0 (pa_cons (pv 3) pa_nil))))
      (pss_one ps_never)
      pss_nil)
      (pss_cons (ps_if (pt_not (pt_val (pe_call G_is_closing (hr.mono (by decide)) rfl D_is_closing.mg D_is_closing.fn.kp D_is_closing.bd .nil pass0 (pa_cons (pv 4) pa_nil))))
      (pss_one ps_never)
      pss_nil)
      (pss_cons (ps_if (PW.pt (pw_and (pt_cmpR op_notN (pv 5) pe_non (nomark _)) (pw_and1 (pt_not (pt_val (pe_call G_is_bound (hr.mono (by decide)) rfl D_is_bound.mg D_is_bound.fn.kp D_is_bound.bd .nil pass0 (pa_cons (pv 5) pa_nil)))))))
      (pss_one ps_never)
      pss_nil)
      (pss_one (ps_fld (pv 0) (pe_tup (pa_cons (pv 1) (pa_cons (pv 2) (pa_cons (pv 3) (pa_cons (pv 4) (pa_cons (pv 5) pa_nil)))))) rfl))))))), ?_⟩
    refine join_ifs (fun b H' => b = false ∧ Same H H') (fun Q' fin => ?_) ?_
    · refine ⟨_, rfl, .inl ⟨k.name, rfl, ok.len, fun H1 s1 => ?_⟩⟩
      rw [ok.name]
      exact ⟨_, rfl, fin _ _ ⟨rfl, s1⟩⟩
    rintro _ H1 ⟨rfl, s1⟩
    dsimp only [tNext]
    refine join_ifs (fun b H' => b = false ∧ Same H H') (fun Q' fin => ?_) ?_
    · refine ⟨_, rfl, _, _, true, false, rfl, .base (.int _), kit_ty (by decide +kernel), kit_ty (by decide +kernel), _, rfl, ?_⟩
      refine ⟨_, rfl, _, _, rfl, rfl, _, rfl, ?_⟩
      refine ifT ok.talks.1 ⟨_, _, rfl, rfl, _, rfl, ?_⟩
      refine fin _ _ ⟨?_, s1⟩
      rw [decide_eq_true ok.talks.2]
      rfl
    rintro _ H2 ⟨rfl, s2⟩
    dsimp only [tNext]
    refine join_ifs (fun b H' => b = false ∧ Same H H') (fun Q' fin => ?_) ?_
    · rcases ok.needs with ⟨i, e, h1, h2⟩ | ⟨z, e, bt, bs⟩
      · refine ⟨_, rfl, .inl ⟨i, by rw [e]; rfl, _, rfl, fin _ _ ⟨?_, s2⟩⟩⟩
        rw [decide_eq_true h1, decide_eq_true h2]
        rfl
      · refine ⟨_, rfl, .inr (.inl ⟨z, by rw [e]; rfl, bt, fun H3 s3 => ⟨_, rfl, fin _ _ ⟨?_, s2.trans s3⟩⟩⟩)⟩
        rw [bs]
        rfl
    rintro _ H3 ⟨rfl, s3⟩
    dsimp only [tNext]
    refine join_ifs (fun b H' => b = false ∧ Same H H') (fun Q' fin => ?_) ?_
    · cases e : k.closing with
      | none =>
        rw [e] at hcl
        cases (show cl = .non from hcl)
        exact ⟨_, rfl, .inl ⟨rfl, _, rfl, fin _ _ ⟨rfl, s3⟩⟩⟩
      | some p =>
        obtain ⟨i, z⟩ := p
        rw [e] at hcl
        obtain ⟨a, rfl, ha⟩ := hcl
        obtain ⟨h1, h2, bt, bs⟩ := ok.closing i z e
        refine ⟨_, rfl, .inr ⟨a, i, z, rfl, s3 _ _ ha, bt, fun H4 s4 => ⟨_, rfl, fin _ _ ⟨?_, s3.trans s4⟩⟩⟩⟩
        rw [decide_eq_true h1, decide_eq_true h2, bs]
        rfl
    rintro _ H4 ⟨rfl, s4⟩
    dsimp only [tNext]
    refine join_ifs (fun b H' => b = false ∧ Same H H') (fun Q' fin => ?_) ?_
    · cases e : k.ends with
      | none => exact ⟨_, rfl, rfl, _, rfl, fin _ _ ⟨rfl, s4⟩⟩
      | some z =>
        obtain ⟨bt, bs⟩ := ok.ends z e
        refine ⟨_, rfl, rfl, _, rfl, ?_⟩
        refine ⟨_, rfl, .inl ⟨z, rfl, bt, fun H5 s5 => ⟨_, rfl, fin _ _ ⟨?_, s4.trans s5⟩⟩⟩⟩
        rw [bs]
        rfl
    rintro _ H5 ⟨rfl, s5⟩
    dsimp only [tNext]
    refine ⟨_, rfl, _, rfl, _, rfl, _, rfl, _, rfl, by show 5 ≤ sizeLine; decide, fun t ht => ?_⟩
    have tx : t ≠ x := (ne_of_none (s5 _ _ hx) ht).symm
    refine ⟨_, rfl, x, C, dx, [], rfl, same_new ht _ _ (s5 _ _ hx), c, na, by decide, ?_⟩
    refine ret _ (fun b o n e => ?_) ⟨dx, t, cl, upd_same, by rw [upd_ne tx, upd_same], ?_⟩
    · rw [upd_ne n]
      exact same_new ht _ _ (s5 _ _ e)
    · cases e : k.closing with
      | none =>
        rw [e] at hcl
        exact hcl
      | some p =>
        rw [e] at hcl
        obtain ⟨a, rfl, ha⟩ := hcl
        refine ⟨a, rfl, ?_⟩
        rw [upd_ne (fun q => by rw [q, hx] at ha; cases ha)]
        exact same_new ht _ _ (s5 _ _ ha)
end L

namespace Hv
open PySem L2
/-- one of the parts of an instance -/
def sp_part (C : Addr) (i : Int) : Sp := fun vs H Q _ => ∃ (a dx pt : Addr) (xs : List V) (v : V), vs = [.ref a] ∧ H a = some (.ins C dx [("parts", .ref pt)]) ∧ H pt = some (.tup xs) ∧ atI xs i = some v ∧ Q v H
end Hv
namespace L
open PySem L2 Hv
variable {P : Program} {w : World} {K : PySem.W.Frag} {mg : Str → Option Value} {base : Heap}
abbrev s_Kind_name : Stmt := inClass (top 28) 1
abbrev N_Kind_name : List Str := ["self"]
abbrev P_Kind_name : List Str := ["self"]
theorem sc_Kind_name : FnScope N_Kind_name P_Kind_name (defScope s_Kind_name) := ⟨rfl, rfl, rfl, by decide +kernel, rfl, by decide +kernel, by decide +kernel⟩
theorem ok_Kind_name {C f : Addr} {fd : FuncData} (D : PropAt K C "name" "Kind.name" s_Kind_name P_Kind_name f fd) (c : Cls K C) (na : NoAttr K C "parts") : FnOk P w K mg base CX0 1 f fd P_Kind_name (sp_part C 0) := by
  refine D.fn.ok sc_Kind_name (fun vs H Q E h => ?_) (fun cdv A outer s H vs Q E hr h => ?_)
  · obtain ⟨a, dx, pt, xs, v, rfl, _⟩ := h
    rfl
  · obtain ⟨a, dx, pt, xs, v, rfl, ha, hp, hv, ret⟩ := h
    refine ⟨_, (pss_one (ps_ret (pe_ix ix_tup (pe_fld (pv 0) rfl) pe_int (fun _ _ => rfl)))), ?_⟩
    exact ⟨_, rfl, a, C, dx, _, _, rfl, ha, c, na, rfl, pt, xs, _, v, rfl, rfl, SqT.of hp, hv, ret⟩
abbrev s_Kind_talks : Stmt := inClass (top 28) 2
abbrev N_Kind_talks : List Str := ["self"]
abbrev P_Kind_talks : List Str := ["self"]
theorem sc_Kind_talks : FnScope N_Kind_talks P_Kind_talks (defScope s_Kind_talks) := ⟨rfl, rfl, rfl, by decide +kernel, rfl, by decide +kernel, by decide +kernel⟩
theorem ok_Kind_talks {C f : Addr} {fd : FuncData} (D : PropAt K C "talks" "Kind.talks" s_Kind_talks P_Kind_talks f fd) (c : Cls K C) (na : NoAttr K C "parts") : FnOk P w K mg base CX0 1 f fd P_Kind_talks (sp_part C 1) := by
  refine D.fn.ok sc_Kind_talks (fun vs H Q E h => ?_) (fun cdv A outer s H vs Q E hr h => ?_)
  · obtain ⟨a, dx, pt, xs, v, rfl, _⟩ := h
    rfl
  · obtain ⟨a, dx, pt, xs, v, rfl, ha, hp, hv, ret⟩ := h
    refine ⟨_, (pss_one (ps_ret (pe_ix ix_tup (pe_fld (pv 0) rfl) pe_int (fun _ _ => rfl)))), ?_⟩
    exact ⟨_, rfl, a, C, dx, _, _, rfl, ha, c, na, rfl, pt, xs, _, v, rfl, rfl, SqT.of hp, hv, ret⟩
abbrev s_Kind_needs : Stmt := inClass (top 28) 3
abbrev N_Kind_needs : List Str := ["self"]
abbrev P_Kind_needs : List Str := ["self"]
theorem sc_Kind_needs : FnScope N_Kind_needs P_Kind_needs (defScope s_Kind_needs) := ⟨rfl, rfl, rfl, by decide +kernel, rfl, by decide +kernel, by decide +kernel⟩
theorem ok_Kind_needs {C f : Addr} {fd : FuncData} (D : PropAt K C "needs" "Kind.needs" s_Kind_needs P_Kind_needs f fd) (c : Cls K C) (na : NoAttr K C "parts") : FnOk P w K mg base CX0 1 f fd P_Kind_needs (sp_part C 2) := by
  refine D.fn.ok sc_Kind_needs (fun vs H Q E h => ?_) (fun cdv A outer s H vs Q E hr h => ?_)
  · obtain ⟨a, dx, pt, xs, v, rfl, _⟩ := h
    rfl
  · obtain ⟨a, dx, pt, xs, v, rfl, ha, hp, hv, ret⟩ := h
    refine ⟨_, (pss_one (ps_ret (pe_ix ix_tup (pe_fld (pv 0) rfl) pe_int (fun _ _ => rfl)))), ?_⟩
    exact ⟨_, rfl, a, C, dx, _, _, rfl, ha, c, na, rfl, pt, xs, _, v, rfl, rfl, SqT.of hp, hv, ret⟩
abbrev s_Kind_closing : Stmt := inClass (top 28) 4
abbrev N_Kind_closing : List Str := ["self"]
abbrev P_Kind_closing : List Str := ["self"]
theorem sc_Kind_closing : FnScope N_Kind_closing P_Kind_closing (defScope s_Kind_closing) := ⟨rfl, rfl, rfl, by decide +kernel, rfl, by decide +kernel, by decide +kernel⟩
theorem ok_Kind_closing {C f : Addr} {fd : FuncData} (D : PropAt K C "closing" "Kind.closing" s_Kind_closing P_Kind_closing f fd) (c : Cls K C) (na : NoAttr K C "parts") : FnOk P w K mg base CX0 1 f fd P_Kind_closing (sp_part C 3) := by
  refine D.fn.ok sc_Kind_closing (fun vs H Q E h => ?_) (fun cdv A outer s H vs Q E hr h => ?_)
  · obtain ⟨a, dx, pt, xs, v, rfl, _⟩ := h
    rfl
  · obtain ⟨a, dx, pt, xs, v, rfl, ha, hp, hv, ret⟩ := h
    refine ⟨_, (pss_one (ps_ret (pe_ix ix_tup (pe_fld (pv 0) rfl) pe_int (fun _ _ => rfl)))), ?_⟩
    exact ⟨_, rfl, a, C, dx, _, _, rfl, ha, c, na, rfl, pt, xs, _, v, rfl, rfl, SqT.of hp, hv, ret⟩
abbrev s_Kind_ends : Stmt := inClass (top 28) 5
abbrev N_Kind_ends : List Str := ["self"]
abbrev P_Kind_ends : List Str := ["self"]
theorem sc_Kind_ends : FnScope N_Kind_ends P_Kind_ends (defScope s_Kind_ends) := ⟨rfl, rfl, rfl, by decide +kernel, rfl, by decide +kernel, by decide +kernel⟩
theorem ok_Kind_ends {C f : Addr} {fd : FuncData} (D : PropAt K C "ends" "Kind.ends" s_Kind_ends P_Kind_ends f fd) (c : Cls K C) (na : NoAttr K C "parts") : FnOk P w K mg base CX0 1 f fd P_Kind_ends (sp_part C 4) := by
  refine D.fn.ok sc_Kind_ends (fun vs H Q E h => ?_) (fun cdv A outer s H vs Q E hr h => ?_)
  · obtain ⟨a, dx, pt, xs, v, rfl, _⟩ := h
    rfl
  · obtain ⟨a, dx, pt, xs, v, rfl, ha, hp, hv, ret⟩ := h
    refine ⟨_, (pss_one (ps_ret (pe_ix ix_tup (pe_fld (pv 0) rfl) pe_int (fun _ _ => rfl)))), ?_⟩
    exact ⟨_, rfl, a, C, dx, _, _, rfl, ha, c, na, rfl, pt, xs, _, v, rfl, rfl, SqT.of hp, hv, ret⟩
abbrev s_Row_outer : Stmt := inClass (top 29) 1
abbrev N_Row_outer : List Str := ["self"]
abbrev P_Row_outer : List Str := ["self"]
theorem sc_Row_outer : FnScope N_Row_outer P_Row_outer (defScope s_Row_outer) := ⟨rfl, rfl, rfl, by decide +kernel, rfl, by decide +kernel, by decide +kernel⟩
theorem ok_Row_outer {C f : Addr} {fd : FuncData} (D : PropAt K C "outer" "Row.outer" s_Row_outer P_Row_outer f fd) (c : Cls K C) (na : NoAttr K C "parts") : FnOk P w K mg base CX0 1 f fd P_Row_outer (sp_part C 0) := by
  refine D.fn.ok sc_Row_outer (fun vs H Q E h => ?_) (fun cdv A outer s H vs Q E hr h => ?_)
  · obtain ⟨a, dx, pt, xs, v, rfl, _⟩ := h
    rfl
  · obtain ⟨a, dx, pt, xs, v, rfl, ha, hp, hv, ret⟩ := h
    refine ⟨_, (pss_one (ps_ret (pe_ix ix_tup (pe_fld (pv 0) rfl) pe_int (fun _ _ => rfl)))), ?_⟩
    exact ⟨_, rfl, a, C, dx, _, _, rfl, ha, c, na, rfl, pt, xs, _, v, rfl, rfl, SqT.of hp, hv, ret⟩
abbrev s_Row_inner : Stmt := inClass (top 29) 2
abbrev N_Row_inner : List Str := ["self"]
abbrev P_Row_inner : List Str := ["self"]
theorem sc_Row_inner : FnScope N_Row_inner P_Row_inner (defScope s_Row_inner) := ⟨rfl, rfl, rfl, by decide +kernel, rfl, by decide +kernel, by decide +kernel⟩
theorem ok_Row_inner {C f : Addr} {fd : FuncData} (D : PropAt K C "inner" "Row.inner" s_Row_inner P_Row_inner f fd) (c : Cls K C) (na : NoAttr K C "parts") : FnOk P w K mg base CX0 1 f fd P_Row_inner (sp_part C 1) := by
  refine D.fn.ok sc_Row_inner (fun vs H Q E h => ?_) (fun cdv A outer s H vs Q E hr h => ?_)
  · obtain ⟨a, dx, pt, xs, v, rfl, _⟩ := h
    rfl
  · obtain ⟨a, dx, pt, xs, v, rfl, ha, hp, hv, ret⟩ := h
    refine ⟨_, (pss_one (ps_ret (pe_ix ix_tup (pe_fld (pv 0) rfl) pe_int (fun _ _ => rfl)))), ?_⟩
    exact ⟨_, rfl, a, C, dx, _, _, rfl, ha, c, na, rfl, pt, xs, _, v, rfl, rfl, SqT.of hp, hv, ret⟩
abbrev s_Row_amount : Stmt := inClass (top 29) 3
abbrev N_Row_amount : List Str := ["self"]
abbrev P_Row_amount : List Str := ["self"]
theorem sc_Row_amount : FnScope N_Row_amount P_Row_amount (defScope s_Row_amount) := ⟨rfl, rfl, rfl, by decide +kernel, rfl, by decide +kernel, by decide +kernel⟩
theorem ok_Row_amount {C f : Addr} {fd : FuncData} (D : PropAt K C "amount" "Row.amount" s_Row_amount P_Row_amount f fd) (c : Cls K C) (na : NoAttr K C "parts") : FnOk P w K mg base CX0 1 f fd P_Row_amount (sp_part C 2) := by
  refine D.fn.ok sc_Row_amount (fun vs H Q E h => ?_) (fun cdv A outer s H vs Q E hr h => ?_)
  · obtain ⟨a, dx, pt, xs, v, rfl, _⟩ := h
    rfl
  · obtain ⟨a, dx, pt, xs, v, rfl, ha, hp, hv, ret⟩ := h
    refine ⟨_, (pss_one (ps_ret (pe_ix ix_tup (pe_fld (pv 0) rfl) pe_int (fun _ _ => rfl)))), ?_⟩
    exact ⟨_, rfl, a, C, dx, _, _, rfl, ha, c, na, rfl, pt, xs, _, v, rfl, rfl, SqT.of hp, hv, ret⟩
end L

namespace Hv
open PySem L2
/-- what the text has of a class with parts -/
structure OwnTxt (K : PySem.W.Frag) (mg : Str → Option Value) (x : Str) (C : Addr) : Prop where
  mg : mg x = some (.ref C)
  c : Cls K C
  na : NoAttr K C "parts"
  ha : PySem.W.findIn K (.ref C) "__class__" = some (some (.builtin "object.__class__"))
  hn : PySem.W.specialIn K (.builtin "object.__class__") "__get__" = some (some (.builtin "getset_descriptor.__get__"))
  htk : PySem.W.takesIn K (.builtin "object.__class__") = some true
  hm : PySem.W.mroIn K C (.type "object") = some true
  k1 : PySem.W.kitOne K (.ref C) (.ref C) = some true
  kp : PySem.W.keepIn K (.ref C) = true
/-- == of a class with parts -/
def sp_part_eq (K : PySem.W.Frag) (C : Addr) : Sp := fun vs H Q _ => ∃ (a dx pt : Addr) (y : V), vs = [.ref a, y] ∧ H a = some (.ins C dx [("parts", .ref pt)]) ∧
  ((∃ (b dy qt : Addr) (d e : PyData), y = .ref b ∧ H b = some (.ins C dy [("parts", .ref qt)]) ∧ Dp K H (.ref pt) d ∧ Dp K H (.ref qt) e ∧ SeqAt.shaped d = true ∧ SeqAt.shaped e = true ∧ Q (.bl (PyData.eqv d e)) H) ∨
   ∃ t, TyX K H y t ∧ PySem.W.kitOne K t (.ref C) = some false ∧ Q (.bl false) H)
end Hv
namespace L
open PySem L2 Hv
variable {P : Program} {w : World} {K : PySem.W.Frag} {mg : Str → Option Value} {base : Heap}
abbrev s_Kind_eq : Stmt := inClass (top 28) 6
abbrev N_Kind_eq : List Str := ["self", "other"]
abbrev P_Kind_eq : List Str := ["self", "other"]
theorem sc_Kind_eq : FnScope N_Kind_eq P_Kind_eq (defScope s_Kind_eq) := ⟨rfl, rfl, rfl, by decide +kernel, rfl, by decide +kernel, by decide +kernel⟩
theorem ok_Kind_eq {C f : Addr} {fd : FuncData} (D : MethAt K C "__eq__" "Kind.__eq__" s_Kind_eq P_Kind_eq f fd) (T : Txt K mg) (TL : OwnTxt K mg "Kind" C) : FnOk P w K mg base CX0 1 f fd P_Kind_eq (sp_part_eq K C) := by
  refine D.fn.ok sc_Kind_eq (fun vs H Q E h => ?_) (fun cdv A outer s H vs Q E hr h => ?_)
  · obtain ⟨a, dx, pt, y, rfl, _⟩ := h
    rfl
  · obtain ⟨a, dx, pt, y, rfl, ha, h⟩ := h
    refine ⟨_, (pss_one (ps_ret (pe_and (pe_callB call_isi (by rfl) T.isinstance (by decide +kernel) (pa_cons (pv 1) (pa_cons (pe_glob (v := .ref C) rfl TL.mg rfl) pa_nil))) (pe_one (pe_cmpR (op_eqD hr.units) (pe_fld (pv 0) rfl) (pe_fld (pv 1) rfl) (nomark _)))))), ?_⟩
    rcases h with ⟨b, dy, qt, d, e, rfl, hb, hd, he, sd, se, ret⟩ | ⟨t, ty, k, ret⟩
    · refine ⟨_, rfl, _, _, _, _, true, rfl, .own C, .base (.ins hb TL.c TL.ha TL.hn TL.htk TL.hm), TL.k1, _, rfl, ?_⟩
      refine iteT ⟨_, rfl, a, C, dx, _, _, rfl, ha, TL.c, TL.na, rfl, _, rfl, b, C, dy, _, _, rfl, hb, TL.c, TL.na, rfl, d, e, hd, he, sd, se, ret⟩
    · exact ⟨_, rfl, _, _, _, _, false, rfl, .own C, ty, k, _, rfl, iteF ret⟩
abbrev s_Row_eq : Stmt := inClass (top 29) 4
abbrev N_Row_eq : List Str := ["self", "other"]
abbrev P_Row_eq : List Str := ["self", "other"]
theorem sc_Row_eq : FnScope N_Row_eq P_Row_eq (defScope s_Row_eq) := ⟨rfl, rfl, rfl, by decide +kernel, rfl, by decide +kernel, by decide +kernel⟩
theorem ok_Row_eq {C f : Addr} {fd : FuncData} (D : MethAt K C "__eq__" "Row.__eq__" s_Row_eq P_Row_eq f fd) (T : Txt K mg) (TL : OwnTxt K mg "Row" C) : FnOk P w K mg base CX0 1 f fd P_Row_eq (sp_part_eq K C) := by
  refine D.fn.ok sc_Row_eq (fun vs H Q E h => ?_) (fun cdv A outer s H vs Q E hr h => ?_)
  · obtain ⟨a, dx, pt, y, rfl, _⟩ := h
    rfl
  · obtain ⟨a, dx, pt, y, rfl, ha, h⟩ := h
    refine ⟨_, (pss_one (ps_ret (pe_and (pe_callB call_isi (by rfl) T.isinstance (by decide +kernel) (pa_cons (pv 1) (pa_cons (pe_glob (v := .ref C) rfl TL.mg rfl) pa_nil))) (pe_one (pe_cmpR (op_eqD hr.units) (pe_fld (pv 0) rfl) (pe_fld (pv 1) rfl) (nomark _)))))), ?_⟩
    rcases h with ⟨b, dy, qt, d, e, rfl, hb, hd, he, sd, se, ret⟩ | ⟨t, ty, k, ret⟩
    · refine ⟨_, rfl, _, _, _, _, true, rfl, .own C, .base (.ins hb TL.c TL.ha TL.hn TL.htk TL.hm), TL.k1, _, rfl, ?_⟩
      refine iteT ⟨_, rfl, a, C, dx, _, _, rfl, ha, TL.c, TL.na, rfl, _, rfl, b, C, dy, _, _, rfl, hb, TL.c, TL.na, rfl, d, e, hd, he, sd, se, ret⟩
    · exact ⟨_, rfl, _, _, _, _, false, rfl, .own C, ty, k, _, rfl, iteF ret⟩
end L

namespace Hv
open PySem L2
abbrev BLANK : Str := Str.ofString " "
/-- the word and the number of an amount -/
def sortOf (z : Str) : Option (Str × Nat) :=
  if z = Str.ofString "free" ∨ z = Str.ofString "again" then some (z, 0) else
  match numOf (Txt.partition z BLANK).2.2 3 with
  | some n => if ((Txt.partition z BLANK).1 = Str.ofString "each" ∨ (Txt.partition z BLANK).1 = Str.ofString "all") ∧ 1 ≤ n then some ((Txt.partition z BLANK).1, n) else none
  | none => none
theorem inV_two (z a b : Str) : inV (.str z) [.str a, .str b] = decide (z = a ∨ z = b) := by
  have e1 : (a = z) = (z = a) := propext ⟨Eq.symm, Eq.symm⟩
  have e2 : (b = z) = (z = b) := propext ⟨Eq.symm, Eq.symm⟩
  by_cases h1 : z = a <;> by_cases h2 : z = b <;> simp [inV, eqV, e1, e2, h1, h2]
def sp_sort_of (K : PySem.W.Frag) : Sp := fun vs H Q _ =>
  (∃ z : Str, vs = [.str z] ∧ z.length ≤ sizeLine ∧ (Txt.partition z BLANK).2.2.length ≤ sizeLine ∧ (sortOf z = none → ∀ H', Same H H' → Q .non H') ∧
    ∀ u n, sortOf z = some (u, n) → ∀ p H', H p = none → Same H H' → H' p = some (.tup [.str u, .int (n : Int)]) → Q (.ref p) H') ∨
  ∃ (v : V) (t : Value), vs = [v] ∧ TyX K H v t ∧ PySem.W.kitOne K t (.type "str") = some false ∧ Q .non H
/-- a row of these three parts -/
def RowAt (C : Addr) (H : Hp) (a : Addr) (o i m : Str) : Prop := ∃ dx pt, H a = some (.ins C dx [("parts", .ref pt)]) ∧ H pt = some (.tup [.str o, .str i, .str m])
structure RowOk (o i m : Str) : Prop where
  oOk : nameOk o = true
  ol : o.length ≤ sizeLine
  iOk : nameOk i = true
  il : i.length ≤ sizeLine
  mOk : (sortOf m).isSome = true
  ml : m.length ≤ sizeLine
  pl : (Txt.partition m BLANK).2.2.length ≤ sizeLine
def sp_row_init (C : Addr) : Sp := fun vs H Q _ => ∃ (x dx : Addr) (o i m : Str), vs = [.ref x, .str o, .str i, .str m] ∧ RowOk o i m ∧
  H x = some (.ins C dx []) ∧ H dx = some (.own x) ∧ dx ≠ x ∧ ∀ H', (∀ b o, b ≠ x → H b = some o → H' b = some o) → RowAt C H' x o i m → Q .non H'
end Hv
namespace L
open PySem L2 Hv
variable {P : Program} {w : World} {K : PySem.W.Frag} {mg : Str → Option Value} {base : Heap}
abbrev s_sort_of : Stmt := top 27
abbrev N_sort_of : List Str := ["amount", "word", "mark", "digits", "number"]
abbrev P_sort_of : List Str := ["amount"]
theorem sc_sort_of : FnScope N_sort_of P_sort_of (defScope s_sort_of) := ⟨rfl, rfl, rfl, by decide +kernel, rfl, by decide +kernel, by decide +kernel⟩
theorem ok_sort_of {f f1 : Addr} {fd fd1 : FuncData} (D : DefAt K mg "sort_of" s_sort_of P_sort_of f fd) (T : Txt K mg)
    (D_number_of : DefAt K mg "number_of" s_number_of P_number_of f1 fd1) (G_number_of : FnOk P w K mg base CX0 1 f1 fd1 P_number_of sp_number_of) : FnOk P w K mg base CX0 2 f fd P_sort_of (sp_sort_of K) := by
  refine D.fn.ok sc_sort_of (fun vs H Q E h => ?_) (fun cdv A outer s H vs Q E hr h => ?_)
  · rcases h with ⟨z, rfl, _⟩ | ⟨v, t, rfl, _⟩ <;> rfl
  · refine ⟨_, (pss_cons (ps_if (pt_not (pt_val (pe_callB call_isi (by rfl) T.isinstance (by decide +kernel) (pa_cons (pv 0) (pa_cons (pe_bltn (v := .ty "str") (u := .type "str") (by rfl) T.str (by decide +kernel) rfl) pa_nil)))))
      (pss_one (ps_ret pe_non))
      pss_nil)
      (pss_cons (ps_if (pt_cmpR op_in_seq (pv 0) (pe_tup (pa_cons pe_str (pa_cons pe_str pa_nil))) (by rfl))
      (pss_one (ps_ret (pe_tup (pa_cons (pv 0) (pa_cons pe_int pa_nil)))))
      pss_nil)
      (pss_cons (ps_asg (pe_partition (pv 0) pe_str) (pg_tup (by rfl) (pgs_cons (pg_name (i := 1) sc_sort_of.nd rfl (.inl rfl)) (pgs_cons (pg_name (i := 2) sc_sort_of.nd rfl (.inl rfl)) (pgs_cons (pg_name (i := 3) sc_sort_of.nd rfl (.inl rfl)) pgs_nil)))))
      (pss_cons (ps_asg (pe_call G_number_of (hr.mono (by decide)) rfl D_number_of.mg D_number_of.fn.kp D_number_of.bd .nil pass0 (pa_cons (pv 3) (pa_cons (pe_glob (v := .int 3) rfl T.cMOST_TIMES.choose_spec ⟨_, rfl⟩) pa_nil))) (pg_name (i := 4) sc_sort_of.nd rfl (.inl rfl)))
      (pss_one (ps_ret (pe_ifExp (PW.pt (pw_or (pt_cmpR op_notIn_seq (pv 1) (pe_tup (pa_cons pe_str (pa_cons pe_str pa_nil))) (by rfl)) (pw_or (pt_cmpR op_isN (pv 4) pe_non (nomark _)) (pw_or1 (pt_cmpR op_lt (pv 4) pe_int (nomark _)))))) pe_non (pe_tup (pa_cons (pv 1) (pa_cons (pv 4) pa_nil)))))))))), ?_⟩
    rcases h with ⟨z, rfl, hz, hp, rn, rs⟩ | ⟨v, t, rfl, ty, kit, ret⟩
    · refine ⟨_, rfl, _, _, _, _, _, rfl, .ty _, .base (.str z), kit_ty (r := true) (by decide +kernel), _, rfl, ?_⟩
      refine ⟨_, rfl, by decide, fun t ht => ⟨_, _, rfl, .inr (SqT.of upd_same), rfl, rfl, _, rfl, ?_⟩⟩
      rw [inV_two]
      by_cases c : z = Str.ofString "free" ∨ z = Str.ofString "again"
      · refine ifT c ⟨_, rfl, by show 2 ≤ sizeLine; decide, fun p hp0 => ?_⟩
        exact rs z 0 (by unfold sortOf; rw [if_pos c]) p _ ((same_new ht).free hp0) ((same_new ht).trans (same_new hp0)) upd_same
      · refine ifF c ?_
        have un : sortOf z = match numOf (Txt.partition z BLANK).2.2 3 with
            | some n => if ((Txt.partition z BLANK).1 = Str.ofString "each" ∨ (Txt.partition z BLANK).1 = Str.ofString "all") ∧ 1 ≤ n then some ((Txt.partition z BLANK).1, n) else none
            | none => none := by
          unfold sortOf
          rw [if_neg c]
          try rfl
        refine ⟨_, rfl, ⟨_, rfl⟩, _, _, rfl, rfl, by decide, hz, fun p hp0 => ?_⟩
        have s1 := (same_new (o := .tup [.str (Str.ofString "free"), .str (Str.ofString "again")]) ht).trans (same_new (o := .tup [.str (Txt.partition z BLANK).1, .str (Txt.partition z BLANK).2.1, .str (Txt.partition z BLANK).2.2]) hp0)
        refine ⟨p, _, rfl, SqT.of upd_same, rfl, _, _, rfl, _, _, rfl, _, _, rfl, rfl, ?_⟩
        refine ⟨_, rfl, _, 3, rfl, hp, by decide, fun H1 s2 => ?_⟩
        have s3 := s1.trans s2
        refine ⟨_, rfl, by decide, fun t2 ht2 => ⟨_, _, rfl, .inr (SqT.of upd_same), rfl, rfl, _, rfl, ?_⟩⟩
        have s4 := s3.trans (same_new (o := .tup [.str (Str.ofString "each"), .str (Str.ofString "all")]) ht2)
        show (if (!inV (.str (Txt.partition z BLANK).1) [.str (Str.ofString "each"), .str (Str.ofString "all")]) = true then _ else _)
        rw [inV_two]
        by_cases c1 : (Txt.partition z BLANK).1 = Str.ofString "each" ∨ (Txt.partition z BLANK).1 = Str.ofString "all"
        · refine ifNF c1 ?_
          cases en : numOf (Txt.partition z BLANK).2.2 3 with
          | none =>
            rw [en] at un
            exact ⟨_, rfl, rfl, _, rfl, ifT rfl (rn un _ s4)⟩
          | some n =>
            rw [en] at un
            refine ⟨_, rfl, rfl, _, rfl, ifF (by intro q; cases q) ⟨_, rfl, _, _, rfl, rfl, _, rfl, ?_⟩⟩
            by_cases c2 : 1 ≤ n
            · refine ifF (by omega) ⟨_, rfl, _, rfl, by show 2 ≤ sizeLine; decide, fun p2 hp2 => ?_⟩
              dsimp only at un
              rw [if_pos ⟨c1, c2⟩] at un
              exact rs _ n un p2 _ (s4.free hp2) (s4.trans (same_new hp2)) upd_same
            · dsimp only at un
              rw [if_neg (fun q => c2 q.2)] at un
              exact ifT (by omega) (rn un _ s4)
        · refine ifNT c1 (rn ?_ _ s4)
          rw [un]
          cases numOf (Txt.partition z BLANK).2.2 3 with
          | none => rfl
          | some n => exact if_neg fun q => c1 q.1
    · exact ⟨_, rfl, _, _, _, _, _, rfl, .ty _, ty, kit, _, rfl, ret⟩
abbrev s_Row_init : Stmt := inClass (top 29) 0
abbrev N_Row_init : List Str := ["self", "outer", "inner", "amount"]
abbrev P_Row_init : List Str := ["self", "outer", "inner", "amount"]
theorem sc_Row_init : FnScope N_Row_init P_Row_init (defScope s_Row_init) := ⟨rfl, rfl, rfl, by decide +kernel, rfl, by decide +kernel, by decide +kernel⟩
theorem ok_Row_init {C f f1 f2 : Addr} {fd fd1 fd2 : FuncData} (D : MethAt K C "__init__" "Row.__init__" s_Row_init P_Row_init f fd) (T : Txt K mg) (c : Cls K C) (na : NoAttr K C "parts")
    (D_is_name : DefAt K mg "is_name" s_is_name P_is_name f1 fd1) (G_is_name : FnOk P w K mg base CX0 1 f1 fd1 P_is_name (sp_is_name K))
    (D_sort_of : DefAt K mg "sort_of" s_sort_of P_sort_of f2 fd2) (G_sort_of : FnOk P w K mg base CX0 2 f2 fd2 P_sort_of (sp_sort_of K)) :
    FnOk P w K mg base CX0 3 f fd P_Row_init (sp_row_init C) := by
  refine D.fn.ok sc_Row_init (fun vs H Q E h => ?_) (fun cdv A outer s H vs Q E hr h => ?_)
  · obtain ⟨x, dx, o, i, m, rfl, _⟩ := h
    rfl
  · obtain ⟨x, dx, o, i, m, rfl, ok, hx, hd, nd, ret⟩ := h
    refine ⟨_, (pss_cons (ps_if (pt_not (pt_val (pe_call G_is_name (hr.mono (by decide)) rfl D_is_name.mg D_is_name.fn.kp D_is_name.bd .nil pass0 (pa_cons (pv 1) pa_nil))))
      (pss_one ps_never)
      pss_nil)
      (pss_cons (ps_if (pt_not (pt_val (pe_call G_is_name (hr.mono (by decide)) rfl D_is_name.mg D_is_name.fn.kp D_is_name.bd .nil pass0 (pa_cons (pv 2) pa_nil))))
      (pss_one ps_never)
      pss_nil)
      (pss_cons (ps_if (pt_cmpR op_isN (pe_call G_sort_of (hr.mono (by decide)) rfl D_sort_of.mg D_sort_of.fn.kp D_sort_of.bd .nil pass0 (pa_cons (pv 3) pa_nil)) pe_non (nomark _))
      (pss_one ps_never)
      pss_nil)
      (pss_one (ps_fld (pv 0) (pe_tup (pa_cons (pv 1) (pa_cons (pv 2) (pa_cons (pv 3) pa_nil)))) rfl))))), ?_⟩
    refine join_ifs (fun b H' => b = false ∧ Same H H') (fun Q' fin => ?_) ?_
    · refine ⟨_, rfl, .inl ⟨o, rfl, ok.ol, fun H1 s1 => ?_⟩⟩
      rw [ok.oOk]
      exact ⟨_, rfl, fin _ _ ⟨rfl, s1⟩⟩
    rintro _ H1 ⟨rfl, s1⟩
    dsimp only [tNext]
    refine join_ifs (fun b H' => b = false ∧ Same H H') (fun Q' fin => ?_) ?_
    · refine ⟨_, rfl, .inl ⟨i, rfl, ok.il, fun H2 s2 => ?_⟩⟩
      rw [ok.iOk]
      exact ⟨_, rfl, fin _ _ ⟨rfl, s1.trans s2⟩⟩
    rintro _ H2 ⟨rfl, s2⟩
    dsimp only [tNext]
    refine join_ifs (fun b H' => b = false ∧ Same H H') (fun Q' fin => ?_) ?_
    · refine ⟨_, rfl, .inl ⟨m, rfl, ok.ml, ok.pl, (fun e => absurd ok.mOk (by rw [e]; decide)), fun u n e p H3 hp s3 h3 => ?_⟩⟩
      exact ⟨rfl, _, rfl, fin _ _ ⟨rfl, s2.trans s3⟩⟩
    rintro _ H5 ⟨rfl, s5⟩
    dsimp only [tNext]
    refine ⟨_, rfl, _, rfl, _, rfl, by show 3 ≤ sizeLine; decide, fun t ht => ?_⟩
    have tx : t ≠ x := (ne_of_none (s5 _ _ hx) ht).symm
    refine ⟨_, rfl, x, C, dx, [], rfl, same_new ht _ _ (s5 _ _ hx), c, na, by decide, ?_⟩
    refine ret _ (fun b o n e => ?_) ⟨dx, t, upd_same, by rw [upd_ne tx, upd_same]⟩
    rw [upd_ne n]
    exact same_new ht _ _ (s5 _ _ e)
end L

namespace L
open PySem L2 Hv
variable {K : PySem.W.Frag}
def kwsK : List (Str × V) := [("talks", .int 0), ("needs", .int 1), ("closing", .non), ("ends", .non)]
abbrev FunK (K : PySem.W.Frag) (f : Addr) (fd : FuncData) : Prop := FunD K "__init__" "Kind.__init__" (defArgs s_Kind_init) (defBody s_Kind_init) (defScope s_Kind_init) [] kwsK f fd
def g_all {α : Type} (us mv ws : List α) : List α := match mv, ws with
  | [], [z0, z1, z2, z3, z4] => us ++ [z2, z4, z3, z1, z0]
  | _, _ => []
theorem kb_all {f : Addr} {fd : FuncData} (F : FunK K f fd) : ∃ mv : List Value, KBn K fd P_Kind_init 1 ["ends", "closing", "name", "needs", "talks"] (fun us ws => g_all us mv ws) (fun vs zs => g_all vs [] zs) := by
  refine F.kbinds0 1 ["ends", "closing", "name", "needs", "talks"] [] (fun {α} => g_all (α := α)) (by simp [kwsK]) (by simp [kwsK]) ?_ ?_
  · intro vs mz zs us mv ws r1 r2 r3
    cases r2 with
    | cons _ _ => first | exact .nil | (cases r3 <;> exact .nil)
    | nil =>
      cases r3 with
      | nil => exact .nil
      | cons b0 br0 =>
        cases br0 with
        | nil => exact .nil
        | cons b1 br1 =>
          cases br1 with
          | nil => exact .nil
          | cons b2 br2 =>
            cases br2 with
            | nil => exact .nil
            | cons b3 br3 =>
              cases br3 with
              | nil => exact .nil
              | cons b4 br4 =>
                cases br4 with
                | cons _ _ => first | exact .nil | (cases r3 <;> exact .nil)
                | nil =>
                  exact r1.append (.cons b2 (.cons b4 (.cons b3 (.cons b1 (.cons b0 .nil)))))
  · intro D doc pm an cdv ct us mv ws h1 h2 h3
    match us, mv, ws, h1, h2, h3 with
    | [_], [], [_, _, _, _, _], _, _, _ => exact rfl
def g_t {α : Type} (us mv ws : List α) : List α := match mv, ws with
  | [m0, m1, m2], [z0] => us ++ [z0, m0, m1, m2]
  | _, _ => []
theorem kb_t {f : Addr} {fd : FuncData} (F : FunK K f fd) : ∃ mv : List Value, KBn K fd P_Kind_init 2 ["talks"] (fun us ws => g_t us mv ws) (fun vs zs => g_t vs [(V.int 1), (V.non), (V.non)] zs) := by
  refine F.kbinds0 2 ["talks"] [("needs", .int 1), ("closing", .non), ("ends", .non)] (fun {α} => g_t (α := α)) (by simp [kwsK]) (by simp [kwsK]) ?_ ?_
  · intro vs mz zs us mv ws r1 r2 r3
    cases r2 with
    | nil => exact .nil
    | cons a0 ar0 =>
      cases ar0 with
      | nil => exact .nil
      | cons a1 ar1 =>
        cases ar1 with
        | nil => exact .nil
        | cons a2 ar2 =>
          cases ar2 with
          | cons _ _ => first | exact .nil | (cases r3 <;> exact .nil)
          | nil =>
            cases r3 with
            | nil => exact .nil
            | cons b0 br0 =>
              cases br0 with
              | cons _ _ => first | exact .nil | (cases r3 <;> exact .nil)
              | nil =>
                exact r1.append (.cons b0 (.cons a0 (.cons a1 (.cons a2 .nil))))
  · intro D doc pm an cdv ct us mv ws h1 h2 h3
    match us, mv, ws, h1, h2, h3 with
    | [_, _], [_, _, _], [_], _, _, _ => exact ⟨_, _, _, _, _, _, rfl, rfl, ⟨_, _, _, _, _, _, rfl, rfl, ⟨_, _, _, _, _, _, rfl, rfl, rfl⟩⟩⟩
def g_n {α : Type} (us mv ws : List α) : List α := match mv, ws with
  | [m0, m1, m2], [z0] => us ++ [m0, z0, m1, m2]
  | _, _ => []
theorem kb_n {f : Addr} {fd : FuncData} (F : FunK K f fd) : ∃ mv : List Value, KBn K fd P_Kind_init 2 ["needs"] (fun us ws => g_n us mv ws) (fun vs zs => g_n vs [(V.int 0), (V.non), (V.non)] zs) := by
  refine F.kbinds0 2 ["needs"] [("talks", .int 0), ("closing", .non), ("ends", .non)] (fun {α} => g_n (α := α)) (by simp [kwsK]) (by simp [kwsK]) ?_ ?_
  · intro vs mz zs us mv ws r1 r2 r3
    cases r2 with
    | nil => exact .nil
    | cons a0 ar0 =>
      cases ar0 with
      | nil => exact .nil
      | cons a1 ar1 =>
        cases ar1 with
        | nil => exact .nil
        | cons a2 ar2 =>
          cases ar2 with
          | cons _ _ => first | exact .nil | (cases r3 <;> exact .nil)
          | nil =>
            cases r3 with
            | nil => exact .nil
            | cons b0 br0 =>
              cases br0 with
              | cons _ _ => first | exact .nil | (cases r3 <;> exact .nil)
              | nil =>
                exact r1.append (.cons a0 (.cons b0 (.cons a1 (.cons a2 .nil))))
  · intro D doc pm an cdv ct us mv ws h1 h2 h3
    match us, mv, ws, h1, h2, h3 with
    | [_, _], [_, _, _], [_], _, _, _ => exact ⟨_, _, _, _, _, _, rfl, rfl, ⟨_, _, _, _, _, _, rfl, rfl, ⟨_, _, _, _, _, _, rfl, rfl, rfl⟩⟩⟩
def g_e {α : Type} (us mv ws : List α) : List α := match mv, ws with
  | [m0, m1, m2], [z0] => us ++ [m0, m1, m2, z0]
  | _, _ => []
theorem kb_e {f : Addr} {fd : FuncData} (F : FunK K f fd) : ∃ mv : List Value, KBn K fd P_Kind_init 2 ["ends"] (fun us ws => g_e us mv ws) (fun vs zs => g_e vs [(V.int 0), (V.int 1), (V.non)] zs) := by
  refine F.kbinds0 2 ["ends"] [("talks", .int 0), ("needs", .int 1), ("closing", .non)] (fun {α} => g_e (α := α)) (by simp [kwsK]) (by simp [kwsK]) ?_ ?_
  · intro vs mz zs us mv ws r1 r2 r3
    cases r2 with
    | nil => exact .nil
    | cons a0 ar0 =>
      cases ar0 with
      | nil => exact .nil
      | cons a1 ar1 =>
        cases ar1 with
        | nil => exact .nil
        | cons a2 ar2 =>
          cases ar2 with
          | cons _ _ => first | exact .nil | (cases r3 <;> exact .nil)
          | nil =>
            cases r3 with
            | nil => exact .nil
            | cons b0 br0 =>
              cases br0 with
              | cons _ _ => first | exact .nil | (cases r3 <;> exact .nil)
              | nil =>
                exact r1.append (.cons a0 (.cons a1 (.cons a2 (.cons b0 .nil))))
  · intro D doc pm an cdv ct us mv ws h1 h2 h3
    match us, mv, ws, h1, h2, h3 with
    | [_, _], [_, _, _], [_], _, _, _ => exact ⟨_, _, _, _, _, _, rfl, rfl, ⟨_, _, _, _, _, _, rfl, rfl, ⟨_, _, _, _, _, _, rfl, rfl, rfl⟩⟩⟩
def g_tc {α : Type} (us mv ws : List α) : List α := match mv, ws with
  | [m0, m1], [z0, z1] => us ++ [z0, m0, z1, m1]
  | _, _ => []
theorem kb_tc {f : Addr} {fd : FuncData} (F : FunK K f fd) : ∃ mv : List Value, KBn K fd P_Kind_init 2 ["talks", "closing"] (fun us ws => g_tc us mv ws) (fun vs zs => g_tc vs [(V.int 1), (V.non)] zs) := by
  refine F.kbinds0 2 ["talks", "closing"] [("needs", .int 1), ("ends", .non)] (fun {α} => g_tc (α := α)) (by simp [kwsK]) (by simp [kwsK]) ?_ ?_
  · intro vs mz zs us mv ws r1 r2 r3
    cases r2 with
    | nil => exact .nil
    | cons a0 ar0 =>
      cases ar0 with
      | nil => exact .nil
      | cons a1 ar1 =>
        cases ar1 with
        | cons _ _ => first | exact .nil | (cases r3 <;> exact .nil)
        | nil =>
          cases r3 with
          | nil => exact .nil
          | cons b0 br0 =>
            cases br0 with
            | nil => exact .nil
            | cons b1 br1 =>
              cases br1 with
              | cons _ _ => first | exact .nil | (cases r3 <;> exact .nil)
              | nil =>
                exact r1.append (.cons b0 (.cons a0 (.cons b1 (.cons a1 .nil))))
  · intro D doc pm an cdv ct us mv ws h1 h2 h3
    match us, mv, ws, h1, h2, h3 with
    | [_, _], [_, _], [_, _], _, _, _ => exact ⟨_, _, _, _, _, _, rfl, rfl, ⟨_, _, _, _, _, _, rfl, rfl, rfl⟩⟩
def g_cetn {α : Type} (us mv ws : List α) : List α := match mv, ws with
  | [], [z0, z1, z2, z3] => us ++ [z2, z3, z0, z1]
  | _, _ => []
theorem kb_cetn {f : Addr} {fd : FuncData} (F : FunK K f fd) : ∃ mv : List Value, KBn K fd P_Kind_init 2 ["closing", "ends", "talks", "needs"] (fun us ws => g_cetn us mv ws) (fun vs zs => g_cetn vs [] zs) := by
  refine F.kbinds0 2 ["closing", "ends", "talks", "needs"] [] (fun {α} => g_cetn (α := α)) (by simp [kwsK]) (by simp [kwsK]) ?_ ?_
  · intro vs mz zs us mv ws r1 r2 r3
    cases r2 with
    | cons _ _ => first | exact .nil | (cases r3 <;> exact .nil)
    | nil =>
      cases r3 with
      | nil => exact .nil
      | cons b0 br0 =>
        cases br0 with
        | nil => exact .nil
        | cons b1 br1 =>
          cases br1 with
          | nil => exact .nil
          | cons b2 br2 =>
            cases br2 with
            | nil => exact .nil
            | cons b3 br3 =>
              cases br3 with
              | cons _ _ => first | exact .nil | (cases r3 <;> exact .nil)
              | nil =>
                exact r1.append (.cons b2 (.cons b3 (.cons b0 (.cons b1 .nil))))
  · intro D doc pm an cdv ct us mv ws h1 h2 h3
    match us, mv, ws, h1, h2, h3 with
    | [_, _], [], [_, _, _, _], _, _, _ => exact rfl
theorem kb_none {f : Addr} {fd : FuncData} (F : FunK K f fd) : ∃ ds, Vals [.int 0, .int 1, .non, .non] ds ∧ Binds K fd P_Kind_init ds := by
  refine F.binds0 2 (by simp [kwsK]) rfl ?_
  intro D doc pm an cdv ct us ks h1 h2
  match us, ks, h1, h2 with
  | [_, _], [_, _, _, _], _, _ => exact ⟨_, _, _, _, _, _, rfl, rfl, ⟨_, _, _, _, _, _, rfl, rfl, ⟨_, _, _, _, _, _, rfl, rfl, ⟨_, _, _, _, _, _, rfl, rfl, rfl⟩⟩⟩⟩
end L

namespace Hv
open PySem L2
/-- data of depth m and bulk n at most, that can be compared and shown -/
structure Fit (d : PyData) (m n : Nat) : Prop where
  lay : d.canLay0 = true
  sh : d.showable = true
  dp : d.depth ≤ m
  lv : d.leavesShort 2000 = true
  bk : d.bulk ≤ n
structure FitAll (ds : List PyData) (m n : Nat) : Prop where
  lay : PyData.canLayAll0 ds = true
  sh : PyData.showableAll ds = true
  dp : PyData.depthAll ds ≤ m
  lv : PyData.leavesShortAll 2000 ds = true
  bk : PyData.bulkAll ds ≤ n
theorem Fit.none {m n : Nat} : Fit .none m n := ⟨rfl, rfl, Nat.zero_le _, rfl, Nat.zero_le _⟩
theorem Fit.bool {b : Bool} {m n : Nat} : Fit (.bool b) m n := ⟨rfl, rfl, Nat.zero_le _, rfl, Nat.zero_le _⟩
theorem Fit.int {i : Int} {m n : Nat} (h : i.natAbs.log2 < 1920) : Fit (.int i) m n := by
  refine ⟨rfl, decide_eq_true h, Nat.zero_le _, decide_eq_true ?_, Nat.zero_le _⟩
  have := PyProof.Rows.int_text_len_1921 h
  show (PySem.Str.ofString (toString i)).length ≤ 2000
  omega
theorem small_log {i : Int} (h0 : -1000000 ≤ i) (h1 : i ≤ 1000000) : i.natAbs.log2 < 1920 := by
  by_cases h : i.natAbs = 0
  · rw [h]
    decide
  · refine Nat.lt_of_lt_of_le ((Nat.log2_lt h).mpr (show i.natAbs < 2 ^ 20 by omega)) (by decide)
theorem Fit.str {z : Str} {m n : Nat} (h : PyData.strOk z = true) (hl : z.length ≤ n) : Fit (.str z) m n := by
  refine ⟨h, rfl, Nat.zero_le _, ?_, hl⟩
  show (z.cps.toList.all fun c => decide (c < 16 ^ 8)) = true
  rw [List.all_eq_true]
  intro c hc
  unfold PyData.strOk at h
  rw [Array.all_eq_true'] at h
  have := of_decide_eq_true (h c (by simpa using hc))
  exact decide_eq_true (by omega)
theorem FitAll.nil {m n : Nat} : FitAll [] m n := ⟨rfl, rfl, Nat.zero_le _, rfl, Nat.zero_le _⟩
theorem FitAll.cons {d : PyData} {ds : List PyData} {m a b : Nat} (h : Fit d m a) (t : FitAll ds m b) : FitAll (d :: ds) m (a + 1 + b) := by
  have h1 := h.dp
  have h2 := t.dp
  have h3 := h.bk
  have h4 := t.bk
  refine ⟨?_, ?_, ?_, ?_, ?_⟩
  · show (PyData.canLay0 d && PyData.canLayAll0 ds) = true
    rw [h.lay, t.lay]; rfl
  · show (PyData.showable d && PyData.showableAll ds) = true
    rw [h.sh, t.sh]; rfl
  · show max (PyData.depth d) (PyData.depthAll ds) ≤ m
    omega
  · show (PyData.leavesShort 2000 d && PyData.leavesShortAll 2000 ds) = true
    rw [h.lv, t.lv]; rfl
  · show PyData.bulk d + 1 + PyData.bulkAll ds ≤ a + 1 + b
    omega
theorem Fit.list {ds : List PyData} {m n : Nat} (h : FitAll ds m n) : Fit (.list ds) (m + 1) n := by
  refine ⟨h.lay, h.sh, ?_, h.lv, h.bk⟩
  have := h.dp
  show PyData.depthAll ds + 1 ≤ m + 1
  omega
theorem Fit.tuple {ds : List PyData} {m n : Nat} (h : FitAll ds m n) : Fit (.tuple ds) (m + 1) n := by
  refine ⟨h.lay, h.sh, ?_, h.lv, h.bk⟩
  have := h.dp
  show PyData.depthAll ds + 1 ≤ m + 1
  omega
theorem Fit.mono {d : PyData} {m n m' n' : Nat} (h : Fit d m n) (a : m ≤ m') (b : n ≤ n') : Fit d m' n' := ⟨h.lay, h.sh, Nat.le_trans h.dp a, h.lv, Nat.le_trans h.bk b⟩
theorem Fit.shaped {d : PyData} {m n : Nat} (h : Fit d m n) (hm : m ≤ 60) : SeqAt.shaped d = true := by
  unfold SeqAt.shaped
  rw [h.lay, decide_eq_true (show d.depth ≤ 64 by have := h.dp; omega)]
  rfl
theorem Fit.noDict {d : PyData} {m n : Nat} (h : Fit d m n) : d.hasDict = false := PyData.hasDict_of_canLay d h.lay
theorem Fit.line {d : PyData} {m n : Nat} (h : Fit d m n) (hn : n ≤ 5000) : d.shown.length ≤ sizeLine := by
  have h1 := PyData.shown_le_bulk 2000 (by decide) d h.lv
  have h2 : 2002 * d.bulk ≤ 2002 * 5000 := Nat.mul_le_mul_left _ (Nat.le_trans h.bk hn)
  have h3 : 2002 * 5000 + 2000 ≤ sizeLine := by decide
  omega
theorem Fit.eqv {d : PyData} {m n : Nat} (h : Fit d m n) : PyData.eqv d d = true := SeqAt.eqv_refl d h.lay
/-- what repr asks -/
theorem Fit.repr {d : PyData} {m n : Nat} {K : PySem.W.Frag} {H : Hp} {v : V} {Q : VK} (h : Fit d m n) (hv : Dp K H v d) (hm : m ≤ 60) (hn : n ≤ 5000) (q : Q (.str d.shown) H) : rRepr K [v] H Q :=
  rd_repr hv h.sh h.noDict (Nat.le_trans h.dp hm) (h.line hn) q
end Hv

namespace Hv
open PySem L2
theorem strOk_iff {z : Str} : PyData.strOk z = true ↔ ∀ c ∈ z.cps.toList, c < 0x110000 := by
  unfold PyData.strOk
  rw [Array.all_eq_true']
  constructor
  · intro h c hc
    exact of_decide_eq_true (h c (by simpa using hc))
  · intro h c hc
    exact decide_eq_true (h c (by simpa using hc))
theorem strOk_app {a b : Str} (ha : PyData.strOk a = true) (hb : PyData.strOk b = true) : PyData.strOk (a ++ b) = true := by
  rw [strOk_iff] at *
  intro c hc
  have e : (a ++ b).cps.toList = a.cps.toList ++ b.cps.toList := by
    show (a.cps ++ b.cps).toList = _
    simp
  rw [e] at hc
  rcases List.mem_append.mp hc with q | q
  · exact ha c q
  · exact hb c q
theorem char_small (c : Char) : c.toNat < 0x110000 := by
  have := c.valid
  rcases this with h | ⟨_, h⟩
  · exact Nat.lt_trans h (by decide)
  · exact h
theorem strOk_of (s : String) : PyData.strOk (Str.ofString s) = true := by
  rw [strOk_iff, Str.ofString_eq_toList]
  intro c hc
  simp only [List.mem_map] at hc
  obtain ⟨d, _, rfl⟩ := hc
  exact char_small d
theorem strOk_join {sep : Str} (hs : PyData.strOk sep = true) : ∀ {ts : List Str}, (∀ t ∈ ts, PyData.strOk t = true) → PyData.strOk (Str.join sep ts) = true
  | [], _ => show PyData.strOk Str.empty = true by decide +kernel
  | [x], h => h x (by simp)
  | x :: y :: r, h => by
    show PyData.strOk (x ++ sep ++ Str.join sep (y :: r)) = true
    exact strOk_app (strOk_app (h x (by simp)) hs) (strOk_join hs fun t ht => h t (by simp at ht ⊢; exact .inr ht))
theorem strOk_from : ∀ (ts : List Str) (k : Nat) (acc : Str), PyData.strOk acc = true → (∀ t ∈ ts, PyData.strOk t = true) → PyData.strOk (textFrom k acc ts) = true
  | [], _, _, h, _ => h
  | t :: ts, k, acc, h, ht => by
    show PyData.strOk (textFrom (k + 1) (acc ++ (if k > 0 then ", " else "" : String) ++ t) ts) = true
    exact strOk_from ts (k + 1) _ (strOk_app (strOk_app h (strOk_of _)) (ht t (by simp))) fun u hu => ht u (by simp [hu])
theorem hex_small {c d : Nat} (h : d ∈ (Nat.toDigits 16 c).map Char.toNat) : d < 0x110000 := by
  simp only [List.mem_map] at h
  obtain ⟨x, _, rfl⟩ := h
  exact char_small x
theorem reprChar_small {q c d : Nat} (hq : q < 0x110000) (hc : c < 0x110000) (h : d ∈ Builtin.Str.reprChar q c) : d < 0x110000 := by
  unfold Builtin.Str.reprChar at h
  have hx : ∀ w d, d ∈ List.replicate w 48 ++ (Nat.toDigits 16 c).map Char.toNat → d < 0x110000 := fun w d h => by
    rcases List.mem_append.mp h with h | h
    · rw [List.eq_of_mem_replicate h]; decide
    · exact hex_small h
  dsimp only at h
  repeat' split at h
  all_goals first
    | (simp only [List.mem_cons, List.not_mem_nil, or_false] at h; omega)
    | (simp only [List.cons_append, List.nil_append, List.mem_cons] at h
       rcases h with h | h | h
       · omega
       · omega
       · exact hx _ _ h)
theorem quote_small (x : Str) : reprQuote x < 0x110000 := by
  unfold reprQuote
  split <;> decide
theorem strOk_repr {x : Str} (h : PyData.strOk x = true) : PyData.strOk (reprText x) = true := by
  rw [strOk_iff] at *
  have go : ∀ (l : List Nat) (acc : Array Nat), (∀ c ∈ l, c < 0x110000) → (∀ c ∈ acc.toList, c < 0x110000) → ∀ c ∈ (l.foldl (fun out c => out ++ (Builtin.Str.reprChar (reprQuote x) c).toArray) acc).toList, c < 0x110000 := by
    intro l
    induction l with
    | nil => intro acc _ h; exact h
    | cons d r ih =>
      intro acc h1 h2
      rw [List.foldl_cons]
      refine ih _ (fun c hc => h1 c (by simp [hc])) fun c hc => ?_
      rw [Array.toList_append] at hc
      rcases List.mem_append.mp hc with q | q
      · exact h2 c q
      · exact reprChar_small (quote_small x) (h1 d (by simp)) (by simpa using q)
  intro c hc
  unfold reprText at hc
  rw [Array.toList_push] at hc
  rcases List.mem_append.mp hc with q | q
  · rw [← Array.foldl_toList] at q
    exact go _ _ h (fun c hc => by simp at hc; rw [hc]; exact quote_small x) c q
  · simp at q
    rw [q]
    exact quote_small x
mutual
theorem shown_ok : ∀ d : PyData, d.canLay0 = true → PyData.strOk d.shown = true
  | .none, _ => by simp only [PyData.shown]; exact strOk_of _
  | .bool b, _ => by cases b <;> decide +kernel
  | .int i, _ => by simp only [PyData.shown]; exact strOk_of _
  | .str x, h => by simp only [PyData.shown]; exact strOk_repr (by simpa only [PyData.canLay0] using h)
  | .list xs, h => by
    simp only [PyData.shown]
    exact strOk_app (strOk_from _ _ _ (strOk_of _) (shown_okAll xs (by simpa only [PyData.canLay0] using h))) (strOk_of _)
  | .tuple xs, h => by
    simp only [PyData.shown]
    exact strOk_app (strOk_app (strOk_of _) (strOk_join (strOk_of _) (shown_okAll xs (by simpa only [PyData.canLay0] using h)))) (strOk_of _)
  | .dict _, h => by simp only [PyData.canLay0] at h; exact nomatch h
theorem shown_okAll : ∀ ds : List PyData, PyData.canLayAll0 ds = true → ∀ t ∈ PyData.shownAll ds, PyData.strOk t = true
  | [], _ => by intro t ht; simp [PyData.shownAll] at ht
  | x :: xs, h => by
    have h' : x.canLay0 = true ∧ PyData.canLayAll0 xs = true := by simpa only [PyData.canLayAll0, Bool.and_eq_true] using h
    intro t ht
    simp only [PyData.shownAll, List.mem_cons] at ht
    rcases ht with rfl | ht
    · exact shown_ok x h'.1
    · exact shown_okAll xs h'.2 t ht
end
end Hv

namespace Hv
open PySem L2
/-- an if whose test is false -/
theorem join_no {tt : TT} {t v : TS} {D : Ends} {σ : L2.St} {H : Hp} (S : Hp → Prop) (h : ∀ Q' : Bool → Hp → Prop, (∀ b H', b = false → S H' → Q' b H') → tt σ H Q') (k : ∀ H', S H' → v D σ H') : tSeq (tIfS tt t tNext) v D σ H :=
  h (fun b H' => if b = true then t { D with nx := v D } σ H' else tNext { D with nx := v D } σ H') (by
    rintro _ H' rfl hs
    exact k H' hs)
end Hv

namespace Hv
open PySem L2
abbrev SIGNS : Str := Str.ofString "abcdefghijklmnopqrstuvwxyz0123456789"
theorem signs_let : ∀ j < 26, ∃ c, SIGNS.cps.toList[j]? = some c ∧ c ∈ LETS.cps.toList := by decide +kernel
theorem signs_ok : ∀ j < 36, ∃ c, SIGNS.cps.toList[j]? = some c ∧ signOk c = true := by decide +kernel
theorem atI_nat {α : Type} {xs : List α} {r : Int} {c : α} (h0 : 0 ≤ r) (h : xs[r.toNat]? = some c) : atI xs r = some c := by
  have hl : r.toNat < xs.length := by
    rcases Nat.lt_or_ge r.toNat xs.length with q | q
    · exact q
    · rw [List.getElem?_eq_none q] at h
      cases h
  unfold atI ixN
  rw [if_pos h0, if_pos (by omega)]
  exact h
/-- the beginning of a name -/
def Tag (z : Str) (n : Nat) : Prop := z.length = n ∧ ∃ c cs, z.cps.toList = c :: cs ∧ c ∈ LETS.cps.toList ∧ (c :: cs).all signOk = true
theorem tag_one {c : Nat} (h : c ∈ LETS.cps.toList) : Tag ⟨#[c]⟩ 1 := by
  refine ⟨rfl, c, [], rfl, h, ?_⟩
  have : signOk c = true := by
    unfold signOk
    rw [decide_eq_true h]
    rfl
  simp [this]
theorem app_cps (a b : Str) : (a ++ b).cps.toList = a.cps.toList ++ b.cps.toList := by
  show (a.cps ++ b.cps).toList = _
  simp
theorem Tag.more {z : Str} {n c : Nat} (h : Tag z n) (hc : signOk c = true) : Tag (z ++ ⟨#[c]⟩) (n + 1) := by
  obtain ⟨h1, d, cs, h2, h3, h4⟩ := h
  refine ⟨by rw [Str.length_append, h1]; rfl, d, cs ++ [c], by rw [app_cps, h2]; rfl, h3, ?_⟩
  rw [← List.cons_append, List.all_append, h4]
  simp [hc]
theorem Tag.ok {z : Str} {n : Nat} (h : Tag z n) (hn : n ≤ 8) : nameOk z = true := by
  obtain ⟨h1, d, cs, h2, h3, h4⟩ := h
  unfold nameOk
  rw [h2]
  dsimp only
  rw [decide_eq_true (show z.length ≤ 8 by omega), decide_eq_true h3, h4]
  rfl
def sp_tag : Sp := fun vs H Q _ => ∃ (b : Addr) (k : Nat), vs = [.ref b] ∧ Bag H b k ∧ k < 900000 ∧ ∀ (z : Str) (H' : Hp), But b H H' → Bag H' b (k + 10) → nameOk z = true → z.length ≤ 8 → Q (.str z) H'
end Hv
namespace L
open PySem L2 Hv
variable {P : Program} {w : World} {K : PySem.W.Frag} {mg : Str → Option Value} {base : Heap}
abbrev s_tag : Stmt := top 36
abbrev N_tag : List Str := ["_law_bag_here", "_law_signs", "_law_made_here", "_law_k"]
abbrev P_tag : List Str := ["_law_bag_here"]
theorem sc_tag : FnScope N_tag P_tag (defScope s_tag) := ⟨rfl, rfl, rfl, by decide +kernel, rfl, by decide +kernel, by decide +kernel⟩
theorem ok_tag {f f1 : Addr} {fd fd1 : FuncData} (D : DefAt K mg "_law_tag" s_tag P_tag f fd) (T : Txt K mg) (D_take : DefAt K mg "_law_take" s_take P_take f1 fd1) : FnOk P w K mg base CX0 2 f fd P_tag sp_tag := by
  have G_take : FnOk P w K mg base CX0 1 f1 fd1 P_take sp_take := ok_take D_take T
  refine D.fn.ok sc_tag (fun vs H Q E h => ?_) (fun cdv A outer s H vs Q E hr h => ?_)
  · obtain ⟨b, k, rfl, _⟩ := h
    rfl
  · obtain ⟨b, k, rfl, hb, hk, ret⟩ := h
    refine ⟨_, (pss_cons (ps_asg pe_str (pg_name (i := 1) sc_tag.nd rfl (.inl rfl)))
      (pss_cons (ps_asg (pe_ix ix_str (pv 1) (pe_call G_take (hr.mono (by decide)) rfl D_take.mg D_take.fn.kp D_take.bd .nil pass0 (pa_cons (pv 0) (pa_cons pe_int pa_nil))) (fun _ _ => rfl)) (pg_name (i := 2) sc_tag.nd rfl (.inl rfl)))
      (pss_cons (ps_for PassesOwn.never rfl (pi_range1 (by rfl) T.range (pa_cons (pe_call G_take (hr.mono (by decide)) rfl D_take.mg D_take.fn.kp D_take.bd .nil pass0 (pa_cons (pv 0) (pa_cons pe_int pa_nil))) pa_nil)) (pg_name (i := 3) sc_tag.nd rfl (.inl rfl))
      (pss_one (ps_asg (pe_op op_add_str (pv 2) (pe_ix ix_str (pv 1) (pe_call G_take (hr.mono (by decide)) rfl D_take.mg D_take.fn.kp D_take.bd .nil pass0 (pa_cons (pv 0) (pa_cons pe_int pa_nil))) (fun _ _ => rfl))) (pg_name (i := 2) sc_tag.nd rfl (.inl rfl)))))
      (pss_one (ps_ret (pv 2)))))), ?_⟩
    refine ⟨_, rfl, _, rfl, b, 26, k, rfl, hb, by omega, by decide, by decide, fun r H1 u1 b1 r0 r1 => ?_⟩
    obtain ⟨c, hc, hl⟩ := signs_let r.toNat (by omega)
    refine ⟨_, _, c, rfl, rfl, by decide, atI_nat r0 hc, ?_⟩
    refine ⟨_, rfl, b, 8, k + 1, rfl, b1, by omega, by decide, by decide, fun m H2 u2 b2 m0 m1 => ?_⟩
    refine ⟨m, rfl, by omega, by omega, for_range (lo := 0) (fun i σ' H' => ∃ z v, σ' = [some (.ref b), some (.str SIGNS), some (.str z), v] ∧ Tag z (i + 1) ∧ But b H H' ∧ Bag H' b (k + 2 + i)) ?_ ?_ ?_⟩
    · exact ⟨_, _, rfl, tag_one hl, u1.trans u2, b2⟩
    · rintro i σ' H' hi ⟨z, v, rfl, tg, u, bb⟩
      refine ⟨_, rfl, _, rfl, _, rfl, b, 36, k + 2 + i, rfl, bb, by omega, by decide, by decide, fun q H3 u3 b3 q0 q1 => ?_⟩
      obtain ⟨c2, hc2, hl2⟩ := signs_ok q.toNat (by omega)
      refine ⟨_, _, c2, rfl, rfl, by decide, atI_nat q0 hc2, _, _, rfl, rfl, ?_, ?_⟩
      · have := tg.1
        exact Evl.sz_of (by rw [this]; show i + 1 + 1 ≤ 100000; omega)
      · exact ⟨_, _, rfl, tg.more hl2, u.trans u3, b3⟩
    · rintro σ' H' ⟨z, v, rfl, tg, u, bb⟩
      exact ⟨_, rfl, ret z H' u (bb.mono (by omega)) (tg.ok (by omega)) (by have := tg.1; omega)⟩
end L
namespace Hv
open PySem L2
theorem join_s {tt : TT} {tu tv tz : TS} {D : Ends} {σ : L2.St} {H : Hp} (S : L2.St → Hp → Prop) (h : ∀ N : L2.St → Hp → Prop, (∀ σ' H', S σ' H' → N σ' H') → tIfS tt tu tv { D with nx := N } σ H)
    (k : ∀ σ' H', S σ' H' → tz D σ' H') : tSeq (tIfS tt tu tv) tz D σ H := h (tz D) k
theorem But.mut {b p : Addr} {H H1 : Hp} {o : HO} (x : But b H H1) (hp : H p = none) : But b H (upd H1 p o) := fun a u n h => by
  rw [upd_ne (ne_of_none h hp)]
  exact x a u n h
theorem ClosAt.but {K : PySem.W.Frag} {b : Addr} {n : Nat} {H H' : Hp} {c : Option (Int × Str)} {v : V} (h : ClosAt K H c v) (hb : Bag H b n) (e : But b H H') : ClosAt K H' c v := by
  cases c with
  | none => exact h
  | some p =>
    obtain ⟨a, h1, h2⟩ := h
    obtain ⟨s, d, m, hb, _⟩ := hb
    exact ⟨a, h1, e _ _ (ne_of h2 hb (by intro q; cases q)) h2⟩
theorem ClosAt.put {K : PySem.W.Frag} {p : Addr} {xs : List V} {o : HO} {H : Hp} {c : Option (Int × Str)} {v : V} (h : ClosAt K H c v) (hp : H p = some (.lst xs)) : ClosAt K (upd H p o) c v := by
  cases c with
  | none => exact h
  | some q =>
    obtain ⟨a, h1, h2⟩ := h
    exact ⟨a, h1, by rw [upd_ne (ne_of h2 hp (by intro q; cases q))]; exact h2⟩
/-- a bound that can be shown -/
def BX (z : Str) : Prop := BT z ∧ PyData.strOk z = true ∧ z.length ≤ 20
theorem BL_str : BL.all (fun z => PyData.strOk z && decide (z.length ≤ 20)) = true := by decide +kernel
theorem lets_small : ∀ c ∈ LETS.cps.toList, c < 0x110000 := by decide +kernel
theorem digs_small : ∀ c ∈ DIGS.cps.toList, c < 0x110000 := by decide +kernel
theorem name_str {z : Str} (h : nameOk z = true) : PyData.strOk z = true := by
  unfold PyData.strOk
  rw [Array.all_eq_true']
  intro c hc
  have hc' : c ∈ z.cps.toList := by simpa using hc
  unfold nameOk at h
  split at h
  · cases h
  · simp only [Bool.and_eq_true] at h
    have := List.all_eq_true.mp h.2 c hc'
    unfold signOk at this
    rcases Bool.or_eq_true_iff.mp this with q | q
    · exact decide_eq_true (lets_small c (of_decide_eq_true q))
    · exact decide_eq_true (digs_small c (of_decide_eq_true q))
def needsD : V → PyData
  | .int i => .int i
  | .str z => .str z
  | _ => .none
def closD : Option (Int × Str) → PyData
  | none => .none
  | some (i, z) => .tuple [.int i, .str z]
def endsD : Option Str → PyData
  | none => .none
  | some z => .str z
def Kd.ds (k : Kd) : List PyData := [.str k.name, .int k.talks, needsD k.needs, closD k.closing, endsD k.ends]
structure Fine (k : Kd) : Prop where
  ok : k.Ok
  f0 : Fit (.str k.name) 1 20
  f2 : Fit (needsD k.needs) 1 20
  f3 : Fit (closD k.closing) 1 30
  f4 : Fit (endsD k.ends) 1 20
theorem Fine.fit {k : Kd} (h : Fine k) : FitAll k.ds 1 100 := by
  have t := h.ok.talks
  have h1 : Fit (.int k.talks) 1 0 := .int (small_log (by omega) (by omega))
  have h2 := FitAll.cons h.f0 (.cons h1 (.cons h.f2 (.cons h.f3 (.cons h.f4 (.nil (n := 0))))))
  exact ⟨h2.lay, h2.sh, h2.dp, h2.lv, Nat.le_trans h2.bk (by decide)⟩
theorem clos_dp {K : PySem.W.Frag} {H : Hp} {c : Option (Int × Str)} {v : V} (h : ClosAt K H c v) : Dp K H v (closD c) := by
  cases c with
  | none => cases h; exact .non
  | some q =>
    obtain ⟨a, rfl, h2⟩ := h
    exact .tup (SqT.of h2) (.cons (.int _) (.cons (.str _) .nil))
theorem needs_dp {K : PySem.W.Frag} {H : Hp} {k : Kd} (h : k.Ok) : Dp K H k.needs (needsD k.needs) := by
  rcases h.needs with ⟨i, e, _⟩ | ⟨z, e, _⟩ <;> rw [e]
  · exact .int i
  · exact .str z
theorem ends_dp {K : PySem.W.Frag} {H : Hp} {e : Option Str} : Dp K H (endsV e) (endsD e) := by
  cases e with
  | none => exact .non
  | some z => exact .str z
theorem kd_dp {K : PySem.W.Frag} {H : Hp} {k : Kd} {cl : V} (h : k.Ok) (c : ClosAt K H k.closing cl) : DpAll K H [.str k.name, .int k.talks, k.needs, cl, endsV k.ends] k.ds :=
  .cons (.str _) (.cons (.int _) (.cons (needs_dp h) (.cons (clos_dp c) (.cons ends_dp .nil))))
def NeedsOk (v : V) : Prop := (∃ i, v = .int i ∧ 1 ≤ i ∧ i ≤ 9) ∨ ∃ z, v = .str z ∧ BX z
/-- a row of the law: the parts of a kind in a list -/
def RowL (K : PySem.W.Frag) (H : Hp) (p : Addr) (k : Kd) : Prop := ∃ cl, H p = some (.lst [.str k.name, .int k.talks, k.needs, cl, endsV k.ends]) ∧ ClosAt K H k.closing cl
def sp_drawn (K : PySem.W.Frag) : Sp := fun vs H Q _ => ∃ (b bl : Addr) (n : Nat), vs = [.ref b, .ref bl] ∧ Bag H b n ∧ n < 800000 ∧ SqL K H bl (BL.map V.str) ∧ bl ≠ b ∧
  ∀ (p : Addr) (k : Kd) (H' : Hp), H p = none → But b H H' → Bag H' b (n + 20) → RowL K H' p k → Fine k → Q (.ref p) H'
theorem bl_at {j : Int} (h0 : 0 ≤ j) (h1 : j < 93) : ∃ z, atI (BL.map V.str) j = some (.str z) ∧ BX z := by
  have hl : j.toNat < BL.length := by rw [BL_len]; omega
  refine ⟨BL[j.toNat], Hv.atI_nat h0 (by simp [hl]), ?_⟩
  obtain ⟨a, c, l⟩ := line_of (List.getElem_mem hl)
  have h2 := List.all_eq_true.mp BL_str _ (List.getElem_mem hl)
  simp only [Bool.and_eq_true, decide_eq_true_eq] at h2
  exact ⟨⟨l.ok, by rw [l.fr]; rfl⟩, h2.1, h2.2⟩
theorem bl_len : ((BL.map V.str).length : Int) = 93 := by rw [List.length_map, BL_len]; rfl
end Hv
namespace L
open PySem L2 Hv
variable {P : Program} {w : World} {K : PySem.W.Frag} {mg : Str → Option Value} {base : Heap}
abbrev s_drawn : Stmt := top 38
abbrev N_drawn : List Str := ["_law_bag_here", "_law_bounds_here", "_law_made_here", "_law_way"]
abbrev P_drawn : List Str := ["_law_bag_here", "_law_bounds_here"]
theorem sc_drawn : FnScope N_drawn P_drawn (defScope s_drawn) := ⟨rfl, rfl, rfl, by decide +kernel, rfl, by decide +kernel, by decide +kernel⟩
theorem ok_drawn {f f1 f2 : Addr} {fd fd1 fd2 : FuncData} (D : DefAt K mg "_law_drawn" s_drawn P_drawn f fd) (T : Txt K mg) (D_take : DefAt K mg "_law_take" s_take P_take f1 fd1)
    (D_tag : DefAt K mg "_law_tag" s_tag P_tag f2 fd2) : FnOk P w K mg base CX0 3 f fd P_drawn (sp_drawn K) := by
  have G_take : FnOk P w K mg base CX0 1 f1 fd1 P_take sp_take := ok_take D_take T
  have G_tag : FnOk P w K mg base CX0 2 f2 fd2 P_tag sp_tag := ok_tag D_tag T D_take
  refine D.fn.ok sc_drawn (fun vs H Q E h => ?_) (fun cdv A outer s H vs Q E hr h => ?_)
  · obtain ⟨b, bl, k, rfl, _⟩ := h
    rfl
  · obtain ⟨b, bl, k, rfl, hb, hk, hS, nb, ret⟩ := h
    refine ⟨_, (pss_cons (ps_asg (pe_lst (pa_cons (pe_call G_tag (hr.mono (by decide)) rfl D_tag.mg D_tag.fn.kp D_tag.bd .nil pass0 (pa_cons (pv 0) pa_nil)) (pa_cons (pe_call G_take (hr.mono (by decide)) rfl D_take.mg D_take.fn.kp D_take.bd .nil pass0 (pa_cons (pv 0) (pa_cons pe_int pa_nil))) (pa_cons pe_int (pa_cons pe_non (pa_cons pe_non pa_nil)))))) (pg_name (i := 2) sc_drawn.nd rfl (.inl rfl)))
      (pss_cons (ps_asg (pe_call G_take (hr.mono (by decide)) rfl D_take.mg D_take.fn.kp D_take.bd .nil pass0 (pa_cons (pv 0) (pa_cons pe_int pa_nil))) (pg_name (i := 3) sc_drawn.nd rfl (.inl rfl)))
      (pss_cons (ps_if (pt_cmpR op_gt (pv 3) pe_int (nomark _))
      (pss_one (ps_asg (pe_ifExp (pt_cmpR op_eq (pv 3) pe_int (nomark _)) (pe_op op_add pe_int (pe_call G_take (hr.mono (by decide)) rfl D_take.mg D_take.fn.kp D_take.bd .nil pass0 (pa_cons (pv 0) (pa_cons pe_int pa_nil)))) (pe_ix ix_list (pv 1) (pe_call G_take (hr.mono (by decide)) rfl D_take.mg D_take.fn.kp D_take.bd .nil pass0 (pa_cons (pv 0) (pa_cons (pe_callB call_len_seq (by rfl) T.len (by decide +kernel) (pa_cons (pv 1) pa_nil)) pa_nil))) (fun _ _ => rfl))) (pg_sub (pv 2) pe_int set_list)))
      pss_nil)
      (pss_cons (ps_if (pt_cmpR op_gt (pe_call G_take (hr.mono (by decide)) rfl D_take.mg D_take.fn.kp D_take.bd .nil pass0 (pa_cons (pv 0) (pa_cons pe_int pa_nil))) pe_int (nomark _))
      (pss_one (ps_asg (pe_tup (pa_cons (pe_call G_take (hr.mono (by decide)) rfl D_take.mg D_take.fn.kp D_take.bd .nil pass0 (pa_cons (pv 0) (pa_cons pe_int pa_nil))) (pa_cons (pe_ix ix_list (pv 1) (pe_call G_take (hr.mono (by decide)) rfl D_take.mg D_take.fn.kp D_take.bd .nil pass0 (pa_cons (pv 0) (pa_cons (pe_callB call_len_seq (by rfl) T.len (by decide +kernel) (pa_cons (pv 1) pa_nil)) pa_nil))) (fun _ _ => rfl)) pa_nil))) (pg_sub (pv 2) pe_int set_list)))
      pss_nil)
      (pss_cons (ps_if (pt_cmpR op_eq (pe_call G_take (hr.mono (by decide)) rfl D_take.mg D_take.fn.kp D_take.bd .nil pass0 (pa_cons (pv 0) (pa_cons pe_int pa_nil))) pe_int (nomark _))
      (pss_one (ps_asg (pe_ix ix_list (pv 1) (pe_call G_take (hr.mono (by decide)) rfl D_take.mg D_take.fn.kp D_take.bd .nil pass0 (pa_cons (pv 0) (pa_cons (pe_callB call_len_seq (by rfl) T.len (by decide +kernel) (pa_cons (pv 1) pa_nil)) pa_nil))) (fun _ _ => rfl)) (pg_sub (pv 2) pe_int set_list)))
      pss_nil)
      (pss_one (ps_ret (pv 2)))))))), ?_⟩
    refine ⟨_, rfl, b, k, rfl, hb, by omega, fun z H1 u1 b1 zok zl => ⟨_, rfl, b, 4, k + 10, rfl, b1, by omega, by decide, by decide, fun r H2 u2 b2 r0 r1 => ⟨by show 5 ≤ sizeLine; decide, fun p hp => ?_⟩⟩⟩
    have pb : p ≠ b := b2.ne_none hp
    have p0 : H p = none := (u1.trans u2).free pb hp
    refine ⟨_, rfl, b, 3, k + 11, rfl, b2.same (same_new hp), by omega, by decide, by decide, fun way H3 u3 b3 w0 w1 => ?_⟩
    have h3 := u3 _ _ pb upd_same
    have v3 : But b H H3 := ((u1.trans u2).new hp).trans u3
    have draw : ∀ (H' : Hp) (n : Nat) (Q' : VK), But b H H' → Bag H' b n → n < 900000 → (∀ z H'', BX z → But b H' H'' → Bag H'' b (n + 1) → Q' (.str z) H'') →
        tOp (rIxL K) (tVar 1) (tCall sp_take [] E0 (tCons (tVar 0) (tCons (tCB (Evl.rLenS K) (tCons (tVar 1) tNil)) tNil))) [some (.ref b), some (.ref bl), some (.ref p), some (.int way)] H' Q' := fun H' n Q' e' b' n' q => by
      have s' := e'.seq nb hS
      refine ⟨_, rfl, _, rfl, _, rfl, bl, _, rfl, .inl s', b, _, n, rfl, b', by omega, by rw [bl_len]; decide, by rw [bl_len]; decide, fun j H4 u4 b4 j0 j1 => ?_⟩
      rw [bl_len] at j1
      obtain ⟨z, hz, bt⟩ := bl_at j0 j1
      exact ⟨bl, _, j, _, rfl, rfl, u4.seq nb s', hz, q z H4 bt u4 b4⟩
    dsimp only [gName]
    refine join_s (fun σ' H' => ∃ nd, σ' = [some (.ref b), some (.ref bl), some (.ref p), some (.int way)] ∧ H' p = some (.lst [.str z, .int r, nd, .non, .non]) ∧ But b H H' ∧ Bag H' b (k + 14) ∧ NeedsOk nd) (fun N key => ?_) ?_
    · refine ⟨_, rfl, _, _, rfl, rfl, _, rfl, ?_⟩
      refine ite2 (fun hc => ?_) (fun hc => ?_)
      · refine ⟨_, rfl, rfl, _, rfl, ?_⟩
        refine ite2 (fun hc2 => ?_) (fun hc2 => ?_)
        · refine ⟨_, rfl, b, 9, k + 12, rfl, b3, by omega, by decide, by decide, fun q H4 u4 b4 q0 q1 => ?_⟩
          refine ⟨_, _, rfl, rfl, _, rfl, p, _, 2, _, rfl, rfl, u4 _ _ pb h3, rfl, ?_⟩
          exact key _ _ ⟨_, rfl, upd_same, (v3.trans u4).mut p0, (b4.put pb).mono (by omega), .inl ⟨_, rfl, by omega, by omega⟩⟩
        · refine draw H3 (k + 12) _ v3 b3 (by omega) fun z2 H4 bt u4 b4 => ?_
          refine ⟨_, rfl, p, _, 2, _, rfl, rfl, u4 _ _ pb h3, rfl, ?_⟩
          exact key _ _ ⟨_, rfl, upd_same, (v3.trans u4).mut p0, (b4.put pb).mono (by omega), .inr ⟨_, rfl, bt⟩⟩
      · exact key _ _ ⟨_, rfl, h3, v3, b3.mono (by omega), .inl ⟨1, rfl, by decide, by decide⟩⟩
    rintro _ H4 ⟨nd, rfl, h4, v4, b4, nok⟩
    refine join_s (fun σ' H' => ∃ cl c, σ' = [some (.ref b), some (.ref bl), some (.ref p), some (.int way)] ∧ H' p = some (.lst [.str z, .int r, nd, cl, .non]) ∧ But b H H' ∧ Bag H' b (k + 17) ∧ ClosAt K H' c cl ∧ ∀ i z, c = some (i, z) → 0 ≤ i ∧ i ≤ 3 ∧ BX z) (fun N key => ?_) ?_
    · refine ⟨_, rfl, b, 3, k + 14, rfl, b4, by omega, by decide, by decide, fun w3 H5 u5 b5 w30 w31 => ?_⟩
      have h5 := u5 _ _ pb h4
      refine ⟨_, _, rfl, rfl, _, rfl, ?_⟩
      refine ite2 (fun hc => ?_) (fun hc => ?_)
      · refine ⟨_, rfl, b, 4, k + 15, rfl, b5, by omega, by decide, by decide, fun a H6 u6 b6 a0 a1 => ?_⟩
        refine draw H6 (k + 16) _ ((v4.trans u5).trans u6) b6 (by omega) fun z2 H7 bt u7 b7 => ⟨by show 2 ≤ sizeLine; decide, fun t ht => ?_⟩
        have h7 := u7 _ _ pb (u6 _ _ pb h5)
        have tp : t ≠ p := (ne_of_none h7 ht).symm
        refine ⟨_, rfl, p, _, 3, _, rfl, rfl, same_new ht _ _ h7, rfl, ?_⟩
        refine key _ _ ⟨_, some (a, z2), rfl, upd_same, ((((v4.trans u5).trans u6).trans u7).new ht).mut p0, ((b7.same (same_new ht)).put pb).mono (by omega), ⟨t, rfl, by rw [upd_ne tp, upd_same]⟩, ?_⟩
        rintro i z e
        cases e
        exact ⟨a0, by omega, bt⟩
      · exact key _ _ ⟨.non, none, rfl, h5, v4.trans u5, b5.mono (by omega), rfl, fun i z e => nomatch e⟩
    rintro _ H5 ⟨cl, c, rfl, h5, v5, b5, hcl, cok⟩
    have kok : ∀ e : Option Str, (∀ z, e = some z → BX z) → Fine ⟨z, r, nd, c, e⟩ := fun e he => by
      refine ⟨⟨zok, Nat.le_trans zl (by decide), ⟨r0, by show r ≤ 3; omega⟩, ?_, fun i z e => ⟨(cok i z e).1, (cok i z e).2.1, (cok i z e).2.2.1⟩, fun z e => (he z e).1⟩, .str (name_str zok) (by show z.length ≤ 20; omega), ?_, ?_, ?_⟩
      · rcases nok with h | ⟨z, e, bt⟩
        · exact .inl h
        · exact .inr ⟨z, e, bt.1⟩
      · rcases nok with ⟨i, e, i0, i1⟩ | ⟨z, e, bt⟩ <;> subst e
        · exact .int (small_log (by omega) (by omega))
        · exact .str bt.2.1 bt.2.2
      · match c, cok with
        | none, _ => exact .none
        | some (i, z), cok =>
          obtain ⟨i0, i1, bt⟩ := cok i z rfl
          exact (Fit.tuple (.cons (.int (n := 0) (small_log (by omega) (by omega))) (.cons (.str bt.2.1 bt.2.2) (.nil (n := 0))))).mono (Nat.le_refl _) (by decide)
      · match e, he with
        | none, _ => exact .none
        | some z, he => exact .str (he z rfl).2.1 (he z rfl).2.2
    refine join_s (fun σ' H' => ∃ e, σ' = [some (.ref b), some (.ref bl), some (.ref p), some (.int way)] ∧ H' p = some (.lst [.str z, .int r, nd, cl, endsV e]) ∧ But b H H' ∧ Bag H' b (k + 20) ∧ ClosAt K H' c cl ∧ ∀ z, e = some z → BX z) (fun N key => ?_) ?_
    · refine ⟨_, rfl, b, 2, k + 17, rfl, b5, by omega, by decide, by decide, fun w3 H6 u6 b6 w30 w31 => ?_⟩
      have h6 := u6 _ _ pb h5
      refine ⟨rfl, _, rfl, ?_⟩
      refine ite2 (fun hc => ?_) (fun hc => ?_)
      · refine draw H6 (k + 18) _ (v5.trans u6) b6 (by omega) fun z2 H7 bt u7 b7 => ?_
        have h7 := u7 _ _ pb h6
        refine ⟨_, rfl, p, _, 4, _, rfl, rfl, h7, rfl, ?_⟩
        exact key _ _ ⟨some z2, rfl, upd_same, ((v5.trans u6).trans u7).mut p0, (b7.put pb).mono (by omega), ((hcl.but b5 u6).but b6 u7).put h7, fun z e => by cases e; exact bt⟩
      · exact key _ _ ⟨none, rfl, h6, v5.trans u6, b6.mono (by omega), hcl.but b5 u6, fun z e => nomatch e⟩
    rintro _ H6 ⟨e, rfl, h6, v6, b6, hcl6, eok⟩
    exact ⟨_, rfl, ret p _ H6 p0 v6 b6 ⟨cl, h6, hcl6⟩ (kok e eok)⟩
end L
namespace Hv
open PySem L2
section
variable {X : Cx} {e : Expr} {ta : TE} {C g : Addr} {f : Str} {pos : Pos} {n : Nat} {sp : Sp} {fd : FuncData} {ps : List Str}
theorem units65 {k : Nat} {A : Around} (r : Room k A) : A.units + 65 < cLine := by have := r.un; omega
theorem pe_propD (he : PE X e ta) (c : Cls X.K C) (p : PropK X.K C f g) (F : FnOk X.prog X.w X.K X.mg X.base CX0 n g fd ps sp) (hb : Binds X.K fd ps []) (hr : Room (n + 1) X.A)
    (hab : attributeBase e f X.env (eval e X.env) = eval e X.env := by rfl) : PE X (.Attribute e f pos) (tProp C sp [] E0 ta) := by
  obtain ⟨p, h1, h2, h3, h4⟩ := p.ex
  exact pe_prop he c ⟨h1, h2, h3, h4⟩ F hr hb .nil pass0 hab
end
def sp_otherwise (K : PySem.W.Frag) : Sp := fun vs H Q _ => ∃ (b p bl : Addr) (k : Kd) (n : Nat), vs = [.ref b, .ref p, .ref bl] ∧ Bag H b n ∧ n < 700000 ∧ RowL K H p k ∧ Fine k ∧ p ≠ b ∧ SqL K H bl (BL.map V.str) ∧ bl ≠ b ∧
  ∀ (q : Addr) (k' : Kd) (H' : Hp), H q = none → But b H H' → Bag H' b (n + 21) → RowL K H' q k' → Fine k' → Q (.ref q) H'
def sp_mk (K : PySem.W.Frag) (C : Addr) : Sp := fun vs H Q _ => ∃ (p : Addr) (k : Kd), vs = [.ref p] ∧ RowL K H p k ∧ Fine k ∧ ∀ (x : Addr) (H' : Hp), H x = none → Same H H' → KindAt K C H' x k → Q (.ref x) H'
theorem RowL.but {K : PySem.W.Frag} {b p : Addr} {n : Nat} {H H' : Hp} {k : Kd} (h : RowL K H p k) (hb : Bag H b n) (np : p ≠ b) (e : But b H H') : RowL K H' p k := by
  obtain ⟨cl, h1, h2⟩ := h
  exact ⟨cl, e _ _ np h1, h2.but hb e⟩
theorem RowL.same {K : PySem.W.Frag} {p : Addr} {H H' : Hp} {k : Kd} (h : RowL K H p k) (e : Same H H') : RowL K H' p k := by
  obtain ⟨cl, h1, h2⟩ := h
  exact ⟨cl, e _ _ h1, h2.same e⟩
/-- a new kind -/
theorem kind_made {K : PySem.W.Frag} {C : Addr} {H1 : Hp} {k : Kd} {cl : V} {Q : VK} (ok : k.Ok) (hc : ClosAt K H1 k.closing cl) (ret : ∀ x H2, H1 x = none → Same H1 H2 → KindAt K C H2 x k → Q (.ref x) H2) :
    ∀ x dx, H1 x = none → H1 dx = none → dx ≠ x → sp_kind_init K C [.ref x, .str k.name, .int k.talks, k.needs, cl, endsV k.ends] (upd (upd H1 dx (.own x)) x (.ins C dx [])) (fun v H2 => v = .non ∧ Q (.ref x) H2) E0 := by
  intro x dx nx nd ne
  have s1 : Same H1 (upd (upd H1 dx (.own x)) x (.ins C dx [])) := fun b o e => by
    rw [upd_ne (ne_of_none e nx), upd_ne (ne_of_none e nd)]
    exact e
  refine ⟨x, dx, k, cl, rfl, ok, hc.same s1, upd_same, by rw [upd_ne ne, upd_same], ne, fun H2 keep hl => ⟨rfl, ?_⟩⟩
  exact ret x H2 nx (fun b o e => keep b o (ne_of_none e nx) (s1 _ _ e)) hl
end Hv
namespace L
open PySem L2 Hv
variable {P : Program} {w : World} {K : PySem.W.Frag} {mg : Str → Option Value} {base : Heap}
abbrev s_otherwise : Stmt := top 39
abbrev N_otherwise : List Str := ["_law_bag_here", "_law_made_here", "_law_bounds_here", "_law_at", "_law_mate"]
abbrev P_otherwise : List Str := ["_law_bag_here", "_law_made_here", "_law_bounds_here"]
theorem sc_otherwise : FnScope N_otherwise P_otherwise (defScope s_otherwise) := ⟨rfl, rfl, rfl, by decide +kernel, rfl, by decide +kernel, by decide +kernel⟩
theorem ok_otherwise {f f1 f2 : Addr} {fd fd1 fd2 : FuncData} (D : DefAt K mg "_law_otherwise" s_otherwise P_otherwise f fd) (T : Txt K mg) (D_take : DefAt K mg "_law_take" s_take P_take f1 fd1)
    (D_drawn : DefAt K mg "_law_drawn" s_drawn P_drawn f2 fd2) (G_drawn : FnOk P w K mg base CX0 3 f2 fd2 P_drawn (sp_drawn K)) : FnOk P w K mg base CX0 4 f fd P_otherwise (sp_otherwise K) := by
  have G_take : FnOk P w K mg base CX0 1 f1 fd1 P_take sp_take := ok_take D_take T
  refine D.fn.ok sc_otherwise (fun vs H Q E h => ?_) (fun cdv A outer s H vs Q E hr h => ?_)
  · obtain ⟨b, p, bl, k, n, rfl, _⟩ := h
    rfl
  · obtain ⟨b, p, bl, k, n, rfl, hb, hn, hp, kok, pb, hS, nb, ret⟩ := h
    refine ⟨_, (pss_cons (ps_par (i := 3) (j := 4) (by rfl) sc_otherwise.nd rfl rfl (by decide) rfl rfl (pa_cons (pe_call G_take (hr.mono (by decide)) rfl D_take.mg D_take.fn.kp D_take.bd .nil pass0 (pa_cons (pv 0) (pa_cons pe_int pa_nil))) (pa_cons (pe_callTy call_list_of (by rfl) T.list (by decide +kernel) (pa_cons (pv 1) pa_nil)) pa_nil)) (by rfl))
      (pss_cons (ps_if (pt_cmpR op_lt (pv 3) pe_int (nomark _))
      (pss_one (ps_asg (pe_ix ix_list (pe_call G_drawn (hr.mono (by decide)) rfl D_drawn.mg D_drawn.fn.kp D_drawn.bd .nil pass0 (pa_cons (pv 0) (pa_cons (pv 2) pa_nil))) (pv 3) (fun _ _ => rfl)) (pg_sub (pv 4) (pv 3) set_list)))
      pss_nil)
      (pss_one (ps_ret (pv 4))))), ?_⟩
    refine ⟨_, rfl, b, 6, n, rfl, hb, by omega, by decide, by decide, fun r H1 u1 b1 r0 r1 => ?_⟩
    obtain ⟨cl, h1, c1⟩ := hp.but hb pb u1
    refine ⟨_, rfl, p, _, rfl, .inl (SqL.of h1), fun q hq => ⟨_, _, rfl, ?_⟩⟩
    have qb : q ≠ b := b1.ne_none hq
    have q0 : H q = none := u1.free qb hq
    refine ⟨_, rfl, _, _, rfl, rfl, _, rfl, ?_⟩
    refine ite2 (fun hc => ?_) (fun hc => ?_)
    · have s1 := same_new (o := .lst [.str k.name, .int k.talks, k.needs, cl, endsV k.ends]) hq
      refine ⟨_, rfl, _, rfl, b, bl, n + 1, rfl, b1.same s1, by omega, Evl.ex_l s1 (u1.seq nb hS), nb, fun p2 k2 H2 p20 u2 b2 r2 k2ok => ?_⟩
      obtain ⟨cl2, h2, c2⟩ := r2
      have hq2 := u2 _ _ qb upd_same
      have v2 : But b H H2 := (u1.new hq).trans u2
      have c3 : ClosAt K H2 k.closing cl := (c1.same s1).but (b1.same s1) u2
      have hr5 : r = 0 ∨ r = 1 ∨ r = 2 ∨ r = 3 ∨ r = 4 := by have := dT hc; omega
      have fin : ∀ (k3 : Kd) (cl3 : V), Fine k3 → ClosAt K H2 k3.closing cl3 → Q (.ref q) (upd H2 q (.lst [.str k3.name, .int k3.talks, k3.needs, cl3, endsV k3.ends])) := fun k3 cl3 ok3 c3 =>
        ret q k3 _ q0 (v2.mut q0) ((b2.put qb).mono (by omega)) ⟨cl3, upd_same, c3.put hq2⟩ ok3
      rcases hr5 with rfl | rfl | rfl | rfl | rfl
      · exact ⟨_, rfl, p2, _, _, _, rfl, rfl, SqL.of h2, rfl, _, rfl, _, rfl, q, _, _, _, rfl, rfl, hq2, rfl, _, rfl, fin ⟨k2.name, k.talks, k.needs, k.closing, k.ends⟩ cl ⟨⟨k2ok.ok.name, k2ok.ok.len, kok.ok.talks, kok.ok.needs, kok.ok.closing, kok.ok.ends⟩, k2ok.f0, kok.f2, kok.f3, kok.f4⟩ c3⟩
      · exact ⟨_, rfl, p2, _, _, _, rfl, rfl, SqL.of h2, rfl, _, rfl, _, rfl, q, _, _, _, rfl, rfl, hq2, rfl, _, rfl, fin ⟨k.name, k2.talks, k.needs, k.closing, k.ends⟩ cl ⟨⟨kok.ok.name, kok.ok.len, k2ok.ok.talks, kok.ok.needs, kok.ok.closing, kok.ok.ends⟩, kok.f0, kok.f2, kok.f3, kok.f4⟩ c3⟩
      · exact ⟨_, rfl, p2, _, _, _, rfl, rfl, SqL.of h2, rfl, _, rfl, _, rfl, q, _, _, _, rfl, rfl, hq2, rfl, _, rfl, fin ⟨k.name, k.talks, k2.needs, k.closing, k.ends⟩ cl ⟨⟨kok.ok.name, kok.ok.len, kok.ok.talks, k2ok.ok.needs, kok.ok.closing, kok.ok.ends⟩, kok.f0, k2ok.f2, kok.f3, kok.f4⟩ c3⟩
      · exact ⟨_, rfl, p2, _, _, _, rfl, rfl, SqL.of h2, rfl, _, rfl, _, rfl, q, _, _, _, rfl, rfl, hq2, rfl, _, rfl, fin ⟨k.name, k.talks, k.needs, k2.closing, k.ends⟩ cl2 ⟨⟨kok.ok.name, kok.ok.len, kok.ok.talks, kok.ok.needs, k2ok.ok.closing, kok.ok.ends⟩, kok.f0, kok.f2, k2ok.f3, kok.f4⟩ c2⟩
      · exact ⟨_, rfl, p2, _, _, _, rfl, rfl, SqL.of h2, rfl, _, rfl, _, rfl, q, _, _, _, rfl, rfl, hq2, rfl, _, rfl, fin ⟨k.name, k.talks, k.needs, k.closing, k2.ends⟩ cl ⟨⟨kok.ok.name, kok.ok.len, kok.ok.talks, kok.ok.needs, kok.ok.closing, k2ok.ok.ends⟩, kok.f0, kok.f2, kok.f3, k2ok.f4⟩ c3⟩
    · exact ⟨_, rfl, ret q k _ q0 (u1.new hq) ((b1.same (same_new hq)).mono (by omega)) ⟨cl, upd_same, c1.same (same_new hq)⟩ kok⟩
abbrev s_made : Stmt := top 40
abbrev N_made : List Str := ["_law_row"]
abbrev P_made : List Str := ["_law_row"]
theorem sc_made : FnScope N_made P_made (defScope s_made) := ⟨rfl, rfl, rfl, by decide +kernel, rfl, by decide +kernel, by decide +kernel⟩
theorem ok_made {C f f1 : Addr} {fd fd1 : FuncData} (D : DefAt K mg "_law_made" s_made P_made f fd) (TK : OwnTxt K mg "Kind" C) (M_Kind : Mk K C f1) (F1 : FunK K f1 fd1)
    (G_Kind_init : FnOk P w K mg base CX0 5 f1 fd1 P_Kind_init (sp_kind_init K C)) : FnOk P w K mg base CX0 7 f fd P_made (sp_mk K C) := by
  obtain ⟨mv, KB_ends_closing_name_needs_talks⟩ := kb_all F1
  refine D.fn.ok sc_made (fun vs H Q E h => ?_) (fun cdv A outer s H vs Q E hr h => ?_)
  · obtain ⟨p, k, rfl, _⟩ := h
    rfl
  · obtain ⟨p, k, rfl, ⟨cl, hp, hc⟩, ok, ret⟩ := h
    refine ⟨_, (pss_one (ps_ret (pe_makeK0 M_Kind G_Kind_init (hr.mono (by decide)) rfl TK.mg KB_ends_closing_name_needs_talks pass0 (pk_cons (pe_ix ix_list (pv 0) pe_int (fun _ _ => rfl)) (pk_cons (pe_ix ix_list (pv 0) pe_int (fun _ _ => rfl)) (pk_cons (pe_ix ix_list (pv 0) pe_int (fun _ _ => rfl)) (pk_cons (pe_ix ix_list (pv 0) pe_int (fun _ _ => rfl)) (pk_cons (pe_ix ix_list (pv 0) pe_int (fun _ _ => rfl)) pk_nil)))))))), ?_⟩
    have S := SqL.of (K := K) hp
    refine ⟨_, rfl, _, _, _, _, rfl, rfl, S, rfl, _, rfl, _, _, _, _, rfl, rfl, S, rfl, _, rfl, _, _, _, _, rfl, rfl, S, rfl, _, rfl, _, _, _, _, rfl, rfl, S, rfl, _, rfl, _, _, _, _, rfl, rfl, S, rfl, ?_⟩
    exact ⟨rfl, rfl, kind_made ok.ok hc ret⟩
end L
namespace Hv
open PySem L2
theorem needs_one {k : Kd} (ok : k.Ok) (h : PyData.eqv (needsD k.needs) (.int 1) = true) : k.needs = .int 1 := by
  rcases ok.needs with ⟨i, e, _⟩ | ⟨z, e, _⟩ <;> rw [e] at h ⊢
  · simp only [needsD, PyData.eqv, beq_iff_eq] at h
    rw [h]
  · simp only [needsD, PyData.eqv] at h
    cases h
theorem clos_none {c : Option (Int × Str)} (h : PyData.eqv (closD c) .none = true) : c = none := by
  cases c with
  | none => rfl
  | some p => simp only [closD, PyData.eqv] at h; cases h
theorem ends_none {c : Option Str} (h : PyData.eqv (endsD c) .none = true) : c = none := by
  cases c with
  | none => rfl
  | some p => simp only [endsD, PyData.eqv] at h; cases h
end Hv
namespace L
open PySem L2 Hv
variable {P : Program} {w : World} {K : PySem.W.Frag} {mg : Str → Option Value} {base : Heap}
abbrev s_short : Stmt := top 41
abbrev N_short : List Str := ["_law_row"]
abbrev P_short : List Str := ["_law_row"]
theorem sc_short : FnScope N_short P_short (defScope s_short) := ⟨rfl, rfl, rfl, by decide +kernel, rfl, by decide +kernel, by decide +kernel⟩
theorem ok_short {C f f1 : Addr} {fd fd1 : FuncData} (D : DefAt K mg "_law_short" s_short P_short f fd) (TK : OwnTxt K mg "Kind" C) (M_Kind : Mk K C f1) (F1 : FunK K f1 fd1)
    (G_Kind_init : FnOk P w K mg base CX0 5 f1 fd1 P_Kind_init (sp_kind_init K C)) : FnOk P w K mg base CX0 7 f fd P_short (sp_mk K C) := by
  obtain ⟨mv1, KB_talks⟩ := kb_t F1
  obtain ⟨mv2, KB_ends⟩ := kb_e F1
  obtain ⟨mv3, KB_talks_closing⟩ := kb_tc F1
  obtain ⟨mv4, KB_closing_ends_talks_needs⟩ := kb_cetn F1
  obtain ⟨ds, KV0, KB0⟩ := kb_none F1
  refine D.fn.ok sc_short (fun vs H Q E h => ?_) (fun cdv A outer s H vs Q E hr h => ?_)
  · obtain ⟨p, k, rfl, _⟩ := h
    rfl
  · obtain ⟨p, k, rfl, ⟨cl, hp, hc⟩, ok, ret⟩ := h
    refine ⟨_, (pss_cons (ps_if (pt_cmpR (op_eqD hr.units) (pe_slice sl_list (pv 0) (po_some pe_int) po_none) (pe_lst (pa_cons pe_int (pa_cons pe_int (pa_cons pe_non (pa_cons pe_non pa_nil))))) (nomark _))
      (pss_one (ps_ret (pe_make M_Kind G_Kind_init (hr.mono (by decide)) rfl TK.mg KB0 KV0 pass0 (pa_cons (pe_ix ix_list (pv 0) pe_int (fun _ _ => rfl)) pa_nil))))
      pss_nil)
      (pss_cons (ps_if (pt_cmpR (op_eqD hr.units) (pe_slice sl_list (pv 0) (po_some pe_int) po_none) (pe_lst (pa_cons pe_int (pa_cons pe_non (pa_cons pe_non pa_nil)))) (nomark _))
      (pss_one (ps_ret (pe_makeK M_Kind G_Kind_init (hr.mono (by decide)) rfl TK.mg KB_talks pass0 (pa_cons (pe_ix ix_list (pv 0) pe_int (fun _ _ => rfl)) pa_nil) (pk_cons (pe_ix ix_list (pv 0) pe_int (fun _ _ => rfl)) pk_nil))))
      pss_nil)
      (pss_cons (ps_if (pt_cmpR (op_eqD hr.units) (pe_slice sl_list (pv 0) (po_some pe_int) (po_some pe_int)) (pe_lst (pa_cons pe_int (pa_cons pe_int (pa_cons pe_non pa_nil)))) (nomark _))
      (pss_one (ps_ret (pe_makeK M_Kind G_Kind_init (hr.mono (by decide)) rfl TK.mg KB_ends pass0 (pa_cons (pe_ix ix_list (pv 0) pe_int (fun _ _ => rfl)) pa_nil) (pk_cons (pe_ix ix_list (pv 0) pe_int (fun _ _ => rfl)) pk_nil))))
      pss_nil)
      (pss_cons (ps_if (PW.pt (pw_and (pt_cmpR op_isN (pe_ix ix_list (pv 0) pe_int (fun _ _ => rfl)) pe_non (nomark _)) (pw_and1 (pt_cmpR op_eq (pe_ix ix_list (pv 0) pe_int (fun _ _ => rfl)) pe_int (nomark _)))))
      (pss_one (ps_ret (pe_makeK M_Kind G_Kind_init (hr.mono (by decide)) rfl TK.mg KB_talks_closing pass0 (pa_cons (pe_ix ix_list (pv 0) pe_int (fun _ _ => rfl)) pa_nil) (pk_cons (pe_ix ix_list (pv 0) pe_int (fun _ _ => rfl)) (pk_cons (pe_ix ix_list (pv 0) pe_int (fun _ _ => rfl)) pk_nil)))))
      pss_nil)
      (pss_one (ps_ret (pe_makeK M_Kind G_Kind_init (hr.mono (by decide)) rfl TK.mg KB_closing_ends_talks_needs pass0 (pa_cons (pe_ix ix_list (pv 0) pe_int (fun _ _ => rfl)) pa_nil) (pk_cons (pe_ix ix_list (pv 0) pe_int (fun _ _ => rfl)) (pk_cons (pe_ix ix_list (pv 0) pe_int (fun _ _ => rfl)) (pk_cons (pe_ix ix_list (pv 0) pe_int (fun _ _ => rfl)) (pk_cons (pe_ix ix_list (pv 0) pe_int (fun _ _ => rfl)) pk_nil))))))))))), ?_⟩
    have S := SqL.of (K := K) hp
    have fit := ok.fit
    have mk : ∀ (H1 : Hp), Same H H1 → ∀ x dx, H1 x = none → H1 dx = none → dx ≠ x → sp_kind_init K C [.ref x, .str k.name, .int k.talks, k.needs, cl, endsV k.ends] (upd (upd H1 dx (.own x)) x (.ins C dx [])) (fun v H2 => v = .non ∧ Q (.ref x) H2) E0 := fun H1 s1 =>
      kind_made ok.ok (hc.same s1) fun x H2 nx s2 hk => ret x H2 (s1.free nx) (s1.trans s2) hk
    have at_ : ∀ (H1 : Hp), Same H H1 → SqL K H1 p [.str k.name, .int k.talks, k.needs, cl, endsV k.ends] := fun H1 s1 => SqL.of (s1 _ _ hp)
    obtain ⟨nm, tk, nd, co, en⟩ := k
    have f1 : Fit (.int tk) 1 0 := .int (small_log (by have := ok.ok.talks.1; dsimp only at this; omega) (by have := ok.ok.talks.2; dsimp only at this; omega))
    -- row[1:] == [0, 1, None, None]
    refine ⟨_, rfl, _, rfl, p, _, rfl, S, fun p1 n1 => ⟨by show 4 ≤ sizeLine; decide, fun p2 n2 => ?_⟩⟩
    have s2 : Same H _ := (same_new (o := .lst (cutV [.str nm, .int tk, nd, cl, endsV en] (some 1) none)) n1).trans (same_new (o := .lst [.int 0, .int 1, .non, .non]) n2)
    refine ⟨.list [.int tk, needsD nd, closD co, endsD en], .list [.int 0, .int 1, .none, .none], .lst (SqL.of (same_new n2 _ _ upd_same)) (.cons (.int _) (.cons (needs_dp (k := ⟨nm, tk, nd, co, en⟩) ok.ok) (.cons (clos_dp (hc.same s2)) (.cons ends_dp .nil)))),
      .lst (SqL.of upd_same) (.cons (.int _) (.cons (.int _) (.cons .non (.cons .non .nil)))), (Fit.list (.cons f1 (.cons ok.f2 (.cons ok.f3 (.cons ok.f4 (.nil (n := 0))))))).shaped (by decide), by decide +kernel, _, rfl, ?_⟩
    refine ite2 (fun h1 => ?_) (fun h1 => ?_)
    · simp only [PyData.eqv, PyData.eqvAll, Bool.and_eq_true, beq_iff_eq] at h1
      obtain ⟨rfl, e2, e3, e4, _⟩ := h1
      obtain rfl : nd = .int 1 := needs_one ok.ok e2
      obtain rfl : co = none := clos_none e3
      obtain rfl : en = none := ends_none e4
      cases hc
      exact ⟨_, rfl, p, _, _, _, rfl, rfl, at_ _ s2, rfl, mk _ s2⟩
    clear h1
    -- row[2:] == [1, None, None]
    refine ⟨_, rfl, _, rfl, p, _, rfl, at_ _ s2, fun p3 n3 => ⟨by show 3 ≤ sizeLine; decide, fun p4 n4 => ?_⟩⟩
    have s4 : Same H _ := (s2.trans (same_new (o := .lst (cutV [.str nm, .int tk, nd, cl, endsV en] (some 2) none)) n3)).trans (same_new (o := .lst [.int 1, .non, .non]) n4)
    clear s2
    refine ⟨.list [needsD nd, closD co, endsD en], .list [.int 1, .none, .none], .lst (SqL.of (same_new n4 _ _ upd_same)) (.cons (needs_dp (k := ⟨nm, tk, nd, co, en⟩) ok.ok) (.cons (clos_dp (hc.same s4)) (.cons ends_dp .nil))),
      .lst (SqL.of upd_same) (.cons (.int _) (.cons .non (.cons .non .nil))), (Fit.list (.cons ok.f2 (.cons ok.f3 (.cons ok.f4 (.nil (n := 0)))))).shaped (by decide), by decide +kernel, _, rfl, ?_⟩
    refine ite2 (fun h1 => ?_) (fun h1 => ?_)
    · simp only [PyData.eqv, PyData.eqvAll, Bool.and_eq_true, beq_iff_eq] at h1
      obtain ⟨e2, e3, e4, _⟩ := h1
      obtain rfl : nd = .int 1 := needs_one ok.ok e2
      obtain rfl : co = none := clos_none e3
      obtain rfl : en = none := ends_none e4
      cases hc
      exact ⟨_, rfl, p, _, _, _, rfl, rfl, at_ _ s4, rfl, _, rfl, p, _, _, _, rfl, rfl, at_ _ s4, rfl, rfl, rfl, mk _ s4⟩
    clear h1
    -- row[1:4] == [0, 1, None]
    refine ⟨_, rfl, _, rfl, _, rfl, p, _, rfl, at_ _ s4, fun p5 n5 => ⟨by show 3 ≤ sizeLine; decide, fun p6 n6 => ?_⟩⟩
    have s6 : Same H _ := (s4.trans (same_new (o := .lst (cutV [.str nm, .int tk, nd, cl, endsV en] (some 1) (some 4))) n5)).trans (same_new (o := .lst [.int 0, .int 1, .non]) n6)
    clear s4
    refine ⟨.list [.int tk, needsD nd, closD co], .list [.int 0, .int 1, .none], .lst (SqL.of (same_new n6 _ _ upd_same)) (.cons (.int _) (.cons (needs_dp (k := ⟨nm, tk, nd, co, en⟩) ok.ok) (.cons (clos_dp (hc.same s6)) .nil))),
      .lst (SqL.of upd_same) (.cons (.int _) (.cons (.int _) (.cons .non .nil))), (Fit.list (.cons f1 (.cons ok.f2 (.cons ok.f3 (.nil (n := 0)))))).shaped (by decide), by decide +kernel, _, rfl, ?_⟩
    refine ite2 (fun h1 => ?_) (fun h1 => ?_)
    · simp only [PyData.eqv, PyData.eqvAll, Bool.and_eq_true, beq_iff_eq] at h1
      obtain ⟨rfl, e2, e3, _⟩ := h1
      obtain rfl : nd = .int 1 := needs_one ok.ok e2
      obtain rfl : co = none := clos_none e3
      cases hc
      exact ⟨_, rfl, p, _, _, _, rfl, rfl, at_ _ s6, rfl, _, rfl, p, _, _, _, rfl, rfl, at_ _ s6, rfl, rfl, rfl, mk _ s6⟩
    clear h1
    -- row[4] is None and row[2] == 1
    have ix : ∀ (i : Int) (v : V) (Q' : VK), atI [.str nm, .int tk, nd, cl, endsV en] i = some v → Q' v _ → tOp (rIxL K) (tVar 0) (tC (.int i)) [some (.ref p)] _ Q' := fun i v Q' e q => ⟨_, rfl, p, _, _, _, rfl, rfl, at_ _ s6, e, q⟩
    have sc : scal nd (.int 1) = true := by
      rcases ok.ok.needs with ⟨i, e, _⟩ | ⟨z, e, _⟩ <;> cases e <;> rfl
    cases en with
    | none =>
      refine ix 4 _ _ rfl ⟨rfl, _, rfl, ?_⟩
      refine ifT rfl (ix 2 _ _ rfl ⟨sc, _, rfl, ?_⟩)
      refine ite2 (fun h1 => ?_) (fun h1 => ?_)
      · obtain rfl : nd = .int 1 := dT h1
        refine ix 0 _ _ rfl (ix 1 _ _ rfl (ix 3 _ _ rfl ⟨rfl, rfl, mk _ s6⟩))
      · exact ix 0 _ _ rfl (ix 3 _ _ rfl (ix 4 _ _ rfl (ix 1 _ _ rfl (ix 2 _ _ rfl ⟨rfl, rfl, mk _ s6⟩))))
    | some z =>
      refine ix 4 _ _ rfl ⟨rfl, _, rfl, ifF (by intro q; cases q) ?_⟩
      exact ix 0 _ _ rfl (ix 3 _ _ rfl (ix 4 _ _ rfl (ix 1 _ _ rfl (ix 2 _ _ rfl ⟨rfl, rfl, mk _ s6⟩))))
end L
namespace Hv
open PySem L2
theorem tru_own {X : Cx} {C : Addr} (hs : PySem.W.findIn X.K (.ref C) "__bool__" = some none) (hl : PySem.W.findIn X.K (.ref C) "__len__" = some none) :
    TruR X (fun x H Q => ∃ a dx fs, x = .ref a ∧ H a = some (.ins C dx fs) ∧ Q true H) := by
  intro pins s σ H x v Q I rx h
  obtain ⟨a, dx, fs, rfl, ha, q⟩ := h
  cases (show v = Value.ref a from rx)
  obtain ⟨mA, J, _⟩ := ins_get I.hok ha
  obtain ⟨od, J, _⟩ := J.look
  unfold truthy
  refine wpAny_bind (m := callSpecial? (.ref a) (Str.ofString "__bool__")) (wpAny_bind (wpAny_bind (J.type.here ((PySem.W.looks_findIn I.kIn hs).here (wpAny_pure ?_)))))
  refine wpAny_bind (wpAny_bind (J.type.here ((PySem.W.looks_findIn I.kIn hl).here ?_)))
  exact wpAny_pure ⟨H, I, q⟩
def sp_kshown (K : PySem.W.Frag) (C : Addr) : Sp := fun vs H Q _ => ∃ (x : Addr) (k : Kd), vs = [.ref x] ∧ KindAt K C H x k ∧ Fine k ∧ ∀ H', Same H H' → Q (.str (PyData.list k.ds).shown) H'
/-- whether two values are equal, one of them a kind -/
def sp_ksame (K : PySem.W.Frag) (C CR : Addr) : Sp := fun vs H Q _ => ∃ (x : Addr) (k : Kd) (y : V), vs = [.ref x, y] ∧ KindAt K C H x k ∧ Fine k ∧
  ((∃ z k2, y = .ref z ∧ KindAt K C H z k2 ∧ Fine k2 ∧ ∀ H', Same H H' → Q (.bl (PyData.eqv (.tuple k.ds) (.tuple k2.ds))) H') ∨
   (∃ T, Oth K H y ∧ TyX K H y (.type T) ∧ PySem.W.kitOne K (.type T) (.ref C) = some false ∧ ∀ H', Same H H' → Q (.bl false) H') ∨
   (∃ z dz pt, y = .ref z ∧ H z = some (.ins CR dz [("parts", .ref pt)]) ∧ ∀ H', Same H H' → Q (.bl false) H'))
theorem kind_eq {K : PySem.W.Frag} {C x z : Addr} {H : Hp} {k k2 : Kd} {Q : VK} {E : XK} (hx : KindAt K C H x k) (fk : Fine k) (hz : KindAt K C H z k2) (fk2 : Fine k2) (q : Q (.bl (PyData.eqv (.tuple k.ds) (.tuple k2.ds))) H) :
    sp_part_eq K C [.ref x, .ref z] H Q E := by
  obtain ⟨dx, pt, cl, h1, h2, h3⟩ := hx
  obtain ⟨dz, qt, cl2, g1, g2, g3⟩ := hz
  exact ⟨x, dx, pt, _, rfl, h1, .inl ⟨z, dz, qt, _, _, rfl, g1, .tup (SqT.of h2) (kd_dp fk.ok h3), .tup (SqT.of g2) (kd_dp fk2.ok g3), (Fit.tuple fk.fit).shaped (by decide), (Fit.tuple fk2.fit).shaped (by decide), q⟩⟩
theorem four_same (b : Bool) : [PyData.list [.bool true, .bool true, .bool true, .bool true], PyData.list [.bool false, .bool false, .bool false, .bool false]].any (fun z => PyData.eqv z (.list [.bool b, .bool b, .bool b, .bool b])) = true := by
  cases b <;> decide +kernel
end Hv
namespace L
open PySem L2 Hv
variable {P : Program} {w : World} {K : PySem.W.Frag} {mg : Str → Option Value} {base : Heap}
abbrev s_shown : Stmt := top 42
abbrev N_shown : List Str := ["_law_box"]
abbrev P_shown : List Str := ["_law_box"]
theorem sc_shown : FnScope N_shown P_shown (defScope s_shown) := ⟨rfl, rfl, rfl, by decide +kernel, rfl, by decide +kernel, by decide +kernel⟩
theorem ok_shown {C f f1 f2 f3 f4 f5 : Addr} {fd fd1 fd2 fd3 fd4 fd5 : FuncData} (D : DefAt K mg "_law_shown" s_shown P_shown f fd) (T : Txt K mg) (TL : OwnTxt K mg "Kind" C)
    (D_Kind_name : PropAt K C "name" "Kind.name" s_Kind_name P_Kind_name f1 fd1) (D_Kind_talks : PropAt K C "talks" "Kind.talks" s_Kind_talks P_Kind_talks f2 fd2) (D_Kind_needs : PropAt K C "needs" "Kind.needs" s_Kind_needs P_Kind_needs f3 fd3)
    (D_Kind_closing : PropAt K C "closing" "Kind.closing" s_Kind_closing P_Kind_closing f4 fd4) (D_Kind_ends : PropAt K C "ends" "Kind.ends" s_Kind_ends P_Kind_ends f5 fd5) : OkG P w K mg base CX0 3 f fd P_shown (sp_kshown K C) := by
  have G_Kind_name : FnOk P w K mg base CX0 1 f1 fd1 P_Kind_name (sp_part C 0) := ok_Kind_name D_Kind_name TL.c TL.na
  have G_Kind_talks : FnOk P w K mg base CX0 1 f2 fd2 P_Kind_talks (sp_part C 1) := ok_Kind_talks D_Kind_talks TL.c TL.na
  have G_Kind_needs : FnOk P w K mg base CX0 1 f3 fd3 P_Kind_needs (sp_part C 2) := ok_Kind_needs D_Kind_needs TL.c TL.na
  have G_Kind_closing : FnOk P w K mg base CX0 1 f4 fd4 P_Kind_closing (sp_part C 3) := ok_Kind_closing D_Kind_closing TL.c TL.na
  have G_Kind_ends : FnOk P w K mg base CX0 1 f5 fd5 P_Kind_ends (sp_part C 4) := ok_Kind_ends D_Kind_ends TL.c TL.na
  refine okG0 D.fn sc_shown (fun vs H Q E h => ?_) (fun cdv A outer s H vs Q E hG hr h => ?_)
  · obtain ⟨x, k, rfl, _⟩ := h
    rfl
  · obtain ⟨x, k, rfl, ⟨dx, pt, cl, h1, h2, h3⟩, fk, ret⟩ := h
    refine ⟨_, (pss_one (ps_ret (pe_callB (cr_repr hG hr.units) (by rfl) T.repr (by decide +kernel) (pa_cons (pe_lst (pa_cons (pe_propD (pv 0) TL.c D_Kind_name.pr G_Kind_name D_Kind_name.bd (hr.mono (by decide))) (pa_cons (pe_propD (pv 0) TL.c D_Kind_talks.pr G_Kind_talks D_Kind_talks.bd (hr.mono (by decide))) (pa_cons (pe_propD (pv 0) TL.c D_Kind_needs.pr G_Kind_needs D_Kind_needs.bd (hr.mono (by decide))) (pa_cons (pe_propD (pv 0) TL.c D_Kind_closing.pr G_Kind_closing D_Kind_closing.bd (hr.mono (by decide))) (pa_cons (pe_propD (pv 0) TL.c D_Kind_ends.pr G_Kind_ends D_Kind_ends.bd (hr.mono (by decide))) pa_nil)))))) pa_nil)))), ?_⟩
    have at_ : ∀ (i : Int) (v : V) (Q' : VK), atI [.str k.name, .int k.talks, k.needs, cl, endsV k.ends] i = some v → Q' v H → tProp C (sp_part C i) [] E0 (tVar 0) (start N_shown [.ref x]) H Q' := fun i v Q' e q =>
      ⟨_, rfl, x, dx, _, rfl, h1, x, dx, pt, _, v, rfl, h1, h2, e, q⟩
    refine at_ 0 _ _ rfl (at_ 1 _ _ rfl (at_ 2 _ _ rfl (at_ 3 _ _ rfl (at_ 4 _ _ rfl ⟨by show 5 ≤ sizeLine; decide, fun p np => ?_⟩))))
    have s1 := same_new (o := .lst [.str k.name, .int k.talks, k.needs, cl, endsV k.ends]) np
    exact (Fit.list fk.fit).repr (.lst (SqL.of upd_same) (kd_dp fk.ok (h3.same s1))) (by decide) (by decide) (ret _ s1)
abbrev s_same : Stmt := top 43
abbrev N_same : List Str := ["_law_box", "_law_other", "_law_told"]
abbrev P_same : List Str := ["_law_box", "_law_other"]
theorem sc_same : FnScope N_same P_same (defScope s_same) := ⟨rfl, rfl, rfl, by decide +kernel, rfl, by decide +kernel, by decide +kernel⟩
theorem ok_same {C CR f f1 f2 : Addr} {fd fd1 fd2 : FuncData} (D : DefAt K mg "_law_same" s_same P_same f fd) (T : Txt K mg) (TL : OwnTxt K mg "Kind" C) (TR : OwnTxt K mg "Row" CR)
    (D_Kind_eq : MethAt K C "__eq__" "Kind.__eq__" s_Kind_eq P_Kind_eq f1 fd1) (D_Row_eq : MethAt K CR "__eq__" "Row.__eq__" s_Row_eq P_Row_eq f2 fd2) (EK : EqO K C f1) (ER : EqO K CR f2)
    (n1 : PySem.W.notFirst K C (.ref C) = true) (n2 : PySem.W.notFirst K C (.ref CR) = true) (n3 : PySem.W.notFirst K CR (.ref C) = true)
    (k1 : PySem.W.kitOne K (.ref CR) (.ref C) = some false) (k2 : PySem.W.kitOne K (.ref C) (.ref CR) = some false) : FnOk P w K mg base CX0 3 f fd P_same (sp_ksame K C CR) := by
  have R_Kind_eq : FnR P w K mg base CX0 1 f1 (sp_part_eq K C) := raw_ok (ok_Kind_eq D_Kind_eq T TL) D_Kind_eq.bd
  have R_Row_eq : FnR P w K mg base CX0 1 f2 (sp_part_eq K CR) := raw_ok (ok_Row_eq D_Row_eq T TR) D_Row_eq.bd
  refine D.fn.ok sc_same (fun vs H Q E h => ?_) (fun cdv A outer s H vs Q E hr h => ?_)
  · obtain ⟨x, k, y, rfl, _⟩ := h
    rfl
  · obtain ⟨x, k, y, rfl, hx, fk, h⟩ := h
    refine ⟨_, (pss_cons (ps_asg (pe_lst (pa_cons (pe_cmpR (op_eqOwnL EK R_Kind_eq (hr.mono (by decide)) pass0) (pv 0) (pv 1) (nomark _)) (pa_cons (pe_cmpR (op_or (op_eqOwnL EK R_Kind_eq (hr.mono (by decide)) pass0) (op_or (op_eqOwnL ER R_Row_eq (hr.mono (by decide)) pass0) (op_eqOwnR EK R_Kind_eq (hr.mono (by decide)) pass0))) (pv 1) (pv 0) (nomark _)) (pa_cons (pe_not (pe_cmpR (op_neOwnL EK R_Kind_eq (hr.mono (by decide)) pass0) (pv 0) (pv 1) (nomark _))) (pa_cons (pe_not (pe_cmpR (op_or (op_neOwnL EK R_Kind_eq (hr.mono (by decide)) pass0) (op_or (op_neOwnL ER R_Row_eq (hr.mono (by decide)) pass0) (op_neOwnR EK R_Kind_eq (hr.mono (by decide)) pass0))) (pv 1) (pv 0) (nomark _))) pa_nil))))) (pg_name (i := 2) sc_same.nd rfl (.inl rfl)))
      (pss_one (ps_ret (pe_ifExp (pt_cmpR (op_inD (units65 hr)) (pv 2) (pe_lst (pa_cons (pe_op op_rep (pe_lst (pa_cons pe_bl pa_nil)) pe_int) (pa_cons (pe_op op_rep (pe_lst (pa_cons pe_bl pa_nil)) pe_int) pa_nil))) (by rfl)) (pe_ix ix_list (pv 2) pe_int (fun _ _ => rfl)) pe_non)))), ?_⟩
    obtain ⟨dx, pt, cl, h1, h2, h3⟩ := id hx
    refine join_asg (fun v H' => ∃ t b, v = .ref t ∧ H t = none ∧ H' = upd H t (.lst [.bl b, .bl b, .bl b, .bl b]) ∧ ∀ H', Same H H' → Q (.bl b) H') (fun Q' fin => ?_) ?_
    · rcases h with ⟨z, k2, rfl, hz, fk2, ret⟩ | ⟨T', oth, ty, kt, ret⟩ | ⟨z, dz, qt, rfl, hz, ret⟩
      · obtain ⟨dz, qt, cl2, g1, g2, g3⟩ := id hz
        have m1 : Mate K C H (.ref z) := .inr ⟨z, C, dz, _, rfl, g1, n1⟩
        have m2 : Mate K C H (.ref x) := .inr ⟨x, C, dx, _, rfl, h1, n1⟩
        refine ⟨_, rfl, _, rfl, x, dx, _, rfl, h1, m1, kind_eq hx fk hz fk2 ⟨_, rfl, ?_⟩⟩
        refine ⟨_, rfl, _, rfl, .inl ⟨z, dz, _, rfl, g1, m2, kind_eq hz fk2 hx fk ⟨_, rfl, ?_⟩⟩⟩
        refine ⟨_, rfl, _, rfl, x, dx, _, rfl, h1, m1, kind_eq hx fk hz fk2 ⟨_, rfl, ?_⟩⟩
        refine ⟨_, rfl, _, rfl, _, rfl, .inl ⟨z, dz, _, rfl, g1, m2, kind_eq hz fk2 hx fk ⟨_, rfl, ?_⟩⟩⟩
        refine ⟨_, rfl, by show 4 ≤ sizeLine; decide, fun t nt => fin _ _ ⟨t, _, rfl, nt, ?_, ret⟩⟩
        rw [PySem.W.eqv_comm (.tuple k2.ds) (.tuple k.ds)]
        simp
      · have no : ∀ (Q : VK), Q (.bl false) H → sp_part_eq K C [.ref x, y] H Q E0 := fun Q q => ⟨x, dx, pt, y, rfl, h1, .inr ⟨_, ty, kt, q⟩⟩
        refine ⟨_, rfl, _, rfl, x, dx, _, rfl, h1, .inl oth, no _ ⟨_, rfl, ?_⟩⟩
        refine ⟨_, rfl, _, rfl, .inr (.inr ⟨x, dx, _, rfl, h1, oth, no _ ⟨_, rfl, ?_⟩⟩)⟩
        refine ⟨_, rfl, _, rfl, x, dx, _, rfl, h1, .inl oth, no _ ⟨_, rfl, ?_⟩⟩
        refine ⟨_, rfl, _, rfl, _, rfl, .inr (.inr ⟨x, dx, _, rfl, h1, oth, no _ ⟨_, rfl, ?_⟩⟩)⟩
        exact ⟨_, rfl, by show 4 ≤ sizeLine; decide, fun t nt => fin _ _ ⟨t, false, rfl, nt, rfl, ret⟩⟩
      · have no : ∀ (Q : VK), Q (.bl false) H → sp_part_eq K C [.ref x, .ref z] H Q E0 := fun Q q => ⟨x, dx, pt, _, rfl, h1, .inr ⟨_, .base (.ins hz TR.c TR.ha TR.hn TR.htk TR.hm), k1, q⟩⟩
        have no2 : ∀ (Q : VK), Q (.bl false) H → sp_part_eq K CR [.ref z, .ref x] H Q E0 := fun Q q => ⟨z, dz, qt, _, rfl, hz, .inr ⟨_, .base (.ins h1 TL.c TL.ha TL.hn TL.htk TL.hm), k2, q⟩⟩
        have m1 : Mate K C H (.ref z) := .inr ⟨z, CR, dz, _, rfl, hz, n2⟩
        have m2 : Mate K CR H (.ref x) := .inr ⟨x, C, dx, _, rfl, h1, n3⟩
        refine ⟨_, rfl, _, rfl, x, dx, _, rfl, h1, m1, no _ ⟨_, rfl, ?_⟩⟩
        refine ⟨_, rfl, _, rfl, .inr (.inl ⟨z, dz, _, rfl, hz, m2, no2 _ ⟨_, rfl, ?_⟩⟩)⟩
        refine ⟨_, rfl, _, rfl, x, dx, _, rfl, h1, m1, no _ ⟨_, rfl, ?_⟩⟩
        refine ⟨_, rfl, _, rfl, _, rfl, .inr (.inl ⟨z, dz, _, rfl, hz, m2, no2 _ ⟨_, rfl, ?_⟩⟩)⟩
        exact ⟨_, rfl, by show 4 ≤ sizeLine; decide, fun t nt => fin _ _ ⟨t, false, rfl, nt, rfl, ret⟩⟩
    rintro _ _ ⟨t, b, rfl, nt, rfl, ret⟩
    have s0 := same_new (o := .lst [.bl b, .bl b, .bl b, .bl b]) nt
    refine ⟨_, rfl, by show 1 ≤ sizeLine; decide, fun p1 n1 => ⟨p1, _, _, rfl, rfl, upd_same, by decide, by decide, by decide, fun p2 n2 => ?_⟩⟩
    have s2 := (same_new (o := .lst [.bl true]) n1).trans (same_new (o := .lst [.bl true, .bl true, .bl true, .bl true]) n2)
    refine ⟨by show 1 ≤ sizeLine; decide, fun p3 n3 => ⟨p3, _, _, rfl, rfl, upd_same, by decide, by decide, by decide, fun p4 n4 => ?_⟩⟩
    have s4 := (same_new (o := .lst [.bl false]) n3).trans (same_new (o := .lst [.bl false, .bl false, .bl false, .bl false]) n4)
    refine ⟨by show 2 ≤ sizeLine; decide, fun p5 n5 => ?_⟩
    have s5 := same_new (o := .lst [.ref p2, .ref p4]) n5
    have h0 := s5 _ _ (s4 _ _ (s2 _ _ (upd_same (H := H) (a := t) (o := .lst [.bl b, .bl b, .bl b, .bl b]))))
    refine ⟨.list [.bool b, .bool b, .bool b, .bool b], [.list [.bool true, .bool true, .bool true, .bool true], .list [.bool false, .bool false, .bool false, .bool false]],
      .lst (SqL.of h0) (.cons (.bl _) (.cons (.bl _) (.cons (.bl _) (.cons (.bl _) .nil)))),
      .lst (SqL.of upd_same) (.cons (.lst (SqL.of (s5 _ _ (s4 _ _ upd_same))) (.cons (.bl _) (.cons (.bl _) (.cons (.bl _) (.cons (.bl _) .nil)))))
        (.cons (.lst (SqL.of (s5 _ _ upd_same)) (.cons (.bl _) (.cons (.bl _) (.cons (.bl _) (.cons (.bl _) .nil))))) .nil)), by cases b <;> decide +kernel, by decide +kernel, _, rfl, ?_⟩
    rw [four_same b]
    refine iteT ⟨_, rfl, t, _, _, _, rfl, rfl, SqL.of h0, rfl, ret _ (((s0.trans s2).trans s4).trans s5)⟩
end L
namespace Hv
open PySem L2
theorem KindAt.but {K : PySem.W.Frag} {C a b : Addr} {n : Nat} {H H' : Hp} {k : Kd} (h : KindAt K C H a k) (hb : Bag H b n) (e : But b H H') : KindAt K C H' a k := by
  obtain ⟨dx, pt, cl, h1, h2, h3⟩ := h
  have c := h3.but hb e
  obtain ⟨s, d, m, hb, _⟩ := hb
  exact ⟨dx, pt, cl, e _ _ (ne_of h1 hb (by intro q; cases q)) h1, e _ _ (ne_of h2 hb (by intro q; cases q)) h2, c⟩
theorem fit_shown {k : Kd} (h : Fine k) : Fit (.str (PyData.list k.ds).shown) 1 sizeLine := .str (shown_ok _ (Fit.list h.fit).lay) ((Fit.list h.fit).line (by decide))
theorem free_ok {k : Kd} (h : Fine k) : RowOk k.name k.name (Str.ofString "free") :=
  ⟨h.ok.name, h.ok.len, h.ok.name, h.ok.len, by decide +kernel, by decide +kernel, by decide +kernel⟩
def sp_kright (K : PySem.W.Frag) : Sp := fun vs H Q _ => ∃ (b bl : Addr) (n : Nat), vs = [.ref b, .ref bl] ∧ Bag H b n ∧ n < 600000 ∧ SqL K H bl (BL.map V.str) ∧ bl ≠ b ∧ ∀ H', But b H H' → Bag H' b (n + 60) → Q (.bl true) H'
/-- what a kind is compared with -/
def Odd (K : PySem.W.Frag) (C CR : Addr) (H : Hp) (y : V) : Prop := (∃ T, Oth K H y ∧ TyX K H y (.type T) ∧ PySem.W.kitOne K (.type T) (.ref C) = some false) ∨ ∃ z dz pt, y = .ref z ∧ H z = some (.ins CR dz [("parts", .ref pt)])
structure KitNo (K : PySem.W.Frag) (C : Addr) : Prop where
  u1 : PySem.W.kitOne K (.type "NoneType") (.ref C) = some false
  u2 : PySem.W.kitOne K (.type "int") (.ref C) = some false
  u3 : PySem.W.kitOne K (.type "bool") (.ref C) = some false
  u4 : PySem.W.kitOne K (.type "str") (.ref C) = some false
  u5 : PySem.W.kitOne K (.type "list") (.ref C) = some false
  u6 : PySem.W.kitOne K (.type "tuple") (.ref C) = some false
end Hv
namespace L
open PySem L2 Hv
variable {P : Program} {w : World} {K : PySem.W.Frag} {mg : Str → Option Value} {base : Heap}
abbrev s_right : Stmt := top 44
abbrev N_right : List Str := ["_law_bag_here", "_law_bounds_here", "_law_row", "_law_mate", "_law_box", "_law_twin", "_law_other", "_law_odd"]
abbrev P_right : List Str := ["_law_bag_here", "_law_bounds_here"]
theorem sc_right : FnScope N_right P_right (defScope s_right) := ⟨rfl, rfl, rfl, by decide +kernel, rfl, by decide +kernel, by decide +kernel⟩
theorem ok_right {C CR f f1 f2 f3 f4 f5 f6 f7 f8 : Addr} {fd fd1 fd2 fd3 fd4 fd5 fd6 fd7 fd8 : FuncData} (D : DefAt K mg "_law_right" s_right P_right f fd) (T : Txt K mg) (TR : OwnTxt K mg "Row" CR) (TRU_Kind : PySem.W.findIn K (.ref C) "__bool__" = some none ∧ PySem.W.findIn K (.ref C) "__len__" = some none)
    (kn : KitNo K C)
    (D_take : DefAt K mg "_law_take" s_take P_take f1 fd1)
    (D_drawn : DefAt K mg "_law_drawn" s_drawn P_drawn f2 fd2) (G_drawn : FnOk P w K mg base CX0 3 f2 fd2 P_drawn (sp_drawn K))
    (D_otherwise : DefAt K mg "_law_otherwise" s_otherwise P_otherwise f3 fd3) (G_otherwise : FnOk P w K mg base CX0 4 f3 fd3 P_otherwise (sp_otherwise K))
    (D_made : DefAt K mg "_law_made" s_made P_made f4 fd4) (G_made : FnOk P w K mg base CX0 7 f4 fd4 P_made (sp_mk K C))
    (D_short : DefAt K mg "_law_short" s_short P_short f5 fd5) (G_short : FnOk P w K mg base CX0 7 f5 fd5 P_short (sp_mk K C))
    (D_shown : DefAt K mg "_law_shown" s_shown P_shown f6 fd6) (G_shown : OkG P w K mg base CX0 3 f6 fd6 P_shown (sp_kshown K C))
    (D_same : DefAt K mg "_law_same" s_same P_same f7 fd7) (G_same : FnOk P w K mg base CX0 3 f7 fd7 P_same (sp_ksame K C CR))
    (M_Row : Mk K CR f8) (D_Row_init : MethAt K CR "__init__" "Row.__init__" s_Row_init P_Row_init f8 fd8) (G_Row_init : FnOk P w K mg base CX0 3 f8 fd8 P_Row_init (sp_row_init CR)) :
    OkG P w K mg base CX0 8 f fd P_right (sp_kright K) := by
  have G_take : FnOk P w K mg base CX0 1 f1 fd1 P_take sp_take := ok_take D_take T
  refine okG0 D.fn sc_right (fun vs H Q E h => ?_) (fun cdv A outer s H vs Q E hG hr h => ?_)
  · obtain ⟨b, bl, n, rfl, _⟩ := h
    rfl
  · obtain ⟨b, bl, n, rfl, hb, hn, hS, nb, ret⟩ := h
    refine ⟨_, (pss_cons (ps_asg (pe_call G_drawn (hr.mono (by decide)) rfl D_drawn.mg D_drawn.fn.kp D_drawn.bd .nil pass0 (pa_cons (pv 0) (pa_cons (pv 1) pa_nil))) (pg_name (i := 2) sc_right.nd rfl (.inl rfl)))
      (pss_cons (ps_asg (pe_call G_otherwise (hr.mono (by decide)) rfl D_otherwise.mg D_otherwise.fn.kp D_otherwise.bd .nil pass0 (pa_cons (pv 0) (pa_cons (pv 2) (pa_cons (pv 1) pa_nil)))) (pg_name (i := 3) sc_right.nd rfl (.inl rfl)))
      (pss_cons (ps_par3 (i := 4) (j := 5) (l := 6) (by rfl) sc_right.nd rfl rfl rfl (by decide) (by decide) (by decide) rfl rfl rfl (pa_cons (pe_call G_made (hr.mono (by decide)) rfl D_made.mg D_made.fn.kp D_made.bd .nil pass0 (pa_cons (pv 2) pa_nil)) (pa_cons (pe_call G_short (hr.mono (by decide)) rfl D_short.mg D_short.fn.kp D_short.bd .nil pass0 (pa_cons (pv 2) pa_nil)) (pa_cons (pe_call G_made (hr.mono (by decide)) rfl D_made.mg D_made.fn.kp D_made.bd .nil pass0 (pa_cons (pv 3) pa_nil)) pa_nil))) (by rfl))
      (pss_cons (ps_if (pt_cmpR (op_neD hr.units) (pe_lst (pa_cons (pe_callG G_shown hG (hr.mono (by decide)) rfl D_shown.mg D_shown.fn.kp D_shown.bd .nil pass0 (pa_cons (pv 4) pa_nil)) (pa_cons (pe_callG G_shown hG (hr.mono (by decide)) rfl D_shown.mg D_shown.fn.kp D_shown.bd .nil pass0 (pa_cons (pv 5) pa_nil)) (pa_cons (pe_callG G_shown hG (hr.mono (by decide)) rfl D_shown.mg D_shown.fn.kp D_shown.bd .nil pass0 (pa_cons (pv 6) pa_nil)) pa_nil)))) (pe_lst (pa_cons (pe_callB (cr_repr hG hr.units) (by rfl) T.repr (by decide +kernel) (pa_cons (pv 2) pa_nil)) (pa_cons (pe_callB (cr_repr hG hr.units) (by rfl) T.repr (by decide +kernel) (pa_cons (pv 2) pa_nil)) (pa_cons (pe_callB (cr_repr hG hr.units) (by rfl) T.repr (by decide +kernel) (pa_cons (pv 3) pa_nil)) pa_nil)))) (nomark _))
      (pss_one (ps_ret pe_bl))
      pss_nil)
      (pss_cons (ps_if (PW.pt (pw_or (pt_cmpR op_notBl (pe_call G_same (hr.mono (by decide)) rfl D_same.mg D_same.fn.kp D_same.bd .nil pass0 (pa_cons (pv 4) (pa_cons (pv 5) pa_nil))) pe_bl (nomark _)) (pw_or1 (pt_cmpR op_ne (pe_call G_same (hr.mono (by decide)) rfl D_same.mg D_same.fn.kp D_same.bd .nil pass0 (pa_cons (pv 4) (pa_cons (pv 6) pa_nil))) (pe_cmpR (op_eqD hr.units) (pv 2) (pv 3) (nomark _)) (nomark _)))))
      (pss_one (ps_ret pe_bl))
      pss_nil)
      (pss_cons (ps_asg (pe_ix ix_list (pe_lst (pa_cons (pe_ix ix_list (pv 2) pe_int (fun _ _ => rfl)) (pa_cons (pe_callTy call_tuple_of (by rfl) T.tuple (by decide +kernel) (pa_cons (pv 2) pa_nil)) (pa_cons (pe_callTy call_list_of (by rfl) T.list (by decide +kernel) (pa_cons (pv 2) pa_nil)) (pa_cons pe_non (pa_cons pe_int (pa_cons pe_bl (pa_cons (pe_tup pa_nil) (pa_cons (pe_make M_Row G_Row_init (hr.mono (by decide)) rfl TR.mg D_Row_init.bd .nil pass0 (pa_cons (pe_ix ix_list (pv 2) pe_int (fun _ _ => rfl)) (pa_cons (pe_ix ix_list (pv 2) pe_int (fun _ _ => rfl)) (pa_cons pe_str pa_nil)))) pa_nil))))))))) (pe_call G_take (hr.mono (by decide)) rfl D_take.mg D_take.fn.kp D_take.bd .nil pass0 (pa_cons (pv 0) (pa_cons pe_int pa_nil))) (fun _ _ => rfl)) (pg_name (i := 7) sc_right.nd rfl (.inl rfl)))
      (pss_cons (ps_if (PW.pt (pw_or (pt_cmpR op_notBl (pe_call G_same (hr.mono (by decide)) rfl D_same.mg D_same.fn.kp D_same.bd .nil pass0 (pa_cons (pv 4) (pa_cons (pv 7) pa_nil))) pe_bl (nomark _)) (pw_or1 (pt_not (pt_truthR (pv 4) (tru_own TRU_Kind.1 TRU_Kind.2) (by intro _; rfl))))))
      (pss_one (ps_ret pe_bl))
      pss_nil)
      (pss_one (ps_ret (pe_cmpR (op_eqD hr.units) (pe_lst (pa_cons (pe_callG G_shown hG (hr.mono (by decide)) rfl D_shown.mg D_shown.fn.kp D_shown.bd .nil pass0 (pa_cons (pv 4) pa_nil)) (pa_cons (pe_callG G_shown hG (hr.mono (by decide)) rfl D_shown.mg D_shown.fn.kp D_shown.bd .nil pass0 (pa_cons (pv 6) pa_nil)) pa_nil))) (pe_lst (pa_cons (pe_callB (cr_repr hG hr.units) (by rfl) T.repr (by decide +kernel) (pa_cons (pv 2) pa_nil)) (pa_cons (pe_callB (cr_repr hG hr.units) (by rfl) T.repr (by decide +kernel) (pa_cons (pv 3) pa_nil)) pa_nil))) (nomark _))))))))))), ?_⟩
    refine ⟨_, rfl, _, rfl, b, bl, n, rfl, hb, by omega, hS, nb, fun p k H1 p0 u1 b1 r1 fk => ?_⟩
    have pb : p ≠ b := fun q => by
      rw [q] at p0
      obtain ⟨_, _, _, hb, _⟩ := hb
      rw [p0] at hb
      cases hb
    refine ⟨_, rfl, _, rfl, _, rfl, b, p, bl, k, n + 20, rfl, b1, by omega, r1, fk, pb, u1.seq nb hS, nb, fun q k2 H2 q0 u2 b2 r2 fk2 => ?_⟩
    have r1 := r1.but b1 pb u2
    refine ⟨_, rfl, p, k, rfl, r1, fk, fun x H3 x0 s3 kx => ?_⟩
    refine ⟨_, rfl, p, k, rfl, r1.same s3, fk, fun y H4 y0 s4 ky => ?_⟩
    refine ⟨_, rfl, q, k2, rfl, (r2.same s3).same s4, fk2, fun z H5 z0 s5 kz => ⟨_, _, _, rfl, ?_⟩⟩
    have e5 : But b H H5 := (u1.trans u2).trans (But.of ((s3.trans s4).trans s5))
    have b5 : Bag H5 b (n + 41) := b2.same ((s3.trans s4).trans s5)
    have r1 := r1.same ((s3.trans s4).trans s5)
    have r2 := r2.same ((s3.trans s4).trans s5)
    have kx := kx.same (s4.trans s5)
    have ky := ky.same s5
    clear u1 u2 b1 b2 s3 s4 s5 x0 y0 z0 q0
    have nS : ∀ H', Same H5 H' → SqL K H' p _ := fun H' s' => SqL.of (s' _ _ r1.choose_spec.1)
    dsimp only
    refine join_no (fun H' => Same H5 H') (fun Q' fin => ?_) ?_
    · refine ⟨_, rfl, x, k, rfl, kx, fk, fun H6 s6 => ⟨_, rfl, y, k, rfl, ky.same s6, fk, fun H7 s7 => ⟨_, rfl, z, k2, rfl, kz.same (s6.trans s7), fk2, fun H8 s8 => ⟨by show 3 ≤ sizeLine; decide, fun t1 nt1 => ?_⟩⟩⟩⟩
      have s9 := ((s6.trans s7).trans s8).trans (same_new (o := .lst [.str (PyData.list k.ds).shown, .str (PyData.list k.ds).shown, .str (PyData.list k2.ds).shown]) nt1)
      obtain ⟨cl1, h1, c1⟩ := r1.same s9
      obtain ⟨cl2, h2, c2⟩ := r2.same s9
      refine ⟨_, rfl, (Fit.list fk.fit).repr (.lst (SqL.of h1) (kd_dp fk.ok c1)) (by decide) (by decide) ⟨_, rfl, (Fit.list fk.fit).repr (.lst (SqL.of h1) (kd_dp fk.ok c1)) (by decide) (by decide)
        ⟨_, rfl, (Fit.list fk2.fit).repr (.lst (SqL.of h2) (kd_dp fk2.ok c2)) (by decide) (by decide) ⟨by show 3 ≤ sizeLine; decide, fun t2 nt2 => ?_⟩⟩⟩⟩
      have F := Fit.list (.cons (fit_shown fk) (.cons (fit_shown fk) (.cons (fit_shown fk2) (.nil (n := 0)))))
      refine ⟨_, _, .lst (SqL.of (same_new nt2 _ _ upd_same)) (.cons (.str _) (.cons (.str _) (.cons (.str _) .nil))), .lst (SqL.of upd_same) (.cons (.str _) (.cons (.str _) (.cons (.str _) .nil))), F.shaped (by decide), F.shaped (by decide), _, rfl, fin _ _ ?_ (s9.trans (same_new nt2))⟩
      rw [F.eqv]
      rfl
    intro H6 s6
    refine join_no (fun H' => Same H5 H') (fun Q' fin => ?_) ?_
    · refine ⟨_, rfl, _, rfl, x, k, _, rfl, kx.same s6, fk, .inl ⟨y, k, rfl, ky.same s6, fk, fun H7 s7 => ⟨_, _, rfl, rfl, _, rfl, ?_⟩⟩⟩
      rw [(Fit.tuple fk.fit).eqv]
      have s67 := s6.trans s7
      refine iteF ⟨_, rfl, _, rfl, x, k, _, rfl, kx.same s67, fk, .inl ⟨z, k2, rfl, kz.same s67, fk2, fun H8 s8 => ?_⟩⟩
      obtain ⟨cl1, h1, c1⟩ := r1.same (s67.trans s8)
      obtain ⟨cl2, h2, c2⟩ := r2.same (s67.trans s8)
      refine ⟨_, rfl, _, rfl, .list k.ds, .list k2.ds, .lst (SqL.of h1) (kd_dp fk.ok c1), .lst (SqL.of h2) (kd_dp fk2.ok c2), (Fit.list fk.fit).shaped (by decide), (Fit.list fk2.fit).shaped (by decide), rfl, _, rfl, fin _ _ ?_ (s67.trans s8)⟩
      simp [PyData.eqv]
    intro H7 s7
    obtain ⟨cl1, hp7, c1⟩ := r1.same s7
    have b7 := b5.same s7
    refine join_asg (fun v H' => Odd K C CR H' v ∧ But b H7 H' ∧ Bag H' b (n + 42)) (fun Q' fin => ?_) ?_
    · have S := SqL.of (K := K) hp7
      refine ⟨_, rfl, p, _, _, _, rfl, rfl, S, rfl, _, rfl, p, _, rfl, .inl ⟨S, fun t1 n1 => ?_⟩⟩
      have s1 := same_new (o := .tup [.str k.name, .int k.talks, k.needs, cl1, endsV k.ends]) n1
      refine ⟨_, rfl, p, _, rfl, .inl (SqL.of (s1 _ _ hp7)), fun t2 n2 => ?_⟩
      have s2 := s1.trans (same_new (o := .lst [.str k.name, .int k.talks, k.needs, cl1, endsV k.ends]) n2)
      refine ⟨by decide, fun t3 n3 => ?_⟩
      have s3 := s2.trans (same_new (o := .tup []) n3)
      have h1 := same_new (o := .tup []) n3 _ _ (same_new (o := .lst [.str k.name, .int k.talks, k.needs, cl1, endsV k.ends]) n2 _ _ (upd_same (H := H7) (a := t1) (o := .tup [.str k.name, .int k.talks, k.needs, cl1, endsV k.ends])))
      have h2 := same_new (o := .tup []) n3 _ _ (upd_same (H := upd H7 t1 (.tup [.str k.name, .int k.talks, k.needs, cl1, endsV k.ends])) (a := t2) (o := .lst [.str k.name, .int k.talks, k.needs, cl1, endsV k.ends]))
      refine ⟨_, rfl, p, _, _, _, rfl, rfl, SqL.of (s3 _ _ hp7), rfl, _, rfl, p, _, _, _, rfl, rfl, SqL.of (s3 _ _ hp7), rfl, fun x' dx' nx ndx ne => ?_⟩
      have s4 := s3.trans (fun c o e => by
        rw [upd_ne (ne_of_none e nx), upd_ne (ne_of_none e ndx)]
        exact e : Same _ (upd (upd _ dx' (.own x')) x' (.ins CR dx' [])))
      refine ⟨x', dx', k.name, k.name, Str.ofString "free", rfl, free_ok fk, upd_same, by rw [upd_ne ne, upd_same], ne, fun H9 keep hrow => ⟨rfl, by show 8 ≤ sizeLine; decide, fun L hL => ?_⟩⟩
      have s5 : Same H7 H9 := fun c o e => keep c o (ne_of_none (s3 _ _ e) nx) (s4 _ _ e)
      have k5 : ∀ c o, upd (upd (upd H7 t1 (.tup [.str k.name, .int k.talks, k.needs, cl1, endsV k.ends])) t2 (.lst [.str k.name, .int k.talks, k.needs, cl1, endsV k.ends])) t3 (.tup []) c = some o → H9 c = some o := fun c o e => keep c o (ne_of_none e nx) (by rw [upd_ne (ne_of_none e nx), upd_ne (ne_of_none e ndx)]; exact e)
      have g1 := k5 _ _ h1
      have g2 := k5 _ _ h2
      have g3 := k5 t3 (.tup []) upd_same
      obtain ⟨dz, pt, hr1, hr2⟩ := hrow
      have s6 := same_new (o := .lst [.str k.name, .ref t1, .ref t2, .non, .int 0, .bl true, .ref t3, .ref x']) hL
      have b9 := b7.same (s5.trans s6)
      have nLb : L ≠ b := (b7.same s5).ne_none hL
      refine ⟨_, rfl, b, 8, n + 41, rfl, b9, by omega, by decide, by decide, fun r H10 u10 b10 r0 r1 => ?_⟩
      have mv : ∀ c o, H9 c = some o → c ≠ b → H10 c = some o := fun c o e ne => u10 _ _ ne (s6 _ _ e)
      have nb9 : ∀ c o, H9 c = some o → (∀ xs, o ≠ .lst xs) → c ≠ b := fun c o e ne q => by
        obtain ⟨_, _, _, hb, _⟩ := b7.same s5
        rw [q, hb] at e
        exact ne _ (Option.some.inj e).symm
      have t2b : t2 ≠ b := (b7.same s1).ne_none n2
      have hL10 := u10 _ _ nLb upd_same
      have fin' : ∀ v, Odd K C CR H10 v → Q' v H10 := fun v o => fin v H10 ⟨o, (But.of (s5.trans s6)).trans u10, b10⟩
      have gg1 := mv _ _ g1 (nb9 _ _ g1 (by intro xs q; cases q))
      have gg2 := mv _ _ g2 t2b
      have gg3 := mv _ _ g3 (nb9 _ _ g3 (by intro xs q; cases q))
      have ggx := mv _ _ hr1 (nb9 _ _ hr1 (by intro xs q; cases q))
      rcases (show r = 0 ∨ r = 1 ∨ r = 2 ∨ r = 3 ∨ r = 4 ∨ r = 5 ∨ r = 6 ∨ r = 7 by omega) with rfl | rfl | rfl | rfl | rfl | rfl | rfl | rfl
      · exact ⟨L, _, _, _, rfl, rfl, SqL.of hL10, rfl, fin' _ (.inl ⟨_, .str _, .base (.str _), kn.u4⟩)⟩
      · exact ⟨L, _, _, _, rfl, rfl, SqL.of hL10, rfl, fin' _ (.inl ⟨_, .tup _ _ (SqT.of gg1), .base (.tup gg1), kn.u6⟩)⟩
      · exact ⟨L, _, _, _, rfl, rfl, SqL.of hL10, rfl, fin' _ (.inl ⟨_, .lst _ _ gg2, .base (.lst gg2), kn.u5⟩)⟩
      · exact ⟨L, _, _, _, rfl, rfl, SqL.of hL10, rfl, fin' _ (.inl ⟨_, .non, .base .non, kn.u1⟩)⟩
      · exact ⟨L, _, _, _, rfl, rfl, SqL.of hL10, rfl, fin' _ (.inl ⟨_, .int _, .base (.int _), kn.u2⟩)⟩
      · exact ⟨L, _, _, _, rfl, rfl, SqL.of hL10, rfl, fin' _ (.inl ⟨_, .bl _, .base (.bl _), kn.u3⟩)⟩
      · exact ⟨L, _, _, _, rfl, rfl, SqL.of hL10, rfl, fin' _ (.inl ⟨_, .tup _ _ (SqT.of gg3), .base (.tup gg3), kn.u6⟩)⟩
      · exact ⟨L, _, _, _, rfl, rfl, SqL.of hL10, rfl, fin' _ (.inr ⟨x', dz, pt, rfl, ggx⟩)⟩
    rintro odd H8 ⟨ho, u8, b8⟩
    have kx8 := (kx.same s7).but b7 u8
    have kz8 := (kz.same s7).but b7 u8
    have qb : q ≠ b := fun e => by
      obtain ⟨_, h2, _⟩ := r2
      obtain ⟨_, _, _, hb, _⟩ := b5
      rw [e, hb] at h2
      cases h2
    refine join_no (fun H' => Same H8 H') (fun Q' fin => ?_) ?_
    · have last : ∀ H9, Same H8 H9 → ∃ a dx fs, V.ref x = .ref a ∧ H9 a = some (.ins C dx fs) ∧ Q' (!true) H9 := fun H9 s9 => by
        obtain ⟨dx, pt, cl, h1, _⟩ := kx8.same s9
        exact ⟨x, dx, _, rfl, h1, fin _ _ rfl s9⟩
      rcases ho with ⟨T', h1, h2, h3⟩ | ⟨z', dz', pt', rfl, hz'⟩
      · exact ⟨_, rfl, _, rfl, x, k, _, rfl, kx8, fk, .inr (.inl ⟨T', h1, h2, h3, fun H9 s9 => ⟨_, _, rfl, rfl, _, rfl, iteF ⟨_, rfl, last H9 s9⟩⟩⟩)⟩
      · exact ⟨_, rfl, _, rfl, x, k, _, rfl, kx8, fk, .inr (.inr ⟨z', dz', pt', rfl, hz', fun H9 s9 => ⟨_, _, rfl, rfl, _, rfl, iteF ⟨_, rfl, last H9 s9⟩⟩⟩)⟩
    intro H9 s9
    refine ⟨_, rfl, x, k, rfl, kx8.same s9, fk, fun H10 s10 => ⟨_, rfl, z, k2, rfl, (kz8.same s9).same s10, fk2, fun H11 s11 => ⟨by show 2 ≤ sizeLine; decide, fun t1 nt1 => ?_⟩⟩⟩
    have s12 := ((s9.trans s10).trans s11).trans (same_new (o := .lst [.str (PyData.list k.ds).shown, .str (PyData.list k2.ds).shown]) nt1)
    obtain ⟨cl1, h1, c1⟩ := ((r1.same s7).but b7 pb u8).same s12
    obtain ⟨cl2, h2, c2⟩ := ((r2.same s7).but b7 qb u8).same s12
    refine ⟨_, rfl, (Fit.list fk.fit).repr (.lst (SqL.of h1) (kd_dp fk.ok c1)) (by decide) (by decide) ⟨_, rfl, (Fit.list fk2.fit).repr (.lst (SqL.of h2) (kd_dp fk2.ok c2)) (by decide) (by decide) ⟨by show 2 ≤ sizeLine; decide, fun t2 nt2 => ?_⟩⟩⟩
    have F := Fit.list (.cons (fit_shown fk) (.cons (fit_shown fk2) (.nil (n := 0))))
    refine ⟨_, _, .lst (SqL.of (same_new nt2 _ _ upd_same)) (.cons (.str _) (.cons (.str _) .nil)), .lst (SqL.of upd_same) (.cons (.str _) (.cons (.str _) .nil)), F.shaped (by decide), F.shaped (by decide), ?_⟩
    rw [F.eqv]
    have s13 := s12.trans (same_new (o := .lst [.str (PyData.list k.ds).shown, .str (PyData.list k2.ds).shown]) nt2)
    exact ret _ ((e5.trans (But.of s7)).trans (u8.trans (But.of s13))) ((b8.same s13).mono (by omega))
end L
namespace Hv
open PySem L2
theorem one_ok : BX (Str.ofString "1/1") := by
  have h : Str.ofString "1/1" ∈ BL := by decide +kernel
  obtain ⟨a, c, l⟩ := line_of h
  have h2 := List.all_eq_true.mp BL_str _ h
  simp only [Bool.and_eq_true, decide_eq_true_eq] at h2
  exact ⟨⟨l.ok, by rw [l.fr]; rfl⟩, h2.1, h2.2⟩
theorem kind_new {K : PySem.W.Frag} {C x dx : Addr} {H1 : Hp} {k : Kd} {cl : V} {Q : VK} {E : XK} (nx : H1 x = none) (nd : H1 dx = none) (ne : dx ≠ x) (ok : k.Ok) (hc : ClosAt K H1 k.closing cl) (ret : ∀ H2, Same H1 H2 → KindAt K C H2 x k → Q .non H2) :
    sp_kind_init K C [.ref x, .str k.name, .int k.talks, k.needs, cl, endsV k.ends] (upd (upd H1 dx (.own x)) x (.ins C dx [])) Q E := by
  have s1 : Same H1 (upd (upd H1 dx (.own x)) x (.ins C dx [])) := fun b o e => by
    rw [upd_ne (ne_of_none e nx), upd_ne (ne_of_none e nd)]
    exact e
  refine ⟨x, dx, k, cl, rfl, ok, hc.same s1, upd_same, by rw [upd_ne ne, upd_same], ne, fun H2 keep hl => ?_⟩
  exact ret H2 (fun b o e => keep b o (ne_of_none e nx) (s1 _ _ e)) hl
def kA : Kd := ⟨Str.ofString "a", 0, .int 1, none, none⟩
def kB : Kd := ⟨Str.ofString "a", 0, .str (Str.ofString "1/1"), none, none⟩
theorem fineA : Fine kA := ⟨⟨by decide +kernel, by decide +kernel, ⟨by decide, by decide⟩, .inl ⟨1, rfl, by decide, by decide⟩, (fun _ _ e => nomatch e), fun _ e => nomatch e⟩, .str (by decide +kernel) (by decide +kernel), .int (by decide +kernel), .none, .none⟩
theorem fineB : Fine kB := ⟨⟨by decide +kernel, by decide +kernel, ⟨by decide, by decide⟩, .inr ⟨_, rfl, one_ok.1⟩, (fun _ _ e => nomatch e), fun _ e => nomatch e⟩, .str (by decide +kernel) (by decide +kernel), .str one_ok.2.1 one_ok.2.2, .none, .none⟩
theorem shownA : (PyData.list kA.ds).shown = Str.ofString "['a', 0, 1, None, None]" := by decide +kernel
theorem shownB : (PyData.list kB.ds).shown = Str.ofString "['a', 0, '1/1', None, None]" := by decide +kernel
def sp_law (K : PySem.W.Frag) : Sp := fun vs H Q _ => ∃ (a : Addr) (ns : List Int), vs = [.ref a] ∧ SqL K H a (ns.map V.int) ∧ ns.length ≤ 63 ∧ (∀ z ∈ ns, Builtin.Int.intBits z ≤ 1048576) ∧ ∀ H', Q (.bl true) H'
end Hv
namespace L
open PySem L2 Hv
variable {P : Program} {w : World} {K : PySem.W.Frag} {mg : Str → Option Value} {base : Heap}
abbrev s_law : Stmt := top 45
abbrev N_law : List Str := ["_law_script", "_law_bounds_here", "_law_told", "_law_k", "_law_bag_here", "_law_turn"]
abbrev P_law : List Str := ["_law_script"]
theorem sc_law : FnScope N_law P_law (defScope s_law) := ⟨rfl, rfl, rfl, by decide +kernel, rfl, by decide +kernel, by decide +kernel⟩
theorem ok_law {C f f1 f2 f3 f4 f5 f6 f7 : Addr} {fd fd1 fd2 fd3 fd4 fd5 fd6 fd7 : FuncData} (D : Fun K "law" "law" s_law f fd) (T : Txt K mg) (TK : OwnTxt K mg "Kind" C) (M_Kind : Mk K C f1) (F1 : FunK K f1 fd1)
    (G_Kind_init : FnOk P w K mg base CX0 5 f1 fd1 P_Kind_init (sp_kind_init K C))
    (D_shown : DefAt K mg "_law_shown" s_shown P_shown f2 fd2) (G_shown : OkG P w K mg base CX0 3 f2 fd2 P_shown (sp_kshown K C))
    (D_bag : DefAt K mg "_law_bag" s_bag P_bag f3 fd3) (D_seed : DefAt K mg "_law_seed" s_seed P_seed f4 fd4)
    (D_right : DefAt K mg "_law_right" s_right P_right f5 fd5) (G_right : OkG P w K mg base CX0 8 f5 fd5 P_right (sp_kright K))
    (D_bounds : DefAt K mg "_law_bounds" s_bounds P_bounds f6 fd6) (D_common : DefAt K mg "_law_common" s_common P_common f7 fd7) : OkG P w K mg base CX0 9 f fd P_law (sp_law K) := by
  have G_bag : FnOk P w K mg base CX0 1 f3 fd3 P_bag sp_bag := ok_bag D_bag T
  have G_seed : FnOk P w K mg base CX0 1 f4 fd4 P_seed (sp_seed K) := ok_seed D_seed T
  have G_bounds : FnOk P w K mg base CX0 2 f6 fd6 P_bounds sp_bounds := ok_bounds D_bounds T D_common
  obtain ⟨mv4, KB_needs⟩ := kb_n F1
  obtain ⟨ds, KV0, KB0⟩ := kb_none F1
  refine okG0 D sc_law (fun vs H Q E h => ?_) (fun cdv A outer s H vs Q E hG hr h => ?_)
  · obtain ⟨a, ns, rfl, _⟩ := h
    rfl
  · obtain ⟨a, ns, rfl, hS, hlen, bits, ret⟩ := h
    refine ⟨_, (pss_cons (ps_asg (pe_call0 G_bounds (hr.mono (by decide)) rfl D_bounds.mg D_bounds.fn.kp D_bounds.bd .nil pass0) (pg_name (i := 1) sc_law.nd rfl (.inr rfl)))
      (pss_cons (ps_asg (pe_lst (pa_cons (pe_callG G_shown hG (hr.mono (by decide)) rfl D_shown.mg D_shown.fn.kp D_shown.bd .nil pass0 (pa_cons (pe_make M_Kind G_Kind_init (hr.mono (by decide)) rfl TK.mg KB0 KV0 pass0 (pa_cons pe_str pa_nil)) pa_nil)) (pa_cons (pe_callG G_shown hG (hr.mono (by decide)) rfl D_shown.mg D_shown.fn.kp D_shown.bd .nil pass0 (pa_cons (pe_makeK M_Kind G_Kind_init (hr.mono (by decide)) rfl TK.mg KB_needs pass0 (pa_cons pe_str pa_nil) (pk_cons pe_str pk_nil)) pa_nil)) pa_nil))) (pg_name (i := 2) sc_law.nd rfl (.inl rfl)))
      (pss_cons (ps_if (pt_cmpR (op_neD hr.units) (pv 2) (pe_lst (pa_cons pe_str (pa_cons pe_str pa_nil))) (nomark _))
      (pss_one (ps_ret pe_bl))
      pss_nil)
      (pss_cons (ps_for PassesOwn.never rfl (pi_range1 (by rfl) T.range (pa_cons (pe_callB (call_max2 rfl) (by rfl) T.max (by decide +kernel) (pa_cons pe_int (pa_cons (pe_callB (call_min2 rfl) (by rfl) T.min (by decide +kernel) (pa_cons (pe_callB call_len_seq (by rfl) T.len (by decide +kernel) (pa_cons (pv 0) pa_nil)) (pa_cons pe_int pa_nil))) pa_nil))) pa_nil)) (pg_name (i := 3) sc_law.nd rfl (.inl rfl))
      (pss_cons (ps_asg (pe_call G_bag (hr.mono (by decide)) rfl D_bag.mg D_bag.fn.kp D_bag.bd .nil pass0 (pa_cons (pe_call G_seed (hr.mono (by decide)) rfl D_seed.mg D_seed.fn.kp D_seed.bd .nil pass0 (pa_cons (pv 0) (pa_cons (pv 3) pa_nil))) pa_nil)) (pg_name (i := 4) sc_law.nd rfl (.inr rfl)))
      (pss_one (ps_if (pt_not (pt_val (pe_callB (cr_all rfl) (by rfl) T.all (by decide +kernel) (pa_cons (pe_lc (own := [("_law_turn", 5)]) (g := gName 5) rfl sc_law.nd (pi_range1 (by rfl) T.range (pa_cons pe_int pa_nil)) (blkOk_by (own := [("_law_turn", 5)]) (N := N_law) (sc := defScope s_law) (by decide +kernel)) (fun _ _ _ _ _ => (pg_name (i := 5) sc_law.nd rfl (.inl rfl))) (fun _ _ _ _ _ => pts_nil) (fun _ _ _ _ _ => (pe_callG G_right hG (hr.mono (by decide)) rfl D_right.mg D_right.fn.kp D_right.bd .nil pass0 (pa_cons (pv 4) (pa_cons (pv 1) pa_nil))))) pa_nil))))
      (pss_one (ps_ret pe_bl))
      pss_nil))))
      (pss_one (ps_ret pe_bl)))))), ?_⟩
    refine ⟨rfl, fun bl H1 bl0 s1 h1 => ?_⟩
    refine fun x dx nx nd ne => kind_new (k := kA) nx nd ne fineA.ok rfl fun H2 s2 kx => ⟨rfl, x, kA, rfl, kx, fineA, fun H3 s3 => ?_⟩
    refine ⟨rfl, rfl, fun y dy ny nd2 ne2 => kind_new (k := kB) ny nd2 ne2 fineB.ok rfl fun H4 s4 ky => ⟨rfl, y, kB, rfl, ky, fineB, fun H5 s5 => ?_⟩⟩
    rw [shownA, shownB]
    refine ⟨by show 2 ≤ sizeLine; decide, fun t1 n1 => ?_⟩
    dsimp only [gName]
    refine join_no (fun H' => Same H1 H') (fun Q' fin => ?_) ?_
    · refine ⟨_, rfl, by show 2 ≤ sizeLine; decide, fun t2 n2 => ?_⟩
      refine ⟨_, _, .lst (SqL.of (same_new n2 _ _ upd_same)) (.cons (.str _) (.cons (.str _) .nil)), .lst (SqL.of upd_same) (.cons (.str _) (.cons (.str _) .nil)), by decide +kernel, by decide +kernel, _, rfl, fin _ _ (by decide +kernel) ?_⟩
      exact (((((s2.trans s3).trans s4).trans s5).trans (same_new n1)).trans (same_new n2))
    intro H6 s6
    have hS' : SqL K H6 a (ns.map V.int) := (s1.trans s6).seq hS
    have hB : H6 bl = some (.lst (BL.map V.str)) := s6 _ _ h1
    refine ⟨_, rfl, _, _, rfl, .inl hS', _, _, rfl, _, _, rfl, _, rfl, ?_, ?_, for_range (lo := 0) (fun i σ' H' => ∃ v3 v4 v5, σ' = [some (.ref a), some (.ref bl), some (.ref t1), v3, v4, v5] ∧
      SqL K H' a (ns.map V.int) ∧ H' bl = some (.lst (BL.map V.str))) ⟨none, none, none, rfl, hS', hB⟩ ?_ ?_⟩
    · split <;> split <;> omega
    · split <;> split <;> omega
    · rintro i σ' H' hi ⟨v3, v4, v5, rfl, hS1, hB1⟩
      have hi' : i < 1000 := by
        refine Nat.lt_of_lt_of_le hi ?_
        split <;> split <;> omega
      refine ⟨_, rfl, _, rfl, a, ns, _, rfl, hS1, bits, by omega, by omega, fun n H2 s2 nb2 => ⟨n, rfl, nb2, fun p H3 np s3 bg => ?_⟩⟩
      refine ⟨4, rfl, by decide, by decide, fun L hL => ?_⟩
      have nLp : L ≠ p := bg.ne_none hL
      have nL2 : H2 L = none := s3.free hL
      have blp : bl ≠ p := ne_of_none (s2 _ _ hB1) np
      refine lc_range (lo := 0) (n := 4) (fun j H' => Same H2 H' ∧ Bag H' p (100 * j) ∧ H' L = some (.lst (List.replicate j (.bl true))))
        ⟨s3.trans (same_new hL), bg.same (same_new hL), upd_same⟩ ?_ ?_
      · rintro j H4 hj ⟨h1, h3, h4⟩
        refine ⟨rfl, _, rfl, _, rfl, p, bl, 100 * j, rfl, h3, by omega, SqL.of (h1 _ _ (s2 _ _ hB1)), blp, fun H5 e5 b5 => ⟨_, e5 _ _ nLp h4, ?_, ?_⟩⟩
        · rw [List.length_replicate]
          exact Nat.lt_trans hj (by decide)
        · refine ⟨same_put (same_but h1 np e5) nL2, (b5.put nLp).mono (by omega), ?_⟩
          rw [upd_same, List.replicate_succ']
      rintro H4 ⟨h1, h3, h4⟩
      refine ⟨L, List.replicate 4 true, rfl, SqL.of h4, _, rfl, ?_⟩
      refine iteF ?_
      exact ⟨_, _, _, rfl, (s2.trans h1).seq hS1, h1 _ _ (s2 _ _ hB1)⟩
    · rintro σ' H' ⟨v3, v4, v5, rfl, hS1, hB1⟩
      exact ret _
end L
namespace L
open PySem L2 Hv
theorem walk {l : PySem.W.OpenLaw} {q : Program} {loose : List Str} {XP : (Str → Option Value) → Heap → Prop} {YP : World → Heap → Prop} {d : DefRec} {K : Params → PySem.W.Frag} (hn : l.most = some 63) (hdf : d.params.defaults = [])
    (hY : ∀ (w : World) (h : Heap), YP w h → (K w.params).In h)
    (F : ∀ (w : World) (mg : Str → Option Value) (fa : Addr) (h : Heap), (K w.params).In h → h.Ns mainGlobals mg → mg d.name = some (.ref fa) →
      ∃ fd : FuncData, (∀ (s : Shared) (u : Value), BindsTo s fd ⟨[u], []⟩ [("_law_script", u)]) ∧ ∀ base : Heap, (K w.params).In base → base.Ns mainGlobals mg → OkG l.prog w (K w.params) mg base CX0 9 fa fd ["_law_script"] (sp_law (K w.params))) :
    PySem.W.WalkO q loose XP YP l.row.toRowW d [] (fun f vs => PySem.call f vs) :=
  walkG (n := 63) (k := 9) (x := "_law_script") (CX := fun _ => CX0) (sp := fun w => sp_law (K w.params)) hn (by decide) hdf ⟨rfl, by decide, by decide⟩ hY F (fun _ _ a ns hl hb hS => ⟨a, ns, rfl, hS, hl, hb, fun _ => rfl⟩) fun _ _ _ _ _ z => z
/-- Kind.__init__ as the top has left it -/
def KindInitIn (K : PySem.W.Frag) (C : Addr) : Prop := ∃ (f : Addr) (fd : FuncData), FunK K f fd ∧ PySem.W.findIn K (.ref C) "__init__" = some (some (.ref f)) ∧ PySem.W.isFn K (.ref f) = true
theorem kindInit_mk {K : PySem.W.Frag} {C f DD : Addr} {oc : Value} {od : Option Addr} {doc pm : Value} {an : Option Addr} {cd ct u1 u2 u3 u4 : Value} {sl : Array (Option Value)}
    (a : PySem.W.findIn K (.ref C) "__init__" = some (some (.ref f))) (i : PySem.W.isFn K (.ref f) = true)
    (l : K.lookup f = some ⟨oc, od, .func (PySem.W.fnOf "__init__" "Kind.__init__" (defArgs s_Kind_init) (defBody s_Kind_init) (defScope s_Kind_init) .none (.ref DD) doc pm an cd ct), sl⟩)
    (c : PySem.W.codeIn K cd "Kind.__init__" = true) (k : PySem.W.keepIn K (.ref f) = true)
    (n1 : PySem.W.nsIn K DD "talks" = some (some u1)) (n2 : PySem.W.nsIn K DD "needs" = some (some u2)) (n3 : PySem.W.nsIn K DD "closing" = some (some u3)) (n4 : PySem.W.nsIn K DD "ends" = some (some u4))
    (r1 : ∃ t, u1 = .int 0 t) (r2 : ∃ t, u2 = .int 1 t) (r3 : u3 = .none) (r4 : u4 = .none) : KindInitIn K C := by
  refine ⟨f, _, ⟨⟨oc, od, .none, .ref DD, doc, pm, an, cd, ct, sl, rfl, l, c, .inl ⟨rfl, rfl⟩, .inr ⟨DD, rfl, ?_⟩⟩, k⟩, a, i⟩
  intro q hq
  simp only [kwsK, List.mem_cons, List.not_mem_nil, or_false] at hq
  rcases hq with rfl | rfl | rfl | rfl
  · exact ⟨u1, n1, r1⟩
  · exact ⟨u2, n2, r2⟩
  · exact ⟨u3, n3, r3⟩
  · exact ⟨u4, n4, r4⟩
theorem all_mk {l : PySem.W.OpenLaw} {w : World} {K : PySem.W.Frag} {h : Heap} {mg : Str → Option Value} {fa : Addr} (X : K.In h) (G : h.Ns mainGlobals mg) (hfa : mg "law" = some (.ref fa))
    {C CR : Addr}
    (o_Kind_a : PySem.W.nsIn K mainGlobals "Kind" = some (some (.ref C)))
    (o_Kind_pg : PySem.W.plainGet K C Str.empty = true)
    (o_Kind_hd : PySem.W.hasDictIn K C = true)
    (o_Kind_po : PySem.W.plainOver K C = true)
    (o_Kind_sa : PySem.W.findIn K (.ref C) "__setattr__" = some (some (.builtin "object.__setattr__")))
    (o_Kind_ha : PySem.W.findIn K (.ref C) "__class__" = some (some (.builtin "object.__class__")))
    (o_Kind_hm : PySem.W.mroIn K C (.type "object") = some true)
    (o_Kind_kp : PySem.W.keepIn K (.ref C) = true)
    (o_Kind_mk : PySem.W.makesIn K C = true)
    (o_Kind_ne : PySem.W.findIn K (.ref C) "__ne__" = some (some (.builtin "object.__ne__")))
    (o_Kind_bo : PySem.W.findIn K (.ref C) "__bool__" = some none)
    (o_Kind_le : PySem.W.findIn K (.ref C) "__len__" = some none)
    (o_Kind_na_parts : PySem.W.findIn K (.ref C) "parts" = some none)
    (o_Kind_s0 : PySem.W.subIn K (.ref C) (.type "NoneType") = some false)
    (o_Kind_s1 : PySem.W.subIn K (.ref C) (.type "int") = some false)
    (o_Kind_s2 : PySem.W.subIn K (.ref C) (.type "bool") = some false)
    (o_Kind_s3 : PySem.W.subIn K (.ref C) (.type "str") = some false)
    (o_Kind_s4 : PySem.W.subIn K (.ref C) (.type "list") = some false)
    (o_Kind_s5 : PySem.W.subIn K (.ref C) (.type "tuple") = some false)
    (o_Kind_u0 : PySem.W.subIn K (.type "NoneType") (.ref C) = some false)
    (o_Kind_u1 : PySem.W.subIn K (.type "int") (.ref C) = some false)
    (o_Kind_u2 : PySem.W.subIn K (.type "bool") (.ref C) = some false)
    (o_Kind_u3 : PySem.W.subIn K (.type "str") (.ref C) = some false)
    (o_Kind_u4 : PySem.W.subIn K (.type "list") (.ref C) = some false)
    (o_Kind_u5 : PySem.W.subIn K (.type "tuple") (.ref C) = some false)
    (o_Kind_nf : PySem.W.notFirst K C (.ref C) = true)
    (o_Kind_k1 : PySem.W.kitOne K (.ref C) (.ref C) = some true)
    (o_Kind_q0 : PySem.W.kitOne K (.type "NoneType") (.ref C) = some false)
    (o_Kind_q1 : PySem.W.kitOne K (.type "int") (.ref C) = some false)
    (o_Kind_q2 : PySem.W.kitOne K (.type "bool") (.ref C) = some false)
    (o_Kind_q3 : PySem.W.kitOne K (.type "str") (.ref C) = some false)
    (o_Kind_q4 : PySem.W.kitOne K (.type "list") (.ref C) = some false)
    (o_Kind_q5 : PySem.W.kitOne K (.type "tuple") (.ref C) = some false)
    (o_cls1 : PySem.W.specialIn K (.builtin "object.__class__") "__get__" = some (some (.builtin "getset_descriptor.__get__")))
    (o_cls2 : PySem.W.takesIn K (.builtin "object.__class__") = some true)
    (o_Row_a : PySem.W.nsIn K mainGlobals "Row" = some (some (.ref CR)))
    (o_Row_pg : PySem.W.plainGet K CR Str.empty = true)
    (o_Row_hd : PySem.W.hasDictIn K CR = true)
    (o_Row_po : PySem.W.plainOver K CR = true)
    (o_Row_sa : PySem.W.findIn K (.ref CR) "__setattr__" = some (some (.builtin "object.__setattr__")))
    (o_Row_ha : PySem.W.findIn K (.ref CR) "__class__" = some (some (.builtin "object.__class__")))
    (o_Row_hm : PySem.W.mroIn K CR (.type "object") = some true)
    (o_Row_kp : PySem.W.keepIn K (.ref CR) = true)
    (o_Row_mk : PySem.W.makesIn K CR = true)
    (o_Row_ne : PySem.W.findIn K (.ref CR) "__ne__" = some (some (.builtin "object.__ne__")))
    (o_Row_bo : PySem.W.findIn K (.ref CR) "__bool__" = some none)
    (o_Row_le : PySem.W.findIn K (.ref CR) "__len__" = some none)
    (o_Row_na_parts : PySem.W.findIn K (.ref CR) "parts" = some none)
    (o_Row_s0 : PySem.W.subIn K (.ref CR) (.type "NoneType") = some false)
    (o_Row_s1 : PySem.W.subIn K (.ref CR) (.type "int") = some false)
    (o_Row_s2 : PySem.W.subIn K (.ref CR) (.type "bool") = some false)
    (o_Row_s3 : PySem.W.subIn K (.ref CR) (.type "str") = some false)
    (o_Row_s4 : PySem.W.subIn K (.ref CR) (.type "list") = some false)
    (o_Row_s5 : PySem.W.subIn K (.ref CR) (.type "tuple") = some false)
    (o_Row_u0 : PySem.W.subIn K (.type "NoneType") (.ref CR) = some false)
    (o_Row_u1 : PySem.W.subIn K (.type "int") (.ref CR) = some false)
    (o_Row_u2 : PySem.W.subIn K (.type "bool") (.ref CR) = some false)
    (o_Row_u3 : PySem.W.subIn K (.type "str") (.ref CR) = some false)
    (o_Row_u4 : PySem.W.subIn K (.type "list") (.ref CR) = some false)
    (o_Row_u5 : PySem.W.subIn K (.type "tuple") (.ref CR) = some false)
    (o_Row_nf : PySem.W.notFirst K CR (.ref CR) = true)
    (o_Row_k1 : PySem.W.kitOne K (.ref CR) (.ref CR) = some true)
    (o_Row_q0 : PySem.W.kitOne K (.type "NoneType") (.ref CR) = some false)
    (o_Row_q1 : PySem.W.kitOne K (.type "int") (.ref CR) = some false)
    (o_Row_q2 : PySem.W.kitOne K (.type "bool") (.ref CR) = some false)
    (o_Row_q3 : PySem.W.kitOne K (.type "str") (.ref CR) = some false)
    (o_Row_q4 : PySem.W.kitOne K (.type "list") (.ref CR) = some false)
    (o_Row_q5 : PySem.W.kitOne K (.type "tuple") (.ref CR) = some false)
    (o_Kind_Row_nf : PySem.W.notFirst K C (.ref CR) = true)
    (o_Kind_Row_kt : PySem.W.kitOne K (.ref C) (.ref CR) = some false)
    (o_Row_Kind_nf : PySem.W.notFirst K CR (.ref C) = true)
    (o_Row_Kind_kt : PySem.W.kitOne K (.ref CR) (.ref C) = some false)
    (m_Kind_init : KindInitIn K C)
    (m_Kind_name : PropIn K C "name" "Kind.name" s_Kind_name)
    (m_Kind_talks : PropIn K C "talks" "Kind.talks" s_Kind_talks)
    (m_Kind_needs : PropIn K C "needs" "Kind.needs" s_Kind_needs)
    (m_Kind_closing : PropIn K C "closing" "Kind.closing" s_Kind_closing)
    (m_Kind_ends : PropIn K C "ends" "Kind.ends" s_Kind_ends)
    (m_Kind_eq : MethIn K C "__eq__" "Kind.__eq__" s_Kind_eq)
    (m_Row_init : MethIn K CR "__init__" "Row.__init__" s_Row_init)
    (m_Row_eq : MethIn K CR "__eq__" "Row.__eq__" s_Row_eq)
    (d_is_integer : DefIn K "is_integer" s_is_integer)
    (d_is_name : DefIn K "is_name" s_is_name)
    (d_common_divisor : DefIn K "common_divisor" s_common_divisor)
    (d_number_of : DefIn K "number_of" s_number_of)
    (d_fraction_of : DefIn K "fraction_of" s_fraction_of)
    (d_is_bound : DefIn K "is_bound" s_is_bound)
    (d_is_needs : DefIn K "is_needs" s_is_needs)
    (d_is_closing : DefIn K "is_closing" s_is_closing)
    (d_sort_of : DefIn K "sort_of" s_sort_of)
    (d_seed : DefIn K "_law_seed" s_seed)
    (d_bag : DefIn K "_law_bag" s_bag)
    (d_take : DefIn K "_law_take" s_take)
    (d_common : DefIn K "_law_common" s_common)
    (d_bounds : DefIn K "_law_bounds" s_bounds)
    (d_tag : DefIn K "_law_tag" s_tag)
    (d_drawn : DefIn K "_law_drawn" s_drawn)
    (d_otherwise : DefIn K "_law_otherwise" s_otherwise)
    (d_made : DefIn K "_law_made" s_made)
    (d_short : DefIn K "_law_short" s_short)
    (d_shown : DefIn K "_law_shown" s_shown)
    (d_same : DefIn K "_law_same" s_same)
    (d_right : DefIn K "_law_right" s_right)
    (d_law : DefIn K "law" s_law)
    (b_ValueError : PySem.W.nsIn K mainGlobals "ValueError" = some none)
    (b_abs : PySem.W.nsIn K mainGlobals "abs" = some none)
    (b_all : PySem.W.nsIn K mainGlobals "all" = some none)
    (b_any : PySem.W.nsIn K mainGlobals "any" = some none)
    (b_bool : PySem.W.nsIn K mainGlobals "bool" = some none)
    (b_divmod : PySem.W.nsIn K mainGlobals "divmod" = some none)
    (b_int : PySem.W.nsIn K mainGlobals "int" = some none)
    (b_isinstance : PySem.W.nsIn K mainGlobals "isinstance" = some none)
    (b_len : PySem.W.nsIn K mainGlobals "len" = some none)
    (b_list : PySem.W.nsIn K mainGlobals "list" = some none)
    (b_max : PySem.W.nsIn K mainGlobals "max" = some none)
    (b_min : PySem.W.nsIn K mainGlobals "min" = some none)
    (b_property : PySem.W.nsIn K mainGlobals "property" = some none)
    (b_range : PySem.W.nsIn K mainGlobals "range" = some none)
    (b_repr : PySem.W.nsIn K mainGlobals "repr" = some none)
    (b_str : PySem.W.nsIn K mainGlobals "str" = some none)
    (b_tuple : PySem.W.nsIn K mainGlobals "tuple" = some none)
    (c_MOST_TALKS : ∃ v, PySem.W.nsIn K mainGlobals "MOST_TALKS" = some (some v) ∧ ∃ t, v = (.int (3) t))
    (c_MOST_TIMES : ∃ v, PySem.W.nsIn K mainGlobals "MOST_TIMES" = some (some v) ∧ ∃ t, v = (.int (3) t))
    (c_MOST_AFTER : ∃ v, PySem.W.nsIn K mainGlobals "MOST_AFTER" = some (some v) ∧ ∃ t, v = (.int (3) t))
    (c_MOST_NEEDS : ∃ v, PySem.W.nsIn K mainGlobals "MOST_NEEDS" = some (some v) ∧ ∃ t, v = (.int (9) t))
    (c_MOST_PART : ∃ v, PySem.W.nsIn K mainGlobals "MOST_PART" = some (some v) ∧ ∃ t, v = (.int (12) t))
    (c_DIGITS : ∃ v, PySem.W.nsIn K mainGlobals "DIGITS" = some (some v) ∧ ∃ t, v = (.str "0123456789" t))
    (c_LETTERS : ∃ v, PySem.W.nsIn K mainGlobals "LETTERS" = some (some v) ∧ ∃ t, v = (.str "abcdefghijklmnopqrstuvwxyz" t))
    (c_MARK : ∃ v, PySem.W.nsIn K mainGlobals "MARK" = some (some v) ∧ ∃ t, v = (.str "over " t))
    : ∃ fd : FuncData, (∀ (s : Shared) (v : Value), BindsTo s fd ⟨[v], []⟩ [("_law_script", v)]) ∧ ∀ base : Heap, K.In base → base.Ns mainGlobals mg → OkG l.prog w K mg base CX0 9 fa fd ["_law_script"] (sp_law K) := by
  have T : Txt K mg := ⟨PySem.W.mg_none_of X G b_ValueError, PySem.W.mg_none_of X G b_abs, PySem.W.mg_none_of X G b_all, PySem.W.mg_none_of X G b_any, PySem.W.mg_none_of X G b_bool, PySem.W.mg_none_of X G b_divmod, PySem.W.mg_none_of X G b_int, PySem.W.mg_none_of X G b_isinstance, PySem.W.mg_none_of X G b_len, PySem.W.mg_none_of X G b_list, PySem.W.mg_none_of X G b_max, PySem.W.mg_none_of X G b_min, PySem.W.mg_none_of X G b_property, PySem.W.mg_none_of X G b_range, PySem.W.mg_none_of X G b_repr, PySem.W.mg_none_of X G b_str, PySem.W.mg_none_of X G b_tuple, (by obtain ⟨v, e, t, rfl⟩ := c_MOST_TALKS; exact ⟨t, PySem.W.mg_of X G e⟩), (by obtain ⟨v, e, t, rfl⟩ := c_MOST_TIMES; exact ⟨t, PySem.W.mg_of X G e⟩), (by obtain ⟨v, e, t, rfl⟩ := c_MOST_AFTER; exact ⟨t, PySem.W.mg_of X G e⟩), (by obtain ⟨v, e, t, rfl⟩ := c_MOST_NEEDS; exact ⟨t, PySem.W.mg_of X G e⟩), (by obtain ⟨v, e, t, rfl⟩ := c_MOST_PART; exact ⟨t, PySem.W.mg_of X G e⟩), (by obtain ⟨v, e, t, rfl⟩ := c_DIGITS; exact ⟨t, PySem.W.mg_of X G e⟩), (by obtain ⟨v, e, t, rfl⟩ := c_LETTERS; exact ⟨t, PySem.W.mg_of X G e⟩), (by obtain ⟨v, e, t, rfl⟩ := c_MARK; exact ⟨t, PySem.W.mg_of X G e⟩)⟩
  obtain ⟨f_is_integer, fd_is_integer, D_is_integer⟩ := d_is_integer.at X G (ps := P_is_integer) (fun _ _ _ _ _ _ us hl => match us, hl with | [_], _ => rfl)
  obtain ⟨f_is_name, fd_is_name, D_is_name⟩ := d_is_name.at X G (ps := P_is_name) (fun _ _ _ _ _ _ us hl => match us, hl with | [_], _ => rfl)
  obtain ⟨f_common_divisor, fd_common_divisor, D_common_divisor⟩ := d_common_divisor.at X G (ps := P_common_divisor) (fun _ _ _ _ _ _ us hl => match us, hl with | [_, _], _ => rfl)
  obtain ⟨f_number_of, fd_number_of, D_number_of⟩ := d_number_of.at X G (ps := P_number_of) (fun _ _ _ _ _ _ us hl => match us, hl with | [_, _], _ => rfl)
  obtain ⟨f_fraction_of, fd_fraction_of, D_fraction_of⟩ := d_fraction_of.at X G (ps := P_fraction_of) (fun _ _ _ _ _ _ us hl => match us, hl with | [_], _ => rfl)
  obtain ⟨f_is_bound, fd_is_bound, D_is_bound⟩ := d_is_bound.at X G (ps := P_is_bound) (fun _ _ _ _ _ _ us hl => match us, hl with | [_], _ => rfl)
  obtain ⟨f_is_needs, fd_is_needs, D_is_needs⟩ := d_is_needs.at X G (ps := P_is_needs) (fun _ _ _ _ _ _ us hl => match us, hl with | [_], _ => rfl)
  obtain ⟨f_is_closing, fd_is_closing, D_is_closing⟩ := d_is_closing.at X G (ps := P_is_closing) (fun _ _ _ _ _ _ us hl => match us, hl with | [_], _ => rfl)
  obtain ⟨f_sort_of, fd_sort_of, D_sort_of⟩ := d_sort_of.at X G (ps := P_sort_of) (fun _ _ _ _ _ _ us hl => match us, hl with | [_], _ => rfl)
  obtain ⟨f_seed, fd_seed, D_seed⟩ := d_seed.at X G (ps := P_seed) (fun _ _ _ _ _ _ us hl => match us, hl with | [_, _], _ => rfl)
  obtain ⟨f_bag, fd_bag, D_bag⟩ := d_bag.at X G (ps := P_bag) (fun _ _ _ _ _ _ us hl => match us, hl with | [_], _ => rfl)
  obtain ⟨f_take, fd_take, D_take⟩ := d_take.at X G (ps := P_take) (fun _ _ _ _ _ _ us hl => match us, hl with | [_, _], _ => rfl)
  obtain ⟨f_common, fd_common, D_common⟩ := d_common.at X G (ps := P_common) (fun _ _ _ _ _ _ us hl => match us, hl with | [_, _], _ => rfl)
  obtain ⟨f_bounds, fd_bounds, D_bounds⟩ := d_bounds.at X G (ps := P_bounds) (fun _ _ _ _ _ _ us hl => match us, hl with | [], _ => rfl)
  obtain ⟨f_tag, fd_tag, D_tag⟩ := d_tag.at X G (ps := P_tag) (fun _ _ _ _ _ _ us hl => match us, hl with | [_], _ => rfl)
  obtain ⟨f_drawn, fd_drawn, D_drawn⟩ := d_drawn.at X G (ps := P_drawn) (fun _ _ _ _ _ _ us hl => match us, hl with | [_, _], _ => rfl)
  obtain ⟨f_otherwise, fd_otherwise, D_otherwise⟩ := d_otherwise.at X G (ps := P_otherwise) (fun _ _ _ _ _ _ us hl => match us, hl with | [_, _, _], _ => rfl)
  obtain ⟨f_made, fd_made, D_made⟩ := d_made.at X G (ps := P_made) (fun _ _ _ _ _ _ us hl => match us, hl with | [_], _ => rfl)
  obtain ⟨f_short, fd_short, D_short⟩ := d_short.at X G (ps := P_short) (fun _ _ _ _ _ _ us hl => match us, hl with | [_], _ => rfl)
  obtain ⟨f_shown, fd_shown, D_shown⟩ := d_shown.at X G (ps := P_shown) (fun _ _ _ _ _ _ us hl => match us, hl with | [_], _ => rfl)
  obtain ⟨f_same, fd_same, D_same⟩ := d_same.at X G (ps := P_same) (fun _ _ _ _ _ _ us hl => match us, hl with | [_, _], _ => rfl)
  obtain ⟨f_right, fd_right, D_right⟩ := d_right.at X G (ps := P_right) (fun _ _ _ _ _ _ us hl => match us, hl with | [_, _], _ => rfl)
  obtain ⟨f_Kind_name, fd_Kind_name, D_Kind_name⟩ := m_Kind_name.at (ps := P_Kind_name) (fun _ _ _ _ _ _ us hl => match us, hl with | [_], _ => rfl)
  obtain ⟨f_Kind_talks, fd_Kind_talks, D_Kind_talks⟩ := m_Kind_talks.at (ps := P_Kind_talks) (fun _ _ _ _ _ _ us hl => match us, hl with | [_], _ => rfl)
  obtain ⟨f_Kind_needs, fd_Kind_needs, D_Kind_needs⟩ := m_Kind_needs.at (ps := P_Kind_needs) (fun _ _ _ _ _ _ us hl => match us, hl with | [_], _ => rfl)
  obtain ⟨f_Kind_closing, fd_Kind_closing, D_Kind_closing⟩ := m_Kind_closing.at (ps := P_Kind_closing) (fun _ _ _ _ _ _ us hl => match us, hl with | [_], _ => rfl)
  obtain ⟨f_Kind_ends, fd_Kind_ends, D_Kind_ends⟩ := m_Kind_ends.at (ps := P_Kind_ends) (fun _ _ _ _ _ _ us hl => match us, hl with | [_], _ => rfl)
  obtain ⟨f_Kind_eq, fd_Kind_eq, D_Kind_eq⟩ := m_Kind_eq.at (ps := P_Kind_eq) (fun _ _ _ _ _ _ us hl => match us, hl with | [_, _], _ => rfl)
  obtain ⟨f_Row_init, fd_Row_init, D_Row_init⟩ := m_Row_init.at (ps := P_Row_init) (fun _ _ _ _ _ _ us hl => match us, hl with | [_, _, _, _], _ => rfl)
  obtain ⟨f_Row_eq, fd_Row_eq, D_Row_eq⟩ := m_Row_eq.at (ps := P_Row_eq) (fun _ _ _ _ _ _ us hl => match us, hl with | [_, _], _ => rfl)
  have TX_Kind : OwnTxt K mg "Kind" C := ⟨PySem.W.mg_of X G o_Kind_a, ⟨o_Kind_pg, o_Kind_hd, o_Kind_po, o_Kind_sa⟩, o_Kind_na_parts, o_Kind_ha, o_cls1, o_cls2, o_Kind_hm, o_Kind_k1, o_Kind_kp⟩
  have KN_Kind : KitNo K C := ⟨o_Kind_q0, o_Kind_q1, o_Kind_q2, o_Kind_q3, o_Kind_q4, o_Kind_q5⟩
  have TRU_Kind := And.intro o_Kind_bo o_Kind_le
  have TX_Row : OwnTxt K mg "Row" CR := ⟨PySem.W.mg_of X G o_Row_a, ⟨o_Row_pg, o_Row_hd, o_Row_po, o_Row_sa⟩, o_Row_na_parts, o_Row_ha, o_cls1, o_cls2, o_Row_hm, o_Row_k1, o_Row_kp⟩
  have KN_Row : KitNo K CR := ⟨o_Row_q0, o_Row_q1, o_Row_q2, o_Row_q3, o_Row_q4, o_Row_q5⟩
  have TRU_Row := And.intro o_Row_bo o_Row_le
  have EO_Kind : EqO K C f_Kind_eq := ⟨D_Kind_eq.at_, D_Kind_eq.isf, o_Kind_ne, o_Kind_hm, ⟨o_Kind_s0, o_Kind_s1, o_Kind_s2, o_Kind_s3, o_Kind_s4, o_Kind_s5⟩, o_Kind_u0, o_Kind_u1, o_Kind_u2, o_Kind_u3, o_Kind_u4, o_Kind_u5⟩
  have EO_Row : EqO K CR f_Row_eq := ⟨D_Row_eq.at_, D_Row_eq.isf, o_Row_ne, o_Row_hm, ⟨o_Row_s0, o_Row_s1, o_Row_s2, o_Row_s3, o_Row_s4, o_Row_s5⟩, o_Row_u0, o_Row_u1, o_Row_u2, o_Row_u3, o_Row_u4, o_Row_u5⟩
  obtain ⟨f_law, oc, od, kV, doc, pm, an, cd, ct, sl, e_law, l_law, c_law, k_law⟩ := d_law
  have e := hfa.symm.trans (PySem.W.mg_of X G e_law)
  cases e
  refine ⟨PySem.W.fnOf "law" "law" (defArgs s_law) (defBody s_law) (defScope s_law) .none kV doc pm an cd ct, fun s v => .of_eq rfl, fun base _ _ => ?_⟩
  obtain ⟨fI, fdI, FK, fIa, fIi⟩ := m_Kind_init
  have M_Kind : Mk K C fI := ⟨o_Kind_mk, fIa, fIi, o_Kind_kp⟩
  have M_Row : Mk K CR f_Row_init := ⟨o_Row_mk, D_Row_init.at_, D_Row_init.isf, o_Row_kp⟩
  have G_is_name : FnOk l.prog w K mg base CX0 1 f_is_name fd_is_name P_is_name (sp_is_name K) := ok_is_name D_is_name T
  have G_is_integer : FnOk l.prog w K mg base CX0 1 f_is_integer fd_is_integer P_is_integer (sp_is_integer K) := ok_is_integer D_is_integer T
  have G_number_of : FnOk l.prog w K mg base CX0 1 f_number_of fd_number_of P_number_of sp_number_of := ok_number_of D_number_of T
  have G_fraction_of : FnOk l.prog w K mg base CX0 2 f_fraction_of fd_fraction_of P_fraction_of (sp_fraction_of K) := ok_fraction_of D_fraction_of T D_number_of D_common_divisor
  have G_is_bound : FnOk l.prog w K mg base CX0 3 f_is_bound fd_is_bound P_is_bound (sp_is_bound K) := ok_is_bound D_is_bound D_fraction_of G_fraction_of
  have G_is_needs : FnOk l.prog w K mg base CX0 4 f_is_needs fd_is_needs P_is_needs (sp_is_needs K) := ok_is_needs D_is_needs T D_is_bound G_is_bound D_is_integer G_is_integer
  have G_is_closing : FnOk l.prog w K mg base CX0 4 f_is_closing fd_is_closing P_is_closing (sp_is_closing K) := ok_is_closing D_is_closing T D_is_bound G_is_bound D_is_integer G_is_integer
  have G_sort_of : FnOk l.prog w K mg base CX0 2 f_sort_of fd_sort_of P_sort_of (sp_sort_of K) := ok_sort_of D_sort_of T D_number_of G_number_of
  have G_Kind_init : FnOk l.prog w K mg base CX0 5 fI fdI P_Kind_init (sp_kind_init K C) := ok_Kind_init FK T TX_Kind.c TX_Kind.na D_is_name G_is_name D_is_bound G_is_bound D_is_integer G_is_integer D_is_needs G_is_needs D_is_closing G_is_closing
  have G_Row_init : FnOk l.prog w K mg base CX0 3 f_Row_init fd_Row_init P_Row_init (sp_row_init CR) := ok_Row_init D_Row_init T TX_Row.c TX_Row.na D_is_name G_is_name D_sort_of G_sort_of
  have G_drawn : FnOk l.prog w K mg base CX0 3 f_drawn fd_drawn P_drawn (sp_drawn K) := ok_drawn D_drawn T D_take D_tag
  have G_shown : OkG l.prog w K mg base CX0 3 f_shown fd_shown P_shown (sp_kshown K C) := ok_shown D_shown T TX_Kind D_Kind_name D_Kind_talks D_Kind_needs D_Kind_closing D_Kind_ends
  exact ok_law (fun_mk (st := s_law) l_law c_law k_law) T TX_Kind M_Kind FK G_Kind_init D_shown G_shown D_bag D_seed D_right
    (ok_right D_right T TX_Row TRU_Kind KN_Kind D_take D_drawn G_drawn D_otherwise (ok_otherwise D_otherwise T D_take D_drawn G_drawn) D_made (ok_made D_made TX_Kind M_Kind FK G_Kind_init) D_short (ok_short D_short TX_Kind M_Kind FK G_Kind_init)
      D_shown G_shown D_same (ok_same D_same T TX_Kind TX_Row D_Kind_eq D_Row_eq EO_Kind EO_Row o_Kind_nf o_Kind_Row_nf o_Row_Kind_nf o_Row_Kind_kt o_Kind_Row_kt) M_Row D_Row_init G_Row_init)
    D_bounds D_common
end L

open PySem PySem.W PyProof.Rows in
set_option maxRecDepth 100000 in
set_option maxHeartbeats 0 in
theorem PySem.Challenge.cw_heldvotes_k04_kinds_made_holds : PySem.Challenge.rw_heldvotes_k04_kinds_made.Holds := by
  w_on; o_law; k_head; (case hw => w_witness2)
  k_fill
  refine L.walk (l := PySem.Challenge.rw_heldvotes_k04_kinds_made) rfl rfl (fun w h Y => PySem.W.kIn_of Y) ?F
  case F =>
    intro w mg fa h KX G hmg
    refine' L.all_mk KX G hmg ?o_Kind_a ?o_Kind_pg ?o_Kind_hd ?o_Kind_po ?o_Kind_sa ?o_Kind_ha ?o_Kind_hm ?o_Kind_kp ?o_Kind_mk ?o_Kind_ne ?o_Kind_bo ?o_Kind_le ?o_Kind_na_parts ?o_Kind_s0 ?o_Kind_s1 ?o_Kind_s2 ?o_Kind_s3 ?o_Kind_s4 ?o_Kind_s5 ?o_Kind_u0 ?o_Kind_u1 ?o_Kind_u2 ?o_Kind_u3 ?o_Kind_u4 ?o_Kind_u5 ?o_Kind_nf ?o_Kind_k1 ?o_Kind_q0 ?o_Kind_q1 ?o_Kind_q2 ?o_Kind_q3 ?o_Kind_q4 ?o_Kind_q5 ?o_cls1 ?o_cls2 ?o_Row_a ?o_Row_pg ?o_Row_hd ?o_Row_po ?o_Row_sa ?o_Row_ha ?o_Row_hm ?o_Row_kp ?o_Row_mk ?o_Row_ne ?o_Row_bo ?o_Row_le ?o_Row_na_parts ?o_Row_s0 ?o_Row_s1 ?o_Row_s2 ?o_Row_s3 ?o_Row_s4 ?o_Row_s5 ?o_Row_u0 ?o_Row_u1 ?o_Row_u2 ?o_Row_u3 ?o_Row_u4 ?o_Row_u5 ?o_Row_nf ?o_Row_k1 ?o_Row_q0 ?o_Row_q1 ?o_Row_q2 ?o_Row_q3 ?o_Row_q4 ?o_Row_q5 ?o_Kind_Row_nf ?o_Kind_Row_kt ?o_Row_Kind_nf ?o_Row_Kind_kt ?m_Kind_init ?m_Kind_name ?m_Kind_talks ?m_Kind_needs ?m_Kind_closing ?m_Kind_ends ?m_Kind_eq ?m_Row_init ?m_Row_eq ?d_is_integer ?d_is_name ?d_common_divisor ?d_number_of ?d_fraction_of ?d_is_bound ?d_is_needs ?d_is_closing ?d_sort_of ?d_seed ?d_bag ?d_take ?d_common ?d_bounds ?d_tag ?d_drawn ?d_otherwise ?d_made ?d_short ?d_shown ?d_same ?d_right ?d_law ?b_ValueError ?b_abs ?b_all ?b_any ?b_bool ?b_divmod ?b_int ?b_isinstance ?b_len ?b_list ?b_max ?b_min ?b_property ?b_range ?b_repr ?b_str ?b_tuple ?c_MOST_TALKS ?c_MOST_TIMES ?c_MOST_AFTER ?c_MOST_NEEDS ?c_MOST_PART ?c_DIGITS ?c_LETTERS ?c_MARK
    (case o_Kind_a => k_is)
    (case o_Kind_pg => k_is)
    (case o_Kind_hd => k_is)
    (case o_Kind_po => k_is)
    (case o_Kind_sa => k_is)
    (case o_Kind_ha => k_is)
    (case o_Kind_hm => k_is)
    (case o_Kind_kp => k_is)
    (case o_Kind_mk => k_is)
    (case o_Kind_ne => k_is)
    (case o_Kind_bo => k_is)
    (case o_Kind_le => k_is)
    (case o_Kind_na_parts => k_is)
    (case o_Kind_s0 => k_is)
    (case o_Kind_s1 => k_is)
    (case o_Kind_s2 => k_is)
    (case o_Kind_s3 => k_is)
    (case o_Kind_s4 => k_is)
    (case o_Kind_s5 => k_is)
    (case o_Kind_u0 => k_is)
    (case o_Kind_u1 => k_is)
    (case o_Kind_u2 => k_is)
    (case o_Kind_u3 => k_is)
    (case o_Kind_u4 => k_is)
    (case o_Kind_u5 => k_is)
    (case o_Kind_nf => k_is)
    (case o_Kind_k1 => kit_is)
    (case o_Kind_q0 => kit_is)
    (case o_Kind_q1 => kit_is)
    (case o_Kind_q2 => kit_is)
    (case o_Kind_q3 => kit_is)
    (case o_Kind_q4 => kit_is)
    (case o_Kind_q5 => kit_is)
    (case o_cls1 => k_is)
    (case o_cls2 => k_is)
    (case o_Row_a => k_is)
    (case o_Row_pg => k_is)
    (case o_Row_hd => k_is)
    (case o_Row_po => k_is)
    (case o_Row_sa => k_is)
    (case o_Row_ha => k_is)
    (case o_Row_hm => k_is)
    (case o_Row_kp => k_is)
    (case o_Row_mk => k_is)
    (case o_Row_ne => k_is)
    (case o_Row_bo => k_is)
    (case o_Row_le => k_is)
    (case o_Row_na_parts => k_is)
    (case o_Row_s0 => k_is)
    (case o_Row_s1 => k_is)
    (case o_Row_s2 => k_is)
    (case o_Row_s3 => k_is)
    (case o_Row_s4 => k_is)
    (case o_Row_s5 => k_is)
    (case o_Row_u0 => k_is)
    (case o_Row_u1 => k_is)
    (case o_Row_u2 => k_is)
    (case o_Row_u3 => k_is)
    (case o_Row_u4 => k_is)
    (case o_Row_u5 => k_is)
    (case o_Row_nf => k_is)
    (case o_Row_k1 => kit_is)
    (case o_Row_q0 => kit_is)
    (case o_Row_q1 => kit_is)
    (case o_Row_q2 => kit_is)
    (case o_Row_q3 => kit_is)
    (case o_Row_q4 => kit_is)
    (case o_Row_q5 => kit_is)
    (case o_Kind_Row_nf => k_is)
    (case o_Kind_Row_kt => kit_is)
    (case o_Row_Kind_nf => k_is)
    (case o_Row_Kind_kt => kit_is)
    (case m_Kind_init => refine' L.kindInit_mk ?a ?i ?l ?c ?k ?n1 ?n2 ?n3 ?n4 ?r1 ?r2 ?r3 ?r4; (case a => k_is); (case i => k_is); (case l => k_is); (case c => k_is); (case k => k_is); (case n1 => k_is); (case n2 => k_is); (case n3 => k_is); (case n4 => k_is); (case r1 => exact ⟨_, rfl⟩); (case r2 => exact ⟨_, rfl⟩); (case r3 => rfl); (case r4 => rfl))
    (case m_Kind_name => refine' Hv.propIn_mk ?a ?b ?t ?r ?l ?c ?k; (case a => k_is); (case b => k_is); (case t => k_is); (case r => k_is); (case l => k_is); (case c => k_is); (case k => k_is))
    (case m_Kind_talks => refine' Hv.propIn_mk ?a ?b ?t ?r ?l ?c ?k; (case a => k_is); (case b => k_is); (case t => k_is); (case r => k_is); (case l => k_is); (case c => k_is); (case k => k_is))
    (case m_Kind_needs => refine' Hv.propIn_mk ?a ?b ?t ?r ?l ?c ?k; (case a => k_is); (case b => k_is); (case t => k_is); (case r => k_is); (case l => k_is); (case c => k_is); (case k => k_is))
    (case m_Kind_closing => refine' Hv.propIn_mk ?a ?b ?t ?r ?l ?c ?k; (case a => k_is); (case b => k_is); (case t => k_is); (case r => k_is); (case l => k_is); (case c => k_is); (case k => k_is))
    (case m_Kind_ends => refine' Hv.propIn_mk ?a ?b ?t ?r ?l ?c ?k; (case a => k_is); (case b => k_is); (case t => k_is); (case r => k_is); (case l => k_is); (case c => k_is); (case k => k_is))
    (case m_Kind_eq => refine' Hv.methIn_mk ?a ?i ?l ?c ?k; (case a => k_is); (case i => k_is); (case l => k_is); (case c => k_is); (case k => k_is))
    (case m_Row_init => refine' Hv.methIn_mk ?a ?i ?l ?c ?k; (case a => k_is); (case i => k_is); (case l => k_is); (case c => k_is); (case k => k_is))
    (case m_Row_eq => refine' Hv.methIn_mk ?a ?i ?l ?c ?k; (case a => k_is); (case i => k_is); (case l => k_is); (case c => k_is); (case k => k_is))
    (case d_is_integer => refine' Hv.defIn_mk ?a ?l ?c ?k; (case a => k_is); (case l => k_is); (case c => k_is); (case k => k_is))
    (case d_is_name => refine' Hv.defIn_mk ?a ?l ?c ?k; (case a => k_is); (case l => k_is); (case c => k_is); (case k => k_is))
    (case d_common_divisor => refine' Hv.defIn_mk ?a ?l ?c ?k; (case a => k_is); (case l => k_is); (case c => k_is); (case k => k_is))
    (case d_number_of => refine' Hv.defIn_mk ?a ?l ?c ?k; (case a => k_is); (case l => k_is); (case c => k_is); (case k => k_is))
    (case d_fraction_of => refine' Hv.defIn_mk ?a ?l ?c ?k; (case a => k_is); (case l => k_is); (case c => k_is); (case k => k_is))
    (case d_is_bound => refine' Hv.defIn_mk ?a ?l ?c ?k; (case a => k_is); (case l => k_is); (case c => k_is); (case k => k_is))
    (case d_is_needs => refine' Hv.defIn_mk ?a ?l ?c ?k; (case a => k_is); (case l => k_is); (case c => k_is); (case k => k_is))
    (case d_is_closing => refine' Hv.defIn_mk ?a ?l ?c ?k; (case a => k_is); (case l => k_is); (case c => k_is); (case k => k_is))
    (case d_sort_of => refine' Hv.defIn_mk ?a ?l ?c ?k; (case a => k_is); (case l => k_is); (case c => k_is); (case k => k_is))
    (case d_seed => refine' Hv.defIn_mk ?a ?l ?c ?k; (case a => k_is); (case l => k_is); (case c => k_is); (case k => k_is))
    (case d_bag => refine' Hv.defIn_mk ?a ?l ?c ?k; (case a => k_is); (case l => k_is); (case c => k_is); (case k => k_is))
    (case d_take => refine' Hv.defIn_mk ?a ?l ?c ?k; (case a => k_is); (case l => k_is); (case c => k_is); (case k => k_is))
    (case d_common => refine' Hv.defIn_mk ?a ?l ?c ?k; (case a => k_is); (case l => k_is); (case c => k_is); (case k => k_is))
    (case d_bounds => refine' Hv.defIn_mk ?a ?l ?c ?k; (case a => k_is); (case l => k_is); (case c => k_is); (case k => k_is))
    (case d_tag => refine' Hv.defIn_mk ?a ?l ?c ?k; (case a => k_is); (case l => k_is); (case c => k_is); (case k => k_is))
    (case d_drawn => refine' Hv.defIn_mk ?a ?l ?c ?k; (case a => k_is); (case l => k_is); (case c => k_is); (case k => k_is))
    (case d_otherwise => refine' Hv.defIn_mk ?a ?l ?c ?k; (case a => k_is); (case l => k_is); (case c => k_is); (case k => k_is))
    (case d_made => refine' Hv.defIn_mk ?a ?l ?c ?k; (case a => k_is); (case l => k_is); (case c => k_is); (case k => k_is))
    (case d_short => refine' Hv.defIn_mk ?a ?l ?c ?k; (case a => k_is); (case l => k_is); (case c => k_is); (case k => k_is))
    (case d_shown => refine' Hv.defIn_mk ?a ?l ?c ?k; (case a => k_is); (case l => k_is); (case c => k_is); (case k => k_is))
    (case d_same => refine' Hv.defIn_mk ?a ?l ?c ?k; (case a => k_is); (case l => k_is); (case c => k_is); (case k => k_is))
    (case d_right => refine' Hv.defIn_mk ?a ?l ?c ?k; (case a => k_is); (case l => k_is); (case c => k_is); (case k => k_is))
    (case d_law => refine' Hv.defIn_mk ?a ?l ?c ?k; (case a => k_is); (case l => k_is); (case c => k_is); (case k => k_is))
    (case b_ValueError => k_is)
    (case b_abs => k_is)
    (case b_all => k_is)
    (case b_any => k_is)
    (case b_bool => k_is)
    (case b_divmod => k_is)
    (case b_int => k_is)
    (case b_isinstance => k_is)
    (case b_len => k_is)
    (case b_list => k_is)
    (case b_max => k_is)
    (case b_min => k_is)
    (case b_property => k_is)
    (case b_range => k_is)
    (case b_repr => k_is)
    (case b_str => k_is)
    (case b_tuple => k_is)
    (case c_MOST_TALKS => refine' Hv.constIn_mk ?cq ?cr; (case cq => k_is); (case cr => exact ⟨_, rfl⟩))
    (case c_MOST_TIMES => refine' Hv.constIn_mk ?cq ?cr; (case cq => k_is); (case cr => exact ⟨_, rfl⟩))
    (case c_MOST_AFTER => refine' Hv.constIn_mk ?cq ?cr; (case cq => k_is); (case cr => exact ⟨_, rfl⟩))
    (case c_MOST_NEEDS => refine' Hv.constIn_mk ?cq ?cr; (case cq => k_is); (case cr => exact ⟨_, rfl⟩))
    (case c_MOST_PART => refine' Hv.constIn_mk ?cq ?cr; (case cq => k_is); (case cr => exact ⟨_, rfl⟩))
    (case c_DIGITS => refine' Hv.constIn_mk ?cq ?cr; (case cq => k_is); (case cr => exact ⟨_, rfl⟩))
    (case c_LETTERS => refine' Hv.constIn_mk ?cq ?cr; (case cq => k_is); (case cr => exact ⟨_, rfl⟩))
    (case c_MARK => refine' Hv.constIn_mk ?cq ?cr; (case cq => k_is); (case cr => exact ⟨_, rfl⟩))


