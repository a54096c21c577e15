import PyProof.Rows.All
import Wide.All
import OpenK.AllK
import Wide.FinOn
import HandS.ForMost
import HandS.ForExc
import HandS.EndBits
import HandS.Wide
import HandS.WideBits
import HandS.IsInst
import HandS.StrMore
import HandS.Style
import HandS.Evl
import PyProof.ReprRoads
import HandS.ReplaceDef
import HandS.ReplaceLit
import HandS.NoneIn
import HandS.Walk
import HandS.Codes
import HandS.Lambda
import HandS.HotCalls
import HandS.ExcIs
import HandS.ExcField
import KE.KTryMore
import HandS.ExcInit
import PyProof.ReprBulk
import PyProof.Rows.RegStrFacts
import HandS.Dict
import HandS.EndTab
import HandS.Deep
import KE.DataFind
import HandS.SlotsOwn
import HandS.Head0
import HandS.Head1
import HandS.Head2
import HandS.HeadEnd
import HandS.HeadHook1
import HandS.HeadHook2
import HandS.HeadHook4
import PySem.Challenge.RW_heldvotes_k03_bounds_refused
set_option Elab.async false
set_option linter.all false
set_option maxRecDepth 100000
set_option maxHeartbeats 4000000
namespace Hv
open PySem PySem.Spec PyProof.Rows L2

/-- a promise that is kept wherever no repr is under way -/
structure OkG (P : Program) (w : World) (K : PySem.W.Frag) (mg : Str → Option Value) (base : Heap) (CX : CXT) (k : Nat)
    (f : Addr) (fd : FuncData) (ps : List Str) (sp : Sp) : Prop where
  len : ∀ vs H Q E, sp vs H Q E → vs.length = ps.length
  run : ∀ (A : Around) (outer : List Env) (s : Shared) (H : Hp) (args : Args) (us : List Value) (vs : List V) (Q : VK) (E : XK),
    A.guards = some [] → Room k A → Env0 P w K mg base A outer s H → BindsTo s fd args (ps.zip us) → Vals vs us →
    sp vs H Q E → codeAny (model P w) A (.call (.ref f) args) (CR CX outer P w H s Q E) s

section
variable {P : Program} {w : World} {K : PySem.W.Frag} {mg : Str → Option Value} {base : Heap} {CX : CXT} {k : Nat}
  {f : Addr} {fd : FuncData} {ps : List Str} {sp : Sp}
theorem OkG.of (F : FnOk P w K mg base CX k f fd ps sp) : OkG P w K mg base CX k f fd ps sp :=
  ⟨F.len, fun A outer s H args us vs Q E _ => F.run A outer s H args us vs Q E⟩
theorem OkG.mono {j : Nat} (F : OkG P w K mg base CX j f fd ps sp) (h : j ≤ k) : OkG P w K mg base CX k f fd ps sp :=
  ⟨F.len, fun A outer s H args us vs Q E hg hr => F.run A outer s H args us vs Q E hg (hr.mono h)⟩

/-- the rule for a def, where no repr is under way -/
theorem okG {x qual : Str} {st : Stmt} {N : List Str} (F : Fun K x qual st f fd) (S : FnScope N ps (defScope st))
    (len : ∀ vs H Q E, sp vs H Q E → vs.length = ps.length)
    (body : ∀ (cdv : Value) (A : Around) (outer : List Env) (s : Shared) (H : Hp) (vs : List V) (Q : VK) (E : XK),
      A.guards = some [] → Room k (A.deeper (envOfC qual (defScope st) s.heap.objs.size f cdv)) → sp vs H Q E →
      ∃ t, PSs (cxOf CX P w K mg base N qual (defScope st) f cdv A outer s H E) (defBody st) t ∧
        t { nx := fun _ H' => Q .non H', rt := Q } (start N vs) H) :
    OkG P w K mg base CX (k + 1) f fd ps sp := by
  obtain ⟨oc, od, kV, doc, pm, an, cdv, ct, osl, rfl, lk, hcd⟩ := F.ex
  constructor
  · exact len
  intro A outer s H args us vs Q E hg hr e0 hb r hsp
  have KX : K.In s.heap := e0.mod.kin.keeps (fun b o e => (e0.bs b o e).1)
  have lim := e0.mod.nolimit.keeps (fun b o e => (e0.bs b o e).1)
  have kinds : ∀ y ∈ ps.zip us, (defScope st).names.lookup y.1 = some .local ∨
      ((defScope st).names.lookup y.1 = some .cell ∧
        ((cellsFrom (s.heap.objs.size + 1) (defScope st).names []).lookup y.1).isSome = true) := by
    rintro ⟨n, v⟩ hy
    cases S.par n (List.of_mem_zip hy).1 with
    | inl q => exact Or.inl q
    | inr q => exact Or.inr ⟨q, PySem.W.cellsFrom_some _ _ _ (Or.inl q)⟩
  apply codeAny_call_function hr.depth (KX _ _ lk) rfl S.co S.gen rfl (PySem.W.codeRec_of KX hcd)
  apply hb
  refine wpAny_newFunctionEnv_cells S.kind kinds ?_
  rintro env rfl s1 x
  refine ⟨lim.keeps x.toInCall.keep, codeAny_func ?_⟩
  obtain ⟨t, ht, hq⟩ := body cdv A outer s H vs Q E hg (hr.deeper _) hsp
  have I := inv_start (CX := CX) (E := E) S hr.hd e0 (len _ _ _ _ hsp) r x
  apply wpAny_mono (ht.run [] s1 (start N vs) H _ I hq)
  · intro fl s' hs
    cases fl with
    | ret u =>
      obtain ⟨v, σ', H', J, rv, q⟩ := hs
      exact ⟨v, H', J.os, J.bare, J.base, J.hok, rv, q⟩
    | next =>
      obtain ⟨σ', H', J, q⟩ := hs
      exact ⟨V.non, H', J.os, J.bare, J.base, J.hok, rfl, q⟩
    | brk =>
      obtain ⟨_, _, _, q⟩ := hs
      exact q.elim
    | cont =>
      obtain ⟨_, _, _, q⟩ := hs
      exact q.elim
  · intro e s' hs
    exact hs
end

theorem okG0 {P : Program} {w : World} {K : PySem.W.Frag} {mg : Str → Option Value} {base : Heap} {k : Nat} {f : Addr} {fd : FuncData} {ps : List Str} {sp : Sp}
    {x qual : Str} {st : Stmt} {N : List Str} (F : Fun K x qual st f fd) (S : FnScope N ps (defScope st)) (len : ∀ vs H Q E, sp vs H Q E → vs.length = ps.length)
    (body : ∀ (cdv : Value) (A : Around) (outer : List Env) (s : Shared) (H : Hp) (vs : List V) (Q : VK) (E : XK),
      A.guards = some [] → Room k (A.deeper (envOfC qual (defScope st) s.heap.objs.size f cdv)) → sp vs H Q E →
      ∃ t, PSs (cxOf CX0 P w K mg base N qual (defScope st) f cdv A outer s H E).nox (defBody st) t ∧
        t { nx := fun _ H' => Q .non H', rt := Q } (start N vs) H) : OkG P w K mg base CX0 (k + 1) f fd ps sp :=
  okG F S len fun cdv A outer s H vs Q E hg hr hsp =>
    let ⟨t, h, q⟩ := body cdv A outer s H vs Q E hg hr hsp
    ⟨t, h.nox, q⟩
section
variable {X : Cx} {CX : CXT} {k : Nat} {f : Addr} {fd : FuncData} {ps : List Str} {sp : Sp} {dvs : List V} {ds : List Value}
  {E : XK} {x : Str} {p pos : Pos} {e : Expr} {es : List Expr} {t : TA}
theorem runG {pins : List (Addr × Obj)} {σ : L2.St} {H : Hp} {s : Shared} {Q : VK} {us : List Value} {vs : List V}
    (F : OkG X.prog X.w X.K X.mg X.base CX k f fd ps sp) (hG : X.A.guards = some []) (hr : Room k X.A)
    (hb : Binds X.K fd ps ds) (hd : Vals dvs ds) (hx : Passes CX X E) (I : Inv X pins σ H s) (r : Vals vs us)
    (h : sp (vs ++ dvs) H Q E) : wpAny (model X.prog X.w) X.A (call (.ref f) us) (EP X pins σ Q) X.xe s := by
  have r2 : Vals (vs ++ dvs) (us ++ ds) := r.append hd
  have hl : (us ++ ds).length = ps.length := r2.length.symm.trans (F.len _ _ _ _ h)
  have go := F.run X.A X.stack s H ⟨us, []⟩ (us ++ ds) (vs ++ dvs) Q E hG hr I.env0 (hb s us I.kIn hl) r2 h
  refine wpAny_call (codeAny_mono go ?_)
  intro r s' hq
  match r, hq with
  | .error e, hq => exact hx pins σ H s e s' I hq
  | .ok (.ret u), hq => exact I.after hq
  | .ok .next, hq => exact hq.elim
  | .ok .brk, hq => exact hq.elim
  | .ok .cont, hq => exact hq.elim
/-- f(e, ..) for such a def -/
theorem pe_callG (F : OkG X.prog X.w X.K X.mg X.base CX k f fd ps sp) (hG : X.A.guards = some []) (hr : Room k X.A) (hg : Gl X x)
    (hm : X.mg x = some (.ref f)) (hk : PySem.W.keepIn X.K (.ref f) = true) (hb : Binds X.K fd ps ds) (hd : Vals dvs ds)
    (hx : Passes CX X E) (ha : PA X (e :: es) t) (hdb : (x == ("__debug__" : Str)) = false := by decide)
    (he : starEach (e :: es) X.env = (false, eval e X.env) :: starEach es X.env := by rfl)
    (hpl : (backTo pos (starEach es X.env)).any (·.1) = false := by rfl) :
    PE X (.Call (.Name x p) (e :: es) [] pos) (tCall sp dvs E t) := by
  constructor
  intro pins s σ H Q I h
  apply wpAny_Call_Name_kw
  refine ld_glob I hg hm ?_ hdb
  refine PySem.W.callWith_K (h₀ := X.base) I.ok.mod.kin hk (thn (ha.run pos pins s σ H _ I h) ?_) he hpl
  rintro us s1 ⟨vs, H1, I1, r, q⟩
  exact ⟨I1.kIn, runG F hG hr hb hd hx I1 r q⟩
theorem pe_call0G (F : OkG X.prog X.w X.K X.mg X.base CX k f fd ps sp) (hG : X.A.guards = some []) (hr : Room k X.A) (hg : Gl X x)
    (hm : X.mg x = some (.ref f)) (hk : PySem.W.keepIn X.K (.ref f) = true) (hb : Binds X.K fd ps ds) (hd : Vals dvs ds)
    (hx : Passes CX X E) (hdb : (x == ("__debug__" : Str)) = false := by decide) :
    PE X (.Call (.Name x p) [] [] pos) (tCall sp dvs E tNil) := by
  constructor
  intro pins s σ H Q I h
  apply wpAny_Call_Name_kw
  refine ld_glob I hg hm ?_ hdb
  exact PySem.W.callWith_K0 I.kIn hk (runG (us := []) F hG hr hb hd hx I .nil h)

/-- repr of data -/
@[irreducible] def rRepr (K : PySem.W.Frag) : List V → Hp → VK → Prop := fun xs H Q => ∃ v d, xs = [v] ∧ Dp K H v d ∧ d.showable = true ∧ d.hasDict = false ∧ d.depth ≤ 60 ∧ d.shown.length ≤ sizeLine ∧ Q (.str d.shown) H
theorem rd_repr {K : PySem.W.Frag} {H : Hp} {v : V} {d : PyData} {Q : VK} (hv : Dp K H v d) (h1 : d.showable = true) (h2 : d.hasDict = false) (h3 : d.depth ≤ 60) (h4 : d.shown.length ≤ sizeLine) (q : Q (.str d.shown) H) : rRepr K [v] H Q := by
  unfold rRepr
  exact ⟨v, d, rfl, hv, h1, h2, h3, h4, q⟩
theorem cr_repr (hG : X.A.guards = some []) (hu : X.A.units + 64 < cLine) : CallR X (.builtin "repr") (rRepr X.K) := by
  intro pins s σ H xs us Q I r h
  unfold rRepr at h
  obtain ⟨v, d, rfl, hd, hs, hn, hdep, hz, q⟩ := h
  obtain ⟨u, rfl, ru⟩ : ∃ u, us = [u] ∧ RelV v u := by
    cases r with
    | cons a b => cases b with | nil => exact ⟨_, rfl, a⟩
  obtain ⟨as, rd⟩ := Dp.reads I d v u hd ru
  cases hd with
  | non => cases ru; exact PySem.P.repr_of_none ⟨.str _, H, I.tok _, ⟨_, rfl⟩, q⟩
  | bl b => cases ru; exact PySem.P.repr_of_bool ⟨.str _, H, I.tok _, ⟨_, rfl⟩, q⟩
  | int i =>
    obtain ⟨t, rfl⟩ := ru
    refine PySem.P.repr_of_int ?_ ⟨.str _, H, I.tok _, ⟨_, rfl⟩, q⟩
    simpa [PyData.showable] using hs
  | str z =>
    obtain ⟨t, rfl⟩ := ru
    exact PySem.P.repr_of_str ⟨.str _, H, I.tok _, ⟨_, rfl⟩, q⟩ hz
  | lst h1 h2 =>
    cases ru
    refine repr_of_reads' rd hs (by rw [hn]; intro z; cases z) hG (by omega) (fun _ _ e => e) ?_ hz
    intro h' u' tk hk
    exact ⟨.str _, H, I.kept hk, ⟨_, rfl⟩, q⟩
  | tup h1 h2 =>
    cases ru
    refine repr_of_reads' rd hs (by rw [hn]; intro z; cases z) hG (by omega) (fun _ _ e => e) ?_ hz
    intro h' u' tk hk
    exact ⟨.str _, H, I.kept hk, ⟨_, rfl⟩, q⟩
end

/-! ### the end: the law's call, where no repr is under way -/
theorem old_of {P : Program} {w : World} {H H' : Hp} {h h' : Heap} (hO : Only H) (un : Un (frs []) [] H H' h h') (ok : HOk P w H h) (ok' : HOk P w H' h') : OldK h h' := by
  apply OldK.of_keep
  intro b o e
  rcases hO b with z | ⟨ob, xs, z⟩
  · exact un.keep b o e z (by intro q; cases q) (by intro q; cases q)
  · have k1 := (ok b _ z).1
    have k2 := (ok' b _ (un.frzs b ob _ z)).1
    rw [e] at k1
    cases k1
    exact k2
theorem call_lawG {P : Program} {w : World} {K : PySem.W.Frag} {mg mb : Str → Option Value} {CX : CXT} {k : Nat} {fa a : Addr} {fd : FuncData}
    {x : Str} {sp : Sp} {s : Shared} {vs : List Value} {ns : List Int} (KX : K.In s.heap) (gl : s.heap.Ns mainGlobals mg)
    (bl : s.heap.Ns builtinsNs mb) (hbb : ∀ x : Str, x ≠ "__name__" → mb x = bootBuiltins x) (lim : s.heap.NoLimit) (gens : s.gens = #[])
    (ha : s.heap.get? a = some { cls := .type "list", data := .seq vs.toArray }) (hi : IntsAre vs ns) (hl : ns.length ≤ sizeLine)
    (hr : Room k callerA) (F : ∀ base : Heap, K.In base → base.Ns mainGlobals mg → OkG P w K mg base CX k fa fd [x] sp)
    (bind : ∀ (s : Shared) (u : Value), BindsTo s fd ⟨[u], []⟩ [(x, u)])
    (hsp : ∀ H : Hp, SqL K H a (ns.map V.int) → sp [.ref a] H (fun v _ => v = .bl true) fun _ _ _ => False)
    (hCX : ∀ H e s', CX [] H s (fun _ _ _ => False) e s' → False) :
    codeAny (model P w) callerA (.call (.ref fa) ⟨[.ref a], []⟩)
      (fun r s' => r = .ok (.ret (.bool true)) ∧ OldK s.heap s'.heap ∧ s'.os = s.os ∧ AllBare s'.gens) s := by
  have rv := vals_ints hi
  have core : ∀ H : Hp, Only H → SqL K H a (ns.map V.int) → HOk P w H s.heap → (∀ b, H b ≠ none → b = a) → (H a ≠ none → K.lookup a = none) →
      codeAny (model P w) callerA (.call (.ref fa) ⟨[.ref a], []⟩)
        (fun r s' => r = .ok (.ret (.bool true)) ∧ OldK s.heap s'.heap ∧ s'.os = s.os ∧ AllBare s'.gens) s := by
    intro H hO hS ok hA hK
    -- what is no list is not tracked
    have free : ∀ {b : Addr} {o : Obj}, s.heap.get? b = some o → (b = a → H a = none) → H b = none := by
      intro b o _ z
      by_cases q : H b = none
      · exact q
      · have e := hA b q
        rw [e]
        exact z e
    have ns' : ∀ {b : Addr} {m : Str → Option Value}, s.heap.Ns b m → (hidT s.heap H).Ns b m := by
      rintro b m ⟨o, es, ep, e, d, r⟩
      refine ⟨o, es, ep, hidT_get e (free e fun q => ?_), d, r⟩
      subst q
      rw [ha] at e
      cases e
      cases d
    have hKb : K.In (hidT s.heap H) := by
      intro b o e
      refine hidT_get (KX b o e) (free (KX b o e) fun q => ?_)
      subst q
      by_cases z : H b = none
      · exact z
      · rw [hK z] at e
        cases e
    have hM : Mod K mg (hidT s.heap H) := by
      obtain ⟨mc, h1, h2⟩ := lim
      exact ⟨hKb, ns' gl, ⟨mb, ns' bl, hbb⟩, ⟨mc, ns' h1, h2⟩⟩
    have e0 : Env0 P w K mg (hidT s.heap H) callerA [] s H := by
      refine ⟨rfl, hM, fun b o e => of_hidT e, Nat.le_of_eq (hidT_size _ _), trivial, ?_, ok, .of_eq gens⟩
      intro b hb
      cases (show b ∈ ([] : List Addr) from hb)
    have go := (F _ hKb (ns' gl)).run callerA [] s H ⟨[.ref a], []⟩ [.ref a] [.ref a] (fun v _ => v = .bl true) (fun _ _ _ => False)
      rfl hr e0 (bind s (.ref a)) (.cons rfl .nil) (hsp H hS)
    refine codeAny_mono go ?_
    intro r s' h
    match r, h with
    | .error e, h => exact (hCX H e s' h).elim
    | .ok .next, h => exact h.elim
    | .ok .brk, h => exact h.elim
    | .ok .cont, h => exact h.elim
    | .ok (.ret u), h =>
      obtain ⟨v, H', os, bare, un, ok', r', q⟩ := h
      cases (show v = .bl true from q)
      cases (show u = Value.bool true from r')
      exact ⟨rfl, old_of hO un ok ok', os, bare⟩
  by_cases hk : K.lookup a = none
  · refine core (upd (fun _ => none) a (.frz { cls := .type "list", data := .seq vs.toArray } (.lst (ns.map V.int)))) ?_ (.inl (.inr ⟨_, upd_same⟩)) ?_ ?_ fun _ => hk
    · intro b
      by_cases hb : b = a
      · subst hb
        exact .inr ⟨_, _, upd_same⟩
      · exact .inl (upd_ne hb)
    · intro b u z
      by_cases hb : b = a
      · subst hb
        rw [upd_same] at z
        cases z
        exact ⟨ha, by rw [List.length_map]; exact hl, vs, _, rv, ha⟩
      · rw [upd_ne hb] at z
        cases z
    · intro b z
      by_cases hb : b = a
      · exact hb
      · exact absurd (upd_ne hb) z
  · obtain ⟨o, ho⟩ := Option.ne_none_iff_exists'.mp hk
    have e := KX a o ho
    rw [ha] at e
    cases e
    have lenV := hi.length
    refine core (fun _ => none) (fun _ => .inl rfl) (.inr ⟨_, vs.toArray, _, ho, rfl, rfl, rfl, ?_, ?_⟩) ?_ ?_ ?_
    · rw [List.size_toArray, lenV]
      exact hl
    · simpa using rv
    · intro b u z
      cases (show (none : Option HO) = some u from z)
    · intro b z
      exact absurd rfl z
    · intro z
      exact absurd rfl z
theorem walkG {l : PySem.W.OpenLaw} {n k : Nat} {q : Program} {loose : List Str} {XP : (Str → Option Value) → Heap → Prop}
    {YP : World → Heap → Prop} {d : DefRec} {K : Params → PySem.W.Frag} {CX : World → CXT} {sp : World → Sp} {x : Str}
    (hn : l.most = some n) (hn2 : n ≤ sizeLine) (hdf : d.params.defaults = []) (hr : Room k callerA)
    (hY : ∀ (w : World) (h : Heap), YP w h → (K w.params).In h)
    (F : ∀ (w : World) (mg : Str → Option Value) (fa : Addr) (h : Heap), (K w.params).In h → h.Ns mainGlobals mg →
      mg d.name = some (.ref fa) → ∃ fd : FuncData, (∀ (s : Shared) (u : Value), BindsTo s fd ⟨[u], []⟩ [(x, u)]) ∧
        ∀ base : Heap, (K w.params).In base → base.Ns mainGlobals mg → OkG l.prog w (K w.params) mg base (CX w) k fa fd [x] (sp w))
    (hsp : ∀ (w : World) (H : Hp) (a : Addr) (ns : List Int), ns.length ≤ n → (∀ z ∈ ns, Builtin.Int.intBits z ≤ 1048576) →
      SqL (K w.params) H a (ns.map V.int) → sp w [.ref a] H (fun v _ => v = .bl true) fun _ _ _ => False)
    (hCX : ∀ (w : World) (H : Hp) (s : Shared) (e : Value) (s' : Shared), CX w [] H s (fun _ _ _ => False) e s' → False) :
    PySem.W.WalkO q loose XP YP l.row.toRowW d [] (fun f vs => PySem.call f vs) := by
  refine Att.attach_callB hn hdf ?_
  intro w s₀ s₁ mg mb fa o pm cd doc a vs ns G Y ho hd hcd hmg hobj hints hlen hbits hg
  obtain ⟨fd, hb, hF⟩ := F w mg fa _ (hY w _ Y) G.T.g hmg
  exact call_lawG (hY w _ Y) G.T.g G.T.b G.T.builtins G.T.nolimit hg hobj hints (Nat.le_trans hlen hn2) hr hF hb
    (fun H hS => hsp w H a ns hlen hbits hS) (fun H e s' => hCX w H s₁ e s')
end Hv

namespace Hv
open PySem PySem.Spec PyProof.Rows L2
section
variable {X : Cx} {o e : Expr} {to te : TE}
/-- a text's method of one argument; its receiver wants a token -/
theorem pet_m1 {id : String} {name : Str} {apos pos : Pos} {r : V → List V → Hp → VK → Prop} (slot : Slot "str" name id)
    (ty : typeOf (.builtin id) = pure (.type "method_descriptor")) (rule : MtR X id r) (ho : PET X o to) (he : PE X e te)
    (hs : starEach [e] X.env = [(false, eval e X.env)] := by rfl) (hbase : attributeBase o name X.env (eval o X.env) = eval o X.env := by rfl)
    (hline : (apos.endLine == pos.line) = true := by rfl) : PET X (.Call (.Attribute o name apos) [e] [] pos) (tM1 r to te) := by
  intro pins s σ H Q h0 I h
  apply PySem.Call_method1 hbase hs hline
  apply thn (ho pins s σ H _ h0 I h)
  rintro v s1 ⟨x, H1, I1, r1, ⟨a, rfl⟩, q1⟩
  obtain ⟨t, rfl⟩ := _root_.id r1
  refine ⟨"str", _, F.plainAttrs_str, slot, ty, typeIs_str _ _ _, (fun _ e => nomatch e), ?_⟩
  refine Calls.callWith_builtin rfl (Calls.evalArgs_plain (Calls.spliced_cons (thn (he.run pins s1 σ H1 _ I1 q1) ?_)))
  rintro u s2 ⟨y, H2, I2, r2, q2⟩
  exact Calls.spliced_nil (rule pins s2 σ H2 _ [y] _ [u] Q I2 r1 (.cons r2 .nil) q2)
theorem pst_asg {tg : Expr} {g : TG} {pos : Pos} (he : PET X e te) (hg : PG X tg g) (hs : swapsWithSole [tg] e pos.line X.env = pure false := by rfl)
    (hw : swappedStores [tg] e X.env = pure none := by rfl) (h1 : (assignEach [tg] X.env).map (·.2) = [assign tg X.env] := by rfl) :
    PST X (.Assign [tg] e pos) (tAsg te g) := by
  intro pins s σ H D h0 I h
  refine wpAny_Assign_stores (thn (he pins s σ H _ h0 I h) ?_) hs hw
  rintro v s1 ⟨x, H1, I1, r1, q1⟩
  rw [h1]
  exact thn (hg.run pins s1 σ H1 x v _ I1 r1 q1) fun _ s2 q => q
/-- f(k = v, ..), no positional argument -/
theorem pe_callK0 {CX : CXT} {k : Nat} {f : Addr} {fd : FuncData} {ps ks : List Str} {sp : Sp} {E : XK} {x : Str} {p pos : Pos} {kws : List Keyword} {tk : TA}
    {g : List Value → List Value → List Value} {gV : List V → List V → List V} (F : FnOk X.prog X.w X.K X.mg X.base CX k f fd ps sp) (hr : Room k X.A) (hg : Gl X x)
    (hm : X.mg x = some (.ref f)) (hk : PySem.W.keepIn X.K (.ref f) = true) (hb : KBinds X.K fd ps ks g gV) (hx : Passes CX X E) (hkw : PK X kws tk)
    (hall : (backToKw pos (keywordEach kws X.env)).all (·.1.isSome) = true := by rfl) (hks : (backToKw pos (keywordEach kws X.env)).filterMap (·.1) = ks := by rfl)
    (hdb : (x == ("__debug__" : Str)) = false := by decide)
    (hpl : ((backTo pos (starEach [] X.env)).any (·.1) || (backToKw pos (keywordEach kws X.env)).any (·.1.isNone)) = false := by rfl) :
    PE X (.Call (.Name x p) [] kws pos) (tCallK sp gV E tNil tk) := by
  constructor
  intro pins s σ H Q I h
  apply wpAny_Call_Name_kw
  refine ld_glob I hg hm ?_ hdb
  refine PySem.W.callWith_KW0 (h₀ := X.base) I.ok.mod.kin hk hall ?_ hpl
  apply thn (hkw.run pos pins s σ H _ I h)
  rintro ws s2 ⟨zs, H2, I2, rz, q2⟩
  rw [hks]
  exact ⟨I2.kIn, run_fnk (us := []) F hr hb hx I2 .nil rz q2⟩
/-- repr of a truth value -/
theorem cr_reprB : CallR X (.builtin "repr") (fun xs H Q => ∃ b, xs = [.bl b] ∧ Q (.str (if b then "True" else "False")) H) := by
  intro pins s σ H xs us Q I r h
  obtain ⟨b, rfl, q⟩ := h
  cases r with
  | cons a t =>
    cases t
    cases a
    exact PySem.P.repr_of_bool ⟨.str _, H, I.tok _, ⟨_, rfl⟩, q⟩
end
section
variable {P : Program} {w : World} {K : PySem.W.Frag} {mg : Str → Option Value} {base : Heap} {CX : CXT} {k : Nat} {f : Addr} {fd : FuncData} {ps : List Str} {sp : Sp}
/-- the rule for a def without cells: a token is out when its body begins -/
theorem okT {x qual : Str} {st : Stmt} {N : List Str} (F : Fun K x qual st f fd) (S : FnScope N ps (defScope st)) (hnc : ∀ y ∈ (defScope st).names, y.2 ≠ .cell) (hps : 1 ≤ ps.length)
    (len : ∀ vs H Q E, sp vs H Q E → vs.length = ps.length)
    (body : ∀ (cdv : Value) (A : Around) (outer : List Env) (s : Shared) (H : Hp) (vs : List V) (Q : VK) (E : XK),
      Room k (A.deeper (envOfC qual (defScope st) s.heap.objs.size f cdv)) → sp vs H Q E →
      ∃ t, PSsT (cxOf CX P w K mg base N qual (defScope st) f cdv A outer s H E) (defBody st) t ∧ t { nx := fun _ H' => Q .non H', rt := Q } (start N vs) H) :
    FnOk P w K mg base CX (k + 1) f fd ps sp := by
  obtain ⟨oc, od, kV, doc, pm, an, cdv, ct, osl, rfl, lk, hcd⟩ := F.ex
  exact fn_ofT lk hcd S hnc hps len fun A outer s H vs Q E hr hsp => body cdv A outer s H vs Q E hr hsp
end
end Hv

namespace Hv
open PySem L2

theorem dT {p : Prop} [Decidable p] (h : decide p = true) : p := of_decide_eq_true h
theorem dF {p : Prop} [Decidable p] (h : ¬ decide p = true) : ¬ p := fun q => h (decide_eq_true q)
theorem nT {p : Prop} [Decidable p] (h : (!decide p) = true) : ¬ p := fun q => by
  rw [decide_eq_true q] at h
  cases h
theorem nF {p : Prop} [Decidable p] (h : ¬ (!decide p) = true) : p := by
  by_cases q : p
  · exact q
  · exact absurd (by rw [decide_eq_false q]; rfl) h

theorem ifT {p : Prop} [Decidable p] {A B : Prop} (hp : p) (h : A) : if decide p = true then A else B := by
  rw [if_pos (decide_eq_true hp)]
  exact h
theorem ifF {p : Prop} [Decidable p] {A B : Prop} (hp : ¬ p) (h : B) : if decide p = true then A else B := by
  rw [if_neg (fun q => hp (of_decide_eq_true q))]
  exact h
theorem ifNT {p : Prop} [Decidable p] {A B : Prop} (hp : ¬ p) (h : A) : if (!decide p) = true then A else B := by
  rw [decide_eq_false hp]
  exact h
theorem ifNF {p : Prop} [Decidable p] {A B : Prop} (hp : p) (h : B) : if (!decide p) = true then A else B := by
  rw [decide_eq_true hp]
  exact h

/-- a value's reading by what holds behind it -/
theorem join_te {te : TE} {σ : L2.St} {H : Hp} {Q : VK} (S : V → Hp → Prop) (h : ∀ Q' : VK, (∀ v H', S v H' → Q' v H') → te σ H Q') (k : ∀ v H', S v H' → Q v H') : te σ H Q := h Q k

theorem join_asg {te : TE} {g : TG} {u : TS} {D : Ends} {σ : L2.St} {H : Hp} (S : V → Hp → Prop) (h : ∀ Q' : VK, (∀ v H', S v H' → Q' v H') → te σ H Q')
    (k : ∀ v H', S v H' → g v σ H' (u D)) : tSeq (tAsg te g) u D σ H := h _ k

theorem join_ifs {tt : TT} {t u v : TS} {D : Ends} {σ : L2.St} {H : Hp} (S : Bool → Hp → Prop) (h : ∀ Q' : Bool → Hp → Prop, (∀ b H', S b H' → Q' b H') → tt σ H Q')
    (k : ∀ b H', S b H' → if b = true then t { D with nx := v D } σ H' else u { D with nx := v D } σ H') : tSeq (tIfS tt t u) v D σ H := h _ k
/-- both ways of an if come to the same -/
theorem join_if {c : Bool} {A B R : Prop} (hB : c = false → R → B) (hA : c = true → R → A) (r : R) : if c = true then A else B := by
  cases c with
  | true => exact hA rfl r
  | false => exact hB rfl r

structure DefAt (K : PySem.W.Frag) (mg : Str → Option Value) (x : Str) (st : Stmt) (ps : List Str) (f : Addr) (fd : FuncData) : Prop where
  fn : Fun K x x st f fd
  mg : mg x = some (.ref f)
  bd : Binds K fd ps []
/-- what the top has left of a def -/
def DefIn (K : PySem.W.Frag) (x : Str) (st : Stmt) : Prop :=
  ∃ (f : Addr) (oc : Value) (od : Option Addr) (kV doc pm : Value) (an : Option Addr) (cd ct : Value) (sl : Array (Option Value)),
    PySem.W.nsIn K mainGlobals x = some (some (.ref f)) ∧
    K.lookup f = some ⟨oc, od, .func (PySem.W.fnOf x x (defArgs st) (defBody st) (defScope st) .none kV doc pm an cd ct), sl⟩ ∧
    PySem.W.codeIn K cd x = true ∧ PySem.W.keepIn K (.ref f) = true
theorem defIn_mk {K : PySem.W.Frag} {x : Str} {st : Stmt} {f : Addr} {oc : Value} {od : Option Addr} {kV doc pm : Value} {an : Option Addr} {cd ct : Value} {sl : Array (Option Value)}
    (a : PySem.W.nsIn K mainGlobals x = some (some (.ref f)))
    (l : K.lookup f = some ⟨oc, od, .func (PySem.W.fnOf x x (defArgs st) (defBody st) (defScope st) .none kV doc pm an cd ct), sl⟩)
    (c : PySem.W.codeIn K cd x = true) (k : PySem.W.keepIn K (.ref f) = true) : DefIn K x st :=
  ⟨f, oc, od, kV, doc, pm, an, cd, ct, sl, a, l, c, k⟩
theorem constIn_mk {K : PySem.W.Frag} {x : Str} {C : Value → Prop} {v : Value} (a : PySem.W.nsIn K mainGlobals x = some (some v)) (c : C v) : ∃ v, PySem.W.nsIn K mainGlobals x = some (some v) ∧ C v := ⟨v, a, c⟩
theorem DefIn.at {K : PySem.W.Frag} {mg : Str → Option Value} {h : Heap} {x : Str} {st : Stmt} {ps : List Str} (d : DefIn K x st) (X : K.In h) (G : h.Ns mainGlobals mg)
    (hb : ∀ (kV doc pm : Value) (an : Option Addr) (cdv ct : Value) (us : List Value), us.length = ps.length →
      bindArgs (PySem.W.fnOf x x (defArgs st) (defBody st) (defScope st) .none kV doc pm an cdv ct) ⟨us, []⟩ = pure (ps.zip us)) :
    ∃ f fd, DefAt K mg x st ps f fd := by
  obtain ⟨f, oc, od, kV, doc, pm, an, cd, ct, sl, a, l, c, k⟩ := d
  have F := fun_mk (st := st) l c k
  exact ⟨f, _, F, PySem.W.mg_of X G a, F.binds hb⟩

/-- the draws' bag: three ints, the second one from 0 on and not beyond the script's bits, the third at most k -/
def Bag (H : Hp) (b : Addr) (k : Nat) : Prop :=
  ∃ s d n : Int, H b = some (.lst [.int s, .int d, .int n]) ∧ 0 ≤ d ∧ Builtin.Int.intBits d ≤ 1048576 ∧ 0 ≤ n ∧ n ≤ k
theorem Bag.mono {H : Hp} {b : Addr} {j k : Nat} (h : Bag H b j) (le : j ≤ k) : Bag H b k := by
  obtain ⟨s, d, n, h1, h2, h3, h4, h5⟩ := h
  exact ⟨s, d, n, h1, h2, h3, h4, by omega⟩
theorem Bag.same {H H' : Hp} {b : Addr} {k : Nat} (h : Bag H b k) (e : Same H H') : Bag H' b k := by
  obtain ⟨s, d, n, h1, h2⟩ := h
  exact ⟨s, d, n, e _ _ h1, h2⟩
theorem Bag.ne_none {H : Hp} {b p : Addr} {k : Nat} (h : Bag H b k) (hp : H p = none) : p ≠ b := by
  obtain ⟨s, d, n, h1, _⟩ := h
  exact (ne_of_none h1 hp).symm
/-- all that is tracked but b stays -/
def But (b : Addr) (H H' : Hp) : Prop := ∀ a o, a ≠ b → H a = some o → H' a = some o
theorem But.refl {b : Addr} {H : Hp} : But b H H := fun _ _ _ h => h
theorem But.trans {b : Addr} {H H1 H2 : Hp} (x : But b H H1) (y : But b H1 H2) : But b H H2 := fun a o n h => y a o n (x a o n h)
theorem But.put {b : Addr} {H H1 : Hp} {o : HO} (x : But b H H1) : But b H (upd H1 b o) := fun a u n h => by
  rw [upd_ne n]; exact x a u n h
theorem But.new {b p : Addr} {H H1 : Hp} {o : HO} (x : But b H H1) (hp : H1 p = none) : But b H (upd H1 p o) := fun a u n h => by
  have q := x a u n h
  rw [upd_ne (ne_of_none q hp)]; exact q
theorem But.of {b : Addr} {H H' : Hp} (e : Same H H') : But b H H' := fun a o _ h => e a o h
theorem But.seq {b a : Addr} {K : PySem.W.Frag} {H H' : Hp} {xs : List V} (e : But b H H') (n : a ≠ b) (h : SqL K H a xs) : SqL K H' a xs := by
  rcases h with (h | ⟨o, h⟩) | h
  · exact .inl (.inl (e _ _ n h))
  · exact .inl (.inr ⟨o, e _ _ n h⟩)
  · exact .inr h
theorem same_new {H : Hp} {p : Addr} {o : HO} (hp : H p = none) : Same H (upd H p o) := fun a u e => by
  rw [upd_ne (ne_of_none e hp)]; exact e
theorem But.free {b p : Addr} {H H' : Hp} (e : But b H H') (n : p ≠ b) (h : H' p = none) : H p = none := by
  cases q : H p with
  | none => rfl
  | some o =>
    rw [e p o n q] at h
    cases h

/-- changes at places that H did not know -/
theorem same_but {H H1 H2 : Hp} {b : Addr} (s : Same H H1) (hb : H b = none) (e : But b H1 H2) : Same H H2 := fun a o h =>
  e a o (ne_of_none h hb) (s a o h)
theorem same_put {H H1 : Hp} {b : Addr} {o : HO} (s : Same H H1) (hb : H b = none) : Same H (upd H1 b o) := fun a u h => by
  rw [upd_ne (ne_of_none h hb)]
  exact s a u h
theorem Bag.put {H : Hp} {b p : Addr} {k : Nat} {o : HO} (h : Bag H b k) (n : p ≠ b) : Bag (upd H p o) b k := by
  obtain ⟨s, d, m, h1, h2⟩ := h
  exact ⟨s, d, m, by rw [upd_ne n.symm]; exact h1, h2⟩
theorem log2_mono {a b : Nat} (h : a ≤ b) : a.log2 ≤ b.log2 := by
  by_cases h0 : a = 0
  · subst h0
    rw [Nat.log2_zero]
    exact Nat.zero_le _
  · have h1 := Nat.log2_self_le h0
    exact (Nat.le_log2 (by omega)).mpr (Nat.le_trans h1 h)
theorem bits_mono {a b : Int} (h : a.natAbs ≤ b.natAbs) : Builtin.Int.intBits a ≤ Builtin.Int.intBits b := by
  unfold Builtin.Int.intBits
  have := log2_mono h
  by_cases h0 : a = 0
  · rw [if_pos (by rw [h0]; rfl)]
    exact Nat.zero_le _
  · by_cases h1 : b = 0
    · subst h1
      simp at h
      exact absurd h h0
    · rw [if_neg (by simpa using h0), if_neg (by simpa using h1)]
      omega
theorem bits_div {d m : Int} (h0 : 0 ≤ d) (hm : 0 < m) (h : Builtin.Int.intBits d ≤ 1048576) : Builtin.Int.intBits (d / m) ≤ 1048576 := by
  refine Nat.le_trans (bits_mono ?_) h
  have h1 : 0 ≤ d / m := Int.ediv_nonneg h0 (by omega)
  have h2 : d / m ≤ d := Int.ediv_le_self _ h0
  omega
theorem bits_small {n : Int} (h : n.natAbs < 2 ^ 1000) : Builtin.Int.intBits n ≤ 1048576 := by
  unfold Builtin.Int.intBits
  split
  · decide
  · by_cases h0 : n.natAbs = 0
    · rw [h0]
      decide
    · have := (Nat.log2_lt h0).mpr h
      omega
theorem pylong_no {d m : Int} (h : m.natAbs < 2 ^ 1000) : Builtin.divisionGoesByPylong d m = false := by
  unfold Builtin.divisionGoesByPylong
  rw [Bool.and_eq_false_iff]
  left
  rw [decide_eq_false_iff_not]
  dsimp only
  split
  · decide
  · rename_i hz
    have h0 : m.natAbs ≠ 0 := by
      intro q
      apply hz
      rw [beq_iff_eq]
      omega
    have := (Nat.log2_lt h0).mpr h
    omega
theorem m_small {m : Int} (h0 : 0 ≤ m) (h : m ≤ 10 ^ 41) : m.natAbs < 2 ^ 1000 := by
  have e : (10 : Nat) ^ 41 < 2 ^ 1000 := by decide +kernel
  have : m.natAbs ≤ 10 ^ 41 := by omega
  exact Nat.lt_of_le_of_lt this e
/-- a number of the script, or one mixed of its first ones -/
def sp_seed (K : PySem.W.Frag) : Sp := fun vs H Q _ => ∃ (a : Addr) (ns : List Int) (k : Int), vs = [.ref a, .int k] ∧ SqL K H a (ns.map V.int) ∧
  (∀ z ∈ ns, Builtin.Int.intBits z ≤ 1048576) ∧ 0 ≤ k ∧ k < 1000 ∧ ∀ (n : Int) (H' : Hp), Same H H' → Builtin.Int.intBits n ≤ 1048576 → Q (.int n) H'
def sp_bag : Sp := fun vs H Q _ => ∃ (n : Int), vs = [.int n] ∧ Builtin.Int.intBits n ≤ 1048576 ∧
  ∀ (p : Addr) (H' : Hp), H p = none → Same H H' → Bag H' p 0 → Q (.ref p) H'
/-- a draw below m -/
def sp_take : Sp := fun vs H Q _ => ∃ (b : Addr) (m : Int) (k : Nat), vs = [.ref b, .int m] ∧ Bag H b k ∧ k < 1000000 ∧ 0 < m ∧ m.natAbs < 2 ^ 1000 ∧
  ∀ (r : Int) (H' : Hp), But b H H' → Bag H' b (k + 1) → 0 ≤ r → r < m → Q (.int r) H'
end Hv

namespace Hv
open PySem PySem.Spec PyProof.Rows L2
theorem fly_push {B h : Heap} {l : List Env} {a : Addr} {Z : Obj → Prop} {o : Obj} (f : HandSPX.FlyingZ B l a Z h) : HandSPX.FlyingZ B l a Z (h.push o) := by
  obtain ⟨g1, g2, g3, oe, vs, T, oT, ts, e1, e2, e3, e4, e5, e6, e7, e8, e9⟩ := f
  have k : ∀ b u, h.get? b = some u → (h.push o).get? b = some u := fun b u e => Heap.get?_push_of_some _ e
  exact ⟨fun b u e => k b u (g1 b u e), g2, Heap.FunFrames.of_keeps (fun b u e _ => ⟨u, k b u e, rfl⟩) g3, oe, vs, T, oT, ts, k _ _ e1, e2, e3, e4, e5, e6, k _ _ e7, e8, e9⟩
/-- the wish of a clause of three classes: what comes is one of them -/
def wTup (K : PySem.W.Frag) (len : Nat) (cs : List Value) (i : Nat) (ts : Addr → Value → Option Addr → TS) (D : Ends) : WX := fun cls d σ H => σ.length = len →
  PySem.W.exmAny K cls cs = some true ∧ ∀ a, H a = none →
    ts a cls d { nx := fun σ' H' => D.nx (σ'.set i none) H', rt := D.rt, bk := fun σ' H' => D.bk (σ'.set i none) H', ct := fun σ' H' => D.ct (σ'.set i none) H' } (σ.set i (some (.ref a))) H
/-- try: body / except (x1, x2, x3) as n: suite, where all that the body lets out is of these classes -/
theorem ps_try_tup {X : Cx} {x1 x2 x3 n : Str} {c1 c2 c3 : Addr} {i j : Nat} {body suite : List Stmt} {b₀ : Stmt} {q1 q2 q3 qt pos pos' : Pos} {tb : WX → TS} {ts : Addr → Value → Option Addr → TS}
    (hs : X.stack = X.env :: X.outer) (hf : X.env.frame = some X.env.locals) (hN : X.N.Nodup) (hi : X.N[i]? = some n) (hln : X.env.kindOf n = some .local)
    (g1 : Gl X x1) (g2 : Gl X x2) (g3 : Gl X x3) (m1 : X.mg x1 = some (.ref c1)) (m2 : X.mg x2 = some (.ref c2)) (m3 : X.mg x3 = some (.ref c3))
    (hb : ∀ (W : WX) (pn : List (Addr × Obj)) (xe : Value → Shared → Prop), Takes (X.tr pn xe) W → PassesOwn (model X.prog X.w) X.A X.env xe → PSs (X.tr pn xe) body (tb W))
    (hsu : ∀ (a : Addr) (oe : Obj) (cls : Value) (d : Option Addr) (pn : List (Addr × Obj)), Zc cls d oe → (∃ vs, oe.data = .fields vs) → PSs (X.suite a ((a, oe) :: pn)) (b₀ :: suite) (ts a cls d))
    (d1 : (x1 == ("__debug__" : Str)) = false := by decide) (d2 : (x2 == ("__debug__" : Str)) = false := by decide) (d3 : (x3 == ("__debug__" : Str)) = false := by decide) :
    PS X (.Try body [.ExceptHandler (some (.Tuple [.Name x1 q1, .Name x2 q2, .Name x3 q3] j qt)) (some n) (b₀ :: suite) pos'] [] [] pos) (fun D σ H => tb (wTup X.K X.N.length [.ref c1, .ref c2, .ref c3] i ts D) D σ H) := by
  refine ⟨fun pins s σ H D I h => ?_⟩
  have xok := I.ok
  have frames : X.A.frames = some (X.env :: X.outer) := by
    rw [xok.frames, hs]
  refine wpAny_Try_except ?_
  have BODY := hb (wTup X.K X.N.length [.ref c1, .ref c2, .ref c3] i ts D) (X.pn ++ pins) (fun e t1 => wpAny (model X.prog X.w) X.A (noteFrame e X.env) (fun _ t2 => wpAny (model X.prog X.w) X.A (setFlight e none) (fun _ t3 =>
    wpAny (model X.prog X.w) X.A (handleBy e X.env [.ExceptHandler (some (.Tuple [.Name x1 q1, .Name x2 q2, .Name x3 q3] j qt)) (some n) (b₀ :: suite) pos']) (SP X pins D) X.xe t3) X.xe t2) X.xe t1) ?caught PassesOwn.looking
  · refine wpAny_mono (BODY.run [] s σ H D (I.toTry _) h) (fun fl s1 hsp => ?_) fun e s1 he => he
    cases fl with
    | next => obtain ⟨σ', H', J', q⟩ := hsp; exact wpAny_execs_nil ⟨σ', H', J'.ofTry xok, q⟩
    | brk => obtain ⟨σ', H', J', q⟩ := hsp; exact ⟨σ', H', J'.ofTry xok, q⟩
    | cont => obtain ⟨σ', H', J', q⟩ := hsp; exact ⟨σ', H', J'.ofTry xok, q⟩
    | ret u => obtain ⟨v, σ', H', J', r, q⟩ := hsp; exact ⟨v, σ', H', J'.ofTry xok, r, q⟩
  · rintro u s' ⟨a, B, sI, pins', σ', H', cls, d, rfl, J', nb, up, sky, na, os, ag, wish⟩
    obtain ⟨hany, hyes⟩ := wish J'.len
    have J : Inv X pins σ' H' sI := J'.ofTry xok
    rw [show X.stack = X.env :: X.outer from hs] at sky
    show wpAny (model X.prog X.w) X.A (noteFrame (.ref a) X.env) _ _ _
    refine Sky.land Zc.steady frames hf sky fun h3 fl3 up3 => ?_
    have J3 : Inv X pins σ' H' { s' with heap := h3 } := J.landed nb fl3.1 (up.trans up3) os ag
    obtain ⟨oe3, vs3, he3, hz3, hd3⟩ := fl3.there
    have nofr : a ∉ frs (X.env :: X.outer) := fun hm => by
      obtain ⟨_, o', e', hnf⟩ := fl3.2.2.1.mem hm
      rw [he3] at e'
      cases e'
      exact hnf _ hd3
    have nL : a ≠ X.env.locals := fun z => nofr (List.mem_filterMap.mpr ⟨X.env, List.mem_cons_self, by rw [hf, z]⟩)
    have nF : a ∉ X.fs := fun hm => by
      obtain ⟨e, he, q⟩ := List.mem_filterMap.mp hm
      exact nofr (List.mem_filterMap.mpr ⟨e, List.mem_cons_of_mem _ he, q⟩)
    have S3 := J3.suite he3 hd3 na nL nF
    refine wpAny_handleBy_cons (codeAny_handlers_test ?_) (by intro q; cases q)
    refine Tuple_ ?_
    show wpAny _ _ (spliced ((false, eval (.Name x1 q1) X.env) :: backTo qt (starEach [.Name x2 q2, .Name x3 q3] X.env))) _ _ _
    refine Calls.spliced_cons (ld_glob S3 g1 m1 ?_ d1)
    show wpAny _ _ (spliced ((false, eval (.Name x2 q2) X.env) :: backTo qt (starEach [.Name x3 q3] X.env))) _ _ _
    refine Calls.spliced_cons (ld_glob S3 g2 m2 ?_ d2)
    show wpAny _ _ (spliced ((false, eval (.Name x3 q3) X.env) :: backTo qt (starEach [] X.env))) _ _ _
    refine Calls.spliced_cons (ld_glob S3 g3 m3 (Calls.spliced_nil ?_) d3)
    refine wpAny_newObj_type ?_ (by show 3 ≤ sizeLine; decide)
    have fl5 := fly_push (o := { cls := .type "tuple", data := .seq [Value.ref c1, .ref c2, .ref c3].toArray }) fl3
    have up5 : s'.heap.UpToSlots (h3.push { cls := .type "tuple", data := .seq [Value.ref c1, .ref c2, .ref c3].toArray }) := up3.trans (Heap.UpToSlots.of_keeps fun b o e => Heap.get?_push_of_some _ e)
    have LT : PySem.W.Looks (model X.prog X.w) (h3.push { cls := .type "tuple", data := .seq [Value.ref c1, .ref c2, .ref c3].toArray }) (typeOf (.ref a)) cls := fun A Q E s k q =>
      wpAny_typeOf_ref (k _ _ (Heap.get?_push_of_some _ he3)) (by rw [hz3.1]; exact q)
    have LM := PySem.W.exm_tup3 (M := model X.prog X.w) (J3.kIn.keeps fun b o e => Heap.get?_push_of_some _ e) LT (Heap.get?_push_size _ rfl) hany
    refine LM.here ?_
    refine codeAny_handlers_suite_as ?_
    refine HandSPX.lands_againZ fl5 fun h4 fl4 up4 => ?_
    have J4 : Inv X pins σ' H' { s' with heap := h4 } := J.landed nb fl4.1 ((up.trans up5).trans up4) os ag
    obtain ⟨oe4, vs4, he4, hz4, hd4⟩ := fl4.there
    have S4 := J4.suite he4 hd4 na nL nF
    refine store_ok (X := X.suite a ((a, oe4) :: (X.pn ++ pins))) (v := .ref a) S4 hN hi (.inl hln) rfl (fun s5 S5 => ?_) (.inr hln)
    refine wpAny_mono ((hsu a oe4 cls d (X.pn ++ pins) hz4 ⟨_, hd4⟩).run [] s5 _ H' _ S5 (hyes a na)) (fun fl s6 hsp => ?_) fun _ _ z => False.elim z
    cases fl with
    | next => obtain ⟨σ6, H6, S6, q6⟩ := hsp; exact gone_ok (S6.unsuite xok) hN hi hln fun s7 J7 => ⟨_, _, J7, q6⟩
    | brk => obtain ⟨σ6, H6, S6, q6⟩ := hsp; exact gone_ok (S6.unsuite xok) hN hi hln fun s7 J7 => ⟨_, _, J7, q6⟩
    | cont => obtain ⟨σ6, H6, S6, q6⟩ := hsp; exact gone_ok (S6.unsuite xok) hN hi hln fun s7 J7 => ⟨_, _, J7, q6⟩
    | ret u => obtain ⟨v6, σ6, H6, S6, r6, q6⟩ := hsp; exact gone_ok (S6.unsuite xok) hN hi hln fun s7 J7 => ⟨_, _, _, J7, r6, q6⟩
end Hv

namespace Hv
open PySem PySem.Spec PyProof.Rows L2
/-- a def's promise where the exception at p is handled and no repr is under way -/
structure FnP (P : Program) (w : World) (K : PySem.W.Frag) (mg : Str → Option Value) (base : Heap) (k : Nat) (f : Addr) (fd : FuncData) (ps : List Str) (sp : Addr × Obj → Sp) : Prop where
  len : ∀ p vs H Q E, sp p vs H Q E → vs.length = ps.length
  run : ∀ (A : Around) (outer : List Env) (s : Shared) (H : Hp) (us : List Value) (vs : List V) (Q : VK) (p : Addr × Obj), A.guards = some [] → L2H.RoomH k A → L2H.PinOk outer H s p → Env0 P w K mg base A outer s H →
    BindsTo s fd ⟨us, []⟩ (ps.zip us) → Vals vs us → sp p vs H Q E0 → codeAny (model P w) A (.call (.ref f) ⟨us, []⟩) (CR CX0 outer P w H s Q E0) s
/-- such a def by its body -/
theorem fnP_of {P : Program} {w : World} {K : PySem.W.Frag} {mg : Str → Option Value} {base : Heap} {k : Nat} {f : Addr} {fd : FuncData} {x qual : Str} {st : Stmt} {N ps : List Str} {sp : Addr × Obj → Sp} (F : Fun K x qual st f fd) (S : FnScope N ps (defScope st))
    (len : ∀ p vs H Q E, sp p vs H Q E → vs.length = ps.length)
    (body : ∀ (cdv : Value) (A : Around) (outer : List Env) (s : Shared) (H : Hp) (vs : List V) (Q : VK) (p : Addr × Obj), A.guards = some [] → L2H.RoomH k (A.deeper (envOfC qual (defScope st) s.heap.objs.size f cdv)) → sp p vs H Q E0 →
      ∃ t, PSs (L2H.cxH CX0 P w K mg base N qual (defScope st) f cdv A outer s H E0 p) (defBody st) t ∧ t { nx := fun _ H' => Q .non H', rt := Q } (start N vs) H) :
    FnP P w K mg base (k + 1) f fd ps sp := by
  obtain ⟨oc, od, kV, doc, pm, an, cdv, ct, osl, rfl, lk, hcd⟩ := F.ex
  refine ⟨len, fun A outer s H us vs Q p hG hr hp e0 hb r hsp => ?_⟩
  have X := e0.mod.kin.keeps (fun b o e => (e0.bs b o e).1)
  have free := e0.mod.nolimit.keeps (fun b o e => (e0.bs b o e).1)
  have par : ∀ y ∈ ps.zip us, (defScope st).names.lookup y.1 = some .local ∨ ((defScope st).names.lookup y.1 = some .cell ∧ ((cellsFrom (s.heap.objs.size + 1) (defScope st).names []).lookup y.1).isSome = true) := by
    rintro ⟨n, v⟩ hy
    exact (S.par n (List.of_mem_zip hy).1).imp id fun q => ⟨q, PySem.W.cellsFrom_some _ _ _ (Or.inl q)⟩
  apply codeAny_call_function hr.depth (X _ _ lk) rfl S.co S.gen rfl (PySem.W.codeRec_of X hcd)
  apply hb
  refine wpAny_newFunctionEnv_cells S.kind par ?_
  rintro env rfl s1 z
  refine ⟨free.keeps z.toInCall.keep, codeAny_func ?_⟩
  obtain ⟨t, ht, hq⟩ := body cdv A outer s H vs Q p hG (hr.deeper _) hsp
  have I := L2H.inv_startH (CX := CX0) (E := E0) S hp e0 (len _ _ _ _ _ hsp) r z
  apply wpAny_mono (ht.run [] s1 (start N vs) H _ I hq)
  · intro fl s' hs
    cases fl with
    | ret u => obtain ⟨v, σ', H', J, rv, q⟩ := hs; exact ⟨v, H', J.os, J.bare, J.base, J.hok, rv, q⟩
    | next => obtain ⟨σ', H', J, q⟩ := hs; exact ⟨V.non, H', J.os, J.bare, J.base, J.hok, rfl, q⟩
    | brk => obtain ⟨_, _, _, q⟩ := hs; exact q.elim
    | cont => obtain ⟨_, _, _, q⟩ := hs; exact q.elim
  · exact fun e s' hs => hs
section
variable {X : Cx} {k : Nat} {f : Addr} {fd : FuncData} {ps : List Str} {sp : Addr × Obj → Sp} {x : Str} {q pos : Pos} {e : Expr} {es : List Expr} {t : TA} {p : Addr × Obj}
theorem runP {pins : List (Addr × Obj)} {σ : L2.St} {H : Hp} {s : Shared} {Q : VK} {us : List Value} {vs : List V} (F : FnP X.prog X.w X.K X.mg X.base k f fd ps sp) (hG : X.A.guards = some []) (hr : L2H.RoomH k X.A) (hp : p ∈ X.pn) (hb : Binds X.K fd ps [])
    (I : Inv X pins σ H s) (r : Vals vs us) (h : sp p vs H Q E0) : wpAny (model X.prog X.w) X.A (call (.ref f) us) (EP X pins σ Q) X.xe s := by
  have hl : (us ++ []).length = ps.length := by
    rw [List.append_nil, ← r.length]
    exact F.len _ _ _ _ _ h
  have b := hb s us I.kIn hl
  rw [List.append_nil] at b
  obtain ⟨z1, z2, z3, z4, z5⟩ := I.pin p (List.mem_append_left _ hp)
  have pin : L2H.PinOk X.stack H s p := ⟨z1, z2, fun hm => (List.mem_cons.mp (I.stkSub p.1 hm)).elim z3 z4, z5⟩
  refine wpAny_call (codeAny_mono (F.run X.A X.stack s H us vs Q p hG hr pin I.env0 b r h) fun r s' hq => ?_)
  match r, hq with
  | .error e, hq => exact False.elim hq
  | .ok (.ret u), hq => exact I.after hq
  | .ok .next, hq => exact hq.elim
  | .ok .brk, hq => exact hq.elim
  | .ok .cont, hq => exact hq.elim
def tCallP (sp : Sp) (t : TA) : TE := fun σ H Q => t σ H fun vs H1 => sp vs H1 Q E0
/-- f(e, ..) where the exception at p is handled -/
theorem pe_callP (F : FnP X.prog X.w X.K X.mg X.base k f fd ps sp) (hG : X.A.guards = some []) (hr : L2H.RoomH k X.A) (hp : p ∈ X.pn) (hg : Gl X x) (hm : X.mg x = some (.ref f)) (hk : PySem.W.keepIn X.K (.ref f) = true) (hb : Binds X.K fd ps [])
    (ha : PA X (e :: es) t) (hdb : (x == ("__debug__" : Str)) = false := by decide) (he : starEach (e :: es) X.env = (false, eval e X.env) :: starEach es X.env := by rfl) (hpl : (backTo pos (starEach es X.env)).any (·.1) = false := by rfl) :
    PE X (.Call (.Name x q) (e :: es) [] pos) (tCallP (sp p) t) := by
  constructor
  intro pins s σ H Q I h
  apply wpAny_Call_Name_kw
  refine ld_glob I hg hm ?_ hdb
  refine PySem.W.callWith_K (h₀ := X.base) I.ok.mod.kin hk (thn (ha.run pos pins s σ H _ I h) ?_) he hpl
  rintro us s1 ⟨vs, H1, I1, r, z⟩
  exact ⟨I1.kIn, runP F hG hr hp hb I1 r z⟩
theorem pe_call0P (F : FnP X.prog X.w X.K X.mg X.base k f fd ps sp) (hG : X.A.guards = some []) (hr : L2H.RoomH k X.A) (hp : p ∈ X.pn) (hg : Gl X x) (hm : X.mg x = some (.ref f)) (hk : PySem.W.keepIn X.K (.ref f) = true) (hb : Binds X.K fd ps [])
    (hdb : (x == ("__debug__" : Str)) = false := by decide) : PE X (.Call (.Name x q) [] [] pos) (tCallP (sp p) tNil) := by
  constructor
  intro pins s σ H Q I h
  apply wpAny_Call_Name_kw
  refine ld_glob I hg hm ?_ hdb
  exact PySem.W.callWith_K0 I.kIn hk (runP (us := []) F hG hr hp hb I .nil h)
end
end Hv

namespace Hv
open PySem PySem.Spec PySem.Calls PyProof.Rows L2
section
variable {prog : Program} {w : World} {A : Around} {E : Value → Shared → Prop} {s : Shared} {K : PySem.W.Frag} {x D : Addr} {ox : Obj} {od : Option Obj}
theorem cls_there (c : ExcC K D) : ∃ c' d' cd sl, K.lookup D = some ⟨c', d', .cls cd, sl⟩ := by
  obtain ⟨cd, hc, _⟩ := PySem.W.any_some c.hd
  unfold PySem.W.clsIn at hc
  split at hc
  · rename_i c' d' cd' sl' ho
    exact ⟨c', d', cd', sl', ho⟩
  · cases hc
theorem exc_found (c : ExcC K D) : PySem.W.findObj K D od "__class__" = some (.bind (.builtin "getset_descriptor.__get__") (.builtin "object.__class__")) := by
  obtain ⟨cd, hc, _⟩ := PySem.W.any_some c.hd
  unfold PySem.W.findObj
  rw [hc, Option.bind_some, c.ha, Option.bind_some]
  simp [c.hn, c.ht]
/-- the class of an exception, whatever its dict -/
theorem exc_class {Q : Option Value → Shared → Prop} (c : ExcC K D) (X : K.In s.heap) (I : PySem.W.InstAt s.heap x ox D od) (h : Q (some (.ref D)) { s with toks := s.toks + 1 }) :
    wpAny (model prog w) A (getAttr? (.ref x) "__class__") Q E s := by
  obtain ⟨hp, g, d, t, os⟩ := s
  have l0 := I.type (M := model prog w)
  have l1 := PySem.W.looks_findIn (M := model prog w) X c.hg
  have l2 := PySem.W.looks_findIn (M := model prog w) X c.hk
  have l3 := PySem.W.looks_find (M := model prog w) X I (exc_found c)
  have sub : PySem.W.Looks (model prog w) hp (isInstance (.ref x) (.type "BaseException")) true := l0.andThen (PySem.W.looks_subIn X c.hs)
  have ne1 : (Value.builtin "BaseException.__getattribute__" == Value.builtin "object.__getattribute__") = false := by decide +kernel
  have ne2 : (onTheHeap (Value.ref D) && Value.builtin "BaseException.__getattribute__" == Value.builtin "object.__getattribute__") = false := by
    rw [ne1]
    rfl
  have ne3 : (false && onTheHeap (Value.builtin "BaseException.__getattribute__")) = false := rfl
  unfold getAttr? getAttrBy? getAttrBy
  refine wpAny_bind (wpAny_mkText (wpAny_bind (wpAny_attempt (wpAny_holding (wpAny_bind (l0.at (wpAny_bind (l1.at ?_))))))))
  show wpAny _ _ (if (onTheHeap (Value.ref D) && Value.builtin "BaseException.__getattribute__" == Value.builtin "object.__getattribute__") = true then _ else _) _ _ _
  rw [ne2, if_neg Bool.false_ne_true]
  unfold getAttrByItsOwn hookBefore
  apply wpAny_bind
  rw [if_pos (show onTheHeap (Value.ref D) = true from rfl)]
  apply l2.at
  refine wpAny_bind (wpAny_attempt (wpAny_holding ?_))
  unfold callGetattribute
  rw [ne3, if_neg Bool.false_ne_true]
  unfold boundAndCalled
  rw [PySem.F.excAttr_ValueError.ga.bind (.ref x)]
  apply wpAny_bind
  apply wpAny_pure
  show wpAny _ _ (call (.builtin "BaseException.__getattribute__") [.ref x, .str "__class__" t]) _ _ _
  refine wpAny_call (codeAny_call_builtin PySem.F.excAttr_ValueError.ga.plain PySem.F.entry_bexc_ga ?_)
  refine @PySem.W.check_slot (model prog w) _ _ ⟨hp, g, d, t + 1, os⟩ "BaseException.__getattribute__" "BaseException" "__getattribute__" (.ref x) [.str "__class__" t] [] _ (by decide +kernel) (by decide +kernel) sub (PySem.F.args_bexc_ga (.ref x) (.str "__class__" t)) ?_
  unfold Builtin.«object.__getattribute__»
  apply wpAny_bind
  refine wpAny_of_eq (a := ((Value.ref x : Value), [Value.str "__class__" t])) (by first | rfl | (simp only [slotArgs]; rfl)) ?_
  refine wpAny_bind (wpAny_pure (wpAny_bind (l0.at (wpAny_bind (l3.at ?_)))))
  show wpAny _ _ (holding [Value.builtin "object.__class__"] (call (.builtin "getset_descriptor.__get__") [.builtin "object.__class__", .ref x, .ref D]) >>= ret) _ _ _
  refine wpAny_bind (wpAny_holding (wpAny_call (PySem.W.class_get (s := ⟨hp, g, d, t + 1, os⟩) (ox := ox) (od := od) X I c.hm ?_)))
  apply wpAny_pure
  show wpAny _ _ (handedOut (.ref D)) _ _ _
  rw [PySem.W.handedOut_of (v := .ref D) rfl]
  first
    | exact wpAny_pure (wpAny_pure h)
    | exact wpAny_pure h
    | exact wpAny_pure (wpAny_bind (wpAny_pure (wpAny_pure h)))
theorem kitx_err (c : ExcC K D) : PySem.W.KitX K (.ref x) (.ref D) (fun h => ∃ od, PySem.W.InstAt h x ox D od) where
  ty := fun _ _ _ I => I.choose_spec.type
  it := fun _ _ X _ => by
    obtain ⟨c', d', cd, sl, ho⟩ := cls_there c
    intro A' Q' E' s' k q
    unfold isType loadHead
    exact wpAny_bind (wpAny_loadPart (k _ _ (X _ _ ho)) (wpAny_pure q))
  ne := fun h tp dd its n sl X htp => by
    obtain ⟨c', d', cd, sl2, ho⟩ := cls_there c
    rw [Bool.eq_false_iff]
    intro q
    cases Value.ref.inj (beq_iff_eq.mp q)
    have z := (X _ _ ho).symm.trans htp
    cases z
  ca := fun X I k => exc_class c X I.choose_spec k
end
section
variable {X : Cx} {p : Addr × Obj} {D : Addr} {d : Option Addr}
/-- the dict of an exception, if it has one -/
def XdAt (H : Hp) (d : Option Addr) (fs : List (Str × V)) : Prop := (d = none ∧ fs = []) ∨ ∃ dd, d = some dd ∧ H dd = some (.xd fs)
theorem inst_pin {pins : List (Addr × Obj)} {σ : L2.St} {H : Hp} {s : Shared} {fs : List (Str × V)} (I : Inv X pins σ H s) (hp : p ∈ X.pn) (hz : Zc (.ref D) d p.2) (hf : ∃ vs, p.2.data = .fields vs) (hd : XdAt H d fs) :
    ∃ od, PySem.W.InstAt s.heap p.1 p.2 D od ∧ ∀ n v, fs.lookup n = some v → ∃ o u, od = some o ∧ PySem.W.lookIn n o = some (some u) ∧ RelV v u := by
  obtain ⟨ha, _⟩ := I.pin p (List.mem_append_left _ hp)
  obtain ⟨vs, hv⟩ := hf
  have no : PySem.W.notCls p.2 = true := by
    unfold PySem.W.notCls
    rw [hv]
  rcases hd with ⟨rfl, rfl⟩ | ⟨dd, rfl, hx⟩
  · exact ⟨none, ⟨ha, hz.1, no, by rw [hz.2]; trivial⟩, fun n v e => by simp at e⟩
  · obtain ⟨mA, hns, hr⟩ := (show ObjOk X.prog X.w H s.heap dd (.xd fs) from I.hok dd _ hx)
    obtain ⟨od, ho, hl⟩ := lookIn_ns hns
    refine ⟨some od, ⟨ha, hz.1, no, by rw [hz.2]; exact ho⟩, fun n v e => ?_⟩
    obtain ⟨u, hu, ru⟩ := RelO.some_of (v := v) (o := mA n) (by rw [← e]; exact hr n)
    exact ⟨od, u, rfl, by rw [hl, hu], ru⟩
/-- isinstance(e, c), e the exception that is handled -/
@[irreducible] def rIsP (K : PySem.W.Frag) (a D : Addr) (d : Option Addr) : List V → Hp → VK → Prop := fun xs H Q =>
  ∃ (c : V) (cv : Value) (b : Bool) (fs : List (Str × V)), xs = [.ref a, c] ∧ (∀ u, RelV c u → u = cv) ∧ PySem.W.kitOne K (.ref D) cv = some b ∧ XdAt H d fs ∧ Q (.bl b) H
theorem rIsP_in {K : PySem.W.Frag} {a : Addr} {H : Hp} {c : V} {cv : Value} {b : Bool} {fs : List (Str × V)} {Q : VK} (h1 : ∀ u, RelV c u → u = cv) (h2 : PySem.W.kitOne K (.ref D) cv = some b) (h3 : XdAt H d fs) (q : Q (.bl b) H) : rIsP K a D d [.ref a, c] H Q := by
  unfold rIsP
  exact ⟨c, cv, b, fs, rfl, h1, h2, h3, q⟩
theorem call_isP (c : ExcC X.K D) (hp : p ∈ X.pn) (hz : Zc (.ref D) d p.2) (hf : ∃ vs, p.2.data = .fields vs) : CallR X (.builtin "isinstance") (rIsP X.K p.1 D d) := by
  intro pins s σ H xs us Q I r h
  unfold rIsP at h
  obtain ⟨cc, cv, b, fs, rfl, hcv, e, hd, q⟩ := h
  match us, r with
  | [_, _], .cons rx (.cons rt .nil) =>
    cases rx
    cases hcv _ rt
    obtain ⟨od, J, _⟩ := inst_pin I hp hz hf hd
    exact PySem.W.kia_one (kitx_err c) I.kIn ⟨od, J⟩ e (fun z => nomatch z) fun tk => ⟨.bl b, H, I.kept (t' := tk) fun _ _ z => z, rfl, q⟩
/-- e.n, e the exception that is handled -/
def tXp (a : Addr) (d : Option Addr) (n : Str) (te : TE) : TE := fun σ H Q => te σ H fun x H1 => x = .ref a ∧ ∃ (fs : List (Str × V)) (v : V), XdAt H1 d fs ∧ fs.lookup n = some v ∧ Q v H1
theorem pe_xp {e : Expr} {te : TE} {pos : Pos} {n : Str} (c : XfC X.K D) (hno : PySem.W.findIn X.K (.ref D) n = some none) (hp : p ∈ X.pn) (hz : Zc (.ref D) d p.2) (hf : ∃ vs, p.2.data = .fields vs) (he : PE X e te)
    (hb : attributeBase e n X.env (eval e X.env) = eval e X.env := by rfl) : PE X (.Attribute e n pos) (tXp p.1 d n te) := by
  constructor
  intro pins s σ H Q I h
  refine attr_of hb (thn (he.run pins s σ H _ I h) ?_)
  rintro u s1 ⟨x, H1, I1, rx, rfl, fs, v, hd, hl, q⟩
  cases (show u = Value.ref p.1 from rx)
  obtain ⟨od, J, look⟩ := inst_pin I1 hp hz hf hd
  obtain ⟨o, u, rfl, hu, ru⟩ := look n v hl
  exact HandSPX.exc_get I1.kIn J c.ga c.gg c.exC (PySem.W.findObj_own c.hdC hno rfl (by rw [hu])) (handed_of ru) ⟨v, H1, I1.tok _, ru, q⟩
end
end Hv

namespace Hv
open PySem PySem.Spec PyProof.Rows L2
/-- a reading by what it leads to -/
def clo (te : TE) : TE := fun σ H K => ∃ Q0 : VK, te σ H Q0 ∧ ∀ v H', Q0 v H' → K v H'
theorem pe_clo {X : Cx} {e : Expr} {te : TE} (he : PE X e te) : PE X e (clo te) := by
  constructor
  rintro pins s σ H K I ⟨Q0, h, m⟩
  refine wpAny_mono (he.run pins s σ H Q0 I h) ?_ fun _ _ z => z
  rintro u s' ⟨v, H', J, r, q⟩
  exact ⟨v, H', J, r, m v H' q⟩
/-! ### class X(..): def __init__(self, f): self.f = f -/
def eA (f : Str) (p1 p2 : Pos) : Arguments := { posonlyargs := [], args := [{ arg := "self", annotation := none, pos := p1 }, { arg := f, annotation := none, pos := p2 }], vararg := none, kwonlyargs := [], kw_defaults := [], kwarg := none, defaults := [] }
def eB (f : Str) (q1 q2 q3 q4 : Pos) : List Stmt := [.Assign [.Attribute (.Name "self" q1) f q2] (.Name f q3) q4]
def eS (f : Str) : Scope := { kind := .function, names := [(PySem.Str.ofString "self", .local), (f, .local)], isGenerator := false, isCoroutine := false, more := [] }
structure FldOk (f : Str) : Prop where
  sc : FnScope ["self", f] ["self", f] (eS f)
  lk : (eS f).names.lookup f = some .local
  d1 : (f == ("__debug__" : Str)) = false
  d2 : (f == ("__classdict__" : Str)) = false
  bd : ∀ (q : Str) (p1 p2 q1 q2 q3 q4 : Pos) (kV doc pm : Value) (an : Option Addr) (cd ct : Value) (us : List Value), us.length = 2 →
    bindArgs (PySem.W.fnOf "__init__" q (eA f p1 p2) (eB f q1 q2 q3 q4) (eS f) .none kV doc pm an cd ct) ⟨us, []⟩ = pure ((["self", f] : List Str).zip us)
theorem fld_given : FldOk "given" := ⟨⟨rfl, rfl, rfl, by decide +kernel, rfl, by decide +kernel, by decide +kernel⟩, rfl, by decide, by decide, fun _ _ _ _ _ _ _ _ _ _ _ _ _ us hl => match us, hl with | [_, _], _ => rfl⟩
theorem fld_index : FldOk "index" := ⟨⟨rfl, rfl, rfl, by decide +kernel, rfl, by decide +kernel, by decide +kernel⟩, rfl, by decide, by decide, fun _ _ _ _ _ _ _ _ _ _ _ _ _ us hl => match us, hl with | [_, _], _ => rfl⟩
theorem fld_kind : FldOk "kind" := ⟨⟨rfl, rfl, rfl, by decide +kernel, rfl, by decide +kernel, by decide +kernel⟩, rfl, by decide, by decide, fun _ _ _ _ _ _ _ _ _ _ _ _ _ us hl => match us, hl with | [_, _], _ => rfl⟩
/-- what the text has of such a class -/
structure ErrTxt (K : PySem.W.Frag) (mg : Str → Option Value) (x f : Str) (C : Addr) : Prop where
  mg : mg x = some (.ref C)
  fld : FldOk f
  oex : OexC K C
  isx : ExcC K C
  no : PySem.W.findIn K (.ref C) f = some none
  ini : ∃ (fI : Addr) (oc : Value) (od : Option Addr) (kV doc pm : Value) (an : Option Addr) (cd ct : Value) (sl : Array (Option Value)) (q : Str) (p1 p2 q1 q2 q3 q4 : Pos),
    PySem.W.findIn K (.ref C) "__init__" = some (some (.ref fI)) ∧ PySem.W.typeIn K (.ref fI) = some (.type "function") ∧
    K.lookup fI = some ⟨oc, od, .func (PySem.W.fnOf "__init__" q (eA f p1 p2) (eB f q1 q2 q3 q4) (eS f) .none kV doc pm an cd ct), sl⟩ ∧ PySem.W.codeIn K cd q = true
theorem ErrTxt.xf {K : PySem.W.Frag} {mg : Str → Option Value} {x f : Str} {C : Addr} (T : ErrTxt K mg x f C) : XfC K C := ⟨T.isx.hg, T.isx.hk, T.isx.hs, T.isx.hd⟩
def sp_einit (f : Str) (C : Addr) : Sp := fun vs H Q _ => ∃ (a : Addr) (v : V), vs = [.ref a, v] ∧ H a = some (exo a C none) ∧ ∀ dx, H dx = none → dx ≠ a → Q .non (upd (upd H dx (exd dx [(f, v)])) a (exo a C (some dx)))
theorem einit_ok {P : Program} {w : World} {K : PySem.W.Frag} {mg : Str → Option Value} {base : Heap} {x f : Str} {C : Addr} (T : ErrTxt K mg x f C) :
    ∃ fI fd, PySem.W.findIn K (.ref C) "__init__" = some (some (.ref fI)) ∧ PySem.W.typeIn K (.ref fI) = some (.type "function") ∧ FnOk P w K mg base CX0 1 fI fd ["self", f] (sp_einit f C) ∧ Binds K fd ["self", f] [] := by
  obtain ⟨fI, oc, od, kV, doc, pm, an, cd, ct, sl, q, p1, p2, q1, q2, q3, q4, h1, h2, h3, h4⟩ := T.ini
  refine ⟨fI, _, h1, h2, fn_of h3 h4 T.fld.sc (fun vs H Q E h => ?_) (fun A outer s H vs Q E hr h => ?_), .all fun us hl => T.fld.bd _ _ _ _ _ _ _ _ _ _ _ _ _ us hl⟩
  · obtain ⟨a, v, rfl, _⟩ := h
    rfl
  · obtain ⟨a, v, rfl, ha, ret⟩ := h
    refine ⟨_, pss_one (ps_ost (pe_var (i := 0) rfl (.inl rfl)) (pe_var (i := 1) rfl (.inl T.fld.lk) T.fld.d1 T.fld.d2)), ?_⟩
    exact ⟨v, rfl, .ref a, rfl, a, C, rfl, T.oex, T.no, .inl ⟨ha, fun dx h1 h2 => ret dx h1 h2⟩⟩
/-- an error is made -/
def tErr (C : Addr) (f : Str) (te : TE) : L2.St → Hp → XK → Prop := fun σ H Q => te σ H fun v H1 => ∀ d, H1 d = none → Q (.ref C) (some d) (upd H1 d (.xd [(f, v)]))
theorem pmk_err {X : Cx} {x f : Str} {C : Addr} {e : Expr} {te : TE} {p pos : Pos} (T : ErrTxt X.K X.mg x f C) (hr : Room 2 X.A) (hg : Gl X x) (he : PE X e te) (hdb : (x == ("__debug__" : Str)) = false := by decide)
    (hs : starEach [e] X.env = (false, eval e X.env) :: starEach [] X.env := by rfl) (hpl : (backTo pos (starEach [] X.env)).any (·.1) = false := by rfl) : PMk X (.Call (.Name x p) [e] [] pos) (tErr C f te) := by
  intro pins s σ H Q I h
  obtain ⟨fI, fd, h1, h2, F, hb⟩ := einit_ok (P := X.prog) (w := X.w) (base := X.base) T
  refine pmk_oex T.oex h1 h2 F hr hb .nil (fun _ _ _ _ _ _ _ z => False.elim z) hg T.mg (pa_cons (pe_clo he) pa_nil hs) hdb hs hpl pins s σ H Q I ?_
  refine ⟨_, h, fun v H1 q => ⟨by show 1 ≤ 1000; decide, fun a na => ⟨a, v, rfl, upd_same, fun dx n1 n2 => ⟨rfl, dx, [(f, v)], upd_same, by rw [upd_ne n2, upd_same], ?_, ?_⟩⟩⟩⟩
  · rw [upd_ne n2] at n1
    exact n1
  · rw [upd_ne n2] at n1
    have e : upd (del (upd (upd (upd H1 a (exo a C none)) dx (exd dx [(f, v)])) a (exo a C (some dx))) a) dx (.xd [(f, v)]) = upd H1 dx (.xd [(f, v)]) := by
      funext b
      by_cases hb : b = dx
      · rw [hb, upd_same, upd_same]
      · rw [upd_ne hb, upd_ne hb]
        by_cases ha : b = a
        · rw [ha, del_same, na]
        · rw [del_ne ha, upd_ne ha, upd_ne hb, upd_ne ha]
    rw [e]
    exact q dx n1
/-- raise X(e) -/
theorem ps_err {X : Cx} {W : WX} {x f : Str} {C : Addr} {e : Expr} {te : TE} {p pos pos' : Pos} (T : ErrTxt X.K X.mg x f C) (hr : Room 2 X.A) (hc : X.calm = true) (tk : Takes X W) (hg : Gl X x) (he : PE X e te) (hdb : (x == ("__debug__" : Str)) = false := by decide)
    (hs : starEach [e] X.env = (false, eval e X.env) :: starEach [] X.env := by rfl) (hpl : (backTo pos (starEach [] X.env)).any (·.1) = false := by rfl) :
    PS X (.Raise (some (.Call (.Name x p) [e] [] pos)) none pos') (fun _ σ H => tErr C f te σ H fun cls d H' => W cls d σ H') := ps_raise hc tk (pmk_err T hr hg he hdb hs hpl)
end Hv

namespace Hv
open PySem L2
/-- data of depth m and bulk n at most, that can be compared and shown -/
structure Fit (d : PyData) (m n : Nat) : Prop where
  lay : d.canLay0 = true
  sh : d.showable = true
  dp : d.depth ≤ m
  lv : d.leavesShort 2000 = true
  bk : d.bulk ≤ n
structure FitAll (ds : List PyData) (m n : Nat) : Prop where
  lay : PyData.canLayAll0 ds = true
  sh : PyData.showableAll ds = true
  dp : PyData.depthAll ds ≤ m
  lv : PyData.leavesShortAll 2000 ds = true
  bk : PyData.bulkAll ds ≤ n
theorem Fit.none {m n : Nat} : Fit .none m n := ⟨rfl, rfl, Nat.zero_le _, rfl, Nat.zero_le _⟩
theorem Fit.bool {b : Bool} {m n : Nat} : Fit (.bool b) m n := ⟨rfl, rfl, Nat.zero_le _, rfl, Nat.zero_le _⟩
theorem Fit.int {i : Int} {m n : Nat} (h : i.natAbs.log2 < 1920) : Fit (.int i) m n := by
  refine ⟨rfl, decide_eq_true h, Nat.zero_le _, decide_eq_true ?_, Nat.zero_le _⟩
  have := PyProof.Rows.int_text_len_1921 h
  show (PySem.Str.ofString (toString i)).length ≤ 2000
  omega
theorem small_log {i : Int} (h0 : -1000000 ≤ i) (h1 : i ≤ 1000000) : i.natAbs.log2 < 1920 := by
  by_cases h : i.natAbs = 0
  · rw [h]
    decide
  · refine Nat.lt_of_lt_of_le ((Nat.log2_lt h).mpr (show i.natAbs < 2 ^ 20 by omega)) (by decide)
theorem Fit.str {z : Str} {m n : Nat} (h : PyData.strOk z = true) (hl : z.length ≤ n) : Fit (.str z) m n := by
  refine ⟨h, rfl, Nat.zero_le _, ?_, hl⟩
  show (z.cps.toList.all fun c => decide (c < 16 ^ 8)) = true
  rw [List.all_eq_true]
  intro c hc
  unfold PyData.strOk at h
  rw [Array.all_eq_true'] at h
  have := of_decide_eq_true (h c (by simpa using hc))
  exact decide_eq_true (by omega)
theorem FitAll.nil {m n : Nat} : FitAll [] m n := ⟨rfl, rfl, Nat.zero_le _, rfl, Nat.zero_le _⟩
theorem FitAll.cons {d : PyData} {ds : List PyData} {m a b : Nat} (h : Fit d m a) (t : FitAll ds m b) : FitAll (d :: ds) m (a + 1 + b) := by
  have h1 := h.dp
  have h2 := t.dp
  have h3 := h.bk
  have h4 := t.bk
  refine ⟨?_, ?_, ?_, ?_, ?_⟩
  · show (PyData.canLay0 d && PyData.canLayAll0 ds) = true
    rw [h.lay, t.lay]; rfl
  · show (PyData.showable d && PyData.showableAll ds) = true
    rw [h.sh, t.sh]; rfl
  · show max (PyData.depth d) (PyData.depthAll ds) ≤ m
    omega
  · show (PyData.leavesShort 2000 d && PyData.leavesShortAll 2000 ds) = true
    rw [h.lv, t.lv]; rfl
  · show PyData.bulk d + 1 + PyData.bulkAll ds ≤ a + 1 + b
    omega
theorem Fit.list {ds : List PyData} {m n : Nat} (h : FitAll ds m n) : Fit (.list ds) (m + 1) n := by
  refine ⟨h.lay, h.sh, ?_, h.lv, h.bk⟩
  have := h.dp
  show PyData.depthAll ds + 1 ≤ m + 1
  omega
theorem Fit.tuple {ds : List PyData} {m n : Nat} (h : FitAll ds m n) : Fit (.tuple ds) (m + 1) n := by
  refine ⟨h.lay, h.sh, ?_, h.lv, h.bk⟩
  have := h.dp
  show PyData.depthAll ds + 1 ≤ m + 1
  omega
theorem Fit.mono {d : PyData} {m n m' n' : Nat} (h : Fit d m n) (a : m ≤ m') (b : n ≤ n') : Fit d m' n' := ⟨h.lay, h.sh, Nat.le_trans h.dp a, h.lv, Nat.le_trans h.bk b⟩
theorem Fit.shaped {d : PyData} {m n : Nat} (h : Fit d m n) (hm : m ≤ 60) : SeqAt.shaped d = true := by
  unfold SeqAt.shaped
  rw [h.lay, decide_eq_true (show d.depth ≤ 64 by have := h.dp; omega)]
  rfl
theorem Fit.noDict {d : PyData} {m n : Nat} (h : Fit d m n) : d.hasDict = false := PyData.hasDict_of_canLay d h.lay
theorem Fit.line {d : PyData} {m n : Nat} (h : Fit d m n) (hn : n ≤ 5000) : d.shown.length ≤ sizeLine := by
  have h1 := PyData.shown_le_bulk 2000 (by decide) d h.lv
  have h2 : 2002 * d.bulk ≤ 2002 * 5000 := Nat.mul_le_mul_left _ (Nat.le_trans h.bk hn)
  have h3 : 2002 * 5000 + 2000 ≤ sizeLine := by decide
  omega
theorem Fit.eqv {d : PyData} {m n : Nat} (h : Fit d m n) : PyData.eqv d d = true := SeqAt.eqv_refl d h.lay
/-- what repr asks -/
theorem Fit.repr {d : PyData} {m n : Nat} {K : PySem.W.Frag} {H : Hp} {v : V} {Q : VK} (h : Fit d m n) (hv : Dp K H v d) (hm : m ≤ 60) (hn : n ≤ 5000) (q : Q (.str d.shown) H) : rRepr K [v] H Q :=
  rd_repr hv h.sh h.noDict (Nat.le_trans h.dp hm) (h.line hn) q
end Hv

namespace Hv
open PySem L2
theorem strOk_iff {z : Str} : PyData.strOk z = true ↔ ∀ c ∈ z.cps.toList, c < 0x110000 := by
  unfold PyData.strOk
  rw [Array.all_eq_true']
  constructor
  · intro h c hc
    exact of_decide_eq_true (h c (by simpa using hc))
  · intro h c hc
    exact decide_eq_true (h c (by simpa using hc))
theorem strOk_app {a b : Str} (ha : PyData.strOk a = true) (hb : PyData.strOk b = true) : PyData.strOk (a ++ b) = true := by
  rw [strOk_iff] at *
  intro c hc
  have e : (a ++ b).cps.toList = a.cps.toList ++ b.cps.toList := by
    show (a.cps ++ b.cps).toList = _
    simp
  rw [e] at hc
  rcases List.mem_append.mp hc with q | q
  · exact ha c q
  · exact hb c q
theorem char_small (c : Char) : c.toNat < 0x110000 := by
  have := c.valid
  rcases this with h | ⟨_, h⟩
  · exact Nat.lt_trans h (by decide)
  · exact h
theorem strOk_of (s : String) : PyData.strOk (Str.ofString s) = true := by
  rw [strOk_iff, Str.ofString_eq_toList]
  intro c hc
  simp only [List.mem_map] at hc
  obtain ⟨d, _, rfl⟩ := hc
  exact char_small d
theorem strOk_join {sep : Str} (hs : PyData.strOk sep = true) : ∀ {ts : List Str}, (∀ t ∈ ts, PyData.strOk t = true) → PyData.strOk (Str.join sep ts) = true
  | [], _ => show PyData.strOk Str.empty = true by decide +kernel
  | [x], h => h x (by simp)
  | x :: y :: r, h => by
    show PyData.strOk (x ++ sep ++ Str.join sep (y :: r)) = true
    exact strOk_app (strOk_app (h x (by simp)) hs) (strOk_join hs fun t ht => h t (by simp at ht ⊢; exact .inr ht))
theorem strOk_from : ∀ (ts : List Str) (k : Nat) (acc : Str), PyData.strOk acc = true → (∀ t ∈ ts, PyData.strOk t = true) → PyData.strOk (textFrom k acc ts) = true
  | [], _, _, h, _ => h
  | t :: ts, k, acc, h, ht => by
    show PyData.strOk (textFrom (k + 1) (acc ++ (if k > 0 then ", " else "" : String) ++ t) ts) = true
    exact strOk_from ts (k + 1) _ (strOk_app (strOk_app h (strOk_of _)) (ht t (by simp))) fun u hu => ht u (by simp [hu])
theorem hex_small {c d : Nat} (h : d ∈ (Nat.toDigits 16 c).map Char.toNat) : d < 0x110000 := by
  simp only [List.mem_map] at h
  obtain ⟨x, _, rfl⟩ := h
  exact char_small x
theorem reprChar_small {q c d : Nat} (hq : q < 0x110000) (hc : c < 0x110000) (h : d ∈ Builtin.Str.reprChar q c) : d < 0x110000 := by
  unfold Builtin.Str.reprChar at h
  have hx : ∀ w d, d ∈ List.replicate w 48 ++ (Nat.toDigits 16 c).map Char.toNat → d < 0x110000 := fun w d h => by
    rcases List.mem_append.mp h with h | h
    · rw [List.eq_of_mem_replicate h]; decide
    · exact hex_small h
  dsimp only at h
  repeat' split at h
  all_goals first
    | (simp only [List.mem_cons, List.not_mem_nil, or_false] at h; omega)
    | (simp only [List.cons_append, List.nil_append, List.mem_cons] at h
       rcases h with h | h | h
       · omega
       · omega
       · exact hx _ _ h)
theorem quote_small (x : Str) : reprQuote x < 0x110000 := by
  unfold reprQuote
  split <;> decide
theorem strOk_repr {x : Str} (h : PyData.strOk x = true) : PyData.strOk (reprText x) = true := by
  rw [strOk_iff] at *
  have go : ∀ (l : List Nat) (acc : Array Nat), (∀ c ∈ l, c < 0x110000) → (∀ c ∈ acc.toList, c < 0x110000) → ∀ c ∈ (l.foldl (fun out c => out ++ (Builtin.Str.reprChar (reprQuote x) c).toArray) acc).toList, c < 0x110000 := by
    intro l
    induction l with
    | nil => intro acc _ h; exact h
    | cons d r ih =>
      intro acc h1 h2
      rw [List.foldl_cons]
      refine ih _ (fun c hc => h1 c (by simp [hc])) fun c hc => ?_
      rw [Array.toList_append] at hc
      rcases List.mem_append.mp hc with q | q
      · exact h2 c q
      · exact reprChar_small (quote_small x) (h1 d (by simp)) (by simpa using q)
  intro c hc
  unfold reprText at hc
  rw [Array.toList_push] at hc
  rcases List.mem_append.mp hc with q | q
  · rw [← Array.foldl_toList] at q
    exact go _ _ h (fun c hc => by simp at hc; rw [hc]; exact quote_small x) c q
  · simp at q
    rw [q]
    exact quote_small x
mutual
theorem shown_ok : ∀ d : PyData, d.canLay0 = true → PyData.strOk d.shown = true
  | .none, _ => by simp only [PyData.shown]; exact strOk_of _
  | .bool b, _ => by cases b <;> decide +kernel
  | .int i, _ => by simp only [PyData.shown]; exact strOk_of _
  | .str x, h => by simp only [PyData.shown]; exact strOk_repr (by simpa only [PyData.canLay0] using h)
  | .list xs, h => by
    simp only [PyData.shown]
    exact strOk_app (strOk_from _ _ _ (strOk_of _) (shown_okAll xs (by simpa only [PyData.canLay0] using h))) (strOk_of _)
  | .tuple xs, h => by
    simp only [PyData.shown]
    exact strOk_app (strOk_app (strOk_of _) (strOk_join (strOk_of _) (shown_okAll xs (by simpa only [PyData.canLay0] using h)))) (strOk_of _)
  | .dict _, h => by simp only [PyData.canLay0] at h; exact nomatch h
theorem shown_okAll : ∀ ds : List PyData, PyData.canLayAll0 ds = true → ∀ t ∈ PyData.shownAll ds, PyData.strOk t = true
  | [], _ => by intro t ht; simp [PyData.shownAll] at ht
  | x :: xs, h => by
    have h' : x.canLay0 = true ∧ PyData.canLayAll0 xs = true := by simpa only [PyData.canLayAll0, Bool.and_eq_true] using h
    intro t ht
    simp only [PyData.shownAll, List.mem_cons] at ht
    rcases ht with rfl | ht
    · exact shown_ok x h'.1
    · exact shown_okAll xs h'.2 t ht
end
end Hv

namespace Hv
open PySem L2
/-- an if whose test is false -/
theorem join_no {tt : TT} {t v : TS} {D : Ends} {σ : L2.St} {H : Hp} (S : Hp → Prop) (h : ∀ Q' : Bool → Hp → Prop, (∀ b H', b = false → S H' → Q' b H') → tt σ H Q') (k : ∀ H', S H' → v D σ H') : tSeq (tIfS tt t tNext) v D σ H :=
  h (fun b H' => if b = true then t { D with nx := v D } σ H' else tNext { D with nx := v D } σ H') (by
    rintro _ H' rfl hs
    exact k H' hs)
/-- a promise that is not looked into -/
@[irreducible] def lk (sp : Sp) : Sp := sp
theorem lk_eq (sp : Sp) : lk sp = sp := by
  unfold lk
  rfl
theorem lk_in {sp : Sp} {vs : List V} {H : Hp} {Q : VK} {E : XK} (h : sp vs H Q E) : lk sp vs H Q E := by
  rw [lk_eq]
  exact h
theorem fn_lk {P : Program} {w : World} {K : PySem.W.Frag} {mg : Str → Option Value} {base : Heap} {CX : CXT} {k : Nat} {f : Addr} {fd : FuncData} {ps : List Str} {sp : Sp} (F : FnOk P w K mg base CX k f fd ps sp) : FnOk P w K mg base CX k f fd ps (lk sp) := by
  rw [lk_eq]
  exact F
end Hv

namespace Hv
open PySem PySem.Spec PyProof.Rows L2
mutual
/-- data, empty dicts among it; no list of it stands at b -/
inductive Dq (K : PySem.W.Frag) (b : Addr) (H : Hp) : V → PyData → Prop
  | non : Dq K b H .non .none
  | bl (k : Bool) : Dq K b H (.bl k) (.bool k)
  | int (i : Int) : Dq K b H (.int i) (.int i)
  | str (z : Str) : Dq K b H (.str z) (.str z)
  | lst {a : Addr} {xs : List V} {ds : List PyData} (h : H a = some (.lst xs)) (n : a ≠ b) (t : DqAll K b H xs ds) : Dq K b H (.ref a) (.list ds)
  | tup {a : Addr} {xs : List V} {ds : List PyData} (h : H a = some (.tup xs)) (t : DqAll K b H xs ds) : Dq K b H (.ref a) (.tuple ds)
  | emp {a : Addr} (h : H a = some (.dK [])) : Dq K b H (.ref a) (.dict [])
inductive DqAll (K : PySem.W.Frag) (b : Addr) (H : Hp) : List V → List PyData → Prop
  | nil : DqAll K b H [] []
  | cons {v : V} {vs : List V} {d : PyData} {ds : List PyData} (h : Dq K b H v d) (t : DqAll K b H vs ds) : DqAll K b H (v :: vs) (d :: ds)
end
mutual
theorem Dq.same {K : PySem.W.Frag} {b : Addr} {H H' : Hp} (e : Same H H') : ∀ {d : PyData} {v : V}, Dq K b H v d → Dq K b H' v d
  | _, _, .non => .non
  | _, _, .bl k => .bl k
  | _, _, .int i => .int i
  | _, _, .str z => .str z
  | _, _, .lst h n t => .lst (e _ _ h) n (DqAll.same e t)
  | _, _, .tup h t => .tup (e _ _ h) (DqAll.same e t)
  | _, _, .emp h => .emp (e _ _ h)
theorem DqAll.same {K : PySem.W.Frag} {b : Addr} {H H' : Hp} (e : Same H H') : ∀ {ds : List PyData} {vs : List V}, DqAll K b H vs ds → DqAll K b H' vs ds
  | _, _, .nil => .nil
  | _, _, .cons h t => .cons (Dq.same e h) (DqAll.same e t)
end
mutual
theorem Dq.but {K : PySem.W.Frag} {b : Addr} {n : Nat} {H H' : Hp} (hb : Bag H b n) (e : But b H H') : ∀ {d : PyData} {v : V}, Dq K b H v d → Dq K b H' v d
  | _, _, .non => .non
  | _, _, .bl k => .bl k
  | _, _, .int i => .int i
  | _, _, .str z => .str z
  | _, _, .lst h n t => .lst (e _ _ n h) n (DqAll.but hb e t)
  | _, _, .tup h t => .tup (e _ _ (by obtain ⟨_, _, _, hb, _⟩ := hb; exact ne_of h hb (by intro q; cases q)) h) (DqAll.but hb e t)
  | _, _, .emp h => .emp (e _ _ (by obtain ⟨_, _, _, hb, _⟩ := hb; exact ne_of h hb (by intro q; cases q)) h)
theorem DqAll.but {K : PySem.W.Frag} {b : Addr} {n : Nat} {H H' : Hp} (hb : Bag H b n) (e : But b H H') : ∀ {ds : List PyData} {vs : List V}, DqAll K b H vs ds → DqAll K b H' vs ds
  | _, _, .nil => .nil
  | _, _, .cons h t => .cons (Dq.but hb e h) (DqAll.but hb e t)
end
section
variable {X : Cx} {pins : List (Addr × Obj)} {σ : L2.St} {H : Hp} {s : Shared} {b : Addr}
theorem emp_reads {a : Addr} (I : Inv X pins σ H s) (h : H a = some (.dK [])) : ∃ o es n, s.heap.get? a = some o ∧ o.cls = .type "dict" ∧ o.data = .dict es n ∧ es.toList = [] ∧ (a == sysModules) = false := by
  obtain ⟨_, hsm, vs, kv, o, es, ep, ho, hx, hd, _, hp, _⟩ := dk_of I.hok h
  cases kv
  refine ⟨o, es, ep, ho, hx.1, hd, ?_, hsm⟩
  cases q : es.toList with
  | nil => rfl
  | cons a b => rw [q] at hp; cases hp
mutual
theorem Dq.reads (I : Inv X pins σ H s) : ∀ (d : PyData) (v : V) (u : Value), Dq X.K b H v d → RelV v u → ∃ as, Reads s.heap u d as
  | .none, _, _, .non, r => by
    cases r
    exact ⟨_, .none⟩
  | .bool k, _, _, .bl _, r => by
    cases r
    exact ⟨_, .bool k⟩
  | .int i, _, _, .int _, r => by
    obtain ⟨t, rfl⟩ := r
    exact ⟨_, .int i t⟩
  | .str x, _, _, .str _, r => by
    obtain ⟨t, rfl⟩ := r
    exact ⟨_, .str x t⟩
  | .list ds, _, _, .lst h _ t, r => by
    cases r
    obtain ⟨its, rv, ⟨o, n, ho, hc, _, hd⟩, _⟩ := I.list (SqL.of h)
    obtain ⟨as, hr⟩ := DqAll.reads I ds _ its t rv
    exact ⟨_, .list ho hc hd hr⟩
  | .tuple ds, _, _, .tup h t, r => by
    cases r
    obtain ⟨its, rv, ⟨o, ho, hc, n, hd⟩, _⟩ := I.tuple (SqT.of h)
    obtain ⟨as, hr⟩ := DqAll.reads I ds _ its t rv
    exact ⟨_, .tuple ho hc hd hr⟩
  | .dict [], _, _, .emp h, r => by
    cases r
    obtain ⟨o, es, n, ho, hc, hd, he, _⟩ := emp_reads I h
    exact ⟨_, .dict (kvs := []) ho hc hd (by rw [he]; exact .nil) (by rw [he]; exact .nil)⟩
theorem DqAll.reads (I : Inv X pins σ H s) : ∀ (ds : List PyData) (vs : List V) (us : List Value), DqAll X.K b H vs ds → Vals vs us → ∃ as, ReadsAll s.heap us ds as
  | [], _, _, .nil, r => by
    cases r
    exact ⟨_, .nil⟩
  | d :: ds, _, _, .cons h t, r => by
    cases r with
    | cons r1 r2 =>
      obtain ⟨as, q1⟩ := Dq.reads I d _ _ h r1
      obtain ⟨bs, q2⟩ := DqAll.reads I ds _ _ t r2
      exact ⟨_, .cons q1 q2⟩
end
abbrev RK (s : Shared) (X : Cx) (bs : List Addr) (n : Nat) (u : Value) (t : Str) : Prop := ReprK X.prog X.w bs s.heap n u t
mutual
theorem Dq.shows (I : Inv X pins σ H s) : ∀ (d : PyData) (v : V) (u : Value), Dq X.K b H v d → RelV v u → d.showable = true → d.shown.length ≤ sizeLine → ∃ bs, ReadAtMost s.heap d.depth bs ∧ RK s X bs d.depth u d.shown
  | .none, _, _, .non, r, hs, hz => by
    cases r
    exact ReprK.of_reads .none hs (fun q => by cases q) hz
  | .bool k, _, _, .bl _, r, hs, hz => by
    cases r
    exact ReprK.of_reads (.bool k) hs (fun q => by cases q) hz
  | .int i, _, _, .int _, r, hs, hz => by
    obtain ⟨t, rfl⟩ := r
    exact ReprK.of_reads (.int i t) hs (fun q => by cases q) hz
  | .str x, _, _, .str _, r, hs, hz => by
    obtain ⟨t, rfl⟩ := r
    exact ReprK.of_reads (.str x t) hs (fun q => by cases q) hz
  | .list ds, _, _, .lst (a := a) h nb t, r, hs, hz => by
    cases r
    have hz' : (listText (PyData.shownAll ds)).length ≤ sizeLine := by
      simpa only [PyData.shown] using hz
    obtain ⟨its, rv, ⟨o, n, ho, hc, _, hd⟩, _⟩ := I.list (SqL.of h)
    obtain ⟨bs, hb, hk⟩ := DqAll.shows I ds _ its t rv (by simpa [PyData.showable] using hs) fun z hm => Nat.le_trans (listText_mem_le hm) hz'
    obtain ⟨as, rd⟩ := Dq.reads (b := b) I (.list ds) (.ref a) (.ref a) (.lst h nb t) rfl
    have dep : PyData.depthAll ds < (PyData.list ds).depth := by
      simp only [PyData.depth]
      omega
    have hna := not_mem_of_deeper rd dep hb
    refine ⟨a :: bs, ReadAtMost.cons rd (by simp only [PyData.depth]; omega) hb, ?_⟩
    show RK s X (a :: bs) (PyData.depth (.list ds)) (.ref a) (PyData.shown (.list ds))
    simp only [PyData.depth, PyData.shown]
    cases its with
    | nil =>
      cases rv
      cases t
      simp only [PyData.shownAll, listText_nil]
      exact ReprK.listEmpty ho hc hd
    | cons x l => exact ReprK.list ho hc hd hna (by simpa using hk.length_eq) fun i y e => hk.item i y (by simpa using e)
  | .tuple ds, _, _, .tup (a := a) h t, r, hs, hz => by
    cases r
    have hz' : (tupleText (PyData.shownAll ds)).length ≤ sizeLine := by
      simpa only [PyData.shown] using hz
    obtain ⟨its, rv, ⟨o, ho, hc, n, hd⟩, _⟩ := I.tuple (SqT.of h)
    obtain ⟨bs, hb, hk⟩ := DqAll.shows I ds _ its t rv (by simpa [PyData.showable] using hs) fun z hm => Nat.le_trans (tupleText_mem_le hm) hz'
    obtain ⟨as, rd⟩ := Dq.reads (b := b) I (.tuple ds) (.ref a) (.ref a) (.tup h t) rfl
    have dep : PyData.depthAll ds < (PyData.tuple ds).depth := by
      simp only [PyData.depth]
      omega
    have hna := not_mem_of_deeper rd dep hb
    refine ⟨a :: bs, ReadAtMost.cons rd (by simp only [PyData.depth]; omega) hb, ?_⟩
    show RK s X (a :: bs) (PyData.depth (.tuple ds)) (.ref a) (PyData.shown (.tuple ds))
    simp only [PyData.depth, PyData.shown]
    exact ReprK.tuple ho hc hd hna hk
  | .dict [], _, _, .emp (a := a) h, r, hs, hz => by
    cases r
    obtain ⟨o, es, n, ho, hc, hd, he, hsm⟩ := emp_reads I h
    refine ReprK.of_reads (as := [a] ++ []) (.dict (kvs := []) (as := []) (bs := []) ho hc hd (by rw [he]; exact .nil) (by rw [he]; exact .nil)) hs (fun _ hm => ?_) hz
    simp at hm
    rw [hm] at hsm
    simp at hsm
theorem DqAll.shows (I : Inv X pins σ H s) : ∀ (ds : List PyData) (vs : List V) (us : List Value), DqAll X.K b H vs ds → Vals vs us → PyData.showableAll ds = true → (∀ t ∈ PyData.shownAll ds, t.length ≤ sizeLine) →
    ∃ bs, ReadAtMost s.heap (PyData.depthAll ds) bs ∧ ReprAllK X.prog X.w bs s.heap (PyData.depthAll ds) us (PyData.shownAll ds)
  | [], _, _, .nil, r, _, _ => by
    cases r
    exact ⟨[], (fun _ h => nomatch h), .nil⟩
  | d :: ds, _, _, .cons h t, r, hs, hz => by
    cases r with
    | cons r1 r2 =>
      simp only [PyData.showableAll, Bool.and_eq_true] at hs
      simp only [PyData.shownAll, List.mem_cons] at hz
      obtain ⟨b1, m1, k1⟩ := Dq.shows I d _ _ h r1 hs.1 (hz _ (.inl rfl))
      obtain ⟨b2, m2, k2⟩ := DqAll.shows I ds _ _ t r2 hs.2 fun t ht => hz t (.inr ht)
      refine ⟨b1 ++ b2, fun a ha => ?_, ?_⟩
      · simp only [PyData.depthAll]
        rcases List.mem_append.mp ha with q | q
        · exact (m1 a q).imp fun d' ⟨as', r', hd'⟩ => ⟨as', r', Nat.le_trans hd' (Nat.le_max_left _ _)⟩
        · exact (m2 a q).imp fun d' ⟨as', r', hd'⟩ => ⟨as', r', Nat.le_trans hd' (Nat.le_max_right _ _)⟩
      · simp only [PyData.depthAll, PyData.shownAll]
        exact .cons ((k1.more fun a ha => List.mem_append_left _ ha).level_le (Nat.le_max_left _ _)) (k2.more_le (fun a ha => List.mem_append_right _ ha) (Nat.le_max_right _ _))
end
theorem Dq.showsBy {a : Addr} {d : PyData} (I : Inv X pins σ H s) (h : Dq X.K b H (.ref a) d) (hs : d.showable = true) (hz : d.shown.length ≤ sizeLine) : ∃ T idr, ShowsBy X.prog X.w s.heap a d T idr := by
  cases h with
  | @lst _ xs ds h nb t =>
    have hz' : (listText (PyData.shownAll ds)).length ≤ sizeLine := by
      simpa only [PyData.shown] using hz
    obtain ⟨its, rv, ⟨o, n, ho, hc, _, hd⟩, _⟩ := I.list (SqL.of h)
    obtain ⟨bs, hb, hk⟩ := DqAll.shows I ds _ its t rv (by simpa [PyData.showable] using hs) fun z hm => Nat.le_trans (listText_mem_le hm) hz'
    obtain ⟨as, rd⟩ := Dq.reads (b := b) I (.list ds) (.ref a) (.ref a) (.lst h nb t) rfl
    have dep : PyData.depthAll ds < (PyData.list ds).depth := by
      simp only [PyData.depth]
      omega
    have hna := not_mem_of_deeper rd dep hb
    refine ⟨"list", "list.__repr__", F.slot_list_repr.toG, F.slot_list_str, F.slot_list_format, (fun s' hk0 => ⟨o, hk0 _ _ ho, hc⟩), fun A E s' Q hg hu hk0 hQ => ?_⟩
    simp only [PyData.depth] at hu
    simp only [PyData.shown] at hQ
    cases its with
    | nil =>
      cases rv
      cases t
      simp only [PyData.shownAll, listText_nil] at hQ
      exact call_list_repr_empty ⟨o, hk0 _ _ ho, hc⟩ (hk0 _ _ ho) hd (hQ s'.heap _ _ fun _ _ e => e)
    | cons x l => exact call_list_reprK ho hc hd hna (by simpa using hk.length_eq) (fun i y e => hk.item i y (by simpa using e)) hg (fun b _ => Clear.nil b) hu hk0 hQ hz'
  | @tup _ xs ds h t =>
    have hz' : (tupleText (PyData.shownAll ds)).length ≤ sizeLine := by
      simpa only [PyData.shown] using hz
    obtain ⟨its, rv, ⟨o, ho, hc, n, hd⟩, _⟩ := I.tuple (SqT.of h)
    obtain ⟨bs, hb, hk⟩ := DqAll.shows I ds _ its t rv (by simpa [PyData.showable] using hs) fun z hm => Nat.le_trans (tupleText_mem_le hm) hz'
    obtain ⟨as, rd⟩ := Dq.reads (b := b) I (.tuple ds) (.ref a) (.ref a) (.tup h t) rfl
    have dep : PyData.depthAll ds < (PyData.tuple ds).depth := by
      simp only [PyData.depth]
      omega
    have hna := not_mem_of_deeper rd dep hb
    refine ⟨"tuple", "tuple.__repr__", F.slot_tuple_repr, F.slot_tuple_str, F.slot_tuple_format, (fun s' hk0 => ⟨o, hk0 _ _ ho, hc⟩), fun A E s' Q hg hu hk0 hQ => ?_⟩
    simp only [PyData.depth] at hu
    simp only [PyData.shown] at hQ
    exact call_tuple_reprK ho hc hd hna hk hg (fun b _ => Clear.nil b) hu hk0 hQ hz'
  | emp h =>
    obtain ⟨o, es, n, ho, hc, hd, he, hsm⟩ := emp_reads I h
    refine showsBy_of_reads (as := [a] ++ []) (.dict (kvs := []) (as := []) (bs := []) ho hc hd (by rw [he]; exact .nil) (by rw [he]; exact .nil)) hs (fun _ hm => ?_) hz
    simp at hm
    rw [hm] at hsm
    simp at hsm
end
/-! ### showing -/
/-- data of depth m and bulk n at most that can be shown -/
structure FitQ (d : PyData) (m n : Nat) : Prop where
  sh : d.showable = true
  dp : d.depth ≤ m
  lv : d.leavesShort 2000 = true
  bk : d.bulk ≤ n
  ok : PyData.strOk d.shown = true
structure FitQAll (ds : List PyData) (m n : Nat) : Prop where
  sh : PyData.showableAll ds = true
  dp : PyData.depthAll ds ≤ m
  lv : PyData.leavesShortAll 2000 ds = true
  bk : PyData.bulkAll ds ≤ n
  ok : ∀ t ∈ PyData.shownAll ds, PyData.strOk t = true
theorem Fit.q {d : PyData} {m n : Nat} (h : Fit d m n) : FitQ d m n := ⟨h.sh, h.dp, h.lv, h.bk, shown_ok d h.lay⟩
theorem FitQ.emp {m n : Nat} (hm : 1 ≤ m) : FitQ (.dict []) m n := ⟨rfl, by show 0 + 1 ≤ m; omega, rfl, Nat.zero_le _, by decide +kernel⟩
theorem FitQAll.nil {m n : Nat} : FitQAll [] m n := ⟨rfl, Nat.zero_le _, rfl, Nat.zero_le _, fun t ht => by simp [PyData.shownAll] at ht⟩
theorem FitQAll.cons {d : PyData} {ds : List PyData} {m a b : Nat} (h : FitQ d m a) (t : FitQAll ds m b) : FitQAll (d :: ds) m (a + 1 + b) := by
  have h1 := h.dp
  have h2 := t.dp
  have h3 := h.bk
  have h4 := t.bk
  refine ⟨?_, ?_, ?_, ?_, ?_⟩
  · show (PyData.showable d && PyData.showableAll ds) = true
    rw [h.sh, t.sh]; rfl
  · show max (PyData.depth d) (PyData.depthAll ds) ≤ m
    omega
  · show (PyData.leavesShort 2000 d && PyData.leavesShortAll 2000 ds) = true
    rw [h.lv, t.lv]; rfl
  · show PyData.bulk d + 1 + PyData.bulkAll ds ≤ a + 1 + b
    omega
  · intro z hz
    simp only [PyData.shownAll, List.mem_cons] at hz
    rcases hz with rfl | hz
    · exact h.ok
    · exact t.ok z hz
theorem FitQ.list {ds : List PyData} {m n : Nat} (h : FitQAll ds m n) : FitQ (.list ds) (m + 1) n := by
  have := h.dp
  refine ⟨h.sh, by show PyData.depthAll ds + 1 ≤ m + 1; omega, h.lv, h.bk, ?_⟩
  simp only [PyData.shown]
  exact strOk_app (strOk_from _ _ _ (strOk_of _) h.ok) (strOk_of _)
theorem FitQ.tuple {ds : List PyData} {m n : Nat} (h : FitQAll ds m n) : FitQ (.tuple ds) (m + 1) n := by
  have := h.dp
  refine ⟨h.sh, by show PyData.depthAll ds + 1 ≤ m + 1; omega, h.lv, h.bk, ?_⟩
  simp only [PyData.shown]
  exact strOk_app (strOk_app (strOk_of _) (strOk_join (strOk_of _) h.ok)) (strOk_of _)
theorem FitQ.mono {d : PyData} {m n m' n' : Nat} (h : FitQ d m n) (a : m ≤ m') (b : n ≤ n') : FitQ d m' n' := ⟨h.sh, Nat.le_trans h.dp a, h.lv, Nat.le_trans h.bk b, h.ok⟩
theorem FitQ.line {d : PyData} {m n : Nat} (h : FitQ d m n) (hn : n ≤ 5000) : d.shown.length ≤ sizeLine := by
  have h1 := PyData.shown_le_bulk 2000 (by decide) d h.lv
  have h2 : 2002 * d.bulk ≤ 2002 * 5000 := Nat.mul_le_mul_left _ (Nat.le_trans h.bk hn)
  have h3 : 2002 * 5000 + 2000 ≤ sizeLine := by decide
  omega
theorem FitQ.str {d : PyData} {m n : Nat} (h : FitQ d m n) (hn : n ≤ 5000) : Fit (.str d.shown) 1 sizeLine := .str h.ok (h.line hn)
/-- repr of such data -/
@[irreducible] def rReprQ (K : PySem.W.Frag) : List V → Hp → VK → Prop := fun xs H Q => ∃ (b : Addr) (v : V) (d : PyData) (m n : Nat), xs = [v] ∧ Dq K b H v d ∧ FitQ d m n ∧ m ≤ 60 ∧ n ≤ 5000 ∧ Q (.str d.shown) H
theorem rd_reprQ {K : PySem.W.Frag} {b : Addr} {H : Hp} {v : V} {d : PyData} {m n : Nat} {Q : VK} (hv : Dq K b H v d) (h : FitQ d m n) (hm : m ≤ 60) (hn : n ≤ 5000) (q : Q (.str d.shown) H) : rReprQ K [v] H Q := by
  unfold rReprQ
  exact ⟨b, v, d, m, n, rfl, hv, h, hm, hn, q⟩
theorem cr_reprQ {X : Cx} (hG : X.A.guards = some []) (hu : X.A.units + 64 < cLine) : CallR X (.builtin "repr") (rReprQ X.K) := by
  intro pins s σ H xs us Q I r h
  unfold rReprQ at h
  obtain ⟨b, v, d, m, n, rfl, hd, ft, hm, hn, q⟩ := h
  obtain ⟨u, rfl, ru⟩ : ∃ u, us = [u] ∧ RelV v u := by
    cases r with
    | cons a b => cases b with | nil => exact ⟨_, rfl, a⟩
  have hz := ft.line hn
  have hdp := ft.dp
  have go : ∀ a, v = .ref a → u = .ref a → wpAny (model X.prog X.w) X.A (call (.builtin "repr") [u]) (EP X pins σ Q) X.xe s := fun a e1 e2 => by
    subst e1
    subst e2
    obtain ⟨T, idr, S⟩ := Dq.showsBy I hd ft.sh hz
    exact call_repr_slot (by omega) (S.typeIs s fun _ _ e => e) S.slotRepr (S.call X.A.in1 X.xe s _ hG (by show X.A.units + 1 + d.depth < cLine; omega) (fun _ _ e => e) fun h' u' tk hk => ⟨_, _, rfl, ⟨.str _, H, I.kept hk, ⟨_, rfl⟩, q⟩⟩)
  cases hd with
  | non => cases ru; exact PySem.P.repr_of_none ⟨.str _, H, I.tok _, ⟨_, rfl⟩, q⟩
  | bl b => cases ru; exact PySem.P.repr_of_bool ⟨.str _, H, I.tok _, ⟨_, rfl⟩, q⟩
  | int i =>
    obtain ⟨t, rfl⟩ := ru
    refine PySem.P.repr_of_int ?_ ⟨.str _, H, I.tok _, ⟨_, rfl⟩, q⟩
    have := ft.sh
    simpa [PyData.showable] using this
  | str z =>
    obtain ⟨t, rfl⟩ := ru
    exact PySem.P.repr_of_str ⟨.str _, H, I.tok _, ⟨_, rfl⟩, q⟩ hz
  | lst h1 h2 h3 => exact go _ rfl (by cases ru; rfl)
  | tup h1 h2 => exact go _ rfl (by cases ru; rfl)
  | emp h1 => exact go _ rfl (by cases ru; rfl)
/-! ### types -/
def tyName : PyData → String
  | .none => "NoneType"
  | .bool _ => "bool"
  | .int _ => "int"
  | .str _ => "str"
  | .list _ => "list"
  | .tuple _ => "tuple"
  | .dict _ => "dict"
theorem Dq.ty {K : PySem.W.Frag} {b : Addr} {H : Hp} {v : V} {d : PyData} (h : Dq K b H v d) : TyX K H v (.type (tyName d)) := by
  cases h with
  | non => exact .base .non
  | bl k => exact .base (.bl k)
  | int i => exact .base (.int i)
  | str z => exact .base (.str z)
  | lst h _ _ => exact .base (.lst h)
  | tup h _ => exact .base (.tup h)
  | emp h => exact .base (.dK h)
end Hv

namespace Hv
open PySem PySem.Spec PyProof.Rows L2
abbrev tab0 : Obj := { cls := .none, data := .fields #[] }
/-- what may be tracked where the law begins -/
def Kept (K : PySem.W.Frag) (a : Addr) (cs : List (Addr × Addr)) (H : Hp) : Prop := ∀ b u, H b = some u → K.lookup b = none ∧ ((b ∈ cs.map (·.2) ∧ u = .tbl #[]) ∨ (b = a ∧ ∃ o xs, u = .frz o (.lst xs)))
theorem call_lawT {P : Program} {w : World} {K : PySem.W.Frag} {mg mb : Str → Option Value} {k : Nat} {fa a : Addr} {cs : List (Addr × Addr)} {fd : FuncData} {x : Str} {sp : Sp} {s : Shared} {vs : List Value} {ns : List Int}
    (KX : K.In s.heap) (gl : s.heap.Ns mainGlobals mg) (bl : s.heap.Ns builtinsNs mb) (hbb : ∀ x : Str, x ≠ "__name__" → mb x = bootBuiltins x) (lim : s.heap.NoLimit) (gens : s.gens = #[])
    (hT : ∀ p ∈ cs, s.heap.get? p.2 = some tab0) (nT : ∀ p ∈ cs, K.lookup p.2 = none) (cT : ∀ p ∈ cs, PySem.W.CodeHd s.heap p.1 p.2)
    (hbm : ∃ (bm : Addr) (ob : Obj), mg "__builtins__" = some (.ref bm) ∧ bm ≠ builtinsNs ∧ s.heap.get? bm = some ob ∧ ob.cls = .type "module" ∧ ob.dict = some builtinsNs ∧ ob.data = .plain)
    (ha : s.heap.get? a = some { cls := .type "list", data := .seq vs.toArray }) (hi : IntsAre vs ns) (hl : ns.length ≤ sizeLine) (hr : Room k callerA)
    (F : ∀ base : Heap, K.In base → base.Ns mainGlobals mg → (∀ p ∈ cs, LamX.TabB base mg p.1 p.2) → OkG P w K mg base CX0 k fa fd [x] sp) (bind : ∀ (s : Shared) (u : Value), BindsTo s fd ⟨[u], []⟩ [(x, u)])
    (hsp : ∀ H : Hp, (∀ p ∈ cs, H p.2 = some (.tbl #[])) → SqL K H a (ns.map V.int) → sp [.ref a] H (fun v _ => v = .bl true) fun _ _ _ => False) :
    codeAny (model P w) callerA (.call (.ref fa) ⟨[.ref a], []⟩) (fun r s' => r = .ok (.ret (.bool true)) ∧ OldK s.heap s'.heap ∧ s'.os = s.os ∧ AllBare s'.gens) s := by
  have rv := vals_ints hi
  have lenV := hi.length
  have isT : ∀ b ∈ cs.map (·.2), s.heap.get? b = some tab0 := fun b hb => by
    obtain ⟨p, hp, rfl⟩ := List.mem_map.mp hb
    exact hT p hp
  have isK : ∀ b ∈ cs.map (·.2), K.lookup b = none := fun b hb => by
    obtain ⟨p, hp, rfl⟩ := List.mem_map.mp hb
    exact nT p hp
  have inT : ∀ p ∈ cs, p.2 ∈ cs.map (·.2) := fun p hp => List.mem_map.mpr ⟨p, hp, rfl⟩
  have apart : a ∉ cs.map (·.2) := fun z => by
    have q := isT a z
    rw [ha] at q
    cases q
  have core : ∀ H : Hp, Kept K a cs H → (∀ p ∈ cs, H p.2 = some (.tbl #[])) → SqL K H a (ns.map V.int) → HOk P w H s.heap →
      codeAny (model P w) callerA (.call (.ref fa) ⟨[.ref a], []⟩) (fun r s' => r = .ok (.ret (.bool true)) ∧ OldK s.heap s'.heap ∧ s'.os = s.os ∧ AllBare s'.gens) s := by
    intro H kept hC hS ok
    have out : ∀ {b : Addr} {o : Obj}, s.heap.get? b = some o → (∀ vs n, o.data ≠ .seq vs n) → o.data ≠ .fields #[] → H b = none := by
      intro b o e n2 n3
      cases q : H b with
      | none => rfl
      | some u =>
        rcases (kept b u q).2 with ⟨z, _⟩ | ⟨rfl, _⟩
        · rw [isT b z] at e
          cases e
          exact absurd rfl n3
        · rw [ha] at e
          cases e
          exact absurd rfl (n2 _ _)
    have nsOut : ∀ {b : Addr} {m : Str → Option Value}, s.heap.Ns b m → (hidT s.heap H).Ns b m := by
      rintro b m ⟨o, es, ep, e, d, r⟩
      exact ⟨o, es, ep, hidT_get e (out e (fun _ _ z => by rw [d] at z; cases z) fun z => by rw [d] at z; cases z), d, r⟩
    have hKb : K.In (hidT s.heap H) := fun b o e => hidT_get (KX b o e) (by
      cases q : H b with
      | none => rfl
      | some u => rw [(kept b u q).1] at e; cases e)
    have hM : Mod K mg (hidT s.heap H) := by
      obtain ⟨mc, h1, h2⟩ := lim
      exact ⟨hKb, nsOut gl, ⟨mb, nsOut bl, hbb⟩, ⟨mc, nsOut h1, h2⟩⟩
    have TB : ∀ p ∈ cs, LamX.TabB (hidT s.heap H) mg p.1 p.2 := by
      intro p hp
      have e := hT p hp
      refine ⟨?_, ?_, ?_⟩
      · obtain ⟨o, us, file, tf, flags, tg, inF, text, tt, e1, r1, r2, r3, r4⟩ := cT p hp
        refine ⟨o, us, file, tf, flags, tg, inF, text, tt, hidT_get e1 (out e1 (fun _ _ z => by rw [r2] at z; cases z) fun z => ?_), r1, r2, r3, r4⟩
        rw [r2] at z
        cases z
        simp at r3
      · obtain ⟨bm, ob, b1, b2, b3, b4, b5, b6⟩ := hbm
        refine ⟨bm, ob, b1, b2, ?_, ?_, hidT_get b3 (out b3 (fun _ _ z => by rw [b6] at z; cases z) fun z => by rw [b6] at z; cases z), b4, b5, b6⟩
        · rintro rfl
          obtain ⟨o, es, ep, e', hd, _⟩ := gl
          rw [e'] at b3
          cases b3
          rw [hd] at b6
          cases b6
        · rintro rfl
          rw [e] at b3
          cases b3
          cases b6
      · intro z
        obtain ⟨o, es, ep, e', hd, _⟩ := gl
        rw [z, e] at e'
        cases e'
        cases hd
    have e0 : Env0 P w K mg (hidT s.heap H) callerA [] s H := by
      refine ⟨rfl, hM, fun b o e => of_hidT e, Nat.le_of_eq (hidT_size _ _), trivial, ?_, ok, .of_eq gens⟩
      intro b hb
      cases (show b ∈ ([] : List Addr) from hb)
    have go := (F _ hKb (nsOut gl) TB).run callerA [] s H ⟨[.ref a], []⟩ [.ref a] [.ref a] (fun v _ => v = .bl true) (fun _ _ _ => False) rfl hr e0 (bind s (.ref a)) (.cons rfl .nil) (hsp H hC hS)
    refine codeAny_mono go ?_
    intro r s' h
    match r, h with
    | .error e, h => exact (show False from h).elim
    | .ok .next, h => exact h.elim
    | .ok .brk, h => exact h.elim
    | .ok .cont, h => exact h.elim
    | .ok (.ret u), h =>
      obtain ⟨v, H', os, bare, un, ok', r', q⟩ := h
      cases (show v = .bl true from q)
      cases (show u = Value.bool true from r')
      have keep : ∀ b o, b ∉ cs.map (·.2) → s.heap.get? b = some o → s'.heap.get? b = some o := by
        intro b o nb e
        cases q : H b with
        | none => exact un.keep b o e q (by intro z; cases z) (by intro z; cases z)
        | some u =>
          rcases (kept b u q).2 with ⟨z, _⟩ | ⟨_, ob, xs, rfl⟩
          · exact absurd z nb
          · have k1 := (ok b _ q).1
            have k2 := (ok' b _ (un.frzs b ob _ q)).1
            rw [e] at k1
            cases k1
            exact k2
      have grown : ∀ p ∈ cs, ∃ more : Array Value, s'.heap.get? p.2 = some { cls := .none, data := .fields more } := by
        intro p hp
        obtain ⟨more, z⟩ := un.tbls p.2 #[] (hC p hp)
        exact ⟨_, ok' p.2 _ z⟩
      refine ⟨rfl, ⟨fun b o e => ?_, fun b o e => ?_⟩, os, bare⟩
      · by_cases hb : b ∈ cs.map (·.2)
        · obtain ⟨p, hp, rfl⟩ := List.mem_map.mp hb
          obtain ⟨more, hm⟩ := grown p hp
          rw [hT p hp] at e
          cases e
          refine .inr (.inl ⟨((cT p hp).tab (hT p hp)).isCodeTable, rfl, #[], more, rfl, ?_⟩)
          rw [Array.empty_append]
          exact hm
        · exact .inl (keep b o hb e)
      · by_cases hb : b ∈ cs.map (·.2)
        · obtain ⟨p, hp, rfl⟩ := List.mem_map.mp hb
          obtain ⟨more, hm⟩ := grown p hp
          exact ⟨_, hm⟩
        · exact ⟨o, keep b o hb e⟩
  let T0 : Hp := fun b => if b ∈ cs.map (·.2) then some (.tbl #[]) else none
  have t0 : ∀ b u, T0 b = some u → b ∈ cs.map (·.2) ∧ u = .tbl #[] := fun b u z => by
    by_cases hb : b ∈ cs.map (·.2)
    · exact ⟨hb, (Option.some.inj ((if_pos hb).symm.trans z)).symm⟩
    · have := (if_neg hb).symm.trans z
      cases this
  by_cases hk : K.lookup a = none
  · refine core (upd T0 a (.frz { cls := .type "list", data := .seq vs.toArray } (.lst (ns.map V.int)))) ?_ ?_ (.inl (.inr ⟨_, upd_same⟩)) ?_
    · intro b u z
      by_cases hb : b = a
      · subst hb
        rw [upd_same] at z
        cases z
        exact ⟨hk, .inr ⟨rfl, _, _, rfl⟩⟩
      · rw [upd_ne hb] at z
        obtain ⟨h1, h2⟩ := t0 b u z
        exact ⟨isK b h1, .inl ⟨h1, h2⟩⟩
    · intro p hp
      rw [upd_ne (fun z => apart (by rw [← z]; exact inT p hp))]
      exact if_pos (inT p hp)
    · intro b u z
      by_cases hb : b = a
      · subst hb
        rw [upd_same] at z
        cases z
        exact ⟨ha, by rw [List.length_map]; exact hl, vs, _, rv, ha⟩
      · rw [upd_ne hb] at z
        obtain ⟨h1, rfl⟩ := t0 b u z
        exact isT b h1
  · obtain ⟨o, ho⟩ := Option.ne_none_iff_exists'.mp hk
    have e := KX a o ho
    rw [ha] at e
    cases e
    refine core T0 (fun b u z => ⟨isK b (t0 b u z).1, .inl (t0 b u z)⟩) (fun p hp => if_pos (inT p hp)) (.inr ⟨_, vs.toArray, _, ho, rfl, rfl, rfl, ?_, ?_⟩) ?_
    · rw [List.size_toArray, lenV]
      exact hl
    · simpa using rv
    · intro b u z
      obtain ⟨h1, rfl⟩ := t0 b u z
      exact isT b h1
/-- the def named x, its code object at c and the table of that at P -/
structure TabAt (K : PySem.W.Frag) (mg : Str → Option Value) (h : Heap) (x : Str) (c P : Addr) : Prop where
  get : h.get? P = some tab0
  hd : PySem.W.CodeHd h c P
/-- what the top has left of a def that makes lambdas -/
def TabIn (K : PySem.W.Frag) (x : Str) (c P : Addr) : Prop := ∃ (f : Addr) (o : Obj) (fd : FuncData) (e : Value) (dd : Option Addr) (vs : Array Value) (sl : Array (Option Value)), PySem.W.nsIn K mainGlobals x = some (some (.ref f)) ∧ K.lookup f = some o ∧ o.data = .func fd ∧ fd.code = .ref c ∧
  K.lookup c = some ⟨e, dd, .fields vs, sl⟩ ∧ vs[11]? = some (.ref P) ∧ K.lookup P = none
theorem tabIn_mk {K : PySem.W.Frag} {x : Str} {c P f : Addr} {o : Obj} {fd : FuncData} {e : Value} {dd : Option Addr} {vs : Array Value} {sl : Array (Option Value)} (h1 : PySem.W.nsIn K mainGlobals x = some (some (.ref f))) (h2 : K.lookup f = some o) (h3 : o.data = .func fd) (h4 : fd.code = .ref c)
    (h5 : K.lookup c = some ⟨e, dd, .fields vs, sl⟩) (h6 : vs[11]? = some (.ref P)) (h7 : K.lookup P = none) : TabIn K x c P := ⟨f, o, fd, e, dd, vs, sl, h1, h2, h3, h4, h5, h6, h7⟩
theorem TabIn.out {K : PySem.W.Frag} {x : Str} {c P : Addr} (h : TabIn K x c P) : K.lookup P = none := by
  obtain ⟨_, _, _, _, _, _, _, _, _, _, _, _, _, h7⟩ := h
  exact h7
theorem TabIn.at {K : PySem.W.Frag} {x : Str} {c P : Addr} {q : Program} {loose : List Str} {mean : ExcName → Option Value} {mg mb : Str → Option Value} {h : Heap} (t : TabIn K x c P) (X : K.In h) (T : Top q loose mean mg mb h) (hrec : ((recsOf q).any fun e => e.name == x) = true) :
    h.get? P = some tab0 ∧ PySem.W.CodeHd h c P := by
  obtain ⟨f, o, fd, e, dd, vs, sl, k1, k2, k3, k4, k5, k6, _⟩ := t
  obtain ⟨d, hm, hn⟩ := List.any_eq_true.mp hrec
  obtain ⟨a', o', fd', c', P', h1, h2, h3, h4, h5, h6⟩ := T.tab d hm
  rw [beq_iff_eq.mp hn, PySem.W.mg_of X T.g k1] at h1
  cases h1
  have g1 := X _ _ k2
  rw [g1] at h2
  cases h2
  rw [k3] at h3
  cases h3
  rw [k4] at h4
  cases h4
  have hh := PySem.W.CodeHd.of h5 h6
  obtain ⟨⟨oc, vc, e1, _, e3, e4⟩, hP⟩ := h6
  have g2 := X _ _ k5
  rw [g2] at e1
  cases e1
  cases e3
  rw [k6] at e4
  cases e4
  exact ⟨hP, hh⟩
/-- the law's promise, with the tables cs of the defs xs -/
def LawT (l : PySem.W.OpenLaw) (w : World) (K : PySem.W.Frag) (k n : Nat) (x : Str) (mg : Str → Option Value) (fa : Addr) (xs : List Str) : Prop :=
  ∃ (fd : FuncData) (cs : List (Addr × Addr)) (sp : Sp), (∀ p ∈ cs, ∃ y ∈ xs, TabIn K y p.1 p.2) ∧ (∀ (s : Shared) (u : Value), BindsTo s fd ⟨[u], []⟩ [(x, u)]) ∧
    (∀ (H : Hp) (a : Addr) (ns : List Int), ns.length ≤ n → (∀ z ∈ ns, Builtin.Int.intBits z ≤ 1048576) → (∀ p ∈ cs, H p.2 = some (.tbl #[])) → SqL K H a (ns.map V.int) → sp [.ref a] H (fun v _ => v = .bl true) fun _ _ _ => False) ∧
    ∀ base : Heap, K.In base → base.Ns mainGlobals mg → (∀ p ∈ cs, LamX.TabB base mg p.1 p.2) → OkG l.prog w K mg base CX0 k fa fd [x] sp
theorem walkT {l : PySem.W.OpenLaw} {n k : Nat} {q : Program} {loose : List Str} {XP : (Str → Option Value) → Heap → Prop} {YP : World → Heap → Prop} {d : DefRec} {K : Params → PySem.W.Frag} {x : Str} (xs : List Str)
    (hn : l.most = some n) (hn2 : n ≤ sizeLine) (hdf : d.params.defaults = []) (hr : Room k callerA) (hrec : xs.all (fun y => (recsOf q).any fun e => e.name == y) = true) (hY : ∀ (w : World) (h : Heap), YP w h → (K w.params).In h)
    (F : ∀ (w : World) (mg : Str → Option Value) (fa : Addr) (h : Heap), (K w.params).In h → h.Ns mainGlobals mg → mg d.name = some (.ref fa) → LawT l w (K w.params) k n x mg fa xs) :
    PySem.W.WalkO q loose XP YP l.row.toRowW d [] (fun f vs => PySem.call f vs) := by
  refine Att.attach_callB hn hdf ?_
  intro w s₀ s₁ mg mb fa o pm cd doc a vs ns G Y ho hd hcd hmg hobj hints hlen hbits hg
  have X := hY w _ Y
  obtain ⟨fd, cs, sp, ht, hb, hsp, hF⟩ := F w mg fa _ X G.T.g hmg
  have tabs : ∀ p ∈ cs, s₁.heap.get? p.2 = some tab0 ∧ PySem.W.CodeHd s₁.heap p.1 p.2 := fun p hp => by
    obtain ⟨y, hy, t⟩ := ht p hp
    exact t.at X G.T (List.all_eq_true.mp hrec y hy)
  exact call_lawT X G.T.g G.T.b G.T.builtins G.T.nolimit hg (fun p hp => (tabs p hp).1) (fun p hp => (ht p hp).choose_spec.2.out) (fun p hp => (tabs p hp).2) G.T.bmain hobj hints (Nat.le_trans hlen hn2) hr hF hb fun H hC hS => hsp H a ns hlen hbits hC hS
end Hv

namespace L
open PySem L2 Hv
def top (i : Nat) : Stmt := PySem.Challenge.pw_heldvotes_k03_bounds_refused.main.body.getD i (.Pass ⟨0, 0, 0, 0⟩)
structure Txt (K : PySem.W.Frag) (mg : Str → Option Value) : Prop where
  ArithmeticError : mg "ArithmeticError" = none
  LookupError : mg "LookupError" = none
  ValueError : mg "ValueError" = none
  abs : mg "abs" = none
  all : mg "all" = none
  any : mg "any" = none
  bool : mg "bool" = none
  divmod : mg "divmod" = none
  int : mg "int" = none
  isinstance : mg "isinstance" = none
  len : mg "len" = none
  max : mg "max" = none
  min : mg "min" = none
  range : mg "range" = none
  repr : mg "repr" = none
  str : mg "str" = none
  cMOST_PART : ∃ t, mg "MOST_PART" = some (.int (12) t)
  cDIGITS : ∃ t, mg "DIGITS" = some (.str "0123456789" t)
  cMARK : ∃ t, mg "MARK" = some (.str "over " t)
end L

namespace L
open PySem L2 Hv
variable {P : Program} {w : World} {K : PySem.W.Frag} {mg : Str → Option Value} {base : Heap}
abbrev s_take : Stmt := top 50
abbrev N_take : List Str := ["_law_bag_here", "_law_many", "_law_digit"]
abbrev P_take : List Str := ["_law_bag_here", "_law_many"]
theorem sc_take : FnScope N_take P_take (defScope s_take) := ⟨rfl, rfl, rfl, by decide +kernel, rfl, by decide +kernel, by decide +kernel⟩
theorem ok_take {f : Addr} {fd : FuncData} (D : DefAt K mg "_law_take" s_take P_take f fd) (T : Txt K mg) : FnOk P w K mg base CX0 1 f fd P_take sp_take := by
  refine D.fn.ok sc_take (fun vs H Q E h => ?_) (fun cdv A outer s H vs Q E hr h => ?_)
  · obtain ⟨b, m, k, rfl, _⟩ := h
    rfl
  · obtain ⟨b, m, k, rfl, ⟨z, d, n, hb, d0, db, n0, nk⟩, hk, m0, m1, ret⟩ := h
    refine ⟨_, (pss_cons (ps_asg (pe_op op_add (pe_ix ix_list (pv 0) pe_int (fun _ _ => rfl)) pe_int) (pg_sub (pv 0) pe_int set_list))
      (pss_cons (ps_asg (pe_op op_mod (pe_callTy call_int1 (by rfl) T.int (by decide +kernel) (pa_cons (pe_op op_add (pe_op op_add (pe_op op_mul (pe_ix ix_list (pv 0) pe_int (fun _ _ => rfl)) pe_int) (pe_op op_mul (pe_op op_mul (pe_ix ix_list (pv 0) pe_int (fun _ _ => rfl)) (pe_ix ix_list (pv 0) pe_int (fun _ _ => rfl))) pe_int)) pe_int) pa_nil)) pe_int) (pg_sub (pv 0) pe_int set_list))
      (pss_cons (ps_if (pt_cmpR op_gt (pe_ix ix_list (pv 0) pe_int (fun _ _ => rfl)) pe_int (nomark _))
      (pss_cons (ps_asg (pe_callB call_divmodW (by rfl) T.divmod (by decide +kernel) (pa_cons (pe_ix ix_list (pv 0) pe_int (fun _ _ => rfl)) (pa_cons (pv 1) pa_nil))) (pg_tup (by rfl) (pgs_cons (pg_sub (pv 0) pe_int set_list) (pgs_cons (pg_name (i := 2) sc_take.nd rfl (.inl rfl)) pgs_nil))))
      (pss_one (ps_ret (pv 2))))
      pss_nil)
      (pss_one (ps_ret (pe_op op_mod (pe_callTy call_int1 (by rfl) T.int (by decide +kernel) (pa_cons (pe_op op_fdiv (pe_ix ix_list (pv 0) pe_int (fun _ _ => rfl)) pe_int) pa_nil)) (pv 1))))))), ?_⟩
    refine ⟨_, rfl, _, _, _, _, rfl, rfl, SqL.of hb, rfl, _, _, rfl, rfl, _, rfl, _, _, _, _, rfl, rfl, hb, rfl, ?_⟩
    have hb1 := upd_same (H := H) (a := b) (o := .lst (List.set [.int z, .int d, .int n] 2 (.int (n + 1))))
    refine ⟨_, rfl, _, _, _, _, rfl, rfl, SqL.of hb1, rfl, _, _, rfl, rfl, .inr ⟨by decide, by decide⟩, _, rfl, _, _, _, _, rfl, rfl, SqL.of hb1, rfl, _, rfl, _, _, _, _, rfl, rfl, SqL.of hb1, rfl, _, _, rfl, rfl, .inl ⟨by omega, by omega⟩,
      _, _, rfl, rfl, .inr ⟨by decide, by decide⟩, _, _, rfl, rfl, _, _, rfl, rfl, .inl ⟨_, rfl, _, _, rfl, rfl, (by show (0 : Int) < _; decide), _, rfl, _, _, _, _, rfl, rfl, hb1, rfl, ?_⟩⟩
    rw [upd_upd]
    have hb2 := upd_same (H := H) (a := b) (o := .lst [.int ((z * 91193 + (n + 1) * (n + 1) * 6827 + 40507) % 2147483399), .int d, .int (n + 1)])
    refine ⟨_, rfl, _, _, _, _, rfl, rfl, SqL.of hb2, rfl, _, _, rfl, rfl, _, rfl, ?_⟩
    refine ite2 (fun hc => ?_) (fun hc => ?_)
    · refine ⟨_, rfl, _, _, _, _, rfl, rfl, SqL.of hb2, rfl, _, rfl, _, _, rfl, ⟨m0, pylong_no m1⟩, fun p hp => ?_⟩
      have np : b ≠ p := ne_of_none hb2 hp
      refine ⟨_, _, rfl, SqT.of upd_same, rfl, _, _, rfl, _, rfl, _, _, _, _, rfl, rfl, (upd_ne np).trans hb2, rfl, _, _, rfl, rfl, _, rfl, ?_⟩
      refine ret _ _ (((But.refl.put).new hp).put) ⟨_, _, _, upd_same, ?_, bits_div d0 m0 db, ?_, ?_⟩ (Int.emod_nonneg _ (by omega)) (Int.emod_lt_of_pos _ m0)
      · exact Int.ediv_nonneg d0 (by omega)
      · omega
      · omega
    · refine ⟨_, rfl, _, _, _, _, rfl, rfl, SqL.of hb2, rfl, _, _, rfl, rfl, ⟨by decide, by decide⟩, .inl ⟨_, rfl, _, rfl, _, _, rfl, rfl, m0, ?_⟩⟩
      refine ret _ _ But.refl.put ⟨_, _, _, upd_same, d0, db, ?_, ?_⟩ (Int.emod_nonneg _ (by omega)) (Int.emod_lt_of_pos _ m0)
      · omega
      · omega
abbrev s_bag : Stmt := top 49
abbrev N_bag : List Str := ["_law_number_here", "_law_digits", "_law_state"]
abbrev P_bag : List Str := ["_law_number_here"]
theorem sc_bag : FnScope N_bag P_bag (defScope s_bag) := ⟨rfl, rfl, rfl, by decide +kernel, rfl, by decide +kernel, by decide +kernel⟩
theorem ok_bag {f : Addr} {fd : FuncData} (D : DefAt K mg "_law_bag" s_bag P_bag f fd) (T : Txt K mg) : FnOk P w K mg base CX0 1 f fd P_bag sp_bag := by
  refine D.fn.ok sc_bag (fun vs H Q E h => ?_) (fun cdv A outer s H vs Q E hr h => ?_)
  · obtain ⟨n, rfl, _⟩ := h
    rfl
  · obtain ⟨n, rfl, nb, ret⟩ := h
    refine ⟨_, (pss_cons (ps_asg (pe_ifExp (pt_chain op_le op_lt pe_int (pv 0) (pe_op op_pow pe_int pe_int)) pe_int (pe_callB call_abs (by rfl) T.abs (by decide +kernel) (pa_cons (pv 0) pa_nil))) (pg_name (i := 1) sc_bag.nd rfl (.inl rfl)))
      (pss_cons (ps_asg (pe_op op_mod (pe_callTy call_int1 (by rfl) T.int (by decide +kernel) (pa_cons (pv 0) pa_nil)) pe_int) (pg_name (i := 2) sc_bag.nd rfl (.inl rfl)))
      (pss_one (ps_ret (pe_lst (pa_cons (pe_op op_mod (pe_callTy call_int1 (by rfl) T.int (by decide +kernel) (pa_cons (pe_op op_add (pe_op op_mul (pv 2) (pe_op op_add (pe_op op_mod (pe_callTy call_int1 (by rfl) T.int (by decide +kernel) (pa_cons (pv 2) pa_nil)) pe_int) pe_int)) pe_int) pa_nil)) pe_int) (pa_cons (pv 1) (pa_cons pe_int pa_nil)))))))), ?_⟩
    have fin : ∀ d : Int, 0 ≤ d → Builtin.Int.intBits d ≤ 1048576 → ∀ p, H p = none → ∀ z : Int, Q (.ref p) (upd H p (.lst [.int z, .int d, .int 0])) := fun d d0 d1 p hp z =>
      ret p _ hp (same_new hp) ⟨z, d, 0, upd_same, d0, d1, by omega, by omega⟩
    refine ⟨_, rfl, _, _, rfl, rfl, _, rfl, ?_⟩
    refine ite2 (fun hc => ?_) (fun hc => ?_)
    · refine ⟨_, _, rfl, rfl, ⟨by decide, by decide, by decide⟩, _, _, rfl, rfl, _, rfl, ?_⟩
      refine ite2 (fun hc2 => ?_) (fun hc2 => ?_)
      · refine ⟨_, rfl, .inl ⟨_, rfl, _, _, rfl, rfl, (by show (0 : Int) < _; decide), _, rfl, _, rfl, .inl ⟨_, rfl, _, _, rfl, rfl, (by show (0 : Int) < _; decide), _, _, rfl, rfl, _, _, rfl, rfl, .inl ⟨?_, ?_⟩, _, _, rfl, rfl, .inl ⟨_, rfl, _, _, rfl, rfl, (by show (0 : Int) < _; decide), _, rfl, (by show 3 ≤ sizeLine; decide), fun p hp => ?_⟩⟩⟩⟩
        · show -(2 ^ 64) < n % 2147483399
          omega
        · show n % 2147483399 < 2 ^ 64
          omega
        · exact fin 0 (by decide) (by decide) p hp _
      · refine ⟨_, rfl, _, rfl, _, rfl, .inl ⟨_, rfl, _, _, rfl, rfl, (by show (0 : Int) < _; decide), _, rfl, _, rfl, .inl ⟨_, rfl, _, _, rfl, rfl, (by show (0 : Int) < _; decide), _, _, rfl, rfl, _, _, rfl, rfl, .inl ⟨?_, ?_⟩, _, _, rfl, rfl, .inl ⟨_, rfl, _, _, rfl, rfl, (by show (0 : Int) < _; decide), _, rfl, (by show 3 ≤ sizeLine; decide), fun p hp => ?_⟩⟩⟩⟩
        · show -(2 ^ 64) < n % 2147483399
          omega
        · show n % 2147483399 < 2 ^ 64
          omega
        · refine fin _ ?_ (Nat.le_trans (bits_mono ?_) nb) p hp _
          · split <;> omega
          · split <;> omega
    · refine ⟨_, rfl, iteF ⟨_, rfl, _, rfl, _, rfl, .inl ⟨_, rfl, _, _, rfl, rfl, (by show (0 : Int) < _; decide), _, rfl, _, rfl, .inl ⟨_, rfl, _, _, rfl, rfl, (by show (0 : Int) < _; decide), _, _, rfl, rfl, _, _, rfl, rfl, .inl ⟨?_, ?_⟩, _, _, rfl, rfl, .inl ⟨_, rfl, _, _, rfl, rfl, (by show (0 : Int) < _; decide), _, rfl, (by show 3 ≤ sizeLine; decide), fun p hp => ?_⟩⟩⟩⟩⟩
      · show -(2 ^ 64) < n % 2147483399
        omega
      · show n % 2147483399 < 2 ^ 64
        omega
      · refine fin _ ?_ (Nat.le_trans (bits_mono ?_) nb) p hp _
        · split <;> omega
        · split <;> omega
abbrev s_seed : Stmt := top 48
abbrev N_seed : List Str := ["_law_script", "_law_k", "_law_mixed", "_law_number_here"]
abbrev P_seed : List Str := ["_law_script", "_law_k"]
theorem sc_seed : FnScope N_seed P_seed (defScope s_seed) := ⟨rfl, rfl, rfl, by decide +kernel, rfl, by decide +kernel, by decide +kernel⟩
theorem ok_seed {f : Addr} {fd : FuncData} (D : DefAt K mg "_law_seed" s_seed P_seed f fd) (T : Txt K mg) : FnOk P w K mg base CX0 1 f fd P_seed (sp_seed K) := by
  refine D.fn.ok sc_seed (fun vs H Q E h => ?_) (fun cdv A outer s H vs Q E hr h => ?_)
  · obtain ⟨a, ns, k, rfl, _⟩ := h
    rfl
  · obtain ⟨a, ns, k, rfl, hS, bits, k0, k1, ret⟩ := h
    refine ⟨_, (pss_cons (ps_if (pt_cmpR op_lt (pv 1) (pe_callB call_len_seq (by rfl) T.len (by decide +kernel) (pa_cons (pv 0) pa_nil)) (nomark _))
      (pss_one (ps_ret (pe_ix ix_list (pv 0) (pv 1) (fun _ _ => rfl))))
      pss_nil)
      (pss_cons (ps_asg (pe_op op_add pe_int (pe_op op_mul (pe_op op_mul pe_int (pv 1)) (pv 1))) (pg_name (i := 2) sc_seed.nd rfl (.inl rfl)))
      (pss_cons (ps_for PassesOwn.never rfl (pi_list (pe_slice sl_list (pv 0) po_none (po_some pe_int))) (pg_name (i := 3) sc_seed.nd rfl (.inl rfl))
      (pss_one (ps_asg (pe_op op_mod (pe_callTy call_int1 (by rfl) T.int (by decide +kernel) (pa_cons (pe_op op_add (pe_op op_mul (pv 2) pe_int) (pv 3)) pa_nil)) pe_int) (pg_name (i := 2) sc_seed.nd rfl (.inl rfl)))))
      (pss_one (ps_ret (pv 2)))))), ?_⟩
    refine ⟨_, rfl, _, rfl, _, _, rfl, .inl hS, _, _, rfl, rfl, _, rfl, ?_⟩
    refine ite2 (fun hc => ?_) (fun hc => ?_)
    · have hlt : k < ns.length := by simpa using hc
      obtain ⟨j, rfl⟩ := Int.eq_ofNat_of_zero_le k0
      have hj : j < ns.length := by omega
      have hat : (ns.map V.int)[j]? = some (.int ns[j]) := by simp [hj]
      exact ⟨_, rfl, _, rfl, _, _, _, _, rfl, rfl, hS, atI_nat hat, ret _ _ (Same.refl H) (bits _ (List.getElem_mem _))⟩
    · refine ⟨_, rfl, _, _, rfl, rfl, .inl ⟨by decide, by decide⟩, _, rfl, _, _, rfl, rfl, .inr ⟨by omega, by omega⟩, _, _, rfl, rfl, _, rfl, _, rfl, _, _, rfl, hS, fun p hp => ?_⟩
      refine ⟨p, rfl, ⟨_, SqL.of upd_same⟩, for_list (K := K) (a := p) (xs := cutV (ns.map V.int) none (some 4)) (fun i σ' H' => ∃ (z : Int) (v : Option V), σ' = [some (.ref a), some (.int k), some (.int z), v] ∧
        H' = upd H p (.lst (cutV (ns.map V.int) none (some 4))) ∧ 0 ≤ z ∧ z < 2 ^ 50) ⟨_, none, rfl, rfl, ?_, ?_⟩ ?_ ?_ ?_⟩
      · have q : 0 ≤ k * k := Int.mul_nonneg k0 k0
        show 0 ≤ 7919 + 104729 * k * k
        rw [Int.mul_assoc]
        omega
      · have q : k * k ≤ 1000 * 1000 := Int.mul_le_mul (by omega) (by omega) k0 (by decide)
        show 7919 + 104729 * k * k < 2 ^ 50
        rw [Int.mul_assoc]
        omega
      · rintro i σ' H' _ ⟨z, v, _, rfl, _⟩
        exact SqL.of upd_same
      · rintro i x σ' H' hx ⟨z, v, rfl, rfl, _, _⟩
        have hm : x ∈ ns.map V.int := by
          have q := List.mem_of_getElem? hx
          exact List.mem_of_mem_drop (List.mem_of_mem_take q)
        obtain ⟨n, _, rfl⟩ := List.mem_map.mp hm
        refine ⟨_, rfl, _, _, rfl, rfl, .inr ⟨by decide, by decide⟩, _, rfl, _, _, rfl, rfl, .inl ⟨_, rfl, _, _, rfl, rfl, (by show (0 : Int) < _; decide), ?_⟩⟩
        refine ⟨_, _, rfl, rfl, ?_, ?_⟩
        · exact Int.emod_nonneg _ (by decide)
        · have q := Int.emod_lt_of_pos (z * 52711 + n) (b := 2147483563) (by decide)
          show (z * 52711 + n) % 2147483563 < 2 ^ 50
          omega
      · rintro σ' H' ⟨z, v, rfl, rfl, z0, z1⟩
        refine ⟨_, rfl, ret _ _ (same_new hp) (bits_small ?_)⟩
        have : z.natAbs < 2 ^ 50 := by omega
        exact Nat.lt_trans this (Nat.pow_lt_pow_right (by decide) (by decide))
end L

namespace Hv
open PySem L2
abbrev text (n : Nat) : Str := Str.ofString (toString ((n : Nat) : Int))
def numOf (z : Str) (most : Nat) : Option Nat := (List.range (most + 1)).find? fun n => decide (text n = z)
def numV : Option Nat → V
  | some n => .int (n : Int)
  | none => .non
theorem text_int : ∀ n < 13, intText? (text n) = some (n : Int) := by decide +kernel
theorem text_len : ∀ m < 13, ∀ n < m + 1, 1 ≤ (text n).length ∧ (text n).length ≤ (text m).length := by decide +kernel
theorem text_digits : ∀ n < 13, ∀ c ∈ (text n).cps.toList, c ∈ (Str.ofString "0123456789").cps.toList := by decide +kernel
theorem text_short : ∀ m < 13, (text m).length ≤ 2 := by decide +kernel
theorem digits_in : ∀ c ∈ (Str.ofString "0123456789").cps.toList, 48 ≤ c ∧ c ≤ 57 := by decide +kernel
theorem numOf_some {z : Str} {m n : Nat} (h : numOf z m = some n) : n ≤ m ∧ text n = z := by
  unfold numOf at h
  have h1 := List.mem_of_find?_eq_some h
  have h2 := List.find?_some h
  exact ⟨by have := List.mem_range.mp h1; omega, of_decide_eq_true h2⟩
theorem numOf_of {z : Str} {m n : Nat} (hm : m ≤ 12) (hn : n ≤ m) (e : text n = z) : numOf z m = some n := by
  cases q : numOf z m with
  | none =>
    unfold numOf at q
    have := (List.find?_eq_none.mp q) n (List.mem_range.mpr (by omega))
    exact absurd (decide_eq_true e) this
  | some k =>
    obtain ⟨h1, h2⟩ := numOf_some q
    have a := text_int n (by omega)
    have b := text_int k (by omega)
    rw [e] at a
    rw [h2, a] at b
    have := Option.some.inj b
    rw [Int.ofNat.inj this]
theorem numOf_none {z : Str} {m : Nat} (h : ∀ n, n ≤ m → text n ≠ z) : numOf z m = none := by
  cases q : numOf z m with
  | none => rfl
  | some k => exact absurd (numOf_some q).2 (h k (numOf_some q).1)
/-- the signs are all digits: the text is a number's -/
theorem all_digits {z : Str} (h1 : 1 ≤ z.length) (h2 : z.length ≤ 2) (h : ∀ c ∈ z.cps.toList, c ∈ (Str.ofString "0123456789").cps.toList) : ∃ n : Nat, intText? z = some (n : Int) := by
  have e : z = SX.S z.cps.toList := by
    cases z
    rfl
  refine ⟨NumText.digitsVal z.cps.toList, ?_⟩
  rw [e]
  refine SX.int_S ?_ ?_ ?_
  · rw [List.all_eq_true]
    intro c hc
    have := digits_in c (h c (by simpa using hc))
    rw [Bool.and_eq_true, decide_eq_true_eq, decide_eq_true_eq]
    exact this
  · intro q
    have : z.cps.toList.length = 0 := by rw [q]; rfl
    have l : z.length = z.cps.toList.length := by
      show z.cps.size = _
      simp
    omega
  · have l : z.length = z.cps.toList.length := by
      show z.cps.size = _
      simp
    omega

abbrev MARK : Str := Str.ofString "over "
abbrev SLASH : Str := Str.ofString "/"
def isOver (z : Str) : Bool := Txt.startswith z MARK
def fracOf (z : Str) : Option (Nat × Nat) :=
  match Txt.split (Txt.removeprefix z MARK) SLASH with
  | [a, b] =>
    match numOf a 12, numOf b 12 with
    | some p, some q => if q < 1 ∨ 1 < Nat.gcd p q then none else if p + (if isOver z then 1 else 0) ≤ q then some (p, q) else none
    | _, _ => none
  | _ => none
theorem fracOf_le {z : Str} {p q : Nat} (h : fracOf z = some (p, q)) : p ≤ 12 ∧ q ≤ 12 ∧ 1 ≤ q ∧ p ≤ q ∧ Nat.gcd p q = 1 := by
  unfold fracOf at h
  split at h
  · rename_i a b _
    cases e1 : numOf a 12 with
    | none => rw [e1] at h; cases h
    | some p1 =>
      cases e2 : numOf b 12 with
      | none => rw [e1, e2] at h; cases h
      | some q1 =>
        rw [e1, e2] at h
        dsimp only at h
        have l1 := (numOf_some e1).1
        have l2 := (numOf_some e2).1
        by_cases c : q1 < 1 ∨ 1 < Nat.gcd p1 q1
        · rw [if_pos c] at h; cases h
        · rw [if_neg c] at h
          by_cases d : p1 + (if isOver z = true then 1 else 0) ≤ q1
          · rw [if_pos d] at h
            cases h
            have g : 0 < Nat.gcd p q := Nat.gcd_pos_of_pos_right _ (by omega)
            refine ⟨l1, l2, by omega, by omega, by omega⟩
          · rw [if_neg d] at h; cases h
  · cases h
/-- what fraction_of asks of a text's length -/
structure TextOk (z : Str) : Prop where
  own : z.length + 2 ≤ sizeLine
  cut : (Txt.removeprefix z MARK).length + 2 ≤ sizeLine
  part : ∀ p ∈ Txt.split (Txt.removeprefix z MARK) SLASH, p.length ≤ sizeLine
/-- whether p of w meet the bound z, which is a / b -/
def met (z : Str) (a b : Nat) (p w : Int) : Bool := if isOver z then decide (w * a < p * b) else decide (w * a ≤ p * b)

theorem fracOf_len {z : Str} (h : (Txt.split (Txt.removeprefix z MARK) SLASH).length ≠ 2) : fracOf z = none := by
  unfold fracOf
  split
  · rename_i e
    rw [e] at h
    exact absurd rfl h
  · rfl
theorem fracOf_two {z a b : Str} (e : Txt.split (Txt.removeprefix z MARK) SLASH = [a, b]) : fracOf z = match numOf a 12, numOf b 12 with
    | some p, some q => if q < 1 ∨ 1 < Nat.gcd p q then none else if p + (if isOver z then 1 else 0) ≤ q then some (p, q) else none
    | _, _ => none := by
  unfold fracOf
  rw [e]
theorem two_of {l : List Str} (h : l.length = 2) : ∃ a b, l = [a, b] := by
  match l, h with
  | [a, b], _ => exact ⟨a, b, rfl⟩
/-! promises -/
def sp_is_integer (K : PySem.W.Frag) : Sp := fun vs H Q _ => ∃ (v : V) (t : Value) (b1 b2 : Bool), vs = [v] ∧ TyX K H v t ∧ PySem.W.kitOne K t (.type "int") = some b1 ∧
  PySem.W.kitOne K t (.type "bool") = some b2 ∧ Q (.bl (b1 && !b2)) H
def sp_gcd : Sp := fun vs H Q _ => ∃ (a b : Nat), vs = [.int a, .int b] ∧ Q (.int (Nat.gcd a b : Nat)) H
def sp_number_of : Sp := fun vs H Q _ => ∃ (z : Str) (m : Nat), vs = [.str z, .int m] ∧ z.length ≤ sizeLine ∧ m ≤ 12 ∧ ∀ H', Same H H' → Q (numV (numOf z m)) H'
/-- of a text, or of another value -/
def sp_fraction_of (K : PySem.W.Frag) : Sp := fun vs H Q _ =>
  (∃ z : Str, vs = [.str z] ∧ TextOk z ∧ (fracOf z = none → ∀ H', Same H H' → Q .non H') ∧
    ∀ a b, fracOf z = some (a, b) → ∀ p H', H p = none → Same H H' → H' p = some (.tup [.int (a : Int), .int (b : Int)]) → Q (.ref p) H') ∨
  ∃ (v : V) (t : Value), vs = [v] ∧ TyX K H v t ∧ PySem.W.kitOne K t (.type "str") = some false ∧ Q .non H
def sp_is_bound (K : PySem.W.Frag) : Sp := fun vs H Q _ =>
  (∃ z : Str, vs = [.str z] ∧ TextOk z ∧ ∀ H', Same H H' → Q (.bl (fracOf z).isSome) H') ∨
  ∃ (v : V) (t : Value), vs = [v] ∧ TyX K H v t ∧ PySem.W.kitOne K t (.type "str") = some false ∧ Q (.bl false) H
def sp_bound_met : Sp := fun vs H Q _ => ∃ (z : Str) (a b : Nat) (p w : Int), vs = [.str z, .int p, .int w] ∧ TextOk z ∧ fracOf z = some (a, b) ∧ ∀ H', Same H H' → Q (.bl (met z a b p w)) H'
end Hv
namespace L
open PySem L2 Hv
variable {P : Program} {w : World} {K : PySem.W.Frag} {mg : Str → Option Value} {base : Heap}
abbrev s_is_integer : Stmt := top 38
abbrev N_is_integer : List Str := ["value"]
abbrev P_is_integer : List Str := ["value"]
theorem sc_is_integer : FnScope N_is_integer P_is_integer (defScope s_is_integer) := ⟨rfl, rfl, rfl, by decide +kernel, rfl, by decide +kernel, by decide +kernel⟩
theorem ok_is_integer {f : Addr} {fd : FuncData} (D : DefAt K mg "is_integer" s_is_integer P_is_integer f fd) (T : Txt K mg) : FnOk P w K mg base CX0 1 f fd P_is_integer (sp_is_integer K) := by
  refine D.fn.ok sc_is_integer (fun vs H Q E h => ?_) (fun cdv A outer s H vs Q E hr h => ?_)
  · obtain ⟨v, t, b1, b2, rfl, _⟩ := h
    rfl
  · obtain ⟨v, t, b1, b2, rfl, ty, k1, k2, ret⟩ := h
    refine ⟨_, (pss_one (ps_ret (pe_and (pe_callB call_isi (by rfl) T.isinstance (by decide +kernel) (pa_cons (pv 0) (pa_cons (pe_bltn (v := .ty "int") (u := .type "int") (by rfl) T.int (by decide +kernel) rfl) pa_nil))) (pe_one (pe_not (pe_callB call_isi (by rfl) T.isinstance (by decide +kernel) (pa_cons (pv 0) (pa_cons (pe_bltn (v := .ty "bool") (u := .type "bool") (by rfl) T.bool (by decide +kernel) rfl) pa_nil)))))))), ?_⟩
    refine ⟨_, rfl, _, _, _, _, _, rfl, .ty _, ty, k1, _, rfl, ?_⟩
    cases b1 with
    | true => exact iteT ⟨_, rfl, _, _, _, _, _, rfl, .ty _, ty, k2, _, rfl, ret⟩
    | false => exact iteF ret
abbrev s_common_divisor : Stmt := top 39
abbrev N_common_divisor : List Str := ["one", "other"]
abbrev P_common_divisor : List Str := ["one", "other"]
theorem sc_common_divisor : FnScope N_common_divisor P_common_divisor (defScope s_common_divisor) := ⟨rfl, rfl, rfl, by decide +kernel, rfl, by decide +kernel, by decide +kernel⟩
theorem ok_common_divisor {f : Addr} {fd : FuncData} (D : DefAt K mg "common_divisor" s_common_divisor P_common_divisor f fd) (T : Txt K mg) : FnOk P w K mg base CX0 1 f fd P_common_divisor sp_gcd := by
  refine D.fn.ok sc_common_divisor (fun vs H Q E h => ?_) (fun cdv A outer s H vs Q E hr h => ?_)
  · obtain ⟨a, b, rfl, _⟩ := h
    rfl
  · obtain ⟨a, b, rfl, ret⟩ := h
    refine ⟨_, (pss_cons (ps_while PassesOwn.never (pt_cmpR op_gt (pv 1) pe_int (nomark _))
      (pss_one (ps_par (i := 0) (j := 1) (by rfl) sc_common_divisor.nd rfl rfl (by decide) rfl rfl (pa_cons (pv 1) (pa_cons (pe_op op_mod (pe_callTy call_int1 (by rfl) T.int (by decide +kernel) (pa_cons (pv 0) pa_nil)) (pv 1)) pa_nil)) (by rfl))))
      (pss_one (ps_ret (pv 0)))), ?_⟩
    refine ⟨fun m σ' H' => ∃ x y : Nat, σ' = [some (.int (x : Int)), some (.int (y : Int))] ∧ Nat.gcd x y = Nat.gcd a b ∧ m = y ∧ H' = H, ⟨b, a, b, rfl, rfl, rfl, rfl⟩, ?_⟩
    rintro m σ' H' ⟨x, y, rfl, e, rfl, rfl⟩
    refine ⟨_, rfl, _, _, rfl, rfl, _, rfl, ?_⟩
    refine ite2 (fun hc => ?_) (fun hc => ?_)
    · have hy : 0 < m := by have := of_decide_eq_true hc; omega
      refine ⟨fun σ2 H2 => σ2 = [some (.int (m : Int)), some (.int ((x % m : Nat) : Int))] ∧ H2 = H', ?_, ?_⟩
      · rintro σ2 H2 ⟨rfl, rfl⟩
        refine ⟨x % m, Nat.mod_lt _ hy, m, x % m, rfl, ?_, rfl, rfl⟩
        rw [Nat.gcd_comm, ← Nat.gcd_rec, Nat.gcd_comm, e]
      · refine ⟨_, rfl, _, rfl, .inl ⟨_, rfl, _, rfl, _, _, rfl, rfl, ?_, _, _, rfl, ?_, rfl⟩⟩
        · show (0 : Int) < m
          omega
        · rfl
    · have hy : m = 0 := by
        have : ¬ (0 : Int) < (m : Int) := fun q => hc (decide_eq_true q)
        omega
      subst hy
      refine ⟨_, rfl, ?_⟩
      rw [Nat.gcd_zero_right] at e
      rw [e]
      exact ret
abbrev s_number_of : Stmt := top 40
abbrev N_number_of : List Str := ["word", "most", "number", "sign"]
abbrev P_number_of : List Str := ["word", "most"]
theorem sc_number_of : FnScope N_number_of P_number_of (defScope s_number_of) := ⟨rfl, rfl, rfl, by decide +kernel, rfl, by decide +kernel, by decide +kernel⟩
theorem ok_number_of {f : Addr} {fd : FuncData} (D : DefAt K mg "number_of" s_number_of P_number_of f fd) (T : Txt K mg) : FnOk P w K mg base CX0 1 f fd P_number_of sp_number_of := by
  refine D.fn.ok sc_number_of (fun vs H Q E h => ?_) (fun cdv A outer s H vs Q E hr h => ?_)
  · obtain ⟨z, m, rfl, _⟩ := h
    rfl
  · obtain ⟨z, m, rfl, hz, hm, ret⟩ := h
    refine ⟨_, (pss_cons (ps_if (PW.pt (pw_or (pt_not (pt_chain op_le op_le pe_int (pe_callB call_len_str (by rfl) T.len (by decide +kernel) (pa_cons (pv 0) pa_nil)) (pe_callB call_len_str (by rfl) T.len (by decide +kernel) (pa_cons (pe_callTy call_str_int (by rfl) T.str (by decide +kernel) (pa_cons (pv 1) pa_nil)) pa_nil)))) (pw_or1 (pt_val (pe_callB (cr_any rfl) (by rfl) T.any (by decide +kernel) (pa_cons (pe_lc (own := [("sign", 3)]) (g := gName 3) rfl sc_number_of.nd (pi_str (pv 0)) (blkOk_by (own := [("sign", 3)]) (N := N_number_of) (sc := defScope s_number_of) (by decide +kernel)) (fun _ _ _ _ _ => (pg_name (i := 3) sc_number_of.nd rfl (.inl rfl))) (fun _ _ _ _ _ => pts_nil) (fun _ _ _ _ _ => (pe_cmpR op_notIn_sign (pv 3) (pe_glob (v := .str "0123456789") rfl T.cDIGITS.choose_spec ⟨_, rfl⟩) (by rfl)))) pa_nil))))))
      (pss_one (ps_ret pe_non))
      pss_nil)
      (pss_cons (ps_asg (pe_callTy call_int_str (by rfl) T.int (by decide +kernel) (pa_cons (pv 0) pa_nil)) (pg_name (i := 2) sc_number_of.nd rfl (.inl rfl)))
      (pss_one (ps_ret (pe_ifExp (PW.pt (pw_and (pt_cmpR op_le (pv 2) (pv 1) (nomark _)) (pw_and1 (pt_cmpR op_eq (pe_callTy call_str_int (by rfl) T.str (by decide +kernel) (pa_cons (pv 2) pa_nil)) (pv 0) (nomark _))))) (pv 2) pe_non))))), ?_⟩
    have none_ : numOf z m = none → ∀ H', Same H H' → Q .non H' := fun e H' s => by
      have q := ret H' s
      rw [e] at q
      exact q
    refine ⟨_, rfl, _, rfl, hz, _, _, rfl, rfl, _, rfl, ?_⟩
    refine ite2 (fun hc => ?_) (fun hc => ?_)
    · have c1 : (1 : Int) ≤ z.length := of_decide_eq_true hc
      have lg : (m : Int).natAbs.log2 < 1920 := Nat.lt_of_le_of_lt (log2_mono (show (m : Int).natAbs ≤ 12 by omega)) (by decide)
      refine ⟨_, rfl, _, rfl, lg, _, rfl, ?_, _, _, rfl, rfl, _, rfl, ?_⟩
      · exact Nat.le_trans (text_short m (by omega)) (by decide)
      refine ite2 (fun hc2 => ?_) (fun hc2 => ?_)
      · -- the length does not fit
        refine none_ (numOf_none fun n hn e => ?_) _ (Same.refl H)
        have l := (text_len m (by omega) n (by omega)).2
        rw [e] at l
        have : ¬ ((z.length : Int) ≤ ((text m).length : Int)) := nT hc2
        omega
      · have c2 : (z.length : Int) ≤ ((text m).length : Int) := nF hc2
        have c3 := text_short m (by omega)
        refine ⟨_, rfl, _, rfl, fun L hL => ?_⟩
        refine lc_it walk_str (fun i H' => H' = upd H L (.lst ((z.cps.toList.take i).map fun c => V.bl (!decide (c ∈ (Str.ofString "0123456789").cps.toList))))) ?_ (fun _ _ _ _ => trivial) ?_ ?_
        · rfl
        · rintro i x H1 H2 hi rfl ⟨rfl, c, hc, rfl⟩
          refine ⟨rfl, _, rfl, c, _, rfl, rfl, _, upd_same, ?_, ?_⟩
          · rw [List.length_map, List.length_take]
            have : z.cps.toList.length = z.length := by
              show _ = z.cps.size
              simp
            have s2 : 2 < sizeLine := by decide
            omega
          · rw [upd_upd, List.take_succ]
            have e : z.cps.toList[i]? = some c := by simpa using hc
            rw [e, List.map_append]
            rfl
        · rintro H1 rfl
          have e : List.take z.cps.size z.cps.toList = z.cps.toList := List.take_of_length_le (by simp)
          rw [e]
          refine ⟨_, z.cps.toList.map fun c => !decide (c ∈ (Str.ofString "0123456789").cps.toList), rfl, SqL.of (by rw [upd_same, List.map_map]; rfl), _, rfl, ?_⟩
          refine ite2 (fun ha => ?_) (fun ha => ?_)
          · refine none_ (numOf_none fun n hn q => ?_) _ (same_new hL)
            rw [List.any_map, List.any_eq_true] at ha
            obtain ⟨c, hc, hd⟩ := ha
            have := text_digits n (by omega) c (by rw [q]; exact hc)
            exact nT (p := c ∈ (Str.ofString "0123456789").cps.toList) hd this
          · have dg : ∀ c ∈ z.cps.toList, c ∈ (Str.ofString "0123456789").cps.toList := by
              intro c hc
              by_cases q : c ∈ (Str.ofString "0123456789").cps.toList
              · exact q
              · exfalso
                apply ha
                rw [List.any_map, List.any_eq_true]
                exact ⟨c, hc, by show (!decide (c ∈ (Str.ofString "0123456789").cps.toList)) = true; rw [decide_eq_false q]; rfl⟩
            obtain ⟨n, hn⟩ := all_digits (by omega) (by omega) dg
            refine ⟨_, rfl, _, _, rfl, hn, by omega, _, rfl, _, rfl, _, _, rfl, rfl, _, rfl, ?_⟩
            have no : ¬ (n ≤ m ∧ text n = z) → numOf z m = none := fun q => numOf_none fun k hk e => q (by
              have a := text_int k (by omega)
              rw [e, hn] at a
              have b : n = k := by have := Option.some.inj a; omega
              rw [b]
              exact ⟨hk, e⟩)
            refine ite2 (fun h1 => ?_) (fun h1 => ?_)
            · have h1' : n ≤ m := by have := of_decide_eq_true h1; omega
              have lg : (n : Int).natAbs.log2 < 1920 := Nat.lt_of_le_of_lt (log2_mono (show (n : Int).natAbs ≤ 12 by omega)) (by decide)
              refine ⟨_, rfl, _, rfl, lg, _, rfl, rfl, _, rfl, ?_⟩
              refine ite2 (fun h2 => ?_) (fun h2 => ?_)
              · have h2' : text n = z := V.str.inj (of_decide_eq_true h2)
                refine ⟨_, rfl, ?_⟩
                have q := ret _ (same_new (o := .lst (z.cps.toList.map fun c => V.bl (!decide (c ∈ (Str.ofString "0123456789").cps.toList)))) hL)
                rw [numOf_of hm h1' h2'] at q
                exact q
              · refine none_ (no fun q => h2 (decide_eq_true ?_)) _ (same_new hL)
                rw [← q.2]
            · refine iteF (none_ (no fun q => h1 (decide_eq_true ?_)) _ (same_new hL))
              have := q.1
              omega
    · refine ⟨_, rfl, iteT (none_ (numOf_none fun n hn e => ?_) _ (Same.refl H))⟩
      have l := (text_len m (by omega) n (by omega)).1
      rw [e] at l
      have : ¬ ((1 : Int) ≤ (z.length : Int)) := dF hc
      omega
abbrev s_fraction_of : Stmt := top 43
abbrev N_fraction_of : List Str := ["bound", "words", "part", "whole"]
abbrev P_fraction_of : List Str := ["bound"]
theorem sc_fraction_of : FnScope N_fraction_of P_fraction_of (defScope s_fraction_of) := ⟨rfl, rfl, rfl, by decide +kernel, rfl, by decide +kernel, by decide +kernel⟩
theorem ok_fraction_of {f f1 f2 : Addr} {fd fd1 fd2 : FuncData} (D : DefAt K mg "fraction_of" s_fraction_of P_fraction_of f fd) (T : Txt K mg)
    (D_number_of : DefAt K mg "number_of" s_number_of P_number_of f1 fd1) (D_common_divisor : DefAt K mg "common_divisor" s_common_divisor P_common_divisor f2 fd2) :
    FnOk P w K mg base CX0 2 f fd P_fraction_of (sp_fraction_of K) := by
  have G_number_of : FnOk P w K mg base CX0 1 f1 fd1 P_number_of sp_number_of := ok_number_of D_number_of T
  have G_common_divisor : FnOk P w K mg base CX0 1 f2 fd2 P_common_divisor sp_gcd := ok_common_divisor D_common_divisor T
  refine D.fn.ok sc_fraction_of (fun vs H Q E h => ?_) (fun cdv A outer s H vs Q E hr h => ?_)
  · rcases h with ⟨z, rfl, _⟩ | ⟨v, t, rfl, _⟩ <;> rfl
  · refine ⟨_, (pss_cons (ps_if (pt_not (pt_val (pe_callB call_isi (by rfl) T.isinstance (by decide +kernel) (pa_cons (pv 0) (pa_cons (pe_bltn (v := .ty "str") (u := .type "str") (by rfl) T.str (by decide +kernel) rfl) pa_nil)))))
      (pss_one (ps_ret pe_non))
      pss_nil)
      (pss_cons (ps_asg (pe_split (pe_bm PySem.F.plainAttrs_str PySem.F.slot_str_removeprefix PySem.F.type_str_removeprefix mt_removeprefix (pv 0) (pa_cons (pe_glob (v := .str "over ") rfl T.cMARK.choose_spec ⟨_, rfl⟩) pa_nil)) pe_str) (pg_name (i := 1) sc_fraction_of.nd rfl (.inl rfl)))
      (pss_cons (ps_if (pt_cmpR op_ne (pe_callB call_len_seq (by rfl) T.len (by decide +kernel) (pa_cons (pv 1) pa_nil)) pe_int (nomark _))
      (pss_one (ps_ret pe_non))
      pss_nil)
      (pss_cons (ps_par (i := 2) (j := 3) (by rfl) sc_fraction_of.nd rfl rfl (by decide) rfl rfl (pa_cons (pe_call G_number_of (hr.mono (by decide)) rfl D_number_of.mg D_number_of.fn.kp D_number_of.bd .nil pass0 (pa_cons (pe_ix ix_list (pv 1) pe_int (fun _ _ => rfl)) (pa_cons (pe_glob (v := .int 12) rfl T.cMOST_PART.choose_spec ⟨_, rfl⟩) pa_nil))) (pa_cons (pe_call G_number_of (hr.mono (by decide)) rfl D_number_of.mg D_number_of.fn.kp D_number_of.bd .nil pass0 (pa_cons (pe_ix ix_list (pv 1) pe_int (fun _ _ => rfl)) (pa_cons (pe_glob (v := .int 12) rfl T.cMOST_PART.choose_spec ⟨_, rfl⟩) pa_nil))) pa_nil)) (by rfl))
      (pss_cons (ps_if (PW.pt (pw_or (pt_cmpR op_isN (pv 2) pe_non (nomark _)) (pw_or (pt_cmpR op_isN (pv 3) pe_non (nomark _)) (pw_or (pt_cmpR op_lt (pv 3) pe_int (nomark _)) (pw_or1 (pt_cmpR op_gt (pe_call G_common_divisor (hr.mono (by decide)) rfl D_common_divisor.mg D_common_divisor.fn.kp D_common_divisor.bd .nil pass0 (pa_cons (pv 2) (pa_cons (pv 3) pa_nil))) pe_int (nomark _)))))))
      (pss_one (ps_ret pe_non))
      pss_nil)
      (pss_one (ps_ret (pe_ifExp (pt_cmpR op_le (pe_op op_add (pv 2) (pe_ifExp (pt_val (pe_m1 PySem.F.slot_str_startswith PySem.F.type_str_startswith mt_startswith (pv 0) (pe_glob (v := .str "over ") rfl T.cMARK.choose_spec ⟨_, rfl⟩))) pe_int pe_int)) (pv 3) (nomark _)) (pe_tup (pa_cons (pv 2) (pa_cons (pv 3) pa_nil))) pe_non)))))))), ?_⟩
    rcases h with ⟨z, rfl, ok, rn, rs⟩ | ⟨v, t, rfl, ty, kit, ret⟩
    · refine ⟨_, rfl, _, _, _, _, _, rfl, .ty _, .base (.str z), kit_ty (r := true) (by decide +kernel), _, rfl, ?_⟩
      refine ⟨_, rfl, rfl, _, _, rfl, rfl, by have := ok.own; omega, ⟨_, rfl⟩, _, _, rfl, rfl, by decide, ok.cut, fun p hp => ?_⟩
      have hL := upd_same (H := H) (a := p) (o := .lst ((Txt.split (Txt.removeprefix z MARK) SLASH).map V.str))
      have sm : Same H (upd H p (.lst ((Txt.split (Txt.removeprefix z MARK) SLASH).map V.str))) := same_new hp
      refine ⟨_, rfl, _, _, rfl, .inl (SqL.of hL), rfl, _, rfl, ?_⟩
      refine ite2 (fun hc => ?_) (fun hc => ?_)
      · refine rn (fracOf_len fun q => nT hc ?_) _ sm
        rw [List.length_map, q]
        rfl
      · have l2 : (Txt.split (Txt.removeprefix z MARK) SLASH).length = 2 := by
          have := V.int.inj (nF hc)
          rw [List.length_map] at this
          omega
        obtain ⟨a, b, e⟩ := two_of l2
        have la : a.length ≤ sizeLine := ok.part a (by rw [e]; simp)
        have lb : b.length ≤ sizeLine := ok.part b (by rw [e]; simp)
        rw [e] at hL sm ⊢
        have fe := fracOf_two e
        refine ⟨_, rfl, _, _, _, _, rfl, rfl, SqL.of hL, rfl, a, 12, rfl, la, by decide, fun H1 s1 => ?_⟩
        refine ⟨_, rfl, _, _, _, _, rfl, rfl, SqL.of (s1 _ _ hL), rfl, b, 12, rfl, lb, by decide, fun H2 s2 => ⟨_, _, rfl, ?_⟩⟩
        have sm2 : Same H H2 := (sm.trans s1).trans s2
        cases e1 : numOf a 12 with
        | none =>
          rw [e1] at fe
          refine ⟨_, rfl, rfl, _, rfl, ?_⟩
          exact ifT rfl (rn fe _ sm2)
        | some x =>
          cases e2 : numOf b 12 with
          | none =>
            rw [e1, e2] at fe
            refine ⟨_, rfl, rfl, _, rfl, ?_⟩
            refine ifF (fun q => by cases q) ⟨_, rfl, rfl, _, rfl, ?_⟩
            exact ifT rfl (rn fe _ sm2)
          | some y =>
            rw [e1, e2] at fe
            dsimp only at fe
            refine ⟨_, rfl, rfl, _, rfl, ?_⟩
            refine ifF (fun q => by cases q) ⟨_, rfl, rfl, _, rfl, ?_⟩
            refine ifF (fun q => by cases q) ⟨_, rfl, _, _, rfl, rfl, _, rfl, ?_⟩
            by_cases y1 : y < 1
            · refine ifT (by omega) (rn ?_ _ sm2)
              rw [fe, if_pos (.inl y1)]
            · refine ifF (by omega) ⟨_, rfl, _, rfl, x, y, rfl, _, _, rfl, rfl, _, rfl, ?_⟩
              by_cases g : 1 < Nat.gcd x y
              · refine ifT (by omega) (rn ?_ _ sm2)
                rw [fe, if_pos (.inr g)]
              · refine ifF (by omega) ⟨_, rfl, _, rfl, ⟨_, rfl⟩, _, _, rfl, rfl, _, rfl, ?_⟩
                rw [if_neg (by omega)] at fe
                have fin : ∀ k : Nat, k = (if isOver z = true then 1 else 0) → ∀ i : Int, i = k → (if decide ((x : Int) + i ≤ (y : Int)) = true then
                    tTup (tCons (tVar 2) (tCons (tVar 3) tNil)) [some (V.str z), some (V.ref p), some (V.int (x : Int)), some (V.int (y : Int))] H2 Q
                    else Q .non H2) := by
                  intro k hk i hi
                  by_cases c : x + k ≤ y
                  · refine ifT (by omega) ⟨_, rfl, _, rfl, by show 2 ≤ sizeLine; decide, fun t ht => ?_⟩
                    rw [← hk, if_pos c] at fe
                    exact rs x y fe t _ (sm2.free ht) (sm2.trans (same_new ht)) upd_same
                  · refine ifF (by omega) (rn ?_ _ sm2)
                    rw [fe, ← hk, if_neg c]
                cases ov : isOver z with
                | true =>
                  have ov' : Txt.startswith z MARK = true := ov
                  rw [ov']
                  exact ⟨_, _, rfl, rfl, _, rfl, _, _, rfl, rfl, _, rfl, fin 1 (by rw [ov]; rfl) 1 rfl⟩
                | false =>
                  have ov' : Txt.startswith z MARK = false := ov
                  rw [ov']
                  exact ⟨_, _, rfl, rfl, _, rfl, _, _, rfl, rfl, _, rfl, fin 0 (by rw [ov]; rfl) 0 rfl⟩
    · exact ⟨_, rfl, _, _, _, _, _, rfl, .ty _, ty, kit, _, rfl, ret⟩
abbrev s_is_bound : Stmt := top 44
abbrev N_is_bound : List Str := ["value"]
abbrev P_is_bound : List Str := ["value"]
theorem sc_is_bound : FnScope N_is_bound P_is_bound (defScope s_is_bound) := ⟨rfl, rfl, rfl, by decide +kernel, rfl, by decide +kernel, by decide +kernel⟩
theorem ok_is_bound {f f1 : Addr} {fd fd1 : FuncData} (D : DefAt K mg "is_bound" s_is_bound P_is_bound f fd) (D_fraction_of : DefAt K mg "fraction_of" s_fraction_of P_fraction_of f1 fd1)
    (G_fraction_of : FnOk P w K mg base CX0 2 f1 fd1 P_fraction_of (sp_fraction_of K)) : FnOk P w K mg base CX0 3 f fd P_is_bound (sp_is_bound K) := by
  refine D.fn.ok sc_is_bound (fun vs H Q E h => ?_) (fun cdv A outer s H vs Q E hr h => ?_)
  · rcases h with ⟨z, rfl, _⟩ | ⟨v, t, rfl, _⟩ <;> rfl
  · refine ⟨_, (pss_one (ps_ret (pe_cmpR op_notN (pe_call G_fraction_of (hr.mono (by decide)) rfl D_fraction_of.mg D_fraction_of.fn.kp D_fraction_of.bd .nil pass0 (pa_cons (pv 0) pa_nil)) pe_non (nomark _)))), ?_⟩
    rcases h with ⟨z, rfl, ok, ret⟩ | ⟨v, t, rfl, ty, kit, ret⟩
    · refine ⟨_, rfl, .inl ⟨z, rfl, ok, fun e H' sm => ?_, fun a b e p H' hp sm h' => ?_⟩⟩
      · have q := ret H' sm
        rw [e] at q
        exact ⟨rfl, q⟩
      · have q := ret H' sm
        rw [e] at q
        exact ⟨rfl, q⟩
    · exact ⟨_, rfl, .inr ⟨v, t, rfl, ty, kit, rfl, ret⟩⟩
end L

namespace L
open PySem L2 Hv
variable {P : Program} {w : World} {K : PySem.W.Frag} {mg : Str → Option Value} {base : Heap}
abbrev s_bound_met : Stmt := top 45
abbrev N_bound_met : List Str := ["bound", "part", "whole", "over", "under"]
abbrev P_bound_met : List Str := ["bound", "part", "whole"]
theorem sc_bound_met : FnScope N_bound_met P_bound_met (defScope s_bound_met) := ⟨rfl, rfl, rfl, by decide +kernel, rfl, by decide +kernel, by decide +kernel⟩
theorem ok_bound_met {f f1 : Addr} {fd fd1 : FuncData} (D : DefAt K mg "bound_met" s_bound_met P_bound_met f fd) (T : Txt K mg) (D_fraction_of : DefAt K mg "fraction_of" s_fraction_of P_fraction_of f1 fd1)
    (G_fraction_of : FnOk P w K mg base CX0 2 f1 fd1 P_fraction_of (sp_fraction_of K)) : FnOk P w K mg base CX0 3 f fd P_bound_met sp_bound_met := by
  refine D.fn.ok sc_bound_met (fun vs H Q E h => ?_) (fun cdv A outer s H vs Q E hr h => ?_)
  · obtain ⟨z, a, b, p, w, rfl, _⟩ := h
    rfl
  · obtain ⟨z, a, b, p, w, rfl, ok, fe, ret⟩ := h
    obtain ⟨a12, b12, _, _, _⟩ := fracOf_le fe
    refine ⟨_, (pss_cons (ps_asg (pe_call G_fraction_of (hr.mono (by decide)) rfl D_fraction_of.mg D_fraction_of.fn.kp D_fraction_of.bd .nil pass0 (pa_cons (pv 0) pa_nil)) (pg_tup (by rfl) (pgs_cons (pg_name (i := 3) sc_bound_met.nd rfl (.inl rfl)) (pgs_cons (pg_name (i := 4) sc_bound_met.nd rfl (.inl rfl)) pgs_nil))))
      (pss_cons (ps_if (pt_val (pe_m1 PySem.F.slot_str_startswith PySem.F.type_str_startswith mt_startswith (pv 0) (pe_glob (v := .str "over ") rfl T.cMARK.choose_spec ⟨_, rfl⟩)))
      (pss_one (ps_ret (pe_cmpR op_gt (pe_op op_mul (pv 1) (pv 4)) (pe_op op_mul (pv 2) (pv 3)) (nomark _))))
      pss_nil)
      (pss_one (ps_ret (pe_cmpR op_ge (pe_op op_mul (pv 1) (pv 4)) (pe_op op_mul (pv 2) (pv 3)) (nomark _)))))), ?_⟩
    refine ⟨_, rfl, .inl ⟨z, rfl, ok, (fun e => by rw [e] at fe; cases fe), fun a' b' e t H' ht sm h' => ?_⟩⟩
    rw [fe] at e
    cases e
    refine ⟨_, _, rfl, SqT.of h', rfl, _, _, rfl, _, _, rfl, rfl, _, rfl, ⟨_, rfl⟩, _, _, rfl, rfl, _, rfl, ?_⟩
    have q := ret H' sm
    unfold met at q
    cases ov : isOver z with
    | true =>
      have ov' : Txt.startswith z MARK = true := ov
      rw [ov, if_pos rfl] at q
      rw [ov']
      exact ⟨_, rfl, _, rfl, _, _, rfl, rfl, .inr ⟨by omega, by omega⟩, _, rfl, _, rfl, _, _, rfl, rfl, .inr ⟨by omega, by omega⟩, _, _, rfl, rfl, q⟩
    | false =>
      have ov' : Txt.startswith z MARK = false := ov
      rw [ov, if_neg (by decide)] at q
      rw [ov']
      exact ⟨_, rfl, _, rfl, _, _, rfl, rfl, .inr ⟨by omega, by omega⟩, _, rfl, _, rfl, _, _, rfl, rfl, .inr ⟨by omega, by omega⟩, _, _, rfl, rfl, q⟩
end L

namespace Hv
open PySem L2
theorem str_len (z : Str) : z.cps.toList.length = z.length := by
  show _ = z.cps.size
  simp
end Hv

namespace Hv
open PySem L2
def lineOf (a b : Nat) : List Str := if Nat.gcd a b = 1 then (text a ++ SLASH ++ text b) :: (if a < b then [MARK ++ text a ++ SLASH ++ text b] else []) else []
def inner (b n : Nat) : List Str := (List.range n).flatMap fun a => lineOf a b
def outer (n : Nat) : List Str := (List.range n).flatMap fun i => inner (i + 1) (i + 2)
def BL : List Str := outer 12
def sp_bounds : Sp := fun vs H Q _ => vs = [] ∧ ∀ p H', H p = none → Same H H' → H' p = some (.lst (BL.map V.str)) → Q (.ref p) H'
def okLine (z : Str) : Bool :=
  match fracOf z with
  | some (a, b) => decide (Txt.split (Txt.replace z MARK (Str.ofString "")) SLASH = [text a, text b]) && (Txt.startswith z (Str.ofString "over") == isOver z) && decide (z.length ≤ 20) &&
      decide ((Txt.removeprefix z MARK).length ≤ 20) && (Txt.split (Txt.removeprefix z MARK) SLASH).all (fun p => decide (p.length ≤ 20)) && decide ((Txt.replace z MARK (Str.ofString "")).length ≤ 20)
  | none => false
theorem BL_ok : BL.all okLine = true := by decide +kernel
theorem BL_len : BL.length = 93 := by decide +kernel
theorem sz20 {n : Nat} (h : n ≤ 20) : n + 2 ≤ sizeLine := by
  have : 22 ≤ sizeLine := by decide
  omega
structure Line (z : Str) (a b : Nat) : Prop where
  fr : fracOf z = some (a, b)
  sp : Txt.split (Txt.replace z MARK (Str.ofString "")) SLASH = [text a, text b]
  ov : Txt.startswith z (Str.ofString "over") = isOver z
  ok : TextOk z
  len : z.length ≤ 20
  rl : (Txt.replace z MARK (Str.ofString "")).length ≤ 20
theorem okLine_line {z : Str} (h : okLine z = true) : ∃ a b, Line z a b := by
  unfold okLine at h
  cases e : fracOf z with
  | none => rw [e] at h; cases h
  | some p =>
    obtain ⟨a, b⟩ := p
    rw [e] at h
    simp only [Bool.and_eq_true, decide_eq_true_eq, beq_iff_eq, List.all_eq_true] at h
    obtain ⟨⟨⟨⟨⟨h1, h2⟩, h3⟩, h4⟩, h5⟩, h6⟩ := h
    exact ⟨a, b, e, h1, h2, ⟨sz20 h3, sz20 h4, fun p hp => by have := sz20 (h5 p hp); omega⟩, h3, h6⟩
theorem line_of {z : Str} (h : z ∈ BL) : ∃ a b, Line z a b := okLine_line (List.all_eq_true.mp BL_ok z h)
end Hv
namespace L
open PySem L2 Hv
variable {P : Program} {w : World} {K : PySem.W.Frag} {mg : Str → Option Value} {base : Heap}
abbrev s_common : Stmt := top 55
abbrev N_common : List Str := ["_law_one", "_law_two"]
abbrev P_common : List Str := ["_law_one", "_law_two"]
theorem sc_common : FnScope N_common P_common (defScope s_common) := ⟨rfl, rfl, rfl, by decide +kernel, rfl, by decide +kernel, by decide +kernel⟩
theorem ok_common {f : Addr} {fd : FuncData} (D : DefAt K mg "_law_common" s_common P_common f fd) (T : Txt K mg) : FnOk P w K mg base CX0 1 f fd P_common sp_gcd := by
  refine D.fn.ok sc_common (fun vs H Q E h => ?_) (fun cdv A outer s H vs Q E hr h => ?_)
  · obtain ⟨a, b, rfl, _⟩ := h
    rfl
  · obtain ⟨a, b, rfl, ret⟩ := h
    refine ⟨_, (pss_cons (ps_while PassesOwn.never (pt_cmpR op_gt (pv 1) pe_int (nomark _))
      (pss_one (ps_par (i := 0) (j := 1) (by rfl) sc_common.nd rfl rfl (by decide) rfl rfl (pa_cons (pv 1) (pa_cons (pe_op op_mod (pe_callTy call_int1 (by rfl) T.int (by decide +kernel) (pa_cons (pv 0) pa_nil)) (pv 1)) pa_nil)) (by rfl))))
      (pss_one (ps_ret (pv 0)))), ?_⟩
    refine ⟨fun m σ' H' => ∃ x y : Nat, σ' = [some (.int (x : Int)), some (.int (y : Int))] ∧ Nat.gcd x y = Nat.gcd a b ∧ m = y ∧ H' = H, ⟨b, a, b, rfl, rfl, rfl, rfl⟩, ?_⟩
    rintro m σ' H' ⟨x, y, rfl, e, rfl, rfl⟩
    refine ⟨_, rfl, _, _, rfl, rfl, _, rfl, ?_⟩
    refine ite2 (fun hc => ?_) (fun hc => ?_)
    · have hy : 0 < m := by have := of_decide_eq_true hc; omega
      refine ⟨fun σ2 H2 => σ2 = [some (.int (m : Int)), some (.int ((x % m : Nat) : Int))] ∧ H2 = H', ?_, ?_⟩
      · rintro σ2 H2 ⟨rfl, rfl⟩
        refine ⟨x % m, Nat.mod_lt _ hy, m, x % m, rfl, ?_, rfl, rfl⟩
        rw [Nat.gcd_comm, ← Nat.gcd_rec, Nat.gcd_comm, e]
      · refine ⟨_, rfl, _, rfl, .inl ⟨_, rfl, _, rfl, _, _, rfl, rfl, ?_, _, _, rfl, ?_, rfl⟩⟩
        · show (0 : Int) < m
          omega
        · rfl
    · have hy : m = 0 := by
        have : ¬ (0 : Int) < (m : Int) := fun q => hc (decide_eq_true q)
        omega
      subst hy
      refine ⟨_, rfl, ?_⟩
      rw [Nat.gcd_zero_right] at e
      rw [e]
      exact ret
abbrev s_bounds : Stmt := top 56
abbrev N_bounds : List Str := ["_law_found", "_law_below", "_law_above"]
abbrev P_bounds : List Str := []
theorem sc_bounds : FnScope N_bounds P_bounds (defScope s_bounds) := ⟨rfl, rfl, rfl, by decide +kernel, rfl, by decide +kernel, by decide +kernel⟩
theorem ok_bounds {f f1 : Addr} {fd fd1 : FuncData} (D : DefAt K mg "_law_bounds" s_bounds P_bounds f fd) (T : Txt K mg) (D_common : DefAt K mg "_law_common" s_common P_common f1 fd1) : FnOk P w K mg base CX0 2 f fd P_bounds sp_bounds := by
  have G_common : FnOk P w K mg base CX0 1 f1 fd1 P_common sp_gcd := ok_common D_common T
  refine D.fn.ok sc_bounds (fun vs H Q E h => ?_) (fun cdv A outer s H vs Q E hr h => ?_)
  · obtain ⟨rfl, _⟩ := h
    rfl
  · obtain ⟨rfl, ret⟩ := h
    have lg : ∀ n : Nat, n ≤ 12 → (n : Int).natAbs.log2 < 1920 := fun n hn => Nat.lt_of_le_of_lt (log2_mono (show (n : Int).natAbs ≤ 12 by omega)) (by decide)
    have tl : ∀ n : Nat, n ≤ 12 → (text n).length ≤ 2 := fun n hn => text_short n (by omega)
    refine ⟨_, (pss_cons (ps_asg (pe_lst pa_nil) (pg_name (i := 0) sc_bounds.nd rfl (.inl rfl)))
      (pss_cons (ps_for PassesOwn.never rfl (pi_range2 (by rfl) T.range (pa_cons pe_int (pa_cons pe_int pa_nil))) (pg_name (i := 1) sc_bounds.nd rfl (.inl rfl))
      (pss_one (ps_for PassesOwn.never rfl (pi_range1 (by rfl) T.range (pa_cons (pe_op op_add (pv 1) pe_int) pa_nil)) (pg_name (i := 2) sc_bounds.nd rfl (.inl rfl))
      (pss_one (ps_if (pt_cmpR op_eq (pe_call G_common (hr.mono (by decide)) rfl D_common.mg D_common.fn.kp D_common.bd .nil pass0 (pa_cons (pv 2) (pa_cons (pv 1) pa_nil))) pe_int (nomark _))
      (pss_cons (ps_expr (pe_bm PySem.F.plainAttrs_list PySem.F.slot_list_append PySem.F.type_list_append mt_append (pv 0) (pa_cons (pe_op op_add_str (pe_op op_add_str (pe_callTy call_str_int (by rfl) T.str (by decide +kernel) (pa_cons (pv 2) pa_nil)) pe_str) (pe_callTy call_str_int (by rfl) T.str (by decide +kernel) (pa_cons (pv 1) pa_nil))) pa_nil)))
      (pss_one (ps_if (pt_cmpR op_lt (pv 2) (pv 1) (nomark _))
      (pss_one (ps_expr (pe_bm PySem.F.plainAttrs_list PySem.F.slot_list_append PySem.F.type_list_append mt_append (pv 0) (pa_cons (pe_op op_add_str (pe_op op_add_str (pe_op op_add_str pe_str (pe_callTy call_str_int (by rfl) T.str (by decide +kernel) (pa_cons (pv 2) pa_nil))) pe_str) (pe_callTy call_str_int (by rfl) T.str (by decide +kernel) (pa_cons (pv 1) pa_nil))) pa_nil))))
      pss_nil)))
      pss_nil)))))
      (pss_one (ps_ret (pv 0))))), ?_⟩
    refine ⟨Nat.zero_le _, fun L hL => ?_⟩
    refine ⟨1, 13, rfl, ⟨by decide, by decide, by decide, by decide⟩, for_range (lo := 1) (n := 12)
      (fun i σ' H' => ∃ v1 v2, σ' = [some (.ref L), v1, v2] ∧ H' = upd H L (.lst ((Hv.outer i).map V.str)) ∧ i ≤ 12 ∧ (Hv.outer i).length ≤ i * 30) ⟨none, none, rfl, rfl, by decide, by decide⟩ ?_ ?_⟩
    · rintro i σ' H' hi ⟨v1, v2, rfl, rfl, _, hlen⟩
      have hn2 : ((1 : Int) + (i : Nat) + 1).toNat = i + 2 := by omega
      refine ⟨_, rfl, _, _, rfl, rfl, _, rfl, ?_, ?_, for_range (lo := 0) (n := ((1 : Int) + (i : Nat) + 1).toNat) (fun j σ2 H2 => ∃ v, σ2 = [some (.ref L), some (.int (1 + (i : Nat))), v] ∧
        H2 = upd H L (.lst ((Hv.outer i ++ Hv.inner (i + 1) j).map V.str)) ∧ (Hv.inner (i + 1) j).length ≤ j * 2) ?_ ?_ ?_⟩
      · show -(2 ^ 62) ≤ (1 : Int) + (i : Nat) + 1
        omega
      · show (1 : Int) + (i : Nat) + 1 < 2 ^ 62
        omega
      · refine ⟨_, rfl, ?_, Nat.zero_le _⟩
        show _ = upd H L (.lst ((Hv.outer i ++ []).map V.str))
        rw [List.append_nil]
      · rintro j σ2 H2 hj ⟨v, rfl, rfl, hl2⟩
        rw [hn2] at hj
        have sz : (Hv.outer i ++ Hv.inner (i + 1) j).length < 1000 := by
          rw [List.length_append]
          omega
        have step : Hv.inner (i + 1) (j + 1) = Hv.inner (i + 1) j ++ lineOf j (i + 1) := by
          unfold Hv.inner
          rw [List.range_succ, List.flatMap_append]
          simp
        have e0 : (0 : Int) + (j : Nat) = ((j : Nat) : Int) := Int.zero_add _
        have e1 : (1 : Int) + (i : Nat) = ((i + 1 : Nat) : Int) := by omega
        have l2 : (lineOf j (i + 1)).length ≤ 2 := by
          unfold lineOf
          split
          · split <;> simp
          · simp
        have big : ∀ n : Nat, n < 1002 → n < sizeLine := fun n hn => Nat.lt_of_lt_of_le hn (by decide)
        have lt2 : ∀ n : Nat, n ≤ 20 → n ≤ sizeLine := fun n hn => Nat.le_trans hn (by decide)
        have sl : (Str.ofString "/").length = 1 := rfl
        have mk : (Str.ofString "over ").length = 5 := rfl
        have tj : (Str.ofString (toString ((j : Nat) : Int))).length ≤ 2 := tl j (by omega)
        have ti : (Str.ofString (toString ((i + 1 : Nat) : Int))).length ≤ 2 := tl (i + 1) (by omega)
        show tIfS _ _ _ _ [some (.ref L), some (.int (1 + (i : Nat))), some (.int (0 + (j : Nat)))] _
        rw [e0, e1]
        refine ⟨_, rfl, _, rfl, j, i + 1, rfl, rfl, _, rfl, ?_⟩
        by_cases g : Nat.gcd j (i + 1) = 1
        · refine ifT (by rw [g]; rfl) ?_
          refine ⟨_, rfl, .inl ⟨rfl, _, SqL.of upd_same⟩, _, rfl, _, rfl, lg j (by omega), _, _, rfl, rfl, ?_, _, rfl, _, rfl, lg (i + 1) (by omega), _, _, rfl, rfl, ?_, _, _, _, rfl, rfl, upd_same, ?_, ?_⟩
          · exact lt2 _ (by omega)
          · rw [Str.length_append]
            exact lt2 _ (by omega)
          · rw [List.length_map]
            exact big _ (by omega)
          rw [upd_upd]
          refine ⟨_, rfl, _, rfl, _, _, rfl, rfl, _, rfl, ?_⟩
          by_cases c : j < i + 1
          · refine ifT (by omega) ?_
            refine ⟨_, rfl, .inl ⟨rfl, _, SqL.of upd_same⟩, _, rfl, _, rfl, lg j (by omega), _, _, rfl, rfl, ?_, _, _, rfl, rfl, ?_, _, rfl, _, rfl, lg (i + 1) (by omega), _, _, rfl, rfl, ?_, _, _, _, rfl, rfl, upd_same, ?_, ?_⟩
            · exact lt2 _ (by omega)
            · rw [Str.length_append]
              exact lt2 _ (by omega)
            · rw [Str.length_append, Str.length_append]
              exact lt2 _ (by omega)
            · rw [List.length_append, List.length_map]
              exact big _ (by simp; omega)
            · rw [upd_upd]
              refine ⟨_, rfl, ?_, ?_⟩
              · rw [step]
                unfold lineOf
                rw [if_pos g, if_pos c]
                simp
                rfl
              · rw [step, List.length_append]
                omega
          · refine ifF (by omega) ?_
            refine ⟨_, rfl, ?_, ?_⟩
            · rw [step]
              unfold lineOf
              rw [if_pos g, if_neg c]
              simp
              rfl
            · rw [step, List.length_append]
              omega
        · refine ifF (fun q => g (by have := V.int.inj q; omega)) ?_
          refine ⟨_, rfl, ?_, ?_⟩
          · rw [step]
            unfold lineOf
            rw [if_neg g, List.append_nil]
          · rw [step, List.length_append]
            omega
      · rintro σ2 H2 ⟨v, rfl, rfl, hl2⟩
        rw [hn2]
        rw [hn2] at hl2
        have step : Hv.outer (i + 1) = Hv.outer i ++ Hv.inner (i + 1) (i + 2) := by
          unfold Hv.outer
          rw [List.range_succ, List.flatMap_append]
          simp
        refine ⟨_, _, rfl, by rw [step], by omega, ?_⟩
        rw [step, List.length_append]
        omega
    · rintro σ' H' ⟨v1, v2, rfl, rfl, _, _⟩
      exact ⟨_, rfl, ret L _ hL (same_new hL) upd_same⟩
end L

namespace Hv
open PySem L2 TL
theorem str_ext {a b : Str} (h : a.cps.toList = b.cps.toList) : a = b := by
  obtain ⟨⟨x⟩⟩ := a
  obtain ⟨⟨y⟩⟩ := b
  cases (show x = y from h)
  rfl
/-- the parts, put together again -/
def glue (c : Nat) : List (List Nat) → List Nat
  | [] => []
  | [p] => p
  | p :: q :: r => p ++ c :: glue c (q :: r)
theorem pre_one {c d : Nat} {r : List Nat} : pre [c] (d :: r) = decide (d = c) := by
  show (List.take 1 (d :: r) == [c]) = _
  rw [Bool.eq_iff_iff]
  simp
theorem spl_ne (c : Nat) : ∀ (l acc : List Nat), spl [c] 0 acc l ≠ []
  | [], acc => by rw [spl_nil]; simp
  | d :: r, acc => by
    by_cases h : d = c
    · rw [spl_hit (by rw [pre_one, decide_eq_true h])]
      simp
    · rw [spl_miss (by rw [pre_one, decide_eq_false h])]
      exact spl_ne c r _
theorem spl_glue (c : Nat) : ∀ (l acc : List Nat), glue c (spl [c] 0 acc l) = acc ++ l
  | [], acc => by rw [spl_nil]; simp [glue]
  | d :: r, acc => by
    by_cases h : d = c
    · rw [spl_hit (by rw [pre_one, decide_eq_true h])]
      show glue c (acc :: spl [c] 0 [] r) = _
      have ih := spl_glue c r []
      cases e : spl [c] 0 [] r with
      | nil => exact absurd e (spl_ne c r [])
      | cons p q =>
        rw [e] at ih
        show acc ++ c :: glue c (p :: q) = _
        rw [ih, h]
        rfl
    · rw [spl_miss (by rw [pre_one, decide_eq_false h]), spl_glue c r]
      simp
theorem spl_len (c : Nat) : ∀ (l acc : List Nat), ∀ p ∈ spl [c] 0 acc l, p.length ≤ acc.length + l.length
  | [], acc => by
    rw [spl_nil]
    intro p hp
    rw [List.mem_singleton.mp hp]
    exact Nat.le_refl _
  | d :: r, acc => by
    intro p hp
    by_cases h : d = c
    · rw [spl_hit (by rw [pre_one, decide_eq_true h])] at hp
      rcases List.mem_cons.mp hp with rfl | hp
      · omega
      · have := spl_len c r [] p hp
        simp at this ⊢
        omega
    · rw [spl_miss (by rw [pre_one, decide_eq_false h])] at hp
      have := spl_len c r _ p hp
      simp at this ⊢
      omega
theorem kind_slash (z : Str) : ¬ Builtin.Str.strKind z < Builtin.Str.strKind SLASH := by
  have : Builtin.Str.strKind SLASH = 1 := by decide +kernel
  rw [this]
  unfold Builtin.Str.strKind
  repeat' split
  all_goals decide
theorem slash_tl : SLASH.cps.toList = [47] := by decide +kernel
theorem split_tl (z : Str) : (Txt.split z SLASH).map tl = spl [47] 0 [] z.cps.toList := by
  have := split_spl z SLASH (by rw [show tl SLASH = [47] from slash_tl]; simp) (kind_slash z)
  rw [show tl SLASH = [47] from slash_tl] at this
  exact this
theorem split_two {z a b : Str} (h : Txt.split z SLASH = [a, b]) : z = a ++ SLASH ++ b := by
  have e := split_tl z
  rw [h] at e
  have g := spl_glue 47 z.cps.toList []
  rw [← e] at g
  apply str_ext
  have l : (a ++ SLASH ++ b).cps.toList = a.cps.toList ++ SLASH.cps.toList ++ b.cps.toList := by
    show (a.cps ++ SLASH.cps ++ b.cps).toList = _
    simp
  rw [l, slash_tl]
  have g' : a.cps.toList ++ 47 :: b.cps.toList = [] ++ z.cps.toList := g
  simp only [List.nil_append] at g'
  rw [← g']
  simp
theorem prefix_two (z : Str) : (isOver z = true ∧ z = MARK ++ Txt.removeprefix z MARK) ∨ (isOver z = false ∧ Txt.removeprefix z MARK = z) := by
  have ml : MARK.length = 5 := by decide +kernel
  by_cases h : Builtin.Str.subAt z MARK 0 = true
  · have h' : z.cps.extract 0 5 = MARK.cps := by
      unfold Builtin.Str.subAt at h
      rw [ml] at h
      exact eq_of_beq h
    have sz : 5 ≤ z.cps.size := by
      have := congrArg Array.size h'
      rw [Array.size_extract] at this
      have m2 : MARK.cps.size = 5 := ml
      omega
    left
    refine ⟨?_, ?_⟩
    · unfold isOver Txt.startswith
      rw [h, ml]
      simp
      exact sz
    · unfold Txt.removeprefix
      rw [if_pos h, ml]
      unfold Txt.affix
      have zl : z.length = z.cps.size := rfl
      dsimp only
      rw [if_neg (by rw [beq_iff_eq, zl]; omega)]
      apply str_ext
      show z.cps.toList = (MARK.cps ++ z.cps.extract 5 z.length).toList
      rw [← h']
      simp [zl]
      rw [List.take_of_length_le (by simp; omega)]
  · right
    refine ⟨?_, ?_⟩
    · unfold isOver Txt.startswith
      rw [Bool.eq_false_iff.mpr h]
      simp
    · unfold Txt.removeprefix
      rw [if_neg h]
      rfl
def inBL (z : Str) : Bool := BL.any fun x => decide (x = z)
theorem inBL_iff {z : Str} : inBL z = true ↔ z ∈ BL := by
  unfold inBL
  rw [List.any_eq_true]
  constructor
  · rintro ⟨x, hx, e⟩
    rw [← of_decide_eq_true e]
    exact hx
  · exact fun h => ⟨z, h, decide_eq_true rfl⟩
def blTab (q p : Nat) : Bool := !(decide (1 ≤ q) && Nat.gcd p q == 1) || ((!decide (p ≤ q) || inBL (text p ++ SLASH ++ text q)) && (!decide (p + 1 ≤ q) || inBL (MARK ++ (text p ++ SLASH ++ text q))))
theorem bl_mem0 : ((List.range 13).all fun q => (List.range 13).all fun p => blTab q p) = true := by decide +kernel
theorem bl_mem (q : Nat) (h1 : q < 13) (p : Nat) (h2 : p < 13) (h3 : 1 ≤ q) (h4 : Nat.gcd p q = 1) : (p ≤ q → text p ++ SLASH ++ text q ∈ BL) ∧ (p + 1 ≤ q → MARK ++ (text p ++ SLASH ++ text q) ∈ BL) := by
  have h := List.all_eq_true.mp (List.all_eq_true.mp bl_mem0 q (List.mem_range.mpr h1)) p (List.mem_range.mpr h2)
  unfold blTab at h
  rw [decide_eq_true h3, h4] at h
  simp only [BEq.rfl, Bool.and_self, Bool.not_true, Bool.false_or, Bool.and_eq_true, Bool.or_eq_true, Bool.not_eq_true', decide_eq_false_iff_not] at h
  exact ⟨fun q => inBL_iff.mp (h.1.resolve_left (fun z => z q)), fun q => inBL_iff.mp (h.2.resolve_left (fun z => z q))⟩
theorem frac_mem {z : Str} (h : (fracOf z).isSome = true) : z ∈ BL := by
  obtain ⟨⟨p, q⟩, e⟩ := Option.isSome_iff_exists.mp h
  have len : (Txt.split (Txt.removeprefix z MARK) SLASH).length = 2 := by
    by_cases l : (Txt.split (Txt.removeprefix z MARK) SLASH).length = 2
    · exact l
    · rw [fracOf_len l] at e
      cases e
  obtain ⟨a, b, hs⟩ := two_of len
  have hz := split_two hs
  rw [fracOf_two hs] at e
  cases e1 : numOf a 12 with
  | none => rw [e1] at e; cases e
  | some p1 =>
    cases e2 : numOf b 12 with
    | none => rw [e1, e2] at e; cases e
    | some q1 =>
      rw [e1, e2] at e
      dsimp only at e
      obtain ⟨l1, t1⟩ := numOf_some e1
      obtain ⟨l2, t2⟩ := numOf_some e2
      by_cases c : q1 < 1 ∨ 1 < Nat.gcd p1 q1
      · rw [if_pos c] at e
        cases e
      · have g : 0 < Nat.gcd p1 q1 := Nat.gcd_pos_of_pos_right _ (by omega)
        obtain ⟨m1, m2⟩ := bl_mem q1 (by omega) p1 (by omega) (by omega) (by omega)
        rw [if_neg c] at e
        rw [← t1, ← t2] at hz
        rcases prefix_two z with ⟨ov, ez⟩ | ⟨ov, ez⟩
        · rw [ov] at e
          by_cases d : p1 + 1 ≤ q1
          · rw [ez, hz]
            exact m2 d
          · rw [if_neg (by simpa using d)] at e
            cases e
        · rw [ov] at e
          by_cases d : p1 ≤ q1
          · rw [← ez, hz]
            exact m1 d
          · rw [if_neg (by simpa using d)] at e
            cases e
theorem bl_iff (z : Str) : (fracOf z).isSome = inBL z := by
  cases h : (fracOf z).isSome with
  | true => rw [inBL_iff.mpr (frac_mem h)]
  | false =>
    symm
    rw [Bool.eq_false_iff]
    intro m
    have m := inBL_iff.mp m
    obtain ⟨a, b, l⟩ := line_of m
    rw [l.fr] at h
    cases h
theorem textOk_of {z : Str} (h : z.length ≤ 100000) : TextOk z := by
  have s1 : 100002 ≤ sizeLine := by decide
  have l : (Txt.removeprefix z MARK).length ≤ z.length := by
    rcases prefix_two z with ⟨_, ez⟩ | ⟨_, ez⟩
    · have := congrArg Str.length ez
      rw [Str.length_append] at this
      omega
    · rw [ez]
      exact Nat.le_refl _
  refine ⟨by omega, by omega, fun p hp => ?_⟩
  have m : tl p ∈ spl [47] 0 [] (Txt.removeprefix z MARK).cps.toList := by
    rw [← split_tl]
    exact List.mem_map.mpr ⟨p, hp, rfl⟩
  have := spl_len 47 _ _ _ m
  have e1 : (tl p).length = p.length := str_len p
  have e2 := str_len (Txt.removeprefix z MARK)
  rw [e1, e2] at this
  simp only [List.length_nil, Nat.zero_add] at this
  omega
end Hv

namespace Hv
open PySem PySem.Spec PyProof.Rows L2
theorem rhU {k : Nat} {A : Around} (r : L2H.RoomH k A) : A.units + 64 < cLine := by have := r.un; omega
theorem rh65 {k : Nat} {A : Around} (r : L2H.RoomH k A) : A.units + 65 < cLine := by have := r.un; omega
/-- l.count(True), l a list of truths -/
def rCntB (K : PySem.W.Frag) : V → List V → Hp → VK → Prop := fun x xs H Q => ∃ (p : Addr) (bs : List Bool), x = .ref p ∧ xs = [.bl true] ∧ SqL K H p (bs.map V.bl) ∧ Q (.int (bs.count true : Nat)) H
theorem dp_bools {K : PySem.W.Frag} {H : Hp} : ∀ bs : List Bool, DpAll K H (bs.map V.bl) (bs.map PyData.bool)
  | [] => .nil
  | b :: bs => .cons (.bl b) (dp_bools bs)
theorem plain_bools : ∀ bs : List Bool, PyData.plainAll (bs.map PyData.bool) = true
  | [] => rfl
  | b :: bs => by
    show (PyData.plain (.bool b) && PyData.plainAll (bs.map PyData.bool)) = true
    rw [plain_bools bs]
    rfl
theorem count_bools : ∀ bs : List Bool, (bs.map PyData.bool).countP (fun y => PyData.eqv y (.bool true)) = bs.count true
  | [] => rfl
  | b :: bs => by
    rw [List.map_cons, List.countP_cons, count_bools bs, List.count_cons]
    cases b <;> simp [PyData.eqv]
theorem mt_countB {X : Cx} (hu : X.A.units + 65 < cLine) : MtR X "list.count" (rCntB X.K) := by
  intro pins s σ H x xs v us Q I rx rxs h
  obtain ⟨p, bs, rfl, rfl, hs, q⟩ := h
  cases rx
  obtain ⟨u, rfl, ru⟩ := rxs.one
  cases (show u = Value.bool true from ru)
  obtain ⟨its, rv, ⟨o, n, ho, hc, hdn, hd⟩, hlen⟩ := I.list hs
  obtain ⟨as, h4⟩ := Dp.readsAll I _ _ its (dp_bools bs) rv
  refine SeqAt.count_list_data (l := p) (vs := its.toArray) (xs := bs.map PyData.bool) (d := .bool true) ⟨o, ho, hc, n, hd⟩ h4 (.bool true) (plain_bools bs) rfl ?_ ?_
  · have e : min (PyData.depthAll (bs.map PyData.bool)) (PyData.depth (.bool true)) = 0 := Nat.min_eq_right (Nat.zero_le _)
    rw [e]
    omega
  · rw [count_bools]
    exact ⟨.int _, H, I.tok _, ⟨_, rfl⟩, q⟩
/-! the classes by their numbers -/
def TERMS : List Str := ["InvalidName", "InvalidNumber", "InvalidBound", "InvalidNeeds", "InvalidClosing", "InvalidEnds", "InvalidAmount", "InvalidText", "InvalidHouse", "InvalidShare", "InvalidLimit", "InvalidLength", "InvalidWish", "InvalidIndex", "NotRules", "InvalidKinds", "InvalidRows", "InvalidChanges", "InvalidWishes", "UnknownName", "UnknownMember", "InUse", "NotFinite", "Over", "IsClosed", "NotListed", "TooFew", "UsedUp", "CannotClose", "NothingToUndo", "Broken"]
def term (j : Nat) : Str := TERMS.getD j ""
def fieldOf (j : Nat) : Str := if j ∈ [15, 16, 17, 18, 21] then "index" else if j ∈ [24, 25, 26, 27, 28] then "kind" else "given"
/-- those with one field -/
def oneF (j : Nat) : Bool := decide (j < 30) && decide (j ≠ 23) && decide (j ≠ 29)
structure ErrNames (mg : Str → Option Value) (c : Nat → Addr) : Prop where
  n0 : mg "InvalidName" = some (.ref (c 0))
  n1 : mg "InvalidNumber" = some (.ref (c 1))
  n2 : mg "InvalidBound" = some (.ref (c 2))
  n3 : mg "InvalidNeeds" = some (.ref (c 3))
  n4 : mg "InvalidClosing" = some (.ref (c 4))
  n5 : mg "InvalidEnds" = some (.ref (c 5))
  n6 : mg "InvalidAmount" = some (.ref (c 6))
  n7 : mg "InvalidText" = some (.ref (c 7))
  n8 : mg "InvalidHouse" = some (.ref (c 8))
  n9 : mg "InvalidShare" = some (.ref (c 9))
  n10 : mg "InvalidLimit" = some (.ref (c 10))
  n11 : mg "InvalidLength" = some (.ref (c 11))
  n12 : mg "InvalidWish" = some (.ref (c 12))
  n13 : mg "InvalidIndex" = some (.ref (c 13))
  n14 : mg "NotRules" = some (.ref (c 14))
  n15 : mg "InvalidKinds" = some (.ref (c 15))
  n16 : mg "InvalidRows" = some (.ref (c 16))
  n17 : mg "InvalidChanges" = some (.ref (c 17))
  n18 : mg "InvalidWishes" = some (.ref (c 18))
  n19 : mg "UnknownName" = some (.ref (c 19))
  n20 : mg "UnknownMember" = some (.ref (c 20))
  n21 : mg "InUse" = some (.ref (c 21))
  n22 : mg "NotFinite" = some (.ref (c 22))
  n23 : mg "Over" = some (.ref (c 23))
  n24 : mg "IsClosed" = some (.ref (c 24))
  n25 : mg "NotListed" = some (.ref (c 25))
  n26 : mg "TooFew" = some (.ref (c 26))
  n27 : mg "UsedUp" = some (.ref (c 27))
  n28 : mg "CannotClose" = some (.ref (c 28))
  n29 : mg "NothingToUndo" = some (.ref (c 29))
  n30 : mg "Broken" = some (.ref (c 30))
  n31 : mg "WrongValue" = some (.ref (c 31))
  n32 : mg "WrongName" = some (.ref (c 32))
  n33 : mg "NotPossible" = some (.ref (c 33))
/-- what the text has of the error class with the number j -/
structure ErrIx (K : PySem.W.Frag) (c : Nat → Addr) (j : Nat) : Prop where
  isx : ExcC K (c j)
  xf : XfC K (c j)
  kits : ∀ i, i < 31 → PySem.W.kitOne K (.ref (c j)) (.ref (c i)) = some (decide (i = j))
  kV : PySem.W.kitOne K (.ref (c j)) (.ref (c 31)) = some (decide (j < 19))
  kN : PySem.W.kitOne K (.ref (c j)) (.ref (c 32)) = some (decide (18 < j) && decide (j < 22))
  kP : PySem.W.kitOne K (.ref (c j)) (.ref (c 33)) = some (decide (21 < j))
  tV : PySem.W.kitOne K (.ref (c j)) (.type "ValueError") = some (decide (j < 19))
  tL : PySem.W.kitOne K (.ref (c j)) (.type "LookupError") = some (decide (18 < j) && decide (j < 22))
  tA : PySem.W.kitOne K (.ref (c j)) (.type "ArithmeticError") = some (decide (21 < j))
  f_given : PySem.W.findIn K (.ref (c j)) "given" = some none
  f_index : PySem.W.findIn K (.ref (c j)) "index" = some none
  f_kind : PySem.W.findIn K (.ref (c j)) "kind" = some none
  f_house : PySem.W.findIn K (.ref (c j)) "house" = some none
  any : PySem.W.exmAny K (.ref (c j)) [.ref (c 31), .ref (c 32), .ref (c 33)] = some true
/-- the exception at p: of the class j, with its one field v -/
def ErrAt (c : Nat → Addr) (j : Nat) (p : Addr × Obj) (d : Option Addr) (v : V) (H : Hp) : Prop := Zc (.ref (c j)) d p.2 ∧ (∃ vs, p.2.data = .fields vs) ∧ XdAt H d [(fieldOf j, v)]
def bitsOf (j : Nat) : List Bool := (List.range 31).map fun i => decide (i = j)
theorem sort_count : ∀ j < 31, (bitsOf j).count true = 1 := by decide
theorem XdAt.same {H H' : Hp} {d : Option Addr} {fs : List (Str × V)} (h : XdAt H d fs) (e : Same H H') : XdAt H' d fs := by
  rcases h with h | ⟨dd, h1, h2⟩
  · exact .inl h
  · exact .inr ⟨dd, h1, e _ _ h2⟩
theorem ErrAt.same {c : Nat → Addr} {j : Nat} {p : Addr × Obj} {d : Option Addr} {v : V} {H H' : Hp} (h : ErrAt c j p d v H) (e : Same H H') : ErrAt c j p d v H' := ⟨h.1, h.2.1, h.2.2.same e⟩
section
variable {K : PySem.W.Frag} {c : Nat → Addr} {j : Nat} {p : Addr × Obj} {d : Option Addr} {v : V} {H : Hp} {Q : VK}
@[irreducible] def rIdx (K : PySem.W.Frag) : V → List V → Hp → VK → Prop := rIndexD K
theorem mt_idx {X : Cx} (hu : X.A.units + 65 < cLine) : MtR X "list.index" (rIdx X.K) := by
  unfold rIdx
  exact mt_indexD hu
theorem is_r (EX : ErrIx K c j) (E : ErrAt c j p d v H) {i : Nat} (hi : i < 31) (q : Q (.bl (decide (i = j))) H) : rIsP K p.1 (c j) d [.ref p.1, .ref (c i)] H Q := rIsP_in (fun _ r => r) (EX.kits i hi) E.2.2 q
theorem sort_index {a : Addr} (hj : j < 31) (hS : SqL K H a ((bitsOf j).map V.bl)) (q : Q (.int (j : Nat)) H) : rIdx K (.ref a) [.bl true] H Q := by
  unfold rIdx
  have h : ∀ j < 31, SeqAt.shaped (.list ((bitsOf j).map PyData.bool)) = true ∧ (bitsOf j)[j]? = some true ∧ ∀ m < 31, m < j → (bitsOf j)[m]? = some false := by decide +kernel
  obtain ⟨h1, h2, h3⟩ := h j hj
  refine ⟨a, _, .bool true, (bitsOf j).map PyData.bool, j, .bool true, rfl, rfl, .lst hS (dp_bools _), .bl true, h1, by decide +kernel, by rw [List.getElem?_map, h2]; rfl, by decide +kernel, fun m z hm hz => ?_, q⟩
  rw [List.getElem?_map, h3 m (by omega) hm] at hz
  cases hz
  decide +kernel
/-- the places of the three base classes -/
def baseOf (j : Nat) : Nat := if j < 19 then 0 else if j < 22 then 1 else 2
def dueBits (j : Nat) : List Bool := [decide (j < 19), decide (18 < j) && decide (j < 22), decide (21 < j)]
theorem due_index {a : Addr} (hj : j < 31) (hS : SqL K H a ((dueBits j).map V.bl)) (q : Q (.int (baseOf j : Nat)) H) : rIdx K (.ref a) [.bl true] H Q := by
  unfold rIdx
  have h : ∀ j < 31, SeqAt.shaped (.list ((dueBits j).map PyData.bool)) = true ∧ (dueBits j)[baseOf j]? = some true ∧ ∀ m < 31, m < baseOf j → (dueBits j)[m]? = some false := by decide +kernel
  obtain ⟨h1, h2, h3⟩ := h j hj
  have h4 : baseOf j < 31 := by
    unfold baseOf
    split
    · decide
    · split <;> decide
  refine ⟨a, _, .bool true, (dueBits j).map PyData.bool, baseOf j, .bool true, rfl, rfl, .lst hS (dp_bools _), .bl true, h1, by decide +kernel, by rw [List.getElem?_map, h2]; rfl, by decide +kernel, fun m z hm hz => ?_, q⟩
  rw [List.getElem?_map, h3 m (by omega) hm] at hz
  cases hz
  decide +kernel
theorem due_at : ∀ j < 31, atI ((dueBits j).map V.bl) (baseOf j : Nat) = some (.bl true) := by decide +kernel
theorem terms_at : ∀ j < 31, atI (TERMS.map V.str) (j : Nat) = some (.str (term j)) := by decide +kernel
theorem due_list (hj : j < 31) : [V.bl (decide ((j : Int) < 19)), .bl (decide ((18 : Int) < j) && decide ((j : Int) < 22)), .bl (decide ((21 : Int) < j))] = (dueBits j).map V.bl := by
  have e1 : decide ((j : Int) < 19) = decide (j < 19) := decide_eq_decide.mpr (by omega)
  have e2 : decide ((18 : Int) < j) = decide (18 < j) := decide_eq_decide.mpr (by omega)
  have e3 : decide ((j : Int) < 22) = decide (j < 22) := decide_eq_decide.mpr (by omega)
  have e4 : decide ((21 : Int) < j) = decide (21 < j) := decide_eq_decide.mpr (by omega)
  rw [e1, e2, e3, e4]
  rfl
theorem due_eqv : ∀ j < 31, PyData.eqv (.list ((dueBits j).map PyData.bool)) (.list ((dueBits j).map PyData.bool)) = true ∧ SeqAt.shaped (.list ((dueBits j).map PyData.bool)) = true := by decide +kernel
theorem chain_i {σ : L2.St} {i k : Int} {n : Nat} (hn : σ[n]? = some (some (.int i))) (q : Q (.bl (decide (k < i) && decide (i < 22))) H) :
    tChain (rI0 fun a b => .bl (decide (a < b))) (rI0 fun a b => .bl (decide (a < b))) (tC (.int k)) (tVar n) (tC (.int 22)) σ H Q := by
  refine ⟨_, hn, _, _, rfl, rfl, _, rfl, ?_⟩
  cases h : decide (k < i) with
  | true =>
    rw [h] at q
    exact iteT ⟨_, _, rfl, rfl, q⟩
  | false =>
    rw [h] at q
    exact iteF q
end
def sp_terms : Addr × Obj → Sp := fun _ vs H Q _ => vs = [] ∧ ∀ p H', H p = none → Same H H' → H' p = some (.lst (TERMS.map V.str)) → Q (.ref p) H'
def sp_sort (K : PySem.W.Frag) (c : Nat → Addr) : Addr × Obj → Sp := fun p vs H Q _ => ∃ (j : Nat) (d : Option Addr) (v : V), vs = [.ref p.1] ∧ j < 31 ∧ ErrIx K c j ∧ ErrAt c j p d v H ∧ ∀ H', Same H H' → Q (.str (term j)) H'
def sp_held (K : PySem.W.Frag) (c : Nat → Addr) : Addr × Obj → Sp := fun p vs H Q _ => ∃ (j : Nat) (d : Option Addr) (v : V), vs = [.ref p.1, .str (term j)] ∧ oneF j = true ∧ ErrIx K c j ∧ ErrAt c j p d v H ∧ ∀ H', Same H H' → Q v H'
end Hv
namespace L
open PySem L2 Hv
variable {P : Program} {w : World} {K : PySem.W.Frag} {mg : Str → Option Value} {base : Heap}
abbrev s_terms : Stmt := top 51
abbrev N_terms : List Str := ["_law_found"]
abbrev P_terms : List Str := []
theorem sc_terms : FnScope N_terms P_terms (defScope s_terms) := ⟨rfl, rfl, rfl, by decide +kernel, rfl, by decide +kernel, by decide +kernel⟩
theorem ok_terms {f : Addr} {fd : FuncData} (D : DefAt K mg "_law_terms" s_terms P_terms f fd) (T : Txt K mg) : FnP P w K mg base 1 f fd P_terms sp_terms := by
  refine fnP_of D.fn sc_terms (fun p vs H Q E h => ?_) (fun cdv A outer s H vs Q p hG hr h => ?_)
  · obtain ⟨rfl, _⟩ := h
    rfl
  · obtain ⟨rfl, ret⟩ := h
    have hp : p ∈ [p] := List.mem_singleton.mpr rfl
    refine ⟨_, (pss_cons (ps_asg (pe_lst (pa_cons pe_str (pa_cons pe_str (pa_cons pe_str (pa_cons pe_str (pa_cons pe_str (pa_cons pe_str pa_nil))))))) (pg_name (i := 0) sc_terms.nd rfl (.inl rfl)))
      (pss_cons (ps_asg (pe_op op_cat (pv 0) (pe_lst (pa_cons pe_str (pa_cons pe_str (pa_cons pe_str (pa_cons pe_str (pa_cons pe_str (pa_cons pe_str pa_nil)))))))) (pg_name (i := 0) sc_terms.nd rfl (.inl rfl)))
      (pss_cons (ps_asg (pe_op op_cat (pv 0) (pe_lst (pa_cons pe_str (pa_cons pe_str (pa_cons pe_str (pa_cons pe_str (pa_cons pe_str (pa_cons pe_str pa_nil)))))))) (pg_name (i := 0) sc_terms.nd rfl (.inl rfl)))
      (pss_cons (ps_asg (pe_op op_cat (pv 0) (pe_lst (pa_cons pe_str (pa_cons pe_str (pa_cons pe_str (pa_cons pe_str (pa_cons pe_str (pa_cons pe_str (pa_cons pe_str pa_nil))))))))) (pg_name (i := 0) sc_terms.nd rfl (.inl rfl)))
      (pss_one (ps_ret (pe_op op_cat (pv 0) (pe_lst (pa_cons pe_str (pa_cons pe_str (pa_cons pe_str (pa_cons pe_str (pa_cons pe_str (pa_cons pe_str pa_nil)))))))))))))), ?_⟩
    refine ⟨by show 6 ≤ sizeLine; decide, fun p1 n1 => ?_⟩
    refine ⟨_, rfl, by show 6 ≤ sizeLine; decide, fun q1 m1 => ⟨p1, q1, _, _, rfl, rfl, same_new m1 _ _ upd_same, upd_same, by show 12 ≤ sizeLine; decide, fun p2 n2 => ?_⟩⟩
    refine ⟨_, rfl, by show 6 ≤ sizeLine; decide, fun q2 m2 => ⟨p2, q2, _, _, rfl, rfl, same_new m2 _ _ upd_same, upd_same, by show 18 ≤ sizeLine; decide, fun p3 n3 => ?_⟩⟩
    refine ⟨_, rfl, by show 7 ≤ sizeLine; decide, fun q3 m3 => ⟨p3, q3, _, _, rfl, rfl, same_new m3 _ _ upd_same, upd_same, by show 25 ≤ sizeLine; decide, fun p4 n4 => ?_⟩⟩
    refine ⟨_, rfl, by show 6 ≤ sizeLine; decide, fun q4 m4 => ⟨p4, q4, _, _, rfl, rfl, same_new m4 _ _ upd_same, upd_same, by show 31 ≤ sizeLine; decide, fun p5 n5 => ?_⟩⟩
    have sm : ∀ {H1 H2 H3 H4 H5 H6 H7 H8 : Hp}, Same H H1 → Same H1 H2 → Same H2 H3 → Same H3 H4 → Same H4 H5 → Same H5 H6 → Same H6 H7 → Same H7 H8 → Same H H8 := fun a b c d e f g h => ((((((a.trans b).trans c).trans d).trans e).trans f).trans g).trans h
    refine ret p5 _ (Same.free ?_ n5) (Same.trans ?_ (same_new n5)) upd_same <;> exact sm (same_new n1) (same_new m1) (same_new n2) (same_new m2) (same_new n3) (same_new m3) (same_new n4) (same_new m4)
abbrev s_sort : Stmt := top 52
abbrev N_sort : List Str := ["_law_e", "_law_sorts", "_law_at", "_law_due_here", "_law_own"]
abbrev P_sort : List Str := ["_law_e"]
theorem sc_sort : FnScope N_sort P_sort (defScope s_sort) := ⟨rfl, rfl, rfl, by decide +kernel, rfl, by decide +kernel, by decide +kernel⟩
theorem ok_sort {f f1 : Addr} {fd fd1 : FuncData} {c : Nat → Addr} (D : DefAt K mg "_law_sort" s_sort P_sort f fd) (T : Txt K mg) (EN : ErrNames mg c) (D_terms : DefAt K mg "_law_terms" s_terms P_terms f1 fd1) : FnP P w K mg base 2 f fd P_sort (sp_sort K c) := by
  have G_terms : FnP P w K mg base 1 f1 fd1 P_terms sp_terms := ok_terms D_terms T
  refine fnP_of D.fn sc_sort (fun p vs H Q E h => ?_) (fun cdv A outer s H vs Q p hG hr h => ?_)
  · obtain ⟨j, d, v, rfl, _⟩ := h
    rfl
  · obtain ⟨j, d, v, rfl, hj, EX, EA, ret⟩ := h
    have hp : p ∈ [p] := List.mem_singleton.mpr rfl
    have hz := EA.1
    have hf := EA.2.1
    refine ⟨_, (pss_cons (ps_asg (pe_lst (pa_cons (pe_callB (call_isP EX.isx hp hz hf) (by rfl) T.isinstance (by decide +kernel) (pa_cons (pv 0) (pa_cons (pe_glob (v := .ref (c 0)) rfl EN.n0 rfl) pa_nil))) (pa_cons (pe_callB (call_isP EX.isx hp hz hf) (by rfl) T.isinstance (by decide +kernel) (pa_cons (pv 0) (pa_cons (pe_glob (v := .ref (c 1)) rfl EN.n1 rfl) pa_nil))) (pa_cons (pe_callB (call_isP EX.isx hp hz hf) (by rfl) T.isinstance (by decide +kernel) (pa_cons (pv 0) (pa_cons (pe_glob (v := .ref (c 2)) rfl EN.n2 rfl) pa_nil))) pa_nil)))) (pg_name (i := 1) sc_sort.nd rfl (.inl rfl)))
      (pss_cons (ps_asg (pe_op op_cat (pv 1) (pe_lst (pa_cons (pe_callB (call_isP EX.isx hp hz hf) (by rfl) T.isinstance (by decide +kernel) (pa_cons (pv 0) (pa_cons (pe_glob (v := .ref (c 3)) rfl EN.n3 rfl) pa_nil))) (pa_cons (pe_callB (call_isP EX.isx hp hz hf) (by rfl) T.isinstance (by decide +kernel) (pa_cons (pv 0) (pa_cons (pe_glob (v := .ref (c 4)) rfl EN.n4 rfl) pa_nil))) (pa_cons (pe_callB (call_isP EX.isx hp hz hf) (by rfl) T.isinstance (by decide +kernel) (pa_cons (pv 0) (pa_cons (pe_glob (v := .ref (c 5)) rfl EN.n5 rfl) pa_nil))) pa_nil))))) (pg_name (i := 1) sc_sort.nd rfl (.inl rfl)))
      (pss_cons (ps_asg (pe_op op_cat (pv 1) (pe_lst (pa_cons (pe_callB (call_isP EX.isx hp hz hf) (by rfl) T.isinstance (by decide +kernel) (pa_cons (pv 0) (pa_cons (pe_glob (v := .ref (c 6)) rfl EN.n6 rfl) pa_nil))) (pa_cons (pe_callB (call_isP EX.isx hp hz hf) (by rfl) T.isinstance (by decide +kernel) (pa_cons (pv 0) (pa_cons (pe_glob (v := .ref (c 7)) rfl EN.n7 rfl) pa_nil))) (pa_cons (pe_callB (call_isP EX.isx hp hz hf) (by rfl) T.isinstance (by decide +kernel) (pa_cons (pv 0) (pa_cons (pe_glob (v := .ref (c 8)) rfl EN.n8 rfl) pa_nil))) pa_nil))))) (pg_name (i := 1) sc_sort.nd rfl (.inl rfl)))
      (pss_cons (ps_asg (pe_op op_cat (pv 1) (pe_lst (pa_cons (pe_callB (call_isP EX.isx hp hz hf) (by rfl) T.isinstance (by decide +kernel) (pa_cons (pv 0) (pa_cons (pe_glob (v := .ref (c 9)) rfl EN.n9 rfl) pa_nil))) (pa_cons (pe_callB (call_isP EX.isx hp hz hf) (by rfl) T.isinstance (by decide +kernel) (pa_cons (pv 0) (pa_cons (pe_glob (v := .ref (c 10)) rfl EN.n10 rfl) pa_nil))) (pa_cons (pe_callB (call_isP EX.isx hp hz hf) (by rfl) T.isinstance (by decide +kernel) (pa_cons (pv 0) (pa_cons (pe_glob (v := .ref (c 11)) rfl EN.n11 rfl) pa_nil))) pa_nil))))) (pg_name (i := 1) sc_sort.nd rfl (.inl rfl)))
      (pss_cons (ps_asg (pe_op op_cat (pv 1) (pe_lst (pa_cons (pe_callB (call_isP EX.isx hp hz hf) (by rfl) T.isinstance (by decide +kernel) (pa_cons (pv 0) (pa_cons (pe_glob (v := .ref (c 12)) rfl EN.n12 rfl) pa_nil))) (pa_cons (pe_callB (call_isP EX.isx hp hz hf) (by rfl) T.isinstance (by decide +kernel) (pa_cons (pv 0) (pa_cons (pe_glob (v := .ref (c 13)) rfl EN.n13 rfl) pa_nil))) (pa_cons (pe_callB (call_isP EX.isx hp hz hf) (by rfl) T.isinstance (by decide +kernel) (pa_cons (pv 0) (pa_cons (pe_glob (v := .ref (c 14)) rfl EN.n14 rfl) pa_nil))) pa_nil))))) (pg_name (i := 1) sc_sort.nd rfl (.inl rfl)))
      (pss_cons (ps_asg (pe_op op_cat (pv 1) (pe_lst (pa_cons (pe_callB (call_isP EX.isx hp hz hf) (by rfl) T.isinstance (by decide +kernel) (pa_cons (pv 0) (pa_cons (pe_glob (v := .ref (c 15)) rfl EN.n15 rfl) pa_nil))) (pa_cons (pe_callB (call_isP EX.isx hp hz hf) (by rfl) T.isinstance (by decide +kernel) (pa_cons (pv 0) (pa_cons (pe_glob (v := .ref (c 16)) rfl EN.n16 rfl) pa_nil))) (pa_cons (pe_callB (call_isP EX.isx hp hz hf) (by rfl) T.isinstance (by decide +kernel) (pa_cons (pv 0) (pa_cons (pe_glob (v := .ref (c 17)) rfl EN.n17 rfl) pa_nil))) pa_nil))))) (pg_name (i := 1) sc_sort.nd rfl (.inl rfl)))
      (pss_cons (ps_asg (pe_op op_cat (pv 1) (pe_lst (pa_cons (pe_callB (call_isP EX.isx hp hz hf) (by rfl) T.isinstance (by decide +kernel) (pa_cons (pv 0) (pa_cons (pe_glob (v := .ref (c 18)) rfl EN.n18 rfl) pa_nil))) (pa_cons (pe_callB (call_isP EX.isx hp hz hf) (by rfl) T.isinstance (by decide +kernel) (pa_cons (pv 0) (pa_cons (pe_glob (v := .ref (c 19)) rfl EN.n19 rfl) pa_nil))) (pa_cons (pe_callB (call_isP EX.isx hp hz hf) (by rfl) T.isinstance (by decide +kernel) (pa_cons (pv 0) (pa_cons (pe_glob (v := .ref (c 20)) rfl EN.n20 rfl) pa_nil))) pa_nil))))) (pg_name (i := 1) sc_sort.nd rfl (.inl rfl)))
      (pss_cons (ps_asg (pe_op op_cat (pv 1) (pe_lst (pa_cons (pe_callB (call_isP EX.isx hp hz hf) (by rfl) T.isinstance (by decide +kernel) (pa_cons (pv 0) (pa_cons (pe_glob (v := .ref (c 21)) rfl EN.n21 rfl) pa_nil))) (pa_cons (pe_callB (call_isP EX.isx hp hz hf) (by rfl) T.isinstance (by decide +kernel) (pa_cons (pv 0) (pa_cons (pe_glob (v := .ref (c 22)) rfl EN.n22 rfl) pa_nil))) (pa_cons (pe_callB (call_isP EX.isx hp hz hf) (by rfl) T.isinstance (by decide +kernel) (pa_cons (pv 0) (pa_cons (pe_glob (v := .ref (c 23)) rfl EN.n23 rfl) pa_nil))) (pa_cons (pe_callB (call_isP EX.isx hp hz hf) (by rfl) T.isinstance (by decide +kernel) (pa_cons (pv 0) (pa_cons (pe_glob (v := .ref (c 24)) rfl EN.n24 rfl) pa_nil))) pa_nil)))))) (pg_name (i := 1) sc_sort.nd rfl (.inl rfl)))
      (pss_cons (ps_asg (pe_op op_cat (pv 1) (pe_lst (pa_cons (pe_callB (call_isP EX.isx hp hz hf) (by rfl) T.isinstance (by decide +kernel) (pa_cons (pv 0) (pa_cons (pe_glob (v := .ref (c 25)) rfl EN.n25 rfl) pa_nil))) (pa_cons (pe_callB (call_isP EX.isx hp hz hf) (by rfl) T.isinstance (by decide +kernel) (pa_cons (pv 0) (pa_cons (pe_glob (v := .ref (c 26)) rfl EN.n26 rfl) pa_nil))) (pa_cons (pe_callB (call_isP EX.isx hp hz hf) (by rfl) T.isinstance (by decide +kernel) (pa_cons (pv 0) (pa_cons (pe_glob (v := .ref (c 27)) rfl EN.n27 rfl) pa_nil))) pa_nil))))) (pg_name (i := 1) sc_sort.nd rfl (.inl rfl)))
      (pss_cons (ps_asg (pe_op op_cat (pv 1) (pe_lst (pa_cons (pe_callB (call_isP EX.isx hp hz hf) (by rfl) T.isinstance (by decide +kernel) (pa_cons (pv 0) (pa_cons (pe_glob (v := .ref (c 28)) rfl EN.n28 rfl) pa_nil))) (pa_cons (pe_callB (call_isP EX.isx hp hz hf) (by rfl) T.isinstance (by decide +kernel) (pa_cons (pv 0) (pa_cons (pe_glob (v := .ref (c 29)) rfl EN.n29 rfl) pa_nil))) (pa_cons (pe_callB (call_isP EX.isx hp hz hf) (by rfl) T.isinstance (by decide +kernel) (pa_cons (pv 0) (pa_cons (pe_glob (v := .ref (c 30)) rfl EN.n30 rfl) pa_nil))) pa_nil))))) (pg_name (i := 1) sc_sort.nd rfl (.inl rfl)))
      (pss_cons (ps_if (pt_cmpR op_ne (pe_bm PySem.F.plainAttrs_list PySem.F.slot_list_count PySem.F.type_list_count (mt_countB (rh65 hr)) (pv 1) (pa_cons pe_bl pa_nil)) pe_int (nomark _))
      (pss_one (ps_ret pe_str))
      pss_nil)
      (pss_cons (ps_asg (pe_bm PySem.F.plainAttrs_list PySem.F.slot_list_index PySem.F.type_list_index (mt_idx (rh65 hr)) (pv 1) (pa_cons pe_bl pa_nil)) (pg_name (i := 2) sc_sort.nd rfl (.inl rfl)))
      (pss_cons (ps_asg (pe_lst (pa_cons (pe_cmpR op_lt (pv 2) pe_int (nomark _)) (pa_cons (pe_chain op_lt op_lt pe_int (pv 2) pe_int) (pa_cons (pe_cmpR op_lt pe_int (pv 2) (nomark _)) pa_nil)))) (pg_name (i := 3) sc_sort.nd rfl (.inl rfl)))
      (pss_cons (ps_asg (pe_lst (pa_cons (pe_callB (call_isP EX.isx hp hz hf) (by rfl) T.isinstance (by decide +kernel) (pa_cons (pv 0) (pa_cons (pe_bltn (v := .ty "ValueError") (u := .type "ValueError") (by rfl) T.ValueError (by decide +kernel) rfl) pa_nil))) (pa_cons (pe_callB (call_isP EX.isx hp hz hf) (by rfl) T.isinstance (by decide +kernel) (pa_cons (pv 0) (pa_cons (pe_bltn (v := .ty "LookupError") (u := .type "LookupError") (by rfl) T.LookupError (by decide +kernel) rfl) pa_nil))) (pa_cons (pe_callB (call_isP EX.isx hp hz hf) (by rfl) T.isinstance (by decide +kernel) (pa_cons (pv 0) (pa_cons (pe_bltn (v := .ty "ArithmeticError") (u := .type "ArithmeticError") (by rfl) T.ArithmeticError (by decide +kernel) rfl) pa_nil))) pa_nil)))) (pg_name (i := 4) sc_sort.nd rfl (.inl rfl)))
      (pss_cons (ps_if (pt_cmpR (op_neD (rhU hr)) (pe_lst (pa_cons (pe_callB (call_isP EX.isx hp hz hf) (by rfl) T.isinstance (by decide +kernel) (pa_cons (pv 0) (pa_cons (pe_glob (v := .ref (c 31)) rfl EN.n31 rfl) pa_nil))) (pa_cons (pe_callB (call_isP EX.isx hp hz hf) (by rfl) T.isinstance (by decide +kernel) (pa_cons (pv 0) (pa_cons (pe_glob (v := .ref (c 32)) rfl EN.n32 rfl) pa_nil))) (pa_cons (pe_callB (call_isP EX.isx hp hz hf) (by rfl) T.isinstance (by decide +kernel) (pa_cons (pv 0) (pa_cons (pe_glob (v := .ref (c 33)) rfl EN.n33 rfl) pa_nil))) pa_nil)))) (pv 3) (nomark _))
      (pss_one (ps_ret pe_str))
      pss_nil)
      (pss_one (ps_ret (pe_ifExp (pt_val (pe_ix ix_list (pv 4) (pe_bm PySem.F.plainAttrs_list PySem.F.slot_list_index PySem.F.type_list_index (mt_idx (rh65 hr)) (pv 3) (pa_cons pe_bl pa_nil)) (fun _ _ => rfl))) (pe_ix ix_list (pe_call0P G_terms hG (hr.mono (by decide)) hp rfl D_terms.mg D_terms.fn.kp D_terms.bd) (pv 2) (fun _ _ => rfl)) pe_str)))))))))))))))))), ?_⟩
    refine ⟨_, rfl, is_r EX EA (i := 0) (by decide) ⟨_, rfl, is_r EX EA (i := 1) (by decide) ⟨_, rfl, is_r EX EA (i := 2) (by decide) ⟨by show 3 ≤ sizeLine; decide, fun q0 m0 => ?_⟩⟩⟩⟩
    have s1 := same_new (o := .lst [.bl (decide (0 = j)), .bl (decide (1 = j)), .bl (decide (2 = j))]) m0
    refine ⟨_, rfl, ⟨_, rfl, is_r EX (EA.same s1) (i := 3) (by decide) ⟨_, rfl, is_r EX (EA.same s1) (i := 4) (by decide) ⟨_, rfl, is_r EX (EA.same s1) (i := 5) (by decide) ⟨by show 3 ≤ sizeLine; decide, fun q1 m1 => ⟨_, q1, _, _, rfl, rfl, same_new m1 _ _ upd_same, upd_same, by show 6 ≤ sizeLine; decide, fun r1 n1 => ?_⟩⟩⟩⟩⟩⟩
    have s2 := (s1.trans (same_new (o := .lst [.bl (decide (3 = j)), .bl (decide (4 = j)), .bl (decide (5 = j))]) m1)).trans (same_new (o := .lst [.bl (decide (0 = j)), .bl (decide (1 = j)), .bl (decide (2 = j)), .bl (decide (3 = j)), .bl (decide (4 = j)), .bl (decide (5 = j))]) n1)
    clear s1
    refine ⟨_, rfl, ⟨_, rfl, is_r EX (EA.same s2) (i := 6) (by decide) ⟨_, rfl, is_r EX (EA.same s2) (i := 7) (by decide) ⟨_, rfl, is_r EX (EA.same s2) (i := 8) (by decide) ⟨by show 3 ≤ sizeLine; decide, fun q2 m2 => ⟨_, q2, _, _, rfl, rfl, same_new m2 _ _ upd_same, upd_same, by show 9 ≤ sizeLine; decide, fun r2 n2 => ?_⟩⟩⟩⟩⟩⟩
    have s3 := (s2.trans (same_new (o := .lst [.bl (decide (6 = j)), .bl (decide (7 = j)), .bl (decide (8 = j))]) m2)).trans (same_new (o := .lst [.bl (decide (0 = j)), .bl (decide (1 = j)), .bl (decide (2 = j)), .bl (decide (3 = j)), .bl (decide (4 = j)), .bl (decide (5 = j)), .bl (decide (6 = j)), .bl (decide (7 = j)), .bl (decide (8 = j))]) n2)
    clear s2
    refine ⟨_, rfl, ⟨_, rfl, is_r EX (EA.same s3) (i := 9) (by decide) ⟨_, rfl, is_r EX (EA.same s3) (i := 10) (by decide) ⟨_, rfl, is_r EX (EA.same s3) (i := 11) (by decide) ⟨by show 3 ≤ sizeLine; decide, fun q3 m3 => ⟨_, q3, _, _, rfl, rfl, same_new m3 _ _ upd_same, upd_same, by show 12 ≤ sizeLine; decide, fun r3 n3 => ?_⟩⟩⟩⟩⟩⟩
    have s4 := (s3.trans (same_new (o := .lst [.bl (decide (9 = j)), .bl (decide (10 = j)), .bl (decide (11 = j))]) m3)).trans (same_new (o := .lst [.bl (decide (0 = j)), .bl (decide (1 = j)), .bl (decide (2 = j)), .bl (decide (3 = j)), .bl (decide (4 = j)), .bl (decide (5 = j)), .bl (decide (6 = j)), .bl (decide (7 = j)), .bl (decide (8 = j)), .bl (decide (9 = j)), .bl (decide (10 = j)), .bl (decide (11 = j))]) n3)
    clear s3
    refine ⟨_, rfl, ⟨_, rfl, is_r EX (EA.same s4) (i := 12) (by decide) ⟨_, rfl, is_r EX (EA.same s4) (i := 13) (by decide) ⟨_, rfl, is_r EX (EA.same s4) (i := 14) (by decide) ⟨by show 3 ≤ sizeLine; decide, fun q4 m4 => ⟨_, q4, _, _, rfl, rfl, same_new m4 _ _ upd_same, upd_same, by show 15 ≤ sizeLine; decide, fun r4 n4 => ?_⟩⟩⟩⟩⟩⟩
    have s5 := (s4.trans (same_new (o := .lst [.bl (decide (12 = j)), .bl (decide (13 = j)), .bl (decide (14 = j))]) m4)).trans (same_new (o := .lst [.bl (decide (0 = j)), .bl (decide (1 = j)), .bl (decide (2 = j)), .bl (decide (3 = j)), .bl (decide (4 = j)), .bl (decide (5 = j)), .bl (decide (6 = j)), .bl (decide (7 = j)), .bl (decide (8 = j)), .bl (decide (9 = j)), .bl (decide (10 = j)), .bl (decide (11 = j)), .bl (decide (12 = j)), .bl (decide (13 = j)), .bl (decide (14 = j))]) n4)
    clear s4
    refine ⟨_, rfl, ⟨_, rfl, is_r EX (EA.same s5) (i := 15) (by decide) ⟨_, rfl, is_r EX (EA.same s5) (i := 16) (by decide) ⟨_, rfl, is_r EX (EA.same s5) (i := 17) (by decide) ⟨by show 3 ≤ sizeLine; decide, fun q5 m5 => ⟨_, q5, _, _, rfl, rfl, same_new m5 _ _ upd_same, upd_same, by show 18 ≤ sizeLine; decide, fun r5 n5 => ?_⟩⟩⟩⟩⟩⟩
    have s6 := (s5.trans (same_new (o := .lst [.bl (decide (15 = j)), .bl (decide (16 = j)), .bl (decide (17 = j))]) m5)).trans (same_new (o := .lst [.bl (decide (0 = j)), .bl (decide (1 = j)), .bl (decide (2 = j)), .bl (decide (3 = j)), .bl (decide (4 = j)), .bl (decide (5 = j)), .bl (decide (6 = j)), .bl (decide (7 = j)), .bl (decide (8 = j)), .bl (decide (9 = j)), .bl (decide (10 = j)), .bl (decide (11 = j)), .bl (decide (12 = j)), .bl (decide (13 = j)), .bl (decide (14 = j)), .bl (decide (15 = j)), .bl (decide (16 = j)), .bl (decide (17 = j))]) n5)
    clear s5
    refine ⟨_, rfl, ⟨_, rfl, is_r EX (EA.same s6) (i := 18) (by decide) ⟨_, rfl, is_r EX (EA.same s6) (i := 19) (by decide) ⟨_, rfl, is_r EX (EA.same s6) (i := 20) (by decide) ⟨by show 3 ≤ sizeLine; decide, fun q6 m6 => ⟨_, q6, _, _, rfl, rfl, same_new m6 _ _ upd_same, upd_same, by show 21 ≤ sizeLine; decide, fun r6 n6 => ?_⟩⟩⟩⟩⟩⟩
    have s7 := (s6.trans (same_new (o := .lst [.bl (decide (18 = j)), .bl (decide (19 = j)), .bl (decide (20 = j))]) m6)).trans (same_new (o := .lst [.bl (decide (0 = j)), .bl (decide (1 = j)), .bl (decide (2 = j)), .bl (decide (3 = j)), .bl (decide (4 = j)), .bl (decide (5 = j)), .bl (decide (6 = j)), .bl (decide (7 = j)), .bl (decide (8 = j)), .bl (decide (9 = j)), .bl (decide (10 = j)), .bl (decide (11 = j)), .bl (decide (12 = j)), .bl (decide (13 = j)), .bl (decide (14 = j)), .bl (decide (15 = j)), .bl (decide (16 = j)), .bl (decide (17 = j)), .bl (decide (18 = j)), .bl (decide (19 = j)), .bl (decide (20 = j))]) n6)
    clear s6
    refine ⟨_, rfl, ⟨_, rfl, is_r EX (EA.same s7) (i := 21) (by decide) ⟨_, rfl, is_r EX (EA.same s7) (i := 22) (by decide) ⟨_, rfl, is_r EX (EA.same s7) (i := 23) (by decide) ⟨_, rfl, is_r EX (EA.same s7) (i := 24) (by decide) ⟨by show 4 ≤ sizeLine; decide, fun q7 m7 => ⟨_, q7, _, _, rfl, rfl, same_new m7 _ _ upd_same, upd_same, by show 25 ≤ sizeLine; decide, fun r7 n7 => ?_⟩⟩⟩⟩⟩⟩⟩
    have s8 := (s7.trans (same_new (o := .lst [.bl (decide (21 = j)), .bl (decide (22 = j)), .bl (decide (23 = j)), .bl (decide (24 = j))]) m7)).trans (same_new (o := .lst [.bl (decide (0 = j)), .bl (decide (1 = j)), .bl (decide (2 = j)), .bl (decide (3 = j)), .bl (decide (4 = j)), .bl (decide (5 = j)), .bl (decide (6 = j)), .bl (decide (7 = j)), .bl (decide (8 = j)), .bl (decide (9 = j)), .bl (decide (10 = j)), .bl (decide (11 = j)), .bl (decide (12 = j)), .bl (decide (13 = j)), .bl (decide (14 = j)), .bl (decide (15 = j)), .bl (decide (16 = j)), .bl (decide (17 = j)), .bl (decide (18 = j)), .bl (decide (19 = j)), .bl (decide (20 = j)), .bl (decide (21 = j)), .bl (decide (22 = j)), .bl (decide (23 = j)), .bl (decide (24 = j))]) n7)
    clear s7
    refine ⟨_, rfl, ⟨_, rfl, is_r EX (EA.same s8) (i := 25) (by decide) ⟨_, rfl, is_r EX (EA.same s8) (i := 26) (by decide) ⟨_, rfl, is_r EX (EA.same s8) (i := 27) (by decide) ⟨by show 3 ≤ sizeLine; decide, fun q8 m8 => ⟨_, q8, _, _, rfl, rfl, same_new m8 _ _ upd_same, upd_same, by show 28 ≤ sizeLine; decide, fun r8 n8 => ?_⟩⟩⟩⟩⟩⟩
    have s9 := (s8.trans (same_new (o := .lst [.bl (decide (25 = j)), .bl (decide (26 = j)), .bl (decide (27 = j))]) m8)).trans (same_new (o := .lst [.bl (decide (0 = j)), .bl (decide (1 = j)), .bl (decide (2 = j)), .bl (decide (3 = j)), .bl (decide (4 = j)), .bl (decide (5 = j)), .bl (decide (6 = j)), .bl (decide (7 = j)), .bl (decide (8 = j)), .bl (decide (9 = j)), .bl (decide (10 = j)), .bl (decide (11 = j)), .bl (decide (12 = j)), .bl (decide (13 = j)), .bl (decide (14 = j)), .bl (decide (15 = j)), .bl (decide (16 = j)), .bl (decide (17 = j)), .bl (decide (18 = j)), .bl (decide (19 = j)), .bl (decide (20 = j)), .bl (decide (21 = j)), .bl (decide (22 = j)), .bl (decide (23 = j)), .bl (decide (24 = j)), .bl (decide (25 = j)), .bl (decide (26 = j)), .bl (decide (27 = j))]) n8)
    clear s8
    refine ⟨_, rfl, ⟨_, rfl, is_r EX (EA.same s9) (i := 28) (by decide) ⟨_, rfl, is_r EX (EA.same s9) (i := 29) (by decide) ⟨_, rfl, is_r EX (EA.same s9) (i := 30) (by decide) ⟨by show 3 ≤ sizeLine; decide, fun q9 m9 => ⟨_, q9, _, _, rfl, rfl, same_new m9 _ _ upd_same, upd_same, by show 31 ≤ sizeLine; decide, fun r9 n9 => ?_⟩⟩⟩⟩⟩⟩
    have s10 := (s9.trans (same_new (o := .lst [.bl (decide (28 = j)), .bl (decide (29 = j)), .bl (decide (30 = j))]) m9)).trans (same_new (o := .lst ([.bl (decide (0 = j)), .bl (decide (1 = j)), .bl (decide (2 = j)), .bl (decide (3 = j)), .bl (decide (4 = j)), .bl (decide (5 = j)), .bl (decide (6 = j)), .bl (decide (7 = j)), .bl (decide (8 = j)), .bl (decide (9 = j)), .bl (decide (10 = j)), .bl (decide (11 = j)), .bl (decide (12 = j)), .bl (decide (13 = j)), .bl (decide (14 = j)), .bl (decide (15 = j)), .bl (decide (16 = j)), .bl (decide (17 = j)), .bl (decide (18 = j)), .bl (decide (19 = j)), .bl (decide (20 = j)), .bl (decide (21 = j)), .bl (decide (22 = j)), .bl (decide (23 = j)), .bl (decide (24 = j)), .bl (decide (25 = j)), .bl (decide (26 = j)), .bl (decide (27 = j))] ++ [.bl (decide (28 = j)), .bl (decide (29 = j)), .bl (decide (30 = j))])) n9)
    clear s9
    dsimp only [gName]
    generalize hx : upd _ r9 _ = Hx at s10 ⊢
    have hLx : Hx r9 = some (.lst ((bitsOf j).map V.bl)) := by
      rw [← hx]
      exact upd_same
    clear hx
    have hL : SqL K Hx r9 ((bitsOf j).map V.bl) := SqL.of hLx
    refine ⟨_, rfl, .inl ⟨rfl, _, hL⟩, r9, bitsOf j, rfl, rfl, hL, rfl, _, rfl, ?_⟩
    rw [sort_count j hj]
    refine ifNF rfl ?_
    refine ⟨_, rfl, .inl ⟨rfl, _, hL⟩, sort_index hj hL ?_⟩
    refine ⟨_, rfl, _, _, rfl, rfl, chain_i (n := 2) rfl ⟨_, rfl, _, _, rfl, rfl, by show 3 ≤ sizeLine; decide, fun a1 b1 => ?_⟩⟩
    rw [due_list hj]
    have t1 := s10.trans (same_new (o := .lst ((dueBits j).map V.bl)) b1)
    have E1 := EA.same t1
    refine ⟨_, rfl, rIsP_in (cv := .type "ValueError") (fun _ r => r) EX.tV E1.2.2 ⟨_, rfl, rIsP_in (cv := .type "LookupError") (fun _ r => r) EX.tL E1.2.2 ⟨_, rfl, rIsP_in (cv := .type "ArithmeticError") (fun _ r => r) EX.tA E1.2.2 ⟨by show 3 ≤ sizeLine; decide, fun a2 b2 => ?_⟩⟩⟩⟩
    have t2 := t1.trans (same_new (o := .lst ((dueBits j).map V.bl)) b2)
    have E2 := EA.same t2
    have D2 := same_new (o := .lst ((dueBits j).map V.bl)) b2 _ _ (upd_same (H := Hx) (a := a1) (o := .lst ((dueBits j).map V.bl)))
    refine ⟨_, rfl, rIsP_in (cv := .ref (c 31)) (fun _ r => r) EX.kV E2.2.2 ⟨_, rfl, rIsP_in (cv := .ref (c 32)) (fun _ r => r) EX.kN E2.2.2 ⟨_, rfl, rIsP_in (cv := .ref (c 33)) (fun _ r => r) EX.kP E2.2.2 ⟨by show 3 ≤ sizeLine; decide, fun a3 b3 => ?_⟩⟩⟩⟩
    have t3 := t2.trans (same_new (o := .lst ((dueBits j).map V.bl)) b3)
    obtain ⟨e1, e2⟩ := due_eqv j hj
    refine ⟨_, rfl, .list ((dueBits j).map PyData.bool), .list ((dueBits j).map PyData.bool), .lst (SqL.of upd_same) (dp_bools (dueBits j)), .lst (SqL.of (same_new b3 _ _ D2)) (dp_bools (dueBits j)), e2, e2, _, rfl, ?_⟩
    rw [e1]
    refine iteF ?_
    have O3 := same_new (o := .lst ((dueBits j).map V.bl)) b3 _ _ (upd_same (a := a2) (o := .lst ((dueBits j).map V.bl)))
    have D3 := same_new (o := .lst ((dueBits j).map V.bl)) b3 _ _ D2
    refine ⟨_, rfl, _, rfl, .inl ⟨rfl, _, SqL.of D3⟩, due_index hj (SqL.of D3) ⟨_, _, _, _, rfl, rfl, SqL.of O3, due_at j hj, _, rfl, iteT ?_⟩⟩
    refine ⟨rfl, fun q H' q0 sq hq => ⟨_, rfl, q, _, _, _, rfl, rfl, SqL.of hq, terms_at j hj, ret _ (t3.trans sq)⟩⟩
end L

namespace Hv
open PySem L2
/-- all that the walks ask of the error class j, of the classes cs -/
def errB (K : PySem.W.Frag) (cs : List Addr) (j : Nat) : Bool :=
  let D := cs.getD j 0
  decide (PySem.W.findIn K (.ref D) "__getattribute__" = some (some (.builtin "BaseException.__getattribute__"))) && (decide (PySem.W.findIn K (.ref D) "__getattr__" = some none) && (decide (PySem.W.subIn K (.ref D) (.type "BaseException") = some true) && (PySem.W.hasDictIn K D &&
  (decide (PySem.W.findIn K (.ref D) "__class__" = some (some (.builtin "object.__class__"))) && (decide (PySem.W.specialIn K (.builtin "object.__class__") "__get__" = some (some (.builtin "getset_descriptor.__get__"))) && (decide (PySem.W.takesIn K (.builtin "object.__class__") = some true) &&
  (decide (PySem.W.mroIn K D (.type "object") = some true) && ((List.range 31).all (fun i => decide (PySem.W.kitOne K (.ref D) (.ref (cs.getD i 0)) = some (decide (i = j)))) && (decide (PySem.W.kitOne K (.ref D) (.ref (cs.getD 31 0)) = some (decide (j < 19))) &&
  (decide (PySem.W.kitOne K (.ref D) (.ref (cs.getD 32 0)) = some (decide (18 < j) && decide (j < 22))) && (decide (PySem.W.kitOne K (.ref D) (.ref (cs.getD 33 0)) = some (decide (21 < j))) && (decide (PySem.W.kitOne K (.ref D) (.type "ValueError") = some (decide (j < 19))) &&
  (decide (PySem.W.kitOne K (.ref D) (.type "LookupError") = some (decide (18 < j) && decide (j < 22))) && (decide (PySem.W.kitOne K (.ref D) (.type "ArithmeticError") = some (decide (21 < j))) && (decide (PySem.W.findIn K (.ref D) "given" = some none) && (decide (PySem.W.findIn K (.ref D) "index" = some none) &&
  (decide (PySem.W.findIn K (.ref D) "kind" = some none) && (decide (PySem.W.findIn K (.ref D) "house" = some none) && decide (PySem.W.exmAny K (.ref D) [.ref (cs.getD 31 0), .ref (cs.getD 32 0), .ref (cs.getD 33 0)] = some true)))))))))))))))))))
theorem errB_ok {K : PySem.W.Frag} {cs : List Addr} {j : Nat} (h : errB K cs j = true) : ErrIx K (fun i => cs.getD i 0) j := by
  unfold errB at h
  simp only [Bool.and_eq_true, decide_eq_true_eq, List.all_eq_true, List.mem_range] at h
  obtain ⟨h1, h2, h3, h4, h5, h6, h7, h8, h9, h10, h11, h12, h13, h14, h15, h16, h17, h18, h19, h20⟩ := h
  exact ⟨⟨h1, h2, h3, h4, h5, h6, h7, h8⟩, ⟨h1, h2, h3, h4⟩, fun i hi => h9 i hi, h10, h11, h12, h13, h14, h15, h16, h17, h18, h19, h20⟩
/-- what the top has left of an error class with one field -/
structure ErrIn (K : PySem.W.Frag) (C : Addr) (f : Str) : Prop where
  oex : OexC K C
  ini : ∃ (fI : Addr) (oc : Value) (od : Option Addr) (kV doc pm : Value) (an : Option Addr) (cd ct : Value) (sl : Array (Option Value)) (q : Str) (p1 p2 q1 q2 q3 q4 : Pos),
    PySem.W.findIn K (.ref C) "__init__" = some (some (.ref fI)) ∧ PySem.W.typeIn K (.ref fI) = some (.type "function") ∧
    K.lookup fI = some ⟨oc, od, .func (PySem.W.fnOf "__init__" q (eA f p1 p2) (eB f q1 q2 q3 q4) (eS f) .none kV doc pm an cd ct), sl⟩ ∧ PySem.W.codeIn K cd q = true
theorem errIn_mk {K : PySem.W.Frag} {C fI : Addr} {f : Str} {nm q0 : Str} {N : Addr} {bs bm : List Value} {sn sub ab col dd k0 k1 k2 k3 k5} {oc : Value} {od : Option Addr} {kV doc pm : Value} {an : Option Addr} {cd ct : Value} {sl : Array (Option Value)} {q : Str} {p1 p2 q1 q2 q3 q4 : Pos}
    (h1 : K.lookup C = some (excClassObj nm q0 C N bs bm true sn sub ab col dd k0 k1 k2 k3 k5 "ValueError.__new__")) (h2 : PySem.HandSPX.refsVE bm = true) (h3 : PySem.W.findIn K (.ref C) "__setattr__" = some (some (.builtin "object.__setattr__")))
    (h4 : PySem.W.subIn K (.ref C) (.type "BaseException") = some true) (h5 : PySem.W.typeIn K (.ref C) = some (.type "type")) (h6 : PySem.W.keepIn K (.ref C) = true) (h7 : PySem.W.findIn K (.ref C) "__init__" = some (some (.ref fI))) (h8 : PySem.W.typeIn K (.ref fI) = some (.type "function"))
    (h9 : K.lookup fI = some ⟨oc, od, .func (PySem.W.fnOf "__init__" q (eA f p1 p2) (eB f q1 q2 q3 q4) (eS f) .none kV doc pm an cd ct), sl⟩) (h10 : PySem.W.codeIn K cd q = true) : ErrIn K C f :=
  ⟨⟨⟨nm, q0, N, bs, bm, sn, sub, ab, col, dd, k0, k1, k2, k3, k5, h1, h2⟩, h3, h4, h5, h6⟩, fI, oc, od, kV, doc, pm, an, cd, ct, sl, q, p1, p2, q1, q2, q3, q4, h7, h8, h9, h10⟩
theorem ErrIn.txt {K : PySem.W.Frag} {mg : Str → Option Value} {C : Addr} {x f : Str} (h : ErrIn K C f) (hm : mg x = some (.ref C)) (hi : ExcC K C) (hn : PySem.W.findIn K (.ref C) f = some none) (hf : FldOk f) : ErrTxt K mg x f C := ⟨hm, hf, h.oex, hi, hn, h.ini⟩
theorem tabIn_code {K : PySem.W.Frag} {x : Str} {c P f : Addr} {oc : Value} {od : Option Addr} {fd : FuncData} {sl : Array (Option Value)} (t : TabIn K x c P) (h1 : PySem.W.nsIn K mainGlobals x = some (some (.ref f))) (h2 : K.lookup f = some ⟨oc, od, .func fd, sl⟩) : fd.code = .ref c := by
  obtain ⟨f', o, fd', e, dd, vs, sl', k1, k2, k3, k4, _⟩ := t
  rw [h1] at k1
  cases k1
  rw [h2] at k2
  cases k2
  cases k3
  exact k4
end Hv

namespace Hv
open PySem L2
def L1 : List V := [.str "InvalidKinds", .str "InvalidRows", .str "InvalidChanges", .str "InvalidWishes", .str "InUse"]
def L2' : List V := [.str "IsClosed", .str "NotListed", .str "TooFew", .str "UsedUp", .str "CannotClose"]
def L3 : List V := [.str "Over", .str "NothingToUndo", .str ""]
theorem held_tab : ∀ j < 31, oneF j = true → inV (.str (term j)) L1 = decide (fieldOf j = "index") ∧ inV (.str (term j)) L2' = decide (fieldOf j = "kind") ∧ inV (.str (term j)) L3 = false ∧ decide (V.str (term j) = V.str "Broken") = false ∧
    (fieldOf j ≠ "index" → fieldOf j ≠ "kind" → fieldOf j = "given") := by decide +kernel
theorem oneF_lt {j : Nat} (h : oneF j = true) : j < 31 := by
  unfold oneF at h
  simp only [Bool.and_eq_true, decide_eq_true_eq] at h
  omega
end Hv
namespace L
open PySem L2 Hv
variable {P : Program} {w : World} {K : PySem.W.Frag} {mg : Str → Option Value} {base : Heap}
abbrev s_held : Stmt := top 53
abbrev N_held : List Str := ["_law_e", "_law_term"]
abbrev P_held : List Str := ["_law_e", "_law_term"]
theorem sc_held : FnScope N_held P_held (defScope s_held) := ⟨rfl, rfl, rfl, by decide +kernel, rfl, by decide +kernel, by decide +kernel⟩
theorem ok_held {f : Addr} {fd : FuncData} {c : Nat → Addr} (D : DefAt K mg "_law_held" s_held P_held f fd) (T : Txt K mg) : FnP P w K mg base 1 f fd P_held (sp_held K c) := by
  refine fnP_of D.fn sc_held (fun p vs H Q E h => ?_) (fun cdv A outer s H vs Q p hG hr h => ?_)
  · obtain ⟨j, d, v, rfl, _⟩ := h
    rfl
  · obtain ⟨j, d, v, rfl, hj, EX, EA, ret⟩ := h
    have hp : p ∈ [p] := List.mem_singleton.mpr rfl
    have hz := EA.1
    have hf := EA.2.1
    have h31 := oneF_lt hj
    obtain ⟨t1, t2, t3, t4, t5⟩ := held_tab j h31 hj
    refine ⟨_, (pss_cons (ps_if (pt_cmpR op_in_seq (pv 1) (pe_lst (pa_cons pe_str (pa_cons pe_str (pa_cons pe_str (pa_cons pe_str (pa_cons pe_str pa_nil)))))) (by rfl))
      (pss_one (ps_ret (pe_xp EX.xf (EX.f_index) hp hz hf (pv 0))))
      pss_nil)
      (pss_cons (ps_if (pt_cmpR op_in_seq (pv 1) (pe_lst (pa_cons pe_str (pa_cons pe_str (pa_cons pe_str (pa_cons pe_str (pa_cons pe_str pa_nil)))))) (by rfl))
      (pss_one (ps_ret (pe_xp EX.xf (EX.f_kind) hp hz hf (pv 0))))
      pss_nil)
      (pss_cons (ps_if (pt_cmpR op_in_seq (pv 1) (pe_lst (pa_cons pe_str (pa_cons pe_str (pa_cons pe_str pa_nil)))) (by rfl))
      (pss_one (ps_ret pe_non))
      pss_nil)
      (pss_one (ps_ret (pe_ifExp (pt_cmpR op_eq (pv 1) pe_str (nomark _)) (pe_lst (pa_cons (pe_xp EX.xf (EX.f_index) hp hz hf (pv 0)) (pa_cons (pe_xp EX.xf (EX.f_house) hp hz hf (pv 0)) pa_nil))) (pe_xp EX.xf (EX.f_given) hp hz hf (pv 0)))))))), ?_⟩
    refine ⟨_, rfl, by show 5 ≤ sizeLine; decide, fun p1 n1 => ⟨p1, L1, rfl, .inl (SqL.of upd_same), rfl, rfl, _, rfl, ?_⟩⟩
    have s1 := same_new (o := .lst L1) n1
    rw [t1]
    by_cases f1 : fieldOf j = "index"
    · refine ifT f1 ⟨_, rfl, rfl, _, v, (EA.same s1).2.2, by rw [f1]; rfl, ret _ s1⟩
    · refine ifF f1 ?_
      refine ⟨_, rfl, by show 5 ≤ sizeLine; decide, fun p2 n2 => ⟨p2, L2', rfl, .inl (SqL.of upd_same), rfl, rfl, _, rfl, ?_⟩⟩
      have s2 := s1.trans (same_new (o := .lst L2') n2)
      rw [t2]
      by_cases f2 : fieldOf j = "kind"
      · refine ifT f2 ⟨_, rfl, rfl, _, v, (EA.same s2).2.2, by rw [f2]; rfl, ret _ s2⟩
      · refine ifF f2 ?_
        refine ⟨_, rfl, by show 3 ≤ sizeLine; decide, fun p3 n3 => ⟨p3, L3, rfl, .inl (SqL.of upd_same), rfl, rfl, _, rfl, ?_⟩⟩
        have s3 := s2.trans (same_new (o := .lst L3) n3)
        rw [t3]
        refine iteF ⟨_, rfl, rfl, _, rfl, ?_⟩
        rw [t4]
        refine iteF ⟨_, rfl, rfl, _, v, (EA.same s3).2.2, by rw [t5 f1 f2]; rfl, ret _ s3⟩
end L
namespace Hv
open PySem PySem.Spec PyProof.Rows L2
theorem pe_imp {X : Cx} {e : Expr} {t t' : TE} (he : PE X e t) (h : ∀ σ H Q, t' σ H Q → t σ H Q) : PE X e t' := ⟨fun pins s σ H Q I q => he.run pins s σ H Q I (h σ H Q q)⟩
/-- what the catcher makes of an error -/
def echQ (K : PySem.W.Frag) (c : Nat → Addr) (Q : VK) : XK := fun cls d H' => ∃ (j : Nat) (b : Addr) (v : V) (pd : PyData) (m n : Nat), cls = .ref (c j) ∧ oneF j = true ∧ ErrIx K c j ∧ XdAt H' d [(fieldOf j, v)] ∧ Dq K b H' v pd ∧ FitQ pd m n ∧ m ≤ 60 ∧ n ≤ 5000 ∧
  ∀ p H2, H' p = none → Same H' H2 → H2 p = some (.lst [.str (term j), .str pd.shown]) → Q (.ref p) H2
/-- what it makes of a value -/
def toldQ (K : PySem.W.Frag) (Q : VK) : VK := fun v H1 => ∃ v0 : V, (some (some v) : Option (Option V)) = some (some v0) ∧ rReprQ K [v0] H1 fun x H2 => 2 ≤ sizeLine ∧ ∀ p, H2 p = none → Q (.ref p) (upd H2 p (.lst [.str "told", x]))
/-- what the catcher makes of a call: tl is its reading -/
def TCaught (K : PySem.W.Frag) (c : Nat → Addr) : (XK → Hp → VK → Prop) → Hp → VK → Prop := fun tl H Q => tl (echQ K c Q) H (toldQ K Q)
end Hv
namespace L
open PySem PySem.Spec PyProof.Rows L2 Hv
abbrev s_caught : Stmt := top 54
abbrev N_caught : List Str := ["_law_act", "_law_told", "_law_e", "_law_term"]
abbrev P_caught : List Str := ["_law_act"]
theorem sc_caught : FnScope N_caught P_caught (defScope s_caught) := ⟨rfl, rfl, rfl, by decide +kernel, rfl, by decide +kernel, by decide +kernel⟩
theorem caught_gives {X : Cx} {c : Nat → Addr} {g f1 f2 : Addr} {fd1 fd2 : FuncData} {cdg : Value} {q : Str} (hX : Room 4 X.A) (hG : X.A.guards = some []) (T : Txt X.K X.mg) (EN : ErrNames X.mg c)
    (D_sort : DefAt X.K X.mg "_law_sort" s_sort P_sort f1 fd1) (G_sort : FnP X.prog X.w X.K X.mg X.base 2 f1 fd1 P_sort (sp_sort X.K c))
    (D_held : DefAt X.K X.mg "_law_held" s_held P_held f2 fd2) (G_held : FnP X.prog X.w X.K X.mg X.base 1 f2 fd2 P_held (sp_held X.K c)) :
    LamX.GivesTo X N_caught "_law_caught" (defScope s_caught) g cdg (defBody s_caught) "_law_act" q (TCaught X.K c) := by
  intro f c' s H Q tl act hc h
  have rm := (L2H.roomH_of (hX.deeper (envOfC "_law_caught" (defScope s_caught) s.heap.objs.size g cdg))).mono (by decide : 2 ≤ 3)
  have bR : bootBuiltins "repr" = some (.builtin "repr") := by decide +kernel
  have hr := hX.deeper (envOfC "_law_caught" (defScope s_caught) s.heap.objs.size g cdg)
  refine ⟨_, pss_cons (ps_try_tup (X := (cxOf CX0 X.prog X.w X.K X.mg X.base N_caught "_law_caught" (defScope s_caught) g cdg X.A X.stack s H E0).nox) (i := 2)
      (tb := fun W D σ H => ∃ Ech : XK, (∀ cls d σ' H', Ech cls d H' → W cls d σ' H') ∧ σ[0]? = some (some (.ref f)) ∧ H c' = some (LamX.CodeO c' q) ∧ tl Ech H (fun v H' => D.nx (σ.set 1 (some v)) H'))
      rfl rfl sc_caught.nd rfl rfl rfl rfl rfl EN.n31 EN.n32 EN.n33 (fun W pn xe tk _ => ?b) (fun a oe cls d pn hz hf => pss_cons (ps_asg (pe_imp (t' := fun σ H Q => ∃ (j : Nat) (v : V), cls = .ref (c j) ∧ σ[2]? = some (some (.ref a)) ∧ j < 31 ∧ ErrIx X.K c j ∧ XdAt H d [(fieldOf j, v)] ∧ ∀ H', Same H H' → Q (.str (term j)) H')
          (pe_callP (X := (cxOf CX0 X.prog X.w X.K X.mg X.base N_caught "_law_caught" (defScope s_caught) g cdg X.A X.stack s H E0).nox.suite a ((a, oe) :: pn)) (p := (a, oe)) (x := "_law_sort") G_sort hG ⟨rm.dp, rm.un⟩ List.mem_cons_self rfl D_sort.mg D_sort.fn.kp D_sort.bd (pa_cons (pv 2) pa_nil)) ?s1) (pg_name (i := 3) sc_caught.nd rfl (.inl rfl)))
        (pss_one (ps_ret (pe_lst (pa_cons (pv 3) (pa_cons (pe_callB (show CallR ((cxOf CX0 X.prog X.w X.K X.mg X.base N_caught "_law_caught" (defScope s_caught) g cdg X.A X.stack s H E0).nox.suite a ((a, oe) :: pn)) (.builtin "repr") (rReprQ X.K) from cr_reprQ hG hr.units) (by rfl) T.repr bR (pa_cons (pe_imp (t' := fun σ H Q => ∃ (j : Nat) (v : V), cls = .ref (c j) ∧ σ[2]? = some (some (.ref a)) ∧ σ[3]? = some (some (.str (term j))) ∧ oneF j = true ∧ ErrIx X.K c j ∧ XdAt H d [(fieldOf j, v)] ∧ ∀ H', Same H H' → Q v H')
            (pe_callP (X := (cxOf CX0 X.prog X.w X.K X.mg X.base N_caught "_law_caught" (defScope s_caught) g cdg X.A X.stack s H E0).nox.suite a ((a, oe) :: pn)) (p := (a, oe)) (x := "_law_held") G_held hG ⟨(rm.mono (by decide : 1 ≤ 2)).dp, (rm.mono (by decide : 1 ≤ 2)).un⟩ List.mem_cons_self rfl D_held.mg D_held.fn.kp D_held.bd (pa_cons (pv 2) (pa_cons (pv 3) pa_nil))) ?s2) pa_nil)) pa_nil)))))))
      (pss_one (ps_ret (pe_lst (pa_cons pe_str (pa_cons (pe_callB (cr_reprQ (X := (cxOf CX0 X.prog X.w X.K X.mg X.base N_caught "_law_caught" (defScope s_caught) g cdg X.A X.stack s H E0).nox) hG hr.units) (by rfl) T.repr bR (pa_cons (pv 1) pa_nil)) pa_nil))))), ?_⟩
  case b =>
    refine ⟨fun pins s' σ H' D I h' => ?_⟩
    obtain ⟨Ech, hW, h1, h2, h3⟩ := h'
    exact (pss_one (ps_asg (act W pn xe Ech _ _ tk hW) (pg_name (i := 1) sc_caught.nd rfl (.inl rfl)))).run pins s' σ H' D I ⟨h1, h2, h3⟩
  case s1 =>
    rintro σ H Q ⟨j, v, rfl, hs, hj, EX, xd, q⟩
    exact ⟨_, hs, j, d, v, rfl, hj, EX, ⟨hz, hf, xd⟩, q⟩
  case s2 =>
    rintro σ H Q ⟨j, v, rfl, hs, ht, hj, EX, xd, q⟩
    exact ⟨_, hs, _, ht, j, d, v, rfl, hj, EX, ⟨hz, hf, xd⟩, q⟩
  refine ⟨echQ X.K c Q, fun cls d σ' H' z => ?_, rfl, hc, ?_⟩
  · obtain ⟨j, b, v, pd, m, n, rfl, hj, EX, xd, hd, ft, hm, hn, ret⟩ := z
    intro len
    refine ⟨EX.any, fun a na => ?_⟩
    have len : σ'.length = 4 := len
    match σ', len with
    | [x0, x1, x2, x3], _ =>
    refine ⟨j, v, rfl, rfl, oneF_lt hj, EX, xd, fun H1 s1 => ?_⟩
    refine ⟨_, rfl, j, v, rfl, rfl, rfl, hj, EX, xd.same s1, fun H2 s2 => ?_⟩
    have s12 := s1.trans s2
    refine rd_reprQ (hd.same s12) ft hm hn ⟨by show 2 ≤ sizeLine; decide, fun p np => ?_⟩
    exact ret p _ (s12.free np) (s12.trans (same_new np)) upd_same
  · exact h
end L

namespace Hv
open PySem PySem.Spec PyProof.Rows L2
/-- the rule for a def, where no repr is under way; its code object is known -/
theorem okGc {P : Program} {w : World} {K : PySem.W.Frag} {mg : Str → Option Value} {base : Heap} {k : Nat} {f cR : Addr} {fd : FuncData} {ps : List Str} {sp : Sp} {x qual : Str} {st : Stmt} {N : List Str} (F : Fun K x qual st f fd) (S : FnScope N ps (defScope st)) (hcode : fd.code = .ref cR)
    (len : ∀ vs H Q E, sp vs H Q E → vs.length = ps.length)
    (body : ∀ (A : Around) (outer : List Env) (s : Shared) (H : Hp) (vs : List V) (Q : VK) (E : XK), A.guards = some [] → Room k (A.deeper (envOfC qual (defScope st) s.heap.objs.size f (.ref cR))) → sp vs H Q E →
      ∃ t, PSs (cxOf CX0 P w K mg base N qual (defScope st) f (.ref cR) A outer s H E).nox (defBody st) t ∧ t { nx := fun _ H' => Q .non H', rt := Q } (start N vs) H) : OkG P w K mg base CX0 (k + 1) f fd ps sp := by
  obtain ⟨oc, od, kV, doc, pm, an, cdv, ct, osl, rfl, lk, hcd⟩ := F.ex
  cases (show cdv = .ref cR from hcode)
  refine ⟨len, fun A outer s H args us vs Q E hg hr e0 hb r hsp => ?_⟩
  have X := e0.mod.kin.keeps (fun b o e => (e0.bs b o e).1)
  have lim := e0.mod.nolimit.keeps (fun b o e => (e0.bs b o e).1)
  have kinds : ∀ y ∈ ps.zip us, (defScope st).names.lookup y.1 = some .local ∨ ((defScope st).names.lookup y.1 = some .cell ∧ ((cellsFrom (s.heap.objs.size + 1) (defScope st).names []).lookup y.1).isSome = true) := by
    rintro ⟨n, v⟩ hy
    exact (S.par n (List.of_mem_zip hy).1).imp id fun q => ⟨q, PySem.W.cellsFrom_some _ _ _ (Or.inl q)⟩
  apply codeAny_call_function hr.depth (X _ _ lk) rfl S.co S.gen rfl (PySem.W.codeRec_of X hcd)
  apply hb
  refine wpAny_newFunctionEnv_cells S.kind kinds ?_
  rintro env rfl s1 x
  refine ⟨lim.keeps x.toInCall.keep, codeAny_func ?_⟩
  obtain ⟨t, ht, hq⟩ := body A outer s H vs Q E hg (hr.deeper _) hsp
  have I := inv_start (CX := CX0) (E := E) S hr.hd e0 (len _ _ _ _ hsp) r x
  apply wpAny_mono (ht.nox.run [] s1 (start N vs) H _ I hq)
  · intro fl s' hs
    cases fl with
    | ret u => obtain ⟨v, σ', H', J, rv, q⟩ := hs; exact ⟨v, H', J.os, J.bare, J.base, J.hok, rv, q⟩
    | next => obtain ⟨σ', H', J, q⟩ := hs; exact ⟨V.non, H', J.os, J.bare, J.base, J.hok, rfl, q⟩
    | brk => obtain ⟨_, _, _, q⟩ := hs; exact q.elim
    | cont => obtain ⟨_, _, _, q⟩ := hs; exact q.elim
  · exact fun e s' hs => hs
/-! ### all but the tables stays -/
theorem ext_seq {K : PySem.W.Frag} {H H' : Hp} {a : Addr} {xs : List V} (e : LamX.ExtN H H') (h : SqL K H a xs) : SqL K H' a xs := by
  rcases h with (h | ⟨o, h⟩) | h
  · exact .inl (.inl (e _ _ h (by intro ps q; cases q)))
  · exact .inl (.inr ⟨o, e _ _ h (by intro ps q; cases q)⟩)
  · exact .inr h
theorem ext_bag {H H' : Hp} {b : Addr} {n : Nat} (e : LamX.ExtN H H') (h : Bag H b n) : Bag H' b n := by
  obtain ⟨s, d, m, h1, h2⟩ := h
  exact ⟨s, d, m, e _ _ h1 (by intro ps q; cases q), h2⟩
theorem ext_free {H H' : Hp} {a : Addr} (e : LamX.ExtN H H') (h : H' a = none) : H a = none ∨ ∃ ps, H a = some (.tbl ps) := by
  cases q : H a with
  | none => exact .inl rfl
  | some o =>
    by_cases z : ∃ ps, o = .tbl ps
    · obtain ⟨ps, rfl⟩ := z
      exact .inr ⟨ps, rfl⟩
    · rw [e a o q (fun ps w => z ⟨ps, w⟩)] at h
      cases h
mutual
theorem dq_ext {K : PySem.W.Frag} {b : Addr} {H H' : Hp} (e : LamX.ExtN H H') : ∀ {d : PyData} {v : V}, Dq K b H v d → Dq K b H' v d
  | _, _, .non => .non
  | _, _, .bl k => .bl k
  | _, _, .int i => .int i
  | _, _, .str z => .str z
  | _, _, .lst h n t => .lst (e _ _ h (by intro ps q; cases q)) n (dq_extAll e t)
  | _, _, .tup h t => .tup (e _ _ h (by intro ps q; cases q)) (dq_extAll e t)
  | _, _, .emp h => .emp (e _ _ h (by intro ps q; cases q))
theorem dq_extAll {K : PySem.W.Frag} {b : Addr} {H H' : Hp} (e : LamX.ExtN H H') : ∀ {ds : List PyData} {vs : List V}, DqAll K b H vs ds → DqAll K b H' vs ds
  | _, _, .nil => .nil
  | _, _, .cons h t => .cons (dq_ext e h) (dq_extAll e t)
end
/-- all but b and the tables stays -/
def ExtB (b : Addr) (H H' : Hp) : Prop := ∀ a o, a ≠ b → H a = some o → (∀ ps, o ≠ .tbl ps) → H' a = some o
theorem ExtB.of {b : Addr} {H H' : Hp} (e : But b H H') : ExtB b H H' := fun a o n h _ => e a o n h
theorem ExtB.ofN {b : Addr} {H H' : Hp} (e : LamX.ExtN H H') : ExtB b H H' := fun a o _ h n => e a o h n
theorem ExtB.trans {b : Addr} {H H1 H2 : Hp} (x : ExtB b H H1) (y : ExtB b H1 H2) : ExtB b H H2 := fun a o n h z => y a o n (x a o n h z) z
theorem ExtB.seq {b a : Addr} {K : PySem.W.Frag} {H H' : Hp} {xs : List V} (e : ExtB b H H') (n : a ≠ b) (h : SqL K H a xs) : SqL K H' a xs := by
  rcases h with (h | ⟨o, h⟩) | h
  · exact .inl (.inl (e _ _ n h (by intro ps q; cases q)))
  · exact .inl (.inr ⟨o, e _ _ n h (by intro ps q; cases q)⟩)
  · exact .inr h
theorem tabs_but {T : List (Addr × Str)} {H H' : Hp} {b : Addr} {n : Nat} (t : LamX.Tabs T H) (hb : Bag H b n) (e : But b H H') : LamX.Tabs T H' := fun p hp => by
  obtain ⟨s, d, m, hb, _⟩ := hb
  obtain ⟨ps, h1, h2, h3⟩ := t p hp
  have nb : p.1 ≠ b := ne_of h1 hb (by intro q; cases q)
  refine ⟨ps, e _ _ nb h1, h2, fun pos cv hc => ?_⟩
  obtain ⟨c, e1, e2⟩ := h3 pos cv hc
  exact ⟨c, e1, e _ _ (ne_of e2 hb (by intro q; unfold LamX.CodeO at q; cases q)) e2⟩
theorem tabs_nil {T : List (Addr × Str)} {H : Hp} (h : ∀ p ∈ T, H p.1 = some (.tbl #[])) : LamX.Tabs T H := fun p hp => LamX.TabS.nil (h p hp)
end Hv
namespace L
open PySem PySem.Spec PyProof.Rows L2 Hv
/-- _law_caught(lambda: body) -/
theorem pe_caught {X : Cx} {c : Nat → Addr} {g f1 f2 cR PR : Addr} {fdg fd1 fd2 : FuncData} {k : Nat} {Tb : List (Addr × Str)} {params : Arguments} {body : Expr} {scope : Scope} {t : XK → TE} {p lpos pos : Pos} (hX : Room (k + 4) X.A) (hG : X.A.guards = some []) (T : Txt X.K X.mg) (EN : ErrNames X.mg c)
    (D_caught : DefAt X.K X.mg "_law_caught" s_caught P_caught g fdg) (D_sort : DefAt X.K X.mg "_law_sort" s_sort P_sort f1 fd1) (G_sort : FnP X.prog X.w X.K X.mg X.base 2 f1 fd1 P_sort (sp_sort X.K c))
    (D_held : DefAt X.K X.mg "_law_held" s_held P_held f2 fd2) (G_held : FnP X.prog X.w X.K X.mg X.base 1 f2 fd2 P_held (sp_held X.K c)) (hg : Gl X "_law_caught")
    (TB : LamX.TabB X.base X.mg cR PR) (hcode : X.env.code = .ref cR) (hmT : (PR, X.env.qual ++ "<lambda>") ∈ Tb) (hu : ∀ p ∈ Tb, p.1 = PR → p.2 = X.env.qual ++ "<lambda>") (L : LamX.LamS X.env.scope scope) (hdef : defaultsOf params X.env = ([], []))
    (hbind : ∀ (q : Str) (cl : List (Str × Addr)) (pm cv ctv : Value), bindArgs (PySem.W.kla_fn "<lambda>" q params body scope cl pm cv ctv) ⟨[], []⟩ = pure [])
    (hbody : ∀ (A : Around) (outer : List Env) (s : Shared) (H : Hp) (E : XK) (f c' : Addr), Room k (A.deeper (LamX.lamEnv X scope s.heap.objs.size f c')) → PE (LamX.lamCx X A outer s H E scope f c') body (t E)) :
    PE X (.Call (.Name "_law_caught" p) [.Lambda params body scope lpos] [] pos) (LamX.tLam Tb (TCaught X.K c) t) := by
  obtain ⟨oc, od, kV, doc, pm, an, cdv, ct, osl, hfd, lk, hcd⟩ := D_caught.fn.ex
  subst hfd
  exact LamX.pe_lamcall hg D_caught.mg D_caught.fn.kp lk hcd D_caught.bd sc_caught rfl (.inl rfl) (caught_gives (hX.mono (by omega)) hG T EN D_sort G_sort D_held G_held) TB hcode hmT hu (hX.mono (by omega)) L hdef hbind hbody
end L

namespace Hv
open PySem L2
def isIntD : PyData → Bool
  | .int _ => true
  | _ => false
def isStrD : PyData → Bool
  | .str _ => true
  | _ => false
def boundD : PyData → Bool
  | .str z => (fracOf z).isSome
  | _ => false
def geD (d : PyData) (low : Int) : Bool := match d with
  | .int i => decide (low ≤ i)
  | _ => false
def lessD (d e : PyData) : Bool := match d, e with
  | .int i, .int j => decide (i < j)
  | _, _ => false
/-- texts of it are short -/
def shortD : PyData → Bool
  | .str z => decide (z.length ≤ 1000)
  | _ => true
/-- an error of the class j is let out, with v -/
def GivenE (c : Nat → Addr) (j : Nat) (E : XK) (H : Hp) (v : V) : Prop := ∀ d H', H d = none → Same H H' → H' d = some (.xd [(fieldOf j, v)]) → E (.ref (c j)) (some d) H'
theorem GivenE.at {c : Nat → Addr} {j : Nat} {E : XK} {H H1 : Hp} {v : V} (h : GivenE c j E H v) (s : Same H H1) : ∀ d, H1 d = none → E (.ref (c j)) (some d) (upd H1 d (.xd [(fieldOf j, v)])) := fun d hd =>
  h d _ (s.free hd) (s.trans (same_new hd)) upd_same
section
variable {K : PySem.W.Frag} {b : Addr} {H : Hp} {v : V} {d : PyData} {Q : VK} {E : XK}
theorem kit_int (d : PyData) : ∃ b1 b2, PySem.W.kitOne K (.type (tyName d)) (.type "int") = some b1 ∧ PySem.W.kitOne K (.type (tyName d)) (.type "bool") = some b2 ∧ (b1 && !b2) = isIntD d := by
  cases d with
  | none => exact ⟨false, false, kit_ty (by dsimp only [tyName, isStrD]; decide +kernel), kit_ty (by dsimp only [tyName, isStrD]; decide +kernel), rfl⟩
  | bool _ => exact ⟨true, true, kit_ty (by dsimp only [tyName, isStrD]; decide +kernel), kit_ty (by dsimp only [tyName, isStrD]; decide +kernel), rfl⟩
  | int _ => exact ⟨true, false, kit_ty (by dsimp only [tyName, isStrD]; decide +kernel), kit_ty (by dsimp only [tyName, isStrD]; decide +kernel), rfl⟩
  | str _ => exact ⟨false, false, kit_ty (by dsimp only [tyName, isStrD]; decide +kernel), kit_ty (by dsimp only [tyName, isStrD]; decide +kernel), rfl⟩
  | list _ => exact ⟨false, false, kit_ty (by dsimp only [tyName, isStrD]; decide +kernel), kit_ty (by dsimp only [tyName, isStrD]; decide +kernel), rfl⟩
  | tuple _ => exact ⟨false, false, kit_ty (by dsimp only [tyName, isStrD]; decide +kernel), kit_ty (by dsimp only [tyName, isStrD]; decide +kernel), rfl⟩
  | dict _ => exact ⟨false, false, kit_ty (by dsimp only [tyName, isStrD]; decide +kernel), kit_ty (by dsimp only [tyName, isStrD]; decide +kernel), rfl⟩
theorem kit_str (d : PyData) : PySem.W.kitOne K (.type (tyName d)) (.type "str") = some (isStrD d) := by
  cases d <;> exact kit_ty (by dsimp only [tyName, isStrD]; decide +kernel)
theorem is_int_d (h : Dq K b H v d) (q : Q (.bl (isIntD d)) H) : lk (sp_is_integer K) [v] H Q E := by
  refine lk_in ?_
  obtain ⟨b1, b2, k1, k2, e⟩ := kit_int (K := K) d
  rw [← e] at q
  exact ⟨v, _, b1, b2, rfl, h.ty, k1, k2, q⟩
theorem is_bound_d (h : Dq K b H v d) (sh : shortD d = true) (q : ∀ H', Same H H' → Q (.bl (boundD d)) H') : lk (sp_is_bound K) [v] H Q E := by
  refine lk_in ?_
  cases hd : isStrD d with
  | true =>
    cases h with
    | str z =>
      have : z.length ≤ 1000 := of_decide_eq_true sh
      exact .inl ⟨z, rfl, textOk_of (by omega), q⟩
    | _ => cases hd
  | false =>
    have e : boundD d = false := by cases d <;> first | rfl | cases hd
    have q := q H (Same.refl H)
    rw [e] at q
    have k := kit_str (K := K) d
    rw [hd] at k
    exact .inr ⟨v, _, rfl, h.ty, k, q⟩
end
def sp_meets (K : PySem.W.Frag) (c : Nat → Addr) : Sp := fun vs H Q E => ∃ (b : Addr) (v1 v2 v3 : V) (d1 d2 d3 : PyData), vs = [v1, v2, v3] ∧ Dq K b H v1 d1 ∧ Dq K b H v2 d2 ∧ Dq K b H v3 d3 ∧ shortD d1 = true ∧
  (boundD d1 = false → GivenE c 2 E H v1) ∧ (boundD d1 = true → geD d2 0 = false → GivenE c 1 E H v2) ∧ (boundD d1 = true → geD d2 0 = true → (geD d3 1 && !lessD d3 d2) = false → GivenE c 1 E H v3) ∧
  (boundD d1 = true → geD d2 0 = true → (geD d3 1 && !lessD d3 d2) = true → ∀ k H', Same H H' → Q (.bl k) H')
end Hv
namespace L
open PySem L2 Hv
variable {P : Program} {w : World} {K : PySem.W.Frag} {mg : Str → Option Value} {base : Heap}
abbrev s_meets : Stmt := top 46
abbrev N_meets : List Str := ["bound", "part", "whole"]
abbrev P_meets : List Str := ["bound", "part", "whole"]
theorem sc_meets : FnScope N_meets P_meets (defScope s_meets) := ⟨rfl, rfl, rfl, by decide +kernel, rfl, by decide +kernel, by decide +kernel⟩
theorem ok_meets {f f1 f2 f3 : Addr} {fd fd1 fd2 fd3 : FuncData} {c : Nat → Addr} (D : DefAt K mg "meets" s_meets P_meets f fd) (T : Txt K mg) (ER_InvalidBound : ErrTxt K mg "InvalidBound" "given" (c 2)) (ER_InvalidNumber : ErrTxt K mg "InvalidNumber" "given" (c 1))
    (D_is_bound : DefAt K mg "is_bound" s_is_bound P_is_bound f1 fd1) (G_is_bound : FnOk P w K mg base CX0 3 f1 fd1 P_is_bound (sp_is_bound K))
    (D_is_integer : DefAt K mg "is_integer" s_is_integer P_is_integer f2 fd2) (G_is_integer : FnOk P w K mg base CX0 1 f2 fd2 P_is_integer (sp_is_integer K))
    (D_bound_met : DefAt K mg "bound_met" s_bound_met P_bound_met f3 fd3) (G_bound_met : FnOk P w K mg base CX0 3 f3 fd3 P_bound_met sp_bound_met) : FnOk P w K mg base (L2.CX P w) 4 f fd P_meets (sp_meets K c) := by
  have G_is_bound := fn_lk G_is_bound
  have G_is_integer := fn_lk G_is_integer
  refine D.fn.okX sc_meets (fun vs H Q E h => ?_) (fun cdv A outer s H vs Q E hr h => ?_)
  · obtain ⟨b, v1, v2, v3, d1, d2, d3, rfl, _⟩ := h
    rfl
  · obtain ⟨b, v1, v2, v3, d1, d2, d3, rfl, h1, h2, h3, sh, e1, e2, e3, ret⟩ := h
    refine ⟨_, (pss_cons (ps_if (pt_not (pt_val (pe_call G_is_bound (hr.mono (by decide)) rfl D_is_bound.mg D_is_bound.fn.kp D_is_bound.bd .nil pass0 (pa_cons (pv 0) pa_nil))))
      (pss_one (ps_err ER_InvalidBound (hr.mono (by decide)) rfl (takes_of rfl rfl rfl rfl) rfl (pv 0)))
      pss_nil)
      (pss_cons (ps_if (PW.pt (pw_or (pt_not (pt_val (pe_call G_is_integer (hr.mono (by decide)) rfl D_is_integer.mg D_is_integer.fn.kp D_is_integer.bd .nil pass0 (pa_cons (pv 1) pa_nil)))) (pw_or1 (pt_cmpR op_lt (pv 1) pe_int (nomark _)))))
      (pss_one (ps_err ER_InvalidNumber (hr.mono (by decide)) rfl (takes_of rfl rfl rfl rfl) rfl (pv 1)))
      pss_nil)
      (pss_cons (ps_if (PW.pt (pw_or (pt_not (pt_val (pe_call G_is_integer (hr.mono (by decide)) rfl D_is_integer.mg D_is_integer.fn.kp D_is_integer.bd .nil pass0 (pa_cons (pv 2) pa_nil)))) (pw_or (pt_cmpR op_lt (pv 2) pe_int (nomark _)) (pw_or1 (pt_cmpR op_lt (pv 2) (pv 1) (nomark _))))))
      (pss_one (ps_err ER_InvalidNumber (hr.mono (by decide)) rfl (takes_of rfl rfl rfl rfl) rfl (pv 2)))
      pss_nil)
      (pss_one (ps_ret (pe_call G_bound_met (hr.mono (by decide)) rfl D_bound_met.mg D_bound_met.fn.kp D_bound_met.bd .nil pass0 (pa_cons (pv 0) (pa_cons (pv 1) (pa_cons (pv 2) pa_nil))))))))), ?_⟩
    refine ⟨_, rfl, is_bound_d h1 sh fun H1 s1 => ⟨_, rfl, ?_⟩⟩
    cases hb : boundD d1 with
    | false =>
      exact iteT ⟨_, rfl, (e1 hb).at s1⟩
    | true =>
      refine iteF ?_
      have h2 := h2.same s1
      have h3 := h3.same s1
      refine ⟨_, rfl, is_int_d h2 ⟨_, rfl, ?_⟩⟩
      cases hi : isIntD d2 with
      | false =>
        have g : geD d2 0 = false := by cases d2 <;> first | rfl | cases hi
        exact iteT ⟨_, rfl, (e2 hb g).at s1⟩
      | true =>
        cases h2 with
        | int i =>
          refine iteF ⟨_, rfl, _, _, rfl, rfl, _, rfl, ?_⟩
          refine ite2 (fun hc => ?_) (fun hc => ?_)
          · have : i < 0 := of_decide_eq_true hc
            refine ⟨_, rfl, (e2 hb ?_).at s1⟩
            show decide (0 ≤ i) = false
            exact decide_eq_false (by omega)
          · have i0 : ¬ i < 0 := fun q => hc (decide_eq_true q)
            have g2 : geD (.int i) 0 = true := decide_eq_true (by omega)
            refine ⟨_, rfl, is_int_d h3 ⟨_, rfl, ?_⟩⟩
            cases hj : isIntD d3 with
            | false =>
              have g : geD d3 1 = false := by cases d3 <;> first | rfl | cases hj
              exact iteT ⟨_, rfl, (e3 hb g2 (by rw [g]; rfl)).at s1⟩
            | true =>
              cases h3 with
              | int j =>
                refine iteF ⟨_, rfl, _, _, rfl, rfl, _, rfl, ?_⟩
                refine ite2 (fun hc => ?_) (fun hc => ?_)
                · have : j < 1 := of_decide_eq_true hc
                  refine ⟨_, rfl, (e3 hb g2 ?_).at s1⟩
                  show (decide (1 ≤ j) && _) = false
                  rw [decide_eq_false (by omega)]
                  rfl
                · have j0 : ¬ j < 1 := fun q => hc (decide_eq_true q)
                  refine ⟨_, rfl, _, rfl, _, _, rfl, rfl, _, rfl, ?_⟩
                  refine ite2 (fun hc => ?_) (fun hc => ?_)
                  · refine ⟨_, rfl, (e3 hb g2 ?_).at s1⟩
                    show (_ && !decide (j < i)) = false
                    rw [hc]
                    simp
                  · cases h1 with
                    | str z =>
                      obtain ⟨⟨p, q⟩, fe⟩ := Option.isSome_iff_exists.mp (show (fracOf z).isSome = true from hb)
                      have : z.length ≤ 1000 := of_decide_eq_true sh
                      refine ⟨_, rfl, _, rfl, _, rfl, z, p, q, i, j, rfl, textOk_of (by omega), fe, fun H2 s2 => ret hb g2 ?_ _ H2 (s1.trans s2)⟩
                      show (decide (1 ≤ j) && !decide (j < i)) = true
                      rw [decide_eq_true (by omega), Bool.eq_false_iff.mpr hc]
                      rfl
                    | _ => cases hb
              | _ => cases hj
        | _ => cases hi
end L

namespace Hv
open PySem L2
theorem cutS_len (z : Str) (lo hi : Option Int) : (cutS z lo hi).length ≤ z.length := by
  show (((z.cps.toList.drop _).take _).toArray).size ≤ z.cps.size
  simp
  omega
theorem cutS_ok {z : Str} (h : PyData.strOk z = true) (lo hi : Option Int) : PyData.strOk (cutS z lo hi) = true := by
  rw [strOk_iff] at *
  intro c hc
  have : c ∈ (z.cps.toList.drop (HT.sIx z.length 0 lo)).take (HT.sIx z.length z.length hi - HT.sIx z.length 0 lo) := by
    unfold cutS at hc
    simpa using hc
  exact h c (List.mem_of_mem_drop (List.mem_of_mem_take this))
theorem atI_some {α : Type} {xs : List α} {r : Int} (h0 : 0 ≤ r) (h : r.toNat < xs.length) : atI xs r = some xs[r.toNat] := by
  unfold atI ixN
  rw [if_pos h0, if_pos (by omega)]
  simp [h]
theorem one_ok {c : Nat} (h : c < 0x110000) : PyData.strOk ⟨#[c]⟩ = true := by
  rw [strOk_iff]
  intro d hd
  simp at hd
  omega
abbrev SPOIL : Str := Str.ofString "0123456789/ over-+.xOz,1/"
theorem spoil_len : SPOIL.cps.toList.length = 25 := by decide +kernel
theorem spoil_ok : ∀ c ∈ SPOIL.cps.toList, c < 0x110000 := by decide +kernel
def sp_bent : Sp := fun vs H Q _ => ∃ (b : Addr) (z : Str) (n : Nat), vs = [.ref b, .str z] ∧ Bag H b n ∧ n < 800000 ∧ z.length ≤ 20 ∧ PyData.strOk z = true ∧ ∀ (r : Str) (H' : Hp), But b H H' → Bag H' b (n + 3) → r.length ≤ 50 → PyData.strOk r = true → Q (.str r) H'
end Hv
namespace L
open PySem L2 Hv
variable {P : Program} {w : World} {K : PySem.W.Frag} {mg : Str → Option Value} {base : Heap}
abbrev s_bent : Stmt := top 57
abbrev N_bent : List Str := ["_law_bag_here", "_law_line_here", "_law_signs", "_law_at", "_law_way", "_law_sign"]
abbrev P_bent : List Str := ["_law_bag_here", "_law_line_here"]
theorem sc_bent : FnScope N_bent P_bent (defScope s_bent) := ⟨rfl, rfl, rfl, by decide +kernel, rfl, by decide +kernel, by decide +kernel⟩
theorem ok_bent {f f1 : Addr} {fd fd1 : FuncData} (D : DefAt K mg "_law_bent" s_bent P_bent f fd) (T : Txt K mg) (D_take : DefAt K mg "_law_take" s_take P_take f1 fd1) : FnOk P w K mg base CX0 2 f fd P_bent sp_bent := by
  have G_take : FnOk P w K mg base CX0 1 f1 fd1 P_take sp_take := ok_take D_take T
  refine D.fn.ok sc_bent (fun vs H Q E h => ?_) (fun cdv A outer s H vs Q E hr h => ?_)
  · obtain ⟨b, z, n, rfl, _⟩ := h
    rfl
  · obtain ⟨b, z, n, rfl, hb, hn, hz, zk, ret⟩ := h
    have zs : z.length ≤ sizeLine := by have : 20 ≤ sizeLine := by decide
                                        omega
    have big : 1000 ≤ sizeLine := by decide
    refine ⟨_, (pss_cons (ps_asg pe_str (pg_name (i := 2) sc_bent.nd rfl (.inl rfl)))
      (pss_cons (ps_par (i := 3) (j := 4) (by rfl) sc_bent.nd rfl rfl (by decide) rfl rfl (pa_cons (pe_call G_take (hr.mono (by decide)) rfl D_take.mg D_take.fn.kp D_take.bd .nil pass0 (pa_cons (pv 0) (pa_cons (pe_op op_add (pe_callB call_len_str (by rfl) T.len (by decide +kernel) (pa_cons (pv 1) pa_nil)) pe_int) pa_nil))) (pa_cons (pe_call G_take (hr.mono (by decide)) rfl D_take.mg D_take.fn.kp D_take.bd .nil pass0 (pa_cons (pv 0) (pa_cons pe_int pa_nil))) pa_nil)) (by rfl))
      (pss_cons (ps_asg (pe_ix ix_str (pv 2) (pe_call G_take (hr.mono (by decide)) rfl D_take.mg D_take.fn.kp D_take.bd .nil pass0 (pa_cons (pv 0) (pa_cons pe_int pa_nil))) (fun _ _ => rfl)) (pg_name (i := 5) sc_bent.nd rfl (.inl rfl)))
      (pss_cons (ps_if (pt_cmpR op_eq (pv 4) pe_int (nomark _))
      (pss_one (ps_ret (pe_op op_add_str (pe_op op_add_str (pe_slice sl_str (pv 1) po_none (po_some (pv 3))) (pv 5)) (pe_slice sl_str (pv 1) (po_some (pv 3)) po_none))))
      pss_nil)
      (pss_cons (ps_if (pt_cmpR op_eq (pv 4) pe_int (nomark _))
      (pss_one (ps_ret (pe_op op_add_str (pe_op op_add_str (pe_slice sl_str (pv 1) po_none (po_some (pv 3))) (pv 5)) (pe_slice sl_str (pv 1) (po_some (pe_op op_add (pv 3) pe_int)) po_none))))
      pss_nil)
      (pss_one (ps_ret (pe_ifExp (pt_cmpR op_eq (pv 4) pe_int (nomark _)) (pe_op op_add_str (pe_slice sl_str (pv 1) po_none (po_some (pv 3))) (pe_slice sl_str (pv 1) (po_some (pe_op op_add (pv 3) pe_int)) po_none)) (pe_op op_add_str (pv 1) (pe_slice sl_str (pv 1) po_none (po_some (pv 3)))))))))))), ?_⟩
    refine ⟨_, rfl, _, rfl, _, rfl, zs, _, _, rfl, rfl, b, _, n, rfl, hb, by omega, by omega, ?_, fun r H1 u1 b1 r0 r1 => ?_⟩
    · have : ((z.length : Int) + 1).natAbs ≤ 21 := by omega
      exact Nat.lt_of_le_of_lt this (Nat.lt_of_lt_of_le (by decide : 21 < 2 ^ 10) (Nat.pow_le_pow_right (by decide) (by decide)))
    refine ⟨_, rfl, b, 4, n + 1, rfl, b1, by omega, by decide, m_small (by decide) (by decide), fun way H2 u2 b2 w0 w1 => ⟨_, _, rfl, ?_⟩⟩
    refine ⟨_, rfl, _, rfl, b, 25, n + 2, rfl, b2, by omega, by decide, m_small (by decide) (by decide), fun q H3 u3 b3 q0 q1 => ?_⟩
    have ql : q.toNat < SPOIL.cps.toList.length := by rw [spoil_len]; omega
    have hc := spoil_ok _ (List.getElem_mem ql)
    refine ⟨_, _, _, rfl, rfl, by decide, atI_some q0 ql, ?_⟩
    generalize SPOIL.cps.toList[q.toNat] = c at hc
    have ck := one_ok hc
    have c1 : (⟨#[c]⟩ : Str).length = 1 := rfl
    have u := (u1.trans u2).trans u3
    have cl : ∀ lo hi, (cutS z lo hi).length ≤ 20 := fun lo hi => Nat.le_trans (cutS_len z lo hi) hz
    have al : ∀ a b : Str, (a ++ b).length = a.length + b.length := fun a b => Str.length_append a b
    refine ⟨_, rfl, rfl, _, rfl, ?_⟩
    refine ite2 (fun h1 => ?_) (fun h1 => ?_)
    · refine ⟨_, rfl, _, rfl, _, rfl, z, rfl, zs, _, rfl, _, _, rfl, rfl, ?_, _, rfl, _, rfl, _, rfl, z, rfl, zs, _, _, rfl, rfl, ?_, ret _ H3 u b3 ?_ (strOk_app (strOk_app (cutS_ok zk _ _) ck) (cutS_ok zk _ _))⟩
      · have := cl none (some r); omega
      · have := cl none (some r); have := cl (some r) none; rw [al]; omega
      · have := cl none (some r); have := cl (some r) none; rw [al, al]; omega
    · refine ⟨_, rfl, rfl, _, rfl, ?_⟩
      refine ite2 (fun h2 => ?_) (fun h2 => ?_)
      · refine ⟨_, rfl, _, rfl, _, rfl, z, rfl, zs, _, rfl, _, _, rfl, rfl, ?_, _, rfl, _, rfl, _, _, rfl, rfl, _, rfl, z, rfl, zs, _, _, rfl, rfl, ?_, ret _ H3 u b3 ?_ (strOk_app (strOk_app (cutS_ok zk _ _) ck) (cutS_ok zk _ _))⟩
        · have := cl none (some r); omega
        · have := cl none (some r); have := cl (some (r + 1)) none; rw [al]; omega
        · have := cl none (some r); have := cl (some (r + 1)) none; rw [al, al]; omega
      · refine ⟨_, rfl, rfl, _, rfl, ?_⟩
        refine ite2 (fun h3 => ?_) (fun h3 => ?_)
        · refine ⟨_, rfl, _, rfl, _, rfl, z, rfl, zs, _, rfl, _, rfl, _, _, rfl, rfl, _, rfl, z, rfl, zs, _, _, rfl, rfl, ?_, ret _ H3 u b3 ?_ (strOk_app (cutS_ok zk _ _) (cutS_ok zk _ _))⟩
          · have := cl none (some r); have := cl (some (r + 1)) none; omega
          · have := cl none (some r); have := cl (some (r + 1)) none; rw [al]; omega
        · refine ⟨_, rfl, _, rfl, _, rfl, _, rfl, z, rfl, zs, _, _, rfl, rfl, ?_, ret _ H3 u b3 ?_ (strOk_app zk (cutS_ok zk _ _))⟩
          · have := cl none (some r); omega
          · have := cl none (some r); rw [al]; omega
end L
namespace Hv
open PySem L2
theorem fs (s : String) (h : (Str.ofString s).length ≤ 60) : FitQ (.str (Str.ofString s)) 2 60 := (Fit.str (strOk_of s) h).q
theorem fi {i : Int} (h : i.natAbs.log2 < 1920) : FitQ (.int i) 2 60 := (Fit.int h).q
theorem ss (s : String) (h : (Str.ofString s).length ≤ 60) : shortD (.str (Str.ofString s)) = true := decide_eq_true (by omega)
def sp_line (K : PySem.W.Frag) : Sp := fun vs H Q _ => ∃ (b bl : Addr) (n : Nat), vs = [.ref b, .ref bl] ∧ Bag H b n ∧ n < 700000 ∧ SqL K H bl (BL.map V.str) ∧ bl ≠ b ∧
  ∀ (v : V) (d : PyData) (H' : Hp), But b H H' → Bag H' b (n + 6) → Dq K b H' v d → FitQ d 2 60 → shortD d = true → Q v H'
def sp_number (K : PySem.W.Frag) : Sp := fun vs H Q _ => ∃ (b : Addr) (n : Nat), vs = [.ref b] ∧ Bag H b n ∧ n < 700000 ∧ ∀ (v : V) (d : PyData) (H' : Hp), But b H H' → Bag H' b (n + 3) → Dq K b H' v d → FitQ d 2 60 → Q v H'
theorem bl_at {j : Int} (h0 : 0 ≤ j) (h1 : j < 93) : ∃ z, atI (BL.map V.str) j = some (.str z) ∧ z ∈ BL := by
  have hl : j.toNat < BL.length := by rw [BL_len]; omega
  refine ⟨BL[j.toNat], ?_, List.getElem_mem hl⟩
  have := atI_some (xs := BL.map V.str) h0 (by simpa using hl)
  simpa using this
theorem bl_len : ((BL.map V.str).length : Int) = 93 := by rw [List.length_map, BL_len]; rfl
theorem BL_str : BL.all (fun z => PyData.strOk z && decide (z.length ≤ 20)) = true := by decide +kernel
theorem bl_str {z : Str} (h : z ∈ BL) : PyData.strOk z = true ∧ z.length ≤ 20 := by
  have := List.all_eq_true.mp BL_str z h
  simpa using this
theorem small_text : ∀ n < 15, (Str.ofString (toString ((n : Nat) : Int))).length ≤ 2 := by decide +kernel
theorem num_text {i : Int} (h0 : 0 ≤ i) (h1 : i < 15) : (Str.ofString (toString i)).length ≤ 2 := by
  have := small_text i.toNat (by omega)
  rwa [show ((i.toNat : Nat) : Int) = i from by omega] at this
theorem pw39 : ((10 : Int) ^ (39 : Int).toNat).natAbs.log2 < 1920 := by decide +kernel
theorem log_le {i : Int} (h0 : -(10 ^ 41) ≤ i) (h1 : i ≤ 10 ^ 41) : i.natAbs.log2 < 1920 := by
  have h2 : i.natAbs ≤ 10 ^ 41 := by omega
  have h3 : (10 ^ 41 : Nat).log2 < 1920 := by decide +kernel
  exact Nat.lt_of_le_of_lt (log2_mono h2) h3
end Hv
namespace L
open PySem L2 Hv
variable {P : Program} {w : World} {K : PySem.W.Frag} {mg : Str → Option Value} {base : Heap}
abbrev s_line : Stmt := top 58
abbrev N_line : List Str := ["_law_bag_here", "_law_bounds_here", "_law_way", "_law_line_here", "_law_some"]
abbrev P_line : List Str := ["_law_bag_here", "_law_bounds_here"]
theorem sc_line : FnScope N_line P_line (defScope s_line) := ⟨rfl, rfl, rfl, by decide +kernel, rfl, by decide +kernel, by decide +kernel⟩
theorem ok_line {f f1 f2 : Addr} {fd fd1 fd2 : FuncData} (D : DefAt K mg "_law_line" s_line P_line f fd) (T : Txt K mg) (D_take : DefAt K mg "_law_take" s_take P_take f1 fd1) (D_bent : DefAt K mg "_law_bent" s_bent P_bent f2 fd2) : FnOk P w K mg base CX0 3 f fd P_line (sp_line K) := by
  have G_take : FnOk P w K mg base CX0 1 f1 fd1 P_take sp_take := ok_take D_take T
  have G_bent : FnOk P w K mg base CX0 2 f2 fd2 P_bent sp_bent := ok_bent D_bent T D_take
  refine D.fn.ok sc_line (fun vs H Q E h => ?_) (fun cdv A outer s H vs Q E hr h => ?_)
  · obtain ⟨b, bl, n, rfl, _⟩ := h
    rfl
  · obtain ⟨b, bl, n, rfl, hb, hn, hS, nb, ret⟩ := h
    have big : 1000 ≤ sizeLine := by decide
    refine ⟨_, (pss_cons (ps_par (i := 2) (j := 3) (by rfl) sc_line.nd rfl rfl (by decide) rfl rfl (pa_cons (pe_call G_take (hr.mono (by decide)) rfl D_take.mg D_take.fn.kp D_take.bd .nil pass0 (pa_cons (pv 0) (pa_cons pe_int pa_nil))) (pa_cons (pe_ix ix_list (pv 1) (pe_call G_take (hr.mono (by decide)) rfl D_take.mg D_take.fn.kp D_take.bd .nil pass0 (pa_cons (pv 0) (pa_cons (pe_callB call_len_seq (by rfl) T.len (by decide +kernel) (pa_cons (pv 1) pa_nil)) pa_nil))) (fun _ _ => rfl)) pa_nil)) (by rfl))
      (pss_cons (ps_if (pt_cmpR op_lt (pv 2) pe_int (nomark _))
      (pss_one (ps_ret (pv 3)))
      pss_nil)
      (pss_cons (ps_if (pt_cmpR op_lt (pv 2) pe_int (nomark _))
      (pss_one (ps_ret (pe_call G_bent (hr.mono (by decide)) rfl D_bent.mg D_bent.fn.kp D_bent.bd .nil pass0 (pa_cons (pv 0) (pa_cons (pv 3) pa_nil)))))
      pss_nil)
      (pss_cons (ps_if (pt_cmpR op_eq (pv 2) pe_int (nomark _))
      (pss_one (ps_ret (pe_op op_add_str (pe_op op_add_str (pe_callTy call_str_int (by rfl) T.str (by decide +kernel) (pa_cons (pe_call G_take (hr.mono (by decide)) rfl D_take.mg D_take.fn.kp D_take.bd .nil pass0 (pa_cons (pv 0) (pa_cons pe_int pa_nil))) pa_nil)) pe_str) (pe_callTy call_str_int (by rfl) T.str (by decide +kernel) (pa_cons (pe_call G_take (hr.mono (by decide)) rfl D_take.mg D_take.fn.kp D_take.bd .nil pass0 (pa_cons (pv 0) (pa_cons pe_int pa_nil))) pa_nil)))))
      pss_nil)
      (pss_cons (ps_asg (pe_lst (pa_cons pe_non (pa_cons pe_int (pa_cons pe_int (pa_cons pe_bl (pa_cons (pe_tup (pa_cons pe_int (pa_cons pe_int pa_nil))) (pa_cons (pe_tup (pa_cons pe_str pa_nil)) (pa_cons (pe_lst (pa_cons pe_str pa_nil)) (pa_cons pe_dnewK (pa_cons pe_str (pa_cons pe_str (pa_cons pe_str (pa_cons pe_str (pa_cons pe_str (pa_cons pe_str (pa_cons pe_str (pa_cons pe_str pa_nil))))))))))))))))) (pg_name (i := 4) sc_line.nd rfl (.inl rfl)))
      (pss_cons (ps_asg (pe_op op_cat (pv 4) (pe_lst (pa_cons pe_str (pa_cons pe_str (pa_cons pe_str (pa_cons pe_str (pa_cons pe_str (pa_cons pe_str (pa_cons pe_str (pa_cons pe_str (pa_cons pe_str (pa_cons pe_str pa_nil)))))))))))) (pg_name (i := 4) sc_line.nd rfl (.inl rfl)))
      (pss_one (ps_ret (pe_ix ix_list (pv 4) (pe_call G_take (hr.mono (by decide)) rfl D_take.mg D_take.fn.kp D_take.bd .nil pass0 (pa_cons (pv 0) (pa_cons (pe_callB call_len_seq (by rfl) T.len (by decide +kernel) (pa_cons (pv 4) pa_nil)) pa_nil))) (fun _ _ => rfl)))))))))), ?_⟩
    refine ⟨_, rfl, b, 6, n, rfl, hb, by omega, by decide, m_small (by decide) (by decide), fun way H1 u1 b1 w0 w1 => ?_⟩
    have hS1 := u1.seq nb hS
    refine ⟨_, rfl, _, rfl, _, rfl, bl, _, rfl, .inl hS1, b, _, n + 1, rfl, b1, by omega, by rw [bl_len]; decide, by rw [bl_len]; decide, fun j H2 u2 b2 j0 j1 => ?_⟩
    rw [bl_len] at j1
    obtain ⟨z, hz, zm⟩ := bl_at j0 j1
    obtain ⟨zk, zl⟩ := bl_str zm
    have u := u1.trans u2
    refine ⟨bl, _, j, _, rfl, rfl, u2.seq nb hS1, hz, _, _, rfl, ?_⟩
    refine ⟨_, rfl, _, _, rfl, rfl, _, rfl, ?_⟩
    refine ite2 (fun h1 => ?_) (fun h1 => ?_)
    · exact ⟨_, rfl, ret _ (.str z) H2 u (b2.mono (by omega)) (.str z) (Fit.str zk (by omega)).q (decide_eq_true (by omega))⟩
    refine ⟨_, rfl, _, _, rfl, rfl, _, rfl, ?_⟩
    refine ite2 (fun h2 => ?_) (fun h2 => ?_)
    · refine ⟨_, rfl, _, rfl, b, z, n + 2, rfl, b2, by omega, zl, zk, fun r H3 u3 b3 rl rk => ?_⟩
      exact ret _ (.str r) H3 (u.trans u3) (b3.mono (by omega)) (.str r) (Fit.str rk (by omega)).q (decide_eq_true (by omega))
    refine ⟨_, rfl, rfl, _, rfl, ?_⟩
    refine ite2 (fun h3 => ?_) (fun h3 => ?_)
    · refine ⟨_, rfl, b, 15, n + 2, rfl, b2, by omega, by decide, m_small (by decide) (by decide), fun x H3 u3 b3 x0 x1 => ⟨x, rfl, small_log (by omega) (by omega), ?_⟩⟩
      have xl := num_text x0 x1
      have ll : (Str.ofString "/").length = 1 := by decide +kernel
      refine ⟨_, _, rfl, rfl, by omega, ?_⟩
      refine ⟨_, rfl, b, 15, n + 3, rfl, b3, by omega, by decide, m_small (by decide) (by decide), fun y H4 u4 b4 y0 y1 => ⟨y, rfl, small_log (by omega) (by omega), ?_⟩⟩
      have yl := num_text y0 y1
      have tl : (Str.ofString (toString x) ++ Str.ofString "/" ++ Str.ofString (toString y)).length ≤ 60 := by
        rw [Str.length_append, Str.length_append]
        omega
      refine ⟨_, _, rfl, rfl, by rw [Str.length_append]; omega, ret _ (.str _) H4 ((u.trans u3).trans u4) (b4.mono (by omega)) (.str _) (Fit.str (strOk_app (strOk_app (strOk_of _) (strOk_of _)) (strOk_of _)) tl).q (decide_eq_true (by omega))⟩
    refine ⟨by show 2 ≤ sizeLine; decide, fun t1 n1 => ⟨by show 1 ≤ sizeLine; decide, fun t2 n2 => ⟨by show 1 ≤ sizeLine; decide, fun l3 n3 => fun d4 n4 => ⟨by show 16 ≤ sizeLine; decide, fun L1 m1 => ?_⟩⟩⟩⟩
    have s1 := same_new (o := .tup [.int 1, .int 2]) n1
    have s2 := same_new (o := .tup [.str "1/2"]) n2
    have s3 := same_new (o := .lst [.str "1/2"]) n3
    have s4 := same_new (o := .dK []) n4
    have l3b : l3 ≠ b := (b2.same (s1.trans s2)).ne_none n3
    have A1 := s4 _ _ (s3 _ _ (s2 _ _ (upd_same (H := H2) (a := t1) (o := .tup [.int 1, .int 2]))))
    have A2 := s4 _ _ (s3 _ _ (upd_same (H := upd H2 t1 _) (a := t2) (o := .tup [.str "1/2"])))
    have A3 := s4 _ _ (upd_same (H := upd (upd H2 t1 _) t2 _) (a := l3) (o := .lst [.str "1/2"]))
    have A4 := upd_same (H := upd (upd (upd H2 t1 (.tup [.int 1, .int 2])) t2 (.tup [.str "1/2"])) l3 (.lst [.str "1/2"])) (a := d4) (o := .dK [])
    have s5 := ((s1.trans s2).trans s3).trans s4
    generalize hx : upd (upd (upd (upd H2 t1 _) t2 _) l3 _) d4 _ = Hx at s5 A1 A2 A3 A4 m1 ⊢
    clear hx s1 s2 s3 s4 n1 n2 n3 n4
    refine ⟨_, rfl, by show 10 ≤ sizeLine; decide, fun M m2 => ⟨L1, M, _, _, rfl, rfl, same_new m2 _ _ upd_same, upd_same, by show 26 ≤ sizeLine; decide, fun L2 m3 => ?_⟩⟩
    have s6 := (same_new m1).trans ((same_new (o := .lst [.str "01/2", .str " 1/2", .str "1/2 ", .str "over  1/2", .str "over over 1/2", .str "1/2/3", .str "half", .str "-1/2", .str "+1/2", .str "1/ 2"]) m2).trans (same_new (o := .lst ([.non, .int 1, .int 0, .bl true, .ref t1, .ref t2, .ref l3, .ref d4, .str "", .str "/", .str "over", .str "over 1/1", .str "2/4", .str "0/2", .str "1/13", .str "1/0"] ++ [.str "01/2", .str " 1/2", .str "1/2 ", .str "over  1/2", .str "over over 1/2", .str "1/2/3", .str "half", .str "-1/2", .str "+1/2", .str "1/ 2"])) m3))
    have bb := (b2.same s5).same s6
    have L2b : L2 ≠ b := (((b2.same s5).same (same_new m1)).same (same_new m2)).ne_none m3
    refine ⟨_, rfl, _, rfl, _, rfl, L2, _, rfl, .inl (SqL.of upd_same), b, 26, n + 2, rfl, bb, by omega, by decide, m_small (by decide) (by decide), fun r H3 u3 b3 r0 r1 => ?_⟩
    have hL := u3 _ _ L2b upd_same
    have nt : ∀ {a : Addr} {o : HO}, Hx a = some o → (∀ xs, o ≠ .lst xs) → H3 a = some o := fun {a o} e ne => by
      refine u3 _ _ (fun q => ?_) (s6 _ _ e)
      obtain ⟨_, _, _, hb, _⟩ := bb
      have := s6 _ _ e
      rw [q, hb] at this
      exact ne _ (Option.some.inj this).symm
    have A1 := nt A1 (by intro xs q; cases q)
    have A2 := nt A2 (by intro xs q; cases q)
    have A4 := nt A4 (by intro xs q; cases q)
    have A3 := u3 _ _ l3b (s6 _ _ A3)
    have fin : ∀ (v : V) (d : PyData), Dq K b H3 v d → FitQ d 2 60 → shortD d = true → Q v H3 := fun v d h1 h2 h3 => ret v d H3 (u.trans ((But.of (s5.trans s6)).trans u3)) (b3.mono (by omega)) h1 h2 h3
    have one2 : Fit (.str (Str.ofString "1/2")) 1 50 := .str (strOk_of _) (by decide +kernel)
    rcases (show r = 0 ∨ r = 1 ∨ r = 2 ∨ r = 3 ∨ r = 4 ∨ r = 5 ∨ r = 6 ∨ r = 7 ∨ r = 8 ∨ r = 9 ∨ r = 10 ∨ r = 11 ∨ r = 12 ∨ r = 13 ∨ r = 14 ∨ r = 15 ∨ r = 16 ∨ r = 17 ∨ r = 18 ∨ r = 19 ∨ r = 20 ∨ r = 21 ∨ r = 22 ∨ r = 23 ∨ r = 24 ∨ r = 25 by omega) with rfl | rfl | rfl | rfl | rfl | rfl | rfl | rfl | rfl | rfl | rfl | rfl | rfl | rfl | rfl | rfl | rfl | rfl | rfl | rfl | rfl | rfl | rfl | rfl | rfl | rfl
    · exact ⟨L2, _, _, _, rfl, rfl, SqL.of hL, rfl, fin _ _ .non Fit.none.q rfl⟩
    · exact ⟨L2, _, _, _, rfl, rfl, SqL.of hL, rfl, fin _ _ (.int 1) (fi (by decide +kernel)) rfl⟩
    · exact ⟨L2, _, _, _, rfl, rfl, SqL.of hL, rfl, fin _ _ (.int 0) (fi (by decide +kernel)) rfl⟩
    · exact ⟨L2, _, _, _, rfl, rfl, SqL.of hL, rfl, fin _ _ (.bl true) Fit.bool.q rfl⟩
    · exact ⟨L2, _, _, _, rfl, rfl, SqL.of hL, rfl, fin _ _ (.tup A1 (.cons (.int 1) (.cons (.int 2) .nil))) ((Fit.tuple (.cons (.int (n := 0) (by decide +kernel)) (.cons (.int (n := 0) (by decide +kernel)) (.nil (n := 0))))).mono (by decide : 1 ≤ 2) (by decide)).q rfl⟩
    · exact ⟨L2, _, _, _, rfl, rfl, SqL.of hL, rfl, fin _ _ (.tup A2 (.cons (.str _) .nil)) ((Fit.tuple (.cons one2 (.nil (n := 0)))).mono (by decide : 2 ≤ 2) (by decide)).q rfl⟩
    · exact ⟨L2, _, _, _, rfl, rfl, SqL.of hL, rfl, fin _ _ (.lst A3 l3b (.cons (.str _) .nil)) ((Fit.list (.cons one2 (.nil (n := 0)))).mono (by decide : 2 ≤ 2) (by decide)).q rfl⟩
    · exact ⟨L2, _, _, _, rfl, rfl, SqL.of hL, rfl, fin _ _ (.emp A4) (.emp (by decide)) rfl⟩
    · exact ⟨L2, _, _, _, rfl, rfl, SqL.of hL, rfl, fin _ _ (.str _) (fs "" (by decide +kernel)) (ss "" (by decide +kernel))⟩
    · exact ⟨L2, _, _, _, rfl, rfl, SqL.of hL, rfl, fin _ _ (.str _) (fs "/" (by decide +kernel)) (ss "/" (by decide +kernel))⟩
    · exact ⟨L2, _, _, _, rfl, rfl, SqL.of hL, rfl, fin _ _ (.str _) (fs "over" (by decide +kernel)) (ss "over" (by decide +kernel))⟩
    · exact ⟨L2, _, _, _, rfl, rfl, SqL.of hL, rfl, fin _ _ (.str _) (fs "over 1/1" (by decide +kernel)) (ss "over 1/1" (by decide +kernel))⟩
    · exact ⟨L2, _, _, _, rfl, rfl, SqL.of hL, rfl, fin _ _ (.str _) (fs "2/4" (by decide +kernel)) (ss "2/4" (by decide +kernel))⟩
    · exact ⟨L2, _, _, _, rfl, rfl, SqL.of hL, rfl, fin _ _ (.str _) (fs "0/2" (by decide +kernel)) (ss "0/2" (by decide +kernel))⟩
    · exact ⟨L2, _, _, _, rfl, rfl, SqL.of hL, rfl, fin _ _ (.str _) (fs "1/13" (by decide +kernel)) (ss "1/13" (by decide +kernel))⟩
    · exact ⟨L2, _, _, _, rfl, rfl, SqL.of hL, rfl, fin _ _ (.str _) (fs "1/0" (by decide +kernel)) (ss "1/0" (by decide +kernel))⟩
    · exact ⟨L2, _, _, _, rfl, rfl, SqL.of hL, rfl, fin _ _ (.str _) (fs "01/2" (by decide +kernel)) (ss "01/2" (by decide +kernel))⟩
    · exact ⟨L2, _, _, _, rfl, rfl, SqL.of hL, rfl, fin _ _ (.str _) (fs " 1/2" (by decide +kernel)) (ss " 1/2" (by decide +kernel))⟩
    · exact ⟨L2, _, _, _, rfl, rfl, SqL.of hL, rfl, fin _ _ (.str _) (fs "1/2 " (by decide +kernel)) (ss "1/2 " (by decide +kernel))⟩
    · exact ⟨L2, _, _, _, rfl, rfl, SqL.of hL, rfl, fin _ _ (.str _) (fs "over  1/2" (by decide +kernel)) (ss "over  1/2" (by decide +kernel))⟩
    · exact ⟨L2, _, _, _, rfl, rfl, SqL.of hL, rfl, fin _ _ (.str _) (fs "over over 1/2" (by decide +kernel)) (ss "over over 1/2" (by decide +kernel))⟩
    · exact ⟨L2, _, _, _, rfl, rfl, SqL.of hL, rfl, fin _ _ (.str _) (fs "1/2/3" (by decide +kernel)) (ss "1/2/3" (by decide +kernel))⟩
    · exact ⟨L2, _, _, _, rfl, rfl, SqL.of hL, rfl, fin _ _ (.str _) (fs "half" (by decide +kernel)) (ss "half" (by decide +kernel))⟩
    · exact ⟨L2, _, _, _, rfl, rfl, SqL.of hL, rfl, fin _ _ (.str _) (fs "-1/2" (by decide +kernel)) (ss "-1/2" (by decide +kernel))⟩
    · exact ⟨L2, _, _, _, rfl, rfl, SqL.of hL, rfl, fin _ _ (.str _) (fs "+1/2" (by decide +kernel)) (ss "+1/2" (by decide +kernel))⟩
    · exact ⟨L2, _, _, _, rfl, rfl, SqL.of hL, rfl, fin _ _ (.str _) (fs "1/ 2" (by decide +kernel)) (ss "1/ 2" (by decide +kernel))⟩
end L
namespace L
open PySem L2 Hv
variable {P : Program} {w : World} {K : PySem.W.Frag} {mg : Str → Option Value} {base : Heap}
abbrev s_number : Stmt := top 59
abbrev N_number : List Str := ["_law_bag_here", "_law_way", "_law_some"]
abbrev P_number : List Str := ["_law_bag_here"]
theorem sc_number : FnScope N_number P_number (defScope s_number) := ⟨rfl, rfl, rfl, by decide +kernel, rfl, by decide +kernel, by decide +kernel⟩
theorem ok_number {f f1 : Addr} {fd fd1 : FuncData} (D : DefAt K mg "_law_number" s_number P_number f fd) (T : Txt K mg) (D_take : DefAt K mg "_law_take" s_take P_take f1 fd1) : FnOk P w K mg base CX0 2 f fd P_number (sp_number K) := by
  have G_take : FnOk P w K mg base CX0 1 f1 fd1 P_take sp_take := ok_take D_take T
  refine D.fn.ok sc_number (fun vs H Q E h => ?_) (fun cdv A outer s H vs Q E hr h => ?_)
  · obtain ⟨b, n, rfl, _⟩ := h
    rfl
  · obtain ⟨b, n, rfl, hb, hn, ret⟩ := h
    refine ⟨_, (pss_cons (ps_asg (pe_call G_take (hr.mono (by decide)) rfl D_take.mg D_take.fn.kp D_take.bd .nil pass0 (pa_cons (pv 0) (pa_cons pe_int pa_nil))) (pg_name (i := 1) sc_number.nd rfl (.inl rfl)))
      (pss_cons (ps_if (pt_cmpR op_lt (pv 1) pe_int (nomark _))
      (pss_one (ps_ret (pe_call G_take (hr.mono (by decide)) rfl D_take.mg D_take.fn.kp D_take.bd .nil pass0 (pa_cons (pv 0) (pa_cons pe_int pa_nil)))))
      pss_nil)
      (pss_cons (ps_if (pt_cmpR op_eq (pv 1) pe_int (nomark _))
      (pss_one (ps_ret (pe_op op_sub (pe_call G_take (hr.mono (by decide)) rfl D_take.mg D_take.fn.kp D_take.bd .nil pass0 (pa_cons (pv 0) (pa_cons (pe_op op_pow pe_int pe_int) pa_nil))) pe_int)))
      pss_nil)
      (pss_cons (ps_asg (pe_lst (pa_cons pe_non (pa_cons pe_bl (pa_cons pe_bl (pa_cons pe_str (pa_cons pe_str (pa_cons (pe_tup (pa_cons pe_int pa_nil)) (pa_cons (pe_lst (pa_cons pe_int pa_nil)) (pa_cons pe_dnewK (pa_cons (pe_un un_neg pe_int) (pa_cons (pe_un un_neg pe_int) (pa_cons (pe_tup (pa_cons pe_str (pa_cons pe_int pa_nil))) (pa_cons pe_int (pa_cons pe_int (pa_cons pe_int (pa_cons (pe_un un_neg (pe_op op_pow pe_int pe_int)) (pa_cons (pe_op op_pow pe_int pe_int) pa_nil))))))))))))))))) (pg_name (i := 2) sc_number.nd rfl (.inl rfl)))
      (pss_one (ps_ret (pe_ix ix_list (pv 2) (pe_call G_take (hr.mono (by decide)) rfl D_take.mg D_take.fn.kp D_take.bd .nil pass0 (pa_cons (pv 0) (pa_cons pe_int pa_nil))) (fun _ _ => rfl)))))))), ?_⟩
    refine ⟨_, rfl, b, 5, n, rfl, hb, by omega, by decide, m_small (by decide) (by decide), fun way H1 u1 b1 w0 w1 => ?_⟩
    refine ⟨_, rfl, _, _, rfl, rfl, _, rfl, ?_⟩
    refine ite2 (fun h1 => ?_) (fun h1 => ?_)
    · refine ⟨_, rfl, b, 9, n + 1, rfl, b1, by omega, by decide, m_small (by decide) (by decide), fun x H2 u2 b2 x0 x1 => ?_⟩
      exact ret _ (.int x) H2 (u1.trans u2) (b2.mono (by omega)) (.int x) (fi (small_log (by omega) (by omega)))
    refine ⟨_, rfl, rfl, _, rfl, ?_⟩
    refine ite2 (fun h2 => ?_) (fun h2 => ?_)
    · refine ⟨_, rfl, _, _, rfl, rfl, ⟨by decide, by decide, by decide⟩, b, _, n + 1, rfl, b1, by omega, by decide +kernel, m_small (by decide +kernel) (by decide +kernel), fun x H2 u2 b2 x0 x1 => ⟨_, _, rfl, rfl, ?_⟩⟩
      have x2 : x < 10 ^ 39 := x1
      exact ret _ (.int (x - 3)) H2 (u1.trans u2) (b2.mono (by omega)) (.int _) (fi (log_le (by omega) (by omega)))
    refine ⟨by show 1 ≤ sizeLine; decide, fun t1 n1 => ⟨by show 1 ≤ sizeLine; decide, fun l2 n2 => fun d3 n3 => ⟨_, rfl, _, rfl, by show 2 ≤ sizeLine; decide, fun t4 n4 => ?_⟩⟩⟩
    have s1 := same_new (o := .tup [.int 3]) n1
    have s2 := same_new (o := .lst [.int 4]) n2
    have s3 := same_new (o := .dK []) n3
    have s4 := same_new (o := .tup [.str "1", .int 2]) n4
    have l2b : l2 ≠ b := (b1.same s1).ne_none n2
    have A1 := s4 _ _ (s3 _ _ (s2 _ _ (upd_same (H := H1) (a := t1) (o := .tup [.int 3]))))
    have A2 := s4 _ _ (s3 _ _ (upd_same (H := upd H1 t1 _) (a := l2) (o := .lst [.int 4])))
    have A3 := s4 _ _ (upd_same (H := upd (upd H1 t1 _) l2 _) (a := d3) (o := .dK []))
    have A4 := upd_same (H := upd (upd (upd H1 t1 (.tup [.int 3])) l2 (.lst [.int 4])) d3 (.dK [])) (a := t4) (o := .tup [.str "1", .int 2])
    have s5 := ((s1.trans s2).trans s3).trans s4
    generalize hx : upd (upd (upd (upd H1 t1 _) l2 _) d3 _) t4 _ = Hx at s5 A1 A2 A3 A4 ⊢
    clear hx s1 s2 s3 s4 n1 n2 n3 n4
    refine ⟨_, _, rfl, rfl, ⟨by decide, by decide, by decide⟩, _, rfl, _, _, rfl, rfl, ⟨by decide, by decide, by decide⟩, by show 16 ≤ sizeLine; decide, fun L m => ?_⟩
    have s6 := same_new (o := .lst [.non, .bl true, .bl false, .str "1", .str "", .ref t1, .ref l2, .ref d3, .int (-1), .int (-7), .ref t4, .int 0, .int 1, .int 2, .int (-(10 ^ (39 : Int).toNat)), .int (10 ^ (39 : Int).toNat)]) m
    have bb := (b1.same s5).same s6
    have Lb : L ≠ b := (b1.same s5).ne_none m
    refine ⟨_, rfl, _, rfl, b, 16, n + 1, rfl, bb, by omega, by decide, m_small (by decide) (by decide), fun r H3 u3 b3 r0 r1 => ?_⟩
    have hL := u3 _ _ Lb upd_same
    have nt : ∀ {a : Addr} {o : HO}, Hx a = some o → (∀ xs, o ≠ .lst xs) → H3 a = some o := fun {a o} e ne => by
      refine u3 _ _ (fun q => ?_) (s6 _ _ e)
      obtain ⟨_, _, _, hb, _⟩ := bb
      have := s6 _ _ e
      rw [q, hb] at this
      exact ne _ (Option.some.inj this).symm
    have A1 := nt A1 (by intro xs q; cases q)
    have A3 := nt A3 (by intro xs q; cases q)
    have A4 := nt A4 (by intro xs q; cases q)
    have A2 := u3 _ _ l2b (s6 _ _ A2)
    have fin : ∀ (v : V) (d : PyData), Dq K b H3 v d → FitQ d 2 60 → Q v H3 := fun v d h1 h2 => ret v d H3 (u1.trans ((But.of (s5.trans s6)).trans u3)) (b3.mono (by omega)) h1 h2
    have o1 : ∀ i : Int, -10 ≤ i → i ≤ 10 → FitQ (.int i) 2 60 := fun i h0 h1 => fi (small_log (by omega) (by omega))
    rcases (show r = 0 ∨ r = 1 ∨ r = 2 ∨ r = 3 ∨ r = 4 ∨ r = 5 ∨ r = 6 ∨ r = 7 ∨ r = 8 ∨ r = 9 ∨ r = 10 ∨ r = 11 ∨ r = 12 ∨ r = 13 ∨ r = 14 ∨ r = 15 by omega) with rfl | rfl | rfl | rfl | rfl | rfl | rfl | rfl | rfl | rfl | rfl | rfl | rfl | rfl | rfl | rfl
    · exact ⟨L, _, _, _, rfl, rfl, SqL.of hL, rfl, fin _ _ .non Fit.none.q⟩
    · exact ⟨L, _, _, _, rfl, rfl, SqL.of hL, rfl, fin _ _ (.bl true) Fit.bool.q⟩
    · exact ⟨L, _, _, _, rfl, rfl, SqL.of hL, rfl, fin _ _ (.bl false) Fit.bool.q⟩
    · exact ⟨L, _, _, _, rfl, rfl, SqL.of hL, rfl, fin _ _ (.str _) (fs "1" (by decide +kernel))⟩
    · exact ⟨L, _, _, _, rfl, rfl, SqL.of hL, rfl, fin _ _ (.str _) (fs "" (by decide +kernel))⟩
    · exact ⟨L, _, _, _, rfl, rfl, SqL.of hL, rfl, fin _ _ (.tup A1 (.cons (.int 3) .nil)) ((Fit.tuple (.cons (.int (m := 0) (n := 0) (by decide +kernel)) (.nil (n := 0)))).mono (by decide) (by decide)).q⟩
    · exact ⟨L, _, _, _, rfl, rfl, SqL.of hL, rfl, fin _ _ (.lst A2 l2b (.cons (.int 4) .nil)) ((Fit.list (.cons (.int (m := 0) (n := 0) (by decide +kernel)) (.nil (n := 0)))).mono (by decide) (by decide)).q⟩
    · exact ⟨L, _, _, _, rfl, rfl, SqL.of hL, rfl, fin _ _ (.emp A3) (.emp (by decide))⟩
    · exact ⟨L, _, _, _, rfl, rfl, SqL.of hL, rfl, fin _ _ (.int _) (o1 _ (by decide) (by decide))⟩
    · exact ⟨L, _, _, _, rfl, rfl, SqL.of hL, rfl, fin _ _ (.int _) (o1 _ (by decide) (by decide))⟩
    · exact ⟨L, _, _, _, rfl, rfl, SqL.of hL, rfl, fin _ _ (.tup A4 (.cons (.str _) (.cons (.int 2) .nil))) ((Fit.tuple (.cons (.str (m := 0) (n := 20) (strOk_of "1") (by decide +kernel)) (.cons (.int (n := 0) (by decide +kernel)) (.nil (n := 0))))).mono (by decide) (by decide)).q⟩
    · exact ⟨L, _, _, _, rfl, rfl, SqL.of hL, rfl, fin _ _ (.int _) (o1 _ (by decide) (by decide))⟩
    · exact ⟨L, _, _, _, rfl, rfl, SqL.of hL, rfl, fin _ _ (.int _) (o1 _ (by decide) (by decide))⟩
    · exact ⟨L, _, _, _, rfl, rfl, SqL.of hL, rfl, fin _ _ (.int _) (o1 _ (by decide) (by decide))⟩
    · exact ⟨L, _, _, _, rfl, rfl, SqL.of hL, rfl, fin _ _ (.int _) (fi (by decide +kernel))⟩
    · exact ⟨L, _, _, _, rfl, rfl, SqL.of hL, rfl, fin _ _ (.int _) (fi (by decide +kernel))⟩
end L

namespace Hv
open PySem L2
theorem inV_strs (z : Str) : ∀ l : List Str, inV (.str z) (l.map V.str) = l.any fun x => decide (x = z)
  | [] => rfl
  | x :: l => by
    have ih := inV_strs z l
    unfold inV at ih ⊢
    rw [List.map_cons, List.any_cons, List.any_cons, ih]
    congr 1
    try simp [eqV]
theorem flat_strs : ∀ l : List Str, ((l.map V.str).all flatV) = true
  | [] => rfl
  | x :: l => by
    rw [List.map_cons, List.all_cons, flat_strs l]
    rfl
def dueL (d1 d2 d3 : PyData) : List Str :=
  if boundD d1 = false then [Str.ofString "InvalidBound", d1.shown] else if geD d2 0 = false then [Str.ofString "InvalidNumber", d2.shown] else if (geD d3 1 && !lessD d3 d2) = false then [Str.ofString "InvalidNumber", d3.shown] else []
def sp_isnum (K : PySem.W.Frag) : Sp := fun vs H Q _ => ∃ (b : Addr) (v : V) (d : PyData) (low : Int), vs = [v, .int low] ∧ Dq K b H v d ∧ Q (.bl (geD d low)) H
def sp_kdue (K : PySem.W.Frag) : Sp := fun vs H Q _ => ∃ (b bl : Addr) (v1 v2 v3 : V) (d1 d2 d3 : PyData), vs = [v1, v2, v3, .ref bl] ∧ Dq K b H v1 d1 ∧ Dq K b H v2 d2 ∧ Dq K b H v3 d3 ∧ FitQ d1 2 60 ∧ FitQ d2 2 60 ∧ FitQ d3 2 60 ∧ SqL K H bl (BL.map V.str) ∧
  ∀ p H', H p = none → Same H H' → H' p = some (.lst ((dueL d1 d2 d3).map V.str)) → Q (.ref p) H'
theorem isnum_d {K : PySem.W.Frag} {b : Addr} {H : Hp} {v : V} {d : PyData} {low : Int} {Q : VK} {E : XK} (h : Dq K b H v d) (q : Q (.bl (geD d low)) H) : lk (sp_isnum K) [v, .int low] H Q E := lk_in ⟨b, v, d, low, rfl, h, q⟩
end Hv
namespace L
open PySem L2 Hv
variable {P : Program} {w : World} {K : PySem.W.Frag} {mg : Str → Option Value} {base : Heap}
abbrev s_is_number : Stmt := top 60
abbrev N_is_number : List Str := ["_law_thing", "_law_low"]
abbrev P_is_number : List Str := ["_law_thing", "_law_low"]
theorem sc_is_number : FnScope N_is_number P_is_number (defScope s_is_number) := ⟨rfl, rfl, rfl, by decide +kernel, rfl, by decide +kernel, by decide +kernel⟩
theorem ok_is_number {f : Addr} {fd : FuncData} (D : DefAt K mg "_law_is_number" s_is_number P_is_number f fd) (T : Txt K mg) : FnOk P w K mg base CX0 1 f fd P_is_number (sp_isnum K) := by
  refine D.fn.ok sc_is_number (fun vs H Q E h => ?_) (fun cdv A outer s H vs Q E hr h => ?_)
  · obtain ⟨b, v, d, low, rfl, _⟩ := h
    rfl
  · obtain ⟨b, v, d, low, rfl, hd, ret⟩ := h
    refine ⟨_, (pss_one (ps_ret (pe_and (pe_callB call_isi (by rfl) T.isinstance (by decide +kernel) (pa_cons (pv 0) (pa_cons (pe_bltn (v := .ty "int") (u := .type "int") (by rfl) T.int (by decide +kernel) rfl) pa_nil))) (pe_and (pe_not (pe_callB call_isi (by rfl) T.isinstance (by decide +kernel) (pa_cons (pv 0) (pa_cons (pe_bltn (v := .ty "bool") (u := .type "bool") (by rfl) T.bool (by decide +kernel) rfl) pa_nil)))) (pe_one (pe_cmpR op_ge (pv 0) (pv 1) (nomark _))))))), ?_⟩
    obtain ⟨b1, b2, k1, k2, e⟩ := kit_int (K := K) d
    have no : isIntD d = false → Q (.bl false) H := fun q => by
      have : geD d low = false := by cases d <;> first | rfl | cases q
      rw [this] at ret
      exact ret
    refine ⟨_, rfl, _, _, _, _, b1, rfl, .ty _, hd.ty, k1, b1, rfl, ?_⟩
    cases b1 with
    | false => exact iteF (no e.symm)
    | true =>
      refine iteT ⟨_, rfl, _, _, _, _, b2, rfl, .ty _, hd.ty, k2, _, rfl, _, rfl, ?_⟩
      cases b2 with
      | true => exact iteF (no e.symm)
      | false =>
        refine iteT ?_
        have hi : isIntD d = true := e.symm
        cases hd with
        | int i => exact ⟨_, rfl, _, rfl, _, _, rfl, rfl, ret⟩
        | _ => cases hi
abbrev s_due : Stmt := top 61
abbrev N_due : List Str := ["_law_line_here", "_law_some", "_law_many", "_law_bounds_here"]
abbrev P_due : List Str := ["_law_line_here", "_law_some", "_law_many", "_law_bounds_here"]
theorem sc_due : FnScope N_due P_due (defScope s_due) := ⟨rfl, rfl, rfl, by decide +kernel, rfl, by decide +kernel, by decide +kernel⟩
theorem ok_due {f f1 : Addr} {fd fd1 : FuncData} (D : DefAt K mg "_law_due" s_due P_due f fd) (T : Txt K mg) (D_is_number : DefAt K mg "_law_is_number" s_is_number P_is_number f1 fd1) : OkG P w K mg base CX0 2 f fd P_due (sp_kdue K) := by
  have G_is_number := fn_lk (ok_is_number (P := P) (w := w) (base := base) D_is_number T)
  refine okG0 D.fn sc_due (fun vs H Q E h => ?_) (fun cdv A outer s H vs Q E hG hr h => ?_)
  · obtain ⟨b, bl, v1, v2, v3, d1, d2, d3, rfl, _⟩ := h
    rfl
  · obtain ⟨b, bl, v1, v2, v3, d1, d2, d3, rfl, h1, h2, h3, f1, f2, f3, hS, ret⟩ := h
    refine ⟨_, (pss_cons (ps_if (PW.pt (pw_or (pt_not (pt_val (pe_callB call_isi (by rfl) T.isinstance (by decide +kernel) (pa_cons (pv 0) (pa_cons (pe_bltn (v := .ty "str") (u := .type "str") (by rfl) T.str (by decide +kernel) rfl) pa_nil))))) (pw_or1 (pt_cmpR op_notIn_seq (pv 0) (pv 3) (by rfl)))))
      (pss_one (ps_ret (pe_lst (pa_cons pe_str (pa_cons (pe_callB (cr_reprQ hG hr.units) (by rfl) T.repr (by decide +kernel) (pa_cons (pv 0) pa_nil)) pa_nil)))))
      pss_nil)
      (pss_cons (ps_if (pt_not (pt_val (pe_call G_is_number (hr.mono (by decide)) rfl D_is_number.mg D_is_number.fn.kp D_is_number.bd .nil pass0 (pa_cons (pv 1) (pa_cons pe_int pa_nil)))))
      (pss_one (ps_ret (pe_lst (pa_cons pe_str (pa_cons (pe_callB (cr_reprQ hG hr.units) (by rfl) T.repr (by decide +kernel) (pa_cons (pv 1) pa_nil)) pa_nil)))))
      pss_nil)
      (pss_cons (ps_if (PW.pt (pw_or (pt_not (pt_val (pe_call G_is_number (hr.mono (by decide)) rfl D_is_number.mg D_is_number.fn.kp D_is_number.bd .nil pass0 (pa_cons (pv 2) (pa_cons pe_int pa_nil))))) (pw_or1 (pt_cmpR op_lt (pv 2) (pv 1) (nomark _)))))
      (pss_one (ps_ret (pe_lst (pa_cons pe_str (pa_cons (pe_callB (cr_reprQ hG hr.units) (by rfl) T.repr (by decide +kernel) (pa_cons (pv 2) pa_nil)) pa_nil)))))
      pss_nil)
      (pss_one (ps_ret (pe_lst pa_nil)))))), ?_⟩
    have two : ∀ (s : String) (d : PyData) (L : List Str), L = [Str.ofString s, d.shown] → (∀ p H', H p = none → Same H H' → H' p = some (.lst (L.map V.str)) → Q (.ref p) H') → ∀ p, H p = none → Q (.ref p) (upd H p (.lst [.str (Str.ofString s), .str d.shown])) := fun s d L e k p np => by
      subst e
      exact k p _ np (same_new np) upd_same
    have k1 := kit_str (K := K) d1
    have bad1 : boundD d1 = false → ∀ p, H p = none → Q (.ref p) (upd H p (.lst [.str (Str.ofString "InvalidBound"), .str d1.shown])) := fun q => two _ d1 _ (by unfold dueL; rw [if_pos q]) ret
    refine join_ifs (fun k H' => k = !boundD d1 ∧ H' = H) (fun Q' fin => ?_) ?_
    · refine ⟨_, rfl, _, _, _, _, isStrD d1, rfl, .ty _, h1.ty, k1, _, rfl, ?_⟩
      cases hs : isStrD d1 with
      | false =>
        have : boundD d1 = false := by cases d1 <;> first | rfl | cases hs
        exact iteT (fin _ _ ⟨by rw [this]; rfl, rfl⟩)
      | true =>
        refine iteF ?_
        cases h1 with
        | str z =>
          refine ⟨_, rfl, _, rfl, bl, _, rfl, .inl hS, rfl, flat_strs BL, _, rfl, fin _ _ ⟨?_, rfl⟩⟩
          rw [inV_strs]
          show (!inBL z) = _
          rw [← bl_iff]
          rfl
        | _ => cases hs
    rintro _ H0 ⟨rfl, rfl⟩
    cases hb : boundD d1 with
    | false => exact iteT ⟨_, rfl, rd_reprQ h1 f1 (by decide) (by decide) ⟨by show 2 ≤ sizeLine; decide, bad1 hb⟩⟩
    | true =>
      refine iteF ?_
      refine ⟨_, rfl, isnum_d h2 ⟨_, rfl, ?_⟩⟩
      cases hg : geD d2 0 with
      | false =>
        refine iteT ⟨_, rfl, rd_reprQ h2 f2 (by decide) (by decide) ⟨by show 2 ≤ sizeLine; decide, two _ d2 _ ?_ ret⟩⟩
        unfold dueL
        rw [if_neg (by rw [hb]; decide), if_pos hg]
      | true =>
        refine iteF ?_
        have bad3 : (geD d3 1 && !lessD d3 d2) = false → ∀ p, H0 p = none → Q (.ref p) (upd H0 p (.lst [.str (Str.ofString "InvalidNumber"), .str d3.shown])) := fun q => two _ d3 _ (by
          unfold dueL
          rw [if_neg (by rw [hb]; decide), if_neg (by rw [hg]; decide), if_pos q]) ret
        dsimp only [tNext]
        refine join_ifs (fun k Hk => k = !(geD d3 1 && !lessD d3 d2) ∧ Hk = H0) (fun Q' fin => ?_) ?_
        · refine ⟨_, rfl, isnum_d h3 ⟨_, rfl, ?_⟩⟩
          cases hm : geD d3 1 with
          | false => exact iteT (fin _ _ ⟨by rw [hm]; rfl, rfl⟩)
          | true =>
            refine iteF ?_
            cases h2 with
            | int i =>
              cases h3 with
              | int j => exact ⟨_, rfl, _, rfl, _, _, rfl, rfl, _, rfl, fin _ _ ⟨by rw [hm]; simp [lessD], rfl⟩⟩
              | _ => cases hm
            | _ => cases hg
        rintro _ _ ⟨rfl, rfl⟩
        cases hm : (geD d3 1 && !lessD d3 d2) with
        | false => exact iteT ⟨_, rfl, rd_reprQ h3 f3 (by decide) (by decide) ⟨by show 2 ≤ sizeLine; decide, bad3 hm⟩⟩
        | true =>
          refine iteF ⟨by decide, fun p np => ret p _ np (same_new np) ?_⟩
          rw [upd_same]
          unfold dueL
          rw [if_neg (by rw [hb]; decide), if_neg (by rw [hg]; decide), if_neg (by rw [hm]; decide)]
          rfl
end L
namespace Hv
open PySem L2
/-- what the catcher may tell of meets -/
def Told (d1 d2 d3 : PyData) (a u : Str) : Prop := (dueL d1 d2 d3 = [a, u]) ∨ (dueL d1 d2 d3 = [] ∧ a = Str.ofString "told" ∧ Fit (.str u) 1 sizeLine)
theorem term1 : term 1 = Str.ofString "InvalidNumber" := by decide +kernel
theorem term2 : term 2 = Str.ofString "InvalidBound" := by decide +kernel
theorem field1 : fieldOf 1 = "given" := by decide +kernel
theorem meets_tl {K : PySem.W.Frag} {c : Nat → Addr} {b : Addr} {H : Hp} {v1 v2 v3 : V} {d1 d2 d3 : PyData} {Q : VK} (h1 : Dq K b H v1 d1) (h2 : Dq K b H v2 d2) (h3 : Dq K b H v3 d3) (f1 : FitQ d1 2 60) (f2 : FitQ d2 2 60) (f3 : FitQ d3 2 60) (sh : shortD d1 = true)
    (EX1 : ErrIx K c 1) (EX2 : ErrIx K c 2) (ret : ∀ p H2 a u, Told d1 d2 d3 a u → H p = none → Same H H2 → H2 p = some (.lst [.str a, .str u]) → Q (.ref p) H2) : lk (sp_meets K c) [v1, v2, v3] H (toldQ K Q) (echQ K c Q) := by
  refine lk_in ⟨b, v1, v2, v3, d1, d2, d3, rfl, h1, h2, h3, sh, ?_, ?_, ?_, ?_⟩
  · intro hb d H' hd s hx
    refine ⟨2, b, v1, d1, 2, 60, rfl, by decide, EX2, .inr ⟨d, rfl, hx⟩, h1.same s, f1, by decide, by decide, fun p H2 hp s2 h => ret p H2 _ _ (.inl ?_) (s.free hp) (s.trans s2) h⟩
    unfold dueL
    rw [if_pos hb, term2]
  · intro hb hg d H' hd s hx
    refine ⟨1, b, v2, d2, 2, 60, rfl, by decide, EX1, .inr ⟨d, rfl, hx⟩, h2.same s, f2, by decide, by decide, fun p H2 hp s2 h => ret p H2 _ _ (.inl ?_) (s.free hp) (s.trans s2) h⟩
    unfold dueL
    rw [if_neg (by rw [hb]; decide), if_pos hg, term1]
  · intro hb hg hm d H' hd s hx
    refine ⟨1, b, v3, d3, 2, 60, rfl, by decide, EX1, .inr ⟨d, rfl, hx⟩, h3.same s, f3, by decide, by decide, fun p H2 hp s2 h => ret p H2 _ _ (.inl ?_) (s.free hp) (s.trans s2) h⟩
    unfold dueL
    rw [if_neg (by rw [hb]; decide), if_neg (by rw [hg]; decide), if_pos hm, term1]
  · intro hb hg hm k H' s
    refine ⟨_, rfl, rd_reprQ (b := b) (.bl k) (Fit.bool (m := 1) (n := 0)).q (by decide) (by decide) ⟨by decide, fun p np => ret p _ _ _ (.inr ⟨?_, rfl, ?_⟩) (s.free np) (s.trans (same_new np)) upd_same⟩⟩
    · unfold dueL
      rw [if_neg (by rw [hb]; decide), if_neg (by rw [hg]; decide), if_neg (by rw [hm]; decide)]
    · exact (Fit.bool (m := 1) (n := 0)).q.str (by decide)
theorem due_fit {d1 d2 d3 : PyData} (f1 : FitQ d1 2 60) (f2 : FitQ d2 2 60) (f3 : FitQ d3 2 60) : ∀ z ∈ dueL d1 d2 d3, Fit (.str z) 1 sizeLine := by
  have k1 : Fit (.str (Str.ofString "InvalidBound")) 1 sizeLine := .str (strOk_of _) (by decide +kernel)
  have k2 : Fit (.str (Str.ofString "InvalidNumber")) 1 sizeLine := .str (strOk_of _) (by decide +kernel)
  intro z hz
  unfold dueL at hz
  split at hz
  · simp only [List.mem_cons, List.not_mem_nil, or_false] at hz
    rcases hz with rfl | rfl
    · exact k1
    · exact f1.str (by decide)
  · split at hz
    · simp only [List.mem_cons, List.not_mem_nil, or_false] at hz
      rcases hz with rfl | rfl
      · exact k2
      · exact f2.str (by decide)
    · split at hz
      · simp only [List.mem_cons, List.not_mem_nil, or_false] at hz
        rcases hz with rfl | rfl
        · exact k2
        · exact f3.str (by decide)
      · cases hz
theorem Told.fit {d1 d2 d3 : PyData} {a u : Str} (h : Told d1 d2 d3 a u) (f1 : FitQ d1 2 60) (f2 : FitQ d2 2 60) (f3 : FitQ d3 2 60) : Fit (.str a) 1 sizeLine ∧ Fit (.str u) 1 sizeLine := by
  rcases h with h | ⟨_, rfl, h⟩
  · have k := due_fit f1 f2 f3
    rw [h] at k
    exact ⟨k a (by simp), k u (by simp)⟩
  · exact ⟨.str (strOk_of _) (by decide +kernel), h⟩
end Hv
namespace Hv
open PySem L2
theorem dp_strs {K : PySem.W.Frag} {H : Hp} : ∀ l : List Str, DpAll K H (l.map V.str) (l.map PyData.str)
  | [] => .nil
  | z :: l => .cons (.str z) (dp_strs l)
theorem fit_strs : ∀ {l : List Str}, (∀ z ∈ l, Fit (.str z) 1 sizeLine) → ∃ n, FitAll (l.map PyData.str) 1 n
  | [], _ => ⟨0, .nil⟩
  | z :: l, h => by
    obtain ⟨n, f⟩ := fit_strs (l := l) fun x hx => h x (by simp [hx])
    exact ⟨_, .cons (h z (by simp)) f⟩
theorem shaped_strs {l : List Str} (h : ∀ z ∈ l, Fit (.str z) 1 sizeLine) : SeqAt.shaped (.list (l.map PyData.str)) = true := by
  obtain ⟨n, f⟩ := fit_strs h
  exact (Fit.list f).shaped (by decide)
end Hv
namespace L
open PySem L2 Hv
variable {P : Program} {w : World} {K : PySem.W.Frag} {mg : Str → Option Value} {base : Heap}
def sp_right (K : PySem.W.Frag) (Tb : List (Addr × Str)) : Sp := fun vs H Q _ => ∃ (b bl : Addr) (n : Nat), vs = [.ref b, .ref bl] ∧ Bag H b n ∧ n < 600000 ∧ SqL K H bl (BL.map V.str) ∧ bl ≠ b ∧ LamX.Tabs Tb H ∧
  ∀ H', ExtB b H H' → Bag H' b (n + 20) → LamX.Tabs Tb H' → Q (.bl true) H'
abbrev s_right : Stmt := top 62
abbrev N_right : List Str := ["_law_bag_here", "_law_bounds_here", "_law_line_here", "_law_some", "_law_many", "_law_before", "_law_due_here", "_law_told", "_law_one"]
abbrev P_right : List Str := ["_law_bag_here", "_law_bounds_here"]
theorem sc_right : FnScope N_right P_right (defScope s_right) := ⟨rfl, rfl, rfl, by decide +kernel, rfl, by decide +kernel, by decide +kernel⟩
theorem kb_meets_0_whole_part_bound {f : Addr} {fd : FuncData} (F : Fun K "meets" "meets" s_meets f fd) : KBinds K fd P_meets ["whole", "part", "bound"] (fun us ws => match us, ws with | [], [w0, w1, w2] => [w2, w1, w0] | _, _ => []) (fun us ws => match us, ws with | [], [w0, w1, w2] => [w2, w1, w0] | _, _ => []) := by
  obtain ⟨oc, od, kV, doc, pm, an, cdv, ct, osl, rfl, lk, hcd⟩ := F.ex
  refine ⟨fun s us ws _ hl => ?_, fun {vs us zs ws} r rz => ?_⟩
  · rcases us with _ | ⟨xu, yu⟩ <;> rcases ws with _ | ⟨w0, _ | ⟨w1, _ | ⟨w2, _ | ⟨xw, yw⟩⟩⟩⟩ <;> first | exact .of_eq rfl | cases hl
  · cases r with
    | cons _ _ => exact .nil
    | nil =>
      cases rz with
      | nil => exact .nil
      | cons rw0 tw0 =>
        cases tw0 with
        | nil => exact .nil
        | cons rw1 tw1 =>
          cases tw1 with
          | nil => exact .nil
          | cons rw2 tw2 =>
            cases tw2 with
            | cons _ _ => exact .nil
            | nil =>
              exact .cons rw2 (.cons rw1 (.cons rw0 (.nil)))
abbrev qR : Str := (PyProof.Rows.envOfC "_law_right" (defScope s_right) 0 0 .none).qual
theorem ok_right {f f1 f2 f3 f4 f5 f6 f7 f8 f9 cR PR : Addr} {fd fd1 fd2 fd3 fd4 fd5 fd6 fd7 fd8 fd9 : FuncData} {c : Nat → Addr} {Tb : List (Addr × Str)} (D : DefAt K mg "_law_right" s_right P_right f fd) (T : Txt K mg) (EN : ErrNames mg c) (hcode : fd.code = .ref cR) (TB : LamX.TabB base mg cR PR)
    (hmT : (PR, qR ++ "<lambda>") ∈ Tb) (hu : ∀ p ∈ Tb, p.1 = PR → p.2 = qR ++ "<lambda>") (EX1 : ErrIx K c 1) (EX2 : ErrIx K c 2)
    (D_take : DefAt K mg "_law_take" s_take P_take f1 fd1) (D_bent : DefAt K mg "_law_bent" s_bent P_bent f2 fd2) (D_line : DefAt K mg "_law_line" s_line P_line f3 fd3) (D_number : DefAt K mg "_law_number" s_number P_number f4 fd4)
    (D_is_number : DefAt K mg "_law_is_number" s_is_number P_is_number f5 fd5) (D_due : DefAt K mg "_law_due" s_due P_due f6 fd6) (D_caught : DefAt K mg "_law_caught" s_caught P_caught f7 fd7)
    (D_sort : DefAt K mg "_law_sort" s_sort P_sort f8 fd8) (G_sort : FnP P w K mg base 2 f8 fd8 P_sort (sp_sort K c)) (D_held : DefAt K mg "_law_held" s_held P_held f9 fd9) (G_held : FnP P w K mg base 1 f9 fd9 P_held (sp_held K c))
    {fm : Addr} {fdm : FuncData} (D_meets : DefAt K mg "meets" s_meets P_meets fm fdm) (G_meets : FnOk P w K mg base (L2.CX P w) 4 fm fdm P_meets (sp_meets K c)) : OkG P w K mg base CX0 10 f fd P_right (sp_right K Tb) := by
  have G_line : FnOk P w K mg base CX0 3 f3 fd3 P_line (sp_line K) := ok_line D_line T D_take D_bent
  have G_number : FnOk P w K mg base CX0 2 f4 fd4 P_number (sp_number K) := ok_number D_number T D_take
  have G_due : OkG P w K mg base CX0 2 f6 fd6 P_due (sp_kdue K) := ok_due D_due T D_is_number
  have G_meets := fn_lk G_meets
  refine okGc D.fn sc_right hcode (fun vs H Q E h => ?_) (fun A outer s H vs Q E hG hr h => ?_)
  · obtain ⟨b, bl, n, rfl, _⟩ := h
    rfl
  · obtain ⟨b, bl, n, rfl, hb, hn, hS, nb, hT, ret⟩ := h
    refine ⟨_, (pss_cons (ps_asg (pe_tup (pa_cons (pe_call G_line (hr.mono (by decide)) rfl D_line.mg D_line.fn.kp D_line.bd .nil pass0 (pa_cons (pv 0) (pa_cons (pv 1) pa_nil))) (pa_cons (pe_call G_number (hr.mono (by decide)) rfl D_number.mg D_number.fn.kp D_number.bd .nil pass0 (pa_cons (pv 0) pa_nil)) (pa_cons (pe_call G_number (hr.mono (by decide)) rfl D_number.mg D_number.fn.kp D_number.bd .nil pass0 (pa_cons (pv 0) pa_nil)) pa_nil)))) (pg_tup (by rfl) (pgs_cons (pg_name (i := 2) sc_right.nd rfl (.inr rfl)) (pgs_cons (pg_name (i := 3) sc_right.nd rfl (.inr rfl)) (pgs_cons (pg_name (i := 4) sc_right.nd rfl (.inr rfl)) pgs_nil)))))
      (pss_cons (ps_par (i := 5) (j := 6) (by rfl) sc_right.nd rfl rfl (by decide) rfl rfl (pa_cons (pe_callB (cr_reprQ hG hr.units) (by rfl) T.repr (by decide +kernel) (pa_cons (pe_lst (pa_cons (pv 2) (pa_cons (pv 3) (pa_cons (pv 4) pa_nil)))) pa_nil)) (pa_cons (pe_callG G_due hG (hr.mono (by decide)) rfl D_due.mg D_due.fn.kp D_due.bd .nil pass0 (pa_cons (pv 2) (pa_cons (pv 3) (pa_cons (pv 4) (pa_cons (pv 1) pa_nil))))) pa_nil)) (by rfl))
      (pss_cons (ps_asg (pe_lst (pa_cons (pe_caught (k := 5) (hr.mono (by decide)) hG T EN D_caught D_sort G_sort D_held G_held rfl TB rfl hmT hu (LamX.lamS_by (sc := defScope s_right) (by decide +kernel)) rfl (fun _ _ _ _ _ => rfl) (fun A1 outer1 s1 H1 E1 f1 c1 hr1 => (pe_call (E := E1) G_meets (hr1.mono (by decide)) rfl D_meets.mg D_meets.fn.kp D_meets.bd .nil (passes_call (takes_of rfl rfl rfl rfl) (fun _ _ _ _ z => z)) (pa_cons (pv 2) (pa_cons (pv 3) (pa_cons (pv 4) pa_nil)))))) pa_nil)) (pg_name (i := 7) sc_right.nd rfl (.inl rfl)))
      (pss_cons (ps_expr (pe_bm PySem.F.plainAttrs_list PySem.F.slot_list_append PySem.F.type_list_append mt_append (pv 7) (pa_cons (pe_caught (k := 5) (hr.mono (by decide)) hG T EN D_caught D_sort G_sort D_held G_held rfl TB rfl hmT hu (LamX.lamS_by (sc := defScope s_right) (by decide +kernel)) rfl (fun _ _ _ _ _ => rfl) (fun A1 outer1 s1 H1 E1 f1 c1 hr1 => (pe_callK0 (E := E1) G_meets (hr1.mono (by decide)) rfl D_meets.mg D_meets.fn.kp (kb_meets_0_whole_part_bound D_meets.fn) (passes_call (takes_of rfl rfl rfl rfl) (fun _ _ _ _ z => z)) (pk_cons (pv 4) (pk_cons (pv 3) (pk_cons (pv 2) pk_nil)))))) pa_nil)))
      (pss_cons (ps_if (PW.pt (pw_or (PW.pt (pw_and (pt_cmpR (op_neD hr.units) (pv 6) (pe_lst pa_nil) (nomark _)) (pw_and1 (pt_cmpR (op_neD hr.units) (pv 7) (pe_lst (pa_cons (pv 6) (pa_cons (pv 6) pa_nil))) (nomark _))))) (pw_or1 (PW.pt (pw_and (pt_cmpR (op_eqD hr.units) (pv 6) (pe_lst pa_nil) (nomark _)) (pw_and1 (pt_cmpR (op_neD hr.units) (pe_lc (own := [("_law_one", 8)]) (g := gName 8) rfl sc_right.nd (pi_list (pv 7)) (blkOk_by (own := [("_law_one", 8)]) (N := N_right) (sc := defScope s_right) (by decide +kernel)) (fun _ _ _ _ _ => (pg_name (i := 8) sc_right.nd rfl (.inl rfl))) (fun _ _ _ _ _ => pts_nil) (fun _ _ _ _ _ => (pe_ix (show IxR _ (rIxL K) from ix_list) (pv 8) pe_int (fun _ _ => rfl)))) (pe_lst (pa_cons pe_str (pa_cons pe_str pa_nil))) (nomark _))))))))
      (pss_one (ps_ret pe_bl))
      pss_nil)
      (pss_one (ps_ret (pe_cmpR op_eq (pe_callB (cr_reprQ hG hr.units) (by rfl) T.repr (by decide +kernel) (pa_cons (pe_lst (pa_cons (pv 2) (pa_cons (pv 3) (pa_cons (pv 4) pa_nil)))) pa_nil)) (pv 5) (nomark _))))))))), ?_⟩
    refine ⟨_, rfl, _, rfl, b, bl, n, rfl, hb, by omega, hS, nb, fun v1 d1 H1 u1 b1 h1 f1 sh => ?_⟩
    refine ⟨_, rfl, b, n + 6, rfl, b1, by omega, fun v2 d2 H2 u2 b2 h2 f2 => ?_⟩
    refine ⟨_, rfl, b, n + 9, rfl, b2, by omega, fun v3 d3 H3 u3 b3 h3 f3 => ?_⟩
    refine ⟨by show 3 ≤ sizeLine; decide, fun t nt => ⟨t, _, rfl, SqT.of upd_same, rfl, _, _, rfl, _, _, rfl, _, _, rfl, rfl, ?_⟩⟩
    have s4 := same_new (o := .tup [v1, v2, v3]) nt
    have h1 := ((h1.but b1 u2).but b2 u3).same s4
    have h2 := (h2.but b2 u3).same s4
    have h3 := h3.same s4
    have hT4 := ((tabs_but (tabs_but (tabs_but hT hb u1) b1 u2) b2 u3).ext s4)
    have b4 := b3.same s4
    have e4 : ExtB b H _ := ExtB.of (((u1.trans u2).trans u3).trans (But.of s4))
    have hS4 : SqL K _ bl (BL.map V.str) := e4.seq nb hS
    generalize hx : upd H3 t _ = H4 at h1 h2 h3 hT4 b4 e4 hS4 ⊢
    clear hx s4 nt u1 u2 u3 b1 b2 b3
    have F3 : FitQ (.list [d1, d2, d3]) 3 183 := (FitQ.list (.cons f1 (.cons f2 (.cons f3 (.nil (n := 0)))))).mono (by decide) (by decide)
    refine ⟨_, rfl, _, rfl, _, rfl, by show 3 ≤ sizeLine; decide, fun l nl => ?_⟩
    have s5 := same_new (o := .lst [v1, v2, v3]) nl
    have lb : l ≠ b := b4.ne_none nl
    refine rd_reprQ (b := b) (.lst upd_same lb (.cons (h1.same s5) (.cons (h2.same s5) (.cons (h3.same s5) .nil)))) F3 (by decide) (by decide) ?_
    refine ⟨_, rfl, _, rfl, _, rfl, _, rfl, b, bl, v1, v2, v3, d1, d2, d3, rfl, h1.same s5, h2.same s5, h3.same s5, f1, f2, f3, s5.seq hS4, fun du H6 du0 s6 hdu => ⟨_, _, rfl, ?_⟩⟩
    have s46 := s5.trans s6
    have dub : du ≠ b := (b4.same s5).ne_none du0
    refine ⟨hT4.ext s46, fun H7 x7 T7 => ?_⟩
    have k1 := dq_ext x7 (h1.same s46)
    have k2 := dq_ext x7 (h2.same s46)
    have k3 := dq_ext x7 (h3.same s46)
    have b7 := ext_bag x7 (b4.same s46)
    have hdu7 := x7 _ _ hdu (by intro ps q; cases q)
    refine ⟨_, rfl, _, rfl, _, rfl, meets_tl k1 k2 k3 f1 f2 f3 sh EX1 EX2 fun p1 H8 a1 w1 t1 p10 s8 hp1 => ?_⟩
    refine ⟨by show 1 ≤ sizeLine; decide, fun L nL => ?_⟩
    have kd7 := x7.trans (LamX.ExtN.of s8)
    have s9 := same_new (o := .lst [.ref p1]) nL
    have Lb : L ≠ b := (b7.same s8).ne_none nL
    refine ⟨_, rfl, .inl ⟨rfl, _, SqL.of upd_same⟩, (T7.ext s8).ext s9, fun H9 x9 T9 => ?_⟩
    have s89 := s8.trans s9
    have m1 := dq_ext x9 (k1.same s89)
    have m2 := dq_ext x9 (k2.same s89)
    have m3 := dq_ext x9 (k3.same s89)
    have hL9 := x9 _ _ (upd_same (H := H8) (a := L) (o := .lst [.ref p1])) (by intro ps q; cases q)
    have hp9 := x9 _ _ (s9 _ _ hp1) (by intro ps q; cases q)
    have hdu9 := x9 _ _ (s89 _ _ hdu7) (by intro ps q; cases q)
    have b9 := ext_bag x9 (b7.same s89)
    have p1L : p1 ≠ L := ne_of_none hp1 nL
    refine ⟨_, rfl, _, rfl, _, rfl, meets_tl m1 m2 m3 f1 f2 f3 sh EX1 EX2 fun p2 H10 a2 w2 t2 p20 s10 hp2 => ?_⟩
    have p2L : p2 ≠ L := (ne_of_none hL9 p20).symm
    refine ⟨L, _, _, rfl, rfl, s10 _ _ hL9, by show 1 < sizeLine; decide, ?_⟩
    have duL : du ≠ L := ne_of_none (s8 _ _ hdu7) nL
    have g1 : upd H10 L (.lst ([.ref p1] ++ [.ref p2])) p1 = some (.lst [.str a1, .str w1]) := by rw [upd_ne p1L]; exact s10 _ _ hp9
    have g2 : upd H10 L (.lst ([.ref p1] ++ [.ref p2])) p2 = some (.lst [.str a2, .str w2]) := by rw [upd_ne p2L]; exact hp2
    have g3 : upd H10 L (.lst ([.ref p1] ++ [.ref p2])) du = some (.lst ((dueL d1 d2 d3).map V.str)) := by rw [upd_ne duL]; exact s10 _ _ hdu9
    have g4 : upd H10 L (.lst ([.ref p1] ++ [.ref p2])) L = some (.lst [.ref p1, .ref p2]) := upd_same
    have gb : Bag (upd H10 L (.lst ([.ref p1] ++ [.ref p2]))) b (n + 12) := (b9.same s10).put Lb
    have gT : LamX.Tabs Tb (upd H10 L (.lst ([.ref p1] ++ [.ref p2]))) := by
      have t10 := T9.ext s10
      intro p hp
      obtain ⟨ps, z1, z2, z3⟩ := t10 p hp
      have hL10 := s10 _ _ hL9
      refine ⟨ps, by rw [upd_ne (ne_of z1 hL10 (by intro q; cases q))]; exact z1, z2, fun pos cv hc => ?_⟩
      obtain ⟨cc, e1, e2⟩ := z3 pos cv hc
      exact ⟨cc, e1, by rw [upd_ne (ne_of e2 hL10 (by intro q; unfold LamX.CodeO at q; cases q))]; exact e2⟩
    have ge : ExtB b H (upd H10 L (.lst ([.ref p1] ++ [.ref p2]))) := by
      intro a o na ea nt
      have z7 : H7 a = some o := x7 _ _ (s46 _ _ (e4 a o na ea nt)) nt
      rw [upd_ne (ne_of_none (s8 _ _ z7) nL)]
      exact s10 _ _ (x9 _ _ (s89 _ _ z7) nt)
    have nLq : ∀ a u, H7 a = some u → a ≠ L := fun a u e => ne_of_none (s8 _ _ e) nL
    have up : ∀ a u, H7 a = some u → (∀ ps, u ≠ .tbl ps) → upd H10 L (.lst ([.ref p1] ++ [.ref p2])) a = some u := fun a u e nt => by
      rw [upd_ne (nLq a u e)]
      exact s10 _ _ (x9 _ _ (s89 _ _ e) nt)
    have dup : ∀ {v : V} {d : PyData}, Dq K b H7 v d → Dq K b (upd H10 L (.lst ([.ref p1] ++ [.ref p2]))) v d := fun h => dq_ext (fun a u e nt => up a u e nt) h
    have j1 := dup k1
    have j2 := dup k2
    have j3 := dup k3
    generalize hx : upd H10 L _ = Hz at g1 g2 g3 g4 gb gT ge j1 j2 j3 ⊢
    clear hx up dup nLq
    have df := due_fit f1 f2 f3
    have o1 := t1.fit f1 f2 f3
    have o2 := t2.fit f1 f2 f3
    have D3 : ∀ H', Same Hz H' → Dp K H' (.ref du) (.list ((dueL d1 d2 d3).map PyData.str)) := fun H' s' => .lst (SqL.of (s' _ _ g3)) (dp_strs _)
    dsimp only
    refine join_no (fun H' => Same Hz H') (fun Q' fin => ?_) ?_
    · refine ⟨_, rfl, by decide, fun q1 r1 => ?_⟩
      have z1 := same_new (o := .lst []) r1
      refine ⟨_, .list [], D3 _ z1, .lst (SqL.of upd_same) .nil, shaped_strs df, by decide +kernel, _, rfl, ?_⟩
      rcases t1 with e1 | ⟨e1, rfl, ft1⟩
      · have e2 : dueL d1 d2 d3 = [a2, w2] := by
          rcases t2 with e2 | ⟨e2, _⟩
          · exact e2
          · rw [e1] at e2
            cases e2
        have e3 := e1.symm.trans e2
        cases e3
        rw [e1] at g3 D3 df ⊢
        have ne : PyData.eqv (.list (List.map PyData.str [a1, w1])) (.list []) = false := by simp [PyData.eqv, PyData.eqvAll]
        rw [ne]
        refine iteT ⟨_, rfl, _, rfl, _, rfl, by show 2 ≤ sizeLine; decide, fun q2 r2 => ?_⟩
        have z2 := z1.trans (same_new (o := .lst [.ref du, .ref du]) r2)
        have one : ∀ p, Hz p = some (.lst [.str a1, .str w1]) → Dp K _ (.ref p) (.list [.str a1, .str w1]) := fun p e => .lst (SqL.of (z2 _ _ e)) (.cons (.str _) (.cons (.str _) .nil))
        have F1 := Fit.list (.cons o1.1 (.cons o1.2 (.nil (n := 0))))
        have F2 := Fit.list (.cons F1 (.cons F1 (.nil (n := 0))))
        refine ⟨_, _, .lst (SqL.of (z2 _ _ g4)) (.cons (one p1 g1) (.cons (one p2 g2) .nil)), .lst (SqL.of upd_same) (.cons (one du g3) (.cons (one du g3) .nil)), F2.shaped (by decide), F2.shaped (by decide), _, rfl, ?_⟩
        rw [F2.eqv]
        refine iteF ⟨_, rfl, by decide, fun q3 r3 => ?_⟩
        have z3 := z2.trans (same_new (o := .lst []) r3)
        refine ⟨_, .list [], D3 _ z3, .lst (SqL.of upd_same) .nil, shaped_strs df, by decide +kernel, _, rfl, ?_⟩
        rw [ne]
        exact iteF (fin _ _ rfl z3)
      · have e2 : a2 = Str.ofString "told" := by
          rcases t2 with e2 | ⟨_, e2, _⟩
          · rw [e1] at e2
            cases e2
          · exact e2
        subst e2
        rw [e1] at g3 D3 df ⊢
        have yes : PyData.eqv (.list (List.map PyData.str [])) (.list []) = true := by decide +kernel
        rw [yes]
        refine iteF (iteF ⟨_, rfl, by decide, fun q2 r2 => ?_⟩)
        have z2 := z1.trans (same_new (o := .lst []) r2)
        refine ⟨_, .list [], D3 _ z2, .lst (SqL.of upd_same) .nil, shaped_strs df, by decide +kernel, _, rfl, ?_⟩
        rw [yes]
        refine iteT ⟨_, rfl, L, rfl, ⟨_, SqL.of (z2 _ _ g4)⟩, fun C hC => ?_⟩
        have z3 := z2.trans (same_new (o := .lst []) hC)
        have C0 : Hz C = none := z2.free hC
        refine lc_list (K := K) (a := L) (xs := [.ref p1, .ref p2]) (fun i H' => Same Hz H' ∧ H' C = some (.lst (([.str (Str.ofString "told"), .str (Str.ofString "told")] : List V).take i)))
          ⟨z3, upd_same⟩ (fun i H' _ hh => SqL.of (hh.1 _ _ g4)) ?_ ?_
        · rintro i x Hi hxi ⟨si, hCi⟩
          refine ⟨rfl, ?_⟩
          dsimp only [tYes]
          rw [if_pos rfl]
          match i, hxi with
          | 0, hxi =>
            cases hxi
            exact ⟨_, rfl, p1, _, _, _, rfl, rfl, SqL.of (si _ _ g1), rfl, _, hCi, by show 0 < sizeLine; decide, same_put si C0, upd_same⟩
          | 1, hxi =>
            cases hxi
            exact ⟨_, rfl, p2, _, _, _, rfl, rfl, SqL.of (si _ _ g2), rfl, _, hCi, by show 1 < sizeLine; decide, same_put si C0, upd_same⟩
          | i + 2, hxi => simp at hxi
        rintro Hi ⟨si, hCi⟩
        refine ⟨by show 2 ≤ sizeLine; decide, fun q4 r4 => ?_⟩
        have z4 := si.trans (same_new (o := .lst [.str (Str.ofString "told"), .str (Str.ofString "told")]) r4)
        refine ⟨.list [.str (Str.ofString "told"), .str (Str.ofString "told")], .list [.str (Str.ofString "told"), .str (Str.ofString "told")], .lst (SqL.of (same_new r4 _ _ hCi)) (.cons (.str _) (.cons (.str _) .nil)), .lst (SqL.of upd_same) (.cons (.str _) (.cons (.str _) .nil)), by decide +kernel, by decide +kernel, _, rfl, fin _ _ (by decide +kernel) z4⟩
    intro Hy sy
    refine ⟨_, rfl, _, rfl, _, rfl, by show 3 ≤ sizeLine; decide, fun l2 nl2 => ?_⟩
    have s11 := sy.trans (same_new (o := .lst [v1, v2, v3]) nl2)
    refine rd_reprQ (b := b) (.lst upd_same ((gb.same sy).ne_none nl2) (.cons (j1.same s11) (.cons (j2.same s11) (.cons (j3.same s11) .nil)))) F3 (by decide) (by decide) ?_
    refine ⟨_, rfl, rfl, ?_⟩
    rw [decide_eq_true rfl]
    exact ret _ (ge.trans (ExtB.of (But.of s11))) ((gb.same s11).mono (by omega)) (gT.ext s11)
end L
namespace Hv
open PySem L2
theorem due1 : dueL (.str (Str.ofString "1/2")) (.int 3) (.int 2) = [Str.ofString "InvalidNumber", Str.ofString "2"] := by decide +kernel
theorem due2 : dueL (.str (Str.ofString "1/2")) (.int 0) (.int 0) = [Str.ofString "InvalidNumber", Str.ofString "0"] := by decide +kernel
theorem due3 : dueL (.str (Str.ofString "2/4")) (.int (-1)) (.int 0) = [Str.ofString "InvalidBound", Str.ofString "'2/4'"] := by decide +kernel
theorem Told.is {d1 d2 d3 : PyData} {a u x y : Str} (h : Told d1 d2 d3 a u) (e : dueL d1 d2 d3 = [x, y]) : a = x ∧ u = y := by
  rcases h with h | ⟨h, _⟩
  · rw [e] at h
    cases h
    exact ⟨rfl, rfl⟩
  · rw [e] at h
    cases h
theorem fc (s : String) (h : (Str.ofString s).length ≤ 60) : FitQ (.str (Str.ofString s)) 2 60 := (Fit.str (strOk_of s) h).q
def sp_law (K : PySem.W.Frag) (Tb : List (Addr × Str)) : Sp := fun vs H Q _ => ∃ (a : Addr) (ns : List Int), vs = [.ref a] ∧ SqL K H a (ns.map V.int) ∧ ns.length ≤ 63 ∧ (∀ z ∈ ns, Builtin.Int.intBits z ≤ 1048576) ∧ LamX.Tabs Tb H ∧ ∀ H', Q (.bl true) H'
/-- a list is put in the place of a list -/
theorem tabs_put {T : List (Addr × Str)} {H : Hp} {L : Addr} {xs ys : List V} (t : LamX.Tabs T H) (hL : H L = some (.lst xs)) : LamX.Tabs T (upd H L (.lst ys)) := by
  intro p hp
  obtain ⟨ps, z1, z2, z3⟩ := t p hp
  refine ⟨ps, by rw [upd_ne (ne_of z1 hL (by intro q; cases q))]; exact z1, z2, fun pos cv hc => ?_⟩
  obtain ⟨cc, e1, e2⟩ := z3 pos cv hc
  exact ⟨cc, e1, by rw [upd_ne (ne_of e2 hL (by intro q; unfold LamX.CodeO at q; cases q))]; exact e2⟩
end Hv
namespace L
open PySem L2 Hv
variable {P : Program} {w : World} {K : PySem.W.Frag} {mg : Str → Option Value} {base : Heap}
abbrev s_law : Stmt := top 63
abbrev N_law : List Str := ["_law_script", "_law_bounds_here", "_law_told", "_law_k", "_law_bag_here", "_law_turn"]
abbrev P_law : List Str := ["_law_script"]
theorem sc_law : FnScope N_law P_law (defScope s_law) := ⟨rfl, rfl, rfl, by decide +kernel, rfl, by decide +kernel, by decide +kernel⟩
abbrev qL : Str := (PyProof.Rows.envOfC "law" (defScope s_law) 0 0 .none).qual
theorem ok_law {f f1 f2 f3 f4 f5 f7 f8 f9 cL PL : Addr} {fd fd1 fd2 fd3 fd4 fd5 fd7 fd8 fd9 : FuncData} {c : Nat → Addr} {Tb : List (Addr × Str)} (D : Fun K "law" "law" s_law f fd) (T : Txt K mg) (EN : ErrNames mg c) (hcode : fd.code = .ref cL) (TB : LamX.TabB base mg cL PL)
    (hmT : (PL, qL ++ "<lambda>") ∈ Tb) (hu : ∀ p ∈ Tb, p.1 = PL → p.2 = qL ++ "<lambda>") (EX1 : ErrIx K c 1) (EX2 : ErrIx K c 2)
    (D_bag : DefAt K mg "_law_bag" s_bag P_bag f1 fd1) (D_seed : DefAt K mg "_law_seed" s_seed P_seed f2 fd2) (D_bounds : DefAt K mg "_law_bounds" s_bounds P_bounds f3 fd3) (D_common : DefAt K mg "_law_common" s_common P_common f4 fd4)
    (D_right : DefAt K mg "_law_right" s_right P_right f5 fd5) (G_right : OkG P w K mg base CX0 10 f5 fd5 P_right (sp_right K Tb)) (D_caught : DefAt K mg "_law_caught" s_caught P_caught f7 fd7)
    (D_sort : DefAt K mg "_law_sort" s_sort P_sort f8 fd8) (G_sort : FnP P w K mg base 2 f8 fd8 P_sort (sp_sort K c)) (D_held : DefAt K mg "_law_held" s_held P_held f9 fd9) (G_held : FnP P w K mg base 1 f9 fd9 P_held (sp_held K c))
    {fm : Addr} {fdm : FuncData} (D_meets : DefAt K mg "meets" s_meets P_meets fm fdm) (G_meets : FnOk P w K mg base (L2.CX P w) 4 fm fdm P_meets (sp_meets K c)) : OkG P w K mg base CX0 11 f fd P_law (sp_law K Tb) := by
  have G_bag : FnOk P w K mg base CX0 1 f1 fd1 P_bag sp_bag := ok_bag D_bag T
  have G_seed : FnOk P w K mg base CX0 1 f2 fd2 P_seed (sp_seed K) := ok_seed D_seed T
  have G_bounds : FnOk P w K mg base CX0 2 f3 fd3 P_bounds sp_bounds := ok_bounds D_bounds T D_common
  have G_meets := fn_lk G_meets
  refine okGc D sc_law hcode (fun vs H Q E h => ?_) (fun A outer s H vs Q E hG hr h => ?_)
  · obtain ⟨a, ns, rfl, _⟩ := h
    rfl
  · obtain ⟨a, ns, rfl, hS, hlen, bits, hT, ret⟩ := h
    refine ⟨_, (pss_cons (ps_asg (pe_call0 G_bounds (hr.mono (by decide)) rfl D_bounds.mg D_bounds.fn.kp D_bounds.bd .nil pass0) (pg_name (i := 1) sc_law.nd rfl (.inr rfl)))
      (pss_cons (ps_if (pt_cmpR op_ne (pe_callB call_len_seq (by rfl) T.len (by decide +kernel) (pa_cons (pv 1) pa_nil)) pe_int (nomark _))
      (pss_one (ps_ret pe_bl))
      pss_nil)
      (pss_cons (ps_asg (pe_lst (pa_cons (pe_caught (k := 5) (hr.mono (by decide)) hG T EN D_caught D_sort G_sort D_held G_held rfl TB rfl hmT hu (LamX.lamS_by (sc := defScope s_law) (by decide +kernel)) rfl (fun _ _ _ _ _ => rfl) (fun A1 outer1 s1 H1 E1 f1 c1 hr1 => (pe_call (E := E1) G_meets (hr1.mono (by decide)) rfl D_meets.mg D_meets.fn.kp D_meets.bd .nil (passes_call (takes_of rfl rfl rfl rfl) (fun _ _ _ _ z => z)) (pa_cons pe_str (pa_cons pe_int (pa_cons pe_int pa_nil)))))) pa_nil)) (pg_name (i := 2) sc_law.nd rfl (.inl rfl)))
      (pss_cons (ps_expr (pe_bm PySem.F.plainAttrs_list PySem.F.slot_list_append PySem.F.type_list_append mt_append (pv 2) (pa_cons (pe_caught (k := 5) (hr.mono (by decide)) hG T EN D_caught D_sort G_sort D_held G_held rfl TB rfl hmT hu (LamX.lamS_by (sc := defScope s_law) (by decide +kernel)) rfl (fun _ _ _ _ _ => rfl) (fun A1 outer1 s1 H1 E1 f1 c1 hr1 => (pe_call (E := E1) G_meets (hr1.mono (by decide)) rfl D_meets.mg D_meets.fn.kp D_meets.bd .nil (passes_call (takes_of rfl rfl rfl rfl) (fun _ _ _ _ z => z)) (pa_cons pe_str (pa_cons pe_int (pa_cons pe_int pa_nil)))))) pa_nil)))
      (pss_cons (ps_expr (pe_bm PySem.F.plainAttrs_list PySem.F.slot_list_append PySem.F.type_list_append mt_append (pv 2) (pa_cons (pe_caught (k := 5) (hr.mono (by decide)) hG T EN D_caught D_sort G_sort D_held G_held rfl TB rfl hmT hu (LamX.lamS_by (sc := defScope s_law) (by decide +kernel)) rfl (fun _ _ _ _ _ => rfl) (fun A1 outer1 s1 H1 E1 f1 c1 hr1 => (pe_call (E := E1) G_meets (hr1.mono (by decide)) rfl D_meets.mg D_meets.fn.kp D_meets.bd .nil (passes_call (takes_of rfl rfl rfl rfl) (fun _ _ _ _ z => z)) (pa_cons pe_str (pa_cons (pe_un un_neg pe_int) (pa_cons pe_int pa_nil)))))) pa_nil)))
      (pss_cons (ps_if (pt_cmpR (op_neD hr.units) (pv 2) (pe_lst (pa_cons (pe_lst (pa_cons pe_str (pa_cons pe_str pa_nil))) (pa_cons (pe_lst (pa_cons pe_str (pa_cons pe_str pa_nil))) (pa_cons (pe_lst (pa_cons pe_str (pa_cons pe_str pa_nil))) pa_nil)))) (nomark _))
      (pss_one (ps_ret pe_bl))
      pss_nil)
      (pss_cons (ps_for PassesOwn.never rfl (pi_range1 (by rfl) T.range (pa_cons (pe_callB (call_max2 rfl) (by rfl) T.max (by decide +kernel) (pa_cons pe_int (pa_cons (pe_callB (call_min2 rfl) (by rfl) T.min (by decide +kernel) (pa_cons (pe_callB call_len_seq (by rfl) T.len (by decide +kernel) (pa_cons (pv 0) pa_nil)) (pa_cons pe_int pa_nil))) pa_nil))) pa_nil)) (pg_name (i := 3) sc_law.nd rfl (.inl rfl))
      (pss_cons (ps_asg (pe_call G_bag (hr.mono (by decide)) rfl D_bag.mg D_bag.fn.kp D_bag.bd .nil pass0 (pa_cons (pe_call G_seed (hr.mono (by decide)) rfl D_seed.mg D_seed.fn.kp D_seed.bd .nil pass0 (pa_cons (pv 0) (pa_cons (pv 3) pa_nil))) pa_nil)) (pg_name (i := 4) sc_law.nd rfl (.inr rfl)))
      (pss_one (ps_if (pt_not (pt_val (pe_callB (cr_all rfl) (by rfl) T.all (by decide +kernel) (pa_cons (pe_lc (own := [("_law_turn", 5)]) (g := gName 5) rfl sc_law.nd (pi_range1 (by rfl) T.range (pa_cons pe_int pa_nil)) (blkOk_by (own := [("_law_turn", 5)]) (N := N_law) (sc := defScope s_law) (by decide +kernel)) (fun _ _ _ _ _ => (pg_name (i := 5) sc_law.nd rfl (.inl rfl))) (fun _ _ _ _ _ => pts_nil) (fun _ _ _ _ _ => (pe_callG G_right hG (hr.mono (by decide)) rfl D_right.mg D_right.fn.kp D_right.bd .nil pass0 (pa_cons (pv 4) (pa_cons (pv 1) pa_nil))))) pa_nil))))
      (pss_one (ps_ret pe_bl))
      pss_nil))))
      (pss_one (ps_ret pe_bl))))))))), ?_⟩
    refine ⟨rfl, fun bl H1 bl0 s1 h1 => ?_⟩
    dsimp only [gName]
    refine join_no (fun H' => H' = H1) (fun Q' fin => ?_) ?_
    · refine ⟨_, rfl, bl, _, rfl, .inl (SqL.of h1), rfl, _, rfl, fin _ _ ?_ rfl⟩
      rw [List.length_map, BL_len]
      decide +kernel
    rintro H1' rfl
    have fh := fc "1/2" (by decide +kernel)
    refine ⟨hT.ext s1, fun H2 x2 T2 => meets_tl (b := 0) (.str _) (.int _) (.int _) fh (fi (by decide +kernel)) (fi (by decide +kernel)) (by decide +kernel) EX1 EX2 fun p1 H3 a1 w1 t1 p10 s3 hp1 => ?_⟩
    obtain ⟨rfl, rfl⟩ := t1.is due1
    refine ⟨by show 1 ≤ sizeLine; decide, fun L nL => ?_⟩
    have p1L : p1 ≠ L := ne_of_none hp1 nL
    have s4 := s3.trans (same_new (o := .lst [.ref p1]) nL)
    have hp4 := same_new (o := .lst [.ref p1]) nL _ _ hp1
    refine ⟨_, rfl, .inl ⟨rfl, _, SqL.of upd_same⟩, T2.ext s4, fun H5 x5 T5 => ?_⟩
    have hL5 := x5 _ _ (upd_same (H := H3) (a := L) (o := .lst [.ref p1])) (by intro ps q; cases q)
    have hp5 := x5 _ _ hp4 (by intro ps q; cases q)
    refine meets_tl (b := 0) (.str _) (.int _) (.int _) fh (fi (by decide +kernel)) (fi (by decide +kernel)) (by decide +kernel) EX1 EX2 fun p2 H6 a2 w2 t2 p20 s6 hp2 => ?_
    obtain ⟨rfl, rfl⟩ := t2.is due2
    have hL6 := s6 _ _ hL5
    have p2L : p2 ≠ L := (ne_of_none hL5 p20).symm
    refine ⟨L, _, _, rfl, rfl, hL6, by show 1 < sizeLine; decide, ?_⟩
    have T7 : LamX.Tabs Tb (upd H6 L (.lst ([.ref p1] ++ [.ref p2]))) := tabs_put (T5.ext s6) hL6
    have hp17 : upd H6 L (.lst ([.ref p1] ++ [.ref p2])) p1 = some (.lst [.str (Str.ofString "InvalidNumber"), .str (Str.ofString "2")]) := by rw [upd_ne p1L]; exact s6 _ _ hp5
    have hp27 : upd H6 L (.lst ([.ref p1] ++ [.ref p2])) p2 = some (.lst [.str (Str.ofString "InvalidNumber"), .str (Str.ofString "0")]) := by rw [upd_ne p2L]; exact hp2
    have hL7 : upd H6 L (.lst ([.ref p1] ++ [.ref p2])) L = some (.lst [.ref p1, .ref p2]) := upd_same
    have old7 : ∀ d o, H1' d = some o → (∀ ps, o ≠ .tbl ps) → upd H6 L (.lst ([.ref p1] ++ [.ref p2])) d = some o := fun d o e nt => by
      have e3 := s3 _ _ (x2 _ _ e nt)
      rw [upd_ne (ne_of_none e3 nL)]
      exact s6 _ _ (x5 _ _ (same_new nL _ _ e3) nt)
    generalize upd H6 L _ = H7 at T7 hp17 hp27 hL7 old7 ⊢
    refine ⟨_, rfl, .inl ⟨rfl, _, SqL.of hL7⟩, T7, fun H8 x8 T8 => ?_⟩
    refine ⟨_, rfl, meets_tl (b := 0) (.str _) (.int _) (.int _) (fc "2/4" (by decide +kernel)) (fi (by decide +kernel)) (fi (by decide +kernel)) (by decide +kernel) EX1 EX2 fun p3 H9 a3 w3 t3 p30 s9 hp3 => ?_⟩
    obtain ⟨rfl, rfl⟩ := t3.is due3
    have hL8 := x8 _ _ hL7 (by intro ps q; cases q)
    have hL9 := s9 _ _ hL8
    have p3L : p3 ≠ L := (ne_of_none hL8 p30).symm
    refine ⟨L, _, _, rfl, rfl, hL9, by show 2 < sizeLine; decide, ?_⟩
    have Tx : LamX.Tabs Tb (upd H9 L (.lst ([.ref p1, .ref p2] ++ [.ref p3]))) := tabs_put (T8.ext s9) hL9
    have g1 : upd H9 L (.lst ([.ref p1, .ref p2] ++ [.ref p3])) p1 = some (.lst [.str (Str.ofString "InvalidNumber"), .str (Str.ofString "2")]) := by rw [upd_ne p1L]; exact s9 _ _ (x8 _ _ hp17 (by intro ps q; cases q))
    have g2 : upd H9 L (.lst ([.ref p1, .ref p2] ++ [.ref p3])) p2 = some (.lst [.str (Str.ofString "InvalidNumber"), .str (Str.ofString "0")]) := by rw [upd_ne p2L]; exact s9 _ _ (x8 _ _ hp27 (by intro ps q; cases q))
    have g3 : upd H9 L (.lst ([.ref p1, .ref p2] ++ [.ref p3])) p3 = some (.lst [.str (Str.ofString "InvalidBound"), .str (Str.ofString "'2/4'")]) := by rw [upd_ne p3L]; exact hp3
    have g4 : upd H9 L (.lst ([.ref p1, .ref p2] ++ [.ref p3])) L = some (.lst [.ref p1, .ref p2, .ref p3]) := upd_same
    have oldx : ∀ d o, H1' d = some o → (∀ ps, o ≠ .tbl ps) → upd H9 L (.lst ([.ref p1, .ref p2] ++ [.ref p3])) d = some o := fun d o e nt => by
      have e3 := s3 _ _ (x2 _ _ e nt)
      rw [upd_ne (ne_of_none e3 nL)]
      exact s9 _ _ (x8 _ _ (old7 _ _ e nt) nt)
    generalize upd H9 L _ = Hx at Tx g1 g2 g3 g4 oldx ⊢
    have hSx : SqL K Hx a (ns.map V.int) := by
      rcases s1.seq hS with (h | ⟨o, h⟩) | h
      · exact .inl (.inl (oldx _ _ h (by intro ps q; cases q)))
      · exact .inl (.inr ⟨o, oldx _ _ h (by intro ps q; cases q)⟩)
      · exact .inr h
    have hBx : Hx bl = some (.lst (BL.map V.str)) := oldx _ _ h1 (by intro ps q; cases q)
    clear oldx old7
    dsimp only
    refine join_no (fun H' => Same Hx H') (fun Q' fin => ?_) ?_
    · refine ⟨_, rfl, by show 2 ≤ sizeLine; decide, fun y1 m1 => ⟨by show 2 ≤ sizeLine; decide, fun y2 m2 => ⟨by show 2 ≤ sizeLine; decide, fun y3 m3 => ⟨by show 3 ≤ sizeLine; decide, fun y4 m4 => ?_⟩⟩⟩⟩
      have z1 := same_new (o := .lst [.str (Str.ofString "InvalidNumber"), .str (Str.ofString "2")]) m1
      have z2 := same_new (o := .lst [.str (Str.ofString "InvalidNumber"), .str (Str.ofString "0")]) m2
      have z3 := same_new (o := .lst [.str (Str.ofString "InvalidBound"), .str (Str.ofString "'2/4'")]) m3
      have z4 := same_new (o := .lst [.ref y1, .ref y2, .ref y3]) m4
      have z := ((z1.trans z2).trans z3).trans z4
      refine ⟨.list [.list [.str (Str.ofString "InvalidNumber"), .str (Str.ofString "2")], .list [.str (Str.ofString "InvalidNumber"), .str (Str.ofString "0")], .list [.str (Str.ofString "InvalidBound"), .str (Str.ofString "'2/4'")]],
        .list [.list [.str (Str.ofString "InvalidNumber"), .str (Str.ofString "2")], .list [.str (Str.ofString "InvalidNumber"), .str (Str.ofString "0")], .list [.str (Str.ofString "InvalidBound"), .str (Str.ofString "'2/4'")]],
        .lst (SqL.of (z _ _ g4)) (.cons (.lst (SqL.of (z _ _ g1)) (.cons (.str _) (.cons (.str _) .nil))) (.cons (.lst (SqL.of (z _ _ g2)) (.cons (.str _) (.cons (.str _) .nil))) (.cons (.lst (SqL.of (z _ _ g3)) (.cons (.str _) (.cons (.str _) .nil))) .nil))),
        .lst (SqL.of upd_same) (.cons (.lst (SqL.of (z4 _ _ (z3 _ _ (z2 _ _ upd_same)))) (.cons (.str _) (.cons (.str _) .nil))) (.cons (.lst (SqL.of (z4 _ _ (z3 _ _ upd_same))) (.cons (.str _) (.cons (.str _) .nil))) (.cons (.lst (SqL.of (z4 _ _ upd_same)) (.cons (.str _) (.cons (.str _) .nil))) .nil))),
        by decide +kernel, by decide +kernel, _, rfl, fin _ _ (by decide +kernel) z⟩
    intro Hy sy
    refine ⟨_, rfl, _, _, rfl, .inl (sy.seq hSx), _, _, rfl, _, _, rfl, _, rfl, ?_, ?_, for_range (lo := 0) (fun i σ' H' => ∃ v3 v4 v5, σ' = [some (.ref a), some (.ref bl), some (.ref L), v3, v4, v5] ∧
      SqL K H' a (ns.map V.int) ∧ H' bl = some (.lst (BL.map V.str)) ∧ LamX.Tabs Tb H') ⟨none, none, none, rfl, sy.seq hSx, sy _ _ hBx, Tx.ext sy⟩ ?_ ?_⟩
    · split <;> split <;> omega
    · split <;> split <;> omega
    · rintro i σ' H' hi ⟨v3, v4, v5, rfl, hS1, hB1, T1⟩
      have hi' : i < 1000 := by
        refine Nat.lt_of_lt_of_le hi ?_
        split <;> split <;> omega
      refine ⟨_, rfl, _, rfl, a, ns, _, rfl, hS1, bits, by omega, by omega, fun n H2 s2 nb2 => ⟨n, rfl, nb2, fun p H3 np s3 bg => ?_⟩⟩
      refine ⟨10, rfl, by decide, by decide, fun C hC => ?_⟩
      have nCp : C ≠ p := bg.ne_none hC
      have s23 := s2.trans s3
      have blp : bl ≠ p := ne_of_none (s2 _ _ hB1) np
      have C2 : H2 C = none := s3.free hC
      refine lc_range (lo := 0) (n := 10) (fun j H' => LamX.ExtN H2 H' ∧ LamX.Tabs Tb H' ∧ Bag H' p (20 * j) ∧ H' C = some (.lst (List.replicate j (.bl true))))
        ⟨LamX.ExtN.of (s3.trans (same_new hC)), T1.ext (s23.trans (same_new hC)), bg.same (same_new hC), upd_same⟩ ?_ ?_
      · rintro j H4 hj ⟨j1, j3, j4, j5⟩
        refine ⟨rfl, _, rfl, _, rfl, p, bl, 20 * j, rfl, j4, by omega, SqL.of (j1 _ _ (s2 _ _ hB1) (by intro ps q; cases q)), blp, j3, fun H5 e5 b5 T5 => ⟨_, e5 _ _ nCp j5 (by intro ps q; cases q), ?_, ?_⟩⟩
        · rw [List.length_replicate]
          exact Nat.lt_trans hj (by decide)
        · have hC5 := e5 _ _ nCp j5 (by intro ps q; cases q)
          refine ⟨fun d o e nt => ?_, tabs_put T5 hC5, (b5.put nCp).mono (by omega), ?_⟩
          · rw [upd_ne (ne_of_none e C2)]
            exact e5 _ _ (ne_of_none e np) (j1 _ _ e nt) nt
          · rw [upd_same, List.replicate_succ']
      rintro H4 ⟨j1, j3, j4, j5⟩
      refine ⟨C, List.replicate 10 true, rfl, SqL.of j5, _, rfl, ?_⟩
      refine iteF ?_
      exact ⟨_, _, _, rfl, ext_seq j1 (s2.seq hS1), j1 _ _ (s2 _ _ hB1) (by intro ps q; cases q), j3⟩
    · rintro σ' H' ⟨v3, v4, v5, rfl, _⟩
      exact ret _
end L

namespace Hv
open PySem L2 SlX
/-- a def of a class as the top has left it -/
def MethIn (K : PySem.W.Frag) (C : Addr) (x qual : Str) (st : Stmt) : Prop :=
  ∃ (f : Addr) (oc : Value) (od : Option Addr) (kV doc pm : Value) (an : Option Addr) (cd ct : Value) (sl : Array (Option Value)),
    PySem.W.findIn K (.ref C) x = some (some (.ref f)) ∧ PySem.W.isFn K (.ref f) = true ∧
    K.lookup f = some ⟨oc, od, .func (PySem.W.fnOf x qual (defArgs st) (defBody st) (defScope st) .none kV doc pm an cd ct), sl⟩ ∧
    PySem.W.codeIn K cd qual = true ∧ PySem.W.keepIn K (.ref f) = true
theorem methIn_mk {K : PySem.W.Frag} {C : Addr} {x qual : Str} {st : Stmt} {f : Addr} {oc : Value} {od : Option Addr} {kV doc pm : Value} {an : Option Addr} {cd ct : Value} {sl : Array (Option Value)}
    (a : PySem.W.findIn K (.ref C) x = some (some (.ref f))) (i : PySem.W.isFn K (.ref f) = true)
    (l : K.lookup f = some ⟨oc, od, .func (PySem.W.fnOf x qual (defArgs st) (defBody st) (defScope st) .none kV doc pm an cd ct), sl⟩)
    (c : PySem.W.codeIn K cd qual = true) (k : PySem.W.keepIn K (.ref f) = true) : MethIn K C x qual st :=
  ⟨f, oc, od, kV, doc, pm, an, cd, ct, sl, a, i, l, c, k⟩
structure MethAt (K : PySem.W.Frag) (C : Addr) (x qual : Str) (st : Stmt) (ps : List Str) (f : Addr) (fd : FuncData) : Prop where
  at_ : PySem.W.findIn K (.ref C) x = some (some (.ref f))
  isf : PySem.W.isFn K (.ref f) = true
  fn : Fun K x qual st f fd
  bd : Binds K fd ps []
theorem MethIn.at {K : PySem.W.Frag} {C : Addr} {x qual : Str} {st : Stmt} {ps : List Str} (d : MethIn K C x qual st)
    (hb : ∀ (kV doc pm : Value) (an : Option Addr) (cdv ct : Value) (us : List Value), us.length = ps.length →
      bindArgs (PySem.W.fnOf x qual (defArgs st) (defBody st) (defScope st) .none kV doc pm an cdv ct) ⟨us, []⟩ = pure (ps.zip us)) :
    ∃ f fd, MethAt K C x qual st ps f fd := by
  obtain ⟨f, oc, od, kV, doc, pm, an, cd, ct, sl, a, i, l, c, k⟩ := d
  have F := fun_mk (st := st) l c k
  exact ⟨f, _, a, i, F, F.binds hb⟩
/-- a property of a class, its getter at g -/
structure PropK (K : PySem.W.Frag) (C : Addr) (x : Str) (g : Addr) : Prop where
  ex : ∃ p, PySem.W.findIn K (.ref C) x = some (some (.ref p)) ∧ PySem.W.specialIn K (.ref p) "__get__" = some (some (.builtin "property.__get__")) ∧
    PySem.W.takesIn K (.ref p) = some true ∧ ∃ rest, PySem.W.recIn K p "property" = some (.ref g :: rest)
def PropIn (K : PySem.W.Frag) (C : Addr) (x qual : Str) (st : Stmt) : Prop :=
  ∃ (g : Addr) (oc : Value) (od : Option Addr) (kV doc pm : Value) (an : Option Addr) (cd ct : Value) (sl : Array (Option Value)), PropK K C x g ∧
    K.lookup g = some ⟨oc, od, .func (PySem.W.fnOf x qual (defArgs st) (defBody st) (defScope st) .none kV doc pm an cd ct), sl⟩ ∧
    PySem.W.codeIn K cd qual = true ∧ PySem.W.keepIn K (.ref g) = true
theorem propIn_mk {K : PySem.W.Frag} {C p : Addr} {rest : List Value} {x qual : Str} {st : Stmt} {g : Addr} {oc : Value} {od : Option Addr} {kV doc pm : Value} {an : Option Addr} {cd ct : Value} {sl : Array (Option Value)}
    (a : PySem.W.findIn K (.ref C) x = some (some (.ref p))) (b : PySem.W.specialIn K (.ref p) "__get__" = some (some (.builtin "property.__get__"))) (t : PySem.W.takesIn K (.ref p) = some true)
    (r : PySem.W.recIn K p "property" = some (.ref g :: rest))
    (l : K.lookup g = some ⟨oc, od, .func (PySem.W.fnOf x qual (defArgs st) (defBody st) (defScope st) .none kV doc pm an cd ct), sl⟩)
    (c : PySem.W.codeIn K cd qual = true) (k : PySem.W.keepIn K (.ref g) = true) : PropIn K C x qual st :=
  ⟨g, oc, od, kV, doc, pm, an, cd, ct, sl, ⟨p, a, b, t, rest, r⟩, l, c, k⟩
structure PropAt (K : PySem.W.Frag) (C : Addr) (x qual : Str) (st : Stmt) (ps : List Str) (f : Addr) (fd : FuncData) : Prop where
  pr : PropK K C x f
  fn : Fun K x qual st f fd
  bd : Binds K fd ps []
theorem PropIn.at {K : PySem.W.Frag} {C : Addr} {x qual : Str} {st : Stmt} {ps : List Str} (d : PropIn K C x qual st)
    (hb : ∀ (kV doc pm : Value) (an : Option Addr) (cdv ct : Value) (us : List Value), us.length = ps.length →
      bindArgs (PySem.W.fnOf x qual (defArgs st) (defBody st) (defScope st) .none kV doc pm an cdv ct) ⟨us, []⟩ = pure (ps.zip us)) :
    ∃ f fd, PropAt K C x qual st ps f fd := by
  obtain ⟨f, oc, od, kV, doc, pm, an, cd, ct, sl, pr, l, c, k⟩ := d
  have F := fun_mk (st := st) l c k
  exact ⟨f, _, pr, F, F.binds hb⟩
theorem raw_ok {P : Program} {w : World} {K : PySem.W.Frag} {mg : Str → Option Value} {base : Heap} {CX : CXT} {k : Nat} {f : Addr} {fd : FuncData} {ps : List Str} {sp : Sp} (F : FnOk P w K mg base CX k f fd ps sp) (hb : Binds K fd ps []) :
    FnR P w K mg base CX k f sp := (FnOk.raw F hb .nil).imp fun vs H Q E h => by
  rw [List.append_nil]
  exact h
section
variable {X : Cx} {e : Expr} {ta : TE} {C g : Addr} {f : Str} {pos : Pos} {n : Nat} {sp : Sp}
/-- a property of an instance with slots -/
theorem pe_propO (he : PE X e ta) (c : SCls X.K C) (p : PropK X.K C f g) (F : FnR X.prog X.w X.K X.mg X.base CX0 n g sp) (hr : Room (n + 1) X.A)
    (hb : attributeBase e f X.env (eval e X.env) = eval e X.env := by rfl) : PE X (.Attribute e f pos) (tPropSl C sp E0 ta) := by
  obtain ⟨p, h1, h2, h3, h4⟩ := p.ex
  exact pe_propSl he c h1 h2 h3 h4 F hr (fun _ _ _ _ z => z) hb
/-- one of two ways to read a call -/
theorem callR_or {v : Value} {r1 r2 : List V → Hp → VK → Prop} (h1 : CallR X v r1) (h2 : CallR X v r2) : CallR X v (fun xs H Q => r1 xs H Q ∨ r2 xs H Q) := by
  intro pins s σ H xs us Q I r h
  rcases h with h | h
  · exact h1 pins s σ H xs us Q I r h
  · exact h2 pins s σ H xs us Q I r h
end
end Hv

namespace Hv
open PySem PySem.Spec PyProof.Rows L2
/-! ### the part of the heap that is told -/
abbrev Look := Addr → Option Obj
def names1 (g : Look) (x : Str) : Addr := He.ga (He.frG g [mainGlobals]) x
def next1 (g : Look) (a : Addr) : List Addr := match g a with
  | some o => He.refsD o
  | none => []
/-- a function: what it names; another object: what that names, and so on -/
def next2 (g : Look) (a : Addr) : List Addr := match g a with
  | some ⟨_, _, .func fd, _⟩ => He.refV fd.code ++ He.refV fd.defaults ++ He.refV fd.kwdefaults
  | some o => He.refsD o ++ (He.refsD o).flatMap (next1 g)
  | none => []
def ofCls (g : Look) (C : Addr) : List Addr := C :: match g C with
  | some ⟨_, _, .cls cd, _⟩ => cd.ns :: (next1 g cd.ns).flatMap fun a => a :: next2 g a
  | _ => []
/-- the defs fs, the classes cs with all their methods, the classes ds without -/
def asO (g : Look) (fs cs ds : List Str) : List Addr := mainGlobals :: ((fs.flatMap fun x => names1 g x :: next1 g (names1 g x)) ++ ((cs.flatMap fun x => ofCls g (names1 g x)) ++ ds.flatMap fun x => names1 g x :: match g (names1 g x) with
  | some ⟨_, _, .cls cd, _⟩ => [cd.ns]
  | _ => []))
/-! ### a def at a place -/
structure DefQ where
  at_ : PySem.W.Frag → Addr
  name : Str
  qual : Str
  st : Stmt
  dfl : List He.Dv := []
def DefQ.val (d : DefQ) : He.FnW := some (d.name, d.qual, defArgs d.st, .stmts (defBody d.st), defScope d.st, mainGlobals, [], builtinsNs)
def DefQ.obs (K : PySem.W.Frag) (d : DefQ) : He.FnW := match K.lookup (d.at_ K) with
  | some ⟨_, _, .func fd, _⟩ => some (fd.name, fd.qualname, fd.params, fd.body, fd.scope, fd.globals, fd.closure, fd.builtins)
  | _ => none
def DefQ.dvs (K : PySem.W.Frag) (d : DefQ) : List V := d.dfl.map (He.Dv.v K)
def DefQ.ok (K : PySem.W.Frag) (d : DefQ) : Bool := PySem.W.keepIn K (.ref (d.at_ K)) && (match K.lookup (d.at_ K) with
  | some ⟨_, _, .func fd, _⟩ => PySem.W.codeIn K fd.code d.qual && He.dflB K fd.defaults (d.dvs K)
  | _ => false)
/-- what is known of it -/
def DefO (K : PySem.W.Frag) (d : DefQ) : Prop := ∃ (oc : Value) (od : Option Addr) (dV kV doc pm : Value) (an : Option Addr) (cd ct : Value) (sl : Array (Option Value)),
  K.lookup (d.at_ K) = some ⟨oc, od, .func (PySem.W.fnOf d.name d.qual (defArgs d.st) (defBody d.st) (defScope d.st) dV kV doc pm an cd ct), sl⟩ ∧ PySem.W.codeIn K cd d.qual = true ∧ DflV K dV (d.dvs K) ∧ PySem.W.keepIn K (.ref (d.at_ K)) = true
theorem DefQ.out {K : PySem.W.Frag} {d : DefQ} (e : d.obs K = d.val) (c : d.ok K = true) : DefO K d := by
  obtain ⟨kp, c2⟩ := He.ba c
  unfold DefQ.obs at e
  cases q : K.lookup (d.at_ K) with
  | none =>
    rw [q] at c2
    cases c2
  | some o =>
    obtain ⟨oc, od, dt, osl⟩ := o
    rw [q] at c2 e
    cases dt with
    | func fd =>
      obtain ⟨n1, n2, n3, n4, n5, n6, n7, n8, n9, n10, n11, n12, n13, n14, n15⟩ := fd
      have e2 : (some (n1, n2, n3, n4, n5, n6, n7, n15) : He.FnW) = some (d.name, d.qual, defArgs d.st, .stmts (defBody d.st), defScope d.st, mainGlobals, [], builtinsNs) := e
      simp only [Option.some.injEq, Prod.mk.injEq] at e2
      obtain ⟨h1, h2, h3, h4, h5, h6, h7, h8⟩ := e2
      subst h1 h2 h3 h4 h5 h6 h7 h8
      obtain ⟨k1, k2⟩ := He.ba (show (PySem.W.codeIn K n13 d.qual && He.dflB K n8 (d.dvs K)) = true from c2)
      exact ⟨oc, od, n8, n9, n10, n11, n12, n13, n14, osl, q, k1, He.dflB_ok k2, kp⟩
    | _ => cases c2
/-! ### the Hook -/
abbrev Fb := PySem.W.Frag → Bool
def tabB (g : Look) (K : PySem.W.Frag) (x : Str) : Bool := PySem.W.codeHdIn K (He.cT K (x, none)).1 (He.cT K (x, none)).2 && (match g (He.cT K (x, none)).2 with
  | some o => He.emptyTab o
  | none => false)
abbrev Ob := Bool × List He.FnW
def obO (fb : List Fb) (fn : List DefQ) (tf : List Str) (g : Look) (K : PySem.W.Frag) : Ob := ((fb.all fun b => b K) && (fn.all (fun d => d.ok K) && tf.all (fun x => tabB g K x)), fn.map fun d => d.obs K)
structure Says (fb : List Fb) (fn : List DefQ) (tf : List Str) (h : Heap) (K : PySem.W.Frag) : Prop where
  kin : K.In h
  bs : ∀ b ∈ fb, b K = true
  df : ∀ d ∈ fn, DefO K d
  hd : ∀ x ∈ tf, PySem.W.codeHdIn K (He.cT K (x, none)).1 (He.cT K (x, none)).2 = true
  no : ∀ x ∈ tf, K.lookup (He.cT K (x, none)).2 = none
  em : ∀ x ∈ tf, h.get? (He.cT K (x, none)).2 = some tab0
theorem says_of {fb : List Fb} {fn : List DefQ} {tf : List Str} {h : Heap} {as : List Addr} (e : obO fb fn tf h.get? (He.frT h.get? as) = (true, fn.map DefQ.val)) : Says fb fn tf h (He.frT h.get? as) := by
  obtain ⟨e1, e2⟩ := Prod.mk.inj e
  obtain ⟨h1, h2⟩ := He.ba e1
  obtain ⟨h3, h4⟩ := He.ba h2
  have key : ∀ x ∈ tf, PySem.W.codeHdIn (He.frT h.get? as) (He.cT (He.frT h.get? as) (x, none)).1 (He.cT (He.frT h.get? as) (x, none)).2 = true ∧ ∃ o, h.get? (He.cT (He.frT h.get? as) (x, none)).2 = some o ∧ He.emptyTab o = true := fun x hx => by
    obtain ⟨k1, k2⟩ := He.ba (List.all_eq_true.mp h4 x hx)
    refine ⟨k1, ?_⟩
    cases q : h.get? (He.cT (He.frT h.get? as) (x, none)).2 with
    | none =>
      rw [q] at k2
      cases k2
    | some o =>
      rw [q] at k2
      exact ⟨o, rfl, k2⟩
  refine ⟨He.frT_in, fun b hb => List.all_eq_true.mp h1 b hb, fun d hd => ?_, fun x hx => (key x hx).1, fun x hx => ?_, fun x hx => ?_⟩
  · refine DefQ.out ?_ (List.all_eq_true.mp h3 d hd)
    exact List.map_inj_left.mp e2 d hd
  · obtain ⟨_, o, q, z⟩ := key x hx
    exact He.frT_none q z
  · obtain ⟨_, o, q, z⟩ := key x hx
    rw [q, He.emptyTab_eq z]
def hookO (fs cs ds : List Str) (fb : List Fb) (fn : List DefQ) (tf : List Str) : PySem.W.Hook where
  α := Ob
  obs := fun s => obO fb fn tf s.heap.get? (He.frT s.heap.get? (asO s.heap.get? fs cs ds))
  val := fun _ => (true, fn.map DefQ.val)
  says := fun _ h => ∃ K : PySem.W.Frag, Says fb fn tf h K
  of := fun _ _ e => ⟨_, says_of e⟩
  keeps := fun _ _ _ ⟨K, c⟩ k => ⟨K, PySem.W.Frag.In.keeps c.kin k, c.bs, c.df, c.hd, c.no, fun x hx => k _ _ (c.em x hx)⟩
def obT (fs cs ds : List Str) (fb : List Fb) (fn : List DefQ) (tf : List Str) (s : PySem.W.SharedT) : Ob := obO fb fn tf (HandSHeadRun.getT s) (He.frT (HandSHeadRun.getT s) (asO (HandSHeadRun.getT s) fs cs ds))
theorem obT_eq {fs cs ds : List Str} {fb : List Fb} {fn : List DefQ} {tf : List Str} (s : PySem.W.SharedT) : obT fs cs ds fb fn tf s = (hookO fs cs ds fb fn tf).obs s.abs := by
  have e : HandSHeadRun.getT s = s.abs.heap.get? := funext (HandSHeadRun.getT_eq s)
  unfold obT
  rw [e]
  rfl
section
variable {fb : List Fb} {fn : List DefQ} {tf : List Str} {h : Heap} {K : PySem.W.Frag}
theorem Says.b (c : Says fb fn tf h K) (i : Nat) {f : Fb} (hf : fb[i]? = some f := by rfl) : f K = true := c.bs f (List.mem_of_getElem? hf)
theorem Says.d (c : Says fb fn tf h K) (i : Nat) {f : DefQ} (hf : fn[i]? = some f := by rfl) : DefO K f := c.df f (List.mem_of_getElem? hf)
theorem dfl_none {dV : Value} (h : DflV K dV []) : dV = .none := by
  rcases h with ⟨_, h⟩ | ⟨h, _⟩
  · exact h
  · exact absurd rfl h
/-- a def of the module -/
abbrev defG (x : Str) (st : Stmt) : DefQ := ⟨fun K => He.ga K x, x, x, st, []⟩
theorem defIn_of {x : Str} {st : Stmt} (h : DefO K (defG x st)) (hg : PySem.W.nsIn K mainGlobals x = some (some (.ref (He.ga K x)))) : DefIn K x st := by
  obtain ⟨oc, od, dV, kV, doc, pm, an, cd, ct, sl, h1, h2, h3, h4⟩ := h
  cases dfl_none h3
  exact ⟨_, oc, od, kV, doc, pm, an, cd, ct, sl, hg, h1, h2, h4⟩
theorem tabIn_of {x : Str} {st : Stmt} (c : Says fb fn tf h K) (hx : x ∈ tf) (d : DefO K (defG x st)) (hg : PySem.W.nsIn K mainGlobals x = some (some (.ref (He.ga K x)))) : TabIn K x (He.cT K (x, none)).1 (He.cT K (x, none)).2 := by
  obtain ⟨oc, od, dV, kV, doc, pm, an, cd, ct, sl, h1, h2, h3, h4⟩ := d
  obtain ⟨cc, rfl⟩ := He.codeIn_ref h2
  have e : (He.cT K (x, none)).1 = cc := He.codeOf_eq (p := (x, none)) h1 rfl
  have hd := c.hd x hx
  have no := c.no x hx
  generalize (He.cT K (x, none)).2 = P at hd no ⊢
  rw [e] at hd ⊢
  unfold PySem.W.codeHdIn at hd
  split at hd
  · rename_i dd vs sl2 hk
    simp only [Bool.and_eq_true] at hd
    obtain ⟨⟨⟨⟨⟨q, _⟩, _⟩, _⟩, _⟩, _⟩ := hd
    have hv : vs[11]? = some (.ref P) := by
      split at q
      · rename_i P' e'
        rw [e', beq_iff_eq.mp q]
      · cases q
    exact ⟨_, _, _, _, _, _, _, hg, h1, rfl, rfl, hk, hv, no⟩
  · cases hd
end
/-! ### an error class -/
def excB (K : PySem.W.Frag) (C : Addr) : Bool := match K.lookup C with
  | some ⟨.type c, _, .cls cd, sl⟩ => (match cd.mro, sl.toList with
    | .ref C' :: bm, [_, _, _, _, some (.builtin n), _] => decide (c = "type") && (decide (C' = C) && (decide (n = "ValueError.__new__") && (!cd.hasDel && (cd.hasDict && PySem.HandSPX.refsVE bm))))
    | _, _ => false)
  | _ => false
theorem excB_ok {K : PySem.W.Frag} {C : Addr} (h : excB K C = true) : ∃ nm q N bs bm sn sub ab col dd k0 k1 k2 k3 k5, K.lookup C = some (excClassObj nm q C N bs bm true sn sub ab col dd k0 k1 k2 k3 k5 "ValueError.__new__") ∧ PySem.HandSPX.refsVE bm = true := by
  unfold excB at h
  split at h
  · rename_i c dd cd sl hk
    split at h
    · rename_i C' bm k0 k1 k2 k3 n k5 hm hs
      simp only [Bool.and_eq_true, decide_eq_true_eq, Bool.not_eq_true'] at h
      obtain ⟨rfl, rfl, rfl, hdel, hdict, hr⟩ := h
      obtain ⟨nm, bs, mro, ns, qn, hd, sn, sub, ab, col, del⟩ := cd
      dsimp only at hm hdel hdict
      subst hm hdel hdict
      have hsl : sl = #[k0, k1, k2, k3, some (.builtin "ValueError.__new__"), k5] := by
        obtain ⟨l⟩ := sl
        simp only at hs
        rw [hs]
      subst hsl
      exact ⟨nm, qn, ns, bs, bm, sn, sub, ab, col, dd, k0, k1, k2, k3, k5, hk, hr⟩
    · cases h
  · cases h
/-- all of it, for the class named x -/
def errInB (x : Str) : Fb := fun K => excB K (He.ga K x) && (decide (PySem.W.findIn K (.ref (He.ga K x)) "__setattr__" = some (some (.builtin "object.__setattr__"))) && (decide (PySem.W.subIn K (.ref (He.ga K x)) (.type "BaseException") = some true) && (decide (PySem.W.typeIn K (.ref (He.ga K x)) = some (.type "type")) &&
  (PySem.W.keepIn K (.ref (He.ga K x)) && (decide (PySem.W.findIn K (.ref (He.ga K x)) "__init__" = some (some (.ref (He.ma K (He.ga K x) "__init__")))) && decide (PySem.W.typeIn K (.ref (He.ma K (He.ga K x) "__init__")) = some (.type "function")))))))
abbrev defM (C m q : Str) (st : Stmt) (dfl : List He.Dv := []) : DefQ := ⟨fun K => He.ma K (He.ga K C) m, m, q, st, dfl⟩
theorem errIn_of {K : PySem.W.Frag} {x f q : Str} {st : Stmt} (h : errInB x K = true) (d : DefO K (defM x "__init__" q st)) (ha : ∃ p1 p2, defArgs st = eA f p1 p2) (hb : ∃ q1 q2 q3 q4, defBody st = eB f q1 q2 q3 q4) (hs : defScope st = eS f) : ErrIn K (He.ga K x) f := by
  unfold errInB at h
  simp only [Bool.and_eq_true, decide_eq_true_eq] at h
  obtain ⟨h1, h2, h3, h4, h5, h6, h7⟩ := h
  obtain ⟨oc, od, dV, kV, doc, pm, an, cd, ct, sl, d1, d2, d3, d4⟩ := d
  cases dfl_none d3
  obtain ⟨p1, p2, ha⟩ := ha
  obtain ⟨q1, q2, q3, q4, hb⟩ := hb
  refine ⟨⟨excB_ok h1, h2, h3, h4, h5⟩, _, oc, od, kV, doc, pm, an, cd, ct, sl, q, p1, p2, q1, q2, q3, q4, h6, h7, ?_, d2⟩
  rw [← ha, ← hb, ← hs]
  exact d1
/-! ### a method, a property -/
def methB (C m : Str) : Fb := fun K => decide (PySem.W.findIn K (.ref (He.ga K C)) m = some (some (.ref (He.ma K (He.ga K C) m)))) && PySem.W.isFn K (.ref (He.ma K (He.ga K C) m))
theorem methIn_of {K : PySem.W.Frag} {C m q : Str} {st : Stmt} (h : methB C m K = true) (d : DefO K (defM C m q st)) : MethIn K (He.ga K C) m q st := by
  unfold methB at h
  simp only [Bool.and_eq_true, decide_eq_true_eq] at h
  obtain ⟨oc, od, dV, kV, doc, pm, an, cd, ct, sl, d1, d2, d3, d4⟩ := d
  cases dfl_none d3
  exact ⟨_, oc, od, kV, doc, pm, an, cd, ct, sl, h.1, h.2, d1, d2, d4⟩
def pg (C m : Str) (K : PySem.W.Frag) : Addr := match PySem.W.recIn K (He.ma K (He.ga K C) m) "property" with
  | some (.ref g :: _) => g
  | _ => 0
def propB (C m : Str) : Fb := fun K => decide (PySem.W.findIn K (.ref (He.ga K C)) m = some (some (.ref (He.ma K (He.ga K C) m)))) && (decide (PySem.W.specialIn K (.ref (He.ma K (He.ga K C) m)) "__get__" = some (some (.builtin "property.__get__"))) && (decide (PySem.W.takesIn K (.ref (He.ma K (He.ga K C) m)) = some true) &&
  (match PySem.W.recIn K (He.ma K (He.ga K C) m) "property" with
  | some (.ref _ :: _) => true
  | _ => false)))
abbrev defP (C m q : Str) (st : Stmt) : DefQ := ⟨pg C m, m, q, st, []⟩
theorem propIn_of {K : PySem.W.Frag} {C m q : Str} {st : Stmt} (h : propB C m K = true) (d : DefO K (defP C m q st)) : PropIn K (He.ga K C) m q st := by
  unfold propB at h
  simp only [Bool.and_eq_true, decide_eq_true_eq] at h
  obtain ⟨h1, h2, h3, h4⟩ := h
  obtain ⟨oc, od, dV, kV, doc, pm, an, cd, ct, sl, d1, d2, d3, d4⟩ := d
  cases dfl_none d3
  split at h4
  · rename_i g rest e
    have eg : pg C m K = g := by
      unfold pg
      rw [e]
    rw [show (defP C m q st).at_ K = g from eg] at d1 d4
    exact ⟨g, oc, od, kV, doc, pm, an, cd, ct, sl, ⟨_, h1, h2, h3, rest, e⟩, d1, d2, d4⟩
  · cases h4
/-! ### constants -/
def intB (x : Str) (i : Int) : Fb := fun K => match PySem.W.nsIn K mainGlobals x with
  | some (some (.int j _)) => decide (j = i)
  | _ => false
theorem intIn_of {K : PySem.W.Frag} {x : Str} {i : Int} (h : intB x i K = true) : ∃ v, PySem.W.nsIn K mainGlobals x = some (some v) ∧ ∃ t, v = .int i t := by
  unfold intB at h
  split at h
  · rename_i j t e
    cases of_decide_eq_true h
    exact ⟨_, e, _, rfl⟩
  · cases h
def strB (x z : Str) : Fb := fun K => match PySem.W.nsIn K mainGlobals x with
  | some (some (.str y _)) => decide (y = z)
  | _ => false
theorem strIn_of {K : PySem.W.Frag} {x z : Str} (h : strB x z K = true) : ∃ v, PySem.W.nsIn K mainGlobals x = some (some v) ∧ ∃ t, v = .str z t := by
  unfold strB at h
  split at h
  · rename_i y t e
    cases of_decide_eq_true h
    exact ⟨_, e, _, rfl⟩
  · cases h
/-! ### the end -/
theorem walkTE {l : PySem.W.OpenLaw} {n k : Nat} {q : Program} {loose : List Str} {XP : (Str → Option Value) → Heap → Prop} {YP : World → Heap → Prop} {d : DefRec} {x : Str} {fb : List Fb} {fn : List DefQ} (xs : List Str)
    (hn : l.most = some n) (hn2 : n ≤ sizeLine) (hdf : d.params.defaults = []) (hr : Room k callerA) (hY : ∀ (w : World) (h : Heap), YP w h → ∃ K, Says fb fn xs h K)
    (F : ∀ (w : World) (mg : Str → Option Value) (fa : Addr) (h : Heap) (K : PySem.W.Frag), Says fb fn xs h K → h.Ns mainGlobals mg → mg d.name = some (.ref fa) → LawT l w K k n x mg fa xs) :
    PySem.W.WalkO q loose XP YP l.row.toRowW d [] (fun f vs => PySem.call f vs) := by
  refine Att.attach_callB hn hdf ?_
  intro w s₀ s₁ mg mb fa o pm cd doc a vs ns G Y ho hd hcd hmg hobj hints hlen hbits hg
  obtain ⟨K, c⟩ := hY w _ Y
  have X := c.kin
  obtain ⟨fd, cs, sp, ht, hb, hsp, hF⟩ := F w mg fa _ K c G.T.g hmg
  have key : ∀ p ∈ cs, ∃ y ∈ xs, p = He.cT K (y, none) := fun p hp => by
    obtain ⟨y, hy, f, o, fd, e, dd, us, sl, k1, k2, k3, k4, k5, k6, _⟩ := ht p hp
    refine ⟨y, hy, ?_⟩
    have eg : He.fAd K (y, none) = f := by
      show He.ga K y = f
      unfold He.ga
      rw [k1]
    obtain ⟨oc, od, dt, osl⟩ := o
    cases k3
    have e1 : He.codeOf K (y, none) = p.1 := He.codeOf_eq (by rw [eg]; exact k2) k4
    have e2 : He.tabOf K p.1 = p.2 := by
      unfold He.tabOf
      rw [k5]
      show (match us.getD 11 .none with | .ref P => P | _ => 0) = p.2
      rw [Array.getD_eq_getD_getElem?, k6]
      rfl
    unfold He.cT
    rw [e1, e2]
  refine call_lawT X G.T.g G.T.b G.T.builtins G.T.nolimit hg (fun p hp => ?_) (fun p hp => ?_) (fun p hp => ?_) G.T.bmain hobj hints (Nat.le_trans hlen hn2) hr hF hb fun H hC hS => hsp H a ns hlen hbits hC hS
  · obtain ⟨y, hy, rfl⟩ := key p hp
    exact c.em y hy
  · obtain ⟨y, hy, rfl⟩ := key p hp
    exact c.no y hy
  · obtain ⟨y, hy, rfl⟩ := key p hp
    exact PySem.W.codeHd_of_K X (c.hd y hy)
end Hv

namespace L
open PySem L2 Hv
theorem walk {l : PySem.W.OpenLaw} {q : Program} {loose : List Str} {XP : (Str → Option Value) → Heap → Prop} {YP : World → Heap → Prop} {d : DefRec} {K : Params → PySem.W.Frag} (hn : l.most = some 63) (hdf : d.params.defaults = [])
    (hrec : (["_law_right", "law"] : List Str).all (fun y => (PyProof.Rows.recsOf q).any fun e => e.name == y) = true) (hY : ∀ (w : World) (h : Heap), YP w h → (K w.params).In h)
    (F : ∀ (w : World) (mg : Str → Option Value) (fa : Addr) (h : Heap), (K w.params).In h → h.Ns mainGlobals mg → mg d.name = some (.ref fa) → LawT l w (K w.params) 11 63 "_law_script" mg fa ["_law_right", "law"]) :
    PySem.W.WalkO q loose XP YP l.row.toRowW d [] (fun f vs => PySem.call f vs) :=
  walkT ["_law_right", "law"] hn (by decide) hdf ⟨rfl, by decide, by decide⟩ hrec hY F
theorem all_mk {l : PySem.W.OpenLaw} {w : World} {K : PySem.W.Frag} {h : Heap} {mg : Str → Option Value} {fa : Addr} (X : K.In h) (G : h.Ns mainGlobals mg) (hfa : mg "law" = some (.ref fa))
    {E0 E1 E2 E3 E4 E5 E6 E7 E8 E9 E10 E11 E12 E13 E14 E15 E16 E17 E18 E19 E20 E21 E22 E23 E24 E25 E26 E27 E28 E29 E30 E31 E32 E33 : Addr}
    (n_E0 : PySem.W.nsIn K mainGlobals "InvalidName" = some (some (.ref E0)))
    (n_E1 : PySem.W.nsIn K mainGlobals "InvalidNumber" = some (some (.ref E1)))
    (n_E2 : PySem.W.nsIn K mainGlobals "InvalidBound" = some (some (.ref E2)))
    (n_E3 : PySem.W.nsIn K mainGlobals "InvalidNeeds" = some (some (.ref E3)))
    (n_E4 : PySem.W.nsIn K mainGlobals "InvalidClosing" = some (some (.ref E4)))
    (n_E5 : PySem.W.nsIn K mainGlobals "InvalidEnds" = some (some (.ref E5)))
    (n_E6 : PySem.W.nsIn K mainGlobals "InvalidAmount" = some (some (.ref E6)))
    (n_E7 : PySem.W.nsIn K mainGlobals "InvalidText" = some (some (.ref E7)))
    (n_E8 : PySem.W.nsIn K mainGlobals "InvalidHouse" = some (some (.ref E8)))
    (n_E9 : PySem.W.nsIn K mainGlobals "InvalidShare" = some (some (.ref E9)))
    (n_E10 : PySem.W.nsIn K mainGlobals "InvalidLimit" = some (some (.ref E10)))
    (n_E11 : PySem.W.nsIn K mainGlobals "InvalidLength" = some (some (.ref E11)))
    (n_E12 : PySem.W.nsIn K mainGlobals "InvalidWish" = some (some (.ref E12)))
    (n_E13 : PySem.W.nsIn K mainGlobals "InvalidIndex" = some (some (.ref E13)))
    (n_E14 : PySem.W.nsIn K mainGlobals "NotRules" = some (some (.ref E14)))
    (n_E15 : PySem.W.nsIn K mainGlobals "InvalidKinds" = some (some (.ref E15)))
    (n_E16 : PySem.W.nsIn K mainGlobals "InvalidRows" = some (some (.ref E16)))
    (n_E17 : PySem.W.nsIn K mainGlobals "InvalidChanges" = some (some (.ref E17)))
    (n_E18 : PySem.W.nsIn K mainGlobals "InvalidWishes" = some (some (.ref E18)))
    (n_E19 : PySem.W.nsIn K mainGlobals "UnknownName" = some (some (.ref E19)))
    (n_E20 : PySem.W.nsIn K mainGlobals "UnknownMember" = some (some (.ref E20)))
    (n_E21 : PySem.W.nsIn K mainGlobals "InUse" = some (some (.ref E21)))
    (n_E22 : PySem.W.nsIn K mainGlobals "NotFinite" = some (some (.ref E22)))
    (n_E23 : PySem.W.nsIn K mainGlobals "Over" = some (some (.ref E23)))
    (n_E24 : PySem.W.nsIn K mainGlobals "IsClosed" = some (some (.ref E24)))
    (n_E25 : PySem.W.nsIn K mainGlobals "NotListed" = some (some (.ref E25)))
    (n_E26 : PySem.W.nsIn K mainGlobals "TooFew" = some (some (.ref E26)))
    (n_E27 : PySem.W.nsIn K mainGlobals "UsedUp" = some (some (.ref E27)))
    (n_E28 : PySem.W.nsIn K mainGlobals "CannotClose" = some (some (.ref E28)))
    (n_E29 : PySem.W.nsIn K mainGlobals "NothingToUndo" = some (some (.ref E29)))
    (n_E30 : PySem.W.nsIn K mainGlobals "Broken" = some (some (.ref E30)))
    (n_E31 : PySem.W.nsIn K mainGlobals "WrongValue" = some (some (.ref E31)))
    (n_E32 : PySem.W.nsIn K mainGlobals "WrongName" = some (some (.ref E32)))
    (n_E33 : PySem.W.nsIn K mainGlobals "NotPossible" = some (some (.ref E33)))
    (x_E1 : errB K [E0, E1, E2, E3, E4, E5, E6, E7, E8, E9, E10, E11, E12, E13, E14, E15, E16, E17, E18, E19, E20, E21, E22, E23, E24, E25, E26, E27, E28, E29, E30, E31, E32, E33] 1 = true)
    (y_E1 : ErrIn K E1 "given")
    (x_E2 : errB K [E0, E1, E2, E3, E4, E5, E6, E7, E8, E9, E10, E11, E12, E13, E14, E15, E16, E17, E18, E19, E20, E21, E22, E23, E24, E25, E26, E27, E28, E29, E30, E31, E32, E33] 2 = true)
    (y_E2 : ErrIn K E2 "given")
    {tc_right tp_right tc_law tp_law : Addr}
    (t_right : TabIn K "_law_right" tc_right tp_right)
    (t_law : TabIn K "law" tc_law tp_law)
    (tn_right_law : tp_right ≠ tp_law)
    (d_is_integer : DefIn K "is_integer" s_is_integer)
    (d_common_divisor : DefIn K "common_divisor" s_common_divisor)
    (d_number_of : DefIn K "number_of" s_number_of)
    (d_fraction_of : DefIn K "fraction_of" s_fraction_of)
    (d_is_bound : DefIn K "is_bound" s_is_bound)
    (d_bound_met : DefIn K "bound_met" s_bound_met)
    (d_meets : DefIn K "meets" s_meets)
    (d_seed : DefIn K "_law_seed" s_seed)
    (d_bag : DefIn K "_law_bag" s_bag)
    (d_take : DefIn K "_law_take" s_take)
    (d_terms : DefIn K "_law_terms" s_terms)
    (d_sort : DefIn K "_law_sort" s_sort)
    (d_held : DefIn K "_law_held" s_held)
    (d_caught : DefIn K "_law_caught" s_caught)
    (d_common : DefIn K "_law_common" s_common)
    (d_bounds : DefIn K "_law_bounds" s_bounds)
    (d_bent : DefIn K "_law_bent" s_bent)
    (d_line : DefIn K "_law_line" s_line)
    (d_number : DefIn K "_law_number" s_number)
    (d_is_number : DefIn K "_law_is_number" s_is_number)
    (d_due : DefIn K "_law_due" s_due)
    (d_right : DefIn K "_law_right" s_right)
    (d_law : DefIn K "law" s_law)
    (b_ArithmeticError : PySem.W.nsIn K mainGlobals "ArithmeticError" = some none)
    (b_LookupError : PySem.W.nsIn K mainGlobals "LookupError" = some none)
    (b_ValueError : PySem.W.nsIn K mainGlobals "ValueError" = some none)
    (b_abs : PySem.W.nsIn K mainGlobals "abs" = some none)
    (b_all : PySem.W.nsIn K mainGlobals "all" = some none)
    (b_any : PySem.W.nsIn K mainGlobals "any" = some none)
    (b_bool : PySem.W.nsIn K mainGlobals "bool" = some none)
    (b_divmod : PySem.W.nsIn K mainGlobals "divmod" = some none)
    (b_int : PySem.W.nsIn K mainGlobals "int" = some none)
    (b_isinstance : PySem.W.nsIn K mainGlobals "isinstance" = some none)
    (b_len : PySem.W.nsIn K mainGlobals "len" = some none)
    (b_max : PySem.W.nsIn K mainGlobals "max" = some none)
    (b_min : PySem.W.nsIn K mainGlobals "min" = some none)
    (b_range : PySem.W.nsIn K mainGlobals "range" = some none)
    (b_repr : PySem.W.nsIn K mainGlobals "repr" = some none)
    (b_str : PySem.W.nsIn K mainGlobals "str" = some none)
    (c_MOST_PART : ∃ v, PySem.W.nsIn K mainGlobals "MOST_PART" = some (some v) ∧ ∃ t, v = (.int (12) t))
    (c_DIGITS : ∃ v, PySem.W.nsIn K mainGlobals "DIGITS" = some (some v) ∧ ∃ t, v = (.str "0123456789" t))
    (c_MARK : ∃ v, PySem.W.nsIn K mainGlobals "MARK" = some (some v) ∧ ∃ t, v = (.str "over " t))
    : LawT l w K 11 63 "_law_script" mg fa ["_law_right", "law"] := by
  have T : Txt K mg := ⟨PySem.W.mg_none_of X G b_ArithmeticError, PySem.W.mg_none_of X G b_LookupError, PySem.W.mg_none_of X G b_ValueError, PySem.W.mg_none_of X G b_abs, PySem.W.mg_none_of X G b_all, PySem.W.mg_none_of X G b_any, PySem.W.mg_none_of X G b_bool, PySem.W.mg_none_of X G b_divmod, PySem.W.mg_none_of X G b_int, PySem.W.mg_none_of X G b_isinstance, PySem.W.mg_none_of X G b_len, PySem.W.mg_none_of X G b_max, PySem.W.mg_none_of X G b_min, PySem.W.mg_none_of X G b_range, PySem.W.mg_none_of X G b_repr, PySem.W.mg_none_of X G b_str, (by obtain ⟨v, e, t, rfl⟩ := c_MOST_PART; exact ⟨t, PySem.W.mg_of X G e⟩), (by obtain ⟨v, e, t, rfl⟩ := c_DIGITS; exact ⟨t, PySem.W.mg_of X G e⟩), (by obtain ⟨v, e, t, rfl⟩ := c_MARK; exact ⟨t, PySem.W.mg_of X G e⟩)⟩
  obtain ⟨f_is_integer, fd_is_integer, D_is_integer⟩ := d_is_integer.at X G (ps := P_is_integer) (fun _ _ _ _ _ _ us hl => match us, hl with | [_], _ => rfl)
  obtain ⟨f_common_divisor, fd_common_divisor, D_common_divisor⟩ := d_common_divisor.at X G (ps := P_common_divisor) (fun _ _ _ _ _ _ us hl => match us, hl with | [_, _], _ => rfl)
  obtain ⟨f_number_of, fd_number_of, D_number_of⟩ := d_number_of.at X G (ps := P_number_of) (fun _ _ _ _ _ _ us hl => match us, hl with | [_, _], _ => rfl)
  obtain ⟨f_fraction_of, fd_fraction_of, D_fraction_of⟩ := d_fraction_of.at X G (ps := P_fraction_of) (fun _ _ _ _ _ _ us hl => match us, hl with | [_], _ => rfl)
  obtain ⟨f_is_bound, fd_is_bound, D_is_bound⟩ := d_is_bound.at X G (ps := P_is_bound) (fun _ _ _ _ _ _ us hl => match us, hl with | [_], _ => rfl)
  obtain ⟨f_bound_met, fd_bound_met, D_bound_met⟩ := d_bound_met.at X G (ps := P_bound_met) (fun _ _ _ _ _ _ us hl => match us, hl with | [_, _, _], _ => rfl)
  obtain ⟨f_meets, fd_meets, D_meets⟩ := d_meets.at X G (ps := P_meets) (fun _ _ _ _ _ _ us hl => match us, hl with | [_, _, _], _ => rfl)
  obtain ⟨f_seed, fd_seed, D_seed⟩ := d_seed.at X G (ps := P_seed) (fun _ _ _ _ _ _ us hl => match us, hl with | [_, _], _ => rfl)
  obtain ⟨f_bag, fd_bag, D_bag⟩ := d_bag.at X G (ps := P_bag) (fun _ _ _ _ _ _ us hl => match us, hl with | [_], _ => rfl)
  obtain ⟨f_take, fd_take, D_take⟩ := d_take.at X G (ps := P_take) (fun _ _ _ _ _ _ us hl => match us, hl with | [_, _], _ => rfl)
  obtain ⟨f_terms, fd_terms, D_terms⟩ := d_terms.at X G (ps := P_terms) (fun _ _ _ _ _ _ us hl => match us, hl with | [], _ => rfl)
  obtain ⟨f_sort, fd_sort, D_sort⟩ := d_sort.at X G (ps := P_sort) (fun _ _ _ _ _ _ us hl => match us, hl with | [_], _ => rfl)
  obtain ⟨f_held, fd_held, D_held⟩ := d_held.at X G (ps := P_held) (fun _ _ _ _ _ _ us hl => match us, hl with | [_, _], _ => rfl)
  obtain ⟨f_caught, fd_caught, D_caught⟩ := d_caught.at X G (ps := P_caught) (fun _ _ _ _ _ _ us hl => match us, hl with | [_], _ => rfl)
  obtain ⟨f_common, fd_common, D_common⟩ := d_common.at X G (ps := P_common) (fun _ _ _ _ _ _ us hl => match us, hl with | [_, _], _ => rfl)
  obtain ⟨f_bounds, fd_bounds, D_bounds⟩ := d_bounds.at X G (ps := P_bounds) (fun _ _ _ _ _ _ us hl => match us, hl with | [], _ => rfl)
  obtain ⟨f_bent, fd_bent, D_bent⟩ := d_bent.at X G (ps := P_bent) (fun _ _ _ _ _ _ us hl => match us, hl with | [_, _], _ => rfl)
  obtain ⟨f_line, fd_line, D_line⟩ := d_line.at X G (ps := P_line) (fun _ _ _ _ _ _ us hl => match us, hl with | [_, _], _ => rfl)
  obtain ⟨f_number, fd_number, D_number⟩ := d_number.at X G (ps := P_number) (fun _ _ _ _ _ _ us hl => match us, hl with | [_], _ => rfl)
  obtain ⟨f_is_number, fd_is_number, D_is_number⟩ := d_is_number.at X G (ps := P_is_number) (fun _ _ _ _ _ _ us hl => match us, hl with | [_, _], _ => rfl)
  obtain ⟨f_due, fd_due, D_due⟩ := d_due.at X G (ps := P_due) (fun _ _ _ _ _ _ us hl => match us, hl with | [_, _, _, _], _ => rfl)
  obtain ⟨f_right, fd_right, D_right⟩ := d_right.at X G (ps := P_right) (fun _ _ _ _ _ _ us hl => match us, hl with | [_, _], _ => rfl)
  have EN : ErrNames mg (fun i => ([E0, E1, E2, E3, E4, E5, E6, E7, E8, E9, E10, E11, E12, E13, E14, E15, E16, E17, E18, E19, E20, E21, E22, E23, E24, E25, E26, E27, E28, E29, E30, E31, E32, E33] : List Addr).getD i 0) := ⟨PySem.W.mg_of X G n_E0, PySem.W.mg_of X G n_E1, PySem.W.mg_of X G n_E2, PySem.W.mg_of X G n_E3, PySem.W.mg_of X G n_E4, PySem.W.mg_of X G n_E5, PySem.W.mg_of X G n_E6, PySem.W.mg_of X G n_E7, PySem.W.mg_of X G n_E8, PySem.W.mg_of X G n_E9, PySem.W.mg_of X G n_E10, PySem.W.mg_of X G n_E11, PySem.W.mg_of X G n_E12, PySem.W.mg_of X G n_E13, PySem.W.mg_of X G n_E14, PySem.W.mg_of X G n_E15, PySem.W.mg_of X G n_E16, PySem.W.mg_of X G n_E17, PySem.W.mg_of X G n_E18, PySem.W.mg_of X G n_E19, PySem.W.mg_of X G n_E20, PySem.W.mg_of X G n_E21, PySem.W.mg_of X G n_E22, PySem.W.mg_of X G n_E23, PySem.W.mg_of X G n_E24, PySem.W.mg_of X G n_E25, PySem.W.mg_of X G n_E26, PySem.W.mg_of X G n_E27, PySem.W.mg_of X G n_E28, PySem.W.mg_of X G n_E29, PySem.W.mg_of X G n_E30, PySem.W.mg_of X G n_E31, PySem.W.mg_of X G n_E32, PySem.W.mg_of X G n_E33⟩
  have EX1 := errB_ok x_E1
  have ER_InvalidNumber : ErrTxt K mg "InvalidNumber" "given" E1 := y_E1.txt (PySem.W.mg_of X G n_E1) EX1.isx EX1.f_given fld_given
  have EX2 := errB_ok x_E2
  have ER_InvalidBound : ErrTxt K mg "InvalidBound" "given" E2 := y_E2.txt (PySem.W.mg_of X G n_E2) EX2.isx EX2.f_given fld_given
  obtain ⟨f_law, oc, od, kV, doc, pm, an, cd, ct, sl, e_law, l_law, c_law, k_law⟩ := d_law
  have e := hfa.symm.trans (PySem.W.mg_of X G e_law)
  cases e
  have D_law := fun_mk (st := s_law) l_law c_law k_law
  have hcL := tabIn_code t_law e_law l_law
  obtain ⟨oc1, od1, kV1, doc1, pm1, an1, cdv1, ct1, osl1, hfd1, lk1, hcd1⟩ := D_right.fn.ex
  have hcR : fd_right.code = .ref tc_right := by
    obtain ⟨f', o, fd', e, dd, vs, sl', k1, k2, k3, k4, _⟩ := t_right
    have e1 := D_right.mg.symm.trans (PySem.W.mg_of X G k1)
    cases e1
    rw [lk1] at k2
    cases k2
    cases k3
    exact k4
  refine ⟨PySem.W.fnOf "law" "law" (defArgs s_law) (defBody s_law) (defScope s_law) .none kV doc pm an cd ct, [(tc_right, tp_right), (tc_law, tp_law)], sp_law K [(tp_right, qR ++ "<lambda>"), (tp_law, qL ++ "<lambda>")], ?_, fun s v => .of_eq rfl, ?_, fun base hK hg hB => ?_⟩
  · intro p hp
    simp only [List.mem_cons, List.not_mem_nil, or_false] at hp
    rcases hp with rfl | rfl
    · exact ⟨_, by simp, t_right⟩
    · exact ⟨_, by simp, t_law⟩
  · intro H a ns hl hb hC hS
    refine ⟨a, ns, rfl, hS, hl, hb, tabs_nil ?_, fun _ => rfl⟩
    intro p hp
    simp only [List.mem_cons, List.not_mem_nil, or_false] at hp
    rcases hp with rfl | rfl
    · exact hC (tc_right, tp_right) (by simp)
    · exact hC (tc_law, tp_law) (by simp)
  · have G_is_integer : FnOk l.prog w K mg base CX0 1 f_is_integer fd_is_integer P_is_integer (sp_is_integer K) := ok_is_integer D_is_integer T
    have G_fraction_of : FnOk l.prog w K mg base CX0 2 f_fraction_of fd_fraction_of P_fraction_of (sp_fraction_of K) := ok_fraction_of D_fraction_of T D_number_of D_common_divisor
    have G_is_bound : FnOk l.prog w K mg base CX0 3 f_is_bound fd_is_bound P_is_bound (sp_is_bound K) := ok_is_bound D_is_bound D_fraction_of G_fraction_of
    have G_bound_met : FnOk l.prog w K mg base CX0 3 f_bound_met fd_bound_met P_bound_met sp_bound_met := ok_bound_met D_bound_met T D_fraction_of G_fraction_of
    have G_meets := ok_meets (P := l.prog) (w := w) (base := base) (c := fun i => ([E0, E1, E2, E3, E4, E5, E6, E7, E8, E9, E10, E11, E12, E13, E14, E15, E16, E17, E18, E19, E20, E21, E22, E23, E24, E25, E26, E27, E28, E29, E30, E31, E32, E33] : List Addr).getD i 0) D_meets T ER_InvalidBound ER_InvalidNumber D_is_bound G_is_bound D_is_integer G_is_integer D_bound_met G_bound_met
    have G_sort := ok_sort (P := l.prog) (w := w) (base := base) D_sort T EN D_terms
    have G_held := ok_held (P := l.prog) (w := w) (base := base) (c := fun i => ([E0, E1, E2, E3, E4, E5, E6, E7, E8, E9, E10, E11, E12, E13, E14, E15, E16, E17, E18, E19, E20, E21, E22, E23, E24, E25, E26, E27, E28, E29, E30, E31, E32, E33] : List Addr).getD i 0) D_held T
    have hu1 : ∀ p ∈ [(tp_right, qR ++ ("<lambda>" : Str)), (tp_law, qL ++ ("<lambda>" : Str))], p.1 = tp_right → p.2 = qR ++ ("<lambda>" : Str) := by
      intro p hp e
      simp only [List.mem_cons, List.not_mem_nil, or_false] at hp
      rcases hp with rfl | rfl
      · rfl
      · exact absurd e.symm tn_right_law
    have hu2 : ∀ p ∈ [(tp_right, qR ++ ("<lambda>" : Str)), (tp_law, qL ++ ("<lambda>" : Str))], p.1 = tp_law → p.2 = qL ++ ("<lambda>" : Str) := by
      intro p hp e
      simp only [List.mem_cons, List.not_mem_nil, or_false] at hp
      rcases hp with rfl | rfl
      · exact absurd e tn_right_law
      · rfl
    exact ok_law D_law T EN hcL (hB (tc_law, tp_law) (by simp)) (by simp) hu2 EX1 EX2 D_bag D_seed D_bounds D_common D_right
      (ok_right D_right T EN hcR (hB (tc_right, tp_right) (by simp)) (by simp) hu1 EX1 EX2 D_take D_bent D_line D_number D_is_number D_due D_caught D_sort G_sort D_held G_held D_meets G_meets)
      D_caught D_sort G_sort D_held G_held D_meets G_meets
/-! ### the head -/
abbrev R : PySem.W.OpenRow := PySem.W.OpenLaw.row PySem.Challenge.rw_heldvotes_k03_bounds_refused
def fb_0 : Hv.Fb := fun K => decide (PySem.W.nsIn K mainGlobals "InvalidName" = some (some (.ref (He.ga K "InvalidName"))))
def fb_1 : Hv.Fb := fun K => decide (PySem.W.nsIn K mainGlobals "InvalidNumber" = some (some (.ref (He.ga K "InvalidNumber"))))
def fb_2 : Hv.Fb := fun K => decide (PySem.W.nsIn K mainGlobals "InvalidBound" = some (some (.ref (He.ga K "InvalidBound"))))
def fb_3 : Hv.Fb := fun K => decide (PySem.W.nsIn K mainGlobals "InvalidNeeds" = some (some (.ref (He.ga K "InvalidNeeds"))))
def fb_4 : Hv.Fb := fun K => decide (PySem.W.nsIn K mainGlobals "InvalidClosing" = some (some (.ref (He.ga K "InvalidClosing"))))
def fb_5 : Hv.Fb := fun K => decide (PySem.W.nsIn K mainGlobals "InvalidEnds" = some (some (.ref (He.ga K "InvalidEnds"))))
def fb_6 : Hv.Fb := fun K => decide (PySem.W.nsIn K mainGlobals "InvalidAmount" = some (some (.ref (He.ga K "InvalidAmount"))))
def fb_7 : Hv.Fb := fun K => decide (PySem.W.nsIn K mainGlobals "InvalidText" = some (some (.ref (He.ga K "InvalidText"))))
def fb_8 : Hv.Fb := fun K => decide (PySem.W.nsIn K mainGlobals "InvalidHouse" = some (some (.ref (He.ga K "InvalidHouse"))))
def fb_9 : Hv.Fb := fun K => decide (PySem.W.nsIn K mainGlobals "InvalidShare" = some (some (.ref (He.ga K "InvalidShare"))))
def fb_10 : Hv.Fb := fun K => decide (PySem.W.nsIn K mainGlobals "InvalidLimit" = some (some (.ref (He.ga K "InvalidLimit"))))
def fb_11 : Hv.Fb := fun K => decide (PySem.W.nsIn K mainGlobals "InvalidLength" = some (some (.ref (He.ga K "InvalidLength"))))
def fb_12 : Hv.Fb := fun K => decide (PySem.W.nsIn K mainGlobals "InvalidWish" = some (some (.ref (He.ga K "InvalidWish"))))
def fb_13 : Hv.Fb := fun K => decide (PySem.W.nsIn K mainGlobals "InvalidIndex" = some (some (.ref (He.ga K "InvalidIndex"))))
def fb_14 : Hv.Fb := fun K => decide (PySem.W.nsIn K mainGlobals "NotRules" = some (some (.ref (He.ga K "NotRules"))))
def fb_15 : Hv.Fb := fun K => decide (PySem.W.nsIn K mainGlobals "InvalidKinds" = some (some (.ref (He.ga K "InvalidKinds"))))
def fb_16 : Hv.Fb := fun K => decide (PySem.W.nsIn K mainGlobals "InvalidRows" = some (some (.ref (He.ga K "InvalidRows"))))
def fb_17 : Hv.Fb := fun K => decide (PySem.W.nsIn K mainGlobals "InvalidChanges" = some (some (.ref (He.ga K "InvalidChanges"))))
def fb_18 : Hv.Fb := fun K => decide (PySem.W.nsIn K mainGlobals "InvalidWishes" = some (some (.ref (He.ga K "InvalidWishes"))))
def fb_19 : Hv.Fb := fun K => decide (PySem.W.nsIn K mainGlobals "UnknownName" = some (some (.ref (He.ga K "UnknownName"))))
def fb_20 : Hv.Fb := fun K => decide (PySem.W.nsIn K mainGlobals "UnknownMember" = some (some (.ref (He.ga K "UnknownMember"))))
def fb_21 : Hv.Fb := fun K => decide (PySem.W.nsIn K mainGlobals "InUse" = some (some (.ref (He.ga K "InUse"))))
def fb_22 : Hv.Fb := fun K => decide (PySem.W.nsIn K mainGlobals "NotFinite" = some (some (.ref (He.ga K "NotFinite"))))
def fb_23 : Hv.Fb := fun K => decide (PySem.W.nsIn K mainGlobals "Over" = some (some (.ref (He.ga K "Over"))))
def fb_24 : Hv.Fb := fun K => decide (PySem.W.nsIn K mainGlobals "IsClosed" = some (some (.ref (He.ga K "IsClosed"))))
def fb_25 : Hv.Fb := fun K => decide (PySem.W.nsIn K mainGlobals "NotListed" = some (some (.ref (He.ga K "NotListed"))))
def fb_26 : Hv.Fb := fun K => decide (PySem.W.nsIn K mainGlobals "TooFew" = some (some (.ref (He.ga K "TooFew"))))
def fb_27 : Hv.Fb := fun K => decide (PySem.W.nsIn K mainGlobals "UsedUp" = some (some (.ref (He.ga K "UsedUp"))))
def fb_28 : Hv.Fb := fun K => decide (PySem.W.nsIn K mainGlobals "CannotClose" = some (some (.ref (He.ga K "CannotClose"))))
def fb_29 : Hv.Fb := fun K => decide (PySem.W.nsIn K mainGlobals "NothingToUndo" = some (some (.ref (He.ga K "NothingToUndo"))))
def fb_30 : Hv.Fb := fun K => decide (PySem.W.nsIn K mainGlobals "Broken" = some (some (.ref (He.ga K "Broken"))))
def fb_31 : Hv.Fb := fun K => decide (PySem.W.nsIn K mainGlobals "WrongValue" = some (some (.ref (He.ga K "WrongValue"))))
def fb_32 : Hv.Fb := fun K => decide (PySem.W.nsIn K mainGlobals "WrongName" = some (some (.ref (He.ga K "WrongName"))))
def fb_33 : Hv.Fb := fun K => decide (PySem.W.nsIn K mainGlobals "NotPossible" = some (some (.ref (He.ga K "NotPossible"))))
def fb_34 : Hv.Fb := fun K => decide (errB K [(He.ga K "InvalidName"), (He.ga K "InvalidNumber"), (He.ga K "InvalidBound"), (He.ga K "InvalidNeeds"), (He.ga K "InvalidClosing"), (He.ga K "InvalidEnds"), (He.ga K "InvalidAmount"), (He.ga K "InvalidText"), (He.ga K "InvalidHouse"), (He.ga K "InvalidShare"), (He.ga K "InvalidLimit"), (He.ga K "InvalidLength"), (He.ga K "InvalidWish"), (He.ga K "InvalidIndex"), (He.ga K "NotRules"), (He.ga K "InvalidKinds"), (He.ga K "InvalidRows"), (He.ga K "InvalidChanges"), (He.ga K "InvalidWishes"), (He.ga K "UnknownName"), (He.ga K "UnknownMember"), (He.ga K "InUse"), (He.ga K "NotFinite"), (He.ga K "Over"), (He.ga K "IsClosed"), (He.ga K "NotListed"), (He.ga K "TooFew"), (He.ga K "UsedUp"), (He.ga K "CannotClose"), (He.ga K "NothingToUndo"), (He.ga K "Broken"), (He.ga K "WrongValue"), (He.ga K "WrongName"), (He.ga K "NotPossible")] 1 = true)
def fb_35 : Hv.Fb := fun K => Hv.errInB "InvalidNumber" K
def fb_36 : Hv.Fb := fun K => decide (errB K [(He.ga K "InvalidName"), (He.ga K "InvalidNumber"), (He.ga K "InvalidBound"), (He.ga K "InvalidNeeds"), (He.ga K "InvalidClosing"), (He.ga K "InvalidEnds"), (He.ga K "InvalidAmount"), (He.ga K "InvalidText"), (He.ga K "InvalidHouse"), (He.ga K "InvalidShare"), (He.ga K "InvalidLimit"), (He.ga K "InvalidLength"), (He.ga K "InvalidWish"), (He.ga K "InvalidIndex"), (He.ga K "NotRules"), (He.ga K "InvalidKinds"), (He.ga K "InvalidRows"), (He.ga K "InvalidChanges"), (He.ga K "InvalidWishes"), (He.ga K "UnknownName"), (He.ga K "UnknownMember"), (He.ga K "InUse"), (He.ga K "NotFinite"), (He.ga K "Over"), (He.ga K "IsClosed"), (He.ga K "NotListed"), (He.ga K "TooFew"), (He.ga K "UsedUp"), (He.ga K "CannotClose"), (He.ga K "NothingToUndo"), (He.ga K "Broken"), (He.ga K "WrongValue"), (He.ga K "WrongName"), (He.ga K "NotPossible")] 2 = true)
def fb_37 : Hv.Fb := fun K => Hv.errInB "InvalidBound" K
def fb_38 : Hv.Fb := fun K => decide (PySem.W.nsIn K mainGlobals "_law_right" = some (some (.ref (He.ga K "_law_right"))))
def fb_39 : Hv.Fb := fun K => decide (PySem.W.nsIn K mainGlobals "law" = some (some (.ref (He.ga K "law"))))
def fb_40 : Hv.Fb := fun K => decide ((He.cT K ("_law_right", none)).2 ≠ (He.cT K ("law", none)).2)
def fb_41 : Hv.Fb := fun K => decide (PySem.W.nsIn K mainGlobals "is_integer" = some (some (.ref (He.ga K "is_integer"))))
def fb_42 : Hv.Fb := fun K => decide (PySem.W.nsIn K mainGlobals "common_divisor" = some (some (.ref (He.ga K "common_divisor"))))
def fb_43 : Hv.Fb := fun K => decide (PySem.W.nsIn K mainGlobals "number_of" = some (some (.ref (He.ga K "number_of"))))
def fb_44 : Hv.Fb := fun K => decide (PySem.W.nsIn K mainGlobals "fraction_of" = some (some (.ref (He.ga K "fraction_of"))))
def fb_45 : Hv.Fb := fun K => decide (PySem.W.nsIn K mainGlobals "is_bound" = some (some (.ref (He.ga K "is_bound"))))
def fb_46 : Hv.Fb := fun K => decide (PySem.W.nsIn K mainGlobals "bound_met" = some (some (.ref (He.ga K "bound_met"))))
def fb_47 : Hv.Fb := fun K => decide (PySem.W.nsIn K mainGlobals "meets" = some (some (.ref (He.ga K "meets"))))
def fb_48 : Hv.Fb := fun K => decide (PySem.W.nsIn K mainGlobals "_law_seed" = some (some (.ref (He.ga K "_law_seed"))))
def fb_49 : Hv.Fb := fun K => decide (PySem.W.nsIn K mainGlobals "_law_bag" = some (some (.ref (He.ga K "_law_bag"))))
def fb_50 : Hv.Fb := fun K => decide (PySem.W.nsIn K mainGlobals "_law_take" = some (some (.ref (He.ga K "_law_take"))))
def fb_51 : Hv.Fb := fun K => decide (PySem.W.nsIn K mainGlobals "_law_terms" = some (some (.ref (He.ga K "_law_terms"))))
def fb_52 : Hv.Fb := fun K => decide (PySem.W.nsIn K mainGlobals "_law_sort" = some (some (.ref (He.ga K "_law_sort"))))
def fb_53 : Hv.Fb := fun K => decide (PySem.W.nsIn K mainGlobals "_law_held" = some (some (.ref (He.ga K "_law_held"))))
def fb_54 : Hv.Fb := fun K => decide (PySem.W.nsIn K mainGlobals "_law_caught" = some (some (.ref (He.ga K "_law_caught"))))
def fb_55 : Hv.Fb := fun K => decide (PySem.W.nsIn K mainGlobals "_law_common" = some (some (.ref (He.ga K "_law_common"))))
def fb_56 : Hv.Fb := fun K => decide (PySem.W.nsIn K mainGlobals "_law_bounds" = some (some (.ref (He.ga K "_law_bounds"))))
def fb_57 : Hv.Fb := fun K => decide (PySem.W.nsIn K mainGlobals "_law_bent" = some (some (.ref (He.ga K "_law_bent"))))
def fb_58 : Hv.Fb := fun K => decide (PySem.W.nsIn K mainGlobals "_law_line" = some (some (.ref (He.ga K "_law_line"))))
def fb_59 : Hv.Fb := fun K => decide (PySem.W.nsIn K mainGlobals "_law_number" = some (some (.ref (He.ga K "_law_number"))))
def fb_60 : Hv.Fb := fun K => decide (PySem.W.nsIn K mainGlobals "_law_is_number" = some (some (.ref (He.ga K "_law_is_number"))))
def fb_61 : Hv.Fb := fun K => decide (PySem.W.nsIn K mainGlobals "_law_due" = some (some (.ref (He.ga K "_law_due"))))
def fb_62 : Hv.Fb := fun K => decide (PySem.W.nsIn K mainGlobals "ArithmeticError" = some none)
def fb_63 : Hv.Fb := fun K => decide (PySem.W.nsIn K mainGlobals "LookupError" = some none)
def fb_64 : Hv.Fb := fun K => decide (PySem.W.nsIn K mainGlobals "ValueError" = some none)
def fb_65 : Hv.Fb := fun K => decide (PySem.W.nsIn K mainGlobals "abs" = some none)
def fb_66 : Hv.Fb := fun K => decide (PySem.W.nsIn K mainGlobals "all" = some none)
def fb_67 : Hv.Fb := fun K => decide (PySem.W.nsIn K mainGlobals "any" = some none)
def fb_68 : Hv.Fb := fun K => decide (PySem.W.nsIn K mainGlobals "bool" = some none)
def fb_69 : Hv.Fb := fun K => decide (PySem.W.nsIn K mainGlobals "divmod" = some none)
def fb_70 : Hv.Fb := fun K => decide (PySem.W.nsIn K mainGlobals "int" = some none)
def fb_71 : Hv.Fb := fun K => decide (PySem.W.nsIn K mainGlobals "isinstance" = some none)
def fb_72 : Hv.Fb := fun K => decide (PySem.W.nsIn K mainGlobals "len" = some none)
def fb_73 : Hv.Fb := fun K => decide (PySem.W.nsIn K mainGlobals "max" = some none)
def fb_74 : Hv.Fb := fun K => decide (PySem.W.nsIn K mainGlobals "min" = some none)
def fb_75 : Hv.Fb := fun K => decide (PySem.W.nsIn K mainGlobals "range" = some none)
def fb_76 : Hv.Fb := fun K => decide (PySem.W.nsIn K mainGlobals "repr" = some none)
def fb_77 : Hv.Fb := fun K => decide (PySem.W.nsIn K mainGlobals "str" = some none)
def fb_78 : Hv.Fb := fun K => Hv.intB "MOST_PART" (12) K
def fb_79 : Hv.Fb := fun K => Hv.strB "DIGITS" "0123456789" K
def fb_80 : Hv.Fb := fun K => Hv.strB "MARK" "over " K
def fbs_0 : List Hv.Fb := [fb_0, fb_1, fb_2, fb_3, fb_4, fb_5, fb_6, fb_7, fb_8, fb_9, fb_10, fb_11, fb_12, fb_13, fb_14, fb_15, fb_16, fb_17, fb_18, fb_19, fb_20, fb_21, fb_22, fb_23, fb_24, fb_25, fb_26, fb_27, fb_28, fb_29]
def fbs_1 : List Hv.Fb := [fb_30, fb_31, fb_32, fb_33, fb_34, fb_35, fb_36, fb_37, fb_38, fb_39, fb_40, fb_41, fb_42, fb_43, fb_44, fb_45, fb_46, fb_47, fb_48, fb_49, fb_50, fb_51, fb_52, fb_53, fb_54, fb_55, fb_56, fb_57, fb_58, fb_59]
def fbs_2 : List Hv.Fb := [fb_60, fb_61, fb_62, fb_63, fb_64, fb_65, fb_66, fb_67, fb_68, fb_69, fb_70, fb_71, fb_72, fb_73, fb_74, fb_75, fb_76, fb_77, fb_78, fb_79, fb_80]
def fbs : List Hv.Fb := fbs_0 ++ (fbs_1 ++ (fbs_2))
def fns_0 : List Hv.DefQ := [Hv.defM "InvalidNumber" "__init__" "InvalidNumber.__init__" (inClass (top 3) 0), Hv.defM "InvalidBound" "__init__" "InvalidBound.__init__" (inClass (top 4) 0), Hv.defG "_law_right" s_right, Hv.defG "law" s_law, Hv.defG "is_integer" s_is_integer, Hv.defG "common_divisor" s_common_divisor, Hv.defG "number_of" s_number_of, Hv.defG "fraction_of" s_fraction_of, Hv.defG "is_bound" s_is_bound, Hv.defG "bound_met" s_bound_met, Hv.defG "meets" s_meets, Hv.defG "_law_seed" s_seed, Hv.defG "_law_bag" s_bag, Hv.defG "_law_take" s_take, Hv.defG "_law_terms" s_terms, Hv.defG "_law_sort" s_sort, Hv.defG "_law_held" s_held, Hv.defG "_law_caught" s_caught, Hv.defG "_law_common" s_common, Hv.defG "_law_bounds" s_bounds, Hv.defG "_law_bent" s_bent, Hv.defG "_law_line" s_line, Hv.defG "_law_number" s_number, Hv.defG "_law_is_number" s_is_number, Hv.defG "_law_due" s_due]
def fns : List Hv.DefQ := fns_0
def hfs_0 : List Str := ["is_integer", "common_divisor", "number_of", "fraction_of", "is_bound", "bound_met", "meets", "_law_seed", "_law_bag", "_law_take", "_law_terms", "_law_sort", "_law_held", "_law_caught", "_law_common", "_law_bounds", "_law_bent", "_law_line", "_law_number", "_law_is_number", "_law_due", "_law_right", "law"]
def hfs : List Str := hfs_0
def hcs_0 : List Str := ["InvalidNumber", "InvalidBound"]
def hcs : List Str := hcs_0
def hds_0 : List Str := ["InvalidName", "InvalidNeeds", "InvalidClosing", "InvalidEnds", "InvalidAmount", "InvalidText", "InvalidHouse", "InvalidShare", "InvalidLimit", "InvalidLength", "InvalidWish", "InvalidIndex", "NotRules", "InvalidKinds", "InvalidRows", "InvalidChanges", "InvalidWishes", "UnknownName", "UnknownMember", "InUse", "NotFinite", "Over", "IsClosed", "NotListed", "TooFew", "UsedUp", "CannotClose", "NothingToUndo", "Broken", "WrongValue"]
def hds_1 : List Str := ["WrongName", "NotPossible"]
def hds : List Str := hds_0 ++ (hds_1)
def htf_0 : List Str := ["_law_right", "law"]
def htf : List Str := htf_0
def loose_0 : List Str := ["__name__", "WrongValue", "InvalidName", "InvalidNumber", "InvalidBound", "InvalidNeeds", "InvalidClosing", "InvalidEnds", "InvalidAmount", "InvalidText", "InvalidHouse", "InvalidShare", "InvalidLimit", "InvalidLength", "InvalidWish", "InvalidIndex", "NotRules", "InvalidKinds", "InvalidRows", "InvalidChanges", "InvalidWishes", "WrongName", "UnknownName", "UnknownMember", "InUse", "NotPossible", "NotFinite", "Over", "IsClosed", "NotListed"]
def loose_1 : List Str := ["TooFew", "UsedUp", "CannotClose", "NothingToUndo", "Broken", "MOST_PART", "DIGITS", "is_integer", "common_divisor", "number_of", "MARK", "fraction_of", "is_bound", "bound_met", "meets", "_law_seed", "_law_bag", "_law_take", "_law_terms", "_law_sort", "_law_held", "_law_caught", "_law_common", "_law_bounds", "_law_bent", "_law_line", "_law_number", "_law_is_number", "_law_due", "_law_right"]
def loose : List Str := loose_0 ++ (loose_1)
abbrev hk : PySem.W.Hook := Hv.hookO hfs hcs hds fbs fns htf
def ob (s : PySem.W.SharedT) : Hv.Ob := Hv.obT hfs hcs hds fbs fns htf s
theorem ob_eq (s : PySem.W.SharedT) : ob s = hk.obs s.abs := Hv.obT_eq s
theorem run (w : World) : HandSHeadRun.RunEq R (PySem.W.view R.prog [63]) hk ob 60000 loose w := by
  intro os
  kernel_rfl
theorem all_in {w : World} {mg : Str → Option Value} {fa : Addr} {h : Heap} {K : PySem.W.Frag} (c : Hv.Says fbs fns htf h K) (G : h.Ns mainGlobals mg) (hfa : mg "law" = some (.ref fa)) : Hv.LawT PySem.Challenge.rw_heldvotes_k03_bounds_refused w K 11 63 "_law_script" mg fa htf :=
  all_mk c.kin G hfa (E0 := (He.ga K "InvalidName")) (E1 := (He.ga K "InvalidNumber")) (E2 := (He.ga K "InvalidBound")) (E3 := (He.ga K "InvalidNeeds")) (E4 := (He.ga K "InvalidClosing")) (E5 := (He.ga K "InvalidEnds")) (E6 := (He.ga K "InvalidAmount")) (E7 := (He.ga K "InvalidText")) (E8 := (He.ga K "InvalidHouse")) (E9 := (He.ga K "InvalidShare")) (E10 := (He.ga K "InvalidLimit")) (E11 := (He.ga K "InvalidLength")) (E12 := (He.ga K "InvalidWish")) (E13 := (He.ga K "InvalidIndex")) (E14 := (He.ga K "NotRules")) (E15 := (He.ga K "InvalidKinds")) (E16 := (He.ga K "InvalidRows")) (E17 := (He.ga K "InvalidChanges")) (E18 := (He.ga K "InvalidWishes")) (E19 := (He.ga K "UnknownName")) (E20 := (He.ga K "UnknownMember")) (E21 := (He.ga K "InUse")) (E22 := (He.ga K "NotFinite")) (E23 := (He.ga K "Over")) (E24 := (He.ga K "IsClosed")) (E25 := (He.ga K "NotListed")) (E26 := (He.ga K "TooFew")) (E27 := (He.ga K "UsedUp")) (E28 := (He.ga K "CannotClose")) (E29 := (He.ga K "NothingToUndo")) (E30 := (He.ga K "Broken")) (E31 := (He.ga K "WrongValue")) (E32 := (He.ga K "WrongName")) (E33 := (He.ga K "NotPossible")) (tc_right := (He.cT K ("_law_right", none)).1) (tp_right := (He.cT K ("_law_right", none)).2) (tc_law := (He.cT K ("law", none)).1) (tp_law := (He.cT K ("law", none)).2)
    (n_E0 := (of_decide_eq_true (c.b 0 (f := fb_0) rfl)))
    (n_E1 := (of_decide_eq_true (c.b 1 (f := fb_1) rfl)))
    (n_E2 := (of_decide_eq_true (c.b 2 (f := fb_2) rfl)))
    (n_E3 := (of_decide_eq_true (c.b 3 (f := fb_3) rfl)))
    (n_E4 := (of_decide_eq_true (c.b 4 (f := fb_4) rfl)))
    (n_E5 := (of_decide_eq_true (c.b 5 (f := fb_5) rfl)))
    (n_E6 := (of_decide_eq_true (c.b 6 (f := fb_6) rfl)))
    (n_E7 := (of_decide_eq_true (c.b 7 (f := fb_7) rfl)))
    (n_E8 := (of_decide_eq_true (c.b 8 (f := fb_8) rfl)))
    (n_E9 := (of_decide_eq_true (c.b 9 (f := fb_9) rfl)))
    (n_E10 := (of_decide_eq_true (c.b 10 (f := fb_10) rfl)))
    (n_E11 := (of_decide_eq_true (c.b 11 (f := fb_11) rfl)))
    (n_E12 := (of_decide_eq_true (c.b 12 (f := fb_12) rfl)))
    (n_E13 := (of_decide_eq_true (c.b 13 (f := fb_13) rfl)))
    (n_E14 := (of_decide_eq_true (c.b 14 (f := fb_14) rfl)))
    (n_E15 := (of_decide_eq_true (c.b 15 (f := fb_15) rfl)))
    (n_E16 := (of_decide_eq_true (c.b 16 (f := fb_16) rfl)))
    (n_E17 := (of_decide_eq_true (c.b 17 (f := fb_17) rfl)))
    (n_E18 := (of_decide_eq_true (c.b 18 (f := fb_18) rfl)))
    (n_E19 := (of_decide_eq_true (c.b 19 (f := fb_19) rfl)))
    (n_E20 := (of_decide_eq_true (c.b 20 (f := fb_20) rfl)))
    (n_E21 := (of_decide_eq_true (c.b 21 (f := fb_21) rfl)))
    (n_E22 := (of_decide_eq_true (c.b 22 (f := fb_22) rfl)))
    (n_E23 := (of_decide_eq_true (c.b 23 (f := fb_23) rfl)))
    (n_E24 := (of_decide_eq_true (c.b 24 (f := fb_24) rfl)))
    (n_E25 := (of_decide_eq_true (c.b 25 (f := fb_25) rfl)))
    (n_E26 := (of_decide_eq_true (c.b 26 (f := fb_26) rfl)))
    (n_E27 := (of_decide_eq_true (c.b 27 (f := fb_27) rfl)))
    (n_E28 := (of_decide_eq_true (c.b 28 (f := fb_28) rfl)))
    (n_E29 := (of_decide_eq_true (c.b 29 (f := fb_29) rfl)))
    (n_E30 := (of_decide_eq_true (c.b 30 (f := fb_30) rfl)))
    (n_E31 := (of_decide_eq_true (c.b 31 (f := fb_31) rfl)))
    (n_E32 := (of_decide_eq_true (c.b 32 (f := fb_32) rfl)))
    (n_E33 := (of_decide_eq_true (c.b 33 (f := fb_33) rfl)))
    (x_E1 := (of_decide_eq_true (c.b 34 (f := fb_34) rfl)))
    (y_E1 := (Hv.errIn_of (st := inClass (top 3) 0) (c.b 35 (f := fb_35) rfl) (c.d 0 (f := Hv.defM "InvalidNumber" "__init__" "InvalidNumber.__init__" (inClass (top 3) 0)) rfl) ⟨_, _, rfl⟩ ⟨_, _, _, _, rfl⟩ rfl))
    (x_E2 := (of_decide_eq_true (c.b 36 (f := fb_36) rfl)))
    (y_E2 := (Hv.errIn_of (st := inClass (top 4) 0) (c.b 37 (f := fb_37) rfl) (c.d 1 (f := Hv.defM "InvalidBound" "__init__" "InvalidBound.__init__" (inClass (top 4) 0)) rfl) ⟨_, _, rfl⟩ ⟨_, _, _, _, rfl⟩ rfl))
    (t_right := (Hv.tabIn_of c (by decide) (c.d 2 (f := Hv.defG "_law_right" s_right) rfl) (of_decide_eq_true (c.b 38 (f := fb_38) rfl))))
    (t_law := (Hv.tabIn_of c (by decide) (c.d 3 (f := Hv.defG "law" s_law) rfl) (of_decide_eq_true (c.b 39 (f := fb_39) rfl))))
    (tn_right_law := (of_decide_eq_true (c.b 40 (f := fb_40) rfl)))
    (d_is_integer := (Hv.defIn_of (c.d 4 (f := Hv.defG "is_integer" s_is_integer) rfl) (of_decide_eq_true (c.b 41 (f := fb_41) rfl))))
    (d_common_divisor := (Hv.defIn_of (c.d 5 (f := Hv.defG "common_divisor" s_common_divisor) rfl) (of_decide_eq_true (c.b 42 (f := fb_42) rfl))))
    (d_number_of := (Hv.defIn_of (c.d 6 (f := Hv.defG "number_of" s_number_of) rfl) (of_decide_eq_true (c.b 43 (f := fb_43) rfl))))
    (d_fraction_of := (Hv.defIn_of (c.d 7 (f := Hv.defG "fraction_of" s_fraction_of) rfl) (of_decide_eq_true (c.b 44 (f := fb_44) rfl))))
    (d_is_bound := (Hv.defIn_of (c.d 8 (f := Hv.defG "is_bound" s_is_bound) rfl) (of_decide_eq_true (c.b 45 (f := fb_45) rfl))))
    (d_bound_met := (Hv.defIn_of (c.d 9 (f := Hv.defG "bound_met" s_bound_met) rfl) (of_decide_eq_true (c.b 46 (f := fb_46) rfl))))
    (d_meets := (Hv.defIn_of (c.d 10 (f := Hv.defG "meets" s_meets) rfl) (of_decide_eq_true (c.b 47 (f := fb_47) rfl))))
    (d_seed := (Hv.defIn_of (c.d 11 (f := Hv.defG "_law_seed" s_seed) rfl) (of_decide_eq_true (c.b 48 (f := fb_48) rfl))))
    (d_bag := (Hv.defIn_of (c.d 12 (f := Hv.defG "_law_bag" s_bag) rfl) (of_decide_eq_true (c.b 49 (f := fb_49) rfl))))
    (d_take := (Hv.defIn_of (c.d 13 (f := Hv.defG "_law_take" s_take) rfl) (of_decide_eq_true (c.b 50 (f := fb_50) rfl))))
    (d_terms := (Hv.defIn_of (c.d 14 (f := Hv.defG "_law_terms" s_terms) rfl) (of_decide_eq_true (c.b 51 (f := fb_51) rfl))))
    (d_sort := (Hv.defIn_of (c.d 15 (f := Hv.defG "_law_sort" s_sort) rfl) (of_decide_eq_true (c.b 52 (f := fb_52) rfl))))
    (d_held := (Hv.defIn_of (c.d 16 (f := Hv.defG "_law_held" s_held) rfl) (of_decide_eq_true (c.b 53 (f := fb_53) rfl))))
    (d_caught := (Hv.defIn_of (c.d 17 (f := Hv.defG "_law_caught" s_caught) rfl) (of_decide_eq_true (c.b 54 (f := fb_54) rfl))))
    (d_common := (Hv.defIn_of (c.d 18 (f := Hv.defG "_law_common" s_common) rfl) (of_decide_eq_true (c.b 55 (f := fb_55) rfl))))
    (d_bounds := (Hv.defIn_of (c.d 19 (f := Hv.defG "_law_bounds" s_bounds) rfl) (of_decide_eq_true (c.b 56 (f := fb_56) rfl))))
    (d_bent := (Hv.defIn_of (c.d 20 (f := Hv.defG "_law_bent" s_bent) rfl) (of_decide_eq_true (c.b 57 (f := fb_57) rfl))))
    (d_line := (Hv.defIn_of (c.d 21 (f := Hv.defG "_law_line" s_line) rfl) (of_decide_eq_true (c.b 58 (f := fb_58) rfl))))
    (d_number := (Hv.defIn_of (c.d 22 (f := Hv.defG "_law_number" s_number) rfl) (of_decide_eq_true (c.b 59 (f := fb_59) rfl))))
    (d_is_number := (Hv.defIn_of (c.d 23 (f := Hv.defG "_law_is_number" s_is_number) rfl) (of_decide_eq_true (c.b 60 (f := fb_60) rfl))))
    (d_due := (Hv.defIn_of (c.d 24 (f := Hv.defG "_law_due" s_due) rfl) (of_decide_eq_true (c.b 61 (f := fb_61) rfl))))
    (d_right := (Hv.defIn_of (c.d 2 (f := Hv.defG "_law_right" s_right) rfl) (of_decide_eq_true (c.b 38 (f := fb_38) rfl))))
    (d_law := (Hv.defIn_of (c.d 3 (f := Hv.defG "law" s_law) rfl) (of_decide_eq_true (c.b 39 (f := fb_39) rfl))))
    (b_ArithmeticError := (of_decide_eq_true (c.b 62 (f := fb_62) rfl)))
    (b_LookupError := (of_decide_eq_true (c.b 63 (f := fb_63) rfl)))
    (b_ValueError := (of_decide_eq_true (c.b 64 (f := fb_64) rfl)))
    (b_abs := (of_decide_eq_true (c.b 65 (f := fb_65) rfl)))
    (b_all := (of_decide_eq_true (c.b 66 (f := fb_66) rfl)))
    (b_any := (of_decide_eq_true (c.b 67 (f := fb_67) rfl)))
    (b_bool := (of_decide_eq_true (c.b 68 (f := fb_68) rfl)))
    (b_divmod := (of_decide_eq_true (c.b 69 (f := fb_69) rfl)))
    (b_int := (of_decide_eq_true (c.b 70 (f := fb_70) rfl)))
    (b_isinstance := (of_decide_eq_true (c.b 71 (f := fb_71) rfl)))
    (b_len := (of_decide_eq_true (c.b 72 (f := fb_72) rfl)))
    (b_max := (of_decide_eq_true (c.b 73 (f := fb_73) rfl)))
    (b_min := (of_decide_eq_true (c.b 74 (f := fb_74) rfl)))
    (b_range := (of_decide_eq_true (c.b 75 (f := fb_75) rfl)))
    (b_repr := (of_decide_eq_true (c.b 76 (f := fb_76) rfl)))
    (b_str := (of_decide_eq_true (c.b 77 (f := fb_77) rfl)))
    (c_MOST_PART := (Hv.intIn_of (c.b 78 (f := fb_78) rfl)))
    (c_DIGITS := (Hv.strIn_of (c.b 79 (f := fb_79) rfl)))
    (c_MARK := (Hv.strIn_of (c.b 80 (f := fb_80) rfl)))
end L

open PySem PySem.W PySem.Calls PyProof.Rows in
set_option maxRecDepth 100000 in
set_option maxHeartbeats 0 in
theorem PySem.Challenge.cw_heldvotes_k03_bounds_refused_holds : PySem.Challenge.rw_heldvotes_k03_bounds_refused.Holds := by
  w_on; o_law
  refine HandSHeadRun.head_any (r := OpenLaw.row PySem.Challenge.rw_heldvotes_k03_bounds_refused) (q := view (OpenLaw.row PySem.Challenge.rw_heldvotes_k03_bounds_refused).prog [63]) (H := L.hk) (ob := L.ob) (M := 60000) (loose := L.loose) (d := HandSHeadRun.topDef (OpenLaw.row PySem.Challenge.rw_heldvotes_k03_bounds_refused).prog 63) (kwd := []) L.ob_eq
    (by kernel_rfl) (fun s => by kernel_rfl) L.run (by kernel_rfl) (by kernel_rfl) (by kernel_rfl) (by rfl) (by first | assumption | decide +kernel) (by decide +kernel) ⟨rfl, rfl, rfl, rfl, rfl, by decide +kernel⟩ ?hw ?hc
  case hw => w_witness2
  case hc =>
    refine Hv.walkTE (l := PySem.Challenge.rw_heldvotes_k03_bounds_refused) (n := 63) (k := 11) (x := "_law_script") (fb := L.fbs) (fn := L.fns) L.htf rfl (by decide) (by kernel_rfl) ⟨rfl, by decide, by decide⟩ (fun w h Y => Y) ?F
    intro w mg fa h K c G hmg0
    have hmg : mg ("law" : PySem.Str) = some (.ref fa) := by
      have e : (HandSHeadRun.topDef (OpenLaw.row PySem.Challenge.rw_heldvotes_k03_bounds_refused).prog 63).name = ("law" : PySem.Str) := by kernel_rfl
      rw [← e]
      exact hmg0
    exact L.all_in c G hmg


