import PyProof.Rows.All
import Wide.All
import OpenK.AllK
import Wide.FinOn
import HandS.ForMost
import HandS.ForExc
import HandS.EndBits
import HandS.Wide
import HandS.WideBits
import HandS.IsInst
import HandS.StrMore
import HandS.Style
import HandS.Evl
import PyProof.ReprRoads
import HandS.ReplaceDef
import HandS.ReplaceLit
import HandS.NoneIn
import HandS.Walk
import HandS.Codes
import HandS.FStr
import HandS.StrSplit
import HandS.EndTab
import HandS.Defaults
import HandS.MakeKwOnly
import HandS.Property
import HandS.SlotsOwn
import HandS.Records
import HandS.Deep
import KE.DataCmp
import HandS.Flow
import HandS.Zip0
import PyProof.Draws
import HandS.Exc
import HandS.More
import PyProof.P3In
import HandS.ClsMeth
import HandS.Head0
import HandS.Head1
import HandS.Head2
import HandS.HeadEnd
import HandS.HeadHook1
import HandS.HeadHook2
import HandS.HeadHook4
import HandS.HeadNt
import PySem.Challenge.RW_heldvotes_k24_cuts_of_rules
set_option Elab.async false
set_option linter.all false
set_option maxRecDepth 100000
set_option maxHeartbeats 4000000
namespace Hv
open PySem PySem.Spec PyProof.Rows L2

/-- a promise that is kept wherever no repr is under way -/
structure OkG (P : Program) (w : World) (K : PySem.W.Frag) (mg : Str → Option Value) (base : Heap) (CX : CXT) (k : Nat)
    (f : Addr) (fd : FuncData) (ps : List Str) (sp : Sp) : Prop where
  len : ∀ vs H Q E, sp vs H Q E → vs.length = ps.length
  run : ∀ (A : Around) (outer : List Env) (s : Shared) (H : Hp) (args : Args) (us : List Value) (vs : List V) (Q : VK) (E : XK),
    A.guards = some [] → Room k A → Env0 P w K mg base A outer s H → BindsTo s fd args (ps.zip us) → Vals vs us →
    sp vs H Q E → codeAny (model P w) A (.call (.ref f) args) (CR CX outer P w H s Q E) s

section
variable {P : Program} {w : World} {K : PySem.W.Frag} {mg : Str → Option Value} {base : Heap} {CX : CXT} {k : Nat}
  {f : Addr} {fd : FuncData} {ps : List Str} {sp : Sp}
theorem OkG.of (F : FnOk P w K mg base CX k f fd ps sp) : OkG P w K mg base CX k f fd ps sp :=
  ⟨F.len, fun A outer s H args us vs Q E _ => F.run A outer s H args us vs Q E⟩
theorem OkG.mono {j : Nat} (F : OkG P w K mg base CX j f fd ps sp) (h : j ≤ k) : OkG P w K mg base CX k f fd ps sp :=
  ⟨F.len, fun A outer s H args us vs Q E hg hr => F.run A outer s H args us vs Q E hg (hr.mono h)⟩

/-- the rule for a def, where no repr is under way -/
theorem okG {x qual : Str} {st : Stmt} {N : List Str} (F : Fun K x qual st f fd) (S : FnScope N ps (defScope st))
    (len : ∀ vs H Q E, sp vs H Q E → vs.length = ps.length)
    (body : ∀ (cdv : Value) (A : Around) (outer : List Env) (s : Shared) (H : Hp) (vs : List V) (Q : VK) (E : XK),
      A.guards = some [] → Room k (A.deeper (envOfC qual (defScope st) s.heap.objs.size f cdv)) → sp vs H Q E →
      ∃ t, PSs (cxOf CX P w K mg base N qual (defScope st) f cdv A outer s H E) (defBody st) t ∧
        t { nx := fun _ H' => Q .non H', rt := Q } (start N vs) H) :
    OkG P w K mg base CX (k + 1) f fd ps sp := by
  obtain ⟨oc, od, kV, doc, pm, an, cdv, ct, osl, rfl, lk, hcd⟩ := F.ex
  constructor
  · exact len
  intro A outer s H args us vs Q E hg hr e0 hb r hsp
  have KX : K.In s.heap := e0.mod.kin.keeps (fun b o e => (e0.bs b o e).1)
  have lim := e0.mod.nolimit.keeps (fun b o e => (e0.bs b o e).1)
  have kinds : ∀ y ∈ ps.zip us, (defScope st).names.lookup y.1 = some .local ∨
      ((defScope st).names.lookup y.1 = some .cell ∧
        ((cellsFrom (s.heap.objs.size + 1) (defScope st).names []).lookup y.1).isSome = true) := by
    rintro ⟨n, v⟩ hy
    cases S.par n (List.of_mem_zip hy).1 with
    | inl q => exact Or.inl q
    | inr q => exact Or.inr ⟨q, PySem.W.cellsFrom_some _ _ _ (Or.inl q)⟩
  apply codeAny_call_function hr.depth (KX _ _ lk) rfl S.co S.gen rfl (PySem.W.codeRec_of KX hcd)
  apply hb
  refine wpAny_newFunctionEnv_cells S.kind kinds ?_
  rintro env rfl s1 x
  refine ⟨lim.keeps x.toInCall.keep, codeAny_func ?_⟩
  obtain ⟨t, ht, hq⟩ := body cdv A outer s H vs Q E hg (hr.deeper _) hsp
  have I := inv_start (CX := CX) (E := E) S hr.hd e0 (len _ _ _ _ hsp) r x
  apply wpAny_mono (ht.run [] s1 (start N vs) H _ I hq)
  · intro fl s' hs
    cases fl with
    | ret u =>
      obtain ⟨v, σ', H', J, rv, q⟩ := hs
      exact ⟨v, H', J.os, J.bare, J.base, J.hok, rv, q⟩
    | next =>
      obtain ⟨σ', H', J, q⟩ := hs
      exact ⟨V.non, H', J.os, J.bare, J.base, J.hok, rfl, q⟩
    | brk =>
      obtain ⟨_, _, _, q⟩ := hs
      exact q.elim
    | cont =>
      obtain ⟨_, _, _, q⟩ := hs
      exact q.elim
  · intro e s' hs
    exact hs
end

theorem okG0 {P : Program} {w : World} {K : PySem.W.Frag} {mg : Str → Option Value} {base : Heap} {k : Nat} {f : Addr} {fd : FuncData} {ps : List Str} {sp : Sp}
    {x qual : Str} {st : Stmt} {N : List Str} (F : Fun K x qual st f fd) (S : FnScope N ps (defScope st)) (len : ∀ vs H Q E, sp vs H Q E → vs.length = ps.length)
    (body : ∀ (cdv : Value) (A : Around) (outer : List Env) (s : Shared) (H : Hp) (vs : List V) (Q : VK) (E : XK),
      A.guards = some [] → Room k (A.deeper (envOfC qual (defScope st) s.heap.objs.size f cdv)) → sp vs H Q E →
      ∃ t, PSs (cxOf CX0 P w K mg base N qual (defScope st) f cdv A outer s H E).nox (defBody st) t ∧
        t { nx := fun _ H' => Q .non H', rt := Q } (start N vs) H) : OkG P w K mg base CX0 (k + 1) f fd ps sp :=
  okG F S len fun cdv A outer s H vs Q E hg hr hsp =>
    let ⟨t, h, q⟩ := body cdv A outer s H vs Q E hg hr hsp
    ⟨t, h.nox, q⟩
section
variable {X : Cx} {CX : CXT} {k : Nat} {f : Addr} {fd : FuncData} {ps : List Str} {sp : Sp} {dvs : List V} {ds : List Value}
  {E : XK} {x : Str} {p pos : Pos} {e : Expr} {es : List Expr} {t : TA}
theorem runG {pins : List (Addr × Obj)} {σ : L2.St} {H : Hp} {s : Shared} {Q : VK} {us : List Value} {vs : List V}
    (F : OkG X.prog X.w X.K X.mg X.base CX k f fd ps sp) (hG : X.A.guards = some []) (hr : Room k X.A)
    (hb : Binds X.K fd ps ds) (hd : Vals dvs ds) (hx : Passes CX X E) (I : Inv X pins σ H s) (r : Vals vs us)
    (h : sp (vs ++ dvs) H Q E) : wpAny (model X.prog X.w) X.A (call (.ref f) us) (EP X pins σ Q) X.xe s := by
  have r2 : Vals (vs ++ dvs) (us ++ ds) := r.append hd
  have hl : (us ++ ds).length = ps.length := r2.length.symm.trans (F.len _ _ _ _ h)
  have go := F.run X.A X.stack s H ⟨us, []⟩ (us ++ ds) (vs ++ dvs) Q E hG hr I.env0 (hb s us I.kIn hl) r2 h
  refine wpAny_call (codeAny_mono go ?_)
  intro r s' hq
  match r, hq with
  | .error e, hq => exact hx pins σ H s e s' I hq
  | .ok (.ret u), hq => exact I.after hq
  | .ok .next, hq => exact hq.elim
  | .ok .brk, hq => exact hq.elim
  | .ok .cont, hq => exact hq.elim
/-- f(e, ..) for such a def -/
theorem pe_callG (F : OkG X.prog X.w X.K X.mg X.base CX k f fd ps sp) (hG : X.A.guards = some []) (hr : Room k X.A) (hg : Gl X x)
    (hm : X.mg x = some (.ref f)) (hk : PySem.W.keepIn X.K (.ref f) = true) (hb : Binds X.K fd ps ds) (hd : Vals dvs ds)
    (hx : Passes CX X E) (ha : PA X (e :: es) t) (hdb : (x == ("__debug__" : Str)) = false := by decide)
    (he : starEach (e :: es) X.env = (false, eval e X.env) :: starEach es X.env := by rfl)
    (hpl : (backTo pos (starEach es X.env)).any (·.1) = false := by rfl) :
    PE X (.Call (.Name x p) (e :: es) [] pos) (tCall sp dvs E t) := by
  constructor
  intro pins s σ H Q I h
  apply wpAny_Call_Name_kw
  refine ld_glob I hg hm ?_ hdb
  refine PySem.W.callWith_K (h₀ := X.base) I.ok.mod.kin hk (thn (ha.run pos pins s σ H _ I h) ?_) he hpl
  rintro us s1 ⟨vs, H1, I1, r, q⟩
  exact ⟨I1.kIn, runG F hG hr hb hd hx I1 r q⟩
theorem pe_call0G (F : OkG X.prog X.w X.K X.mg X.base CX k f fd ps sp) (hG : X.A.guards = some []) (hr : Room k X.A) (hg : Gl X x)
    (hm : X.mg x = some (.ref f)) (hk : PySem.W.keepIn X.K (.ref f) = true) (hb : Binds X.K fd ps ds) (hd : Vals dvs ds)
    (hx : Passes CX X E) (hdb : (x == ("__debug__" : Str)) = false := by decide) :
    PE X (.Call (.Name x p) [] [] pos) (tCall sp dvs E tNil) := by
  constructor
  intro pins s σ H Q I h
  apply wpAny_Call_Name_kw
  refine ld_glob I hg hm ?_ hdb
  exact PySem.W.callWith_K0 I.kIn hk (runG (us := []) F hG hr hb hd hx I .nil h)

/-- repr of data -/
@[irreducible] def rRepr (K : PySem.W.Frag) : List V → Hp → VK → Prop := fun xs H Q => ∃ v d, xs = [v] ∧ Dp K H v d ∧ d.showable = true ∧ d.hasDict = false ∧ d.depth ≤ 60 ∧ d.shown.length ≤ sizeLine ∧ Q (.str d.shown) H
theorem rd_repr {K : PySem.W.Frag} {H : Hp} {v : V} {d : PyData} {Q : VK} (hv : Dp K H v d) (h1 : d.showable = true) (h2 : d.hasDict = false) (h3 : d.depth ≤ 60) (h4 : d.shown.length ≤ sizeLine) (q : Q (.str d.shown) H) : rRepr K [v] H Q := by
  unfold rRepr
  exact ⟨v, d, rfl, hv, h1, h2, h3, h4, q⟩
theorem cr_repr (hG : X.A.guards = some []) (hu : X.A.units + 64 < cLine) : CallR X (.builtin "repr") (rRepr X.K) := by
  intro pins s σ H xs us Q I r h
  unfold rRepr at h
  obtain ⟨v, d, rfl, hd, hs, hn, hdep, hz, q⟩ := h
  obtain ⟨u, rfl, ru⟩ : ∃ u, us = [u] ∧ RelV v u := by
    cases r with
    | cons a b => cases b with | nil => exact ⟨_, rfl, a⟩
  obtain ⟨as, rd⟩ := Dp.reads I d v u hd ru
  cases hd with
  | non => cases ru; exact PySem.P.repr_of_none ⟨.str _, H, I.tok _, ⟨_, rfl⟩, q⟩
  | bl b => cases ru; exact PySem.P.repr_of_bool ⟨.str _, H, I.tok _, ⟨_, rfl⟩, q⟩
  | int i =>
    obtain ⟨t, rfl⟩ := ru
    refine PySem.P.repr_of_int ?_ ⟨.str _, H, I.tok _, ⟨_, rfl⟩, q⟩
    simpa [PyData.showable] using hs
  | str z =>
    obtain ⟨t, rfl⟩ := ru
    exact PySem.P.repr_of_str ⟨.str _, H, I.tok _, ⟨_, rfl⟩, q⟩ hz
  | lst h1 h2 =>
    cases ru
    refine repr_of_reads' rd hs (by rw [hn]; intro z; cases z) hG (by omega) (fun _ _ e => e) ?_ hz
    intro h' u' tk hk
    exact ⟨.str _, H, I.kept hk, ⟨_, rfl⟩, q⟩
  | tup h1 h2 =>
    cases ru
    refine repr_of_reads' rd hs (by rw [hn]; intro z; cases z) hG (by omega) (fun _ _ e => e) ?_ hz
    intro h' u' tk hk
    exact ⟨.str _, H, I.kept hk, ⟨_, rfl⟩, q⟩
end

/-! ### the end: the law's call, where no repr is under way -/
theorem old_of {P : Program} {w : World} {H H' : Hp} {h h' : Heap} (hO : Only H) (un : Un (frs []) [] H H' h h') (ok : HOk P w H h) (ok' : HOk P w H' h') : OldK h h' := by
  apply OldK.of_keep
  intro b o e
  rcases hO b with z | ⟨ob, xs, z⟩
  · exact un.keep b o e z (by intro q; cases q) (by intro q; cases q)
  · have k1 := (ok b _ z).1
    have k2 := (ok' b _ (un.frzs b ob _ z)).1
    rw [e] at k1
    cases k1
    exact k2
theorem call_lawG {P : Program} {w : World} {K : PySem.W.Frag} {mg mb : Str → Option Value} {CX : CXT} {k : Nat} {fa a : Addr} {fd : FuncData}
    {x : Str} {sp : Sp} {s : Shared} {vs : List Value} {ns : List Int} (KX : K.In s.heap) (gl : s.heap.Ns mainGlobals mg)
    (bl : s.heap.Ns builtinsNs mb) (hbb : ∀ x : Str, x ≠ "__name__" → mb x = bootBuiltins x) (lim : s.heap.NoLimit) (gens : s.gens = #[])
    (ha : s.heap.get? a = some { cls := .type "list", data := .seq vs.toArray }) (hi : IntsAre vs ns) (hl : ns.length ≤ sizeLine)
    (hr : Room k callerA) (F : ∀ base : Heap, K.In base → base.Ns mainGlobals mg → OkG P w K mg base CX k fa fd [x] sp)
    (bind : ∀ (s : Shared) (u : Value), BindsTo s fd ⟨[u], []⟩ [(x, u)])
    (hsp : ∀ H : Hp, SqL K H a (ns.map V.int) → sp [.ref a] H (fun v _ => v = .bl true) fun _ _ _ => False)
    (hCX : ∀ H e s', CX [] H s (fun _ _ _ => False) e s' → False) :
    codeAny (model P w) callerA (.call (.ref fa) ⟨[.ref a], []⟩)
      (fun r s' => r = .ok (.ret (.bool true)) ∧ OldK s.heap s'.heap ∧ s'.os = s.os ∧ AllBare s'.gens) s := by
  have rv := vals_ints hi
  have core : ∀ H : Hp, Only H → SqL K H a (ns.map V.int) → HOk P w H s.heap → (∀ b, H b ≠ none → b = a) → (H a ≠ none → K.lookup a = none) →
      codeAny (model P w) callerA (.call (.ref fa) ⟨[.ref a], []⟩)
        (fun r s' => r = .ok (.ret (.bool true)) ∧ OldK s.heap s'.heap ∧ s'.os = s.os ∧ AllBare s'.gens) s := by
    intro H hO hS ok hA hK
    -- what is no list is not tracked
    have free : ∀ {b : Addr} {o : Obj}, s.heap.get? b = some o → (b = a → H a = none) → H b = none := by
      intro b o _ z
      by_cases q : H b = none
      · exact q
      · have e := hA b q
        rw [e]
        exact z e
    have ns' : ∀ {b : Addr} {m : Str → Option Value}, s.heap.Ns b m → (hidT s.heap H).Ns b m := by
      rintro b m ⟨o, es, ep, e, d, r⟩
      refine ⟨o, es, ep, hidT_get e (free e fun q => ?_), d, r⟩
      subst q
      rw [ha] at e
      cases e
      cases d
    have hKb : K.In (hidT s.heap H) := by
      intro b o e
      refine hidT_get (KX b o e) (free (KX b o e) fun q => ?_)
      subst q
      by_cases z : H b = none
      · exact z
      · rw [hK z] at e
        cases e
    have hM : Mod K mg (hidT s.heap H) := by
      obtain ⟨mc, h1, h2⟩ := lim
      exact ⟨hKb, ns' gl, ⟨mb, ns' bl, hbb⟩, ⟨mc, ns' h1, h2⟩⟩
    have e0 : Env0 P w K mg (hidT s.heap H) callerA [] s H := by
      refine ⟨rfl, hM, fun b o e => of_hidT e, Nat.le_of_eq (hidT_size _ _), trivial, ?_, ok, .of_eq gens⟩
      intro b hb
      cases (show b ∈ ([] : List Addr) from hb)
    have go := (F _ hKb (ns' gl)).run callerA [] s H ⟨[.ref a], []⟩ [.ref a] [.ref a] (fun v _ => v = .bl true) (fun _ _ _ => False)
      rfl hr e0 (bind s (.ref a)) (.cons rfl .nil) (hsp H hS)
    refine codeAny_mono go ?_
    intro r s' h
    match r, h with
    | .error e, h => exact (hCX H e s' h).elim
    | .ok .next, h => exact h.elim
    | .ok .brk, h => exact h.elim
    | .ok .cont, h => exact h.elim
    | .ok (.ret u), h =>
      obtain ⟨v, H', os, bare, un, ok', r', q⟩ := h
      cases (show v = .bl true from q)
      cases (show u = Value.bool true from r')
      exact ⟨rfl, old_of hO un ok ok', os, bare⟩
  by_cases hk : K.lookup a = none
  · refine core (upd (fun _ => none) a (.frz { cls := .type "list", data := .seq vs.toArray } (.lst (ns.map V.int)))) ?_ (.inl (.inr ⟨_, upd_same⟩)) ?_ ?_ fun _ => hk
    · intro b
      by_cases hb : b = a
      · subst hb
        exact .inr ⟨_, _, upd_same⟩
      · exact .inl (upd_ne hb)
    · intro b u z
      by_cases hb : b = a
      · subst hb
        rw [upd_same] at z
        cases z
        exact ⟨ha, by rw [List.length_map]; exact hl, vs, _, rv, ha⟩
      · rw [upd_ne hb] at z
        cases z
    · intro b z
      by_cases hb : b = a
      · exact hb
      · exact absurd (upd_ne hb) z
  · obtain ⟨o, ho⟩ := Option.ne_none_iff_exists'.mp hk
    have e := KX a o ho
    rw [ha] at e
    cases e
    have lenV := hi.length
    refine core (fun _ => none) (fun _ => .inl rfl) (.inr ⟨_, vs.toArray, _, ho, rfl, rfl, rfl, ?_, ?_⟩) ?_ ?_ ?_
    · rw [List.size_toArray, lenV]
      exact hl
    · simpa using rv
    · intro b u z
      cases (show (none : Option HO) = some u from z)
    · intro b z
      exact absurd rfl z
    · intro z
      exact absurd rfl z
theorem walkG {l : PySem.W.OpenLaw} {n k : Nat} {q : Program} {loose : List Str} {XP : (Str → Option Value) → Heap → Prop}
    {YP : World → Heap → Prop} {d : DefRec} {K : Params → PySem.W.Frag} {CX : World → CXT} {sp : World → Sp} {x : Str}
    (hn : l.most = some n) (hn2 : n ≤ sizeLine) (hdf : d.params.defaults = []) (hr : Room k callerA)
    (hY : ∀ (w : World) (h : Heap), YP w h → (K w.params).In h)
    (F : ∀ (w : World) (mg : Str → Option Value) (fa : Addr) (h : Heap), (K w.params).In h → h.Ns mainGlobals mg →
      mg d.name = some (.ref fa) → ∃ fd : FuncData, (∀ (s : Shared) (u : Value), BindsTo s fd ⟨[u], []⟩ [(x, u)]) ∧
        ∀ base : Heap, (K w.params).In base → base.Ns mainGlobals mg → OkG l.prog w (K w.params) mg base (CX w) k fa fd [x] (sp w))
    (hsp : ∀ (w : World) (H : Hp) (a : Addr) (ns : List Int), ns.length ≤ n → (∀ z ∈ ns, Builtin.Int.intBits z ≤ 1048576) →
      SqL (K w.params) H a (ns.map V.int) → sp w [.ref a] H (fun v _ => v = .bl true) fun _ _ _ => False)
    (hCX : ∀ (w : World) (H : Hp) (s : Shared) (e : Value) (s' : Shared), CX w [] H s (fun _ _ _ => False) e s' → False) :
    PySem.W.WalkO q loose XP YP l.row.toRowW d [] (fun f vs => PySem.call f vs) := by
  refine Att.attach_callB hn hdf ?_
  intro w s₀ s₁ mg mb fa o pm cd doc a vs ns G Y ho hd hcd hmg hobj hints hlen hbits hg
  obtain ⟨fd, hb, hF⟩ := F w mg fa _ (hY w _ Y) G.T.g hmg
  exact call_lawG (hY w _ Y) G.T.g G.T.b G.T.builtins G.T.nolimit hg hobj hints (Nat.le_trans hlen hn2) hr hF hb
    (fun H hS => hsp w H a ns hlen hbits hS) (fun H e s' => hCX w H s₁ e s')
end Hv

namespace Hv
open PySem PySem.Spec PyProof.Rows L2
section
variable {X : Cx} {o e : Expr} {to te : TE}
/-- a text's method of one argument; its receiver wants a token -/
theorem pet_m1 {id : String} {name : Str} {apos pos : Pos} {r : V → List V → Hp → VK → Prop} (slot : Slot "str" name id)
    (ty : typeOf (.builtin id) = pure (.type "method_descriptor")) (rule : MtR X id r) (ho : PET X o to) (he : PE X e te)
    (hs : starEach [e] X.env = [(false, eval e X.env)] := by rfl) (hbase : attributeBase o name X.env (eval o X.env) = eval o X.env := by rfl)
    (hline : (apos.endLine == pos.line) = true := by rfl) : PET X (.Call (.Attribute o name apos) [e] [] pos) (tM1 r to te) := by
  intro pins s σ H Q h0 I h
  apply PySem.Call_method1 hbase hs hline
  apply thn (ho pins s σ H _ h0 I h)
  rintro v s1 ⟨x, H1, I1, r1, ⟨a, rfl⟩, q1⟩
  obtain ⟨t, rfl⟩ := _root_.id r1
  refine ⟨"str", _, F.plainAttrs_str, slot, ty, typeIs_str _ _ _, (fun _ e => nomatch e), ?_⟩
  refine Calls.callWith_builtin rfl (Calls.evalArgs_plain (Calls.spliced_cons (thn (he.run pins s1 σ H1 _ I1 q1) ?_)))
  rintro u s2 ⟨y, H2, I2, r2, q2⟩
  exact Calls.spliced_nil (rule pins s2 σ H2 _ [y] _ [u] Q I2 r1 (.cons r2 .nil) q2)
theorem pst_asg {tg : Expr} {g : TG} {pos : Pos} (he : PET X e te) (hg : PG X tg g) (hs : swapsWithSole [tg] e pos.line X.env = pure false := by rfl)
    (hw : swappedStores [tg] e X.env = pure none := by rfl) (h1 : (assignEach [tg] X.env).map (·.2) = [assign tg X.env] := by rfl) :
    PST X (.Assign [tg] e pos) (tAsg te g) := by
  intro pins s σ H D h0 I h
  refine wpAny_Assign_stores (thn (he pins s σ H _ h0 I h) ?_) hs hw
  rintro v s1 ⟨x, H1, I1, r1, q1⟩
  rw [h1]
  exact thn (hg.run pins s1 σ H1 x v _ I1 r1 q1) fun _ s2 q => q
/-- f(k = v, ..), no positional argument -/
theorem pe_callK0 {CX : CXT} {k : Nat} {f : Addr} {fd : FuncData} {ps ks : List Str} {sp : Sp} {E : XK} {x : Str} {p pos : Pos} {kws : List Keyword} {tk : TA}
    {g : List Value → List Value → List Value} {gV : List V → List V → List V} (F : FnOk X.prog X.w X.K X.mg X.base CX k f fd ps sp) (hr : Room k X.A) (hg : Gl X x)
    (hm : X.mg x = some (.ref f)) (hk : PySem.W.keepIn X.K (.ref f) = true) (hb : KBinds X.K fd ps ks g gV) (hx : Passes CX X E) (hkw : PK X kws tk)
    (hall : (backToKw pos (keywordEach kws X.env)).all (·.1.isSome) = true := by rfl) (hks : (backToKw pos (keywordEach kws X.env)).filterMap (·.1) = ks := by rfl)
    (hdb : (x == ("__debug__" : Str)) = false := by decide)
    (hpl : ((backTo pos (starEach [] X.env)).any (·.1) || (backToKw pos (keywordEach kws X.env)).any (·.1.isNone)) = false := by rfl) :
    PE X (.Call (.Name x p) [] kws pos) (tCallK sp gV E tNil tk) := by
  constructor
  intro pins s σ H Q I h
  apply wpAny_Call_Name_kw
  refine ld_glob I hg hm ?_ hdb
  refine PySem.W.callWith_KW0 (h₀ := X.base) I.ok.mod.kin hk hall ?_ hpl
  apply thn (hkw.run pos pins s σ H _ I h)
  rintro ws s2 ⟨zs, H2, I2, rz, q2⟩
  rw [hks]
  exact ⟨I2.kIn, run_fnk (us := []) F hr hb hx I2 .nil rz q2⟩
/-- repr of a truth value -/
theorem cr_reprB : CallR X (.builtin "repr") (fun xs H Q => ∃ b, xs = [.bl b] ∧ Q (.str (if b then "True" else "False")) H) := by
  intro pins s σ H xs us Q I r h
  obtain ⟨b, rfl, q⟩ := h
  cases r with
  | cons a t =>
    cases t
    cases a
    exact PySem.P.repr_of_bool ⟨.str _, H, I.tok _, ⟨_, rfl⟩, q⟩
end
section
variable {P : Program} {w : World} {K : PySem.W.Frag} {mg : Str → Option Value} {base : Heap} {CX : CXT} {k : Nat} {f : Addr} {fd : FuncData} {ps : List Str} {sp : Sp}
/-- the rule for a def without cells: a token is out when its body begins -/
theorem okT {x qual : Str} {st : Stmt} {N : List Str} (F : Fun K x qual st f fd) (S : FnScope N ps (defScope st)) (hnc : ∀ y ∈ (defScope st).names, y.2 ≠ .cell) (hps : 1 ≤ ps.length)
    (len : ∀ vs H Q E, sp vs H Q E → vs.length = ps.length)
    (body : ∀ (cdv : Value) (A : Around) (outer : List Env) (s : Shared) (H : Hp) (vs : List V) (Q : VK) (E : XK),
      Room k (A.deeper (envOfC qual (defScope st) s.heap.objs.size f cdv)) → sp vs H Q E →
      ∃ t, PSsT (cxOf CX P w K mg base N qual (defScope st) f cdv A outer s H E) (defBody st) t ∧ t { nx := fun _ H' => Q .non H', rt := Q } (start N vs) H) :
    FnOk P w K mg base CX (k + 1) f fd ps sp := by
  obtain ⟨oc, od, kV, doc, pm, an, cdv, ct, osl, rfl, lk, hcd⟩ := F.ex
  exact fn_ofT lk hcd S hnc hps len fun A outer s H vs Q E hr hsp => body cdv A outer s H vs Q E hr hsp
end
end Hv

namespace Hv
open PySem L2

theorem dT {p : Prop} [Decidable p] (h : decide p = true) : p := of_decide_eq_true h
theorem dF {p : Prop} [Decidable p] (h : ¬ decide p = true) : ¬ p := fun q => h (decide_eq_true q)
theorem nT {p : Prop} [Decidable p] (h : (!decide p) = true) : ¬ p := fun q => by
  rw [decide_eq_true q] at h
  cases h
theorem nF {p : Prop} [Decidable p] (h : ¬ (!decide p) = true) : p := by
  by_cases q : p
  · exact q
  · exact absurd (by rw [decide_eq_false q]; rfl) h

theorem ifT {p : Prop} [Decidable p] {A B : Prop} (hp : p) (h : A) : if decide p = true then A else B := by
  rw [if_pos (decide_eq_true hp)]
  exact h
theorem ifF {p : Prop} [Decidable p] {A B : Prop} (hp : ¬ p) (h : B) : if decide p = true then A else B := by
  rw [if_neg (fun q => hp (of_decide_eq_true q))]
  exact h
theorem ifNT {p : Prop} [Decidable p] {A B : Prop} (hp : ¬ p) (h : A) : if (!decide p) = true then A else B := by
  rw [decide_eq_false hp]
  exact h
theorem ifNF {p : Prop} [Decidable p] {A B : Prop} (hp : p) (h : B) : if (!decide p) = true then A else B := by
  rw [decide_eq_true hp]
  exact h

/-- a value's reading by what holds behind it -/
theorem join_te {te : TE} {σ : L2.St} {H : Hp} {Q : VK} (S : V → Hp → Prop) (h : ∀ Q' : VK, (∀ v H', S v H' → Q' v H') → te σ H Q') (k : ∀ v H', S v H' → Q v H') : te σ H Q := h Q k

theorem join_asg {te : TE} {g : TG} {u : TS} {D : Ends} {σ : L2.St} {H : Hp} (S : V → Hp → Prop) (h : ∀ Q' : VK, (∀ v H', S v H' → Q' v H') → te σ H Q')
    (k : ∀ v H', S v H' → g v σ H' (u D)) : tSeq (tAsg te g) u D σ H := h _ k

theorem join_ifs {tt : TT} {t u v : TS} {D : Ends} {σ : L2.St} {H : Hp} (S : Bool → Hp → Prop) (h : ∀ Q' : Bool → Hp → Prop, (∀ b H', S b H' → Q' b H') → tt σ H Q')
    (k : ∀ b H', S b H' → if b = true then t { D with nx := v D } σ H' else u { D with nx := v D } σ H') : tSeq (tIfS tt t u) v D σ H := h _ k
/-- both ways of an if come to the same -/
theorem join_if {c : Bool} {A B R : Prop} (hB : c = false → R → B) (hA : c = true → R → A) (r : R) : if c = true then A else B := by
  cases c with
  | true => exact hA rfl r
  | false => exact hB rfl r

structure DefAt (K : PySem.W.Frag) (mg : Str → Option Value) (x : Str) (st : Stmt) (ps : List Str) (f : Addr) (fd : FuncData) : Prop where
  fn : Fun K x x st f fd
  mg : mg x = some (.ref f)
  bd : Binds K fd ps []
/-- what the top has left of a def -/
def DefIn (K : PySem.W.Frag) (x : Str) (st : Stmt) : Prop :=
  ∃ (f : Addr) (oc : Value) (od : Option Addr) (kV doc pm : Value) (an : Option Addr) (cd ct : Value) (sl : Array (Option Value)),
    PySem.W.nsIn K mainGlobals x = some (some (.ref f)) ∧
    K.lookup f = some ⟨oc, od, .func (PySem.W.fnOf x x (defArgs st) (defBody st) (defScope st) .none kV doc pm an cd ct), sl⟩ ∧
    PySem.W.codeIn K cd x = true ∧ PySem.W.keepIn K (.ref f) = true
theorem defIn_mk {K : PySem.W.Frag} {x : Str} {st : Stmt} {f : Addr} {oc : Value} {od : Option Addr} {kV doc pm : Value} {an : Option Addr} {cd ct : Value} {sl : Array (Option Value)}
    (a : PySem.W.nsIn K mainGlobals x = some (some (.ref f)))
    (l : K.lookup f = some ⟨oc, od, .func (PySem.W.fnOf x x (defArgs st) (defBody st) (defScope st) .none kV doc pm an cd ct), sl⟩)
    (c : PySem.W.codeIn K cd x = true) (k : PySem.W.keepIn K (.ref f) = true) : DefIn K x st :=
  ⟨f, oc, od, kV, doc, pm, an, cd, ct, sl, a, l, c, k⟩
theorem constIn_mk {K : PySem.W.Frag} {x : Str} {C : Value → Prop} {v : Value} (a : PySem.W.nsIn K mainGlobals x = some (some v)) (c : C v) : ∃ v, PySem.W.nsIn K mainGlobals x = some (some v) ∧ C v := ⟨v, a, c⟩
theorem DefIn.at {K : PySem.W.Frag} {mg : Str → Option Value} {h : Heap} {x : Str} {st : Stmt} {ps : List Str} (d : DefIn K x st) (X : K.In h) (G : h.Ns mainGlobals mg)
    (hb : ∀ (kV doc pm : Value) (an : Option Addr) (cdv ct : Value) (us : List Value), us.length = ps.length →
      bindArgs (PySem.W.fnOf x x (defArgs st) (defBody st) (defScope st) .none kV doc pm an cdv ct) ⟨us, []⟩ = pure (ps.zip us)) :
    ∃ f fd, DefAt K mg x st ps f fd := by
  obtain ⟨f, oc, od, kV, doc, pm, an, cd, ct, sl, a, l, c, k⟩ := d
  have F := fun_mk (st := st) l c k
  exact ⟨f, _, F, PySem.W.mg_of X G a, F.binds hb⟩

/-- the draws' bag: three ints, the second one from 0 on and not beyond the script's bits, the third at most k -/
def Bag (H : Hp) (b : Addr) (k : Nat) : Prop :=
  ∃ s d n : Int, H b = some (.lst [.int s, .int d, .int n]) ∧ 0 ≤ d ∧ Builtin.Int.intBits d ≤ 1048576 ∧ 0 ≤ n ∧ n ≤ k
theorem Bag.mono {H : Hp} {b : Addr} {j k : Nat} (h : Bag H b j) (le : j ≤ k) : Bag H b k := by
  obtain ⟨s, d, n, h1, h2, h3, h4, h5⟩ := h
  exact ⟨s, d, n, h1, h2, h3, h4, by omega⟩
theorem Bag.same {H H' : Hp} {b : Addr} {k : Nat} (h : Bag H b k) (e : Same H H') : Bag H' b k := by
  obtain ⟨s, d, n, h1, h2⟩ := h
  exact ⟨s, d, n, e _ _ h1, h2⟩
theorem Bag.ne_none {H : Hp} {b p : Addr} {k : Nat} (h : Bag H b k) (hp : H p = none) : p ≠ b := by
  obtain ⟨s, d, n, h1, _⟩ := h
  exact (ne_of_none h1 hp).symm
/-- all that is tracked but b stays -/
def But (b : Addr) (H H' : Hp) : Prop := ∀ a o, a ≠ b → H a = some o → H' a = some o
theorem But.refl {b : Addr} {H : Hp} : But b H H := fun _ _ _ h => h
theorem But.trans {b : Addr} {H H1 H2 : Hp} (x : But b H H1) (y : But b H1 H2) : But b H H2 := fun a o n h => y a o n (x a o n h)
theorem But.put {b : Addr} {H H1 : Hp} {o : HO} (x : But b H H1) : But b H (upd H1 b o) := fun a u n h => by
  rw [upd_ne n]; exact x a u n h
theorem But.new {b p : Addr} {H H1 : Hp} {o : HO} (x : But b H H1) (hp : H1 p = none) : But b H (upd H1 p o) := fun a u n h => by
  have q := x a u n h
  rw [upd_ne (ne_of_none q hp)]; exact q
theorem But.of {b : Addr} {H H' : Hp} (e : Same H H') : But b H H' := fun a o _ h => e a o h
theorem But.seq {b a : Addr} {K : PySem.W.Frag} {H H' : Hp} {xs : List V} (e : But b H H') (n : a ≠ b) (h : SqL K H a xs) : SqL K H' a xs := by
  rcases h with (h | ⟨o, h⟩) | h
  · exact .inl (.inl (e _ _ n h))
  · exact .inl (.inr ⟨o, e _ _ n h⟩)
  · exact .inr h
theorem same_new {H : Hp} {p : Addr} {o : HO} (hp : H p = none) : Same H (upd H p o) := fun a u e => by
  rw [upd_ne (ne_of_none e hp)]; exact e
theorem But.free {b p : Addr} {H H' : Hp} (e : But b H H') (n : p ≠ b) (h : H' p = none) : H p = none := by
  cases q : H p with
  | none => rfl
  | some o =>
    rw [e p o n q] at h
    cases h

/-- changes at places that H did not know -/
theorem same_but {H H1 H2 : Hp} {b : Addr} (s : Same H H1) (hb : H b = none) (e : But b H1 H2) : Same H H2 := fun a o h =>
  e a o (ne_of_none h hb) (s a o h)
theorem same_put {H H1 : Hp} {b : Addr} {o : HO} (s : Same H H1) (hb : H b = none) : Same H (upd H1 b o) := fun a u h => by
  rw [upd_ne (ne_of_none h hb)]
  exact s a u h
theorem Bag.put {H : Hp} {b p : Addr} {k : Nat} {o : HO} (h : Bag H b k) (n : p ≠ b) : Bag (upd H p o) b k := by
  obtain ⟨s, d, m, h1, h2⟩ := h
  exact ⟨s, d, m, by rw [upd_ne n.symm]; exact h1, h2⟩
theorem log2_mono {a b : Nat} (h : a ≤ b) : a.log2 ≤ b.log2 := by
  by_cases h0 : a = 0
  · subst h0
    rw [Nat.log2_zero]
    exact Nat.zero_le _
  · have h1 := Nat.log2_self_le h0
    exact (Nat.le_log2 (by omega)).mpr (Nat.le_trans h1 h)
theorem bits_mono {a b : Int} (h : a.natAbs ≤ b.natAbs) : Builtin.Int.intBits a ≤ Builtin.Int.intBits b := by
  unfold Builtin.Int.intBits
  have := log2_mono h
  by_cases h0 : a = 0
  · rw [if_pos (by rw [h0]; rfl)]
    exact Nat.zero_le _
  · by_cases h1 : b = 0
    · subst h1
      simp at h
      exact absurd h h0
    · rw [if_neg (by simpa using h0), if_neg (by simpa using h1)]
      omega
theorem bits_div {d m : Int} (h0 : 0 ≤ d) (hm : 0 < m) (h : Builtin.Int.intBits d ≤ 1048576) : Builtin.Int.intBits (d / m) ≤ 1048576 := by
  refine Nat.le_trans (bits_mono ?_) h
  have h1 : 0 ≤ d / m := Int.ediv_nonneg h0 (by omega)
  have h2 : d / m ≤ d := Int.ediv_le_self _ h0
  omega
theorem bits_small {n : Int} (h : n.natAbs < 2 ^ 1000) : Builtin.Int.intBits n ≤ 1048576 := by
  unfold Builtin.Int.intBits
  split
  · decide
  · by_cases h0 : n.natAbs = 0
    · rw [h0]
      decide
    · have := (Nat.log2_lt h0).mpr h
      omega
theorem pylong_no {d m : Int} (h : m.natAbs < 2 ^ 1000) : Builtin.divisionGoesByPylong d m = false := by
  unfold Builtin.divisionGoesByPylong
  rw [Bool.and_eq_false_iff]
  left
  rw [decide_eq_false_iff_not]
  dsimp only
  split
  · decide
  · rename_i hz
    have h0 : m.natAbs ≠ 0 := by
      intro q
      apply hz
      rw [beq_iff_eq]
      omega
    have := (Nat.log2_lt h0).mpr h
    omega
theorem m_small {m : Int} (h0 : 0 ≤ m) (h : m ≤ 10 ^ 41) : m.natAbs < 2 ^ 1000 := by
  have e : (10 : Nat) ^ 41 < 2 ^ 1000 := by decide +kernel
  have : m.natAbs ≤ 10 ^ 41 := by omega
  exact Nat.lt_of_le_of_lt this e
/-- a number of the script, or one mixed of its first ones -/
def sp_seed (K : PySem.W.Frag) : Sp := fun vs H Q _ => ∃ (a : Addr) (ns : List Int) (k : Int), vs = [.ref a, .int k] ∧ SqL K H a (ns.map V.int) ∧
  (∀ z ∈ ns, Builtin.Int.intBits z ≤ 1048576) ∧ 0 ≤ k ∧ k < 1000 ∧ ∀ (n : Int) (H' : Hp), Same H H' → Builtin.Int.intBits n ≤ 1048576 → Q (.int n) H'
def sp_bag : Sp := fun vs H Q _ => ∃ (n : Int), vs = [.int n] ∧ Builtin.Int.intBits n ≤ 1048576 ∧
  ∀ (p : Addr) (H' : Hp), H p = none → Same H H' → Bag H' p 0 → Q (.ref p) H'
/-- a draw below m -/
def sp_take : Sp := fun vs H Q _ => ∃ (b : Addr) (m : Int) (k : Nat), vs = [.ref b, .int m] ∧ Bag H b k ∧ k < 1000000 ∧ 0 < m ∧ m.natAbs < 2 ^ 1000 ∧
  ∀ (r : Int) (H' : Hp), But b H H' → Bag H' b (k + 1) → 0 ≤ r → r < m → Q (.int r) H'
end Hv

namespace Hv
open PySem PySem.Spec PyProof.Rows L2
/-- == of a list with [], of a tuple with (), whatever is in it -/
def rEqE (K : PySem.W.Frag) : V → V → Hp → VK → Prop := fun x y H Q => ∃ (p q : Addr) (xs : List V), x = .ref p ∧ y = .ref q ∧ ((SqL K H p xs ∧ SqL K H q []) ∨ (SqT K H p xs ∧ SqT K H q [])) ∧ Q (.bl xs.isEmpty) H
theorem op_eqE {X : Cx} (hu : X.A.units + 64 < cLine) : OpR X (compareOp .Eq) (rEqE X.K) := by
  intro pins s σ H x y v u Q I rx ry h
  obtain ⟨p, q, xs, rfl, rfl, hs, k⟩ := h
  cases rx
  cases ry
  rcases hs with ⟨h1, h2⟩ | ⟨h1, h2⟩
  · obtain ⟨its, rv, ⟨o, n, ho, hc, hdn, hd⟩, _⟩ := I.list h1
    obtain ⟨jts, rw_, ⟨o2, n2, ho2, hc2, hdn2, hd2⟩, _⟩ := I.list h2
    cases rw_
    cases its with
    | nil =>
      cases rv
      refine SeqAt.eq_listAt (items := #[]) (items2 := #[]) (e := fun _ => true) ⟨o, ho, hc, n, hd⟩ ⟨o2, ho2, hc2, n2, hd2⟩ rfl (by omega) (fun j h1 h2 => absurd h1 (by simp)) ?_
      exact ⟨.bl true, H, I, rfl, k⟩
    | cons a t =>
      cases rv
      refine SeqAt.eq_list_lengthsAt (items := (a :: t).toArray) (items2 := #[]) ⟨o, ho, hc, n, hd⟩ ⟨o2, ho2, hc2, n2, hd2⟩ (by simp) (by omega) ?_
      exact ⟨.bl false, H, I, rfl, k⟩
  · obtain ⟨its, rv, ⟨o, ho, hc, n, hd⟩, _⟩ := I.tuple h1
    obtain ⟨jts, rw_, ⟨o2, ho2, hc2, n2, hd2⟩, _⟩ := I.tuple h2
    cases rw_
    refine SeqAt.eq_tupleAt (items := its.toArray) (items2 := #[]) (e := fun _ => true) ⟨o, ho, hc, n, hd⟩ ⟨o2, ho2, hc2, n2, hd2⟩ (by omega) (fun j h1 h2 => absurd h2 (by simp)) ?_
    refine ⟨.bl xs.isEmpty, H, I, ?_, k⟩
    cases rv with
    | nil => rfl
    | cons a t => simp [L2.RelV]
end Hv

namespace Hv
open PySem L2
/-- an if whose test is false -/
theorem join_no {tt : TT} {t v : TS} {D : Ends} {σ : L2.St} {H : Hp} (S : Hp → Prop) (h : ∀ Q' : Bool → Hp → Prop, (∀ b H', b = false → S H' → Q' b H') → tt σ H Q') (k : ∀ H', S H' → v D σ H') : tSeq (tIfS tt t tNext) v D σ H :=
  h (fun b H' => if b = true then t { D with nx := v D } σ H' else tNext { D with nx := v D } σ H') (by
    rintro _ H' rfl hs
    exact k H' hs)
/-- a promise that is not looked into -/
@[irreducible] def lk (sp : Sp) : Sp := sp
theorem lk_eq (sp : Sp) : lk sp = sp := by
  unfold lk
  rfl
theorem lk_in {sp : Sp} {vs : List V} {H : Hp} {Q : VK} {E : XK} (h : sp vs H Q E) : lk sp vs H Q E := by
  rw [lk_eq]
  exact h
theorem fn_lk {P : Program} {w : World} {K : PySem.W.Frag} {mg : Str → Option Value} {base : Heap} {CX : CXT} {k : Nat} {f : Addr} {fd : FuncData} {ps : List Str} {sp : Sp} (F : FnOk P w K mg base CX k f fd ps sp) : FnOk P w K mg base CX k f fd ps (lk sp) := by
  rw [lk_eq]
  exact F
end Hv

namespace Hv
open PySem PySem.Spec PyProof.Rows L2
abbrev tab0 : Obj := { cls := .none, data := .fields #[] }
/-- what may be tracked where the law begins -/
def Kept (K : PySem.W.Frag) (a : Addr) (cs : List (Addr × Addr)) (H : Hp) : Prop := ∀ b u, H b = some u → K.lookup b = none ∧ ((b ∈ cs.map (·.2) ∧ u = .tbl #[]) ∨ (b = a ∧ ∃ o xs, u = .frz o (.lst xs)))
theorem call_lawT {P : Program} {w : World} {K : PySem.W.Frag} {mg mb : Str → Option Value} {k : Nat} {fa a : Addr} {cs : List (Addr × Addr)} {fd : FuncData} {x : Str} {sp : Sp} {s : Shared} {vs : List Value} {ns : List Int}
    (KX : K.In s.heap) (gl : s.heap.Ns mainGlobals mg) (bl : s.heap.Ns builtinsNs mb) (hbb : ∀ x : Str, x ≠ "__name__" → mb x = bootBuiltins x) (lim : s.heap.NoLimit) (gens : s.gens = #[])
    (hT : ∀ p ∈ cs, s.heap.get? p.2 = some tab0) (nT : ∀ p ∈ cs, K.lookup p.2 = none) (cT : ∀ p ∈ cs, PySem.W.CodeHd s.heap p.1 p.2)
    (hbm : ∃ (bm : Addr) (ob : Obj), mg "__builtins__" = some (.ref bm) ∧ bm ≠ builtinsNs ∧ s.heap.get? bm = some ob ∧ ob.cls = .type "module" ∧ ob.dict = some builtinsNs ∧ ob.data = .plain)
    (ha : s.heap.get? a = some { cls := .type "list", data := .seq vs.toArray }) (hi : IntsAre vs ns) (hl : ns.length ≤ sizeLine) (hr : Room k callerA)
    (F : ∀ base : Heap, K.In base → base.Ns mainGlobals mg → (∀ p ∈ cs, LamX.TabB base mg p.1 p.2) → OkG P w K mg base CX0 k fa fd [x] sp) (bind : ∀ (s : Shared) (u : Value), BindsTo s fd ⟨[u], []⟩ [(x, u)])
    (hsp : ∀ H : Hp, (∀ p ∈ cs, H p.2 = some (.tbl #[])) → SqL K H a (ns.map V.int) → sp [.ref a] H (fun v _ => v = .bl true) fun _ _ _ => False) :
    codeAny (model P w) callerA (.call (.ref fa) ⟨[.ref a], []⟩) (fun r s' => r = .ok (.ret (.bool true)) ∧ OldK s.heap s'.heap ∧ s'.os = s.os ∧ AllBare s'.gens) s := by
  have rv := vals_ints hi
  have lenV := hi.length
  have isT : ∀ b ∈ cs.map (·.2), s.heap.get? b = some tab0 := fun b hb => by
    obtain ⟨p, hp, rfl⟩ := List.mem_map.mp hb
    exact hT p hp
  have isK : ∀ b ∈ cs.map (·.2), K.lookup b = none := fun b hb => by
    obtain ⟨p, hp, rfl⟩ := List.mem_map.mp hb
    exact nT p hp
  have inT : ∀ p ∈ cs, p.2 ∈ cs.map (·.2) := fun p hp => List.mem_map.mpr ⟨p, hp, rfl⟩
  have apart : a ∉ cs.map (·.2) := fun z => by
    have q := isT a z
    rw [ha] at q
    cases q
  have core : ∀ H : Hp, Kept K a cs H → (∀ p ∈ cs, H p.2 = some (.tbl #[])) → SqL K H a (ns.map V.int) → HOk P w H s.heap →
      codeAny (model P w) callerA (.call (.ref fa) ⟨[.ref a], []⟩) (fun r s' => r = .ok (.ret (.bool true)) ∧ OldK s.heap s'.heap ∧ s'.os = s.os ∧ AllBare s'.gens) s := by
    intro H kept hC hS ok
    have out : ∀ {b : Addr} {o : Obj}, s.heap.get? b = some o → (∀ vs n, o.data ≠ .seq vs n) → o.data ≠ .fields #[] → H b = none := by
      intro b o e n2 n3
      cases q : H b with
      | none => rfl
      | some u =>
        rcases (kept b u q).2 with ⟨z, _⟩ | ⟨rfl, _⟩
        · rw [isT b z] at e
          cases e
          exact absurd rfl n3
        · rw [ha] at e
          cases e
          exact absurd rfl (n2 _ _)
    have nsOut : ∀ {b : Addr} {m : Str → Option Value}, s.heap.Ns b m → (hidT s.heap H).Ns b m := by
      rintro b m ⟨o, es, ep, e, d, r⟩
      exact ⟨o, es, ep, hidT_get e (out e (fun _ _ z => by rw [d] at z; cases z) fun z => by rw [d] at z; cases z), d, r⟩
    have hKb : K.In (hidT s.heap H) := fun b o e => hidT_get (KX b o e) (by
      cases q : H b with
      | none => rfl
      | some u => rw [(kept b u q).1] at e; cases e)
    have hM : Mod K mg (hidT s.heap H) := by
      obtain ⟨mc, h1, h2⟩ := lim
      exact ⟨hKb, nsOut gl, ⟨mb, nsOut bl, hbb⟩, ⟨mc, nsOut h1, h2⟩⟩
    have TB : ∀ p ∈ cs, LamX.TabB (hidT s.heap H) mg p.1 p.2 := by
      intro p hp
      have e := hT p hp
      refine ⟨?_, ?_, ?_⟩
      · obtain ⟨o, us, file, tf, flags, tg, inF, text, tt, e1, r1, r2, r3, r4⟩ := cT p hp
        refine ⟨o, us, file, tf, flags, tg, inF, text, tt, hidT_get e1 (out e1 (fun _ _ z => by rw [r2] at z; cases z) fun z => ?_), r1, r2, r3, r4⟩
        rw [r2] at z
        cases z
        simp at r3
      · obtain ⟨bm, ob, b1, b2, b3, b4, b5, b6⟩ := hbm
        refine ⟨bm, ob, b1, b2, ?_, ?_, hidT_get b3 (out b3 (fun _ _ z => by rw [b6] at z; cases z) fun z => by rw [b6] at z; cases z), b4, b5, b6⟩
        · rintro rfl
          obtain ⟨o, es, ep, e', hd, _⟩ := gl
          rw [e'] at b3
          cases b3
          rw [hd] at b6
          cases b6
        · rintro rfl
          rw [e] at b3
          cases b3
          cases b6
      · intro z
        obtain ⟨o, es, ep, e', hd, _⟩ := gl
        rw [z, e] at e'
        cases e'
        cases hd
    have e0 : Env0 P w K mg (hidT s.heap H) callerA [] s H := by
      refine ⟨rfl, hM, fun b o e => of_hidT e, Nat.le_of_eq (hidT_size _ _), trivial, ?_, ok, .of_eq gens⟩
      intro b hb
      cases (show b ∈ ([] : List Addr) from hb)
    have go := (F _ hKb (nsOut gl) TB).run callerA [] s H ⟨[.ref a], []⟩ [.ref a] [.ref a] (fun v _ => v = .bl true) (fun _ _ _ => False) rfl hr e0 (bind s (.ref a)) (.cons rfl .nil) (hsp H hC hS)
    refine codeAny_mono go ?_
    intro r s' h
    match r, h with
    | .error e, h => exact (show False from h).elim
    | .ok .next, h => exact h.elim
    | .ok .brk, h => exact h.elim
    | .ok .cont, h => exact h.elim
    | .ok (.ret u), h =>
      obtain ⟨v, H', os, bare, un, ok', r', q⟩ := h
      cases (show v = .bl true from q)
      cases (show u = Value.bool true from r')
      have keep : ∀ b o, b ∉ cs.map (·.2) → s.heap.get? b = some o → s'.heap.get? b = some o := by
        intro b o nb e
        cases q : H b with
        | none => exact un.keep b o e q (by intro z; cases z) (by intro z; cases z)
        | some u =>
          rcases (kept b u q).2 with ⟨z, _⟩ | ⟨_, ob, xs, rfl⟩
          · exact absurd z nb
          · have k1 := (ok b _ q).1
            have k2 := (ok' b _ (un.frzs b ob _ q)).1
            rw [e] at k1
            cases k1
            exact k2
      have grown : ∀ p ∈ cs, ∃ more : Array Value, s'.heap.get? p.2 = some { cls := .none, data := .fields more } := by
        intro p hp
        obtain ⟨more, z⟩ := un.tbls p.2 #[] (hC p hp)
        exact ⟨_, ok' p.2 _ z⟩
      refine ⟨rfl, ⟨fun b o e => ?_, fun b o e => ?_⟩, os, bare⟩
      · by_cases hb : b ∈ cs.map (·.2)
        · obtain ⟨p, hp, rfl⟩ := List.mem_map.mp hb
          obtain ⟨more, hm⟩ := grown p hp
          rw [hT p hp] at e
          cases e
          refine .inr (.inl ⟨((cT p hp).tab (hT p hp)).isCodeTable, rfl, #[], more, rfl, ?_⟩)
          rw [Array.empty_append]
          exact hm
        · exact .inl (keep b o hb e)
      · by_cases hb : b ∈ cs.map (·.2)
        · obtain ⟨p, hp, rfl⟩ := List.mem_map.mp hb
          obtain ⟨more, hm⟩ := grown p hp
          exact ⟨_, hm⟩
        · exact ⟨o, keep b o hb e⟩
  let T0 : Hp := fun b => if b ∈ cs.map (·.2) then some (.tbl #[]) else none
  have t0 : ∀ b u, T0 b = some u → b ∈ cs.map (·.2) ∧ u = .tbl #[] := fun b u z => by
    by_cases hb : b ∈ cs.map (·.2)
    · exact ⟨hb, (Option.some.inj ((if_pos hb).symm.trans z)).symm⟩
    · have := (if_neg hb).symm.trans z
      cases this
  by_cases hk : K.lookup a = none
  · refine core (upd T0 a (.frz { cls := .type "list", data := .seq vs.toArray } (.lst (ns.map V.int)))) ?_ ?_ (.inl (.inr ⟨_, upd_same⟩)) ?_
    · intro b u z
      by_cases hb : b = a
      · subst hb
        rw [upd_same] at z
        cases z
        exact ⟨hk, .inr ⟨rfl, _, _, rfl⟩⟩
      · rw [upd_ne hb] at z
        obtain ⟨h1, h2⟩ := t0 b u z
        exact ⟨isK b h1, .inl ⟨h1, h2⟩⟩
    · intro p hp
      rw [upd_ne (fun z => apart (by rw [← z]; exact inT p hp))]
      exact if_pos (inT p hp)
    · intro b u z
      by_cases hb : b = a
      · subst hb
        rw [upd_same] at z
        cases z
        exact ⟨ha, by rw [List.length_map]; exact hl, vs, _, rv, ha⟩
      · rw [upd_ne hb] at z
        obtain ⟨h1, rfl⟩ := t0 b u z
        exact isT b h1
  · obtain ⟨o, ho⟩ := Option.ne_none_iff_exists'.mp hk
    have e := KX a o ho
    rw [ha] at e
    cases e
    refine core T0 (fun b u z => ⟨isK b (t0 b u z).1, .inl (t0 b u z)⟩) (fun p hp => if_pos (inT p hp)) (.inr ⟨_, vs.toArray, _, ho, rfl, rfl, rfl, ?_, ?_⟩) ?_
    · rw [List.size_toArray, lenV]
      exact hl
    · simpa using rv
    · intro b u z
      obtain ⟨h1, rfl⟩ := t0 b u z
      exact isT b h1
/-- the def named x, its code object at c and the table of that at P -/
structure TabAt (K : PySem.W.Frag) (mg : Str → Option Value) (h : Heap) (x : Str) (c P : Addr) : Prop where
  get : h.get? P = some tab0
  hd : PySem.W.CodeHd h c P
/-- what the top has left of a def that makes lambdas -/
def TabIn (K : PySem.W.Frag) (x : Str) (c P : Addr) : Prop := ∃ (f : Addr) (o : Obj) (fd : FuncData) (e : Value) (dd : Option Addr) (vs : Array Value) (sl : Array (Option Value)), PySem.W.nsIn K mainGlobals x = some (some (.ref f)) ∧ K.lookup f = some o ∧ o.data = .func fd ∧ fd.code = .ref c ∧
  K.lookup c = some ⟨e, dd, .fields vs, sl⟩ ∧ vs[11]? = some (.ref P) ∧ K.lookup P = none
theorem tabIn_mk {K : PySem.W.Frag} {x : Str} {c P f : Addr} {o : Obj} {fd : FuncData} {e : Value} {dd : Option Addr} {vs : Array Value} {sl : Array (Option Value)} (h1 : PySem.W.nsIn K mainGlobals x = some (some (.ref f))) (h2 : K.lookup f = some o) (h3 : o.data = .func fd) (h4 : fd.code = .ref c)
    (h5 : K.lookup c = some ⟨e, dd, .fields vs, sl⟩) (h6 : vs[11]? = some (.ref P)) (h7 : K.lookup P = none) : TabIn K x c P := ⟨f, o, fd, e, dd, vs, sl, h1, h2, h3, h4, h5, h6, h7⟩
theorem TabIn.out {K : PySem.W.Frag} {x : Str} {c P : Addr} (h : TabIn K x c P) : K.lookup P = none := by
  obtain ⟨_, _, _, _, _, _, _, _, _, _, _, _, _, h7⟩ := h
  exact h7
theorem TabIn.at {K : PySem.W.Frag} {x : Str} {c P : Addr} {q : Program} {loose : List Str} {mean : ExcName → Option Value} {mg mb : Str → Option Value} {h : Heap} (t : TabIn K x c P) (X : K.In h) (T : Top q loose mean mg mb h) (hrec : ((recsOf q).any fun e => e.name == x) = true) :
    h.get? P = some tab0 ∧ PySem.W.CodeHd h c P := by
  obtain ⟨f, o, fd, e, dd, vs, sl, k1, k2, k3, k4, k5, k6, _⟩ := t
  obtain ⟨d, hm, hn⟩ := List.any_eq_true.mp hrec
  obtain ⟨a', o', fd', c', P', h1, h2, h3, h4, h5, h6⟩ := T.tab d hm
  rw [beq_iff_eq.mp hn, PySem.W.mg_of X T.g k1] at h1
  cases h1
  have g1 := X _ _ k2
  rw [g1] at h2
  cases h2
  rw [k3] at h3
  cases h3
  rw [k4] at h4
  cases h4
  have hh := PySem.W.CodeHd.of h5 h6
  obtain ⟨⟨oc, vc, e1, _, e3, e4⟩, hP⟩ := h6
  have g2 := X _ _ k5
  rw [g2] at e1
  cases e1
  cases e3
  rw [k6] at e4
  cases e4
  exact ⟨hP, hh⟩
/-- the law's promise, with the tables cs of the defs xs -/
def LawT (l : PySem.W.OpenLaw) (w : World) (K : PySem.W.Frag) (k n : Nat) (x : Str) (mg : Str → Option Value) (fa : Addr) (xs : List Str) : Prop :=
  ∃ (fd : FuncData) (cs : List (Addr × Addr)) (sp : Sp), (∀ p ∈ cs, ∃ y ∈ xs, TabIn K y p.1 p.2) ∧ (∀ (s : Shared) (u : Value), BindsTo s fd ⟨[u], []⟩ [(x, u)]) ∧
    (∀ (H : Hp) (a : Addr) (ns : List Int), ns.length ≤ n → (∀ z ∈ ns, Builtin.Int.intBits z ≤ 1048576) → (∀ p ∈ cs, H p.2 = some (.tbl #[])) → SqL K H a (ns.map V.int) → sp [.ref a] H (fun v _ => v = .bl true) fun _ _ _ => False) ∧
    ∀ base : Heap, K.In base → base.Ns mainGlobals mg → (∀ p ∈ cs, LamX.TabB base mg p.1 p.2) → OkG l.prog w K mg base CX0 k fa fd [x] sp
theorem walkT {l : PySem.W.OpenLaw} {n k : Nat} {q : Program} {loose : List Str} {XP : (Str → Option Value) → Heap → Prop} {YP : World → Heap → Prop} {d : DefRec} {K : Params → PySem.W.Frag} {x : Str} (xs : List Str)
    (hn : l.most = some n) (hn2 : n ≤ sizeLine) (hdf : d.params.defaults = []) (hr : Room k callerA) (hrec : xs.all (fun y => (recsOf q).any fun e => e.name == y) = true) (hY : ∀ (w : World) (h : Heap), YP w h → (K w.params).In h)
    (F : ∀ (w : World) (mg : Str → Option Value) (fa : Addr) (h : Heap), (K w.params).In h → h.Ns mainGlobals mg → mg d.name = some (.ref fa) → LawT l w (K w.params) k n x mg fa xs) :
    PySem.W.WalkO q loose XP YP l.row.toRowW d [] (fun f vs => PySem.call f vs) := by
  refine Att.attach_callB hn hdf ?_
  intro w s₀ s₁ mg mb fa o pm cd doc a vs ns G Y ho hd hcd hmg hobj hints hlen hbits hg
  have X := hY w _ Y
  obtain ⟨fd, cs, sp, ht, hb, hsp, hF⟩ := F w mg fa _ X G.T.g hmg
  have tabs : ∀ p ∈ cs, s₁.heap.get? p.2 = some tab0 ∧ PySem.W.CodeHd s₁.heap p.1 p.2 := fun p hp => by
    obtain ⟨y, hy, t⟩ := ht p hp
    exact t.at X G.T (List.all_eq_true.mp hrec y hy)
  exact call_lawT X G.T.g G.T.b G.T.builtins G.T.nolimit hg (fun p hp => (tabs p hp).1) (fun p hp => (ht p hp).choose_spec.2.out) (fun p hp => (tabs p hp).2) G.T.bmain hobj hints (Nat.le_trans hlen hn2) hr hF hb fun H hC hS => hsp H a ns hlen hbits hC hS
end Hv

namespace L
open PySem L2 Hv
def top (i : Nat) : Stmt := PySem.Challenge.pw_heldvotes_k24_cuts_of_rules.main.body.getD i (.Pass ⟨0, 0, 0, 0⟩)
structure Txt (K : PySem.W.Frag) (mg : Str → Option Value) : Prop where
  ValueError : mg "ValueError" = none
  abs : mg "abs" = none
  all : mg "all" = none
  any : mg "any" = none
  bool : mg "bool" = none
  classmethod : mg "classmethod" = none
  divmod : mg "divmod" = none
  enumerate : mg "enumerate" = none
  int : mg "int" = none
  isinstance : mg "isinstance" = none
  len : mg "len" = none
  max : mg "max" = none
  min : mg "min" = none
  property : mg "property" = none
  range : mg "range" = none
  str : mg "str" = none
  tuple : mg "tuple" = none
  cMOST_KINDS : ∃ t, mg "MOST_KINDS" = some (.int (6) t)
  cMOST_TALKS : ∃ t, mg "MOST_TALKS" = some (.int (3) t)
  cMOST_TIMES : ∃ t, mg "MOST_TIMES" = some (.int (3) t)
  cMOST_AFTER : ∃ t, mg "MOST_AFTER" = some (.int (3) t)
  cMOST_NEEDS : ∃ t, mg "MOST_NEEDS" = some (.int (9) t)
  cMOST_PART : ∃ t, mg "MOST_PART" = some (.int (12) t)
  cDIGITS : ∃ t, mg "DIGITS" = some (.str "0123456789" t)
  cLETTERS : ∃ t, mg "LETTERS" = some (.str "abcdefghijklmnopqrstuvwxyz" t)
  cMARK : ∃ t, mg "MARK" = some (.str "over " t)
end L

namespace Hv
open PySem L2
abbrev text (n : Nat) : Str := Str.ofString (toString ((n : Nat) : Int))
def numOf (z : Str) (most : Nat) : Option Nat := (List.range (most + 1)).find? fun n => decide (text n = z)
def numV : Option Nat → V
  | some n => .int (n : Int)
  | none => .non
theorem text_int : ∀ n < 13, intText? (text n) = some (n : Int) := by decide +kernel
theorem text_len : ∀ m < 13, ∀ n < m + 1, 1 ≤ (text n).length ∧ (text n).length ≤ (text m).length := by decide +kernel
theorem text_digits : ∀ n < 13, ∀ c ∈ (text n).cps.toList, c ∈ (Str.ofString "0123456789").cps.toList := by decide +kernel
theorem text_short : ∀ m < 13, (text m).length ≤ 2 := by decide +kernel
theorem digits_in : ∀ c ∈ (Str.ofString "0123456789").cps.toList, 48 ≤ c ∧ c ≤ 57 := by decide +kernel
theorem numOf_some {z : Str} {m n : Nat} (h : numOf z m = some n) : n ≤ m ∧ text n = z := by
  unfold numOf at h
  have h1 := List.mem_of_find?_eq_some h
  have h2 := List.find?_some h
  exact ⟨by have := List.mem_range.mp h1; omega, of_decide_eq_true h2⟩
theorem numOf_of {z : Str} {m n : Nat} (hm : m ≤ 12) (hn : n ≤ m) (e : text n = z) : numOf z m = some n := by
  cases q : numOf z m with
  | none =>
    unfold numOf at q
    have := (List.find?_eq_none.mp q) n (List.mem_range.mpr (by omega))
    exact absurd (decide_eq_true e) this
  | some k =>
    obtain ⟨h1, h2⟩ := numOf_some q
    have a := text_int n (by omega)
    have b := text_int k (by omega)
    rw [e] at a
    rw [h2, a] at b
    have := Option.some.inj b
    rw [Int.ofNat.inj this]
theorem numOf_none {z : Str} {m : Nat} (h : ∀ n, n ≤ m → text n ≠ z) : numOf z m = none := by
  cases q : numOf z m with
  | none => rfl
  | some k => exact absurd (numOf_some q).2 (h k (numOf_some q).1)
/-- the signs are all digits: the text is a number's -/
theorem all_digits {z : Str} (h1 : 1 ≤ z.length) (h2 : z.length ≤ 2) (h : ∀ c ∈ z.cps.toList, c ∈ (Str.ofString "0123456789").cps.toList) : ∃ n : Nat, intText? z = some (n : Int) := by
  have e : z = SX.S z.cps.toList := by
    cases z
    rfl
  refine ⟨NumText.digitsVal z.cps.toList, ?_⟩
  rw [e]
  refine SX.int_S ?_ ?_ ?_
  · rw [List.all_eq_true]
    intro c hc
    have := digits_in c (h c (by simpa using hc))
    rw [Bool.and_eq_true, decide_eq_true_eq, decide_eq_true_eq]
    exact this
  · intro q
    have : z.cps.toList.length = 0 := by rw [q]; rfl
    have l : z.length = z.cps.toList.length := by
      show z.cps.size = _
      simp
    omega
  · have l : z.length = z.cps.toList.length := by
      show z.cps.size = _
      simp
    omega

abbrev MARK : Str := Str.ofString "over "
abbrev SLASH : Str := Str.ofString "/"
def isOver (z : Str) : Bool := Txt.startswith z MARK
def fracOf (z : Str) : Option (Nat × Nat) :=
  match Txt.split (Txt.removeprefix z MARK) SLASH with
  | [a, b] =>
    match numOf a 12, numOf b 12 with
    | some p, some q => if q < 1 ∨ 1 < Nat.gcd p q then none else if p + (if isOver z then 1 else 0) ≤ q then some (p, q) else none
    | _, _ => none
  | _ => none
theorem fracOf_le {z : Str} {p q : Nat} (h : fracOf z = some (p, q)) : p ≤ 12 ∧ q ≤ 12 ∧ 1 ≤ q ∧ p ≤ q ∧ Nat.gcd p q = 1 := by
  unfold fracOf at h
  split at h
  · rename_i a b _
    cases e1 : numOf a 12 with
    | none => rw [e1] at h; cases h
    | some p1 =>
      cases e2 : numOf b 12 with
      | none => rw [e1, e2] at h; cases h
      | some q1 =>
        rw [e1, e2] at h
        dsimp only at h
        have l1 := (numOf_some e1).1
        have l2 := (numOf_some e2).1
        by_cases c : q1 < 1 ∨ 1 < Nat.gcd p1 q1
        · rw [if_pos c] at h; cases h
        · rw [if_neg c] at h
          by_cases d : p1 + (if isOver z = true then 1 else 0) ≤ q1
          · rw [if_pos d] at h
            cases h
            have g : 0 < Nat.gcd p q := Nat.gcd_pos_of_pos_right _ (by omega)
            refine ⟨l1, l2, by omega, by omega, by omega⟩
          · rw [if_neg d] at h; cases h
  · cases h
/-- what fraction_of asks of a text's length -/
structure TextOk (z : Str) : Prop where
  own : z.length + 2 ≤ sizeLine
  cut : (Txt.removeprefix z MARK).length + 2 ≤ sizeLine
  part : ∀ p ∈ Txt.split (Txt.removeprefix z MARK) SLASH, p.length ≤ sizeLine
/-- whether p of w meet the bound z, which is a / b -/
def met (z : Str) (a b : Nat) (p w : Int) : Bool := if isOver z then decide (w * a < p * b) else decide (w * a ≤ p * b)

theorem fracOf_len {z : Str} (h : (Txt.split (Txt.removeprefix z MARK) SLASH).length ≠ 2) : fracOf z = none := by
  unfold fracOf
  split
  · rename_i e
    rw [e] at h
    exact absurd rfl h
  · rfl
theorem fracOf_two {z a b : Str} (e : Txt.split (Txt.removeprefix z MARK) SLASH = [a, b]) : fracOf z = match numOf a 12, numOf b 12 with
    | some p, some q => if q < 1 ∨ 1 < Nat.gcd p q then none else if p + (if isOver z then 1 else 0) ≤ q then some (p, q) else none
    | _, _ => none := by
  unfold fracOf
  rw [e]
theorem two_of {l : List Str} (h : l.length = 2) : ∃ a b, l = [a, b] := by
  match l, h with
  | [a, b], _ => exact ⟨a, b, rfl⟩
/-! promises -/
def sp_is_integer (K : PySem.W.Frag) : Sp := fun vs H Q _ => ∃ (v : V) (t : Value) (b1 b2 : Bool), vs = [v] ∧ TyX K H v t ∧ PySem.W.kitOne K t (.type "int") = some b1 ∧
  PySem.W.kitOne K t (.type "bool") = some b2 ∧ Q (.bl (b1 && !b2)) H
def sp_gcd : Sp := fun vs H Q _ => ∃ (a b : Nat), vs = [.int a, .int b] ∧ Q (.int (Nat.gcd a b : Nat)) H
def sp_number_of : Sp := fun vs H Q _ => ∃ (z : Str) (m : Nat), vs = [.str z, .int m] ∧ z.length ≤ sizeLine ∧ m ≤ 12 ∧ ∀ H', Same H H' → Q (numV (numOf z m)) H'
/-- of a text, or of another value -/
def sp_fraction_of (K : PySem.W.Frag) : Sp := fun vs H Q _ =>
  (∃ z : Str, vs = [.str z] ∧ TextOk z ∧ (fracOf z = none → ∀ H', Same H H' → Q .non H') ∧
    ∀ a b, fracOf z = some (a, b) → ∀ p H', H p = none → Same H H' → H' p = some (.tup [.int (a : Int), .int (b : Int)]) → Q (.ref p) H') ∨
  ∃ (v : V) (t : Value), vs = [v] ∧ TyX K H v t ∧ PySem.W.kitOne K t (.type "str") = some false ∧ Q .non H
def sp_is_bound (K : PySem.W.Frag) : Sp := fun vs H Q _ =>
  (∃ z : Str, vs = [.str z] ∧ TextOk z ∧ ∀ H', Same H H' → Q (.bl (fracOf z).isSome) H') ∨
  ∃ (v : V) (t : Value), vs = [v] ∧ TyX K H v t ∧ PySem.W.kitOne K t (.type "str") = some false ∧ Q (.bl false) H
def sp_bound_met : Sp := fun vs H Q _ => ∃ (z : Str) (a b : Nat) (p w : Int), vs = [.str z, .int p, .int w] ∧ TextOk z ∧ fracOf z = some (a, b) ∧ ∀ H', Same H H' → Q (.bl (met z a b p w)) H'
end Hv
namespace L
open PySem L2 Hv
variable {P : Program} {w : World} {K : PySem.W.Frag} {mg : Str → Option Value} {base : Heap}
abbrev s_is_integer : Stmt := top 22
abbrev N_is_integer : List Str := ["value"]
abbrev P_is_integer : List Str := ["value"]
theorem sc_is_integer : FnScope N_is_integer P_is_integer (defScope s_is_integer) := ⟨rfl, rfl, rfl, by decide +kernel, rfl, by decide +kernel, by decide +kernel⟩
theorem ok_is_integer {f : Addr} {fd : FuncData} (D : DefAt K mg "is_integer" s_is_integer P_is_integer f fd) (T : Txt K mg) : FnOk P w K mg base CX0 1 f fd P_is_integer (sp_is_integer K) := by
  refine D.fn.ok sc_is_integer (fun vs H Q E h => ?_) (fun cdv A outer s H vs Q E hr h => ?_)
  · obtain ⟨v, t, b1, b2, rfl, _⟩ := h
    rfl
  · obtain ⟨v, t, b1, b2, rfl, ty, k1, k2, ret⟩ := h
    refine ⟨_, (pss_one (ps_ret (pe_and (pe_callB call_isi (by rfl) T.isinstance (by decide +kernel) (pa_cons (pv 0) (pa_cons (pe_bltn (v := .ty "int") (u := .type "int") (by rfl) T.int (by decide +kernel) rfl) pa_nil))) (pe_one (pe_not (pe_callB call_isi (by rfl) T.isinstance (by decide +kernel) (pa_cons (pv 0) (pa_cons (pe_bltn (v := .ty "bool") (u := .type "bool") (by rfl) T.bool (by decide +kernel) rfl) pa_nil)))))))), ?_⟩
    refine ⟨_, rfl, _, _, _, _, _, rfl, .ty _, ty, k1, _, rfl, ?_⟩
    cases b1 with
    | true => exact iteT ⟨_, rfl, _, _, _, _, _, rfl, .ty _, ty, k2, _, rfl, ret⟩
    | false => exact iteF ret
abbrev s_common_divisor : Stmt := top 24
abbrev N_common_divisor : List Str := ["one", "other"]
abbrev P_common_divisor : List Str := ["one", "other"]
theorem sc_common_divisor : FnScope N_common_divisor P_common_divisor (defScope s_common_divisor) := ⟨rfl, rfl, rfl, by decide +kernel, rfl, by decide +kernel, by decide +kernel⟩
theorem ok_common_divisor {f : Addr} {fd : FuncData} (D : DefAt K mg "common_divisor" s_common_divisor P_common_divisor f fd) (T : Txt K mg) : FnOk P w K mg base CX0 1 f fd P_common_divisor sp_gcd := by
  refine D.fn.ok sc_common_divisor (fun vs H Q E h => ?_) (fun cdv A outer s H vs Q E hr h => ?_)
  · obtain ⟨a, b, rfl, _⟩ := h
    rfl
  · obtain ⟨a, b, rfl, ret⟩ := h
    refine ⟨_, (pss_cons (ps_while PassesOwn.never (pt_cmpR op_gt (pv 1) pe_int (nomark _))
      (pss_one (ps_par (i := 0) (j := 1) (by rfl) sc_common_divisor.nd rfl rfl (by decide) rfl rfl (pa_cons (pv 1) (pa_cons (pe_op op_mod (pe_callTy call_int1 (by rfl) T.int (by decide +kernel) (pa_cons (pv 0) pa_nil)) (pv 1)) pa_nil)) (by rfl))))
      (pss_one (ps_ret (pv 0)))), ?_⟩
    refine ⟨fun m σ' H' => ∃ x y : Nat, σ' = [some (.int (x : Int)), some (.int (y : Int))] ∧ Nat.gcd x y = Nat.gcd a b ∧ m = y ∧ H' = H, ⟨b, a, b, rfl, rfl, rfl, rfl⟩, ?_⟩
    rintro m σ' H' ⟨x, y, rfl, e, rfl, rfl⟩
    refine ⟨_, rfl, _, _, rfl, rfl, _, rfl, ?_⟩
    refine ite2 (fun hc => ?_) (fun hc => ?_)
    · have hy : 0 < m := by have := of_decide_eq_true hc; omega
      refine ⟨fun σ2 H2 => σ2 = [some (.int (m : Int)), some (.int ((x % m : Nat) : Int))] ∧ H2 = H', ?_, ?_⟩
      · rintro σ2 H2 ⟨rfl, rfl⟩
        refine ⟨x % m, Nat.mod_lt _ hy, m, x % m, rfl, ?_, rfl, rfl⟩
        rw [Nat.gcd_comm, ← Nat.gcd_rec, Nat.gcd_comm, e]
      · refine ⟨_, rfl, _, rfl, .inl ⟨_, rfl, _, rfl, _, _, rfl, rfl, ?_, _, _, rfl, ?_, rfl⟩⟩
        · show (0 : Int) < m
          omega
        · rfl
    · have hy : m = 0 := by
        have : ¬ (0 : Int) < (m : Int) := fun q => hc (decide_eq_true q)
        omega
      subst hy
      refine ⟨_, rfl, ?_⟩
      rw [Nat.gcd_zero_right] at e
      rw [e]
      exact ret
abbrev s_number_of : Stmt := top 25
abbrev N_number_of : List Str := ["word", "most", "number", "sign"]
abbrev P_number_of : List Str := ["word", "most"]
theorem sc_number_of : FnScope N_number_of P_number_of (defScope s_number_of) := ⟨rfl, rfl, rfl, by decide +kernel, rfl, by decide +kernel, by decide +kernel⟩
theorem ok_number_of {f : Addr} {fd : FuncData} (D : DefAt K mg "number_of" s_number_of P_number_of f fd) (T : Txt K mg) : FnOk P w K mg base CX0 1 f fd P_number_of sp_number_of := by
  refine D.fn.ok sc_number_of (fun vs H Q E h => ?_) (fun cdv A outer s H vs Q E hr h => ?_)
  · obtain ⟨z, m, rfl, _⟩ := h
    rfl
  · obtain ⟨z, m, rfl, hz, hm, ret⟩ := h
    refine ⟨_, (pss_cons (ps_if (PW.pt (pw_or (pt_not (pt_chain op_le op_le pe_int (pe_callB call_len_str (by rfl) T.len (by decide +kernel) (pa_cons (pv 0) pa_nil)) (pe_callB call_len_str (by rfl) T.len (by decide +kernel) (pa_cons (pe_callTy call_str_int (by rfl) T.str (by decide +kernel) (pa_cons (pv 1) pa_nil)) pa_nil)))) (pw_or1 (pt_val (pe_callB (cr_any rfl) (by rfl) T.any (by decide +kernel) (pa_cons (pe_lc (own := [("sign", 3)]) (g := gName 3) rfl sc_number_of.nd (pi_str (pv 0)) (blkOk_by (own := [("sign", 3)]) (N := N_number_of) (sc := defScope s_number_of) (by decide +kernel)) (fun _ _ _ _ _ => (pg_name (i := 3) sc_number_of.nd rfl (.inl rfl))) (fun _ _ _ _ _ => pts_nil) (fun _ _ _ _ _ => (pe_cmpR op_notIn_sign (pv 3) (pe_glob (v := .str "0123456789") rfl T.cDIGITS.choose_spec ⟨_, rfl⟩) (by rfl)))) pa_nil))))))
      (pss_one (ps_ret pe_non))
      pss_nil)
      (pss_cons (ps_asg (pe_callTy call_int_str (by rfl) T.int (by decide +kernel) (pa_cons (pv 0) pa_nil)) (pg_name (i := 2) sc_number_of.nd rfl (.inl rfl)))
      (pss_one (ps_ret (pe_ifExp (PW.pt (pw_and (pt_cmpR op_le (pv 2) (pv 1) (nomark _)) (pw_and1 (pt_cmpR op_eq (pe_callTy call_str_int (by rfl) T.str (by decide +kernel) (pa_cons (pv 2) pa_nil)) (pv 0) (nomark _))))) (pv 2) pe_non))))), ?_⟩
    have none_ : numOf z m = none → ∀ H', Same H H' → Q .non H' := fun e H' s => by
      have q := ret H' s
      rw [e] at q
      exact q
    refine ⟨_, rfl, _, rfl, hz, _, _, rfl, rfl, _, rfl, ?_⟩
    refine ite2 (fun hc => ?_) (fun hc => ?_)
    · have c1 : (1 : Int) ≤ z.length := of_decide_eq_true hc
      have lg : (m : Int).natAbs.log2 < 1920 := Nat.lt_of_le_of_lt (log2_mono (show (m : Int).natAbs ≤ 12 by omega)) (by decide)
      refine ⟨_, rfl, _, rfl, lg, _, rfl, ?_, _, _, rfl, rfl, _, rfl, ?_⟩
      · exact Nat.le_trans (text_short m (by omega)) (by decide)
      refine ite2 (fun hc2 => ?_) (fun hc2 => ?_)
      · -- the length does not fit
        refine none_ (numOf_none fun n hn e => ?_) _ (Same.refl H)
        have l := (text_len m (by omega) n (by omega)).2
        rw [e] at l
        have : ¬ ((z.length : Int) ≤ ((text m).length : Int)) := nT hc2
        omega
      · have c2 : (z.length : Int) ≤ ((text m).length : Int) := nF hc2
        have c3 := text_short m (by omega)
        refine ⟨_, rfl, _, rfl, fun L hL => ?_⟩
        refine lc_it walk_str (fun i H' => H' = upd H L (.lst ((z.cps.toList.take i).map fun c => V.bl (!decide (c ∈ (Str.ofString "0123456789").cps.toList))))) ?_ (fun _ _ _ _ => trivial) ?_ ?_
        · rfl
        · rintro i x H1 H2 hi rfl ⟨rfl, c, hc, rfl⟩
          refine ⟨rfl, _, rfl, c, _, rfl, rfl, _, upd_same, ?_, ?_⟩
          · rw [List.length_map, List.length_take]
            have : z.cps.toList.length = z.length := by
              show _ = z.cps.size
              simp
            have s2 : 2 < sizeLine := by decide
            omega
          · rw [upd_upd, List.take_succ]
            have e : z.cps.toList[i]? = some c := by simpa using hc
            rw [e, List.map_append]
            rfl
        · rintro H1 rfl
          have e : List.take z.cps.size z.cps.toList = z.cps.toList := List.take_of_length_le (by simp)
          rw [e]
          refine ⟨_, z.cps.toList.map fun c => !decide (c ∈ (Str.ofString "0123456789").cps.toList), rfl, SqL.of (by rw [upd_same, List.map_map]; rfl), _, rfl, ?_⟩
          refine ite2 (fun ha => ?_) (fun ha => ?_)
          · refine none_ (numOf_none fun n hn q => ?_) _ (same_new hL)
            rw [List.any_map, List.any_eq_true] at ha
            obtain ⟨c, hc, hd⟩ := ha
            have := text_digits n (by omega) c (by rw [q]; exact hc)
            exact nT (p := c ∈ (Str.ofString "0123456789").cps.toList) hd this
          · have dg : ∀ c ∈ z.cps.toList, c ∈ (Str.ofString "0123456789").cps.toList := by
              intro c hc
              by_cases q : c ∈ (Str.ofString "0123456789").cps.toList
              · exact q
              · exfalso
                apply ha
                rw [List.any_map, List.any_eq_true]
                exact ⟨c, hc, by show (!decide (c ∈ (Str.ofString "0123456789").cps.toList)) = true; rw [decide_eq_false q]; rfl⟩
            obtain ⟨n, hn⟩ := all_digits (by omega) (by omega) dg
            refine ⟨_, rfl, _, _, rfl, hn, by omega, _, rfl, _, rfl, _, _, rfl, rfl, _, rfl, ?_⟩
            have no : ¬ (n ≤ m ∧ text n = z) → numOf z m = none := fun q => numOf_none fun k hk e => q (by
              have a := text_int k (by omega)
              rw [e, hn] at a
              have b : n = k := by have := Option.some.inj a; omega
              rw [b]
              exact ⟨hk, e⟩)
            refine ite2 (fun h1 => ?_) (fun h1 => ?_)
            · have h1' : n ≤ m := by have := of_decide_eq_true h1; omega
              have lg : (n : Int).natAbs.log2 < 1920 := Nat.lt_of_le_of_lt (log2_mono (show (n : Int).natAbs ≤ 12 by omega)) (by decide)
              refine ⟨_, rfl, _, rfl, lg, _, rfl, rfl, _, rfl, ?_⟩
              refine ite2 (fun h2 => ?_) (fun h2 => ?_)
              · have h2' : text n = z := V.str.inj (of_decide_eq_true h2)
                refine ⟨_, rfl, ?_⟩
                have q := ret _ (same_new (o := .lst (z.cps.toList.map fun c => V.bl (!decide (c ∈ (Str.ofString "0123456789").cps.toList)))) hL)
                rw [numOf_of hm h1' h2'] at q
                exact q
              · refine none_ (no fun q => h2 (decide_eq_true ?_)) _ (same_new hL)
                rw [← q.2]
            · refine iteF (none_ (no fun q => h1 (decide_eq_true ?_)) _ (same_new hL))
              have := q.1
              omega
    · refine ⟨_, rfl, iteT (none_ (numOf_none fun n hn e => ?_) _ (Same.refl H))⟩
      have l := (text_len m (by omega) n (by omega)).1
      rw [e] at l
      have : ¬ ((1 : Int) ≤ (z.length : Int)) := dF hc
      omega
abbrev s_fraction_of : Stmt := top 28
abbrev N_fraction_of : List Str := ["bound", "words", "part", "whole"]
abbrev P_fraction_of : List Str := ["bound"]
theorem sc_fraction_of : FnScope N_fraction_of P_fraction_of (defScope s_fraction_of) := ⟨rfl, rfl, rfl, by decide +kernel, rfl, by decide +kernel, by decide +kernel⟩
theorem ok_fraction_of {f f1 f2 : Addr} {fd fd1 fd2 : FuncData} (D : DefAt K mg "fraction_of" s_fraction_of P_fraction_of f fd) (T : Txt K mg)
    (D_number_of : DefAt K mg "number_of" s_number_of P_number_of f1 fd1) (D_common_divisor : DefAt K mg "common_divisor" s_common_divisor P_common_divisor f2 fd2) :
    FnOk P w K mg base CX0 2 f fd P_fraction_of (sp_fraction_of K) := by
  have G_number_of : FnOk P w K mg base CX0 1 f1 fd1 P_number_of sp_number_of := ok_number_of D_number_of T
  have G_common_divisor : FnOk P w K mg base CX0 1 f2 fd2 P_common_divisor sp_gcd := ok_common_divisor D_common_divisor T
  refine D.fn.ok sc_fraction_of (fun vs H Q E h => ?_) (fun cdv A outer s H vs Q E hr h => ?_)
  · rcases h with ⟨z, rfl, _⟩ | ⟨v, t, rfl, _⟩ <;> rfl
  · refine ⟨_, (pss_cons (ps_if (pt_not (pt_val (pe_callB call_isi (by rfl) T.isinstance (by decide +kernel) (pa_cons (pv 0) (pa_cons (pe_bltn (v := .ty "str") (u := .type "str") (by rfl) T.str (by decide +kernel) rfl) pa_nil)))))
      (pss_one (ps_ret pe_non))
      pss_nil)
      (pss_cons (ps_asg (pe_split (pe_bm PySem.F.plainAttrs_str PySem.F.slot_str_removeprefix PySem.F.type_str_removeprefix mt_removeprefix (pv 0) (pa_cons (pe_glob (v := .str "over ") rfl T.cMARK.choose_spec ⟨_, rfl⟩) pa_nil)) pe_str) (pg_name (i := 1) sc_fraction_of.nd rfl (.inl rfl)))
      (pss_cons (ps_if (pt_cmpR op_ne (pe_callB call_len_seq (by rfl) T.len (by decide +kernel) (pa_cons (pv 1) pa_nil)) pe_int (nomark _))
      (pss_one (ps_ret pe_non))
      pss_nil)
      (pss_cons (ps_par (i := 2) (j := 3) (by rfl) sc_fraction_of.nd rfl rfl (by decide) rfl rfl (pa_cons (pe_call G_number_of (hr.mono (by decide)) rfl D_number_of.mg D_number_of.fn.kp D_number_of.bd .nil pass0 (pa_cons (pe_ix ix_list (pv 1) pe_int (fun _ _ => rfl)) (pa_cons (pe_glob (v := .int 12) rfl T.cMOST_PART.choose_spec ⟨_, rfl⟩) pa_nil))) (pa_cons (pe_call G_number_of (hr.mono (by decide)) rfl D_number_of.mg D_number_of.fn.kp D_number_of.bd .nil pass0 (pa_cons (pe_ix ix_list (pv 1) pe_int (fun _ _ => rfl)) (pa_cons (pe_glob (v := .int 12) rfl T.cMOST_PART.choose_spec ⟨_, rfl⟩) pa_nil))) pa_nil)) (by rfl))
      (pss_cons (ps_if (PW.pt (pw_or (pt_cmpR op_isN (pv 2) pe_non (nomark _)) (pw_or (pt_cmpR op_isN (pv 3) pe_non (nomark _)) (pw_or (pt_cmpR op_lt (pv 3) pe_int (nomark _)) (pw_or1 (pt_cmpR op_gt (pe_call G_common_divisor (hr.mono (by decide)) rfl D_common_divisor.mg D_common_divisor.fn.kp D_common_divisor.bd .nil pass0 (pa_cons (pv 2) (pa_cons (pv 3) pa_nil))) pe_int (nomark _)))))))
      (pss_one (ps_ret pe_non))
      pss_nil)
      (pss_one (ps_ret (pe_ifExp (pt_cmpR op_le (pe_op op_add (pv 2) (pe_ifExp (pt_val (pe_m1 PySem.F.slot_str_startswith PySem.F.type_str_startswith mt_startswith (pv 0) (pe_glob (v := .str "over ") rfl T.cMARK.choose_spec ⟨_, rfl⟩))) pe_int pe_int)) (pv 3) (nomark _)) (pe_tup (pa_cons (pv 2) (pa_cons (pv 3) pa_nil))) pe_non)))))))), ?_⟩
    rcases h with ⟨z, rfl, ok, rn, rs⟩ | ⟨v, t, rfl, ty, kit, ret⟩
    · refine ⟨_, rfl, _, _, _, _, _, rfl, .ty _, .base (.str z), kit_ty (r := true) (by decide +kernel), _, rfl, ?_⟩
      refine ⟨_, rfl, rfl, _, _, rfl, rfl, by have := ok.own; omega, ⟨_, rfl⟩, _, _, rfl, rfl, by decide, ok.cut, fun p hp => ?_⟩
      have hL := upd_same (H := H) (a := p) (o := .lst ((Txt.split (Txt.removeprefix z MARK) SLASH).map V.str))
      have sm : Same H (upd H p (.lst ((Txt.split (Txt.removeprefix z MARK) SLASH).map V.str))) := same_new hp
      refine ⟨_, rfl, _, _, rfl, .inl (SqL.of hL), rfl, _, rfl, ?_⟩
      refine ite2 (fun hc => ?_) (fun hc => ?_)
      · refine rn (fracOf_len fun q => nT hc ?_) _ sm
        rw [List.length_map, q]
        rfl
      · have l2 : (Txt.split (Txt.removeprefix z MARK) SLASH).length = 2 := by
          have := V.int.inj (nF hc)
          rw [List.length_map] at this
          omega
        obtain ⟨a, b, e⟩ := two_of l2
        have la : a.length ≤ sizeLine := ok.part a (by rw [e]; simp)
        have lb : b.length ≤ sizeLine := ok.part b (by rw [e]; simp)
        rw [e] at hL sm ⊢
        have fe := fracOf_two e
        refine ⟨_, rfl, _, _, _, _, rfl, rfl, SqL.of hL, rfl, a, 12, rfl, la, by decide, fun H1 s1 => ?_⟩
        refine ⟨_, rfl, _, _, _, _, rfl, rfl, SqL.of (s1 _ _ hL), rfl, b, 12, rfl, lb, by decide, fun H2 s2 => ⟨_, _, rfl, ?_⟩⟩
        have sm2 : Same H H2 := (sm.trans s1).trans s2
        cases e1 : numOf a 12 with
        | none =>
          rw [e1] at fe
          refine ⟨_, rfl, rfl, _, rfl, ?_⟩
          exact ifT rfl (rn fe _ sm2)
        | some x =>
          cases e2 : numOf b 12 with
          | none =>
            rw [e1, e2] at fe
            refine ⟨_, rfl, rfl, _, rfl, ?_⟩
            refine ifF (fun q => by cases q) ⟨_, rfl, rfl, _, rfl, ?_⟩
            exact ifT rfl (rn fe _ sm2)
          | some y =>
            rw [e1, e2] at fe
            dsimp only at fe
            refine ⟨_, rfl, rfl, _, rfl, ?_⟩
            refine ifF (fun q => by cases q) ⟨_, rfl, rfl, _, rfl, ?_⟩
            refine ifF (fun q => by cases q) ⟨_, rfl, _, _, rfl, rfl, _, rfl, ?_⟩
            by_cases y1 : y < 1
            · refine ifT (by omega) (rn ?_ _ sm2)
              rw [fe, if_pos (.inl y1)]
            · refine ifF (by omega) ⟨_, rfl, _, rfl, x, y, rfl, _, _, rfl, rfl, _, rfl, ?_⟩
              by_cases g : 1 < Nat.gcd x y
              · refine ifT (by omega) (rn ?_ _ sm2)
                rw [fe, if_pos (.inr g)]
              · refine ifF (by omega) ⟨_, rfl, _, rfl, ⟨_, rfl⟩, _, _, rfl, rfl, _, rfl, ?_⟩
                rw [if_neg (by omega)] at fe
                have fin : ∀ k : Nat, k = (if isOver z = true then 1 else 0) → ∀ i : Int, i = k → (if decide ((x : Int) + i ≤ (y : Int)) = true then
                    tTup (tCons (tVar 2) (tCons (tVar 3) tNil)) [some (V.str z), some (V.ref p), some (V.int (x : Int)), some (V.int (y : Int))] H2 Q
                    else Q .non H2) := by
                  intro k hk i hi
                  by_cases c : x + k ≤ y
                  · refine ifT (by omega) ⟨_, rfl, _, rfl, by show 2 ≤ sizeLine; decide, fun t ht => ?_⟩
                    rw [← hk, if_pos c] at fe
                    exact rs x y fe t _ (sm2.free ht) (sm2.trans (same_new ht)) upd_same
                  · refine ifF (by omega) (rn ?_ _ sm2)
                    rw [fe, ← hk, if_neg c]
                cases ov : isOver z with
                | true =>
                  have ov' : Txt.startswith z MARK = true := ov
                  rw [ov']
                  exact ⟨_, _, rfl, rfl, _, rfl, _, _, rfl, rfl, _, rfl, fin 1 (by rw [ov]; rfl) 1 rfl⟩
                | false =>
                  have ov' : Txt.startswith z MARK = false := ov
                  rw [ov']
                  exact ⟨_, _, rfl, rfl, _, rfl, _, _, rfl, rfl, _, rfl, fin 0 (by rw [ov]; rfl) 0 rfl⟩
    · exact ⟨_, rfl, _, _, _, _, _, rfl, .ty _, ty, kit, _, rfl, ret⟩
abbrev s_is_bound : Stmt := top 29
abbrev N_is_bound : List Str := ["value"]
abbrev P_is_bound : List Str := ["value"]
theorem sc_is_bound : FnScope N_is_bound P_is_bound (defScope s_is_bound) := ⟨rfl, rfl, rfl, by decide +kernel, rfl, by decide +kernel, by decide +kernel⟩
theorem ok_is_bound {f f1 : Addr} {fd fd1 : FuncData} (D : DefAt K mg "is_bound" s_is_bound P_is_bound f fd) (D_fraction_of : DefAt K mg "fraction_of" s_fraction_of P_fraction_of f1 fd1)
    (G_fraction_of : FnOk P w K mg base CX0 2 f1 fd1 P_fraction_of (sp_fraction_of K)) : FnOk P w K mg base CX0 3 f fd P_is_bound (sp_is_bound K) := by
  refine D.fn.ok sc_is_bound (fun vs H Q E h => ?_) (fun cdv A outer s H vs Q E hr h => ?_)
  · rcases h with ⟨z, rfl, _⟩ | ⟨v, t, rfl, _⟩ <;> rfl
  · refine ⟨_, (pss_one (ps_ret (pe_cmpR op_notN (pe_call G_fraction_of (hr.mono (by decide)) rfl D_fraction_of.mg D_fraction_of.fn.kp D_fraction_of.bd .nil pass0 (pa_cons (pv 0) pa_nil)) pe_non (nomark _)))), ?_⟩
    rcases h with ⟨z, rfl, ok, ret⟩ | ⟨v, t, rfl, ty, kit, ret⟩
    · refine ⟨_, rfl, .inl ⟨z, rfl, ok, fun e H' sm => ?_, fun a b e p H' hp sm h' => ?_⟩⟩
      · have q := ret H' sm
        rw [e] at q
        exact ⟨rfl, q⟩
      · have q := ret H' sm
        rw [e] at q
        exact ⟨rfl, q⟩
    · exact ⟨_, rfl, .inr ⟨v, t, rfl, ty, kit, rfl, ret⟩⟩
end L

namespace Hv
open PySem L2
theorem str_len (z : Str) : z.cps.toList.length = z.length := by
  show _ = z.cps.size
  simp
end Hv

namespace Hv
open PySem L2
abbrev LETS : Str := Str.ofString "abcdefghijklmnopqrstuvwxyz"
abbrev DIGS : Str := Str.ofString "0123456789"
def signOk (c : Nat) : Bool := decide (c ∈ LETS.cps.toList) || decide (c ∈ DIGS.cps.toList)
/-- a name: one to eight signs, a letter first -/
def nameOk (z : Str) : Bool := match z.cps.toList with
  | [] => false
  | c :: _ => decide (z.length ≤ 8) && decide (c ∈ LETS.cps.toList) && z.cps.toList.all signOk
theorem atI_zero {α : Type} (c : α) (cs : List α) : atI (c :: cs) 0 = some c := by
  have h : ¬ ((cs.length : Int) + 1 ≤ 0) := by omega
  simp [atI, ixN]
  try omega
/-- of a text, or of another value -/
def sp_is_name (K : PySem.W.Frag) : Sp := fun vs H Q _ =>
  (∃ z : Str, vs = [.str z] ∧ z.length ≤ sizeLine ∧ ∀ H', Same H H' → Q (.bl (nameOk z)) H') ∨
  ∃ (v : V) (t : Value), vs = [v] ∧ TyX K H v t ∧ PySem.W.kitOne K t (.type "str") = some false ∧ Q (.bl false) H
end Hv
namespace L
open PySem L2 Hv
variable {P : Program} {w : World} {K : PySem.W.Frag} {mg : Str → Option Value} {base : Heap}
abbrev s_is_name : Stmt := top 23
abbrev N_is_name : List Str := ["value", "sign"]
abbrev P_is_name : List Str := ["value"]
theorem sc_is_name : FnScope N_is_name P_is_name (defScope s_is_name) := ⟨rfl, rfl, rfl, by decide +kernel, rfl, by decide +kernel, by decide +kernel⟩
theorem ok_is_name {f : Addr} {fd : FuncData} (D : DefAt K mg "is_name" s_is_name P_is_name f fd) (T : Txt K mg) : FnOk P w K mg base CX0 1 f fd P_is_name (sp_is_name K) := by
  refine D.fn.ok sc_is_name (fun vs H Q E h => ?_) (fun cdv A outer s H vs Q E hr h => ?_)
  · rcases h with ⟨z, rfl, _⟩ | ⟨v, t, rfl, _⟩ <;> rfl
  · refine ⟨_, (pss_cons (ps_if (PW.pt (pw_or (pt_not (pt_val (pe_callB call_isi (by rfl) T.isinstance (by decide +kernel) (pa_cons (pv 0) (pa_cons (pe_bltn (v := .ty "str") (u := .type "str") (by rfl) T.str (by decide +kernel) rfl) pa_nil))))) (pw_or (pt_not (pt_chain op_le op_le pe_int (pe_callB call_len_str (by rfl) T.len (by decide +kernel) (pa_cons (pv 0) pa_nil)) pe_int)) (pw_or1 (pt_cmpR op_notIn_sign (pe_ix ix_str (pv 0) pe_int (fun _ _ => rfl)) (pe_glob (v := .str "abcdefghijklmnopqrstuvwxyz") rfl T.cLETTERS.choose_spec ⟨_, rfl⟩) (by rfl))))))
      (pss_one (ps_ret pe_bl))
      pss_nil)
      (pss_one (ps_ret (pe_callB (cr_all rfl) (by rfl) T.all (by decide +kernel) (pa_cons (pe_lc (own := [("sign", 1)]) (g := gName 1) rfl sc_is_name.nd (pi_str (pv 0)) (blkOk_by (own := [("sign", 1)]) (N := N_is_name) (sc := defScope s_is_name) (by decide +kernel)) (fun _ _ _ _ _ => (pg_name (i := 1) sc_is_name.nd rfl (.inl rfl))) (fun _ _ _ _ _ => pts_nil) (fun _ _ _ _ _ => (pe_or (pe_cmpR op_in_sign (pv 1) (pe_glob (v := .str "abcdefghijklmnopqrstuvwxyz") rfl T.cLETTERS.choose_spec ⟨_, rfl⟩) (by rfl)) (pe_one (pe_cmpR op_in_sign (pv 1) (pe_glob (v := .str "0123456789") rfl T.cDIGITS.choose_spec ⟨_, rfl⟩) (by rfl)))))) pa_nil))))), ?_⟩
    rcases h with ⟨z, rfl, hz, ret⟩ | ⟨v, t, rfl, ty, kit, ret⟩
    · refine ⟨_, rfl, _, _, _, _, _, rfl, .ty _, .base (.str z), kit_ty (r := true) (by decide +kernel), _, rfl, ?_⟩
      refine ⟨_, rfl, _, rfl, hz, _, _, rfl, rfl, _, rfl, ?_⟩
      have no : nameOk z = false → ∀ H', Same H H' → Q (.bl false) H' := fun e H' sm => by
        have q := ret H' sm
        rw [e] at q
        exact q
      refine ite2 (fun h1 => ?_) (fun h1 => ?_)
      · have h1' : (1 : Int) ≤ z.length := of_decide_eq_true h1
        refine ⟨_, _, rfl, rfl, _, rfl, ?_⟩
        have l := str_len z
        obtain ⟨c, cs, hc⟩ : ∃ c cs, z.cps.toList = c :: cs := by
          cases e : z.cps.toList with
          | nil => rw [e] at l; simp at l; omega
          | cons c cs => exact ⟨c, cs, rfl⟩
        have un : nameOk z = (decide (z.length ≤ 8) && decide (c ∈ LETS.cps.toList) && z.cps.toList.all signOk) := by
          unfold nameOk
          rw [hc]
        refine ite2 (fun h2 => ?_) (fun h2 => ?_)
        · refine no ?_ H (Same.refl H)
          have : ¬ ((z.length : Int) ≤ 8) := nT h2
          rw [un, decide_eq_false (by omega)]
          rfl
        · have h8 : (z.length : Int) ≤ 8 := nF h2
          refine ⟨_, rfl, _, _, c, rfl, rfl, hz, by rw [hc]; exact atI_zero c cs, c, _, rfl, rfl, _, rfl, ?_⟩
          refine ite2 (fun h3 => ?_) (fun h3 => ?_)
          · refine no ?_ H (Same.refl H)
            rw [un, decide_eq_false (nT h3), Bool.and_false, Bool.false_and]
          · have h3' : c ∈ LETS.cps.toList := nF h3
            refine ⟨_, rfl, _, rfl, fun L hL => ?_⟩
            refine lc_it walk_str (fun i H' => H' = upd H L (.lst ((z.cps.toList.take i).map fun c => V.bl (signOk c)))) ?_ (fun _ _ _ _ => trivial) ?_ ?_
            · rfl
            · rintro i x H1 H2 hi rfl ⟨rfl, c, hc, rfl⟩
              have step : ∀ b, b = signOk c → ∃ xs, upd H L (.lst ((z.cps.toList.take i).map fun c => V.bl (signOk c))) L = some (.lst xs) ∧ xs.length < sizeLine ∧
                  upd (upd H L (.lst ((z.cps.toList.take i).map fun c => V.bl (signOk c)))) L (.lst (xs ++ [V.bl b])) = upd H L (.lst ((z.cps.toList.take (i + 1)).map fun c => V.bl (signOk c))) := by
                rintro b rfl
                refine ⟨_, upd_same, ?_, ?_⟩
                · rw [List.length_map, List.length_take]
                  have s2 : 8 < sizeLine := by decide
                  omega
                · rw [upd_upd, List.take_succ]
                  have e : z.cps.toList[i]? = some c := by simpa using hc
                  rw [e, List.map_append]
                  rfl
              refine ⟨rfl, _, rfl, c, _, rfl, rfl, _, rfl, ?_⟩
              refine ite2 (fun q => ?_) (fun q => ?_)
              · exact step true (by unfold signOk; rw [q]; rfl)
              · exact ⟨_, rfl, c, _, rfl, rfl, step _ (by unfold signOk; rw [Bool.eq_false_iff.mpr q]; rfl)⟩
            · rintro H1 rfl
              have e : List.take z.cps.size z.cps.toList = z.cps.toList := List.take_of_length_le (by simp)
              rw [e]
              refine ⟨_, z.cps.toList.map signOk, rfl, SqL.of (by rw [upd_same, List.map_map]; rfl), ?_⟩
              have q := ret _ (same_new (o := .lst (z.cps.toList.map fun c => V.bl (signOk c))) hL)
              rw [un, decide_eq_true (show z.length ≤ 8 by omega), decide_eq_true h3', Bool.true_and, Bool.true_and] at q
              rw [List.all_map]
              exact q
      · refine ⟨_, rfl, iteT (no ?_ H (Same.refl H))⟩
        have : ¬ ((1 : Int) ≤ z.length) := dF h1
        have l := str_len z
        unfold nameOk
        cases e : z.cps.toList with
        | nil => rfl
        | cons c cs => rw [e] at l; simp at l; omega
    · exact ⟨_, rfl, _, _, _, _, _, rfl, .ty _, ty, kit, _, rfl, ret⟩
end L

namespace Hv
open PySem L2
def lineOf (a b : Nat) : List Str := if Nat.gcd a b = 1 then (text a ++ SLASH ++ text b) :: (if a < b then [MARK ++ text a ++ SLASH ++ text b] else []) else []
def inner (b n : Nat) : List Str := (List.range n).flatMap fun a => lineOf a b
def outer (n : Nat) : List Str := (List.range n).flatMap fun i => inner (i + 1) (i + 2)
def BL : List Str := outer 12
def sp_bounds : Sp := fun vs H Q _ => vs = [] ∧ ∀ p H', H p = none → Same H H' → H' p = some (.lst (BL.map V.str)) → Q (.ref p) H'
def okLine (z : Str) : Bool :=
  match fracOf z with
  | some (a, b) => decide (Txt.split (Txt.replace z MARK (Str.ofString "")) SLASH = [text a, text b]) && (Txt.startswith z (Str.ofString "over") == isOver z) && decide (z.length ≤ 20) &&
      decide ((Txt.removeprefix z MARK).length ≤ 20) && (Txt.split (Txt.removeprefix z MARK) SLASH).all (fun p => decide (p.length ≤ 20)) && decide ((Txt.replace z MARK (Str.ofString "")).length ≤ 20)
  | none => false
theorem BL_ok : BL.all okLine = true := by decide +kernel
theorem BL_len : BL.length = 93 := by decide +kernel
theorem sz20 {n : Nat} (h : n ≤ 20) : n + 2 ≤ sizeLine := by
  have : 22 ≤ sizeLine := by decide
  omega
structure Line (z : Str) (a b : Nat) : Prop where
  fr : fracOf z = some (a, b)
  sp : Txt.split (Txt.replace z MARK (Str.ofString "")) SLASH = [text a, text b]
  ov : Txt.startswith z (Str.ofString "over") = isOver z
  ok : TextOk z
  len : z.length ≤ 20
  rl : (Txt.replace z MARK (Str.ofString "")).length ≤ 20
theorem okLine_line {z : Str} (h : okLine z = true) : ∃ a b, Line z a b := by
  unfold okLine at h
  cases e : fracOf z with
  | none => rw [e] at h; cases h
  | some p =>
    obtain ⟨a, b⟩ := p
    rw [e] at h
    simp only [Bool.and_eq_true, decide_eq_true_eq, beq_iff_eq, List.all_eq_true] at h
    obtain ⟨⟨⟨⟨⟨h1, h2⟩, h3⟩, h4⟩, h5⟩, h6⟩ := h
    exact ⟨a, b, e, h1, h2, ⟨sz20 h3, sz20 h4, fun p hp => by have := sz20 (h5 p hp); omega⟩, h3, h6⟩
theorem line_of {z : Str} (h : z ∈ BL) : ∃ a b, Line z a b := okLine_line (List.all_eq_true.mp BL_ok z h)
end Hv

namespace Hv
open PySem L2
/-- a text that is a bound -/
def BT (z : Str) : Prop := TextOk z ∧ (fracOf z).isSome = true
def endsV : Option Str → V
  | none => .non
  | some z => .str z
/-- the parts of a kind -/
structure Kd where
  name : Str
  talks : Int
  needs : V
  closing : Option (Int × Str)
  ends : Option Str
def ClosAt (K : PySem.W.Frag) (H : Hp) : Option (Int × Str) → V → Prop
  | none, v => v = .non
  | some (i, z), v => ∃ a, v = .ref a ∧ H a = some (.tup [.int i, .str z])
structure Kd.Ok (k : Kd) : Prop where
  name : nameOk k.name = true
  len : k.name.length ≤ sizeLine
  talks : 0 ≤ k.talks ∧ k.talks ≤ 3
  needs : (∃ i, k.needs = .int i ∧ 1 ≤ i ∧ i ≤ 9) ∨ ∃ z, k.needs = .str z ∧ BT z
  closing : ∀ i z, k.closing = some (i, z) → 0 ≤ i ∧ i ≤ 3 ∧ BT z
  ends : ∀ z, k.ends = some z → BT z
def KindAt (K : PySem.W.Frag) (C : Addr) (H : Hp) (a : Addr) (k : Kd) : Prop :=
  ∃ dx pt cl, H a = some (.ins C dx [("parts", .ref pt)]) ∧ H pt = some (.tup [.str k.name, .int k.talks, k.needs, cl, endsV k.ends]) ∧ ClosAt K H k.closing cl
theorem ClosAt.same {K : PySem.W.Frag} {H H' : Hp} {c : Option (Int × Str)} {v : V} (h : ClosAt K H c v) (e : Same H H') : ClosAt K H' c v := by
  cases c with
  | none => exact h
  | some p =>
    obtain ⟨a, h1, h2⟩ := h
    exact ⟨a, h1, e _ _ h2⟩
theorem KindAt.same {K : PySem.W.Frag} {C : Addr} {H H' : Hp} {a : Addr} {k : Kd} (h : KindAt K C H a k) (e : Same H H') : KindAt K C H' a k := by
  obtain ⟨dx, pt, cl, h1, h2, h3⟩ := h
  exact ⟨dx, pt, cl, e _ _ h1, e _ _ h2, h3.same e⟩
/-! promises -/
def sp_is_needs (K : PySem.W.Frag) : Sp := fun vs H Q _ =>
  (∃ i : Int, vs = [.int i] ∧ Q (.bl (decide (1 ≤ i) && decide (i ≤ 9))) H) ∨
  (∃ z : Str, vs = [.str z] ∧ TextOk z ∧ ∀ H', Same H H' → Q (.bl (fracOf z).isSome) H') ∨
  ∃ (v : V) (t : Value) (b1 b2 : Bool), vs = [v] ∧ TyX K H v t ∧ PySem.W.kitOne K t (.type "str") = some false ∧ PySem.W.kitOne K t (.type "int") = some b1 ∧
    PySem.W.kitOne K t (.type "bool") = some b2 ∧ (b1 && !b2) = false ∧ Q (.bl false) H
def sp_is_closing (K : PySem.W.Frag) : Sp := fun vs H Q _ =>
  (vs = [.non] ∧ Q (.bl true) H) ∨
  (∃ (a : Addr) (i : Int) (z : Str), vs = [.ref a] ∧ H a = some (.tup [.int i, .str z]) ∧ TextOk z ∧ ∀ H', Same H H' → Q (.bl (decide (0 ≤ i) && decide (i ≤ 3) && (fracOf z).isSome)) H')
def sp_kind_init (K : PySem.W.Frag) (C : Addr) : Sp := fun vs H Q _ => ∃ (x dx : Addr) (k : Kd) (cl : V), vs = [.ref x, .str k.name, .int k.talks, k.needs, cl, endsV k.ends] ∧ k.Ok ∧ ClosAt K H k.closing cl ∧
  H x = some (.ins C dx []) ∧ H dx = some (.own x) ∧ dx ≠ x ∧ ∀ H', (∀ b o, b ≠ x → H b = some o → H' b = some o) → KindAt K C H' x k → Q .non H'
end Hv

namespace L
open PySem L2 Hv
variable {P : Program} {w : World} {K : PySem.W.Frag} {mg : Str → Option Value} {base : Heap}
abbrev s_is_needs : Stmt := top 31
abbrev N_is_needs : List Str := ["value"]
abbrev P_is_needs : List Str := ["value"]
theorem sc_is_needs : FnScope N_is_needs P_is_needs (defScope s_is_needs) := ⟨rfl, rfl, rfl, by decide +kernel, rfl, by decide +kernel, by decide +kernel⟩
theorem ok_is_needs {f f1 f2 : Addr} {fd fd1 fd2 : FuncData} (D : DefAt K mg "is_needs" s_is_needs P_is_needs f fd) (T : Txt K mg)
    (D_is_bound : DefAt K mg "is_bound" s_is_bound P_is_bound f1 fd1) (G_is_bound : FnOk P w K mg base CX0 3 f1 fd1 P_is_bound (sp_is_bound K))
    (D_is_integer : DefAt K mg "is_integer" s_is_integer P_is_integer f2 fd2) (G_is_integer : FnOk P w K mg base CX0 1 f2 fd2 P_is_integer (sp_is_integer K)) :
    FnOk P w K mg base CX0 4 f fd P_is_needs (sp_is_needs K) := by
  refine D.fn.ok sc_is_needs (fun vs H Q E h => ?_) (fun cdv A outer s H vs Q E hr h => ?_)
  · rcases h with ⟨z, rfl, _⟩ | ⟨v, rfl, _⟩ | ⟨v, t, b1, b2, rfl, _⟩ <;> rfl
  · refine ⟨_, (pss_one (ps_ret (pe_or (pe_call G_is_bound (hr.mono (by decide)) rfl D_is_bound.mg D_is_bound.fn.kp D_is_bound.bd .nil pass0 (pa_cons (pv 0) pa_nil)) (pe_one (pe_and (pe_call G_is_integer (hr.mono (by decide)) rfl D_is_integer.mg D_is_integer.fn.kp D_is_integer.bd .nil pass0 (pa_cons (pv 0) pa_nil)) (pe_one (pe_chain op_le op_le pe_int (pv 0) (pe_glob (v := .int 9) rfl T.cMOST_NEEDS.choose_spec ⟨_, rfl⟩)))))))), ?_⟩
    rcases h with ⟨i, rfl, ret⟩ | ⟨z, rfl, ok, ret⟩ | ⟨v, t, b1, b2, rfl, ty, ks, k1, k2, kb, ret⟩
    · refine ⟨_, rfl, .inr ⟨_, _, rfl, .base (.int _), kit_ty (r := false) (by decide +kernel), _, rfl, ?_⟩⟩
      refine iteF ⟨_, rfl, _, _, true, false, rfl, .base (.int _), kit_ty (by decide +kernel), kit_ty (by decide +kernel), _, rfl, ?_⟩
      refine iteT ⟨_, rfl, _, _, rfl, rfl, _, rfl, ?_⟩
      cases h1 : decide (1 ≤ i) with
      | true =>
        rw [h1] at ret
        exact iteT ⟨_, _, rfl, rfl, ret⟩
      | false =>
        rw [h1] at ret
        exact iteF ret
    · refine ⟨_, rfl, .inl ⟨z, rfl, ok, fun H1 s1 => ⟨_, rfl, ?_⟩⟩⟩
      have q := ret H1 s1
      cases h1 : (fracOf z).isSome with
      | true =>
        rw [h1] at q
        exact iteT q
      | false =>
        rw [h1] at q
        exact iteF ⟨_, rfl, _, _, false, false, rfl, .base (.str _), kit_ty (by decide +kernel), kit_ty (by decide +kernel), _, rfl, iteF q⟩
    · refine ⟨_, rfl, .inr ⟨_, _, rfl, ty, ks, _, rfl, ?_⟩⟩
      refine iteF ⟨_, rfl, _, _, b1, b2, rfl, ty, k1, k2, _, rfl, ?_⟩
      rw [kb]
      exact iteF ret
end L

namespace L
open PySem L2 Hv
variable {P : Program} {w : World} {K : PySem.W.Frag} {mg : Str → Option Value} {base : Heap}
abbrev s_is_closing : Stmt := top 32
abbrev N_is_closing : List Str := ["value"]
abbrev P_is_closing : List Str := ["value"]
theorem sc_is_closing : FnScope N_is_closing P_is_closing (defScope s_is_closing) := ⟨rfl, rfl, rfl, by decide +kernel, rfl, by decide +kernel, by decide +kernel⟩
theorem ok_is_closing {f f1 f2 : Addr} {fd fd1 fd2 : FuncData} (D : DefAt K mg "is_closing" s_is_closing P_is_closing f fd) (T : Txt K mg)
    (D_is_bound : DefAt K mg "is_bound" s_is_bound P_is_bound f1 fd1) (G_is_bound : FnOk P w K mg base CX0 3 f1 fd1 P_is_bound (sp_is_bound K))
    (D_is_integer : DefAt K mg "is_integer" s_is_integer P_is_integer f2 fd2) (G_is_integer : FnOk P w K mg base CX0 1 f2 fd2 P_is_integer (sp_is_integer K)) :
    FnOk P w K mg base CX0 4 f fd P_is_closing (sp_is_closing K) := by
  refine D.fn.ok sc_is_closing (fun vs H Q E h => ?_) (fun cdv A outer s H vs Q E hr h => ?_)
  · rcases h with ⟨rfl, _⟩ | ⟨a, i, z, rfl, _⟩ <;> rfl
  · refine ⟨_, (pss_cons (ps_if (pt_cmpR op_isN (pv 0) pe_non (nomark _))
      (pss_one (ps_ret pe_bl))
      pss_nil)
      (pss_cons (ps_if (PW.pt (pw_or (pt_not (pt_val (pe_callB call_isi (by rfl) T.isinstance (by decide +kernel) (pa_cons (pv 0) (pa_cons (pe_bltn (v := .ty "tuple") (u := .type "tuple") (by rfl) T.tuple (by decide +kernel) rfl) pa_nil))))) (pw_or1 (pt_cmpR op_ne (pe_callB call_len_seq (by rfl) T.len (by decide +kernel) (pa_cons (pv 0) pa_nil)) pe_int (nomark _)))))
      (pss_one (ps_ret pe_bl))
      pss_nil)
      (pss_one (ps_ret (pe_and (pe_call G_is_integer (hr.mono (by decide)) rfl D_is_integer.mg D_is_integer.fn.kp D_is_integer.bd .nil pass0 (pa_cons (pe_ix ix_tup (pv 0) pe_int (fun _ _ => rfl)) pa_nil)) (pe_and (pe_chain op_le op_le pe_int (pe_ix ix_tup (pv 0) pe_int (fun _ _ => rfl)) (pe_glob (v := .int 3) rfl T.cMOST_AFTER.choose_spec ⟨_, rfl⟩)) (pe_one (pe_call G_is_bound (hr.mono (by decide)) rfl D_is_bound.mg D_is_bound.fn.kp D_is_bound.bd .nil pass0 (pa_cons (pe_ix ix_tup (pv 0) pe_int (fun _ _ => rfl)) pa_nil))))))))), ?_⟩
    rcases h with ⟨rfl, ret⟩ | ⟨a, i, z, rfl, ha, ok, ret⟩
    · exact ⟨_, rfl, rfl, _, rfl, ifT rfl ret⟩
    · refine ⟨_, rfl, rfl, _, rfl, ifF (by intro q; cases q) ?_⟩
      refine ⟨_, rfl, _, _, _, _, _, rfl, .ty _, .base (.tup ha), kit_ty (r := true) (by decide +kernel), _, rfl, ?_⟩
      refine ⟨_, rfl, _, _, rfl, .inr (SqT.of ha), rfl, _, rfl, ?_⟩
      refine ite2 (fun q => absurd rfl (nT q)) (fun _ => ?_)
      refine ⟨_, rfl, _, _, _, _, rfl, rfl, SqT.of ha, rfl, _, _, true, false, rfl, .base (.int _), kit_ty (by decide +kernel), kit_ty (by decide +kernel), _, rfl, ?_⟩
      refine iteT ⟨_, rfl, _, _, _, _, rfl, rfl, SqT.of ha, rfl, _, _, rfl, rfl, _, rfl, ?_⟩
      cases h1 : decide (0 ≤ i) with
      | false =>
        have q := ret H (Same.refl H)
        rw [h1] at q
        exact iteF ⟨_, rfl, iteF q⟩
      | true =>
        refine iteT ⟨_, _, rfl, rfl, _, rfl, ?_⟩
        cases h2 : decide (i ≤ 3) with
        | false =>
          have q := ret H (Same.refl H)
          rw [h1, h2] at q
          exact iteF q
        | true =>
          refine iteT ⟨_, rfl, _, _, _, _, rfl, rfl, SqT.of ha, rfl, .inl ⟨z, rfl, ok, fun H1 s1 => ?_⟩⟩
          have q := ret H1 s1
          rw [h1, h2] at q
          exact q
abbrev s_Kind_init : Stmt := inClass (top 34) 0
abbrev N_Kind_init : List Str := ["self", "name", "talks", "needs", "closing", "ends"]
abbrev P_Kind_init : List Str := ["self", "name", "talks", "needs", "closing", "ends"]
theorem sc_Kind_init : FnScope N_Kind_init P_Kind_init (defScope s_Kind_init) := ⟨rfl, rfl, rfl, by decide +kernel, rfl, by decide +kernel, by decide +kernel⟩
theorem ok_Kind_init {C f f1 f2 f3 f4 f5 : Addr} {fd fd1 fd2 fd3 fd4 fd5 : FuncData} {kws : List (Str × V)} (D : FunD K "__init__" "Kind.__init__" (defArgs s_Kind_init) (defBody s_Kind_init) (defScope s_Kind_init) [] kws f fd) (T : Txt K mg) (c : Cls K C) (na : NoAttr K C "parts")
    (D_is_name : DefAt K mg "is_name" s_is_name P_is_name f1 fd1) (G_is_name : FnOk P w K mg base CX0 1 f1 fd1 P_is_name (sp_is_name K))
    (D_is_bound : DefAt K mg "is_bound" s_is_bound P_is_bound f2 fd2) (G_is_bound : FnOk P w K mg base CX0 3 f2 fd2 P_is_bound (sp_is_bound K))
    (D_is_integer : DefAt K mg "is_integer" s_is_integer P_is_integer f3 fd3) (G_is_integer : FnOk P w K mg base CX0 1 f3 fd3 P_is_integer (sp_is_integer K))
    (D_is_needs : DefAt K mg "is_needs" s_is_needs P_is_needs f4 fd4) (G_is_needs : FnOk P w K mg base CX0 4 f4 fd4 P_is_needs (sp_is_needs K))
    (D_is_closing : DefAt K mg "is_closing" s_is_closing P_is_closing f5 fd5) (G_is_closing : FnOk P w K mg base CX0 4 f5 fd5 P_is_closing (sp_is_closing K)) :
    FnOk P w K mg base CX0 5 f fd P_Kind_init (sp_kind_init K C) := by
  refine D.ok sc_Kind_init (fun vs H Q E h => ?_) (fun cdv A outer s H vs Q E hr h => ?_)
  · obtain ⟨x, dx, k, cl, rfl, _⟩ := h
    rfl
  · obtain ⟨x, dx, k, cl, rfl, ok, hcl, hx, hd, nd, ret⟩ := h
    refine ⟨_, (pss_cons (ps_if (pt_not (pt_val (pe_call G_is_name (hr.mono (by decide)) rfl D_is_name.mg D_is_name.fn.kp D_is_name.bd .nil pass0 (pa_cons (pv 1) pa_nil))))
      (pss_one ps_never)
      pss_nil)
      (pss_cons (ps_if (PW.pt (pw_or (pt_not (pt_val (pe_call G_is_integer (hr.mono (by decide)) rfl D_is_integer.mg D_is_integer.fn.kp D_is_integer.bd .nil pass0 (pa_cons (pv 2) pa_nil)))) (pw_or1 (pt_not (pt_chain op_le op_le pe_int (pv 2) (pe_glob (v := .int 3) rfl T.cMOST_TALKS.choose_spec ⟨_, rfl⟩))))))
      (pss_one ps_never)
      pss_nil)
      (pss_cons (ps_if (pt_not (pt_val (pe_call G_is_needs (hr.mono (by decide)) rfl D_is_needs.mg D_is_needs.fn.kp D_is_needs.bd .nil pass0 (pa_cons (pv 3) pa_nil))))
      (pss_one ps_never)
      pss_nil)
      (pss_cons (ps_if (pt_not (pt_val (pe_call G_is_closing (hr.mono (by decide)) rfl D_is_closing.mg D_is_closing.fn.kp D_is_closing.bd .nil pass0 (pa_cons (pv 4) pa_nil))))
      (pss_one ps_never)
      pss_nil)
      (pss_cons (ps_if (PW.pt (pw_and (pt_cmpR op_notN (pv 5) pe_non (nomark _)) (pw_and1 (pt_not (pt_val (pe_call G_is_bound (hr.mono (by decide)) rfl D_is_bound.mg D_is_bound.fn.kp D_is_bound.bd .nil pass0 (pa_cons (pv 5) pa_nil)))))))
      (pss_one ps_never)
      pss_nil)
      (pss_one (ps_fld (pv 0) (pe_tup (pa_cons (pv 1) (pa_cons (pv 2) (pa_cons (pv 3) (pa_cons (pv 4) (pa_cons (pv 5) pa_nil)))))) rfl))))))), ?_⟩
    refine join_ifs (fun b H' => b = false ∧ Same H H') (fun Q' fin => ?_) ?_
    · refine ⟨_, rfl, .inl ⟨k.name, rfl, ok.len, fun H1 s1 => ?_⟩⟩
      rw [ok.name]
      exact ⟨_, rfl, fin _ _ ⟨rfl, s1⟩⟩
    rintro _ H1 ⟨rfl, s1⟩
    dsimp only [tNext]
    refine join_ifs (fun b H' => b = false ∧ Same H H') (fun Q' fin => ?_) ?_
    · refine ⟨_, rfl, _, _, true, false, rfl, .base (.int _), kit_ty (by decide +kernel), kit_ty (by decide +kernel), _, rfl, ?_⟩
      refine ⟨_, rfl, _, _, rfl, rfl, _, rfl, ?_⟩
      refine ifT ok.talks.1 ⟨_, _, rfl, rfl, _, rfl, ?_⟩
      refine fin _ _ ⟨?_, s1⟩
      rw [decide_eq_true ok.talks.2]
      rfl
    rintro _ H2 ⟨rfl, s2⟩
    dsimp only [tNext]
    refine join_ifs (fun b H' => b = false ∧ Same H H') (fun Q' fin => ?_) ?_
    · rcases ok.needs with ⟨i, e, h1, h2⟩ | ⟨z, e, bt, bs⟩
      · refine ⟨_, rfl, .inl ⟨i, by rw [e]; rfl, _, rfl, fin _ _ ⟨?_, s2⟩⟩⟩
        rw [decide_eq_true h1, decide_eq_true h2]
        rfl
      · refine ⟨_, rfl, .inr (.inl ⟨z, by rw [e]; rfl, bt, fun H3 s3 => ⟨_, rfl, fin _ _ ⟨?_, s2.trans s3⟩⟩⟩)⟩
        rw [bs]
        rfl
    rintro _ H3 ⟨rfl, s3⟩
    dsimp only [tNext]
    refine join_ifs (fun b H' => b = false ∧ Same H H') (fun Q' fin => ?_) ?_
    · cases e : k.closing with
      | none =>
        rw [e] at hcl
        cases (show cl = .non from hcl)
        exact ⟨_, rfl, .inl ⟨rfl, _, rfl, fin _ _ ⟨rfl, s3⟩⟩⟩
      | some p =>
        obtain ⟨i, z⟩ := p
        rw [e] at hcl
        obtain ⟨a, rfl, ha⟩ := hcl
        obtain ⟨h1, h2, bt, bs⟩ := ok.closing i z e
        refine ⟨_, rfl, .inr ⟨a, i, z, rfl, s3 _ _ ha, bt, fun H4 s4 => ⟨_, rfl, fin _ _ ⟨?_, s3.trans s4⟩⟩⟩⟩
        rw [decide_eq_true h1, decide_eq_true h2, bs]
        rfl
    rintro _ H4 ⟨rfl, s4⟩
    dsimp only [tNext]
    refine join_ifs (fun b H' => b = false ∧ Same H H') (fun Q' fin => ?_) ?_
    · cases e : k.ends with
      | none => exact ⟨_, rfl, rfl, _, rfl, fin _ _ ⟨rfl, s4⟩⟩
      | some z =>
        obtain ⟨bt, bs⟩ := ok.ends z e
        refine ⟨_, rfl, rfl, _, rfl, ?_⟩
        refine ⟨_, rfl, .inl ⟨z, rfl, bt, fun H5 s5 => ⟨_, rfl, fin _ _ ⟨?_, s4.trans s5⟩⟩⟩⟩
        rw [bs]
        rfl
    rintro _ H5 ⟨rfl, s5⟩
    dsimp only [tNext]
    refine ⟨_, rfl, _, rfl, _, rfl, _, rfl, _, rfl, by show 5 ≤ sizeLine; decide, fun t ht => ?_⟩
    have tx : t ≠ x := (ne_of_none (s5 _ _ hx) ht).symm
    refine ⟨_, rfl, x, C, dx, [], rfl, same_new ht _ _ (s5 _ _ hx), c, na, by decide, ?_⟩
    refine ret _ (fun b o n e => ?_) ⟨dx, t, cl, upd_same, by rw [upd_ne tx, upd_same], ?_⟩
    · rw [upd_ne n]
      exact same_new ht _ _ (s5 _ _ e)
    · cases e : k.closing with
      | none =>
        rw [e] at hcl
        exact hcl
      | some p =>
        rw [e] at hcl
        obtain ⟨a, rfl, ha⟩ := hcl
        refine ⟨a, rfl, ?_⟩
        rw [upd_ne (fun q => by rw [q, hx] at ha; cases ha)]
        exact same_new ht _ _ (s5 _ _ ha)
end L

namespace Hv
open PySem L2
/-- where the draws come from -/
def Well (H : Hp) (b : Addr) : Prop := ∃ s c d : Int, H b = some (.lst [.int s, .int c, .int d]) ∧ 0 ≤ d ∧ Builtin.Int.intBits d ≤ 1048576
theorem Well.same {H H' : Hp} {b : Addr} (h : Well H b) (e : Same H H') : Well H' b := by
  obtain ⟨s, c, d, h1, h2⟩ := h
  exact ⟨s, c, d, e _ _ h1, h2⟩
theorem Well.put {H : Hp} {b p : Addr} {o : HO} (h : Well H b) (n : p ≠ b) : Well (upd H p o) b := by
  obtain ⟨s, c, d, h1, h2⟩ := h
  exact ⟨s, c, d, by rw [upd_ne n.symm]; exact h1, h2⟩
theorem Well.ne_none {H : Hp} {b p : Addr} (h : Well H b) (hp : H p = none) : p ≠ b := by
  obtain ⟨s, c, d, h1, _⟩ := h
  exact (ne_of_none h1 hp).symm
theorem Well.ne_tup {H : Hp} {b p : Addr} {xs : List V} (h : Well H b) (hp : H p = some (.tup xs)) : p ≠ b := by
  obtain ⟨s, c, d, h1, _⟩ := h
  exact ne_of hp h1 (by intro q; cases q)
def sp_well (K : PySem.W.Frag) : Sp := fun vs H Q _ => ∃ (a : Addr) (ns : List Int) (k : Int), vs = [.ref a, .int k] ∧ SqL K H a (ns.map V.int) ∧
  (∀ z ∈ ns, Builtin.Int.intBits z ≤ 1048576) ∧ ns.length ≤ 1000 ∧ 0 ≤ k ∧ k < 1000 ∧ ∀ (p : Addr) (H' : Hp), H p = none → Same H H' → Well H' p → Q (.ref p) H'
/-- a draw below m -/
def sp_draw : Sp := fun vs H Q _ => ∃ (b : Addr) (m : Int), vs = [.ref b, .int m] ∧ Well H b ∧ 0 < m ∧ m.natAbs < 2 ^ 1000 ∧
  ∀ (r : Int) (H' : Hp), But b H H' → Well H' b → 0 ≤ r → r < m → Q (.int r) H'
end Hv
namespace L
open PySem L2 Hv
variable {P : Program} {w : World} {K : PySem.W.Frag} {mg : Str → Option Value} {base : Heap}
abbrev s_draw : Stmt := top 55
abbrev N_draw : List Str := ["_law_well_here", "_law_many", "_law_digit", "_law_seed"]
abbrev P_draw : List Str := ["_law_well_here", "_law_many"]
theorem sc_draw : FnScope N_draw P_draw (defScope s_draw) := ⟨rfl, rfl, rfl, by decide +kernel, rfl, by decide +kernel, by decide +kernel⟩
theorem ok_draw {f : Addr} {fd : FuncData} (D : DefAt K mg "_law_draw" s_draw P_draw f fd) (T : Txt K mg) : FnOk P w K mg base CX0 1 f fd P_draw sp_draw := by
  refine D.fn.ok sc_draw (fun vs H Q E h => ?_) (fun cdv A outer s H vs Q E hr h => ?_)
  · obtain ⟨b, m, rfl, _⟩ := h
    rfl
  · obtain ⟨b, m, rfl, ⟨z, c, d, hb, d0, db⟩, m0, m1, ret⟩ := h
    refine ⟨_, (pss_cons (ps_if (pt_cmpR op_gt (pe_ix ix_list (pv 0) pe_int (fun _ _ => rfl)) pe_int (nomark _))
      (pss_cons (ps_asg (pe_callB call_divmodW (by rfl) T.divmod (by decide +kernel) (pa_cons (pe_ix ix_list (pv 0) pe_int (fun _ _ => rfl)) (pa_cons (pv 1) pa_nil))) (pg_tup (by rfl) (pgs_cons (pg_sub (pv 0) pe_int set_list) (pgs_cons (pg_name (i := 2) sc_draw.nd rfl (.inl rfl)) pgs_nil))))
      (pss_one (ps_ret (pv 2))))
      pss_nil)
      (pss_cons (ps_asg (pe_op op_add (pe_ix ix_list (pv 0) pe_int (fun _ _ => rfl)) pe_int) (pg_sub (pv 0) pe_int set_list))
      (pss_cons (ps_asg (pe_callTy call_int1 (by rfl) T.int (by decide +kernel) (pa_cons (pe_ix ix_list (pv 0) pe_int (fun _ _ => rfl)) pa_nil)) (pg_name (i := 3) sc_draw.nd rfl (.inl rfl)))
      (pss_cons (ps_asg (pe_op op_mod (pe_callTy call_int1 (by rfl) T.int (by decide +kernel) (pa_cons (pe_op op_add (pe_op op_add (pe_op op_mul (pv 3) pe_int) (pe_op op_mul (pe_ix ix_list (pv 0) pe_int (fun _ _ => rfl)) pe_int)) pe_int) pa_nil)) pe_int) (pg_sub (pv 0) pe_int set_list))
      (pss_one (ps_ret (pe_op op_mod (pe_callTy call_int1 (by rfl) T.int (by decide +kernel) (pa_cons (pe_op op_fdiv (pe_ix ix_list (pv 0) pe_int (fun _ _ => rfl)) pe_int) pa_nil)) (pv 1)))))))), ?_⟩
    refine ⟨_, rfl, _, _, _, _, rfl, rfl, SqL.of hb, rfl, _, _, rfl, rfl, _, rfl, ?_⟩
    refine ite2 (fun hc => ?_) (fun hc => ?_)
    · refine ⟨_, rfl, _, _, _, _, rfl, rfl, SqL.of hb, rfl, _, rfl, _, _, rfl, ⟨m0, pylong_no m1⟩, fun p hp => ?_⟩
      have np : b ≠ p := ne_of_none hb hp
      refine ⟨_, _, rfl, SqT.of upd_same, rfl, _, _, rfl, _, rfl, _, _, _, _, rfl, rfl, (upd_ne np).trans hb, rfl, _, _, rfl, rfl, _, rfl, ?_⟩
      refine ret _ _ ((But.refl.new hp).put) ⟨_, _, _, upd_same, ?_, bits_div d0 m0 db⟩ (Int.emod_nonneg _ (by omega)) (Int.emod_lt_of_pos _ m0)
      exact Int.ediv_nonneg d0 (by omega)
    · refine ⟨_, rfl, _, _, _, _, rfl, rfl, SqL.of hb, rfl, _, _, rfl, rfl, _, rfl, _, _, _, _, rfl, rfl, hb, rfl, ?_⟩
      have hb1 := upd_same (H := H) (a := b) (o := .lst (List.set [.int z, .int c, .int d] 1 (.int (c + 1))))
      refine ⟨_, rfl, _, _, _, _, rfl, rfl, SqL.of hb1, rfl, .inl ⟨_, rfl, ?_⟩⟩
      refine ⟨_, rfl, _, _, rfl, rfl, .inr ⟨by decide, by decide⟩, _, rfl, _, _, _, _, rfl, rfl, SqL.of hb1, rfl, _, _, rfl, rfl, .inr ⟨by decide, by decide⟩, _, _, rfl, rfl, _, _, rfl, rfl, .inl ⟨_, rfl, _, _, rfl, rfl, (by show (0 : Int) < _; decide), _, rfl, _, _, _, _, rfl, rfl, hb1, rfl, ?_⟩⟩
      rw [upd_upd]
      refine ⟨_, rfl, _, _, _, _, rfl, rfl, SqL.of upd_same, rfl, _, _, rfl, rfl, ⟨by decide, by decide⟩, .inl ⟨_, rfl, _, rfl, _, _, rfl, rfl, m0, ?_⟩⟩
      exact ret _ _ But.refl.put ⟨_, _, _, upd_same, d0, db⟩ (Int.emod_nonneg _ (by omega)) (Int.emod_lt_of_pos _ m0)
abbrev s_well : Stmt := top 54
abbrev N_well : List Str := ["_law_script", "_law_spot", "_law_state", "_law_cell", "_law_own"]
abbrev P_well : List Str := ["_law_script", "_law_spot"]
theorem sc_well : FnScope N_well P_well (defScope s_well) := ⟨rfl, rfl, rfl, by decide +kernel, rfl, by decide +kernel, by decide +kernel⟩
theorem ok_well {f : Addr} {fd : FuncData} (D : DefAt K mg "_law_well" s_well P_well f fd) (T : Txt K mg) : FnOk P w K mg base CX0 1 f fd P_well (sp_well K) := by
  refine D.fn.ok sc_well (fun vs H Q E h => ?_) (fun cdv A outer s H vs Q E hr h => ?_)
  · obtain ⟨a, ns, k, rfl, _⟩ := h
    rfl
  · obtain ⟨a, ns, k, rfl, hS, bits, hl, k0, k1, ret⟩ := h
    refine ⟨_, (pss_cons (ps_asg (pe_op op_add pe_int (pe_op op_mul pe_int (pv 1))) (pg_name (i := 2) sc_well.nd rfl (.inl rfl)))
      (pss_cons (ps_for PassesOwn.never rfl (pi_list (pe_op op_cat (pe_slice sl_list (pv 0) po_none (po_some pe_int)) (pe_slice sl_list (pv 0) (po_some (pv 1)) (po_some (pe_op op_add (pv 1) pe_int))))) (pg_name (i := 3) sc_well.nd rfl (.inl rfl))
      (pss_one (ps_asg (pe_op op_mod (pe_callTy call_int1 (by rfl) T.int (by decide +kernel) (pa_cons (pe_op op_add (pe_op op_add (pe_op op_mul (pv 2) pe_int) (pv 3)) pe_int) pa_nil)) pe_int) (pg_name (i := 2) sc_well.nd rfl (.inl rfl)))))
      (pss_cons (ps_asg (pe_ifExp (pt_cmpR op_lt (pv 1) (pe_callB call_len_seq (by rfl) T.len (by decide +kernel) (pa_cons (pv 0) pa_nil)) (nomark _)) (pe_ix ix_list (pv 0) (pv 1) (fun _ _ => rfl)) pe_int) (pg_name (i := 4) sc_well.nd rfl (.inl rfl)))
      (pss_one (ps_ret (pe_lst (pa_cons (pv 2) (pa_cons pe_int (pa_cons (pe_ifExp (pt_cmpR op_ge (pe_callB call_abs (by rfl) T.abs (by decide +kernel) (pa_cons (pv 4) pa_nil)) (pe_op op_pow pe_int pe_int) (nomark _)) (pe_callB call_abs (by rfl) T.abs (by decide +kernel) (pa_cons (pv 4) pa_nil)) pe_int) pa_nil))))))))), ?_⟩
    refine ⟨_, rfl, _, _, rfl, rfl, .inl ⟨by decide, by decide⟩, _, _, rfl, rfl, ?_⟩
    refine ⟨_, rfl, _, rfl, _, _, rfl, hS, fun p hp => ?_⟩
    have s1 := same_new (o := .lst (cutV (ns.map V.int) none (some 4))) hp
    refine ⟨_, rfl, _, rfl, _, rfl, _, rfl, _, _, rfl, rfl, _, rfl, _, _, rfl, s1.seq hS, fun q hq => ?_⟩
    have s2 := s1.trans (same_new (o := .lst (cutV (ns.map V.int) (some k) (some (k + 1)))) hq)
    have lc : ∀ (lo hi : Option Int), (cutV (ns.map V.int) lo hi).length ≤ 1000 := fun lo hi => Nat.le_trans (cutV_length _ _ _) (by rw [List.length_map]; exact hl)
    have sz : ∀ n : Nat, n ≤ 2000 → n ≤ sizeLine := fun n hn => Nat.le_trans hn (by decide)
    have inZ : ∀ (lo hi : Option Int), ∀ x ∈ cutV (ns.map V.int) lo hi, ∃ n : Int, x = .int n := fun lo hi x hx => by
      obtain ⟨n, _, rfl⟩ := List.mem_map.mp (List.mem_of_mem_drop (List.mem_of_mem_take hx))
      exact ⟨n, rfl⟩
    have l1 := lc none (some 4)
    have l2 := lc (some k) (some (k + 1))
    refine ⟨_, _, _, _, rfl, rfl, same_new hq _ _ upd_same, upd_same, sz _ (by omega), fun r hr0 => ?_⟩
    have s3 := s2.trans (same_new (o := .lst (cutV (ns.map V.int) none (some 4) ++ cutV (ns.map V.int) (some k) (some (k + 1)))) hr0)
    refine ⟨r, rfl, ⟨_, SqL.of upd_same⟩, for_list (K := K) (a := r) (xs := cutV (ns.map V.int) none (some 4) ++ cutV (ns.map V.int) (some k) (some (k + 1))) (fun i σ' H' => ∃ (z : Int) (v : Option V), σ' = [some (.ref a), some (.int k), some (.int z), v, none] ∧
      H' r = some (.lst (cutV (ns.map V.int) none (some 4) ++ cutV (ns.map V.int) (some k) (some (k + 1)))) ∧ Same H H') ⟨_, none, rfl, upd_same, s3⟩ ?_ ?_ ?_⟩
    · rintro i σ' H' _ ⟨z, v, _, h, _⟩
      exact SqL.of h
    · rintro i x σ' H' hx ⟨z, v, rfl, h, sm⟩
      obtain ⟨n, rfl⟩ : ∃ n : Int, x = .int n := by
        rcases List.mem_append.mp (List.mem_of_getElem? hx) with q | q
        · exact inZ _ _ _ q
        · exact inZ _ _ _ q
      refine ⟨_, rfl, _, _, rfl, rfl, .inr ⟨by decide, by decide⟩, _, rfl, _, _, rfl, rfl, _, _, rfl, rfl, .inl ⟨_, rfl, _, _, rfl, rfl, (by show (0 : Int) < _; decide), ?_⟩⟩
      exact ⟨_, _, rfl, h, sm⟩
    · rintro σ' H' ⟨z, v, rfl, h, sm⟩
      dsimp only [tSeq]
      refine join_asg (fun x H1 => ∃ n : Int, x = .int n ∧ Builtin.Int.intBits n ≤ 1048576 ∧ H1 = H') (fun Q' fin => ?_) ?_
      · refine ⟨_, rfl, _, rfl, _, _, rfl, .inl (sm.seq hS), _, _, rfl, rfl, _, rfl, ?_⟩
        refine ite2 (fun hc => ?_) (fun hc => ?_)
        · have hlt : k < ns.length := by simpa using hc
          obtain ⟨j, rfl⟩ := Int.eq_ofNat_of_zero_le k0
          have hj : j < ns.length := by omega
          have hat : (ns.map V.int)[j]? = some (.int ns[j]) := by simp [hj]
          exact ⟨_, rfl, _, rfl, _, _, _, _, rfl, rfl, sm.seq hS, atI_nat hat, fin _ _ ⟨_, rfl, bits _ (List.getElem_mem _), rfl⟩⟩
        · exact fin _ _ ⟨_, rfl, by decide, rfl⟩
      rintro x H1 ⟨n, rfl, nb, rfl⟩
      have fin : ∀ d : Int, 0 ≤ d → Builtin.Int.intBits d ≤ 1048576 → ∀ p, H1 p = none → Q (.ref p) (upd H1 p (.lst [.int z, .int 0, .int d])) := fun d d0 d1 p hp =>
        ret p _ (sm.free hp) (sm.trans (same_new hp)) ⟨z, 0, d, upd_same, d0, d1⟩
      refine ⟨_, rfl, _, rfl, _, rfl, _, _, rfl, rfl, ⟨by decide, by decide, by decide⟩, _, _, rfl, rfl, _, rfl, ?_⟩
      refine ite2 (fun hc => ?_) (fun hc => ?_)
      · refine ⟨_, rfl, _, rfl, (by show 3 ≤ sizeLine; decide), fun p hp => fin _ ?_ (Nat.le_trans (bits_mono ?_) nb) p hp⟩
        · split <;> omega
        · split <;> omega
      · exact ⟨(by show 3 ≤ sizeLine; decide), fun p hp => fin 0 (by decide) (by decide) p hp⟩
end L

namespace Hv
open PySem L2
/-- a bound: whether it is "more than", part, whole -/
structure Bd where
  o : Bool
  p : Nat
  q : Nat
structure Bd.Ok (b : Bd) : Prop where
  q1 : 1 ≤ b.q
  q12 : b.q ≤ 12
  pq : b.p ≤ b.q
  gc : Nat.gcd b.p b.q = 1
  ov : b.o = true → b.p < b.q
def Bd.txt (b : Bd) : Str := (if b.o then MARK else Str.ofString "") ++ text b.p ++ SLASH ++ text b.q
def BdAt (H : Hp) (v : V) (b : Bd) : Prop := b.Ok ∧ ∃ a, v = .ref a ∧ H a = some (.tup [.bl b.o, .int b.p, .int b.q])
theorem BdAt.same {H H' : Hp} {v : V} {b : Bd} (h : BdAt H v b) (e : Same H H') : BdAt H' v b := by
  obtain ⟨k, a, h1, h2⟩ := h
  exact ⟨k, a, h1, e _ _ h2⟩
theorem BdAt.but {H H' : Hp} {w : Addr} {v : V} {b : Bd} (h : BdAt H v b) (hw : Well H w) (e : But w H H') : BdAt H' v b := by
  obtain ⟨k, a, h1, h2⟩ := h
  exact ⟨k, a, h1, e _ _ (hw.ne_tup h2) h2⟩
def bdTab : Bool := (List.range 13).all fun q => (List.range 13).all fun p => [true, false].all fun o => !(decide (1 ≤ q) && decide (p ≤ q) && Nat.gcd p q == 1 && (!o || decide (p < q))) || (fracOf (Bd.txt ⟨o, p, q⟩) == some (p, q) && isOver (Bd.txt ⟨o, p, q⟩) == o && decide (Bd.txt ⟨o, p, q⟩ ∈ BL))
theorem bdTab_ok : bdTab = true := by decide +kernel
theorem Bd.facts {b : Bd} (h : b.Ok) : fracOf b.txt = some (b.p, b.q) ∧ isOver b.txt = b.o ∧ b.txt ∈ BL := by
  obtain ⟨o, p, q⟩ := b
  obtain ⟨h1, h2, h3, h4, h5⟩ := h
  have k := bdTab_ok
  unfold bdTab at k
  dsimp only at h1 h2 h3 h4 h5
  have k := List.all_eq_true.mp (List.all_eq_true.mp (List.all_eq_true.mp k q (List.mem_range.mpr (by omega))) p (List.mem_range.mpr (by omega))) o (by cases o <;> simp)
  rw [decide_eq_true h1, decide_eq_true h3, h4] at k
  have k2 : (!o || decide (p < q)) = true := by
    cases o with
    | false => rfl
    | true => rw [decide_eq_true (h5 rfl)]; rfl
  rw [k2] at k
  simp only [BEq.rfl, Bool.and_self, Bool.not_true, Bool.false_or, Bool.and_eq_true, beq_iff_eq, decide_eq_true_eq] at k
  exact ⟨k.1.1, k.1.2, k.2⟩
theorem Bd.bt {b : Bd} (h : b.Ok) : BT b.txt := by
  obtain ⟨a, c, l⟩ := line_of (Bd.facts h).2.2
  exact ⟨l.ok, by rw [l.fr]; rfl⟩
theorem Bd.len {b : Bd} (h : b.Ok) : b.txt.length ≤ 20 := by
  obtain ⟨a, c, l⟩ := line_of (Bd.facts h).2.2
  exact l.len
def sp_wbound : Sp := fun vs H Q _ => ∃ (w : Addr), vs = [.ref w] ∧ Well H w ∧ ∀ (v : V) (b : Bd) (H' : Hp), But w H H' → Well H' w → BdAt H' v b → Q v H'
def sp_wbtext : Sp := fun vs H Q _ => ∃ (v : V) (b : Bd), vs = [v] ∧ BdAt H v b ∧ Q (.str b.txt) H
end Hv
namespace L
open PySem L2 Hv
variable {P : Program} {w : World} {K : PySem.W.Frag} {mg : Str → Option Value} {base : Heap}
abbrev s_common : Stmt := top 56
abbrev N_common : List Str := ["_law_big", "_law_small"]
abbrev P_common : List Str := ["_law_big", "_law_small"]
theorem sc_common : FnScope N_common P_common (defScope s_common) := ⟨rfl, rfl, rfl, by decide +kernel, rfl, by decide +kernel, by decide +kernel⟩
theorem ok_common {f : Addr} {fd : FuncData} (D : DefAt K mg "_law_common" s_common P_common f fd) (T : Txt K mg) : FnOk P w K mg base CX0 1 f fd P_common sp_gcd := by
  refine D.fn.ok sc_common (fun vs H Q E h => ?_) (fun cdv A outer s H vs Q E hr h => ?_)
  · obtain ⟨a, b, rfl, _⟩ := h
    rfl
  · obtain ⟨a, b, rfl, ret⟩ := h
    refine ⟨_, (pss_cons (ps_while PassesOwn.never (pt_cmpR op_gt (pv 1) pe_int (nomark _))
      (pss_one (ps_par (i := 0) (j := 1) (by rfl) sc_common.nd rfl rfl (by decide) rfl rfl (pa_cons (pv 1) (pa_cons (pe_op op_mod (pe_callTy call_int1 (by rfl) T.int (by decide +kernel) (pa_cons (pv 0) pa_nil)) (pv 1)) pa_nil)) (by rfl))))
      (pss_one (ps_ret (pv 0)))), ?_⟩
    refine ⟨fun m σ' H' => ∃ x y : Nat, σ' = [some (.int (x : Int)), some (.int (y : Int))] ∧ Nat.gcd x y = Nat.gcd a b ∧ m = y ∧ H' = H, ⟨b, a, b, rfl, rfl, rfl, rfl⟩, ?_⟩
    rintro m σ' H' ⟨x, y, rfl, e, rfl, rfl⟩
    refine ⟨_, rfl, _, _, rfl, rfl, _, rfl, ?_⟩
    refine ite2 (fun hc => ?_) (fun hc => ?_)
    · have hy : 0 < m := by have := of_decide_eq_true hc; omega
      refine ⟨fun σ2 H2 => σ2 = [some (.int (m : Int)), some (.int ((x % m : Nat) : Int))] ∧ H2 = H', ?_, ?_⟩
      · rintro σ2 H2 ⟨rfl, rfl⟩
        refine ⟨x % m, Nat.mod_lt _ hy, m, x % m, rfl, ?_, rfl, rfl⟩
        rw [Nat.gcd_comm, ← Nat.gcd_rec, Nat.gcd_comm, e]
      · refine ⟨_, rfl, _, rfl, .inl ⟨_, rfl, _, rfl, _, _, rfl, rfl, ?_, _, _, rfl, ?_, rfl⟩⟩
        · show (0 : Int) < m
          omega
        · rfl
    · have hy : m = 0 := by
        have : ¬ (0 : Int) < (m : Int) := fun q => hc (decide_eq_true q)
        omega
      subst hy
      refine ⟨_, rfl, ?_⟩
      rw [Nat.gcd_zero_right] at e
      rw [e]
      exact ret
abbrev s_bound : Stmt := top 57
abbrev N_bound : List Str := ["_law_well_here", "_law_whole", "_law_part", "_law_over", "_law_common_here"]
abbrev P_bound : List Str := ["_law_well_here"]
theorem sc_bound : FnScope N_bound P_bound (defScope s_bound) := ⟨rfl, rfl, rfl, by decide +kernel, rfl, by decide +kernel, by decide +kernel⟩
theorem ok_bound {f f1 f2 : Addr} {fd fd1 fd2 : FuncData} (D : DefAt K mg "_law_bound" s_bound P_bound f fd) (T : Txt K mg)
    (D_draw : DefAt K mg "_law_draw" s_draw P_draw f1 fd1) (D_common : DefAt K mg "_law_common" s_common P_common f2 fd2) : FnOk P w K mg base CX0 2 f fd P_bound sp_wbound := by
  have G_draw : FnOk P w K mg base CX0 1 f1 fd1 P_draw sp_draw := ok_draw D_draw T
  have G_common : FnOk P w K mg base CX0 1 f2 fd2 P_common sp_gcd := ok_common D_common T
  refine D.fn.ok sc_bound (fun vs H Q E h => ?_) (fun cdv A outer s H vs Q E hr h => ?_)
  · obtain ⟨a, rfl, _⟩ := h
    rfl
  · obtain ⟨a, rfl, hw, ret⟩ := h
    refine ⟨_, (pss_cons (ps_asg (pe_op op_add pe_int (pe_call G_draw (hr.mono (by decide)) rfl D_draw.mg D_draw.fn.kp D_draw.bd .nil pass0 (pa_cons (pv 0) (pa_cons (pe_ifExp (pt_cmpR op_eq (pe_call G_draw (hr.mono (by decide)) rfl D_draw.mg D_draw.fn.kp D_draw.bd .nil pass0 (pa_cons (pv 0) (pa_cons pe_int pa_nil))) pe_int (nomark _)) pe_int pe_int) pa_nil)))) (pg_name (i := 1) sc_bound.nd rfl (.inl rfl)))
      (pss_cons (ps_asg (pe_call G_draw (hr.mono (by decide)) rfl D_draw.mg D_draw.fn.kp D_draw.bd .nil pass0 (pa_cons (pv 0) (pa_cons (pe_op op_add (pv 1) pe_int) pa_nil))) (pg_name (i := 2) sc_bound.nd rfl (.inl rfl)))
      (pss_cons (ps_par (i := 3) (j := 4) (by rfl) sc_bound.nd rfl rfl (by decide) rfl rfl (pa_cons (pe_cmpR op_eq (pe_call G_draw (hr.mono (by decide)) rfl D_draw.mg D_draw.fn.kp D_draw.bd .nil pass0 (pa_cons (pv 0) (pa_cons pe_int pa_nil))) pe_int (nomark _)) (pa_cons (pe_call G_common (hr.mono (by decide)) rfl D_common.mg D_common.fn.kp D_common.bd .nil pass0 (pa_cons (pv 2) (pa_cons (pv 1) pa_nil))) pa_nil)) (by rfl))
      (pss_one (ps_ret (pe_tup (pa_cons (pe_and (pv 3) (pe_one (pe_cmpR op_lt (pv 2) (pv 1) (nomark _)))) (pa_cons (pe_op op_fdivN (pv 2) (pv 4)) (pa_cons (pe_op op_fdivN (pv 1) (pv 4)) pa_nil))))))))), ?_⟩
    refine join_asg (fun x H1 => ∃ q : Nat, x = .int (q : Int) ∧ 1 ≤ q ∧ q ≤ 12 ∧ But a H H1 ∧ Well H1 a) (fun Q' fin => ?_) ?_
    · refine ⟨_, rfl, _, rfl, a, 2, rfl, hw, by decide, by decide, fun r H1 b1 w1 r0 r1 => ⟨rfl, _, rfl, ?_⟩⟩
      have last : ∀ m : Int, 0 < m → m ≤ 12 → sp_draw [.ref a, .int m] H1 (fun v H' => ∃ i j, V.int 1 = V.int i ∧ v = V.int j ∧ Q' (.int (i + j)) H') (fun _ _ _ => False) := fun m m0 m1 => by
        refine ⟨a, m, rfl, w1, m0, m_small (by omega) (by omega), fun r H2 b2 w2 r0 r1 => ⟨1, r, rfl, rfl, fin _ _ ⟨(1 + r).toNat, ?_, ?_, ?_, b1.trans b2, w2⟩⟩⟩
        · rw [Int.toNat_of_nonneg (by omega)]
        · omega
        · omega
      refine ite2 (fun _ => ?_) (fun _ => ?_)
      · exact last 4 (by decide) (by decide)
      · exact last 12 (by decide) (by decide)
    rintro _ H1 ⟨q, rfl, q1, q12, b1, w1⟩
    refine ⟨_, rfl, _, rfl, _, _, rfl, rfl, a, _, rfl, w1, by omega, m_small (by omega) (by omega), fun p H2 b2 w2 p0 p1 => ?_⟩
    obtain ⟨p, rfl⟩ := Int.eq_ofNat_of_zero_le p0
    have pq : p ≤ q := by omega
    refine ⟨_, rfl, a, 2, rfl, w2, by decide, by decide, fun r H3 b3 w3 r0 r1 => ?_⟩
    refine ⟨rfl, _, rfl, _, rfl, p, q, rfl, _, _, rfl, ?_⟩
    dsimp only
    have g0 : 0 < Nat.gcd p q := Nat.gcd_pos_of_pos_right _ (by omega)
    have gq : Nat.gcd p q ≤ q := Nat.gcd_le_right _ (by omega)
    have dv : ∀ n : Nat, ((n : Int).fdiv (Nat.gcd p q : Nat)) = ((n / Nat.gcd p q : Nat) : Int) := fun n => by
      rw [Int.fdiv_eq_ediv_of_nonneg _ (by omega)]
      rfl
    have qd : q / Nat.gcd p q * Nat.gcd p q = q := Nat.div_mul_cancel (Nat.gcd_dvd_right _ _)
    have pd : p / Nat.gcd p q * Nat.gcd p q = p := Nat.div_mul_cancel (Nat.gcd_dvd_left _ _)
    have tail : ∀ c : Bool, (c = true → p < q) → tTup (tCons (fun _ H' Q' => Q' (.bl c) H') (tCons (tOp (rI CDivN fun i j => V.int (i.fdiv j)) (tVar 2) (tVar 4)) (tCons (tOp (rI CDivN fun i j => V.int (i.fdiv j)) (tVar 1) (tVar 4)) tNil)))
        [some (.ref a), some (.int q), some (.int p), some (.bl (decide (V.int r = V.int 1))), some (.int (Nat.gcd p q : Nat))] H3 Q := fun c hc => by
      refine ⟨_, rfl, _, rfl, _, _, rfl, rfl, ⟨by omega, by omega⟩, _, rfl, _, rfl, _, _, rfl, rfl, ⟨by omega, by omega⟩, (by show 3 ≤ sizeLine; decide), fun t ht => ?_⟩
      dsimp only
      rw [dv, dv]
      refine ret _ ⟨c, p / Nat.gcd p q, q / Nat.gcd p q⟩ _ (((b1.trans b2).trans b3).new ht) (w3.put (w3.ne_none ht)) ⟨⟨?_, ?_, ?_, ?_, ?_⟩, t, rfl, upd_same⟩
      · exact Nat.div_pos gq g0
      · exact Nat.le_trans (Nat.div_le_self _ _) q12
      · exact Nat.div_le_div_right pq
      · exact Nat.gcd_div_gcd_div_gcd_of_pos_right (by omega)
      · intro h
        have h := hc h
        refine Nat.lt_of_mul_lt_mul_right (a := Nat.gcd p q) ?_
        dsimp only
        rw [qd, pd]
        exact h
    by_cases h1 : V.int r = V.int 1
    · refine ⟨_, rfl, _, rfl, ?_⟩
      refine ifT h1 ⟨_, rfl, _, rfl, _, _, rfl, rfl, ?_⟩
      exact tail _ fun h => by have := of_decide_eq_true h; omega
    · refine ⟨_, rfl, _, rfl, ?_⟩
      exact ifF h1 (tail _ fun h => by cases h)
abbrev s_bound_text : Stmt := top 58
abbrev N_bound_text : List Str := ["_law_bound_here"]
abbrev P_bound_text : List Str := ["_law_bound_here"]
theorem sc_bound_text : FnScope N_bound_text P_bound_text (defScope s_bound_text) := ⟨rfl, rfl, rfl, by decide +kernel, rfl, by decide +kernel, by decide +kernel⟩
theorem ok_bound_text {f : Addr} {fd : FuncData} (D : DefAt K mg "_law_bound_text" s_bound_text P_bound_text f fd) (T : Txt K mg) : FnOk P w K mg base CX0 1 f fd P_bound_text sp_wbtext := by
  refine D.fn.ok sc_bound_text (fun vs H Q E h => ?_) (fun cdv A outer s H vs Q E hr h => ?_)
  · obtain ⟨v, b, rfl, _⟩ := h
    rfl
  · obtain ⟨_, b, rfl, ⟨ok, a, rfl, ha⟩, ret⟩ := h
    refine ⟨_, (pss_one (ps_ret (pe_op op_add_str (pe_op op_add_str (pe_op op_add_str (pe_ifExp (pt_truth (pe_ix ix_tup (pv 0) pe_int (fun _ _ => rfl)) (by intro _; rfl)) pe_str pe_str) (pe_callTy call_str_int (by rfl) T.str (by decide +kernel) (pa_cons (pe_ix ix_tup (pv 0) pe_int (fun _ _ => rfl)) pa_nil))) pe_str) (pe_callTy call_str_int (by rfl) T.str (by decide +kernel) (pa_cons (pe_ix ix_tup (pv 0) pe_int (fun _ _ => rfl)) pa_nil))))), ?_⟩
    have lg : ∀ n : Nat, n ≤ 12 → (n : Int).natAbs.log2 < 1920 := fun n hn => Nat.lt_of_le_of_lt (log2_mono (show (n : Int).natAbs ≤ 12 by omega)) (by decide)
    have tl : ∀ n : Nat, n ≤ 12 → (text n).length ≤ 2 := fun n hn => text_short n (by omega)
    have sz : ∀ n : Nat, n ≤ 20 → n ≤ sizeLine := fun n hn => Nat.le_trans hn (by decide)
    have p12 : b.p ≤ 12 := Nat.le_trans ok.pq ok.q12
    have t1 := tl b.p p12
    have t2 := tl b.q ok.q12
    have ml : MARK.length = 5 := rfl
    have sl : SLASH.length = 1 := rfl
    refine ⟨_, rfl, _, _, _, _, rfl, rfl, SqT.of ha, rfl, _, rfl, ?_⟩
    have e : b.txt = (if b.o then MARK else Str.ofString "") ++ text b.p ++ SLASH ++ text b.q := rfl
    rw [e] at ret
    cases h : b.o with
    | true =>
      rw [h] at ret
      refine iteT ⟨_, rfl, _, _, _, _, rfl, rfl, SqT.of ha, rfl, _, rfl, lg _ p12, _, _, rfl, rfl, ?_, _, _, rfl, rfl, ?_, _, rfl, _, _, _, _, rfl, rfl, SqT.of ha, rfl, _, rfl, lg _ ok.q12, _, _, rfl, rfl, ?_, ret⟩
      · exact sz _ (by show MARK.length + (text b.p).length ≤ 20; omega)
      · rw [Str.length_append]
        exact sz _ (by show MARK.length + (text b.p).length + SLASH.length ≤ 20; omega)
      · rw [Str.length_append, Str.length_append]
        exact sz _ (by show MARK.length + (text b.p).length + SLASH.length + (text b.q).length ≤ 20; omega)
    | false =>
      rw [h] at ret
      refine iteF ⟨_, rfl, _, _, _, _, rfl, rfl, SqT.of ha, rfl, _, rfl, lg _ p12, _, _, rfl, rfl, ?_, _, _, rfl, rfl, ?_, _, rfl, _, _, _, _, rfl, rfl, SqT.of ha, rfl, _, rfl, lg _ ok.q12, _, _, rfl, rfl, ?_, ret⟩
      · exact sz _ (by show 0 + (text b.p).length ≤ 20; omega)
      · rw [Str.length_append]
        exact sz _ (by show 0 + (text b.p).length + SLASH.length ≤ 20; omega)
      · rw [Str.length_append, Str.length_append]
        exact sz _ (by show 0 + (text b.p).length + SLASH.length + (text b.q).length ≤ 20; omega)
end L

namespace Hv
open PySem L2
inductive All2 {α β : Type} (R : α → β → Prop) : List α → List β → Prop
  | nil : All2 R [] []
  | cons {a : α} {b : β} {as : List α} {bs : List β} (h : R a b) (t : All2 R as bs) : All2 R (a :: as) (b :: bs)
theorem All2.mono {α β : Type} {R S : α → β → Prop} (f : ∀ a b, R a b → S a b) : ∀ {as : List α} {bs : List β}, All2 R as bs → All2 S as bs
  | _, _, .nil => .nil
  | _, _, .cons h t => .cons (f _ _ h) (t.mono f)
theorem All2.len {α β : Type} {R : α → β → Prop} : ∀ {as : List α} {bs : List β}, All2 R as bs → as.length = bs.length
  | _, _, .nil => rfl
  | _, _, .cons _ t => by simp [t.len]
theorem All2.snoc {α β : Type} {R : α → β → Prop} {a : α} {b : β} (h : R a b) : ∀ {as : List α} {bs : List β}, All2 R as bs → All2 R (as ++ [a]) (bs ++ [b])
  | _, _, .nil => .cons h .nil
  | _, _, .cons k t => .cons k (t.snoc h)
theorem All2.get {α β : Type} {R : α → β → Prop} : ∀ {as : List α} {bs : List β} (_ : All2 R as bs) {i : Nat} {a : α}, as[i]? = some a → ∃ b, bs[i]? = some b ∧ R a b
  | _, _, .nil, i, a, e => by simp at e
  | _, _, .cons h t, 0, a, e => by
    simp at e
    subst e
    exact ⟨_, rfl, h⟩
  | _, _, .cons h t, i + 1, a, e => by
    simp at e
    obtain ⟨b, h1, h2⟩ := t.get e
    exact ⟨b, by simpa using h1, h2⟩
theorem All2.get' {α β : Type} {R : α → β → Prop} : ∀ {as : List α} {bs : List β} (_ : All2 R as bs) {i : Nat} {b : β}, bs[i]? = some b → ∃ a, as[i]? = some a ∧ R a b
  | _, _, .nil, i, a, e => by simp at e
  | _, _, .cons h t, 0, a, e => by
    simp at e
    subst e
    exact ⟨_, rfl, h⟩
  | _, _, .cons h t, i + 1, a, e => by
    simp at e
    obtain ⟨b, h1, h2⟩ := t.get' e
    exact ⟨b, by simpa using h1, h2⟩
theorem All2.append {α β : Type} {R : α → β → Prop} : ∀ {as as' : List α} {bs bs' : List β}, All2 R as bs → All2 R as' bs' → All2 R (as ++ as') (bs ++ bs')
  | _, _, _, _, .nil, h => h
  | _, _, _, _, .cons k t, h => .cons k (t.append h)
theorem All2.take {α β : Type} {R : α → β → Prop} : ∀ (n : Nat) {as : List α} {bs : List β}, All2 R as bs → All2 R (as.take n) (bs.take n)
  | 0, _, _, _ => by simpa using All2.nil
  | n + 1, _, _, .nil => .nil
  | n + 1, _, _, .cons h t => .cons h (t.take n)
theorem All2.drop {α β : Type} {R : α → β → Prop} : ∀ (n : Nat) {as : List α} {bs : List β}, All2 R as bs → All2 R (as.drop n) (bs.drop n)
  | 0, _, _, h => h
  | n + 1, _, _, .nil => .nil
  | n + 1, _, _, .cons _ t => t.drop n
/-- a statement by what holds behind it -/
theorem join_st {t u : TS} {D : Ends} {σ : L2.St} {H : Hp} (S : L2.St → Hp → Prop) (h : ∀ nx' : L2.St → Hp → Prop, (∀ σ' H', S σ' H' → nx' σ' H') → t { D with nx := nx' } σ H)
    (k : ∀ σ' H', S σ' H' → u D σ' H') : tSeq t u D σ H := h _ k
theorem But.at {b p : Addr} {H H1 : Hp} {o : HO} (x : But b H H1) (hp : H p = none) : But b H (upd H1 p o) := fun a u n h => by
  rw [upd_ne (ne_of_none h hp)]
  exact x a u n h
theorem join_it {tt : TT} {t u : TS} {D : Ends} {σ : L2.St} {H : Hp} (S : Bool → Hp → Prop) (h : ∀ Q' : Bool → Hp → Prop, (∀ b H', S b H' → Q' b H') → tt σ H Q')
    (k : ∀ b H', S b H' → if b = true then t D σ H' else u D σ H') : tIfS tt t u D σ H := h _ k
/-! a drawn kind -/
inductive Nd
  | cnt (n : Nat)
  | bd (b : Bd)
structure Sr where
  name : Str
  talks : Nat
  needs : Nd
  closing : Option (Nat × Bd)
  ends : Option Bd
def NdAt (H : Hp) (v : V) : Nd → Prop
  | .cnt n => 1 ≤ n ∧ n ≤ 9 ∧ ∃ a, v = .ref a ∧ H a = some (.tup [.str (Str.ofString "count"), .int n])
  | .bd b => BdAt H v b
def ClAt (H : Hp) (v : V) : Option (Nat × Bd) → Prop
  | none => v = .non
  | some (i, b) => i ≤ 3 ∧ ∃ a u, v = .ref a ∧ H a = some (.tup [.int i, u]) ∧ BdAt H u b
def EnAt (H : Hp) (v : V) : Option Bd → Prop
  | none => v = .non
  | some b => BdAt H v b
def SrAt (H : Hp) (v : V) (s : Sr) : Prop := s.talks ≤ 3 ∧ ∃ a n c e, v = .ref a ∧ H a = some (.tup [.str s.name, .int s.talks, n, c, e]) ∧ NdAt H n s.needs ∧ ClAt H c s.closing ∧ EnAt H e s.ends
/-- what stays where tuples stay -/
def TupS (H H' : Hp) : Prop := ∀ a xs, H a = some (.tup xs) → H' a = some (.tup xs)
theorem TupS.of {H H' : Hp} (e : Same H H') : TupS H H' := fun a xs h => e _ _ h
theorem TupS.but {H H' : Hp} {w : Addr} (hw : Well H w) (e : But w H H') : TupS H H' := fun a xs h => e _ _ (hw.ne_tup h) h
theorem TupS.trans {H H1 H2 : Hp} (a : TupS H H1) (b : TupS H1 H2) : TupS H H2 := fun c xs h => b c xs (a c xs h)
theorem TupS.lst {H : Hp} {p : Addr} {xs ys : List V} (h : H p = some (.lst xs)) : TupS H (upd H p (.lst ys)) := fun a zs q => by
  rw [upd_ne (ne_of q h (by intro z; cases z))]
  exact q
theorem BdAt.tup {H H' : Hp} {v : V} {b : Bd} (h : BdAt H v b) (e : TupS H H') : BdAt H' v b := by
  obtain ⟨k, a, h1, h2⟩ := h
  exact ⟨k, a, h1, e _ _ h2⟩
theorem NdAt.tup {H H' : Hp} {v : V} {n : Nd} (h : NdAt H v n) (e : TupS H H') : NdAt H' v n := by
  cases n with
  | cnt n =>
    obtain ⟨h1, h2, a, h3, h4⟩ := h
    exact ⟨h1, h2, a, h3, e _ _ h4⟩
  | bd b => exact BdAt.tup h e
theorem ClAt.tup {H H' : Hp} {v : V} {c : Option (Nat × Bd)} (h : ClAt H v c) (e : TupS H H') : ClAt H' v c := by
  match c, h with
  | none, h => exact h
  | some (i, b), ⟨h1, a, u, h2, h3, h4⟩ => exact ⟨h1, a, u, h2, e _ _ h3, h4.tup e⟩
theorem EnAt.tup {H H' : Hp} {v : V} {c : Option Bd} (h : EnAt H v c) (e : TupS H H') : EnAt H' v c := by
  match c, h with
  | none, h => exact h
  | some b, h => exact BdAt.tup h e
theorem SrAt.tup {H H' : Hp} {v : V} {s : Sr} (h : SrAt H v s) (e : TupS H H') : SrAt H' v s := by
  obtain ⟨h1, a, n, c, d, h2, h3, h4, h5, h6⟩ := h
  exact ⟨h1, a, n, c, d, h2, e _ _ h3, h4.tup e, h5.tup e, h6.tup e⟩
def sp_wsort : Sp := fun vs H Q _ => ∃ (w : Addr) (z : Str), vs = [.ref w, .str z] ∧ Well H w ∧ ∀ (v : V) (s : Sr) (H' : Hp), But w H H' → Well H' w → SrAt H' v s → s.name = z → Q v H'
/-! a drawn row -/
structure Rw where
  o : Nat
  i : Nat
  word : Str
  num : Nat
structure Rw.Ok (m : Nat) (r : Rw) : Prop where
  ol : r.o < m
  il : r.i < m
  am : ((r.word = Str.ofString "each" ∨ r.word = Str.ofString "all") ∧ 1 ≤ r.num ∧ r.num ≤ 3) ∨ ((r.word = Str.ofString "again" ∨ r.word = Str.ofString "free") ∧ r.num = 0)
/-- the rows up to this pair -/
structure RowsTo (n o i : Nat) (rs : List Rw) : Prop where
  ok : ∀ r ∈ rs, Rw.Ok n r ∧ (r.o < o ∨ (r.o = o ∧ r.i < i))
  nd : (rs.map fun r => (r.o, r.i)).Nodup
  len : rs.length ≤ o * n + i
theorem RowsTo.nil {n : Nat} : RowsTo n 0 0 [] := ⟨(fun r h => nomatch h), by simp, by simp⟩
theorem RowsTo.skip {n o i : Nat} {rs : List Rw} (h : RowsTo n o i rs) : RowsTo n o (i + 1) rs := ⟨fun r hr => ⟨(h.ok r hr).1, by have := (h.ok r hr).2; omega⟩, h.nd, by have := h.len; omega⟩
theorem RowsTo.next {n o : Nat} {rs : List Rw} (h : RowsTo n o n rs) : RowsTo n (o + 1) 0 rs := ⟨fun r hr => ⟨(h.ok r hr).1, by have := (h.ok r hr).2; omega⟩, h.nd, by have := h.len; rw [Nat.succ_mul]; omega⟩
theorem RowsTo.add {n o i : Nat} {rs : List Rw} {w : Str} {k : Nat} (h : RowsTo n o i rs) (ok : Rw.Ok n ⟨o, i, w, k⟩) : RowsTo n o (i + 1) (rs ++ [⟨o, i, w, k⟩]) := by
  refine ⟨fun r hr => ?_, ?_, ?_⟩
  · rcases List.mem_append.mp hr with q | q
    · exact (h.skip).ok r q
    · rw [List.mem_singleton.mp q]
      exact ⟨ok, .inr ⟨rfl, Nat.lt_succ_self _⟩⟩
  · rw [List.map_append, List.nodup_append]
    refine ⟨h.nd, by simp, ?_⟩
    intro x hx y hy e
    obtain ⟨r, hr, rfl⟩ := List.mem_map.mp hx
    have : y = (o, i) := by simpa using hy
    rw [this] at e
    have q := (h.ok r hr).2
    have e1 := congrArg Prod.fst e
    have e2 := congrArg Prod.snd e
    dsimp only at e1 e2
    omega
  · rw [List.length_append]
    have := h.len
    simp
    omega
def RwAt (H : Hp) (v : V) (r : Rw) : Prop := ∃ a, v = .ref a ∧ H a = some (.tup [.int r.o, .int r.i, .str r.word, .int r.num])
theorem RwAt.tup {H H' : Hp} {v : V} {r : Rw} (h : RwAt H v r) (e : TupS H H') : RwAt H' v r := by
  obtain ⟨a, h1, h2⟩ := h
  exact ⟨a, h1, e _ _ h2⟩
/-! the names -/
def MENU : List Str := ["bill", "change", "over", "under", "motion", "talks", "needs", "ends", "by", "a", "rise2", "closed"]
def nameAt (b st k : Nat) : Str := MENU.getD ((b + st * k) % 12) (Str.ofString "")
theorem names_ok : ∀ b < 12, ∀ st ∈ [1, 5, 7, 11], ((List.range 6).map (nameAt b st)).Nodup ∧ ((List.range 6).map (nameAt b st)).all nameOk = true := by decide +kernel
structure PlanOk (most : Nat) (ss : List Sr) (rs : List Rw) : Prop where
  one : 1 ≤ ss.length
  mst : ss.length ≤ most
  nm : ∃ b < 12, ∃ st ∈ [1, 5, 7, 11], ss.map (·.name) = (List.range ss.length).map (nameAt b st)
  rw : ∀ r ∈ rs, Rw.Ok ss.length r
  nd : (rs.map fun r => (r.o, r.i)).Nodup
  rl : rs.length ≤ ss.length * ss.length
def PlanAt (H : Hp) (v : V) (ss : List Sr) (rs : List Rw) : Prop := ∃ p a b vs us, v = .ref p ∧ H p = some (.lst [.ref a, .ref b]) ∧ H a = some (.lst vs) ∧ H b = some (.lst us) ∧ All2 (SrAt H) vs ss ∧ All2 (RwAt H) us rs
theorem PlanAt.same {H H' : Hp} {v : V} {ss : List Sr} {rs : List Rw} (h : PlanAt H v ss rs) (e : Same H H') : PlanAt H' v ss rs := by
  obtain ⟨p, a, b, vs, us, h1, h2, h3, h4, h5, h6⟩ := h
  exact ⟨p, a, b, vs, us, h1, e _ _ h2, e _ _ h3, e _ _ h4, h5.mono fun _ _ q => q.tup (.of e), h6.mono fun _ _ q => q.tup (.of e)⟩
def sp_plan : Sp := fun vs H Q _ => ∃ (w : Addr) (most : Nat), vs = [.ref w, .int most] ∧ Well H w ∧ 1 ≤ most ∧ most ≤ 6 ∧ ∀ (v : V) (ss : List Sr) (rs : List Rw) (H' : Hp), But w H H' → Well H' w → PlanAt H' v ss rs → PlanOk most ss rs → Q v H'
end Hv
namespace L
open PySem L2 Hv
variable {P : Program} {w : World} {K : PySem.W.Frag} {mg : Str → Option Value} {base : Heap}
abbrev s_sort : Stmt := top 60
abbrev N_sort : List Str := ["_law_well_here", "_law_name", "_law_talks", "_law_needs", "_law_choice", "_law_closing", "_law_ends"]
abbrev P_sort : List Str := ["_law_well_here", "_law_name"]
theorem sc_sort : FnScope N_sort P_sort (defScope s_sort) := ⟨rfl, rfl, rfl, by decide +kernel, rfl, by decide +kernel, by decide +kernel⟩
theorem ok_wsort {f f1 f2 f3 : Addr} {fd fd1 fd2 fd3 : FuncData} (D : DefAt K mg "_law_sort" s_sort P_sort f fd) (T : Txt K mg)
    (D_draw : DefAt K mg "_law_draw" s_draw P_draw f1 fd1) (D_common : DefAt K mg "_law_common" s_common P_common f2 fd2) (D_bound : DefAt K mg "_law_bound" s_bound P_bound f3 fd3) : FnOk P w K mg base CX0 3 f fd P_sort sp_wsort := by
  have G_draw : FnOk P w K mg base CX0 1 f1 fd1 P_draw sp_draw := ok_draw D_draw T
  have G_bound : FnOk P w K mg base CX0 2 f3 fd3 P_bound sp_wbound := ok_bound D_bound T D_draw D_common
  refine D.fn.ok sc_sort (fun vs H Q E h => ?_) (fun cdv A outer s H vs Q E hr h => ?_)
  · obtain ⟨a, z, rfl, _⟩ := h
    rfl
  · obtain ⟨a, z, rfl, hw, ret⟩ := h
    refine ⟨_, (pss_cons (ps_asg (pe_ix ix_list (pe_lst (pa_cons pe_int (pa_cons pe_int (pa_cons pe_int (pa_cons pe_int (pa_cons pe_int pa_nil)))))) (pe_call G_draw (hr.mono (by decide)) rfl D_draw.mg D_draw.fn.kp D_draw.bd .nil pass0 (pa_cons (pv 0) (pa_cons pe_int pa_nil))) (fun _ _ => rfl)) (pg_name (i := 2) sc_sort.nd rfl (.inl rfl)))
      (pss_cons (ps_par (i := 3) (j := 4) (by rfl) sc_sort.nd rfl rfl (by decide) rfl rfl (pa_cons (pe_tup (pa_cons pe_str (pa_cons pe_int pa_nil))) (pa_cons (pe_call G_draw (hr.mono (by decide)) rfl D_draw.mg D_draw.fn.kp D_draw.bd .nil pass0 (pa_cons (pv 0) (pa_cons pe_int pa_nil))) pa_nil)) (by rfl))
      (pss_cons (ps_if (pt_cmpR op_eq (pv 4) pe_int (nomark _))
      (pss_one (ps_asg (pe_tup (pa_cons pe_str (pa_cons (pe_op op_add pe_int (pe_call G_draw (hr.mono (by decide)) rfl D_draw.mg D_draw.fn.kp D_draw.bd .nil pass0 (pa_cons (pv 0) (pa_cons pe_int pa_nil)))) pa_nil))) (pg_name (i := 3) sc_sort.nd rfl (.inl rfl))))
      (pss_one (ps_if (pt_cmpR op_eq (pv 4) pe_int (nomark _))
      (pss_one (ps_asg (pe_call G_bound (hr.mono (by decide)) rfl D_bound.mg D_bound.fn.kp D_bound.bd .nil pass0 (pa_cons (pv 0) pa_nil)) (pg_name (i := 3) sc_sort.nd rfl (.inl rfl))))
      pss_nil)))
      (pss_cons (ps_asg (pe_tup (pa_cons pe_non (pa_cons pe_non pa_nil))) (pg_tup (by rfl) (pgs_cons (pg_name (i := 5) sc_sort.nd rfl (.inl rfl)) (pgs_cons (pg_name (i := 6) sc_sort.nd rfl (.inl rfl)) pgs_nil))))
      (pss_cons (ps_if (pt_cmpR op_eq (pe_call G_draw (hr.mono (by decide)) rfl D_draw.mg D_draw.fn.kp D_draw.bd .nil pass0 (pa_cons (pv 0) (pa_cons pe_int pa_nil))) pe_int (nomark _))
      (pss_one (ps_asg (pe_tup (pa_cons (pe_call G_draw (hr.mono (by decide)) rfl D_draw.mg D_draw.fn.kp D_draw.bd .nil pass0 (pa_cons (pv 0) (pa_cons pe_int pa_nil))) (pa_cons (pe_call G_bound (hr.mono (by decide)) rfl D_bound.mg D_bound.fn.kp D_bound.bd .nil pass0 (pa_cons (pv 0) pa_nil)) pa_nil))) (pg_name (i := 5) sc_sort.nd rfl (.inl rfl))))
      pss_nil)
      (pss_cons (ps_if (pt_cmpR op_eq (pe_call G_draw (hr.mono (by decide)) rfl D_draw.mg D_draw.fn.kp D_draw.bd .nil pass0 (pa_cons (pv 0) (pa_cons pe_int pa_nil))) pe_int (nomark _))
      (pss_one (ps_asg (pe_call G_bound (hr.mono (by decide)) rfl D_bound.mg D_bound.fn.kp D_bound.bd .nil pass0 (pa_cons (pv 0) pa_nil)) (pg_name (i := 6) sc_sort.nd rfl (.inl rfl))))
      pss_nil)
      (pss_one (ps_ret (pe_tup (pa_cons (pv 1) (pa_cons (pv 2) (pa_cons (pv 3) (pa_cons (pv 5) (pa_cons (pv 6) pa_nil)))))))))))))), ?_⟩
    refine join_asg (fun x H1 => ∃ q : Nat, x = .int (q : Int) ∧ q ≤ 3 ∧ But a H H1 ∧ Well H1 a) (fun Q' fin => ?_) ?_
    · refine ⟨(by show 5 ≤ sizeLine; decide), fun l hl => ?_⟩
      have w0 : Well (upd H l (.lst [.int 0, .int 1, .int 1, .int 2, .int 3])) a := hw.put (hw.ne_none hl)
      refine ⟨_, rfl, a, 5, rfl, w0, by decide, by decide, fun r H1 b1 w1 r0 r1 => ?_⟩
      obtain ⟨r, rfl⟩ := Int.eq_ofNat_of_zero_le r0
      have h5 : ∀ j < 5, ∃ q : Nat, q ≤ 3 ∧ [V.int 0, .int 1, .int 1, .int 2, .int 3][j]? = some (.int (q : Int)) := by
        intro j hj
        match j, hj with
        | 0, _ => exact ⟨0, by decide, rfl⟩
        | 1, _ => exact ⟨1, by decide, rfl⟩
        | 2, _ => exact ⟨1, by decide, rfl⟩
        | 3, _ => exact ⟨2, by decide, rfl⟩
        | 4, _ => exact ⟨3, by decide, rfl⟩
      obtain ⟨q, q3, hq⟩ := h5 r (by omega)
      refine ⟨l, _, _, _, rfl, rfl, SqL.of (b1 _ _ (hw.ne_none hl) upd_same), atI_nat hq, fin _ _ ⟨q, rfl, q3, ?_, w1⟩⟩
      exact (But.refl.new hl).trans b1
    rintro _ H1 ⟨q, rfl, q3, b1, w1⟩
    dsimp only [gName]
    refine ⟨(by show 2 ≤ sizeLine; decide), fun t ht => ?_⟩
    have w2 : Well (upd H1 t (.tup [.str (Str.ofString "count"), .int 1])) a := w1.put (w1.ne_none ht)
    refine ⟨_, rfl, a, 8, rfl, w2, by decide, by decide, fun r H2 b2 w3 r0 r1 => ⟨_, _, rfl, ?_⟩⟩
    have b3 := (b1.new (o := .tup [.str (Str.ofString "count"), .int 1]) ht).trans b2
    have ht2 : H2 t = some (.tup [.str (Str.ofString "count"), .int 1]) := b2 _ _ (w1.ne_none ht) upd_same
    dsimp only
    refine join_st (fun σ' H' => ∃ (n : V) (nd : Nd), σ' = [some (.ref a), some (.str z), some (.int q), some n, some (.int r), none, none] ∧ But a H H' ∧ Well H' a ∧ NdAt H' n nd) (fun nx' fin => ?_) ?_
    · refine ⟨_, rfl, rfl, _, rfl, ?_⟩
      refine ite2 (fun _ => ?_) (fun _ => ?_)
      · refine ⟨_, rfl, a, 9, rfl, w3, by decide, by decide, fun m H3 b4 w4 m0 m1 => ⟨_, _, rfl, rfl, (by show 2 ≤ sizeLine; decide), fun t2 ht2 => ?_⟩⟩
        refine fin _ _ ⟨_, .cnt (1 + m).toNat, rfl, (b3.trans b4).new ht2, w4.put (w4.ne_none ht2), by omega, by omega, t2, rfl, ?_⟩
        rw [upd_same, Int.toNat_of_nonneg (by omega)]
      · refine ⟨_, rfl, rfl, _, rfl, ?_⟩
        refine ite2 (fun _ => ?_) (fun _ => ?_)
        · exact ⟨_, rfl, a, rfl, w3, fun v b H3 b4 w4 hb => fin _ _ ⟨_, .bd b, rfl, b3.trans b4, w4, hb⟩⟩
        · exact fin _ _ ⟨_, .cnt 1, rfl, b3, w3, by decide, by decide, t, rfl, ht2⟩
    rintro σ' H3 ⟨n, nd, rfl, b4, w4, hn⟩
    refine ⟨(by show 2 ≤ sizeLine; decide), fun t3 ht3 => ⟨t3, _, rfl, SqT.of upd_same, rfl, _, _, rfl, _, _, rfl, rfl, ?_⟩⟩
    have b5 := b4.new (o := .tup [.non, .non]) ht3
    have w5 : Well (upd H3 t3 (.tup [.non, .non])) a := w4.put (w4.ne_none ht3)
    have hn5 := hn.tup (TupS.of (same_new (o := .tup [.non, .non]) ht3))
    generalize upd H3 t3 (.tup [.non, .non]) = H5 at b5 w5 hn5 ⊢
    dsimp only [gNil]
    refine join_st (fun σ' H' => ∃ (c : V) (cl : Option (Nat × Bd)), σ' = [some (.ref a), some (.str z), some (.int q), some n, some (.int r), some c, some .non] ∧ But a H H' ∧ Well H' a ∧ NdAt H' n nd ∧ ClAt H' c cl) (fun nx' fin => ?_) ?_
    · refine ⟨_, rfl, a, 2, rfl, w5, by decide, by decide, fun m H6 b6 w6 _ _ => ⟨rfl, _, rfl, ?_⟩⟩
      have hn6 := hn5.tup (TupS.but w5 b6)
      refine ite2 (fun _ => ?_) (fun _ => ?_)
      · refine ⟨_, rfl, a, 4, rfl, w6, by decide, by decide, fun i H7 b7 w7 i0 i1 => ⟨_, rfl, a, rfl, w7, fun v b H8 b8 w8 hb => ⟨(by show 2 ≤ sizeLine; decide), fun t4 ht4 => ?_⟩⟩⟩
        have hn8 := ((hn6.tup (TupS.but w6 b7)).tup (TupS.but w7 b8)).tup (TupS.of (same_new (o := .tup [.int i, v]) ht4))
        refine fin _ _ ⟨_, some (i.toNat, b), rfl, (((b5.trans b6).trans b7).trans b8).new ht4, w8.put (w8.ne_none ht4), hn8, by omega, t4, v, rfl, ?_, hb.tup (TupS.of (same_new ht4))⟩
        rw [upd_same, Int.toNat_of_nonneg (by omega)]
      · exact fin _ _ ⟨_, none, rfl, b5.trans b6, w6, hn6, rfl⟩
    rintro σ' H6 ⟨c, cl, rfl, b6, w6, hn6, hc6⟩
    refine join_st (fun σ' H' => ∃ (e : V) (en : Option Bd), σ' = [some (.ref a), some (.str z), some (.int q), some n, some (.int r), some c, some e] ∧ But a H H' ∧ Well H' a ∧ NdAt H' n nd ∧ ClAt H' c cl ∧ EnAt H' e en) (fun nx' fin => ?_) ?_
    · refine ⟨_, rfl, a, 7, rfl, w6, by decide, by decide, fun m H7 b7 w7 _ _ => ⟨rfl, _, rfl, ?_⟩⟩
      have hn7 := hn6.tup (TupS.but w6 b7)
      have hc7 := hc6.tup (TupS.but w6 b7)
      refine ite2 (fun _ => ?_) (fun _ => ?_)
      · exact ⟨_, rfl, a, rfl, w7, fun v b H8 b8 w8 hb => fin _ _ ⟨_, some b, rfl, (b6.trans b7).trans b8, w8, hn7.tup (TupS.but w7 b8), hc7.tup (TupS.but w7 b8), hb⟩⟩
      · exact fin _ _ ⟨_, none, rfl, b6.trans b7, w7, hn7, hc7, rfl⟩
    rintro σ' H7 ⟨e, en, rfl, b7, w7, hn7, hc7, he7⟩
    refine ⟨_, rfl, _, rfl, _, rfl, _, rfl, _, rfl, (by show 5 ≤ sizeLine; decide), fun t4 ht4 => ?_⟩
    have tp := TupS.of (same_new (o := .tup [.str z, .int q, n, c, e]) ht4)
    exact ret _ ⟨z, q, nd, cl, en⟩ _ (b7.new ht4) (w7.put (w7.ne_none ht4)) ⟨q3, t4, n, c, e, rfl, upd_same, hn7.tup tp, hc7.tup tp, he7.tup tp⟩ rfl
theorem words7 : ∀ j < 7, ∃ z : Str, [V.str "each", .str "each", .str "all", .str "again", .str "each", .str "all", .str "free"][j]? = some (.str z) ∧ ((z = "each" ∨ z = "all") ∨ (z = "again" ∨ z = "free")) := by
  intro j hj
  match j, hj with
  | 0, _ => exact ⟨"each", rfl, .inl (.inl rfl)⟩
  | 1, _ => exact ⟨"each", rfl, .inl (.inl rfl)⟩
  | 2, _ => exact ⟨"all", rfl, .inl (.inr rfl)⟩
  | 3, _ => exact ⟨"again", rfl, .inr (.inl rfl)⟩
  | 4, _ => exact ⟨"each", rfl, .inl (.inl rfl)⟩
  | 5, _ => exact ⟨"all", rfl, .inl (.inr rfl)⟩
  | 6, _ => exact ⟨"free", rfl, .inr (.inr rfl)⟩
theorem each_in : inV (.str "each") [.str "each", .str "all"] = true ∧ inV (.str "all") [.str "each", .str "all"] = true ∧ inV (.str "again") [.str "each", .str "all"] = false ∧ inV (.str "free") [.str "each", .str "all"] = false := by decide +kernel
theorem step4 : ∀ j < 4, ∃ q : Nat, q ∈ [1, 5, 7, 11] ∧ [V.int 1, .int 5, .int 7, .int 11][j]? = some (.int (q : Int)) := by
  intro j hj
  match j, hj with
  | 0, _ => exact ⟨1, by decide, rfl⟩
  | 1, _ => exact ⟨5, by decide, rfl⟩
  | 2, _ => exact ⟨7, by decide, rfl⟩
  | 3, _ => exact ⟨11, by decide, rfl⟩
theorem menu_at : ∀ j < 12, (MENU.map V.str)[j]? = some (.str (MENU.getD j (Str.ofString ""))) := by decide +kernel
abbrev s_plan : Stmt := top 61
abbrev N_plan : List Str := ["_law_well_here", "_law_most", "_law_menu", "_law_size", "_law_begin", "_law_step", "_law_sorts", "_law_rows", "_law_k", "_law_outer", "_law_inner", "_law_wish", "_law_word", "_law_number"]
abbrev P_plan : List Str := ["_law_well_here", "_law_most"]
theorem sc_plan : FnScope N_plan P_plan (defScope s_plan) := ⟨rfl, rfl, rfl, by decide +kernel, rfl, by decide +kernel, by decide +kernel⟩
theorem ok_plan {f f1 f2 f3 f4 : Addr} {fd fd1 fd2 fd3 fd4 : FuncData} (D : DefAt K mg "_law_plan" s_plan P_plan f fd) (T : Txt K mg)
    (D_draw : DefAt K mg "_law_draw" s_draw P_draw f1 fd1) (D_common : DefAt K mg "_law_common" s_common P_common f2 fd2) (D_bound : DefAt K mg "_law_bound" s_bound P_bound f3 fd3) (D_sort : DefAt K mg "_law_sort" s_sort P_sort f4 fd4) : FnOk P w K mg base CX0 4 f fd P_plan sp_plan := by
  have G_draw : FnOk P w K mg base CX0 1 f1 fd1 P_draw sp_draw := ok_draw D_draw T
  have G_sort : FnOk P w K mg base CX0 3 f4 fd4 P_sort sp_wsort := ok_wsort D_sort T D_draw D_common D_bound
  refine D.fn.ok sc_plan (fun vs H Q E h => ?_) (fun cdv A outer s H vs Q E hr h => ?_)
  · obtain ⟨a, z, rfl, _⟩ := h
    rfl
  · obtain ⟨a, most, rfl, hw, m1, m6, ret⟩ := h
    refine ⟨_, (pss_cons (ps_asg (pe_lst (pa_cons pe_str (pa_cons pe_str (pa_cons pe_str (pa_cons pe_str (pa_cons pe_str (pa_cons pe_str (pa_cons pe_str (pa_cons pe_str (pa_cons pe_str (pa_cons pe_str (pa_cons pe_str (pa_cons pe_str pa_nil))))))))))))) (pg_name (i := 2) sc_plan.nd rfl (.inl rfl)))
      (pss_cons (ps_par (i := 3) (j := 4) (by rfl) sc_plan.nd rfl rfl (by decide) rfl rfl (pa_cons (pe_op op_add pe_int (pe_call G_draw (hr.mono (by decide)) rfl D_draw.mg D_draw.fn.kp D_draw.bd .nil pass0 (pa_cons (pv 0) (pa_cons (pv 1) pa_nil)))) (pa_cons (pe_call G_draw (hr.mono (by decide)) rfl D_draw.mg D_draw.fn.kp D_draw.bd .nil pass0 (pa_cons (pv 0) (pa_cons pe_int pa_nil))) pa_nil)) (by rfl))
      (pss_cons (ps_asg (pe_ix ix_list (pe_lst (pa_cons pe_int (pa_cons pe_int (pa_cons pe_int (pa_cons pe_int pa_nil))))) (pe_call G_draw (hr.mono (by decide)) rfl D_draw.mg D_draw.fn.kp D_draw.bd .nil pass0 (pa_cons (pv 0) (pa_cons pe_int pa_nil))) (fun _ _ => rfl)) (pg_name (i := 5) sc_plan.nd rfl (.inl rfl)))
      (pss_cons (ps_par (i := 6) (j := 7) (by rfl) sc_plan.nd rfl rfl (by decide) rfl rfl (pa_cons (pe_lst pa_nil) (pa_cons (pe_lst pa_nil) pa_nil)) (by rfl))
      (pss_cons (ps_for PassesOwn.never rfl (pi_range1 (by rfl) T.range (pa_cons (pv 3) pa_nil)) (pg_name (i := 8) sc_plan.nd rfl (.inl rfl))
      (pss_one (ps_expr (pe_bm PySem.F.plainAttrs_list PySem.F.slot_list_append PySem.F.type_list_append mt_append (pv 6) (pa_cons (pe_call G_sort (hr.mono (by decide)) rfl D_sort.mg D_sort.fn.kp D_sort.bd .nil pass0 (pa_cons (pv 0) (pa_cons (pe_ix ix_list (pv 2) (pe_op op_mod (pe_callTy call_int1 (by rfl) T.int (by decide +kernel) (pa_cons (pe_op op_add (pv 4) (pe_op op_mul (pv 5) (pv 8))) pa_nil)) pe_int) (fun _ _ => rfl)) pa_nil))) pa_nil)))))
      (pss_cons (ps_for PassesOwn.never rfl (pi_range1 (by rfl) T.range (pa_cons (pv 3) pa_nil)) (pg_name (i := 9) sc_plan.nd rfl (.inl rfl))
      (pss_one (ps_for PassesOwn.never rfl (pi_range1 (by rfl) T.range (pa_cons (pv 3) pa_nil)) (pg_name (i := 10) sc_plan.nd rfl (.inl rfl))
      (pss_cons (ps_asg (pe_call G_draw (hr.mono (by decide)) rfl D_draw.mg D_draw.fn.kp D_draw.bd .nil pass0 (pa_cons (pv 0) (pa_cons pe_int pa_nil))) (pg_name (i := 11) sc_plan.nd rfl (.inl rfl)))
      (pss_one (ps_if (PW.pt (pw_or (PW.pt (pw_and (pt_cmpR op_lt (pv 11) pe_int (nomark _)) (pw_and1 (pt_cmpR op_gt (pv 10) (pv 9) (nomark _))))) (pw_or1 (pt_cmpR op_eq (pv 11) pe_int (nomark _)))))
      (pss_cons (ps_asg (pe_ix ix_list (pe_lst (pa_cons pe_str (pa_cons pe_str (pa_cons pe_str (pa_cons pe_str (pa_cons pe_str (pa_cons pe_str (pa_cons pe_str pa_nil)))))))) (pe_call G_draw (hr.mono (by decide)) rfl D_draw.mg D_draw.fn.kp D_draw.bd .nil pass0 (pa_cons (pv 0) (pa_cons pe_int pa_nil))) (fun _ _ => rfl)) (pg_name (i := 12) sc_plan.nd rfl (.inl rfl)))
      (pss_cons (ps_asg (pe_ifExp (pt_cmpR op_in_seq (pv 12) (pe_lst (pa_cons pe_str (pa_cons pe_str pa_nil))) (by rfl)) (pe_op op_add pe_int (pe_call G_draw (hr.mono (by decide)) rfl D_draw.mg D_draw.fn.kp D_draw.bd .nil pass0 (pa_cons (pv 0) (pa_cons pe_int pa_nil)))) pe_int) (pg_name (i := 13) sc_plan.nd rfl (.inl rfl)))
      (pss_one (ps_expr (pe_bm PySem.F.plainAttrs_list PySem.F.slot_list_append PySem.F.type_list_append mt_append (pv 7) (pa_cons (pe_tup (pa_cons (pv 9) (pa_cons (pv 10) (pa_cons (pv 12) (pa_cons (pv 13) pa_nil))))) pa_nil))))))
      pss_nil))))))
      (pss_one (ps_ret (pe_lst (pa_cons (pv 6) (pa_cons (pv 7) pa_nil))))))))))), ?_⟩
    refine ⟨(by show 12 ≤ sizeLine; decide), fun M hM => ?_⟩
    have b1 := (But.refl (b := a) (H := H)).new (o := .lst (MENU.map V.str)) hM
    have w1 : Well (upd H M (.lst (MENU.map V.str))) a := hw.put (hw.ne_none hM)
    have M1 : upd H M (.lst (MENU.map V.str)) M = some (.lst (MENU.map V.str)) := upd_same
    show tSeq _ _ _ _ (upd H M (.lst (MENU.map V.str)))
    generalize upd H M (.lst (MENU.map V.str)) = H1 at b1 w1 M1 ⊢
    have Ma := hw.ne_none hM
    refine ⟨_, rfl, _, rfl, a, most, rfl, w1, by omega, m_small (by omega) (by omega), fun r H2 b2 w2 r0 r1 => ⟨1, r, rfl, rfl, _, rfl, a, 12, rfl, w2, by decide, by decide, fun g H3 b3 w3 g0 g1 => ⟨_, _, rfl, ?_⟩⟩⟩
    obtain ⟨g, rfl⟩ := Int.eq_ofNat_of_zero_le g0
    obtain ⟨n, hn⟩ : ∃ n : Nat, (1 + r : Int) = n := ⟨(1 + r).toNat, by omega⟩
    dsimp only
    rw [hn]
    have n1 : 1 ≤ n := by omega
    have n6 : n ≤ most := by omega
    have B3 := (b1.trans b2).trans b3
    have M3 := b3 _ _ Ma (b2 _ _ Ma M1)
    refine join_asg (fun x H' => ∃ q : Nat, x = .int (q : Int) ∧ q ∈ [1, 5, 7, 11] ∧ But a H H' ∧ Well H' a ∧ H' M = some (.lst (MENU.map V.str))) (fun Q' fin => ?_) ?_
    · refine ⟨(by show 4 ≤ sizeLine; decide), fun l hl => ?_⟩
      refine ⟨_, rfl, a, 4, rfl, w3.put (w3.ne_none hl), by decide, by decide, fun r H4 b4 w4 r0 r1 => ?_⟩
      obtain ⟨r, rfl⟩ := Int.eq_ofNat_of_zero_le r0
      obtain ⟨q, q4, hq⟩ := step4 r (by omega)
      refine ⟨l, _, _, _, rfl, rfl, SqL.of (b4 _ _ (w3.ne_none hl) upd_same), atI_nat hq, fin _ _ ⟨q, rfl, q4, (B3.new hl).trans b4, w4, b4 _ _ Ma ?_⟩⟩
      rw [upd_ne (ne_of_none M3 hl)]
      exact M3
    rintro _ H4 ⟨q, rfl, q4, B4, w4, M4⟩
    dsimp only [gName]
    refine ⟨(by show 0 ≤ sizeLine; decide), fun LS hLS => ⟨(by show 0 ≤ sizeLine; decide), fun LR hLR => ⟨_, _, rfl, ?_⟩⟩⟩
    have LSa := w4.ne_none hLS
    have MS : M ≠ LS := ne_of_none M4 hLS
    have RS : LR ≠ LS := fun e => by
      rw [e, upd_same] at hLR
      cases hLR
    have hLR4 : H4 LR = none := by
      rw [upd_ne RS] at hLR
      exact hLR
    have LRa := w4.ne_none hLR4
    have MR : M ≠ LR := ne_of_none M4 hLR4
    have B5 := (B4.new (o := .lst []) hLS).new (o := .lst []) hLR
    have w5 : Well (upd (upd H4 LS (.lst [])) LR (.lst [])) a := (w4.put LSa).put LRa
    have M5 : (upd (upd H4 LS (.lst [])) LR (.lst [])) M = some (.lst (MENU.map V.str)) := by rw [upd_ne MR, upd_ne MS]; exact M4
    have S5 : (upd (upd H4 LS (.lst [])) LR (.lst [])) LS = some (.lst []) := by rw [upd_ne RS.symm, upd_same]
    have R5 : (upd (upd H4 LS (.lst [])) LR (.lst [])) LR = some (.lst []) := upd_same
    have fS : H LS = none := B4.free LSa hLS
    have fR : H LR = none := B4.free LRa hLR4
    generalize upd (upd H4 LS (.lst [])) LR (.lst []) = H5 at B5 w5 M5 S5 R5 ⊢
    clear hLR hLS M4 w4 B4 M3 B3 b3 b2 w3 w2 b1 w1 M1
    dsimp only
    refine join_st (fun σ' H' => ∃ (vs : List V) (ss : List Sr) (x8 : Option V), σ' = [some (.ref a), some (.int most), some (.ref M), some (.int n), some (.int g), some (.int q), some (.ref LS), some (.ref LR), x8, none, none, none, none, none] ∧ But a H H' ∧ Well H' a ∧
      H' LS = some (.lst vs) ∧ H' LR = some (.lst []) ∧ All2 (SrAt H') vs ss ∧ ss.map (·.name) = (List.range n).map (nameAt g q) ∧ ss.length = n) (fun nx' fin => ?_) ?_
    · refine ⟨_, rfl, _, rfl, by omega, by omega, for_range (lo := 0) (fun i σ' H' => ∃ (vs : List V) (ss : List Sr) (x8 : Option V), σ' = [some (.ref a), some (.int most), some (.ref M), some (.int n), some (.int g), some (.int q), some (.ref LS), some (.ref LR), x8, none, none, none, none, none] ∧ But a H H' ∧ Well H' a ∧
        H' M = some (.lst (MENU.map V.str)) ∧ H' LS = some (.lst vs) ∧ H' LR = some (.lst []) ∧ All2 (SrAt H') vs ss ∧ ss.map (·.name) = (List.range i).map (nameAt g q) ∧ ss.length = i) ?_ ?_ ?_⟩
      · exact ⟨[], [], none, rfl, B5, w5, M5, S5, R5, .nil, rfl, rfl⟩
      · rintro i σ' H' hi ⟨vs, ss, x8, rfl, bb, ww, hm, hs, hR, al, nm, len⟩
        have hi : i < n := by omega
        have q11 : q ≤ 11 := by
          simp only [List.mem_cons, List.not_mem_nil, or_false] at q4
          omega
        have e1 : ((g : Int) + q * (0 + (i : Nat))) % 12 = (((g + q * i) % 12 : Nat) : Int) := by
          rw [Int.zero_add]
          rfl
        refine ⟨_, rfl, .inl ⟨rfl, _, SqL.of hs⟩, _, rfl, _, rfl, _, rfl, _, rfl, _, rfl, _, _, rfl, rfl, .inl ⟨by omega, by omega⟩, _, _, rfl, rfl, .inl ⟨_, rfl, _, _, rfl, rfl, (by show (0 : Int) < 12; decide), M, _, _, _, rfl, rfl, SqL.of hm, by rw [e1]; exact atI_nat (menu_at _ (Nat.mod_lt _ (by decide))), ?_⟩⟩
        refine ⟨a, _, rfl, ww, fun v sr H6 b6 w6 hsr nmr => ?_⟩
        have hs6 := b6 _ _ LSa hs
        refine ⟨LS, _, _, rfl, rfl, hs6, ?_, ?_⟩
        · rw [al.len, len]
          exact Nat.lt_of_lt_of_le (show i < 7 by omega) (by decide)
        · refine ⟨vs ++ [v], ss ++ [sr], _, rfl, (bb.trans b6).at fS, w6.put LSa, ?_, upd_same, ?_, ?_, ?_, ?_⟩
          · rw [upd_ne MS]
            exact b6 _ _ Ma hm
          · rw [upd_ne RS]
            exact b6 _ _ LRa hR
          · exact (All2.snoc hsr (al.mono fun _ _ z => z.tup (TupS.but ww b6))).mono fun _ _ z => z.tup (TupS.lst hs6)
          · rw [List.map_append, nm, List.range_succ, List.map_append]
            show _ ++ [sr.name] = _ ++ [nameAt g q i]
            rw [nmr]
            rfl
          · rw [List.length_append, len]
            rfl
      · rintro σ' H' ⟨vs, ss, x8, rfl, bb, ww, hm, hs, hR, al, nm, len⟩
        exact fin _ _ ⟨vs, ss, x8, rfl, bb, ww, hs, hR, al, nm, len⟩
    rintro σ' H6 ⟨vs, ss, x8, rfl, B6, w6, S6, R6, al, nm, len⟩
    have n36 : ∀ m : Nat, m ≤ 36 → m < sizeLine := fun m hm => Nat.lt_of_le_of_lt hm (by decide)
    refine join_st (fun σ' H' => ∃ (us : List V) (rs : List Rw) (x8 x9 x10 x11 x12 x13 : Option V), σ' = [some (.ref a), some (.int most), some (.ref M), some (.int n), some (.int g), some (.int q), some (.ref LS), some (.ref LR), x8, x9, x10, x11, x12, x13] ∧ But a H H' ∧ Well H' a ∧
      H' LS = some (.lst vs) ∧ H' LR = some (.lst us) ∧ All2 (SrAt H') vs ss ∧ All2 (RwAt H') us rs ∧ RowsTo n n 0 rs) (fun nx' fin => ?_) ?_
    · refine ⟨_, rfl, _, rfl, by omega, by omega, for_range (lo := 0) (fun i σ' H' => ∃ (us : List V) (rs : List Rw) (x8 x9 x10 x11 x12 x13 : Option V), σ' = [some (.ref a), some (.int most), some (.ref M), some (.int n), some (.int g), some (.int q), some (.ref LS), some (.ref LR), x8, x9, x10, x11, x12, x13] ∧ But a H H' ∧ Well H' a ∧
        H' LS = some (.lst vs) ∧ H' LR = some (.lst us) ∧ All2 (SrAt H') vs ss ∧ All2 (RwAt H') us rs ∧ RowsTo n i 0 rs) ?_ ?_ ?_⟩
      · exact ⟨[], [], x8, none, none, none, none, none, rfl, B6, w6, S6, R6, al, .nil, .nil⟩
      · rintro o σ' H' ho ⟨us, rs, x8, x9, x10, x11, x12, x13, rfl, bb, ww, hs, hR, al, ar, rt⟩
        have ho : o < n := by omega
        refine ⟨_, rfl, _, rfl, by omega, by omega, for_range (lo := 0) (fun i σ' H' => ∃ (us : List V) (rs : List Rw) (x10 x11 x12 x13 : Option V), σ' = [some (.ref a), some (.int most), some (.ref M), some (.int n), some (.int g), some (.int q), some (.ref LS), some (.ref LR), x8, some (.int (0 + (o : Nat))), x10, x11, x12, x13] ∧ But a H H' ∧ Well H' a ∧
          H' LS = some (.lst vs) ∧ H' LR = some (.lst us) ∧ All2 (SrAt H') vs ss ∧ All2 (RwAt H') us rs ∧ RowsTo n o i rs) ?_ ?_ ?_⟩
        · exact ⟨us, rs, _, _, _, _, rfl, bb, ww, hs, hR, al, ar, rt⟩
        · rintro i σ' H' hi ⟨us, rs, x10, x11, x12, x13, rfl, bb, ww, hs, hR, al, ar, rt⟩
          have hi : i < n := by omega
          have rl : us.length < sizeLine := by
            rw [ar.len]
            refine n36 _ (Nat.le_trans rt.len ?_)
            have : o * n ≤ 5 * 6 := Nat.mul_le_mul (by omega) (by omega)
            omega
          refine ⟨_, rfl, a, 12, rfl, ww, by decide, by decide, fun wi H7 b7 w7 _ _ => ?_⟩
          have hs7 := b7 _ _ LSa hs
          have hR7 := b7 _ _ LRa hR
          have al7 := al.mono fun _ _ z => z.tup (TupS.but ww b7)
          have ar7 := ar.mono fun _ _ z => z.tup (TupS.but ww b7)
          have bb7 := bb.trans b7
          clear b7 hs hR al ar bb ww
          dsimp only [gName]
          refine join_it (fun b H1 => H1 = H7) (fun Q' fin => ?_) ?_
          · refine ⟨_, rfl, _, _, rfl, rfl, _, rfl, ?_⟩
            refine ite2 (fun _ => ⟨_, rfl, _, rfl, _, _, rfl, rfl, _, rfl, ?_⟩) (fun _ => ?_)
            · exact ite2 (fun _ => fin _ _ rfl) (fun _ => ⟨_, rfl, rfl, _, rfl, fin _ _ rfl⟩)
            · exact iteF ⟨_, rfl, rfl, _, rfl, fin _ _ rfl⟩
          rintro b _ rfl
          refine ite2 (fun _ => ?_) (fun _ => ?_)
          · refine join_asg (fun x H' => ∃ z : Str, x = .str z ∧ ((z = "each" ∨ z = "all") ∨ (z = "again" ∨ z = "free")) ∧ But a H H' ∧ Well H' a ∧ H' LS = some (.lst vs) ∧ H' LR = some (.lst us) ∧ All2 (SrAt H') vs ss ∧ All2 (RwAt H') us rs) (fun Q' fin => ?_) ?_
            · refine ⟨(by show 7 ≤ sizeLine; decide), fun l hl => ?_⟩
              refine ⟨_, rfl, a, 7, rfl, w7.put (w7.ne_none hl), by decide, by decide, fun r H8 b8 w8 r0 r1 => ?_⟩
              obtain ⟨r, rfl⟩ := Int.eq_ofNat_of_zero_le r0
              obtain ⟨z, hz, hz2⟩ := words7 r (by omega)
              have tp := (TupS.of (same_new (o := .lst [.str "each", .str "each", .str "all", .str "again", .str "each", .str "all", .str "free"]) hl)).trans (TupS.but (w7.put (w7.ne_none hl)) b8)
              refine ⟨l, _, _, _, rfl, rfl, SqL.of (b8 _ _ (w7.ne_none hl) upd_same), atI_nat hz, fin _ _ ⟨z, rfl, hz2, (bb7.new hl).trans b8, w8, b8 _ _ LSa ?_, b8 _ _ LRa ?_, al7.mono fun _ _ q => q.tup tp, ar7.mono fun _ _ q => q.tup tp⟩⟩
              · exact same_new hl _ _ hs7
              · exact same_new hl _ _ hR7
            rintro _ H8 ⟨z, rfl, hz, bb8, w8, hs8, hR8, al8, ar8⟩
            dsimp only [gName]
            refine join_asg (fun x H' => ∃ k : Nat, x = .int (k : Int) ∧ Rw.Ok n ⟨o, i, z, k⟩ ∧ But a H H' ∧ Well H' a ∧ H' LS = some (.lst vs) ∧ H' LR = some (.lst us) ∧ All2 (SrAt H') vs ss ∧ All2 (RwAt H') us rs) (fun Q' fin => ?_) ?_
            · refine ⟨_, rfl, (by show 2 ≤ sizeLine; decide), fun l hl => ⟨l, _, rfl, .inl (SqL.of upd_same), rfl, rfl, _, rfl, ?_⟩⟩
              have tp := TupS.of (same_new (o := .lst [.str (Str.ofString "each"), .str (Str.ofString "all")]) hl)
              have w9 : Well (upd H8 l (.lst [.str (Str.ofString "each"), .str (Str.ofString "all")])) a := w8.put (w8.ne_none hl)
              have hs9 := same_new (o := .lst [.str (Str.ofString "each"), .str (Str.ofString "all")]) hl _ _ hs8
              have hR9 := same_new (o := .lst [.str (Str.ofString "each"), .str (Str.ofString "all")]) hl _ _ hR8
              have bb9 := bb8.new (o := .lst [.str (Str.ofString "each"), .str (Str.ofString "all")]) hl
              have al9 := al8.mono fun _ _ q => q.tup tp
              have ar9 := ar8.mono fun _ _ q => q.tup tp
              obtain ⟨e1, e2, e3, e4⟩ := each_in
              have yes : (z = "each" ∨ z = "all") → inV (.str z) [.str (Str.ofString "each"), .str (Str.ofString "all")] = true := by
                rintro (rfl | rfl)
                · exact e1
                · exact e2
              have no : (z = "again" ∨ z = "free") → inV (.str z) [.str (Str.ofString "each"), .str (Str.ofString "all")] = false := by
                rintro (rfl | rfl)
                · exact e3
                · exact e4
              rcases hz with hz | hz
              · rw [yes hz]
                refine iteT ⟨_, rfl, a, 3, rfl, w9, by decide, by decide, fun k H9 b9 w10 k0 k1 => ⟨1, k, rfl, rfl, fin _ _ ⟨(1 + k).toNat, by rw [Int.toNat_of_nonneg (by omega)], ⟨ho, hi, .inl ⟨hz, by dsimp only; omega, by dsimp only; omega⟩⟩, bb9.trans b9, w10, b9 _ _ LSa hs9, b9 _ _ LRa hR9, al9.mono fun _ _ q => q.tup (TupS.but w9 b9), ar9.mono fun _ _ q => q.tup (TupS.but w9 b9)⟩⟩⟩
              · rw [no hz]
                exact iteF (fin _ _ ⟨0, rfl, ⟨ho, hi, .inr ⟨hz, rfl⟩⟩, bb9, w9, hs9, hR9, al9, ar9⟩)
            rintro _ H9 ⟨k, rfl, rok, bb9, w9, hs9, hR9, al9, ar9⟩
            dsimp only [gName]
            refine ⟨_, rfl, .inl ⟨rfl, _, SqL.of hR9⟩, _, rfl, _, rfl, _, rfl, _, rfl, (by show 4 ≤ sizeLine; decide), fun t ht => ?_⟩
            have hR10 := same_new (o := .tup [.int (0 + (o : Nat)), .int (0 + (i : Nat)), .str z, .int k]) ht _ _ hR9
            have tp := (TupS.of (same_new (o := .tup [.int (0 + (o : Nat)), .int (0 + (i : Nat)), .str z, .int k]) ht)).trans (TupS.lst (ys := us ++ [.ref t]) hR10)
            refine ⟨LR, _, _, rfl, rfl, hR10, rl, us ++ [.ref t], rs ++ [⟨o, i, z, k⟩], _, _, _, _, rfl, (bb9.new ht).at fR, (w9.put (w9.ne_none ht)).put LRa, ?_, upd_same, al9.mono fun _ _ q => q.tup tp, All2.snoc ?_ (ar9.mono fun _ _ q => q.tup tp), rt.add rok⟩
            · rw [upd_ne RS.symm]
              exact same_new ht _ _ hs9
            · refine ⟨t, rfl, ?_⟩
              rw [upd_ne (ne_of_none hR9 ht).symm, upd_same, Int.zero_add, Int.zero_add]
          · exact ⟨us, rs, _, _, _, _, rfl, bb7, w7, hs7, hR7, al7, ar7, rt.skip⟩
        · rintro σ' H' ⟨us, rs, x10, x11, x12, x13, rfl, bb, ww, hs, hR, al, ar, rt⟩
          exact ⟨us, rs, _, _, _, _, _, _, rfl, bb, ww, hs, hR, al, ar, RowsTo.next (by simpa using rt)⟩
      · rintro σ' H' ⟨us, rs, x8, x9, x10, x11, x12, x13, rfl, bb, ww, hs, hR, al, ar, rt⟩
        exact fin _ _ ⟨us, rs, _, _, _, _, _, _, rfl, bb, ww, hs, hR, al, ar, by simpa using rt⟩
    rintro σ' H7 ⟨us, rs, x8, x9, x10, x11, x12, x13, rfl, bb, ww, hs, hR, al, ar, rt⟩
    refine ⟨_, rfl, _, rfl, (by show 2 ≤ sizeLine; decide), fun p hp => ?_⟩
    refine ret _ ss rs _ (bb.new hp) (ww.put (ww.ne_none hp)) ⟨p, LS, LR, vs, us, rfl, upd_same, same_new hp _ _ hs, same_new hp _ _ hR, al.mono fun _ _ q => q.tup (TupS.of (same_new hp)), ar.mono fun _ _ q => q.tup (TupS.of (same_new hp))⟩
      ⟨by omega, by omega, ⟨g, by omega, q, q4, by rw [len]; exact nm⟩, fun r hr => by rw [len]; exact (rt.ok r hr).1, rt.nd, by have := rt.len; rw [len]; omega⟩
end L

namespace Hv
open PySem L2
abbrev BLANK : Str := Str.ofString " "
/-- the word and the number of an amount -/
def sortOf (z : Str) : Option (Str × Nat) :=
  if z = Str.ofString "free" ∨ z = Str.ofString "again" then some (z, 0) else
  match numOf (Txt.partition z BLANK).2.2 3 with
  | some n => if ((Txt.partition z BLANK).1 = Str.ofString "each" ∨ (Txt.partition z BLANK).1 = Str.ofString "all") ∧ 1 ≤ n then some ((Txt.partition z BLANK).1, n) else none
  | none => none
theorem inV_two (z a b : Str) : inV (.str z) [.str a, .str b] = decide (z = a ∨ z = b) := by
  have e1 : (a = z) = (z = a) := propext ⟨Eq.symm, Eq.symm⟩
  have e2 : (b = z) = (z = b) := propext ⟨Eq.symm, Eq.symm⟩
  by_cases h1 : z = a <;> by_cases h2 : z = b <;> simp [inV, eqV, e1, e2, h1, h2]
def sp_sort_of (K : PySem.W.Frag) : Sp := fun vs H Q _ =>
  (∃ z : Str, vs = [.str z] ∧ z.length ≤ sizeLine ∧ (Txt.partition z BLANK).2.2.length ≤ sizeLine ∧ (sortOf z = none → ∀ H', Same H H' → Q .non H') ∧
    ∀ u n, sortOf z = some (u, n) → ∀ p H', H p = none → Same H H' → H' p = some (.tup [.str u, .int (n : Int)]) → Q (.ref p) H') ∨
  ∃ (v : V) (t : Value), vs = [v] ∧ TyX K H v t ∧ PySem.W.kitOne K t (.type "str") = some false ∧ Q .non H
/-- a row of these three parts -/
def RowAt (C : Addr) (H : Hp) (a : Addr) (o i m : Str) : Prop := ∃ dx pt, H a = some (.ins C dx [("parts", .ref pt)]) ∧ H pt = some (.tup [.str o, .str i, .str m])
structure RowOk (o i m : Str) : Prop where
  oOk : nameOk o = true
  ol : o.length ≤ sizeLine
  iOk : nameOk i = true
  il : i.length ≤ sizeLine
  mOk : (sortOf m).isSome = true
  ml : m.length ≤ sizeLine
  pl : (Txt.partition m BLANK).2.2.length ≤ sizeLine
def sp_row_init (C : Addr) : Sp := fun vs H Q _ => ∃ (x dx : Addr) (o i m : Str), vs = [.ref x, .str o, .str i, .str m] ∧ RowOk o i m ∧
  H x = some (.ins C dx []) ∧ H dx = some (.own x) ∧ dx ≠ x ∧ ∀ H', (∀ b o, b ≠ x → H b = some o → H' b = some o) → RowAt C H' x o i m → Q .non H'
end Hv
namespace L
open PySem L2 Hv
variable {P : Program} {w : World} {K : PySem.W.Frag} {mg : Str → Option Value} {base : Heap}
abbrev s_sort_of : Stmt := top 33
abbrev N_sort_of : List Str := ["amount", "word", "mark", "digits", "number"]
abbrev P_sort_of : List Str := ["amount"]
theorem sc_sort_of : FnScope N_sort_of P_sort_of (defScope s_sort_of) := ⟨rfl, rfl, rfl, by decide +kernel, rfl, by decide +kernel, by decide +kernel⟩
theorem ok_sort_of {f f1 : Addr} {fd fd1 : FuncData} (D : DefAt K mg "sort_of" s_sort_of P_sort_of f fd) (T : Txt K mg)
    (D_number_of : DefAt K mg "number_of" s_number_of P_number_of f1 fd1) (G_number_of : FnOk P w K mg base CX0 1 f1 fd1 P_number_of sp_number_of) : FnOk P w K mg base CX0 2 f fd P_sort_of (sp_sort_of K) := by
  refine D.fn.ok sc_sort_of (fun vs H Q E h => ?_) (fun cdv A outer s H vs Q E hr h => ?_)
  · rcases h with ⟨z, rfl, _⟩ | ⟨v, t, rfl, _⟩ <;> rfl
  · refine ⟨_, (pss_cons (ps_if (pt_not (pt_val (pe_callB call_isi (by rfl) T.isinstance (by decide +kernel) (pa_cons (pv 0) (pa_cons (pe_bltn (v := .ty "str") (u := .type "str") (by rfl) T.str (by decide +kernel) rfl) pa_nil)))))
      (pss_one (ps_ret pe_non))
      pss_nil)
      (pss_cons (ps_if (pt_cmpR op_in_seq (pv 0) (pe_tup (pa_cons pe_str (pa_cons pe_str pa_nil))) (by rfl))
      (pss_one (ps_ret (pe_tup (pa_cons (pv 0) (pa_cons pe_int pa_nil)))))
      pss_nil)
      (pss_cons (ps_asg (pe_partition (pv 0) pe_str) (pg_tup (by rfl) (pgs_cons (pg_name (i := 1) sc_sort_of.nd rfl (.inl rfl)) (pgs_cons (pg_name (i := 2) sc_sort_of.nd rfl (.inl rfl)) (pgs_cons (pg_name (i := 3) sc_sort_of.nd rfl (.inl rfl)) pgs_nil)))))
      (pss_cons (ps_asg (pe_call G_number_of (hr.mono (by decide)) rfl D_number_of.mg D_number_of.fn.kp D_number_of.bd .nil pass0 (pa_cons (pv 3) (pa_cons (pe_glob (v := .int 3) rfl T.cMOST_TIMES.choose_spec ⟨_, rfl⟩) pa_nil))) (pg_name (i := 4) sc_sort_of.nd rfl (.inl rfl)))
      (pss_one (ps_ret (pe_ifExp (PW.pt (pw_or (pt_cmpR op_notIn_seq (pv 1) (pe_tup (pa_cons pe_str (pa_cons pe_str pa_nil))) (by rfl)) (pw_or (pt_cmpR op_isN (pv 4) pe_non (nomark _)) (pw_or1 (pt_cmpR op_lt (pv 4) pe_int (nomark _)))))) pe_non (pe_tup (pa_cons (pv 1) (pa_cons (pv 4) pa_nil)))))))))), ?_⟩
    rcases h with ⟨z, rfl, hz, hp, rn, rs⟩ | ⟨v, t, rfl, ty, kit, ret⟩
    · refine ⟨_, rfl, _, _, _, _, _, rfl, .ty _, .base (.str z), kit_ty (r := true) (by decide +kernel), _, rfl, ?_⟩
      refine ⟨_, rfl, by decide, fun t ht => ⟨_, _, rfl, .inr (SqT.of upd_same), rfl, rfl, _, rfl, ?_⟩⟩
      rw [inV_two]
      by_cases c : z = Str.ofString "free" ∨ z = Str.ofString "again"
      · refine ifT c ⟨_, rfl, by show 2 ≤ sizeLine; decide, fun p hp0 => ?_⟩
        exact rs z 0 (by unfold sortOf; rw [if_pos c]) p _ ((same_new ht).free hp0) ((same_new ht).trans (same_new hp0)) upd_same
      · refine ifF c ?_
        have un : sortOf z = match numOf (Txt.partition z BLANK).2.2 3 with
            | some n => if ((Txt.partition z BLANK).1 = Str.ofString "each" ∨ (Txt.partition z BLANK).1 = Str.ofString "all") ∧ 1 ≤ n then some ((Txt.partition z BLANK).1, n) else none
            | none => none := by
          unfold sortOf
          rw [if_neg c]
          try rfl
        refine ⟨_, rfl, ⟨_, rfl⟩, _, _, rfl, rfl, by decide, hz, fun p hp0 => ?_⟩
        have s1 := (same_new (o := .tup [.str (Str.ofString "free"), .str (Str.ofString "again")]) ht).trans (same_new (o := .tup [.str (Txt.partition z BLANK).1, .str (Txt.partition z BLANK).2.1, .str (Txt.partition z BLANK).2.2]) hp0)
        refine ⟨p, _, rfl, SqT.of upd_same, rfl, _, _, rfl, _, _, rfl, _, _, rfl, rfl, ?_⟩
        refine ⟨_, rfl, _, 3, rfl, hp, by decide, fun H1 s2 => ?_⟩
        have s3 := s1.trans s2
        refine ⟨_, rfl, by decide, fun t2 ht2 => ⟨_, _, rfl, .inr (SqT.of upd_same), rfl, rfl, _, rfl, ?_⟩⟩
        have s4 := s3.trans (same_new (o := .tup [.str (Str.ofString "each"), .str (Str.ofString "all")]) ht2)
        show (if (!inV (.str (Txt.partition z BLANK).1) [.str (Str.ofString "each"), .str (Str.ofString "all")]) = true then _ else _)
        rw [inV_two]
        by_cases c1 : (Txt.partition z BLANK).1 = Str.ofString "each" ∨ (Txt.partition z BLANK).1 = Str.ofString "all"
        · refine ifNF c1 ?_
          cases en : numOf (Txt.partition z BLANK).2.2 3 with
          | none =>
            rw [en] at un
            exact ⟨_, rfl, rfl, _, rfl, ifT rfl (rn un _ s4)⟩
          | some n =>
            rw [en] at un
            refine ⟨_, rfl, rfl, _, rfl, ifF (by intro q; cases q) ⟨_, rfl, _, _, rfl, rfl, _, rfl, ?_⟩⟩
            by_cases c2 : 1 ≤ n
            · refine ifF (by omega) ⟨_, rfl, _, rfl, by show 2 ≤ sizeLine; decide, fun p2 hp2 => ?_⟩
              dsimp only at un
              rw [if_pos ⟨c1, c2⟩] at un
              exact rs _ n un p2 _ (s4.free hp2) (s4.trans (same_new hp2)) upd_same
            · dsimp only at un
              rw [if_neg (fun q => c2 q.2)] at un
              exact ifT (by omega) (rn un _ s4)
        · refine ifNT c1 (rn ?_ _ s4)
          rw [un]
          cases numOf (Txt.partition z BLANK).2.2 3 with
          | none => rfl
          | some n => exact if_neg fun q => c1 q.1
    · exact ⟨_, rfl, _, _, _, _, _, rfl, .ty _, ty, kit, _, rfl, ret⟩
end L

namespace Hv
open PySem L2 TL
theorem str_ext {a b : Str} (h : a.cps.toList = b.cps.toList) : a = b := by
  obtain ⟨⟨x⟩⟩ := a
  obtain ⟨⟨y⟩⟩ := b
  cases (show x = y from h)
  rfl
/-- the parts, put together again -/
def glue (c : Nat) : List (List Nat) → List Nat
  | [] => []
  | [p] => p
  | p :: q :: r => p ++ c :: glue c (q :: r)
theorem pre_one {c d : Nat} {r : List Nat} : pre [c] (d :: r) = decide (d = c) := by
  show (List.take 1 (d :: r) == [c]) = _
  rw [Bool.eq_iff_iff]
  simp
theorem spl_ne (c : Nat) : ∀ (l acc : List Nat), spl [c] 0 acc l ≠ []
  | [], acc => by rw [spl_nil]; simp
  | d :: r, acc => by
    by_cases h : d = c
    · rw [spl_hit (by rw [pre_one, decide_eq_true h])]
      simp
    · rw [spl_miss (by rw [pre_one, decide_eq_false h])]
      exact spl_ne c r _
theorem spl_glue (c : Nat) : ∀ (l acc : List Nat), glue c (spl [c] 0 acc l) = acc ++ l
  | [], acc => by rw [spl_nil]; simp [glue]
  | d :: r, acc => by
    by_cases h : d = c
    · rw [spl_hit (by rw [pre_one, decide_eq_true h])]
      show glue c (acc :: spl [c] 0 [] r) = _
      have ih := spl_glue c r []
      cases e : spl [c] 0 [] r with
      | nil => exact absurd e (spl_ne c r [])
      | cons p q =>
        rw [e] at ih
        show acc ++ c :: glue c (p :: q) = _
        rw [ih, h]
        rfl
    · rw [spl_miss (by rw [pre_one, decide_eq_false h]), spl_glue c r]
      simp
theorem spl_len (c : Nat) : ∀ (l acc : List Nat), ∀ p ∈ spl [c] 0 acc l, p.length ≤ acc.length + l.length
  | [], acc => by
    rw [spl_nil]
    intro p hp
    rw [List.mem_singleton.mp hp]
    exact Nat.le_refl _
  | d :: r, acc => by
    intro p hp
    by_cases h : d = c
    · rw [spl_hit (by rw [pre_one, decide_eq_true h])] at hp
      rcases List.mem_cons.mp hp with rfl | hp
      · omega
      · have := spl_len c r [] p hp
        simp at this ⊢
        omega
    · rw [spl_miss (by rw [pre_one, decide_eq_false h])] at hp
      have := spl_len c r _ p hp
      simp at this ⊢
      omega
theorem kind_slash (z : Str) : ¬ Builtin.Str.strKind z < Builtin.Str.strKind SLASH := by
  have : Builtin.Str.strKind SLASH = 1 := by decide +kernel
  rw [this]
  unfold Builtin.Str.strKind
  repeat' split
  all_goals decide
theorem slash_tl : SLASH.cps.toList = [47] := by decide +kernel
theorem split_tl (z : Str) : (Txt.split z SLASH).map tl = spl [47] 0 [] z.cps.toList := by
  have := split_spl z SLASH (by rw [show tl SLASH = [47] from slash_tl]; simp) (kind_slash z)
  rw [show tl SLASH = [47] from slash_tl] at this
  exact this
theorem split_two {z a b : Str} (h : Txt.split z SLASH = [a, b]) : z = a ++ SLASH ++ b := by
  have e := split_tl z
  rw [h] at e
  have g := spl_glue 47 z.cps.toList []
  rw [← e] at g
  apply str_ext
  have l : (a ++ SLASH ++ b).cps.toList = a.cps.toList ++ SLASH.cps.toList ++ b.cps.toList := by
    show (a.cps ++ SLASH.cps ++ b.cps).toList = _
    simp
  rw [l, slash_tl]
  have g' : a.cps.toList ++ 47 :: b.cps.toList = [] ++ z.cps.toList := g
  simp only [List.nil_append] at g'
  rw [← g']
  simp
theorem prefix_two (z : Str) : (isOver z = true ∧ z = MARK ++ Txt.removeprefix z MARK) ∨ (isOver z = false ∧ Txt.removeprefix z MARK = z) := by
  have ml : MARK.length = 5 := by decide +kernel
  by_cases h : Builtin.Str.subAt z MARK 0 = true
  · have h' : z.cps.extract 0 5 = MARK.cps := by
      unfold Builtin.Str.subAt at h
      rw [ml] at h
      exact eq_of_beq h
    have sz : 5 ≤ z.cps.size := by
      have := congrArg Array.size h'
      rw [Array.size_extract] at this
      have m2 : MARK.cps.size = 5 := ml
      omega
    left
    refine ⟨?_, ?_⟩
    · unfold isOver Txt.startswith
      rw [h, ml]
      simp
      exact sz
    · unfold Txt.removeprefix
      rw [if_pos h, ml]
      unfold Txt.affix
      have zl : z.length = z.cps.size := rfl
      dsimp only
      rw [if_neg (by rw [beq_iff_eq, zl]; omega)]
      apply str_ext
      show z.cps.toList = (MARK.cps ++ z.cps.extract 5 z.length).toList
      rw [← h']
      simp [zl]
      rw [List.take_of_length_le (by simp; omega)]
  · right
    refine ⟨?_, ?_⟩
    · unfold isOver Txt.startswith
      rw [Bool.eq_false_iff.mpr h]
      simp
    · unfold Txt.removeprefix
      rw [if_neg h]
      rfl
def inBL (z : Str) : Bool := BL.any fun x => decide (x = z)
theorem inBL_iff {z : Str} : inBL z = true ↔ z ∈ BL := by
  unfold inBL
  rw [List.any_eq_true]
  constructor
  · rintro ⟨x, hx, e⟩
    rw [← of_decide_eq_true e]
    exact hx
  · exact fun h => ⟨z, h, decide_eq_true rfl⟩
def blTab (q p : Nat) : Bool := !(decide (1 ≤ q) && Nat.gcd p q == 1) || ((!decide (p ≤ q) || inBL (text p ++ SLASH ++ text q)) && (!decide (p + 1 ≤ q) || inBL (MARK ++ (text p ++ SLASH ++ text q))))
theorem bl_mem0 : ((List.range 13).all fun q => (List.range 13).all fun p => blTab q p) = true := by decide +kernel
theorem bl_mem (q : Nat) (h1 : q < 13) (p : Nat) (h2 : p < 13) (h3 : 1 ≤ q) (h4 : Nat.gcd p q = 1) : (p ≤ q → text p ++ SLASH ++ text q ∈ BL) ∧ (p + 1 ≤ q → MARK ++ (text p ++ SLASH ++ text q) ∈ BL) := by
  have h := List.all_eq_true.mp (List.all_eq_true.mp bl_mem0 q (List.mem_range.mpr h1)) p (List.mem_range.mpr h2)
  unfold blTab at h
  rw [decide_eq_true h3, h4] at h
  simp only [BEq.rfl, Bool.and_self, Bool.not_true, Bool.false_or, Bool.and_eq_true, Bool.or_eq_true, Bool.not_eq_true', decide_eq_false_iff_not] at h
  exact ⟨fun q => inBL_iff.mp (h.1.resolve_left (fun z => z q)), fun q => inBL_iff.mp (h.2.resolve_left (fun z => z q))⟩
theorem frac_mem {z : Str} (h : (fracOf z).isSome = true) : z ∈ BL := by
  obtain ⟨⟨p, q⟩, e⟩ := Option.isSome_iff_exists.mp h
  have len : (Txt.split (Txt.removeprefix z MARK) SLASH).length = 2 := by
    by_cases l : (Txt.split (Txt.removeprefix z MARK) SLASH).length = 2
    · exact l
    · rw [fracOf_len l] at e
      cases e
  obtain ⟨a, b, hs⟩ := two_of len
  have hz := split_two hs
  rw [fracOf_two hs] at e
  cases e1 : numOf a 12 with
  | none => rw [e1] at e; cases e
  | some p1 =>
    cases e2 : numOf b 12 with
    | none => rw [e1, e2] at e; cases e
    | some q1 =>
      rw [e1, e2] at e
      dsimp only at e
      obtain ⟨l1, t1⟩ := numOf_some e1
      obtain ⟨l2, t2⟩ := numOf_some e2
      by_cases c : q1 < 1 ∨ 1 < Nat.gcd p1 q1
      · rw [if_pos c] at e
        cases e
      · have g : 0 < Nat.gcd p1 q1 := Nat.gcd_pos_of_pos_right _ (by omega)
        obtain ⟨m1, m2⟩ := bl_mem q1 (by omega) p1 (by omega) (by omega) (by omega)
        rw [if_neg c] at e
        rw [← t1, ← t2] at hz
        rcases prefix_two z with ⟨ov, ez⟩ | ⟨ov, ez⟩
        · rw [ov] at e
          by_cases d : p1 + 1 ≤ q1
          · rw [ez, hz]
            exact m2 d
          · rw [if_neg (by simpa using d)] at e
            cases e
        · rw [ov] at e
          by_cases d : p1 ≤ q1
          · rw [← ez, hz]
            exact m1 d
          · rw [if_neg (by simpa using d)] at e
            cases e
theorem bl_iff (z : Str) : (fracOf z).isSome = inBL z := by
  cases h : (fracOf z).isSome with
  | true => rw [inBL_iff.mpr (frac_mem h)]
  | false =>
    symm
    rw [Bool.eq_false_iff]
    intro m
    have m := inBL_iff.mp m
    obtain ⟨a, b, l⟩ := line_of m
    rw [l.fr] at h
    cases h
theorem textOk_of {z : Str} (h : z.length ≤ 100000) : TextOk z := by
  have s1 : 100002 ≤ sizeLine := by decide
  have l : (Txt.removeprefix z MARK).length ≤ z.length := by
    rcases prefix_two z with ⟨_, ez⟩ | ⟨_, ez⟩
    · have := congrArg Str.length ez
      rw [Str.length_append] at this
      omega
    · rw [ez]
      exact Nat.le_refl _
  refine ⟨by omega, by omega, fun p hp => ?_⟩
  have m : tl p ∈ spl [47] 0 [] (Txt.removeprefix z MARK).cps.toList := by
    rw [← split_tl]
    exact List.mem_map.mpr ⟨p, hp, rfl⟩
  have := spl_len 47 _ _ _ m
  have e1 : (tl p).length = p.length := str_len p
  have e2 := str_len (Txt.removeprefix z MARK)
  rw [e1, e2] at this
  simp only [List.length_nil, Nat.zero_add] at this
  omega
end Hv

namespace Hv
open PySem L2 TL
/-! ### the amounts -/
theorem par_glue (c : Nat) : ∀ (l acc a b : List Nat), par [c] acc l = some (a, b) → acc ++ l = a ++ c :: b
  | [], acc, a, b, h => by cases h
  | d :: r, acc, a, b, h => by
    by_cases e : d = c
    · rw [par_hit (by rw [pre_one]; exact decide_eq_true e)] at h
      cases h
      rw [e]
      rfl
    · rw [par_miss (by rw [pre_one]; exact decide_eq_false e)] at h
      have := par_glue c r _ a b h
      simpa using this
theorem blank_tl : tl BLANK = [32] := by decide +kernel
theorem part_cases (z : Str) : Txt.partition z BLANK = (z, Str.empty, Str.empty) ∨ ∃ a b, Txt.partition z BLANK = (a, BLANK, b) ∧ z = a ++ BLANK ++ b := by
  have e := partition_par z BLANK (by rw [blank_tl]; simp)
  rw [blank_tl] at e
  cases q : par [32] [] (tl z) with
  | none =>
    rw [q] at e
    exact .inl e
  | some p =>
    obtain ⟨a, b⟩ := p
    rw [q] at e
    refine .inr ⟨_, _, e, ?_⟩
    have g := par_glue 32 (tl z) [] a b q
    apply str_ext
    have l : ∀ x y w : Str, (x ++ y ++ w).cps.toList = x.cps.toList ++ y.cps.toList ++ w.cps.toList := fun x y w => by
      show (x.cps ++ y.cps ++ w.cps).toList = _
      simp
    rw [l, show BLANK.cps.toList = [32] from blank_tl]
    have g' : z.cps.toList = a ++ 32 :: b := by simpa using g
    rw [g']
    simp
theorem part_len (z : Str) : (Txt.partition z BLANK).2.2.length ≤ z.length := by
  rcases part_cases z with e | ⟨a, b, e, h⟩
  · rw [e]
    exact Nat.zero_le _
  · rw [e]
    rw [h, Str.length_append, Str.length_append]
    show b.length ≤ _
    omega
def AMTS : List Str := [Str.ofString "each 1", Str.ofString "each 2", Str.ofString "each 3", Str.ofString "all 1", Str.ofString "all 2", Str.ofString "all 3", Str.ofString "free", Str.ofString "again"]
theorem amts_some : ∀ z ∈ AMTS, (sortOf z).isSome = true := by decide +kernel
theorem amts_free : Str.ofString "free" ∈ AMTS ∧ Str.ofString "again" ∈ AMTS := by decide +kernel
theorem amts_num : ∀ n < 4, 1 ≤ n → Str.ofString "each" ++ BLANK ++ text n ∈ AMTS ∧ Str.ofString "all" ++ BLANK ++ text n ∈ AMTS := by decide +kernel
theorem numOf_empty : numOf Str.empty 3 = none := by decide +kernel
theorem amount_mem {z : Str} (h : (sortOf z).isSome = true) : z ∈ AMTS := by
  unfold sortOf at h
  split at h
  · rename_i c
    rcases c with rfl | rfl
    · exact amts_free.1
    · exact amts_free.2
  · split at h
    · rename_i n hn
      split at h
      · rename_i c
        rcases part_cases z with e | ⟨a, b, e, hz⟩
        · rw [e, numOf_empty] at hn
          cases hn
        · rw [e] at hn c
          obtain ⟨h1, h2⟩ := numOf_some hn
          have := amts_num n (by omega) c.2
          rw [hz, ← show text n = b from h2]
          rcases c.1 with q | q
          · rw [show a = _ from q]; exact this.1
          · rw [show a = _ from q]; exact this.2
      · cases h
    · cases h
theorem amount_iff (z : Str) : (sortOf z).isSome = decide (z ∈ AMTS) := by
  by_cases h : z ∈ AMTS
  · rw [decide_eq_true h]
    exact amts_some z h
  · rw [decide_eq_false h]
    cases q : (sortOf z).isSome with
    | false => rfl
    | true => exact absurd (amount_mem q) h
end Hv

namespace Hv
open PySem L2 TL PySem.StrLaws PySem.Builtin PySem.Builtin.Str
/-! x.split(sep, k), sep one sign -/
theorem occ_lim (s sub : Str) (hi limit full : Nat) : ∀ (l : List Nat) (st st' : Array Nat × Nat), st'.fst.size + l.length ≤ full → st.fst.toList = st'.fst.toList.take limit → (st'.fst.size < limit → st.snd = st'.snd) →
    (forIn l st (occBody s sub hi limit)).run.fst.toList = (forIn l st' (occBody s sub hi full)).run.fst.toList.take limit
  | [], st, st', _, h, _ => h
  | a :: l, st, st', hf, h, hs => by
    rw [List.forIn_cons, List.forIn_cons]
    have hl : st'.fst.size + l.length + 1 ≤ full := by simpa [Nat.add_assoc] using hf
    have sz : st.fst.size = min limit st'.fst.size := by
      have := congrArg List.length h
      simpa using this
    unfold occBody
    by_cases c : ((st'.fst.size < full ∧ st'.snd ≤ a) ∧ a + sub.length ≤ hi) ∧ subAt s sub a = true
    · rw [if_pos c]
      by_cases d : st'.fst.size < limit
      · have d' : ((st.fst.size < limit ∧ st.snd ≤ a) ∧ a + sub.length ≤ hi) ∧ subAt s sub a = true := ⟨⟨⟨by omega, by rw [hs d]; exact c.1.1.2⟩, c.1.2⟩, c.2⟩
        rw [if_pos d']
        refine occ_lim s sub hi limit full l _ _ ?_ ?_ ?_
        · show (st'.fst.push a).size + l.length ≤ full
          rw [Array.size_push]
          omega
        · show (st.fst.push a).toList = (st'.fst.push a).toList.take limit
          rw [Array.toList_push, Array.toList_push, h, List.take_of_length_le (by simp; omega), List.take_of_length_le (by simp; omega)]
        · intro _
          rfl
      · rw [if_neg (fun z => by have := z.1.1.1; omega)]
        refine occ_lim s sub hi limit full l _ _ ?_ ?_ ?_
        · show (st'.fst.push a).size + l.length ≤ full
          rw [Array.size_push]
          omega
        · show st.fst.toList = (st'.fst.push a).toList.take limit
          rw [Array.toList_push, List.take_append_of_le_length (by simp; omega), h]
        · intro z
          have z : (st'.fst.push a).size < limit := z
          rw [Array.size_push] at z
          omega
    · rw [if_neg c]
      have d : ¬ (((st.fst.size < limit ∧ st.snd ≤ a) ∧ a + sub.length ≤ hi) ∧ subAt s sub a = true) := fun z => c ⟨⟨⟨by omega, by rw [← hs (by have := z.1.1.1; omega)]; exact z.1.1.2⟩, z.1.2⟩, z.2⟩
      rw [if_neg d]
      exact occ_lim s sub hi limit full l _ _ (by show st'.fst.size + l.length ≤ full; omega) h hs
theorem occ_take (x y : Str) (limit : Nat) : occurrences x y 0 x.length limit = (occurrences x y 0 x.length (x.length + 1)).take limit := by
  rw [occ_eq, occ_eq]
  refine occ_lim x y x.length limit (x.length + 1) _ _ _ ?_ ?_ ?_
  · simp
  · simp
  · intro _
    rfl
def splm (s : Nat) : Nat → List Nat → List Nat → List (List Nat)
  | 0, acc, l => [acc ++ l]
  | _ + 1, acc, [] => [acc]
  | n + 1, acc, c :: r => if c = s then acc :: splm s n [] r else splm s (n + 1) (acc ++ [c]) r
theorem splm_free {s n : Nat} : ∀ (p acc : List Nat), s ∉ p → splm s (n + 1) acc p = [acc ++ p]
  | [], acc, _ => by simp [splm]
  | c :: r, acc, h => by
    have h1 : c ≠ s := fun e => h (by rw [e]; exact List.mem_cons_self)
    rw [splm, if_neg h1, splm_free r _ (fun q => h (List.mem_cons_of_mem _ q))]
    simp
theorem splm_part {s n : Nat} {r : List Nat} : ∀ (p acc : List Nat), s ∉ p → splm s (n + 1) acc (p ++ s :: r) = (acc ++ p) :: splm s n [] r
  | [], acc, _ => by simp [splm]
  | c :: q, acc, h => by
    have h1 : c ≠ s := fun e => h (by rw [e]; exact List.mem_cons_self)
    rw [List.cons_append, splm, if_neg h1, splm_part q _ (fun z => h (List.mem_cons_of_mem _ z))]
    simp
theorem mem_pre {s : Nat} {L : List Nat} (h : ∀ k, k < L.length → pre [s] (L.drop k) = false) : s ∉ L := by
  intro hm
  obtain ⟨k, hk, e⟩ := List.mem_iff_getElem.mp hm
  have := h k hk
  rw [List.drop_eq_getElem_cons hk, e] at this
  have z : pre [s] (s :: L.drop (k + 1)) = true := pre_self [s] _
  rw [z] at this
  cases this
theorem parts_splm {x : Str} {s : Nat} : ∀ (cuts : List Nat) (a f n : Nat), a ≤ (tl x).length → ChainG x ⟨#[s]⟩ x.length a cuts f → (∀ k, f ≤ k → ¬ At x ⟨#[s]⟩ x.length k) →
    (partsFrom x 1 a (cuts.take n)).map tl = splm s n [] ((tl x).drop a)
  | cuts, a, f, 0, ha, h, hn => by
    rw [List.take_zero]
    rw [splm]
    show [tl (strSub x a x.length)] = _
    rw [tl_strSub_end, List.nil_append]
  | [], a, f, n + 1, ha, h, hn => by
    have e : f = a := h
    subst e
    show [tl (strSub x f x.length)] = _
    rw [tl_strSub_end, splm_free _ _ ?_, List.nil_append]
    refine mem_pre fun k hk => ?_
    rw [List.drop_drop]
    exact no_at (x := x) (y := ⟨#[s]⟩) (by simp [tl]) (hn _ (by omega))
  | c :: r, a, f, n + 1, ha, h, hn => by
    obtain ⟨h1, h2, h3, h4⟩ := h
    have hc : c + 1 ≤ x.length := h2.1
    have hx := TL.len_tl x
    have ih := parts_splm r (c + 1) f n (by omega) h4 hn
    show tl (strSub x a c) :: (partsFrom x 1 (c + 1) (r.take n)).map tl = _
    rw [ih, tl_strSub]
    have pc : pre [s] ((tl x).drop c) = true := (at_iff (x := x) (y := ⟨#[s]⟩) (by simp [tl]) c).mp h2
    obtain ⟨d, ed⟩ := getElem_drop_cons (L := tl x) (a := c) (by omega)
    have es : d = s := by
      rw [ed] at pc
      by_cases q : d = s
      · exact q
      · rw [pre_of_head [] _ q] at pc
        cases pc
    rw [es] at ed
    have e2 : (tl x).drop a = ((tl x).drop a).take (c - a) ++ s :: (tl x).drop (c + 1) := by
      conv => lhs; rw [← List.take_append_drop (c - a) ((tl x).drop a)]
      rw [List.drop_drop, show a + (c - a) = c by omega, ed]
    conv => rhs; rw [e2]
    rw [splm_part _ _ ?_, List.nil_append]
    refine mem_pre fun k hk => ?_
    rw [List.length_take, List.length_drop] at hk
    have z := no_at (x := x) (y := ⟨#[s]⟩) (by simp [tl]) (h3 (a + k) (by omega) (by omega))
    rw [List.drop_take, List.drop_drop]
    have hk2 : a + k < (tl x).length := by omega
    rw [List.drop_eq_getElem_cons hk2] at z ⊢
    have ne : (tl x)[a + k] ≠ s := fun q => by
      rw [q] at z
      have := pre_self [s] ((tl x).drop (a + k + 1))
      rw [List.singleton_append] at this
      rw [show tl (⟨#[s]⟩ : Str) = [s] from rfl, this] at z
      cases z
    rw [show c - a - k = (c - a - k - 1) + 1 by omega, List.take_succ_cons]
    exact pre_of_head [] _ ne
theorem kind_one {x : Str} {s : Nat} (hs : Builtin.Str.strKind (⟨#[s]⟩ : Str) = 1) : ¬ Builtin.Str.strKind x < Builtin.Str.strKind (⟨#[s]⟩ : Str) := by
  rw [hs]
  unfold Builtin.Str.strKind
  repeat' split
  all_goals decide
theorem splitMax_splm {x : Str} {s n : Nat} (hs : Builtin.Str.strKind (⟨#[s]⟩ : Str) = 1) (hn : 1 ≤ n) : (Txt.splitMax x ⟨#[s]⟩ (n : Int)).map tl = splm s n [] (tl x) := by
  have y1 : (⟨#[s]⟩ : Str).length = 1 := rfl
  obtain ⟨f, g, tn⟩ := occ_tight x ⟨#[s]⟩ (by rw [y1]; exact Nat.le_refl _)
  have key := parts_splm _ 0 f n (Nat.zero_le _) g tn
  rw [List.drop_zero] at key
  have lim : limitOf x (n : Int) = n := by
    unfold limitOf
    rw [if_neg (by omega)]
    simp
  have none_case : (occurrences x ⟨#[s]⟩ 0 x.length (x.length + 1)).take n = [] → [x].map tl = splm s n [] (tl x) := fun ho => by
    rw [ho] at key
    rw [← key]
    show [tl x] = [tl (strSub x 0 x.length)]
    rw [sub_whole]
  unfold Txt.splitMax
  rw [lim, occ_take]
  by_cases h1 : (decide (x.length < (⟨#[s]⟩ : Str).length) || decide (Builtin.Str.strKind x < Builtin.Str.strKind (⟨#[s]⟩ : Str))) = true
  · rw [if_pos h1]
    rw [Bool.or_eq_true, decide_eq_true_eq, decide_eq_true_eq] at h1
    have h2 := h1.resolve_right (kind_one hs)
    refine none_case ?_
    have e : occurrences x ⟨#[s]⟩ 0 x.length (x.length + 1) = [] := by
      cases q : occurrences x ⟨#[s]⟩ 0 x.length (x.length + 1) with
      | nil => rfl
      | cons c r =>
        rw [q] at g
        have := g.2.1.1
        rw [y1] at this h2
        omega
    rw [e, List.take_nil]
  · rw [if_neg h1]
    by_cases h2 : ((occurrences x ⟨#[s]⟩ 0 x.length (x.length + 1)).take n).isEmpty = true
    · rw [if_pos h2]
      exact none_case (List.isEmpty_iff.mp h2)
    · rw [if_neg h2, partsBetween_eq]
      exact key
theorem splm_len {s : Nat} : ∀ (n : Nat) (l acc : List Nat), ∀ p ∈ splm s n acc l, p.length ≤ acc.length + l.length
  | 0, l, acc => by
    rw [splm]
    intro p hp
    rw [List.mem_singleton.mp hp, List.length_append]
    exact Nat.le_refl _
  | n + 1, [], acc => by
    rw [splm]
    intro p hp
    rw [List.mem_singleton.mp hp]
    simp
  | n + 1, c :: r, acc => by
    intro p hp
    rw [splm] at hp
    split at hp
    · rcases List.mem_cons.mp hp with rfl | hp
      · omega
      · have := splm_len n r [] p hp
        simp at this ⊢
        omega
    · have := splm_len (n + 1) r _ p hp
      simp at this ⊢
      omega
theorem blank_mk : BLANK = ⟨#[32]⟩ := by decide +kernel
theorem splitB (z : Str) : (Txt.splitMax z BLANK 3).map tl = splm 32 3 [] (tl z) := by
  rw [blank_mk]
  exact splitMax_splm (n := 3) (by decide +kernel) (by decide)
theorem splitB_len {z p : Str} (h : p ∈ Txt.splitMax z BLANK 3) : p.length ≤ z.length := by
  have := splm_len 3 (tl z) [] (tl p) (by rw [← splitB z]; exact List.mem_map.mpr ⟨p, h, rfl⟩)
  rw [TL.len_tl, TL.len_tl z]
  simpa using this
/-- the line of a row, split -/
theorem splitB_four {u o i m : Str} (hu : 32 ∉ tl u) (ho : 32 ∉ tl o) (hi : 32 ∉ tl i) : Txt.splitMax (u ++ (BLANK ++ (o ++ (BLANK ++ (i ++ (BLANK ++ m)))))) BLANK 3 = [u, o, i, m] := by
  refine map_tl_inj ?_
  rw [splitB]
  simp only [tl_append]
  rw [blank_tl]
  show splm 32 3 [] (tl u ++ 32 :: (tl o ++ 32 :: (tl i ++ 32 :: tl m))) = _
  rw [splm_part _ _ hu, splm_part _ _ ho, splm_part _ _ hi, splm]
  simp
end Hv

namespace Hv
open PySem L2 TL
/-! words, joined by blanks -/
theorem app_assoc (a b c : Str) : a ++ b ++ c = a ++ (b ++ c) := ext_tl (by simp only [tl_append, List.append_assoc])
theorem empty_app (a : Str) : Str.empty ++ a = a := ext_tl (by rw [tl_append]; rfl)
def joinB (ws : List Str) : Str := Txt.join BLANK ws
theorem joinB_str (ws : List Str) : joinB ws = Str.join BLANK ws := join_eq _ _
theorem joinB_one (a : Str) : joinB [a] = a := by rw [joinB_str]; rfl
theorem joinB_cons {a b : Str} {l : List Str} : joinB (a :: b :: l) = a ++ (BLANK ++ joinB (b :: l)) := by
  rw [joinB_str, joinB_str, ← app_assoc]
  rfl
theorem joinB_app : ∀ {a b : List Str}, a ≠ [] → b ≠ [] → joinB (a ++ b) = joinB a ++ (BLANK ++ joinB b)
  | [], _, h, _ => absurd rfl h
  | [x], [], _, h => absurd rfl h
  | [x], y :: b, _, _ => by
    show joinB (x :: y :: b) = _
    rw [joinB_cons, joinB_one]
  | x :: y :: a, b, _, h => by
    show joinB (x :: y :: (a ++ b)) = _
    rw [joinB_cons, joinB_cons, show y :: (a ++ b) = (y :: a) ++ b from rfl, joinB_app (by simp) h]
    simp only [app_assoc]
def bw (z : Str) : List Str := Txt.split z BLANK
theorem joinB_bw (z : Str) : joinB (bw z) = z := by
  rw [joinB_str]
  exact StrLaws.join_split z BLANK
theorem bw_join {ws : List Str} (h : ws ≠ []) (hf : ∀ z ∈ ws, 32 ∉ tl z) : bw (joinB ws) = ws := split_join (S := []) blank_tl (by decide +kernel) h hf
theorem bw_ne (z : Str) : bw z ≠ [] := by
  intro e
  have := congrArg List.length (split_spl z BLANK (by rw [blank_tl]; simp) (kind_ok (by decide +kernel)))
  rw [show Txt.split z BLANK = [] from e] at this
  rw [blank_tl] at this
  have n : spl [32] 0 [] (tl z) ≠ [] := by
    have g : ∀ (l acc : List Nat), spl [32] 0 acc l ≠ [] := by
      intro l
      induction l with
      | nil =>
        intro acc
        rw [spl_nil]
        simp
      | cons c r ih =>
        intro acc
        by_cases h : pre [32] (c :: r) = true
        · rw [spl_hit h]
          simp
        · rw [spl_miss (by simpa using h)]
          exact ih _
    exact g _ _
  exact n (List.length_eq_zero_iff.mp (by simpa using this.symm))
theorem mem_joinL {S : List Nat} {c : Nat} : ∀ {ps : List (List Nat)} {p : List Nat}, p ∈ ps → c ∈ p → c ∈ joinL S ps
  | [], _, h, _ => nomatch h
  | [q], p, h, hc => by
    rw [List.mem_singleton.mp h] at hc
    exact hc
  | q :: r :: t, p, h, hc => by
    show c ∈ q ++ (S ++ joinL S (r :: t))
    rcases List.mem_cons.mp h with rfl | h
    · exact List.mem_append_left _ hc
    · exact List.mem_append_right _ (List.mem_append_right _ (mem_joinL h hc))
theorem bw_mem {z p : Str} {c : Nat} (h : p ∈ bw z) (hc : c ∈ tl p) : c ∈ tl z := by
  have e := congrArg tl (joinB_bw z)
  rw [joinB_str, tl_join] at e
  rw [← e]
  exact mem_joinL (List.mem_map.mpr ⟨p, h, rfl⟩) hc
theorem len_joinL {S : List Nat} : ∀ {ps : List (List Nat)} {p : List Nat}, p ∈ ps → p.length ≤ (joinL S ps).length
  | [], _, h => nomatch h
  | [q], p, h => by
    rw [List.mem_singleton.mp h]
    exact Nat.le_refl _
  | q :: r :: t, p, h => by
    show p.length ≤ (q ++ (S ++ joinL S (r :: t))).length
    rw [List.length_append, List.length_append]
    rcases List.mem_cons.mp h with rfl | h
    · omega
    · have := len_joinL (S := S) h
      omega
theorem bw_len {z p : Str} (h : p ∈ bw z) : p.length ≤ z.length := by
  have e := congrArg tl (joinB_bw z)
  rw [joinB_str, tl_join] at e
  rw [TL.len_tl, TL.len_tl, ← e]
  exact len_joinL (List.mem_map.mpr ⟨p, h, rfl⟩)
/-- texts that can be compared -/
def WOk (ws : List Str) : Prop := ∀ z ∈ ws, PyData.strOk z = true ∧ z.length ≤ 40000
theorem WOk.sub {a b : List Str} (h : WOk b) (s : ∀ z ∈ a, z ∈ b) : WOk a := fun z hz => h z (s z hz)
theorem WOk.drop {a : List Str} (h : WOk a) (n : Nat) : WOk (a.drop n) := h.sub fun _ hz => List.mem_of_mem_drop hz
theorem WOk.take {a : List Str} (h : WOk a) (n : Nat) : WOk (a.take n) := h.sub fun _ hz => List.mem_of_mem_take hz
theorem wok_bw {z : Str} (h : PyData.strOk z = true) (hl : z.length ≤ 40000) : WOk (bw z) := fun p hp => by
  refine ⟨?_, Nat.le_trans (bw_len hp) hl⟩
  unfold PyData.strOk at h ⊢
  rw [Array.all_eq_true'] at h ⊢
  intro c hc
  exact h c (by simpa using bw_mem hp (by simpa [tl] using hc))
theorem dps {K : PySem.W.Frag} {H : Hp} : ∀ l : List Str, DpAll K H (l.map V.str) (l.map PyData.str)
  | [] => .nil
  | z :: l => .cons (.str z) (dps l)
theorem lays : ∀ {l : List Str}, WOk l → PyData.canLayAll0 (l.map PyData.str) = true ∧ PyData.depthAll (l.map PyData.str) ≤ 0
  | [], _ => ⟨rfl, Nat.le_refl _⟩
  | z :: l, h => by
    obtain ⟨h1, h2⟩ := lays (l := l) fun x hx => h x (List.mem_cons_of_mem _ hx)
    refine ⟨?_, ?_⟩
    · show (PyData.canLay0 (.str z) && PyData.canLayAll0 (l.map PyData.str)) = true
      rw [h1, show PyData.canLay0 (.str z) = true from (h z List.mem_cons_self).1]
      rfl
    · show max 0 (PyData.depthAll (l.map PyData.str)) ≤ 0
      omega
theorem WOk.shaped {l : List Str} (h : WOk l) : SeqAt.shaped (.list (l.map PyData.str)) = true := by
  obtain ⟨h1, h2⟩ := lays h
  unfold SeqAt.shaped
  rw [show PyData.canLay0 (.list (l.map PyData.str)) = true from h1]
  exact decide_eq_true (by show PyData.depthAll (l.map PyData.str) + 1 ≤ 64; omega)
theorem eqv_strs (l m : List Str) : PyData.eqv (.list (l.map PyData.str)) (.list (m.map PyData.str)) = decide (l = m) := by
  show PyData.eqvAll (l.map PyData.str) (m.map PyData.str) = _
  induction l generalizing m with
  | nil => cases m <;> simp [PyData.eqvAll]
  | cons a l ih =>
    cases m with
    | nil => simp [PyData.eqvAll]
    | cons b m =>
      rw [List.map_cons, List.map_cons, PyData.eqvAll, ih, show PyData.eqv (.str a) (.str b) = (a == b) from by simp [PyData.eqv]]
      by_cases e : a = b <;> by_cases e2 : l = m <;> simp [e, e2]
theorem cutV_to (xs : List V) (n : Nat) : cutV xs none (some (n : Int)) = xs.take n := by
  show (xs.drop (HT.sIx xs.length 0 none)).take (HT.sIx xs.length xs.length (some (n : Int)) - HT.sIx xs.length 0 none) = _
  rw [HT.sIx_none, HT.sIx_nat, List.drop_zero, Nat.sub_zero]
  by_cases h : n ≤ xs.length
  · rw [Nat.min_eq_left h]
  · rw [Nat.min_eq_right (by omega), List.take_of_length_le (Nat.le_refl _), List.take_of_length_le (by omega)]
theorem cutV_from (xs : List V) (n : Nat) : cutV xs (some (n : Int)) none = xs.drop n := by
  show (xs.drop (HT.sIx xs.length 0 (some (n : Int)))).take (HT.sIx xs.length xs.length none - HT.sIx xs.length 0 (some (n : Int))) = _
  rw [HT.sIx_none, HT.sIx_nat]
  by_cases h : n ≤ xs.length
  · rw [Nat.min_eq_left h, List.take_of_length_le (by simp)]
  · rw [Nat.min_eq_right (by omega), List.drop_of_length_le (Nat.le_refl _), List.drop_of_length_le (by omega)]
    simp
theorem cutV_mid (xs : List V) (n m : Nat) : cutV xs (some (n : Int)) (some ((n + m : Nat) : Int)) = (xs.drop n).take m := by
  show (xs.drop (HT.sIx xs.length 0 (some (n : Int)))).take (HT.sIx xs.length xs.length (some ((n + m : Nat) : Int)) - HT.sIx xs.length 0 (some (n : Int))) = _
  rw [HT.sIx_nat, HT.sIx_nat]
  by_cases h : n ≤ xs.length
  · rw [Nat.min_eq_left h]
    by_cases h2 : n + m ≤ xs.length
    · rw [Nat.min_eq_left h2, Nat.add_sub_cancel_left]
    · rw [Nat.min_eq_right (by omega), List.take_of_length_le (by simp), List.take_of_length_le (by simp; omega)]
  · rw [Nat.min_eq_right (show xs.length ≤ n + m by omega), Nat.min_eq_right (show xs.length ≤ n by omega), List.drop_of_length_le (Nat.le_refl _), List.drop_of_length_le (by omega)]
    simp
/-! the lines -/
def num (i : Int) : Str := Str.ofString (toString i)
def tW (t : Int) : List Str := if 0 < t then [Str.ofString "talks", num t] else []
def nW : V → List Str
  | .int n => if 1 < n then [Str.ofString "needs", num n] else []
  | .str z => Str.ofString "needs" :: bw z
  | _ => []
def cW : Option (Int × Str) → List Str
  | none => []
  | some (i, z) => ([Str.ofString "closed", Str.ofString "after", num i, Str.ofString "by"] : List Str) ++ bw z
def eW : Option Str → List Str
  | none => []
  | some z => ([Str.ofString "ends", Str.ofString "by"] : List Str) ++ bw z
def kwords (k : Kd) : List Str := ([Str.ofString "motion", k.name] : List Str) ++ (tW k.talks ++ (nW k.needs ++ (cW k.closing ++ eW k.ends)))
def lineK (k : Kd) : Str := joinB (kwords k)
def lineR (o i m : Str) : Str := joinB [Str.ofString "under", o, i, m]
/-! reading -/
def afterNum (ws marks : List Str) (most : Nat) : Option Nat × List Str :=
  if ws.take marks.length = marks ∧ marks.length < ws.length then
    match numOf (ws.getD marks.length Str.empty) most with
    | some n => (some n, ws.drop (marks.length + 1))
    | none => (none, ws)
  else (none, ws)
def moreOf (ws : List Str) (size : Nat) : Nat := if (ws.drop size).take 1 = [Str.ofString "over"] then 2 else 1
def bdOf (ws : List Str) (size : Nat) : Str := joinB ((ws.drop size).take (moreOf ws size))
def afterBd (ws marks : List Str) : Option Str × List Str :=
  if ws.take marks.length = marks ∧ (fracOf (bdOf ws marks.length)).isSome = true then (some (bdOf ws marks.length), ws.drop (marks.length + moreOf ws marks.length)) else (none, ws)
def sp_after_number (K : PySem.W.Frag) : Sp := fun vs H Q _ => ∃ (a m : Addr) (ws marks : List Str) (most : Nat), vs = [.ref a, .ref m, .int most] ∧ H a = some (.lst (ws.map V.str)) ∧ H m = some (.lst (marks.map V.str)) ∧ WOk ws ∧ WOk marks ∧ most ≤ 12 ∧
  ∀ (p b : Addr) (H' : Hp), Same H H' → H' p = some (.tup [numV (afterNum ws marks most).1, .ref b]) → H' b = some (.lst ((afterNum ws marks most).2.map V.str)) → Q (.ref p) H'
def sp_after_bound (K : PySem.W.Frag) : Sp := fun vs H Q _ => ∃ (a m : Addr) (ws marks : List Str), vs = [.ref a, .ref m] ∧ H a = some (.lst (ws.map V.str)) ∧ H m = some (.lst (marks.map V.str)) ∧ WOk ws ∧ WOk marks ∧
  ∀ (p b : Addr) (H' : Hp), Same H H' → H' p = some (.tup [endsV (afterBd ws marks).1, .ref b]) → H' b = some (.lst ((afterBd ws marks).2.map V.str)) → Q (.ref p) H'
theorem afterNum_sub (ws marks : List Str) (most : Nat) : ∀ z ∈ (afterNum ws marks most).2, z ∈ ws := by
  intro z hz
  unfold afterNum at hz
  split at hz
  · split at hz
    · exact List.mem_of_mem_drop hz
    · exact hz
  · exact hz
theorem afterBd_sub (ws marks : List Str) : ∀ z ∈ (afterBd ws marks).2, z ∈ ws := by
  intro z hz
  unfold afterBd at hz
  split at hz
  · exact List.mem_of_mem_drop hz
  · exact hz
end Hv

namespace Hv
open PySem L2 SlX
/-- a def of a class as the top has left it -/
def MethIn (K : PySem.W.Frag) (C : Addr) (x qual : Str) (st : Stmt) : Prop :=
  ∃ (f : Addr) (oc : Value) (od : Option Addr) (kV doc pm : Value) (an : Option Addr) (cd ct : Value) (sl : Array (Option Value)),
    PySem.W.findIn K (.ref C) x = some (some (.ref f)) ∧ PySem.W.isFn K (.ref f) = true ∧
    K.lookup f = some ⟨oc, od, .func (PySem.W.fnOf x qual (defArgs st) (defBody st) (defScope st) .none kV doc pm an cd ct), sl⟩ ∧
    PySem.W.codeIn K cd qual = true ∧ PySem.W.keepIn K (.ref f) = true
theorem methIn_mk {K : PySem.W.Frag} {C : Addr} {x qual : Str} {st : Stmt} {f : Addr} {oc : Value} {od : Option Addr} {kV doc pm : Value} {an : Option Addr} {cd ct : Value} {sl : Array (Option Value)}
    (a : PySem.W.findIn K (.ref C) x = some (some (.ref f))) (i : PySem.W.isFn K (.ref f) = true)
    (l : K.lookup f = some ⟨oc, od, .func (PySem.W.fnOf x qual (defArgs st) (defBody st) (defScope st) .none kV doc pm an cd ct), sl⟩)
    (c : PySem.W.codeIn K cd qual = true) (k : PySem.W.keepIn K (.ref f) = true) : MethIn K C x qual st :=
  ⟨f, oc, od, kV, doc, pm, an, cd, ct, sl, a, i, l, c, k⟩
structure MethAt (K : PySem.W.Frag) (C : Addr) (x qual : Str) (st : Stmt) (ps : List Str) (f : Addr) (fd : FuncData) : Prop where
  at_ : PySem.W.findIn K (.ref C) x = some (some (.ref f))
  isf : PySem.W.isFn K (.ref f) = true
  fn : Fun K x qual st f fd
  bd : Binds K fd ps []
theorem MethIn.at {K : PySem.W.Frag} {C : Addr} {x qual : Str} {st : Stmt} {ps : List Str} (d : MethIn K C x qual st)
    (hb : ∀ (kV doc pm : Value) (an : Option Addr) (cdv ct : Value) (us : List Value), us.length = ps.length →
      bindArgs (PySem.W.fnOf x qual (defArgs st) (defBody st) (defScope st) .none kV doc pm an cdv ct) ⟨us, []⟩ = pure (ps.zip us)) :
    ∃ f fd, MethAt K C x qual st ps f fd := by
  obtain ⟨f, oc, od, kV, doc, pm, an, cd, ct, sl, a, i, l, c, k⟩ := d
  have F := fun_mk (st := st) l c k
  exact ⟨f, _, a, i, F, F.binds hb⟩
/-- a property of a class, its getter at g -/
structure PropK (K : PySem.W.Frag) (C : Addr) (x : Str) (g : Addr) : Prop where
  ex : ∃ p, PySem.W.findIn K (.ref C) x = some (some (.ref p)) ∧ PySem.W.specialIn K (.ref p) "__get__" = some (some (.builtin "property.__get__")) ∧
    PySem.W.takesIn K (.ref p) = some true ∧ ∃ rest, PySem.W.recIn K p "property" = some (.ref g :: rest)
def PropIn (K : PySem.W.Frag) (C : Addr) (x qual : Str) (st : Stmt) : Prop :=
  ∃ (g : Addr) (oc : Value) (od : Option Addr) (kV doc pm : Value) (an : Option Addr) (cd ct : Value) (sl : Array (Option Value)), PropK K C x g ∧
    K.lookup g = some ⟨oc, od, .func (PySem.W.fnOf x qual (defArgs st) (defBody st) (defScope st) .none kV doc pm an cd ct), sl⟩ ∧
    PySem.W.codeIn K cd qual = true ∧ PySem.W.keepIn K (.ref g) = true
theorem propIn_mk {K : PySem.W.Frag} {C p : Addr} {rest : List Value} {x qual : Str} {st : Stmt} {g : Addr} {oc : Value} {od : Option Addr} {kV doc pm : Value} {an : Option Addr} {cd ct : Value} {sl : Array (Option Value)}
    (a : PySem.W.findIn K (.ref C) x = some (some (.ref p))) (b : PySem.W.specialIn K (.ref p) "__get__" = some (some (.builtin "property.__get__"))) (t : PySem.W.takesIn K (.ref p) = some true)
    (r : PySem.W.recIn K p "property" = some (.ref g :: rest))
    (l : K.lookup g = some ⟨oc, od, .func (PySem.W.fnOf x qual (defArgs st) (defBody st) (defScope st) .none kV doc pm an cd ct), sl⟩)
    (c : PySem.W.codeIn K cd qual = true) (k : PySem.W.keepIn K (.ref g) = true) : PropIn K C x qual st :=
  ⟨g, oc, od, kV, doc, pm, an, cd, ct, sl, ⟨p, a, b, t, rest, r⟩, l, c, k⟩
structure PropAt (K : PySem.W.Frag) (C : Addr) (x qual : Str) (st : Stmt) (ps : List Str) (f : Addr) (fd : FuncData) : Prop where
  pr : PropK K C x f
  fn : Fun K x qual st f fd
  bd : Binds K fd ps []
theorem PropIn.at {K : PySem.W.Frag} {C : Addr} {x qual : Str} {st : Stmt} {ps : List Str} (d : PropIn K C x qual st)
    (hb : ∀ (kV doc pm : Value) (an : Option Addr) (cdv ct : Value) (us : List Value), us.length = ps.length →
      bindArgs (PySem.W.fnOf x qual (defArgs st) (defBody st) (defScope st) .none kV doc pm an cdv ct) ⟨us, []⟩ = pure (ps.zip us)) :
    ∃ f fd, PropAt K C x qual st ps f fd := by
  obtain ⟨f, oc, od, kV, doc, pm, an, cd, ct, sl, pr, l, c, k⟩ := d
  have F := fun_mk (st := st) l c k
  exact ⟨f, _, pr, F, F.binds hb⟩
theorem raw_ok {P : Program} {w : World} {K : PySem.W.Frag} {mg : Str → Option Value} {base : Heap} {CX : CXT} {k : Nat} {f : Addr} {fd : FuncData} {ps : List Str} {sp : Sp} (F : FnOk P w K mg base CX k f fd ps sp) (hb : Binds K fd ps []) :
    FnR P w K mg base CX k f sp := (FnOk.raw F hb .nil).imp fun vs H Q E h => by
  rw [List.append_nil]
  exact h
section
variable {X : Cx} {e : Expr} {ta : TE} {C g : Addr} {f : Str} {pos : Pos} {n : Nat} {sp : Sp}
/-- a property of an instance with slots -/
theorem pe_propO (he : PE X e ta) (c : SCls X.K C) (p : PropK X.K C f g) (F : FnR X.prog X.w X.K X.mg X.base CX0 n g sp) (hr : Room (n + 1) X.A)
    (hb : attributeBase e f X.env (eval e X.env) = eval e X.env := by rfl) : PE X (.Attribute e f pos) (tPropSl C sp E0 ta) := by
  obtain ⟨p, h1, h2, h3, h4⟩ := p.ex
  exact pe_propSl he c h1 h2 h3 h4 F hr (fun _ _ _ _ z => z) hb
/-- one of two ways to read a call -/
theorem callR_or {v : Value} {r1 r2 : List V → Hp → VK → Prop} (h1 : CallR X v r1) (h2 : CallR X v r2) : CallR X v (fun xs H Q => r1 xs H Q ∨ r2 xs H Q) := by
  intro pins s σ H xs us Q I r h
  rcases h with h | h
  · exact h1 pins s σ H xs us Q I r h
  · exact h2 pins s σ H xs us Q I r h
end
end Hv

namespace Hv
open PySem L2
/-- one of the parts of an instance -/
def sp_part (C : Addr) (i : Int) : Sp := fun vs H Q _ => ∃ (a dx pt : Addr) (xs : List V) (v : V), vs = [.ref a] ∧ H a = some (.ins C dx [("parts", .ref pt)]) ∧ H pt = some (.tup xs) ∧ atI xs i = some v ∧ Q v H
end Hv
namespace L
open PySem L2 Hv
variable {P : Program} {w : World} {K : PySem.W.Frag} {mg : Str → Option Value} {base : Heap}
abbrev s_Kind_name : Stmt := inClass (top 34) 1
abbrev N_Kind_name : List Str := ["self"]
abbrev P_Kind_name : List Str := ["self"]
theorem sc_Kind_name : FnScope N_Kind_name P_Kind_name (defScope s_Kind_name) := ⟨rfl, rfl, rfl, by decide +kernel, rfl, by decide +kernel, by decide +kernel⟩
theorem ok_Kind_name {C f : Addr} {fd : FuncData} (D : PropAt K C "name" "Kind.name" s_Kind_name P_Kind_name f fd) (c : Cls K C) (na : NoAttr K C "parts") : FnOk P w K mg base CX0 1 f fd P_Kind_name (sp_part C 0) := by
  refine D.fn.ok sc_Kind_name (fun vs H Q E h => ?_) (fun cdv A outer s H vs Q E hr h => ?_)
  · obtain ⟨a, dx, pt, xs, v, rfl, _⟩ := h
    rfl
  · obtain ⟨a, dx, pt, xs, v, rfl, ha, hp, hv, ret⟩ := h
    refine ⟨_, (pss_one (ps_ret (pe_ix ix_tup (pe_fld (pv 0) rfl) pe_int (fun _ _ => rfl)))), ?_⟩
    exact ⟨_, rfl, a, C, dx, _, _, rfl, ha, c, na, rfl, pt, xs, _, v, rfl, rfl, SqT.of hp, hv, ret⟩
abbrev s_Kind_talks : Stmt := inClass (top 34) 2
abbrev N_Kind_talks : List Str := ["self"]
abbrev P_Kind_talks : List Str := ["self"]
theorem sc_Kind_talks : FnScope N_Kind_talks P_Kind_talks (defScope s_Kind_talks) := ⟨rfl, rfl, rfl, by decide +kernel, rfl, by decide +kernel, by decide +kernel⟩
theorem ok_Kind_talks {C f : Addr} {fd : FuncData} (D : PropAt K C "talks" "Kind.talks" s_Kind_talks P_Kind_talks f fd) (c : Cls K C) (na : NoAttr K C "parts") : FnOk P w K mg base CX0 1 f fd P_Kind_talks (sp_part C 1) := by
  refine D.fn.ok sc_Kind_talks (fun vs H Q E h => ?_) (fun cdv A outer s H vs Q E hr h => ?_)
  · obtain ⟨a, dx, pt, xs, v, rfl, _⟩ := h
    rfl
  · obtain ⟨a, dx, pt, xs, v, rfl, ha, hp, hv, ret⟩ := h
    refine ⟨_, (pss_one (ps_ret (pe_ix ix_tup (pe_fld (pv 0) rfl) pe_int (fun _ _ => rfl)))), ?_⟩
    exact ⟨_, rfl, a, C, dx, _, _, rfl, ha, c, na, rfl, pt, xs, _, v, rfl, rfl, SqT.of hp, hv, ret⟩
abbrev s_Kind_needs : Stmt := inClass (top 34) 3
abbrev N_Kind_needs : List Str := ["self"]
abbrev P_Kind_needs : List Str := ["self"]
theorem sc_Kind_needs : FnScope N_Kind_needs P_Kind_needs (defScope s_Kind_needs) := ⟨rfl, rfl, rfl, by decide +kernel, rfl, by decide +kernel, by decide +kernel⟩
theorem ok_Kind_needs {C f : Addr} {fd : FuncData} (D : PropAt K C "needs" "Kind.needs" s_Kind_needs P_Kind_needs f fd) (c : Cls K C) (na : NoAttr K C "parts") : FnOk P w K mg base CX0 1 f fd P_Kind_needs (sp_part C 2) := by
  refine D.fn.ok sc_Kind_needs (fun vs H Q E h => ?_) (fun cdv A outer s H vs Q E hr h => ?_)
  · obtain ⟨a, dx, pt, xs, v, rfl, _⟩ := h
    rfl
  · obtain ⟨a, dx, pt, xs, v, rfl, ha, hp, hv, ret⟩ := h
    refine ⟨_, (pss_one (ps_ret (pe_ix ix_tup (pe_fld (pv 0) rfl) pe_int (fun _ _ => rfl)))), ?_⟩
    exact ⟨_, rfl, a, C, dx, _, _, rfl, ha, c, na, rfl, pt, xs, _, v, rfl, rfl, SqT.of hp, hv, ret⟩
abbrev s_Kind_closing : Stmt := inClass (top 34) 4
abbrev N_Kind_closing : List Str := ["self"]
abbrev P_Kind_closing : List Str := ["self"]
theorem sc_Kind_closing : FnScope N_Kind_closing P_Kind_closing (defScope s_Kind_closing) := ⟨rfl, rfl, rfl, by decide +kernel, rfl, by decide +kernel, by decide +kernel⟩
theorem ok_Kind_closing {C f : Addr} {fd : FuncData} (D : PropAt K C "closing" "Kind.closing" s_Kind_closing P_Kind_closing f fd) (c : Cls K C) (na : NoAttr K C "parts") : FnOk P w K mg base CX0 1 f fd P_Kind_closing (sp_part C 3) := by
  refine D.fn.ok sc_Kind_closing (fun vs H Q E h => ?_) (fun cdv A outer s H vs Q E hr h => ?_)
  · obtain ⟨a, dx, pt, xs, v, rfl, _⟩ := h
    rfl
  · obtain ⟨a, dx, pt, xs, v, rfl, ha, hp, hv, ret⟩ := h
    refine ⟨_, (pss_one (ps_ret (pe_ix ix_tup (pe_fld (pv 0) rfl) pe_int (fun _ _ => rfl)))), ?_⟩
    exact ⟨_, rfl, a, C, dx, _, _, rfl, ha, c, na, rfl, pt, xs, _, v, rfl, rfl, SqT.of hp, hv, ret⟩
abbrev s_Kind_ends : Stmt := inClass (top 34) 5
abbrev N_Kind_ends : List Str := ["self"]
abbrev P_Kind_ends : List Str := ["self"]
theorem sc_Kind_ends : FnScope N_Kind_ends P_Kind_ends (defScope s_Kind_ends) := ⟨rfl, rfl, rfl, by decide +kernel, rfl, by decide +kernel, by decide +kernel⟩
theorem ok_Kind_ends {C f : Addr} {fd : FuncData} (D : PropAt K C "ends" "Kind.ends" s_Kind_ends P_Kind_ends f fd) (c : Cls K C) (na : NoAttr K C "parts") : FnOk P w K mg base CX0 1 f fd P_Kind_ends (sp_part C 4) := by
  refine D.fn.ok sc_Kind_ends (fun vs H Q E h => ?_) (fun cdv A outer s H vs Q E hr h => ?_)
  · obtain ⟨a, dx, pt, xs, v, rfl, _⟩ := h
    rfl
  · obtain ⟨a, dx, pt, xs, v, rfl, ha, hp, hv, ret⟩ := h
    refine ⟨_, (pss_one (ps_ret (pe_ix ix_tup (pe_fld (pv 0) rfl) pe_int (fun _ _ => rfl)))), ?_⟩
    exact ⟨_, rfl, a, C, dx, _, _, rfl, ha, c, na, rfl, pt, xs, _, v, rfl, rfl, SqT.of hp, hv, ret⟩
end L

namespace L
open PySem L2 Hv
variable {P : Program} {w : World} {K : PySem.W.Frag} {mg : Str → Option Value} {base : Heap}
abbrev s_Row_outer : Stmt := inClass (top 35) 1
abbrev N_Row_outer : List Str := ["self"]
abbrev P_Row_outer : List Str := ["self"]
theorem sc_Row_outer : FnScope N_Row_outer P_Row_outer (defScope s_Row_outer) := ⟨rfl, rfl, rfl, by decide +kernel, rfl, by decide +kernel, by decide +kernel⟩
theorem ok_Row_outer {C f : Addr} {fd : FuncData} (D : PropAt K C "outer" "Row.outer" s_Row_outer P_Row_outer f fd) (c : Cls K C) (na : NoAttr K C "parts") : FnOk P w K mg base CX0 1 f fd P_Row_outer (sp_part C 0) := by
  refine D.fn.ok sc_Row_outer (fun vs H Q E h => ?_) (fun cdv A outer s H vs Q E hr h => ?_)
  · obtain ⟨a, dx, pt, xs, v, rfl, _⟩ := h
    rfl
  · obtain ⟨a, dx, pt, xs, v, rfl, ha, hp, hv, ret⟩ := h
    refine ⟨_, (pss_one (ps_ret (pe_ix ix_tup (pe_fld (pv 0) rfl) pe_int (fun _ _ => rfl)))), ?_⟩
    exact ⟨_, rfl, a, C, dx, _, _, rfl, ha, c, na, rfl, pt, xs, _, v, rfl, rfl, SqT.of hp, hv, ret⟩
abbrev s_Row_inner : Stmt := inClass (top 35) 2
abbrev N_Row_inner : List Str := ["self"]
abbrev P_Row_inner : List Str := ["self"]
theorem sc_Row_inner : FnScope N_Row_inner P_Row_inner (defScope s_Row_inner) := ⟨rfl, rfl, rfl, by decide +kernel, rfl, by decide +kernel, by decide +kernel⟩
theorem ok_Row_inner {C f : Addr} {fd : FuncData} (D : PropAt K C "inner" "Row.inner" s_Row_inner P_Row_inner f fd) (c : Cls K C) (na : NoAttr K C "parts") : FnOk P w K mg base CX0 1 f fd P_Row_inner (sp_part C 1) := by
  refine D.fn.ok sc_Row_inner (fun vs H Q E h => ?_) (fun cdv A outer s H vs Q E hr h => ?_)
  · obtain ⟨a, dx, pt, xs, v, rfl, _⟩ := h
    rfl
  · obtain ⟨a, dx, pt, xs, v, rfl, ha, hp, hv, ret⟩ := h
    refine ⟨_, (pss_one (ps_ret (pe_ix ix_tup (pe_fld (pv 0) rfl) pe_int (fun _ _ => rfl)))), ?_⟩
    exact ⟨_, rfl, a, C, dx, _, _, rfl, ha, c, na, rfl, pt, xs, _, v, rfl, rfl, SqT.of hp, hv, ret⟩
abbrev s_Row_amount : Stmt := inClass (top 35) 3
abbrev N_Row_amount : List Str := ["self"]
abbrev P_Row_amount : List Str := ["self"]
theorem sc_Row_amount : FnScope N_Row_amount P_Row_amount (defScope s_Row_amount) := ⟨rfl, rfl, rfl, by decide +kernel, rfl, by decide +kernel, by decide +kernel⟩
theorem ok_Row_amount {C f : Addr} {fd : FuncData} (D : PropAt K C "amount" "Row.amount" s_Row_amount P_Row_amount f fd) (c : Cls K C) (na : NoAttr K C "parts") : FnOk P w K mg base CX0 1 f fd P_Row_amount (sp_part C 2) := by
  refine D.fn.ok sc_Row_amount (fun vs H Q E h => ?_) (fun cdv A outer s H vs Q E hr h => ?_)
  · obtain ⟨a, dx, pt, xs, v, rfl, _⟩ := h
    rfl
  · obtain ⟨a, dx, pt, xs, v, rfl, ha, hp, hv, ret⟩ := h
    refine ⟨_, (pss_one (ps_ret (pe_ix ix_tup (pe_fld (pv 0) rfl) pe_int (fun _ _ => rfl)))), ?_⟩
    exact ⟨_, rfl, a, C, dx, _, _, rfl, ha, c, na, rfl, pt, xs, _, v, rfl, rfl, SqT.of hp, hv, ret⟩
end L

namespace Hv
open PySem L2
/-- what the text has of a class with parts -/
structure OwnTxt (K : PySem.W.Frag) (mg : Str → Option Value) (x : Str) (C : Addr) : Prop where
  mg : mg x = some (.ref C)
  c : Cls K C
  na : NoAttr K C "parts"
  ha : PySem.W.findIn K (.ref C) "__class__" = some (some (.builtin "object.__class__"))
  hn : PySem.W.specialIn K (.builtin "object.__class__") "__get__" = some (some (.builtin "getset_descriptor.__get__"))
  htk : PySem.W.takesIn K (.builtin "object.__class__") = some true
  hm : PySem.W.mroIn K C (.type "object") = some true
  k1 : PySem.W.kitOne K (.ref C) (.ref C) = some true
  kp : PySem.W.keepIn K (.ref C) = true
/-- == of a class with parts -/
def sp_part_eq (K : PySem.W.Frag) (C : Addr) : Sp := fun vs H Q _ => ∃ (a dx pt : Addr) (y : V), vs = [.ref a, y] ∧ H a = some (.ins C dx [("parts", .ref pt)]) ∧
  ((∃ (b dy qt : Addr) (d e : PyData), y = .ref b ∧ H b = some (.ins C dy [("parts", .ref qt)]) ∧ Dp K H (.ref pt) d ∧ Dp K H (.ref qt) e ∧ SeqAt.shaped d = true ∧ SeqAt.shaped e = true ∧ Q (.bl (PyData.eqv d e)) H) ∨
   ∃ t, TyX K H y t ∧ PySem.W.kitOne K t (.ref C) = some false ∧ Q (.bl false) H)
end Hv
namespace L
open PySem L2 Hv
variable {P : Program} {w : World} {K : PySem.W.Frag} {mg : Str → Option Value} {base : Heap}
abbrev s_Kind_eq : Stmt := inClass (top 34) 6
abbrev N_Kind_eq : List Str := ["self", "other"]
abbrev P_Kind_eq : List Str := ["self", "other"]
theorem sc_Kind_eq : FnScope N_Kind_eq P_Kind_eq (defScope s_Kind_eq) := ⟨rfl, rfl, rfl, by decide +kernel, rfl, by decide +kernel, by decide +kernel⟩
theorem ok_Kind_eq {C f : Addr} {fd : FuncData} (D : MethAt K C "__eq__" "Kind.__eq__" s_Kind_eq P_Kind_eq f fd) (T : Txt K mg) (TL : OwnTxt K mg "Kind" C) : FnOk P w K mg base CX0 1 f fd P_Kind_eq (sp_part_eq K C) := by
  refine D.fn.ok sc_Kind_eq (fun vs H Q E h => ?_) (fun cdv A outer s H vs Q E hr h => ?_)
  · obtain ⟨a, dx, pt, y, rfl, _⟩ := h
    rfl
  · obtain ⟨a, dx, pt, y, rfl, ha, h⟩ := h
    refine ⟨_, (pss_one (ps_ret (pe_and (pe_callB call_isi (by rfl) T.isinstance (by decide +kernel) (pa_cons (pv 1) (pa_cons (pe_glob (v := .ref C) rfl TL.mg rfl) pa_nil))) (pe_one (pe_cmpR (op_eqD hr.units) (pe_fld (pv 0) rfl) (pe_fld (pv 1) rfl) (nomark _)))))), ?_⟩
    rcases h with ⟨b, dy, qt, d, e, rfl, hb, hd, he, sd, se, ret⟩ | ⟨t, ty, k, ret⟩
    · refine ⟨_, rfl, _, _, _, _, true, rfl, .own C, .base (.ins hb TL.c TL.ha TL.hn TL.htk TL.hm), TL.k1, _, rfl, ?_⟩
      refine iteT ⟨_, rfl, a, C, dx, _, _, rfl, ha, TL.c, TL.na, rfl, _, rfl, b, C, dy, _, _, rfl, hb, TL.c, TL.na, rfl, d, e, hd, he, sd, se, ret⟩
    · exact ⟨_, rfl, _, _, _, _, false, rfl, .own C, ty, k, _, rfl, iteF ret⟩
abbrev s_Row_eq : Stmt := inClass (top 35) 4
abbrev N_Row_eq : List Str := ["self", "other"]
abbrev P_Row_eq : List Str := ["self", "other"]
theorem sc_Row_eq : FnScope N_Row_eq P_Row_eq (defScope s_Row_eq) := ⟨rfl, rfl, rfl, by decide +kernel, rfl, by decide +kernel, by decide +kernel⟩
theorem ok_Row_eq {C f : Addr} {fd : FuncData} (D : MethAt K C "__eq__" "Row.__eq__" s_Row_eq P_Row_eq f fd) (T : Txt K mg) (TL : OwnTxt K mg "Row" C) : FnOk P w K mg base CX0 1 f fd P_Row_eq (sp_part_eq K C) := by
  refine D.fn.ok sc_Row_eq (fun vs H Q E h => ?_) (fun cdv A outer s H vs Q E hr h => ?_)
  · obtain ⟨a, dx, pt, y, rfl, _⟩ := h
    rfl
  · obtain ⟨a, dx, pt, y, rfl, ha, h⟩ := h
    refine ⟨_, (pss_one (ps_ret (pe_and (pe_callB call_isi (by rfl) T.isinstance (by decide +kernel) (pa_cons (pv 1) (pa_cons (pe_glob (v := .ref C) rfl TL.mg rfl) pa_nil))) (pe_one (pe_cmpR (op_eqD hr.units) (pe_fld (pv 0) rfl) (pe_fld (pv 1) rfl) (nomark _)))))), ?_⟩
    rcases h with ⟨b, dy, qt, d, e, rfl, hb, hd, he, sd, se, ret⟩ | ⟨t, ty, k, ret⟩
    · refine ⟨_, rfl, _, _, _, _, true, rfl, .own C, .base (.ins hb TL.c TL.ha TL.hn TL.htk TL.hm), TL.k1, _, rfl, ?_⟩
      refine iteT ⟨_, rfl, a, C, dx, _, _, rfl, ha, TL.c, TL.na, rfl, _, rfl, b, C, dy, _, _, rfl, hb, TL.c, TL.na, rfl, d, e, hd, he, sd, se, ret⟩
    · exact ⟨_, rfl, _, _, _, _, false, rfl, .own C, ty, k, _, rfl, iteF ret⟩
end L

namespace Hv
open PySem L2
section
variable {X : Cx} {e : Expr} {ta : TE} {C g : Addr} {f : Str} {pos : Pos} {n : Nat} {sp : Sp} {fd : FuncData} {ps : List Str}
theorem units65 {k : Nat} {A : Around} (r : Room k A) : A.units + 65 < cLine := by have := r.un; omega
theorem pe_propD (he : PE X e ta) (c : Cls X.K C) (p : PropK X.K C f g) (F : FnOk X.prog X.w X.K X.mg X.base CX0 n g fd ps sp) (hb : Binds X.K fd ps []) (hr : Room (n + 1) X.A)
    (hab : attributeBase e f X.env (eval e X.env) = eval e X.env := by rfl) : PE X (.Attribute e f pos) (tProp C sp [] E0 ta) := by
  obtain ⟨p, h1, h2, h3, h4⟩ := p.ex
  exact pe_prop he c ⟨h1, h2, h3, h4⟩ F hr hb .nil pass0 hab
end
structure KitNo (K : PySem.W.Frag) (C : Addr) : Prop where
  u1 : PySem.W.kitOne K (.type "NoneType") (.ref C) = some false
  u2 : PySem.W.kitOne K (.type "int") (.ref C) = some false
  u3 : PySem.W.kitOne K (.type "bool") (.ref C) = some false
  u4 : PySem.W.kitOne K (.type "str") (.ref C) = some false
  u5 : PySem.W.kitOne K (.type "list") (.ref C) = some false
  u6 : PySem.W.kitOne K (.type "tuple") (.ref C) = some false
theorem four_same (b : Bool) : [PyData.list [.bool true, .bool true, .bool true, .bool true], PyData.list [.bool false, .bool false, .bool false, .bool false]].any (fun z => PyData.eqv z (.list [.bool b, .bool b, .bool b, .bool b])) = true := by
  cases b <;> decide +kernel
end Hv

namespace Hv
open PySem L2
def sp_line_of_kind (K : PySem.W.Frag) (C : Addr) : Sp := fun vs H Q _ => ∃ (a : Addr) (k : Kd), vs = [.ref a] ∧ KindAt K C H a k ∧ k.Ok ∧ Q (.str (lineK k)) H
def sp_line_of_row (C : Addr) : Sp := fun vs H Q _ => ∃ (a : Addr) (o i m : Str), vs = [.ref a] ∧ RowAt C H a o i m ∧ o.length ≤ 1000 ∧ i.length ≤ 1000 ∧ m.length ≤ 1000 ∧ Q (.str (lineR o i m)) H
theorem name_len {z : Str} (h : nameOk z = true) : z.length ≤ 8 := by
  unfold nameOk at h
  cases e : z.cps.toList with
  | nil => rw [e] at h; cases h
  | cons c cs =>
    rw [e] at h
    simp only [Bool.and_eq_true, decide_eq_true_eq] at h
    exact h.1.1
theorem num_len {i : Int} (h0 : 0 ≤ i) (h : i ≤ 12) : (num i).length ≤ 2 := by
  obtain ⟨n, rfl⟩ := Int.eq_ofNat_of_zero_le h0
  exact text_short n (by omega)
theorem num_log {i : Int} (h0 : 0 ≤ i) (h : i ≤ 12) : i.natAbs.log2 < 1920 := Nat.lt_of_le_of_lt (log2_mono (show i.natAbs ≤ 12 by omega)) (by decide)
theorem bt_len {z : Str} (h : BT z) : z.length ≤ 20 := by
  obtain ⟨a, b, l⟩ := line_of (frac_mem h.2)
  exact l.len
theorem j_motion (z : Str) : Str.empty ++ Str.ofString "motion " ++ z = joinB [Str.ofString "motion", z] := by
  rw [empty_app, joinB_cons, joinB_one, ← app_assoc]
  congr 1
theorem j_two {X : List Str} {a p : Str} (w : Str) (h : X ≠ []) (e : p = BLANK ++ w ++ BLANK) : joinB X ++ (Str.empty ++ p ++ a) = joinB (X ++ [w, a]) := by
  rw [joinB_app h (by simp), joinB_cons, joinB_one, empty_app, e]
  simp only [app_assoc]
theorem j_bw {X : List Str} {p z : Str} (ws : List Str) (h : X ≠ []) (hw : ws ≠ []) (e : p = BLANK ++ joinB ws ++ BLANK) : joinB X ++ (Str.empty ++ p ++ z) = joinB (X ++ (ws ++ bw z)) := by
  rw [joinB_app h (by simp [hw]), joinB_app hw (bw_ne z), joinB_bw, empty_app, e]
  simp only [app_assoc]
theorem j_clos {X : List Str} {n z : Str} (h : X ≠ []) : joinB X ++ (Str.empty ++ Str.ofString " closed after " ++ n ++ Str.ofString " by " ++ z) = joinB (X ++ ([Str.ofString "closed", Str.ofString "after", n, Str.ofString "by"] ++ bw z)) := by
  rw [joinB_app h (by simp), joinB_app (by simp) (bw_ne z), joinB_bw, joinB_cons, joinB_cons, joinB_cons, joinB_one, empty_app]
  have e1 : Str.ofString " closed after " = BLANK ++ (Str.ofString "closed" ++ (BLANK ++ (Str.ofString "after" ++ BLANK))) := by decide +kernel
  have e2 : Str.ofString " by " = BLANK ++ (Str.ofString "by" ++ BLANK) := by decide +kernel
  rw [e1, e2]
  simp only [app_assoc]
theorem j_ends {X : List Str} {z : Str} (h : X ≠ []) : joinB X ++ (Str.empty ++ Str.ofString " ends by " ++ z) = joinB (X ++ ([Str.ofString "ends", Str.ofString "by"] ++ bw z)) :=
  j_bw _ h (by simp) (by decide +kernel)
theorem lineR_eq (o i m : Str) : Str.empty ++ Str.ofString "under " ++ o ++ Str.ofString " " ++ i ++ Str.ofString " " ++ m = lineR o i m := by
  unfold lineR
  rw [joinB_cons, joinB_cons, joinB_cons, joinB_one, empty_app]
  have e1 : Str.ofString "under " = Str.ofString "under" ++ BLANK := by decide +kernel
  rw [e1]
  simp only [app_assoc]
end Hv
namespace L
open PySem L2 Hv
variable {P : Program} {w : World} {K : PySem.W.Frag} {mg : Str → Option Value} {base : Heap}
def KProps (K : PySem.W.Frag) (C : Addr) : Prop := (∃ f fd, PropAt K C "name" "Kind.name" s_Kind_name P_Kind_name f fd) ∧ (∃ f fd, PropAt K C "talks" "Kind.talks" s_Kind_talks P_Kind_talks f fd) ∧ (∃ f fd, PropAt K C "needs" "Kind.needs" s_Kind_needs P_Kind_needs f fd) ∧
  (∃ f fd, PropAt K C "closing" "Kind.closing" s_Kind_closing P_Kind_closing f fd) ∧ ∃ f fd, PropAt K C "ends" "Kind.ends" s_Kind_ends P_Kind_ends f fd
def RProps (K : PySem.W.Frag) (C : Addr) : Prop := (∃ f fd, PropAt K C "outer" "Row.outer" s_Row_outer P_Row_outer f fd) ∧ (∃ f fd, PropAt K C "inner" "Row.inner" s_Row_inner P_Row_inner f fd) ∧ ∃ f fd, PropAt K C "amount" "Row.amount" s_Row_amount P_Row_amount f fd
abbrev s_line_of_kind : Stmt := top 36
abbrev N_line_of_kind : List Str := ["kind", "line", "after", "bound"]
abbrev P_line_of_kind : List Str := ["kind"]
theorem sc_line_of_kind : FnScope N_line_of_kind P_line_of_kind (defScope s_line_of_kind) := ⟨rfl, rfl, rfl, by decide +kernel, rfl, by decide +kernel, by decide +kernel⟩
theorem ok_line_of_kind {C f f1 : Addr} {fd fd1 : FuncData} (D : DefAt K mg "line_of_kind" s_line_of_kind P_line_of_kind f fd) (T : Txt K mg) (TK : OwnTxt K mg "Kind" C) (KPS : KProps K C)
    (D_is_integer : DefAt K mg "is_integer" s_is_integer P_is_integer f1 fd1) : FnOk P w K mg base CX0 3 f fd P_line_of_kind (sp_line_of_kind K C) := by
  obtain ⟨⟨fk0, fdk0, D_Kind_name⟩, ⟨fk1, fdk1, D_Kind_talks⟩, ⟨fk2, fdk2, D_Kind_needs⟩, ⟨fk3, fdk3, D_Kind_closing⟩, ⟨fk4, fdk4, D_Kind_ends⟩⟩ := KPS
  have G_Kind_name : FnOk P w K mg base CX0 1 fk0 fdk0 P_Kind_name (sp_part C 0) := ok_Kind_name D_Kind_name TK.c TK.na
  have G_Kind_talks : FnOk P w K mg base CX0 1 fk1 fdk1 P_Kind_talks (sp_part C 1) := ok_Kind_talks D_Kind_talks TK.c TK.na
  have G_Kind_needs : FnOk P w K mg base CX0 1 fk2 fdk2 P_Kind_needs (sp_part C 2) := ok_Kind_needs D_Kind_needs TK.c TK.na
  have G_Kind_closing : FnOk P w K mg base CX0 1 fk3 fdk3 P_Kind_closing (sp_part C 3) := ok_Kind_closing D_Kind_closing TK.c TK.na
  have G_Kind_ends : FnOk P w K mg base CX0 1 fk4 fdk4 P_Kind_ends (sp_part C 4) := ok_Kind_ends D_Kind_ends TK.c TK.na
  have G_is_integer : FnOk P w K mg base CX0 1 f1 fd1 P_is_integer (sp_is_integer K) := ok_is_integer D_is_integer T
  refine D.fn.ok sc_line_of_kind (fun vs H Q E h => ?_) (fun cdv A outer s H vs Q E hr h => ?_)
  · obtain ⟨x, k, rfl, _⟩ := h
    rfl
  · obtain ⟨x, k, rfl, ⟨dx, pt, cl, h1, h2, h3⟩, ok, ret⟩ := h
    refine ⟨_, (pss_cons (ps_asg (pe_joined (.cons pe_str (.cons (pe_fmt (pe_propD (pv 0) TK.c D_Kind_name.pr G_Kind_name D_Kind_name.bd (hr.mono (by decide)))) .nil))) (pg_name (i := 1) sc_line_of_kind.nd rfl (.inl rfl)))
      (pss_cons (ps_if (pt_cmpR op_gt (pe_propD (pv 0) TK.c D_Kind_talks.pr G_Kind_talks D_Kind_talks.bd (hr.mono (by decide))) pe_int (nomark _))
      (pss_one (ps_aug (i := 1) sc_line_of_kind.nd rfl (.inl rfl) (pe_joined (.cons pe_str (.cons (pe_fmt (pe_propD (pv 0) TK.c D_Kind_talks.pr G_Kind_talks D_Kind_talks.bd (hr.mono (by decide)))) .nil))) iop_add_str))
      pss_nil)
      (pss_cons (ps_if (PW.pt (pw_or (pt_not (pt_val (pe_call G_is_integer (hr.mono (by decide)) rfl D_is_integer.mg D_is_integer.fn.kp D_is_integer.bd .nil pass0 (pa_cons (pe_propD (pv 0) TK.c D_Kind_needs.pr G_Kind_needs D_Kind_needs.bd (hr.mono (by decide))) pa_nil)))) (pw_or1 (pt_cmpR op_gt (pe_propD (pv 0) TK.c D_Kind_needs.pr G_Kind_needs D_Kind_needs.bd (hr.mono (by decide))) pe_int (nomark _)))))
      (pss_one (ps_aug (i := 1) sc_line_of_kind.nd rfl (.inl rfl) (pe_joined (.cons pe_str (.cons (pe_fmt (pe_propD (pv 0) TK.c D_Kind_needs.pr G_Kind_needs D_Kind_needs.bd (hr.mono (by decide)))) .nil))) iop_add_str))
      pss_nil)
      (pss_cons (ps_if (pt_cmpR op_notN (pe_propD (pv 0) TK.c D_Kind_closing.pr G_Kind_closing D_Kind_closing.bd (hr.mono (by decide))) pe_non (nomark _))
      (pss_cons (ps_asg (pe_propD (pv 0) TK.c D_Kind_closing.pr G_Kind_closing D_Kind_closing.bd (hr.mono (by decide))) (pg_tup (by rfl) (pgs_cons (pg_name (i := 2) sc_line_of_kind.nd rfl (.inl rfl)) (pgs_cons (pg_name (i := 3) sc_line_of_kind.nd rfl (.inl rfl)) pgs_nil))))
      (pss_one (ps_aug (i := 1) sc_line_of_kind.nd rfl (.inl rfl) (pe_joined (.cons pe_str (.cons (pe_fmt (pv 2)) (.cons pe_str (.cons (pe_fmt (pv 3)) .nil))))) iop_add_str)))
      pss_nil)
      (pss_one (ps_ret (pe_ifExp (pt_cmpR op_isN (pe_propD (pv 0) TK.c D_Kind_ends.pr G_Kind_ends D_Kind_ends.bd (hr.mono (by decide))) pe_non (nomark _)) (pv 1) (pe_op op_add_str (pv 1) (pe_joined (.cons pe_str (.cons (pe_fmt (pe_propD (pv 0) TK.c D_Kind_ends.pr G_Kind_ends D_Kind_ends.bd (hr.mono (by decide)))) .nil))))))))))), ?_⟩
    have at_ : ∀ (σ : L2.St) (i : Int) (v : V) (Q' : VK), σ[0]? = some (some (.ref x)) → atI [.str k.name, .int k.talks, k.needs, cl, endsV k.ends] i = some v → Q' v H → tProp C (sp_part C i) [] E0 (tVar 0) σ H Q' := fun σ i v Q' e0 e q =>
      ⟨_, e0, x, dx, _, rfl, h1, x, dx, pt, _, v, rfl, h1, h2, e, q⟩
    have sz : ∀ n : Nat, n ≤ 1000 → n ≤ sizeLine := fun n hn => Nat.le_trans hn (by decide)
    have nl := name_len ok.name
    have e7 : (Str.ofString "motion ").length = 7 := by decide +kernel
    have e8 : (Str.ofString " talks ").length = 7 := by decide +kernel
    have e9 : (Str.ofString " needs ").length = 7 := by decide +kernel
    have e10 : (Str.ofString " closed after ").length = 14 := by decide +kernel
    have e11 : (Str.ofString " by ").length = 4 := by decide +kernel
    have e12 : (Str.ofString " ends by ").length = 9 := by decide +kernel
    have em : Str.empty.length = 0 := rfl
    -- the name
    refine ⟨_, rfl, sz _ (by rw [Str.length_append]; omega), at_ _ 0 _ _ rfl rfl (.inl ⟨_, rfl, sz _ (by omega), _, rfl, sz _ (by rw [Str.length_append, Str.length_append]; omega), ?_⟩)⟩
    have L0 : (Str.empty ++ Str.ofString "motion " ++ k.name).length ≤ 15 := by rw [Str.length_append, Str.length_append]; omega
    rw [j_motion] at L0 ⊢
    dsimp only [gName]
    -- talks
    refine join_st (fun σ' H' => σ' = [some (.ref x), some (.str (joinB ([Str.ofString "motion", k.name] ++ tW k.talks))), none, none] ∧ H = H' ∧ (joinB ([Str.ofString "motion", k.name] ++ tW k.talks)).length ≤ 30) (fun nx' fin => ?_) ?_
    · refine at_ _ 1 _ _ rfl rfl ⟨_, _, rfl, rfl, _, rfl, ?_⟩
      by_cases c : 0 < k.talks
      · have tl := num_len ok.talks.1 (Int.le_trans ok.talks.2 (by decide))
        refine ifT c ⟨_, rfl, _, rfl, sz _ (by rw [Str.length_append]; omega), at_ _ 1 _ _ rfl rfl (.inr ⟨_, rfl, num_log ok.talks.1 (Int.le_trans ok.talks.2 (by decide)), _, rfl, sz _ ?_, _, _, rfl, rfl, sz _ ?_, ?_⟩)⟩
        · rw [Str.length_append, Str.length_append]
          show _ + _ + (num k.talks).length ≤ 1000
          omega
        · rw [Str.length_append, Str.length_append]
          show _ + (_ + _ + (num k.talks).length) ≤ 1000
          omega
        · have e : joinB [Str.ofString "motion", k.name] ++ (Str.empty ++ Str.ofString " talks " ++ num k.talks) = joinB ([Str.ofString "motion", k.name] ++ tW k.talks) := by
            unfold tW
            rw [if_pos c]
            exact j_two _ (by simp) (by decide +kernel)
          refine fin _ _ ⟨?_, rfl, ?_⟩
          · rw [← e]
            rfl
          · rw [← e, Str.length_append, Str.length_append, Str.length_append]
            omega
      · refine ifF c (fin _ _ ?_)
        have e : tW k.talks = [] := by
          unfold tW
          rw [if_neg c]
        rw [e, List.append_nil]
        exact ⟨rfl, rfl, by omega⟩
    rintro _ _ ⟨rfl, rfl, L1⟩
    have ret : Q (.str (joinB (((([Str.ofString "motion", k.name] ++ tW k.talks) ++ nW k.needs) ++ cW k.closing) ++ eW k.ends))) H := by
      simp only [List.append_assoc]
      exact ret
    have n1 : [Str.ofString "motion", k.name] ++ tW k.talks ≠ [] := by simp
    generalize [Str.ofString "motion", k.name] ++ tW k.talks = X1 at L1 n1 ret ⊢
    -- needs
    refine join_st (fun σ' H' => σ' = [some (.ref x), some (.str (joinB (X1 ++ nW k.needs))), none, none] ∧ H = H' ∧ (joinB (X1 ++ nW k.needs)).length ≤ 60) (fun nx' fin => ?_) ?_
    · rcases ok.needs with ⟨i, en, i1, i9⟩ | ⟨z, en, bz⟩
      · refine at_ _ 2 (.int i) _ rfl (by rw [en]; rfl) ⟨_, _, true, false, rfl, .base (.int _), kit_ty (by decide +kernel), kit_ty (by decide +kernel), _, rfl, ?_⟩
        refine iteF (at_ _ 2 (.int i) _ rfl (by rw [en]; rfl) ⟨_, _, rfl, rfl, _, rfl, ?_⟩)
        by_cases c : 1 < i
        · have tl := num_len (i := i) (by omega) (by omega)
          refine ifT c ⟨_, rfl, _, rfl, sz _ (by rw [Str.length_append]; omega), at_ _ 2 (.int i) _ rfl (by rw [en]; rfl) (.inr ⟨_, rfl, num_log (by omega) (by omega), _, rfl, sz _ ?_, _, _, rfl, rfl, sz _ ?_, ?_⟩)⟩
          · rw [Str.length_append, Str.length_append]
            show _ + _ + (num i).length ≤ 1000
            omega
          · rw [Str.length_append, Str.length_append]
            show _ + (_ + _ + (num i).length) ≤ 1000
            omega
          · have e : joinB X1 ++ (Str.empty ++ Str.ofString " needs " ++ num i) = joinB (X1 ++ nW k.needs) := by
              rw [en]
              show _ = joinB (X1 ++ if 1 < i then [Str.ofString "needs", num i] else [])
              rw [if_pos c]
              exact j_two _ n1 (by decide +kernel)
            refine fin _ _ ⟨?_, rfl, ?_⟩
            · rw [← e]
              rfl
            · rw [← e, Str.length_append, Str.length_append, Str.length_append]
              omega
        · refine ifF c (fin _ _ ?_)
          have e : nW k.needs = [] := by
            rw [en]
            show (if 1 < i then [Str.ofString "needs", num i] else []) = []
            rw [if_neg c]
          rw [e, List.append_nil]
          exact ⟨rfl, rfl, by omega⟩
      · have zl := bt_len bz
        refine at_ _ 2 (.str z) _ rfl (by rw [en]; rfl) ⟨_, _, false, false, rfl, .base (.str _), kit_ty (by decide +kernel), kit_ty (by decide +kernel), _, rfl, ?_⟩
        refine iteT ⟨_, rfl, _, rfl, sz _ (by rw [Str.length_append]; omega), at_ _ 2 (.str z) _ rfl (by rw [en]; rfl) (.inl ⟨_, rfl, sz _ (by omega), _, rfl, sz _ ?_, _, _, rfl, rfl, sz _ ?_, ?_⟩)⟩
        · rw [Str.length_append, Str.length_append]
          omega
        · rw [Str.length_append, Str.length_append]
          omega
        · have e : joinB X1 ++ (Str.empty ++ Str.ofString " needs " ++ z) = joinB (X1 ++ nW k.needs) := by
            rw [en]
            exact j_bw [Str.ofString "needs"] n1 (by simp) (by decide +kernel)
          refine fin _ _ ⟨?_, rfl, ?_⟩
          · rw [← e]
            rfl
          · rw [← e, Str.length_append, Str.length_append, Str.length_append]
            omega
    rintro _ _ ⟨rfl, rfl, L2⟩
    have n2 : X1 ++ nW k.needs ≠ [] := by simp [n1]
    generalize X1 ++ nW k.needs = X2 at L2 n2 ret ⊢
    -- closing
    refine join_st (fun σ' H' => ∃ x2 x3, σ' = [some (.ref x), some (.str (joinB (X2 ++ cW k.closing))), x2, x3] ∧ H = H' ∧ (joinB (X2 ++ cW k.closing)).length ≤ 110) (fun nx' fin => ?_) ?_
    · cases ec : k.closing with
      | none =>
        rw [ec] at h3
        cases (show cl = .non from h3)
        refine at_ _ 3 _ _ rfl rfl ⟨rfl, _, rfl, ?_⟩
        refine ifNF rfl (fin _ _ ⟨none, none, ?_, rfl, ?_⟩)
        · rw [ec]
          show _ = [some (V.ref x), some (.str (joinB (X2 ++ []))), none, none]
          rw [List.append_nil]
        · rw [ec]
          show (joinB (X2 ++ [])).length ≤ 110
          rw [List.append_nil]
          omega
      | some p =>
        obtain ⟨i, z⟩ := p
        rw [ec] at h3
        obtain ⟨ca, rfl, hca⟩ := h3
        obtain ⟨i0, i3, bz⟩ := ok.closing i z ec
        have zl := bt_len bz
        have tl := num_len (i := i) i0 (by omega)
        refine at_ _ 3 _ _ rfl rfl ⟨rfl, _, rfl, ?_⟩
        refine ifNT (by intro q; cases q) (at_ _ 3 _ _ rfl rfl ⟨ca, _, rfl, SqT.of hca, rfl, _, _, rfl, _, _, rfl, rfl, ?_⟩)
        refine ⟨_, rfl, _, rfl, sz _ (by rw [Str.length_append]; omega), _, rfl, .inr ⟨_, rfl, num_log i0 (by omega), _, rfl, sz _ ?_, _, rfl, sz _ ?_, _, rfl, .inl ⟨_, rfl, sz _ (by omega), _, rfl, sz _ ?_, _, _, rfl, rfl, sz _ ?_, ?_⟩⟩⟩
        · rw [Str.length_append, Str.length_append]
          show _ + _ + (num i).length ≤ 1000
          omega
        · rw [Str.length_append, Str.length_append, Str.length_append]
          show _ + _ + (num i).length + _ ≤ 1000
          omega
        · rw [Str.length_append, Str.length_append, Str.length_append, Str.length_append]
          show _ + _ + (num i).length + _ + _ ≤ 1000
          omega
        · rw [Str.length_append, Str.length_append, Str.length_append, Str.length_append]
          show _ + (_ + _ + (num i).length + _ + _) ≤ 1000
          omega
        · have e : joinB X2 ++ (Str.empty ++ Str.ofString " closed after " ++ num i ++ Str.ofString " by " ++ z) = joinB (X2 ++ cW k.closing) := by
            rw [ec]
            exact j_clos n2
          refine fin _ _ ⟨some (.int i), some (.str z), ?_, rfl, ?_⟩
          · rw [← e]
            rfl
          · rw [← e, Str.length_append, Str.length_append, Str.length_append, Str.length_append, Str.length_append]
            omega
    rintro _ _ ⟨x2, x3, rfl, rfl, L3⟩
    have n3 : X2 ++ cW k.closing ≠ [] := by simp [n2]
    generalize X2 ++ cW k.closing = X3 at L3 n3 ret ⊢
    -- ends
    cases ee : k.ends with
    | none =>
      rw [ee] at ret
      refine at_ _ 4 .non _ rfl (by rw [ee]; rfl) ⟨rfl, _, rfl, ifT rfl ⟨_, rfl, ?_⟩⟩
      have e : X3 ++ eW none = X3 := List.append_nil _
      rw [e] at ret
      exact ret
    | some z =>
      rw [ee] at ret
      have zl := bt_len (ok.ends z ee)
      refine at_ _ 4 (.str z) _ rfl (by rw [ee]; rfl) ⟨rfl, _, rfl, ifF (by intro q; cases q) ⟨_, rfl, _, rfl, sz _ (by rw [Str.length_append]; omega), at_ _ 4 (.str z) _ rfl (by rw [ee]; rfl) (.inl ⟨_, rfl, sz _ (by omega), _, rfl, sz _ ?_, _, _, rfl, rfl, sz _ ?_, ?_⟩)⟩⟩
      · rw [Str.length_append, Str.length_append]
        omega
      · rw [Str.length_append, Str.length_append]
        omega
      · rw [j_ends n3]
        exact ret
abbrev s_line_of_row : Stmt := top 37
abbrev N_line_of_row : List Str := ["row"]
abbrev P_line_of_row : List Str := ["row"]
theorem sc_line_of_row : FnScope N_line_of_row P_line_of_row (defScope s_line_of_row) := ⟨rfl, rfl, rfl, by decide +kernel, rfl, by decide +kernel, by decide +kernel⟩
theorem ok_line_of_row {CR f : Addr} {fd : FuncData} (D : DefAt K mg "line_of_row" s_line_of_row P_line_of_row f fd) (TR : OwnTxt K mg "Row" CR) (RPS : RProps K CR) : FnOk P w K mg base CX0 3 f fd P_line_of_row (sp_line_of_row CR) := by
  obtain ⟨⟨fr0, fdr0, D_Row_outer⟩, ⟨fr1, fdr1, D_Row_inner⟩, ⟨fr2, fdr2, D_Row_amount⟩⟩ := RPS
  have G_Row_outer : FnOk P w K mg base CX0 1 fr0 fdr0 P_Row_outer (sp_part CR 0) := ok_Row_outer D_Row_outer TR.c TR.na
  have G_Row_inner : FnOk P w K mg base CX0 1 fr1 fdr1 P_Row_inner (sp_part CR 1) := ok_Row_inner D_Row_inner TR.c TR.na
  have G_Row_amount : FnOk P w K mg base CX0 1 fr2 fdr2 P_Row_amount (sp_part CR 2) := ok_Row_amount D_Row_amount TR.c TR.na
  refine D.fn.ok sc_line_of_row (fun vs H Q E h => ?_) (fun cdv A outer s H vs Q E hr h => ?_)
  · obtain ⟨x, o, i, m, rfl, _⟩ := h
    rfl
  · obtain ⟨x, o, i, m, rfl, ⟨dx, pt, h1, h2⟩, ol, il, ml, ret⟩ := h
    refine ⟨_, (pss_one (ps_ret (pe_joined (.cons pe_str (.cons (pe_fmt (pe_propD (pv 0) TR.c D_Row_outer.pr G_Row_outer D_Row_outer.bd (hr.mono (by decide)))) (.cons pe_str (.cons (pe_fmt (pe_propD (pv 0) TR.c D_Row_inner.pr G_Row_inner D_Row_inner.bd (hr.mono (by decide)))) (.cons pe_str (.cons (pe_fmt (pe_propD (pv 0) TR.c D_Row_amount.pr G_Row_amount D_Row_amount.bd (hr.mono (by decide)))) .nil))))))))), ?_⟩
    have at_ : ∀ (σ : L2.St) (j : Int) (v : V) (Q' : VK), σ[0]? = some (some (.ref x)) → atI [.str o, .str i, .str m] j = some v → Q' v H → tProp CR (sp_part CR j) [] E0 (tVar 0) σ H Q' := fun σ i v Q' e0 e q =>
      ⟨_, e0, x, dx, _, rfl, h1, x, dx, pt, _, v, rfl, h1, h2, e, q⟩
    have sz : ∀ n : Nat, n ≤ 4000 → n ≤ sizeLine := fun n hn => Nat.le_trans hn (by decide)
    have e6 : (Str.ofString "under ").length = 6 := by decide +kernel
    have e1 : (Str.ofString " ").length = 1 := by decide +kernel
    have em : Str.empty.length = 0 := rfl
    rw [← lineR_eq] at ret
    refine ⟨_, rfl, sz _ (by rw [Str.length_append]; omega), at_ _ 0 _ _ rfl rfl (.inl ⟨_, rfl, sz _ (by omega), _, rfl, sz _ ?_, _, rfl, sz _ ?_, at_ _ 1 _ _ rfl rfl (.inl ⟨_, rfl, sz _ (by omega), _, rfl, sz _ ?_, _, rfl, sz _ ?_, at_ _ 2 _ _ rfl rfl (.inl ⟨_, rfl, sz _ (by omega), _, rfl, sz _ ?_, ret⟩)⟩)⟩)⟩
    all_goals
      simp only [Str.length_append]
      omega
end L

namespace Hv
open PySem L2
/-- needs, as a value -/
def needsOf (n : Option Nat) (b : Option Str) : V := match n with
  | some i => .int (i : Int)
  | none => endsV b
def closOf (a : Option Nat) (b : Option Str) : Option (Int × Str) := match a, b with
  | some i, some y => some ((i : Int), y)
  | _, _ => none
structure Parse where
  talks : Option Nat
  needs : V
  clos : Option (Int × Str)
  ends : Option Str
  left : List Str
def parseK (l0 : List Str) : Parse :=
  let t := afterNum l0 [Str.ofString "talks"] 3
  let n := afterNum t.2 [Str.ofString "needs"] 9
  let nb := if n.1.isNone then afterBd n.2 [Str.ofString "needs"] else (none, n.2)
  let a := afterNum nb.2 [Str.ofString "closed", Str.ofString "after"] 3
  let b := afterBd a.2 [Str.ofString "by"]
  let l4 := if (closOf a.1 b.1).isSome then b.2 else nb.2
  let e := afterBd l4 [Str.ofString "ends", Str.ofString "by"]
  ⟨t.1, needsOf n.1 nb.1, closOf a.1 b.1, e.1, e.2⟩
def mkK (name : Str) (p : Parse) : Kd := ⟨name, ((p.talks.getD 0 : Nat) : Int), if p.needs = .non then .int 1 else p.needs, p.clos, p.ends⟩
def readK (z : Str) : Option Kd := match bw z with
  | m :: name :: left => if m = Str.ofString "motion" ∧ nameOk name = true then
      if (parseK left).left ≠ [] ∨ (parseK left).needs = .int 0 then none else if lineK (mkK name (parseK left)) = z then some (mkK name (parseK left)) else none
    else none
  | _ => none
def readR (z : Str) : Option (Str × Str × Str) := match Txt.splitMax z BLANK 3 with
  | u :: o :: i :: m :: _ => if u = Str.ofString "under" ∧ nameOk o = true ∧ nameOk i = true ∧ (sortOf m).isSome = true then some (o, i, m) else none
  | _ => none
theorem numOf_le {z : Str} {m n : Nat} (h : numOf z m = some n) : n ≤ m := (numOf_some h).1
theorem afterNum_le {ws marks : List Str} {most n : Nat} (h : (afterNum ws marks most).1 = some n) : n ≤ most := by
  unfold afterNum at h
  split at h
  · split at h
    · rename_i n' e
      cases h
      exact numOf_le e
    · cases h
  · cases h
theorem afterBd_bt {ws marks : List Str} {z : Str} (hw : WOk ws) (h : (afterBd ws marks).1 = some z) : BT z := by
  unfold afterBd at h
  split at h
  · rename_i c
    cases h
    obtain ⟨a, b, l⟩ := line_of (frac_mem c.2)
    exact ⟨l.ok, c.2⟩
  · cases h
theorem mkK_ok {name : Str} {left : List Str} (hn : nameOk name = true) (hw : WOk left) (h0 : (parseK left).needs ≠ .int 0) : (mkK name (parseK left)).Ok := by
  have hw1 : WOk (afterNum left [Str.ofString "talks"] 3).2 := hw.sub (afterNum_sub _ _ _)
  have hw2 : WOk (afterNum (afterNum left [Str.ofString "talks"] 3).2 [Str.ofString "needs"] 9).2 := hw1.sub (afterNum_sub _ _ _)
  generalize e1 : afterNum left [Str.ofString "talks"] 3 = t at hw1 hw2
  generalize e2 : afterNum t.2 [Str.ofString "needs"] 9 = n at hw2
  have hw3 : WOk (if n.1.isNone = true then afterBd n.2 [Str.ofString "needs"] else (none, n.2)).2 := by
    split
    · exact hw2.sub (afterBd_sub _ _)
    · exact hw2
  generalize e3 : (if n.1.isNone = true then afterBd n.2 [Str.ofString "needs"] else (none, n.2)) = nb at hw3
  have hw4 : WOk (afterNum nb.2 [Str.ofString "closed", Str.ofString "after"] 3).2 := hw3.sub (afterNum_sub _ _ _)
  generalize e4 : afterNum nb.2 [Str.ofString "closed", Str.ofString "after"] 3 = a at hw4
  have hw5 : WOk (afterBd a.2 [Str.ofString "by"]).2 := hw4.sub (afterBd_sub _ _)
  generalize e5 : afterBd a.2 [Str.ofString "by"] = b at hw5
  have hw6 : WOk (if (closOf a.1 b.1).isSome = true then b.2 else nb.2) := by
    split
    · exact hw5
    · exact hw3
  have pk : parseK left = ⟨t.1, needsOf n.1 nb.1, closOf a.1 b.1, (afterBd (if (closOf a.1 b.1).isSome = true then b.2 else nb.2) [Str.ofString "ends", Str.ofString "by"]).1, (afterBd (if (closOf a.1 b.1).isSome = true then b.2 else nb.2) [Str.ofString "ends", Str.ofString "by"]).2⟩ := by
    unfold parseK
    dsimp only
    rw [e1, e2, e3, e4, e5]
  rw [pk] at h0 ⊢
  dsimp only at h0
  have nl := name_len hn
  refine ⟨hn, Nat.le_trans nl (by decide), ?_, ?_, ?_, ?_⟩
  · show 0 ≤ ((t.1.getD 0 : Nat) : Int) ∧ ((t.1.getD 0 : Nat) : Int) ≤ 3
    cases q : t.1 with
    | none => exact ⟨by simp, by simp⟩
    | some m =>
      have := afterNum_le (by rw [e1]; exact q)
      simp
      omega
  · show (∃ i, (if needsOf n.1 nb.1 = .non then V.int 1 else needsOf n.1 nb.1) = .int i ∧ 1 ≤ i ∧ i ≤ 9) ∨ ∃ z, (if needsOf n.1 nb.1 = .non then V.int 1 else needsOf n.1 nb.1) = .str z ∧ BT z
    cases q : n.1 with
    | some i =>
      rw [q] at h0
      have := afterNum_le (by rw [e2]; exact q)
      refine .inl ⟨i, by simp [needsOf], ?_, by omega⟩
      have : i ≠ 0 := fun e => h0 (by rw [e]; rfl)
      omega
    | none =>
      cases q2 : nb.1 with
      | none => exact .inl ⟨1, by simp [needsOf, endsV], by decide, by decide⟩
      | some z =>
        refine .inr ⟨z, by simp [needsOf, endsV], ?_⟩
        rw [q] at e3
        exact afterBd_bt hw2 (by rw [show afterBd n.2 [Str.ofString "needs"] = nb from e3]; exact q2)
  · intro i z h
    have h : closOf a.1 b.1 = some (i, z) := h
    cases q : a.1 with
    | none => rw [q] at h; cases h
    | some j =>
      cases q2 : b.1 with
      | none => rw [q, q2] at h; cases h
      | some y =>
        rw [q, q2] at h
        cases h
        have := afterNum_le (by rw [e4]; exact q)
        exact ⟨by omega, by omega, afterBd_bt hw4 (by rw [e5]; exact q2)⟩
  · intro z h
    exact afterBd_bt hw6 h
def sp_read_kind (K : PySem.W.Frag) (C : Addr) : Sp := fun vs H Q _ => ∃ z : Str, vs = [.str z] ∧ PyData.strOk z = true ∧ z.length ≤ 40000 ∧ (readK z = none → ∀ H', Same H H' → Q .non H') ∧
  ∀ k, readK z = some k → k.Ok → ∀ a H', H a = none → Same H H' → KindAt K C H' a k → Q (.ref a) H'
def sp_read_row (C : Addr) : Sp := fun vs H Q _ => ∃ z : Str, vs = [.str z] ∧ z.length ≤ 40000 ∧ (readR z = none → ∀ H', Same H H' → Q .non H') ∧
  ∀ o i m, readR z = some (o, i, m) → RowOk o i m → ∀ a H', H a = none → Same H H' → RowAt C H' a o i m → Q (.ref a) H'
end Hv
namespace L
open PySem L2 Hv
variable {P : Program} {w : World} {K : PySem.W.Frag} {mg : Str → Option Value} {base : Heap}
theorem wok_of {l : List Str} (h : (l.all fun z => PyData.strOk z && decide (z.length ≤ 40000)) = true) : WOk l := fun z hz => by
  have := List.all_eq_true.mp h z hz
  simpa using this
theorem in_len {n m : Nat} (h : n ≤ m) (hm : m ≤ 1000000) : n ≤ sizeLine := Nat.le_trans h (Nat.le_trans hm (by decide))
theorem getD_some {ws : List Str} {n : Nat} (h : n < ws.length) : (ws.map V.str)[n]? = some (.str (ws.getD n Str.empty)) := by
  simp [h]
theorem getD_mem {ws : List Str} {n : Nat} (h : n < ws.length) : ws.getD n Str.empty ∈ ws := by
  have : ws.getD n Str.empty = ws[n] := by simp [h]
  rw [this]
  exact List.getElem_mem _
abbrev s_after_number : Stmt := top 38
abbrev N_after_number : List Str := ["words", "marks", "most", "size", "number"]
abbrev P_after_number : List Str := ["words", "marks", "most"]
theorem sc_after_number : FnScope N_after_number P_after_number (defScope s_after_number) := ⟨rfl, rfl, rfl, by decide +kernel, rfl, by decide +kernel, by decide +kernel⟩
theorem ok_after_number {f f1 : Addr} {fd fd1 : FuncData} (D : DefAt K mg "after_number" s_after_number P_after_number f fd) (T : Txt K mg)
    (D_number_of : DefAt K mg "number_of" s_number_of P_number_of f1 fd1) : FnOk P w K mg base CX0 2 f fd P_after_number (sp_after_number K) := by
  have G_number_of : FnOk P w K mg base CX0 1 f1 fd1 P_number_of sp_number_of := ok_number_of D_number_of T
  refine D.fn.ok sc_after_number (fun vs H Q E h => ?_) (fun cdv A outer s H vs Q E hr h => ?_)
  · obtain ⟨a, m, ws, marks, most, rfl, _⟩ := h
    rfl
  · obtain ⟨a, m, ws, marks, most, rfl, ha, hm, wo, mo, m12, ret⟩ := h
    refine ⟨_, (pss_cons (ps_asg (pe_callB call_len_seq (by rfl) T.len (by decide +kernel) (pa_cons (pv 1) pa_nil)) (pg_name (i := 3) sc_after_number.nd rfl (.inl rfl)))
      (pss_cons (ps_if (PW.pt (pw_or (pt_cmpR (op_neD hr.units) (pe_slice sl_list (pv 0) po_none (po_some (pv 3))) (pv 1) (nomark _)) (pw_or1 (pt_cmpR op_le (pe_callB call_len_seq (by rfl) T.len (by decide +kernel) (pa_cons (pv 0) pa_nil)) (pv 3) (nomark _)))))
      (pss_one (ps_ret (pe_tup (pa_cons pe_non (pa_cons (pv 0) pa_nil)))))
      pss_nil)
      (pss_cons (ps_asg (pe_call G_number_of (hr.mono (by decide)) rfl D_number_of.mg D_number_of.fn.kp D_number_of.bd .nil pass0 (pa_cons (pe_ix ix_list (pv 0) (pv 3) (fun _ _ => rfl)) (pa_cons (pv 2) pa_nil))) (pg_name (i := 4) sc_after_number.nd rfl (.inl rfl)))
      (pss_one (ps_ret (pe_ifExp (pt_cmpR op_isN (pv 4) pe_non (nomark _)) (pe_tup (pa_cons pe_non (pa_cons (pv 0) pa_nil))) (pe_tup (pa_cons (pv 4) (pa_cons (pe_slice sl_list (pv 0) (po_some (pe_op op_add (pv 3) pe_int)) po_none) pa_nil))))))))), ?_⟩
    have none_ : afterNum ws marks most = (none, ws) → ∀ H', Same H H' → ∀ p, H' p = none → Q (.ref p) (upd H' p (.tup [.non, .ref a])) := fun e H' s' p hp => by
      rw [e] at ret
      exact ret p a _ (s'.trans (same_new hp)) upd_same (same_new hp _ _ (s' _ _ ha))
    refine ⟨_, rfl, _, _, rfl, .inl (SqL.of hm), ?_⟩
    rw [List.length_map]
    refine ⟨_, rfl, _, rfl, _, rfl, a, _, rfl, SqL.of ha, fun q hq => ?_⟩
    rw [cutV_to, ← List.map_take]
    have s1 := same_new (o := .lst ((ws.take marks.length).map V.str)) hq
    refine ⟨_, rfl, .list ((ws.take marks.length).map PyData.str), .list (marks.map PyData.str), .lst (SqL.of upd_same) (dps _), .lst (SqL.of (s1 _ _ hm)) (dps _), (wo.take _).shaped, mo.shaped, _, rfl, ?_⟩
    rw [eqv_strs]
    by_cases c1 : ws.take marks.length = marks
    · refine ifNF c1 ⟨_, rfl, _, _, rfl, .inl (SqL.of (s1 _ _ ha)), _, rfl, _, _, rfl, rfl, _, rfl, ?_⟩
      rw [List.length_map]
      by_cases c2 : marks.length < ws.length
      · refine ifF (by omega) ?_
        have un : afterNum ws marks most = match numOf (ws.getD marks.length Str.empty) most with
            | some n => (some n, ws.drop (marks.length + 1))
            | none => (none, ws) := by
          unfold afterNum
          rw [if_pos ⟨c1, c2⟩]
          try rfl
        refine ⟨_, rfl, _, rfl, _, _, _, _, rfl, rfl, SqL.of (s1 _ _ ha), atI_nat (getD_some c2), _, rfl, _, most, rfl, in_len (wo _ (getD_mem c2)).2 (by decide), m12, fun H1 s2 => ?_⟩
        have s3 := s1.trans s2
        cases en : numOf (ws.getD marks.length Str.empty) most with
        | none =>
          rw [en] at un
          exact ⟨_, rfl, rfl, _, rfl, ifT rfl ⟨_, rfl, (by show 2 ≤ sizeLine; decide), fun p hp => none_ un _ s3 p hp⟩⟩
        | some n =>
          rw [en] at un
          rw [un] at ret
          refine ⟨_, rfl, rfl, _, rfl, ifF (by intro q; cases q) ⟨_, rfl, _, rfl, _, rfl, _, _, rfl, rfl, _, rfl, a, _, rfl, SqL.of (s3 _ _ ha), fun l hl => ⟨(by show 2 ≤ sizeLine; decide), fun p hp => ?_⟩⟩⟩
          have e : cutV (ws.map V.str) (some ((marks.length : Int) + 1)) none = (ws.drop (marks.length + 1)).map V.str := by
            rw [show ((marks.length : Int) + 1) = ((marks.length + 1 : Nat) : Int) from rfl, cutV_from, List.map_drop]
          refine ret p l _ ((s3.trans (same_new hl)).trans (same_new hp)) upd_same (same_new hp _ _ ?_)
          rw [upd_same]
          exact congrArg (fun z => some (HO.lst z)) e
      · refine ifT (by omega) ⟨_, rfl, (by show 2 ≤ sizeLine; decide), fun p hp => none_ ?_ _ s1 p hp⟩
        unfold afterNum
        rw [if_neg (fun z => c2 z.2)]
    · refine ifNT c1 (iteT ⟨_, rfl, (by show 2 ≤ sizeLine; decide), fun p hp => none_ ?_ _ s1 p hp⟩)
      unfold afterNum
      rw [if_neg (fun z => c1 z.1)]
abbrev s_after_bound : Stmt := top 39
abbrev N_after_bound : List Str := ["words", "marks", "size", "more", "bound"]
abbrev P_after_bound : List Str := ["words", "marks"]
theorem sc_after_bound : FnScope N_after_bound P_after_bound (defScope s_after_bound) := ⟨rfl, rfl, rfl, by decide +kernel, rfl, by decide +kernel, by decide +kernel⟩
theorem ok_after_bound {f f1 : Addr} {fd fd1 : FuncData} (D : DefAt K mg "after_bound" s_after_bound P_after_bound f fd) (T : Txt K mg)
    (D_is_bound : DefAt K mg "is_bound" s_is_bound P_is_bound f1 fd1) (G_is_bound : FnOk P w K mg base CX0 3 f1 fd1 P_is_bound (sp_is_bound K)) : FnOk P w K mg base CX0 4 f fd P_after_bound (sp_after_bound K) := by
  refine D.fn.ok sc_after_bound (fun vs H Q E h => ?_) (fun cdv A outer s H vs Q E hr h => ?_)
  · obtain ⟨a, m, ws, marks, rfl, _⟩ := h
    rfl
  · obtain ⟨a, m, ws, marks, rfl, ha, hm, wo, mo, ret⟩ := h
    refine ⟨_, (pss_cons (ps_asg (pe_callB call_len_seq (by rfl) T.len (by decide +kernel) (pa_cons (pv 1) pa_nil)) (pg_name (i := 2) sc_after_bound.nd rfl (.inl rfl)))
      (pss_cons (ps_asg (pe_ifExp (pt_cmpR (op_eqD hr.units) (pe_slice sl_list (pv 0) (po_some (pv 2)) (po_some (pe_op op_add (pv 2) pe_int))) (pe_lst (pa_cons pe_str pa_nil)) (nomark _)) pe_int pe_int) (pg_name (i := 3) sc_after_bound.nd rfl (.inl rfl)))
      (pss_cons (ps_asg (pe_join pe_str (pe_slice sl_list (pv 0) (po_some (pv 2)) (po_some (pe_op op_add (pv 2) (pv 3))))) (pg_name (i := 4) sc_after_bound.nd rfl (.inl rfl)))
      (pss_one (ps_ret (pe_ifExp (PW.pt (pw_and (pt_cmpR (op_eqD hr.units) (pe_slice sl_list (pv 0) po_none (po_some (pv 2))) (pv 1) (nomark _)) (pw_and1 (pt_val (pe_call G_is_bound (hr.mono (by decide)) rfl D_is_bound.mg D_is_bound.fn.kp D_is_bound.bd .nil pass0 (pa_cons (pv 4) pa_nil)))))) (pe_tup (pa_cons (pv 4) (pa_cons (pe_slice sl_list (pv 0) (po_some (pe_op op_add (pv 2) (pv 3))) po_none) pa_nil))) (pe_tup (pa_cons pe_non (pa_cons (pv 0) pa_nil))))))))), ?_⟩
    have none_ : afterBd ws marks = (none, ws) → ∀ H', Same H H' → ∀ p, H' p = none → Q (.ref p) (upd H' p (.tup [.non, .ref a])) := fun e H' s' p hp => by
      rw [e] at ret
      exact ret p a _ (s'.trans (same_new hp)) upd_same (same_new hp _ _ (s' _ _ ha))
    refine ⟨_, rfl, _, _, rfl, .inl (SqL.of hm), ?_⟩
    rw [List.length_map]
    dsimp only [gName]
    refine join_asg (fun x H' => x = .int (moreOf ws marks.length : Nat) ∧ Same H H') (fun Q' fin => ?_) ?_
    · refine ⟨_, rfl, _, rfl, _, rfl, _, rfl, _, _, rfl, rfl, _, rfl, a, _, rfl, SqL.of ha, fun q hq => ?_⟩
      rw [show ((marks.length : Int) + 1) = ((marks.length + 1 : Nat) : Int) from rfl, cutV_mid, ← List.map_drop, ← List.map_take]
      have s1 := same_new (o := .lst (((ws.drop marks.length).take 1).map V.str)) hq
      refine ⟨(by show 1 ≤ sizeLine; decide), fun q2 hq2 => ?_⟩
      have s2 := s1.trans (same_new (o := .lst [.str (Str.ofString "over")]) hq2)
      refine ⟨.list (((ws.drop marks.length).take 1).map PyData.str), .list ([Str.ofString "over"].map PyData.str), .lst (SqL.of (same_new hq2 _ _ upd_same)) (dps _), .lst (SqL.of upd_same) (dps [Str.ofString "over"]), ((wo.drop _).take _).shaped, (wok_of (by decide +kernel)).shaped, _, rfl, ?_⟩
      rw [eqv_strs]
      by_cases c : (ws.drop marks.length).take 1 = [Str.ofString "over"]
      · refine ifT c (fin _ _ ⟨?_, s2⟩)
        unfold moreOf
        rw [if_pos c]
        rfl
      · refine ifF c (fin _ _ ⟨?_, s2⟩)
        unfold moreOf
        rw [if_neg c]
        rfl
    rintro _ H1 ⟨rfl, s1⟩
    have m2 : moreOf ws marks.length ≤ 2 := by
      unfold moreOf
      split <;> decide
    dsimp only [gName]
    refine ⟨⟨_, rfl⟩, _, rfl, _, rfl, _, rfl, _, rfl, _, rfl, _, _, rfl, rfl, _, rfl, a, _, rfl, SqL.of (s1 _ _ ha), fun q hq => ?_⟩
    rw [show ((marks.length : Int) + (moreOf ws marks.length : Nat)) = ((marks.length + moreOf ws marks.length : Nat) : Int) from rfl, cutV_mid, ← List.map_drop, ← List.map_take]
    have s2 := s1.trans (same_new (o := .lst (((ws.drop marks.length).take (moreOf ws marks.length)).map V.str)) hq)
    have wt : WOk ((ws.drop marks.length).take (moreOf ws marks.length)) := (wo.drop _).take _
    have ll : ((ws.drop marks.length).take (moreOf ws marks.length)).length ≤ 2 := by
      rw [List.length_take]
      omega
    have bl : ∀ l : List Str, l.length ≤ 2 → WOk l → (l.map (·.length)).sum + l.length * BLANK.length ≤ 80002 ∧ (joinB l).length ≤ 80001 := by
      intro l hl hw
      have b1 : BLANK.length = 1 := rfl
      match l, hl, hw with
      | [], _, _ => exact ⟨by simp, by rw [joinB_str]; exact Nat.zero_le _⟩
      | [x], _, hw =>
        have := (hw x List.mem_cons_self).2
        refine ⟨by simp [b1]; omega, ?_⟩
        rw [joinB_one]
        omega
      | [x, y], _, hw =>
        have h1 := (hw x List.mem_cons_self).2
        have h2 := (hw y (List.mem_cons_of_mem _ List.mem_cons_self)).2
        refine ⟨by simp [b1]; omega, ?_⟩
        rw [joinB_cons, joinB_one, Str.length_append, Str.length_append]
        omega
    obtain ⟨b1, b2⟩ := bl _ ll wt
    refine ⟨_, q, _, rfl, rfl, .inl (SqL.of upd_same), Nat.le_trans b1 (by decide), ?_⟩
    have eb : Txt.join (Str.ofString " ") ((ws.drop marks.length).take (moreOf ws marks.length)) = bdOf ws marks.length := rfl
    rw [eb]
    have b2 : (bdOf ws marks.length).length ≤ 80001 := b2
    generalize upd H1 q _ = H2 at s2 ⊢
    refine ⟨_, rfl, _, rfl, _, rfl, a, _, rfl, SqL.of (s2 _ _ ha), fun q2 hq2 => ?_⟩
    rw [cutV_to, ← List.map_take]
    have s3 := s2.trans (same_new (o := .lst ((ws.take marks.length).map V.str)) hq2)
    refine ⟨_, rfl, .list ((ws.take marks.length).map PyData.str), .list (marks.map PyData.str), .lst (SqL.of upd_same) (dps _), .lst (SqL.of (s3 _ _ hm)) (dps _), (wo.take _).shaped, mo.shaped, _, rfl, ?_⟩
    rw [eqv_strs]
    generalize upd H2 q2 _ = H3 at s3 ⊢
    by_cases c1 : ws.take marks.length = marks
    · refine ifT c1 ⟨_, rfl, .inl ⟨_, rfl, textOk_of (Nat.le_trans b2 (by decide)), fun H4 s4 => ⟨_, rfl, ?_⟩⟩⟩
      have s5 := s3.trans s4
      cases c2 : (fracOf (bdOf ws marks.length)).isSome with
      | true =>
        have e : afterBd ws marks = (some (bdOf ws marks.length), ws.drop (marks.length + moreOf ws marks.length)) := by
          unfold afterBd
          rw [if_pos ⟨c1, c2⟩]
        rw [e] at ret
        refine iteT ⟨_, rfl, _, rfl, _, rfl, _, rfl, _, _, rfl, rfl, _, rfl, a, _, rfl, SqL.of (s5 _ _ ha), fun l hl => ⟨(by show 2 ≤ sizeLine; decide), fun p hp => ?_⟩⟩
        have e2 : cutV (ws.map V.str) (some ((marks.length : Int) + (moreOf ws marks.length : Nat))) none = (ws.drop (marks.length + moreOf ws marks.length)).map V.str := by
          rw [show ((marks.length : Int) + (moreOf ws marks.length : Nat)) = ((marks.length + moreOf ws marks.length : Nat) : Int) from rfl, cutV_from, List.map_drop]
        refine ret p l _ ((s5.trans (same_new hl)).trans (same_new hp)) upd_same (same_new hp _ _ ?_)
        rw [upd_same]
        exact congrArg (fun z => some (HO.lst z)) e2
      | false =>
        refine iteF ⟨_, rfl, (by show 2 ≤ sizeLine; decide), fun p hp => none_ ?_ _ s5 p hp⟩
        unfold afterBd
        rw [if_neg (fun z => by rw [c2] at z; cases z.2)]
    · refine ifF c1 (iteF ⟨_, rfl, (by show 2 ≤ sizeLine; decide), fun p hp => none_ ?_ _ s3 p hp⟩)
      unfold afterBd
      rw [if_neg (fun z => c1 z.1)]
end L

namespace L
open PySem L2 Hv
variable {K : PySem.W.Frag}
def kwsK : List (Str × V) := [("talks", .int 0), ("needs", .int 1), ("closing", .non), ("ends", .non)]
abbrev FunK (K : PySem.W.Frag) (f : Addr) (fd : FuncData) : Prop := FunD K "__init__" "Kind.__init__" (defArgs s_Kind_init) (defBody s_Kind_init) (defScope s_Kind_init) [] kwsK f fd
end L

namespace L
open PySem L2 Hv
variable {P : Program} {w : World} {K : PySem.W.Frag} {mg : Str → Option Value} {base : Heap}
abbrev s_Row_init : Stmt := inClass (top 35) 0
abbrev N_Row_init : List Str := ["self", "outer", "inner", "amount"]
abbrev P_Row_init : List Str := ["self", "outer", "inner", "amount"]
theorem sc_Row_init : FnScope N_Row_init P_Row_init (defScope s_Row_init) := ⟨rfl, rfl, rfl, by decide +kernel, rfl, by decide +kernel, by decide +kernel⟩
theorem ok_Row_init {C f f1 f2 : Addr} {fd fd1 fd2 : FuncData} (D : MethAt K C "__init__" "Row.__init__" s_Row_init P_Row_init f fd) (T : Txt K mg) (c : Cls K C) (na : NoAttr K C "parts")
    (D_is_name : DefAt K mg "is_name" s_is_name P_is_name f1 fd1) (G_is_name : FnOk P w K mg base CX0 1 f1 fd1 P_is_name (sp_is_name K))
    (D_sort_of : DefAt K mg "sort_of" s_sort_of P_sort_of f2 fd2) (G_sort_of : FnOk P w K mg base CX0 2 f2 fd2 P_sort_of (sp_sort_of K)) :
    FnOk P w K mg base CX0 3 f fd P_Row_init (sp_row_init C) := by
  refine D.fn.ok sc_Row_init (fun vs H Q E h => ?_) (fun cdv A outer s H vs Q E hr h => ?_)
  · obtain ⟨x, dx, o, i, m, rfl, _⟩ := h
    rfl
  · obtain ⟨x, dx, o, i, m, rfl, ok, hx, hd, nd, ret⟩ := h
    refine ⟨_, (pss_cons (ps_if (pt_not (pt_val (pe_call G_is_name (hr.mono (by decide)) rfl D_is_name.mg D_is_name.fn.kp D_is_name.bd .nil pass0 (pa_cons (pv 1) pa_nil))))
      (pss_one ps_never)
      pss_nil)
      (pss_cons (ps_if (pt_not (pt_val (pe_call G_is_name (hr.mono (by decide)) rfl D_is_name.mg D_is_name.fn.kp D_is_name.bd .nil pass0 (pa_cons (pv 2) pa_nil))))
      (pss_one ps_never)
      pss_nil)
      (pss_cons (ps_if (pt_cmpR op_isN (pe_call G_sort_of (hr.mono (by decide)) rfl D_sort_of.mg D_sort_of.fn.kp D_sort_of.bd .nil pass0 (pa_cons (pv 3) pa_nil)) pe_non (nomark _))
      (pss_one ps_never)
      pss_nil)
      (pss_one (ps_fld (pv 0) (pe_tup (pa_cons (pv 1) (pa_cons (pv 2) (pa_cons (pv 3) pa_nil)))) rfl))))), ?_⟩
    refine join_ifs (fun b H' => b = false ∧ Same H H') (fun Q' fin => ?_) ?_
    · refine ⟨_, rfl, .inl ⟨o, rfl, ok.ol, fun H1 s1 => ?_⟩⟩
      rw [ok.oOk]
      exact ⟨_, rfl, fin _ _ ⟨rfl, s1⟩⟩
    rintro _ H1 ⟨rfl, s1⟩
    dsimp only [tNext]
    refine join_ifs (fun b H' => b = false ∧ Same H H') (fun Q' fin => ?_) ?_
    · refine ⟨_, rfl, .inl ⟨i, rfl, ok.il, fun H2 s2 => ?_⟩⟩
      rw [ok.iOk]
      exact ⟨_, rfl, fin _ _ ⟨rfl, s1.trans s2⟩⟩
    rintro _ H2 ⟨rfl, s2⟩
    dsimp only [tNext]
    refine join_ifs (fun b H' => b = false ∧ Same H H') (fun Q' fin => ?_) ?_
    · refine ⟨_, rfl, .inl ⟨m, rfl, ok.ml, ok.pl, (fun e => absurd ok.mOk (by rw [e]; decide)), fun u n e p H3 hp s3 h3 => ?_⟩⟩
      exact ⟨rfl, _, rfl, fin _ _ ⟨rfl, s2.trans s3⟩⟩
    rintro _ H5 ⟨rfl, s5⟩
    dsimp only [tNext]
    refine ⟨_, rfl, _, rfl, _, rfl, by show 3 ≤ sizeLine; decide, fun t ht => ?_⟩
    have tx : t ≠ x := (ne_of_none (s5 _ _ hx) ht).symm
    refine ⟨_, rfl, x, C, dx, [], rfl, same_new ht _ _ (s5 _ _ hx), c, na, by decide, ?_⟩
    refine ret _ (fun b o n e => ?_) ⟨dx, t, upd_same, by rw [upd_ne tx, upd_same]⟩
    rw [upd_ne n]
    exact same_new ht _ _ (s5 _ _ e)
end L

namespace L
open PySem L2 Hv
variable {P : Program} {w : World} {K : PySem.W.Frag} {mg : Str → Option Value} {base : Heap}
def g_tnce {α : Type} (us mv ws : List α) : List α := match mv, ws with
  | [], [z0, z1, z2, z3] => us ++ [z0, z1, z2, z3]
  | _, _ => []
theorem kb_tnce {f : Addr} {fd : FuncData} (F : FunK K f fd) : ∃ mv : List Value, KBn K fd P_Kind_init 2 ["talks", "needs", "closing", "ends"] (fun us ws => g_tnce us mv ws) (fun vs zs => g_tnce vs [] zs) := by
  refine F.kbinds0 2 ["talks", "needs", "closing", "ends"] [] (fun {α} => g_tnce (α := α)) (by simp [kwsK]) (by simp [kwsK]) ?_ ?_
  · intro vs mz zs us mv ws r1 r2 r3
    cases r2 with
    | cons _ _ => first | exact .nil | (cases r3 <;> exact .nil)
    | nil =>
      cases r3 with
      | nil => exact .nil
      | cons b0 br0 =>
        cases br0 with
        | nil => exact .nil
        | cons b1 br1 =>
          cases br1 with
          | nil => exact .nil
          | cons b2 br2 =>
            cases br2 with
            | nil => exact .nil
            | cons b3 br3 =>
              cases br3 with
              | cons _ _ => first | exact .nil | (cases r3 <;> exact .nil)
              | nil =>
                exact r1.append (.cons b0 (.cons b1 (.cons b2 (.cons b3 .nil))))
  · intro D doc pm an cdv ct us mv ws h1 h2 h3
    match us, mv, ws, h1, h2, h3 with
    | [_, _], [], [_, _, _, _], _, _, _ => exact rfl
theorem asg_c {v : V} {i : Nat} {u : TS} {D : Ends} {σ : L2.St} {H : Hp} : tSeq (tAsg (tC v) (gName i)) u D σ H = u D (σ.set i (some v)) H := rfl
theorem atI0 {α : Type} {x : α} {xs : List α} : atI (x :: xs) 0 = some x := atI_zero x xs
theorem atI1 {α : Type} {x y : α} {xs : List α} : atI (x :: y :: xs) 1 = some y := atI_nat (j := 1) rfl
abbrev s_read_kind : Stmt := top 40
abbrev N_read_kind : List Str := ["line", "words", "name", "left", "talks", "needs", "after", "behind", "bound", "closing", "ends", "kind"]
abbrev P_read_kind : List Str := ["line"]
theorem sc_read_kind : FnScope N_read_kind P_read_kind (defScope s_read_kind) := ⟨rfl, rfl, rfl, by decide +kernel, rfl, by decide +kernel, by decide +kernel⟩
theorem ok_read_kind {C f fI f1 f2 f3 f4 f5 f6 f7 : Addr} {fd fdI fd1 fd2 fd3 fd4 fd5 fd6 fd7 : FuncData} (D : DefAt K mg "read_kind" s_read_kind P_read_kind f fd) (T : Txt K mg) (TK : OwnTxt K mg "Kind" C) (KPS : KProps K C)
    (M_Kind : Mk K C fI) (FK : FunK K fI fdI) (G_Kind_init : FnOk P w K mg base CX0 5 fI fdI P_Kind_init (sp_kind_init K C))
    (D_after_number : DefAt K mg "after_number" s_after_number P_after_number f1 fd1) (D_number_of : DefAt K mg "number_of" s_number_of P_number_of f2 fd2)
    (D_after_bound : DefAt K mg "after_bound" s_after_bound P_after_bound f3 fd3) (D_is_bound : DefAt K mg "is_bound" s_is_bound P_is_bound f4 fd4) (G_is_bound : FnOk P w K mg base CX0 3 f4 fd4 P_is_bound (sp_is_bound K))
    (D_is_name : DefAt K mg "is_name" s_is_name P_is_name f5 fd5) (D_line_of_kind : DefAt K mg "line_of_kind" s_line_of_kind P_line_of_kind f6 fd6) (D_is_integer : DefAt K mg "is_integer" s_is_integer P_is_integer f7 fd7) :
    FnOk P w K mg base CX0 7 f fd P_read_kind (sp_read_kind K C) := by
  have G_after_number : FnOk P w K mg base CX0 2 f1 fd1 P_after_number (sp_after_number K) := ok_after_number D_after_number T D_number_of
  have G_after_bound : FnOk P w K mg base CX0 4 f3 fd3 P_after_bound (sp_after_bound K) := ok_after_bound D_after_bound T D_is_bound G_is_bound
  have G_is_name : FnOk P w K mg base CX0 1 f5 fd5 P_is_name (sp_is_name K) := ok_is_name D_is_name T
  have G_line_of_kind : FnOk P w K mg base CX0 3 f6 fd6 P_line_of_kind (sp_line_of_kind K C) := ok_line_of_kind D_line_of_kind T TK KPS D_is_integer
  obtain ⟨mv1, KB_talks_needs_closing_ends⟩ := kb_tnce FK
  refine D.fn.ok sc_read_kind (fun vs H Q E h => ?_) (fun cdv A outer s H vs Q E hr h => ?_)
  · obtain ⟨z, rfl, _⟩ := h
    rfl
  · obtain ⟨z, rfl, so, zl, rn, rs⟩ := h
    refine ⟨_, (pss_cons (ps_asg (pe_split (pv 0) pe_str) (pg_name (i := 1) sc_read_kind.nd rfl (.inl rfl)))
      (pss_cons (ps_if (PW.pt (pw_or (pt_cmpR op_ne (pe_ix ix_list (pv 1) pe_int (fun _ _ => rfl)) pe_str (nomark _)) (pw_or (pt_cmpR op_lt (pe_callB call_len_seq (by rfl) T.len (by decide +kernel) (pa_cons (pv 1) pa_nil)) pe_int (nomark _)) (pw_or1 (pt_not (pt_val (pe_call G_is_name (hr.mono (by decide)) rfl D_is_name.mg D_is_name.fn.kp D_is_name.bd .nil pass0 (pa_cons (pe_ix ix_list (pv 1) pe_int (fun _ _ => rfl)) pa_nil))))))))
      (pss_one (ps_ret pe_non))
      pss_nil)
      (pss_cons (ps_par (i := 2) (j := 3) (by rfl) sc_read_kind.nd rfl rfl (by decide) rfl rfl (pa_cons (pe_ix ix_list (pv 1) pe_int (fun _ _ => rfl)) (pa_cons (pe_slice sl_list (pv 1) (po_some pe_int) po_none) pa_nil)) (by rfl))
      (pss_cons (ps_asg (pe_call G_after_number (hr.mono (by decide)) rfl D_after_number.mg D_after_number.fn.kp D_after_number.bd .nil pass0 (pa_cons (pv 3) (pa_cons (pe_lst (pa_cons pe_str pa_nil)) (pa_cons (pe_glob (v := .int 3) rfl T.cMOST_TALKS.choose_spec ⟨_, rfl⟩) pa_nil)))) (pg_tup (by rfl) (pgs_cons (pg_name (i := 4) sc_read_kind.nd rfl (.inl rfl)) (pgs_cons (pg_name (i := 3) sc_read_kind.nd rfl (.inl rfl)) pgs_nil))))
      (pss_cons (ps_asg (pe_call G_after_number (hr.mono (by decide)) rfl D_after_number.mg D_after_number.fn.kp D_after_number.bd .nil pass0 (pa_cons (pv 3) (pa_cons (pe_lst (pa_cons pe_str pa_nil)) (pa_cons (pe_glob (v := .int 9) rfl T.cMOST_NEEDS.choose_spec ⟨_, rfl⟩) pa_nil)))) (pg_tup (by rfl) (pgs_cons (pg_name (i := 5) sc_read_kind.nd rfl (.inl rfl)) (pgs_cons (pg_name (i := 3) sc_read_kind.nd rfl (.inl rfl)) pgs_nil))))
      (pss_cons (ps_if (pt_cmpR op_isN (pv 5) pe_non (nomark _))
      (pss_one (ps_asg (pe_call G_after_bound (hr.mono (by decide)) rfl D_after_bound.mg D_after_bound.fn.kp D_after_bound.bd .nil pass0 (pa_cons (pv 3) (pa_cons (pe_lst (pa_cons pe_str pa_nil)) pa_nil))) (pg_tup (by rfl) (pgs_cons (pg_name (i := 5) sc_read_kind.nd rfl (.inl rfl)) (pgs_cons (pg_name (i := 3) sc_read_kind.nd rfl (.inl rfl)) pgs_nil)))))
      pss_nil)
      (pss_cons (ps_asg (pe_call G_after_number (hr.mono (by decide)) rfl D_after_number.mg D_after_number.fn.kp D_after_number.bd .nil pass0 (pa_cons (pv 3) (pa_cons (pe_lst (pa_cons pe_str (pa_cons pe_str pa_nil))) (pa_cons (pe_glob (v := .int 3) rfl T.cMOST_AFTER.choose_spec ⟨_, rfl⟩) pa_nil)))) (pg_tup (by rfl) (pgs_cons (pg_name (i := 6) sc_read_kind.nd rfl (.inl rfl)) (pgs_cons (pg_name (i := 7) sc_read_kind.nd rfl (.inl rfl)) pgs_nil))))
      (pss_cons (ps_asg (pe_call G_after_bound (hr.mono (by decide)) rfl D_after_bound.mg D_after_bound.fn.kp D_after_bound.bd .nil pass0 (pa_cons (pv 7) (pa_cons (pe_lst (pa_cons pe_str pa_nil)) pa_nil))) (pg_tup (by rfl) (pgs_cons (pg_name (i := 8) sc_read_kind.nd rfl (.inl rfl)) (pgs_cons (pg_name (i := 7) sc_read_kind.nd rfl (.inl rfl)) pgs_nil))))
      (pss_cons (ps_asg pe_non (pg_name (i := 9) sc_read_kind.nd rfl (.inl rfl)))
      (pss_cons (ps_if (PW.pt (pw_and (pt_cmpR op_notN (pv 6) pe_non (nomark _)) (pw_and1 (pt_cmpR op_notN (pv 8) pe_non (nomark _)))))
      (pss_one (ps_par (i := 9) (j := 3) (by rfl) sc_read_kind.nd rfl rfl (by decide) rfl rfl (pa_cons (pe_tup (pa_cons (pv 6) (pa_cons (pv 8) pa_nil))) (pa_cons (pv 7) pa_nil)) (by rfl)))
      pss_nil)
      (pss_cons (ps_asg (pe_call G_after_bound (hr.mono (by decide)) rfl D_after_bound.mg D_after_bound.fn.kp D_after_bound.bd .nil pass0 (pa_cons (pv 3) (pa_cons (pe_lst (pa_cons pe_str (pa_cons pe_str pa_nil))) pa_nil))) (pg_tup (by rfl) (pgs_cons (pg_name (i := 10) sc_read_kind.nd rfl (.inl rfl)) (pgs_cons (pg_name (i := 3) sc_read_kind.nd rfl (.inl rfl)) pgs_nil))))
      (pss_cons (ps_if (PW.pt (pw_or (pt_truth (pv 3) (by intro _; rfl)) (pw_or1 (pt_cmpR op_eq (pv 5) pe_int (nomark _)))))
      (pss_one (ps_ret pe_non))
      pss_nil)
      (pss_cons (ps_asg (pe_makeK M_Kind G_Kind_init (hr.mono (by decide)) rfl TK.mg KB_talks_needs_closing_ends pass0 (pa_cons (pv 2) pa_nil) (pk_cons (pe_orT (pv 4) (pe_one pe_int)) (pk_cons (pe_ifExp (pt_cmpR op_isN (pv 5) pe_non (nomark _)) pe_int (pv 5)) (pk_cons (pv 9) (pk_cons (pv 10) pk_nil))))) (pg_name (i := 11) sc_read_kind.nd rfl (.inl rfl)))
      (pss_one (ps_ret (pe_ifExp (pt_cmpR op_eq (pe_call G_line_of_kind (hr.mono (by decide)) rfl D_line_of_kind.mg D_line_of_kind.fn.kp D_line_of_kind.bd .nil pass0 (pa_cons (pv 11) pa_nil)) (pv 0) (nomark _)) (pv 11) pe_non)))))))))))))))), ?_⟩
    have s4 : 40002 ≤ sizeLine := by decide
    refine ⟨_, rfl, ⟨_, rfl⟩, _, _, rfl, rfl, by decide, by omega, fun a ha => ?_⟩
    have hA := upd_same (H := H) (a := a) (o := .lst ((bw z).map V.str))
    have s1 := same_new (o := .lst ((bw z).map V.str)) ha
    have wo := wok_bw so zl
    have rk : readK z = match bw z with
      | m :: name :: left => if m = Str.ofString "motion" ∧ nameOk name = true then
          if (parseK left).left ≠ [] ∨ (parseK left).needs = .int 0 then none else if lineK (mkK name (parseK left)) = z then some (mkK name (parseK left)) else none
        else none
      | _ => none := rfl
    dsimp only [gName]
    rw [show Txt.split z (Str.ofString " ") = bw z from rfl]
    generalize upd H a (.lst ((bw z).map V.str)) = H1 at hA s1 ⊢
    have hne := bw_ne z
    generalize bw z = l at *
    cases l with
    | nil => exact absurd rfl hne
    | cons m l =>
    have e0 : (m :: l).map V.str = .str m :: l.map V.str := rfl
    cases l with
    | nil =>
      refine join_ifs (fun b H' => b = true ∧ H1 = H') (fun Q' fin => ?_) ?_
      · refine ⟨_, rfl, _, _, _, _, rfl, rfl, SqL.of hA, atI0, rfl, _, rfl, ?_⟩
        refine ite2 (fun _ => fin _ _ ⟨rfl, rfl⟩) (fun _ => ?_)
        exact ⟨_, rfl, _, _, rfl, .inl (SqL.of hA), _, _, rfl, rfl, _, rfl, iteT (fin _ _ ⟨rfl, rfl⟩)⟩
      rintro _ _ ⟨rfl, rfl⟩
      exact rn rk _ s1
    | cons name left =>
    have hA2 : H1 a = some (.lst (.str m :: .str name :: left.map V.str)) := hA
    refine join_ifs (fun b H' => b = !decide (m = Str.ofString "motion" ∧ nameOk name = true) ∧ Same H1 H') (fun Q' fin => ?_) ?_
    · refine ⟨_, rfl, _, _, _, _, rfl, rfl, SqL.of hA2, atI0, rfl, _, rfl, ?_⟩
      by_cases c1 : m = Str.ofString "motion"
      · refine ifNF (by rw [c1]) ⟨_, rfl, _, _, rfl, .inl (SqL.of hA2), _, _, rfl, rfl, _, rfl, ?_⟩
        refine ifF ?_ ⟨_, rfl, _, _, _, _, rfl, rfl, SqL.of hA2, atI1, .inl ⟨_, rfl, in_len (wo name (by simp)).2 (by decide), fun H2 s2 => ⟨_, rfl, fin _ _ ⟨?_, s2⟩⟩⟩⟩
        · simp
          omega
        · cases nameOk name <;> simp [c1]
      · refine ifNT (fun q => c1 (V.str.inj q)) (fin _ _ ⟨?_, Same.refl _⟩)
        simp [c1]
    rintro _ H2 ⟨rfl, s2⟩
    refine ite2 (fun c => ?_) (fun c => ?_)
    · refine rn ?_ _ (s1.trans s2)
      rw [rk]
      dsimp only
      rw [if_neg (nT c)]
    have c := nF c
    have rk : readK z = if (parseK left).left ≠ [] ∨ (parseK left).needs = .int 0 then none else if lineK (mkK name (parseK left)) = z then some (mkK name (parseK left)) else none := by
      rw [rk]
      dsimp only
      rw [if_pos c]
    have wl : WOk left := wo.sub fun x hx => by simp [hx]
    have s3 := s1.trans s2
    have hA3 := s2 _ _ hA2
    refine ⟨_, rfl, _, _, _, _, rfl, rfl, SqL.of hA3, atI1, _, rfl, _, rfl, a, _, rfl, SqL.of hA3, fun l0 hl0 => ⟨_, _, rfl, ?_⟩⟩
    have ec : cutV (.str m :: .str name :: left.map V.str) (some 2) none = left.map V.str := cutV_from _ 2
    rw [ec]
    have hL := upd_same (H := H2) (a := l0) (o := .lst (left.map V.str))
    have s4 := s3.trans (same_new (o := .lst (left.map V.str)) hl0)
    generalize upd H2 l0 (.lst (left.map V.str)) = H3 at hL s4 ⊢
    clear hA hA2 hA3 s1 s2 s3
    dsimp only
    -- talks
    refine ⟨_, rfl, (by show 1 ≤ sizeLine; decide), fun q1 hq1 => ⟨l0, q1, left, [Str.ofString "talks"], 3, rfl, same_new hq1 _ _ hL, upd_same, wl, wok_of (by decide +kernel), by decide, fun p1 b1 H4 sm h1 h2 => ⟨p1, _, rfl, SqT.of h1, rfl, _, _, rfl, _, _, rfl, rfl, ?_⟩⟩⟩
    have s5 := (s4.trans (same_new hq1)).trans sm
    clear sm h1 hL s4
    have w1 : WOk (afterNum left [Str.ofString "talks"] 3).2 := wl.sub (afterNum_sub _ _ _)
    generalize e1 : afterNum left [Str.ofString "talks"] 3 = t at h2 w1 ⊢
    dsimp only
    -- needs, a number
    refine ⟨_, rfl, (by show 1 ≤ sizeLine; decide), fun q2 hq2 => ⟨b1, q2, t.2, [Str.ofString "needs"], 9, rfl, same_new hq2 _ _ h2, upd_same, w1, wok_of (by decide +kernel), by decide, fun p2 b2 H5 sm h1 h3 => ⟨p2, _, rfl, SqT.of h1, rfl, _, _, rfl, _, _, rfl, rfl, ?_⟩⟩⟩
    have s6 := (s5.trans (same_new hq2)).trans sm
    clear sm h1 h2 s5
    have w2 : WOk (afterNum t.2 [Str.ofString "needs"] 9).2 := w1.sub (afterNum_sub _ _ _)
    generalize e2 : afterNum t.2 [Str.ofString "needs"] 9 = n at h3 w2 ⊢
    dsimp only
    -- needs, a bound
    refine join_st (fun σ' H' => ∃ (b : Addr) (nb : Option Str × List Str), nb = (if n.1.isNone = true then afterBd n.2 [Str.ofString "needs"] else (none, n.2)) ∧ σ' = [some (.str z), some (.ref a), some (.str name), some (.ref b), some (numV t.1), some (needsOf n.1 nb.1), none, none, none, none, none, none] ∧ Same H H' ∧ H' b = some (.lst (nb.2.map V.str))) (fun nx' fin => ?_) ?_
    · cases q : n.1 with
      | none =>
        refine ⟨_, rfl, rfl, _, rfl, ?_⟩
        refine ifT rfl ⟨_, rfl, (by show 1 ≤ sizeLine; decide), fun q3 hq3 => ⟨b2, q3, n.2, [Str.ofString "needs"], rfl, same_new hq3 _ _ h3, upd_same, w2, wok_of (by decide +kernel), fun p3 b3 H6 sm h1 h4 => ⟨p3, _, rfl, SqT.of h1, rfl, _, _, rfl, _, _, rfl, rfl, ?_⟩⟩⟩
        refine fin _ _ ⟨b3, afterBd n.2 [Str.ofString "needs"], ?_, ?_, (s6.trans (same_new hq3)).trans sm, h4⟩
        · rw [q]
          rfl
        · rw [q]
          rfl
      | some i =>
        refine ⟨_, rfl, rfl, _, rfl, ?_⟩
        refine ifF (by intro z; cases z) (fin _ _ ⟨b2, (none, n.2), ?_, ?_, s6, h3⟩)
        · rw [q]
          rfl
        · rw [q]
          rfl
    rintro _ H6 ⟨b, nb, e3, rfl, s7, h4⟩
    have w3 : WOk nb.2 := by
      rw [e3]
      split
      · exact w2.sub (afterBd_sub _ _)
      · exact w2
    -- closed after
    refine ⟨_, rfl, (by show 2 ≤ sizeLine; decide), fun q3 hq3 => ⟨b, q3, nb.2, [Str.ofString "closed", Str.ofString "after"], 3, rfl, same_new hq3 _ _ h4, upd_same, w3, wok_of (by decide +kernel), by decide, fun p3 b3 H7 sm h1 h5 => ⟨p3, _, rfl, SqT.of h1, rfl, _, _, rfl, _, _, rfl, rfl, ?_⟩⟩⟩
    have s8 := (s7.trans (same_new hq3)).trans sm
    have h4' := sm _ _ (same_new hq3 _ _ h4)
    clear sm h1
    have w4 : WOk (afterNum nb.2 [Str.ofString "closed", Str.ofString "after"] 3).2 := w3.sub (afterNum_sub _ _ _)
    generalize e4 : afterNum nb.2 [Str.ofString "closed", Str.ofString "after"] 3 = an at h5 w4 ⊢
    dsimp only
    -- by
    refine ⟨_, rfl, (by show 1 ≤ sizeLine; decide), fun q4 hq4 => ⟨b3, q4, an.2, [Str.ofString "by"], rfl, same_new hq4 _ _ h5, upd_same, w4, wok_of (by decide +kernel), fun p4 b4 H8 sm h1 h6 => ⟨p4, _, rfl, SqT.of h1, rfl, _, _, rfl, _, _, rfl, rfl, ?_⟩⟩⟩
    have s9 := (s8.trans (same_new hq4)).trans sm
    have h4'' := sm _ _ (same_new hq4 _ _ h4')
    clear sm h1
    have w5 : WOk (afterBd an.2 [Str.ofString "by"]).2 := w4.sub (afterBd_sub _ _)
    generalize e5 : afterBd an.2 [Str.ofString "by"] = bn at h6 w5 ⊢
    dsimp only
    rw [asg_c]
    -- closing
    refine join_st (fun σ' H' => ∃ (c : Addr) (cl : V) (x6 x7 x8 : Option V), σ' = [some (.str z), some (.ref a), some (.str name), some (.ref c), some (numV t.1), some (needsOf n.1 nb.1), x6, x7, x8, some cl, none, none] ∧ Same H H' ∧ H' c = some (.lst ((if (closOf an.1 bn.1).isSome = true then bn.2 else nb.2).map V.str)) ∧ ClosAt K H' (closOf an.1 bn.1) cl) (fun nx' fin => ?_) ?_
    · cases qa : an.1 with
      | none =>
        refine ⟨_, rfl, rfl, _, rfl, ?_⟩
        refine ifNF rfl (fin _ _ ⟨b, .non, _, _, _, rfl, s9, ?_, ?_⟩)
        · rw [qa]
          exact h4''
        · rw [qa]
          rfl
      | some i =>
        refine ⟨_, rfl, rfl, _, rfl, ?_⟩
        refine ifNT (by intro z; cases z) ⟨_, rfl, rfl, _, rfl, ?_⟩
        cases qb : bn.1 with
        | none =>
          refine ifNF rfl (fin _ _ ⟨b, .non, _, _, _, rfl, s9, ?_, ?_⟩)
          · rw [qa, qb]
            exact h4''
          · rw [qa, qb]
            rfl
        | some y =>
          refine ifNT (by intro z; cases z) ⟨_, rfl, _, rfl, (by show 2 ≤ sizeLine; decide), fun tt htt => ⟨_, rfl, _, _, rfl, ?_⟩⟩
          refine fin _ _ ⟨b4, .ref tt, _, _, _, rfl, s9.trans (same_new htt), ?_, ?_⟩
          · rw [qa, qb]
            exact same_new htt _ _ h6
          · rw [qa, qb]
            exact ⟨tt, rfl, upd_same⟩
    rintro _ H9 ⟨c5, cl, x6, x7, x8, rfl, s10, h7, hcl⟩
    have w6 : WOk (if (closOf an.1 bn.1).isSome = true then bn.2 else nb.2) := by
      split
      · exact w5
      · exact w3
    -- ends by
    refine ⟨_, rfl, (by show 2 ≤ sizeLine; decide), fun q5 hq5 => ⟨c5, q5, _, [Str.ofString "ends", Str.ofString "by"], rfl, same_new hq5 _ _ h7, upd_same, w6, wok_of (by decide +kernel), fun p5 b5 H10 sm h1 h8 => ⟨p5, _, rfl, SqT.of h1, rfl, _, _, rfl, _, _, rfl, rfl, ?_⟩⟩⟩
    have s11 := (s10.trans (same_new hq5)).trans sm
    have hcl := (hcl.same (same_new hq5)).same sm
    clear sm h1
    have pk : parseK left = ⟨t.1, needsOf n.1 nb.1, closOf an.1 bn.1, (afterBd (if (closOf an.1 bn.1).isSome = true then bn.2 else nb.2) [Str.ofString "ends", Str.ofString "by"]).1, (afterBd (if (closOf an.1 bn.1).isSome = true then bn.2 else nb.2) [Str.ofString "ends", Str.ofString "by"]).2⟩ := by
      unfold parseK
      dsimp only
      rw [e1, e2, ← e3, e4, e5]
    have ok0 := mkK_ok (name := name) (left := left) c.2 wl
    rw [pk] at rk ok0
    generalize afterBd (if (closOf an.1 bn.1).isSome = true then bn.2 else nb.2) [Str.ofString "ends", Str.ofString "by"] = en at rk ok0 h8 ⊢
    have nv : needsOf n.1 nb.1 = .non ∨ (∃ i, needsOf n.1 nb.1 = .int i) ∨ ∃ y, needsOf n.1 nb.1 = .str y := by
      cases n.1 with
      | some i => exact .inr (.inl ⟨_, rfl⟩)
      | none =>
        cases nb.1 with
        | none => exact .inl rfl
        | some y => exact .inr (.inr ⟨y, rfl⟩)
    generalize needsOf n.1 nb.1 = nd at nv rk ok0 ⊢
    generalize closOf an.1 bn.1 = co at hcl rk ok0 ⊢
    dsimp only at rk ok0 ⊢
    refine join_ifs (fun b H' => b = decide (en.2 ≠ [] ∨ nd = .int 0) ∧ H10 = H') (fun Q' fin => ?_) ?_
    · refine ⟨_, rfl, !((en.2.map V.str).isEmpty), .inl ⟨_, SqL.of h8, rfl⟩, ?_⟩
      cases q : en.2 with
      | nil =>
        refine iteF ⟨_, rfl, ?_, _, rfl, fin _ _ ⟨?_, rfl⟩⟩
        · rcases nv with e | ⟨i, e⟩ | ⟨y, e⟩ <;> rw [e] <;> rfl
        · rw [q]
          by_cases c : nd = .int 0 <;> simp [c]
      | cons y l =>
        refine iteT (fin _ _ ⟨?_, rfl⟩)
        rw [q]
        simp
    rintro _ _ ⟨rfl, rfl⟩
    refine ite2 (fun c1 => ?_) (fun c1 => ?_)
    · refine rn ?_ _ s11
      rw [rk, if_pos (of_decide_eq_true c1)]
    have c1 := dF c1
    rw [if_neg c1] at rk
    have okk := ok0 (fun e => c1 (.inr e))
    have tk : ∀ (σ : L2.St) (Q' : VK), σ[4]? = some (some (numV t.1)) → Q' (.int ((t.1.getD 0 : Nat) : Int)) H10 → tOrT K (tVar 4) (tC (.int 0)) σ H10 Q' := fun σ Q' e h => by
      refine ⟨_, e, ?_⟩
      cases q : t.1 with
      | none =>
        rw [q] at h
        exact ⟨false, rfl, iteF h⟩
      | some n =>
        rw [q] at h
        refine ⟨((n : Int) != 0), rfl, ?_⟩
        by_cases c : n = 0
        · subst c
          exact iteF h
        · have e2 : ((n : Int) != 0) = true := by
            simp
            omega
          rw [e2]
          exact iteT h
    have nk : ∀ (σ : L2.St) (Q' : VK), σ[5]? = some (some nd) → Q' (if nd = .non then .int 1 else nd) H10 → tIf (tTest (tOp (fun x y H Q => y = V.non ∧ Q (V.bl (decide (x = V.non))) H) (tVar 5) (tC V.non))) (tC (V.int 1)) (tVar 5) σ H10 Q' := fun σ Q' e h => by
      refine ⟨_, e, rfl, _, rfl, ?_⟩
      by_cases c : nd = .non
      · rw [if_pos c] at h
        exact ifT c h
      · rw [if_neg c] at h
        exact ifF c ⟨_, e, h⟩
    refine ⟨_, rfl, tk _ _ rfl (nk _ _ rfl ⟨_, rfl, _, rfl, rfl, rfl, fun x dx nx ndx nex => ?_⟩)⟩
    have sx : ∀ b o, H10 b = some o → upd (upd H10 dx (.own x)) x (.ins C dx []) b = some o := fun b o e => by
      rw [upd_ne (ne_of_none e nx), upd_ne (ne_of_none e ndx)]
      exact e
    refine ⟨x, dx, mkK name ⟨t.1, nd, co, en.1, en.2⟩, cl, rfl, okk, hcl.same sx, upd_same, by rw [upd_ne nex, upd_same], nex, fun H' keep hk => ⟨rfl, ?_⟩⟩
    have sf := s11.trans (Same.made nx ndx fun b o e n => keep b o n e)
    refine ⟨_, rfl, x, _, rfl, hk, okk, _, rfl, rfl, _, rfl, ?_⟩
    by_cases c2 : lineK (mkK name ⟨t.1, nd, co, en.1, en.2⟩) = z
    · rw [if_pos c2] at rk
      exact ifT (by rw [c2]) ⟨_, rfl, rs _ rk okk x _ (s11.free nx) sf hk⟩
    · rw [if_neg c2] at rk
      exact ifF (fun q => c2 (V.str.inj q)) (rn rk _ sf)
abbrev s_read_row : Stmt := top 41
abbrev N_read_row : List Str := ["line", "words"]
abbrev P_read_row : List Str := ["line"]
theorem sc_read_row : FnScope N_read_row P_read_row (defScope s_read_row) := ⟨rfl, rfl, rfl, by decide +kernel, rfl, by decide +kernel, by decide +kernel⟩
theorem ok_read_row {CR f f1 f2 f3 f4 : Addr} {fd fd1 fd2 fd3 fd4 : FuncData} (D : DefAt K mg "read_row" s_read_row P_read_row f fd) (T : Txt K mg) (TR : OwnTxt K mg "Row" CR)
    (M_Row : Mk K CR f1) (D_Row_init : MethAt K CR "__init__" "Row.__init__" s_Row_init P_Row_init f1 fd1) (D_is_name : DefAt K mg "is_name" s_is_name P_is_name f2 fd2)
    (D_sort_of : DefAt K mg "sort_of" s_sort_of P_sort_of f3 fd3) (D_number_of : DefAt K mg "number_of" s_number_of P_number_of f4 fd4) :
    FnOk P w K mg base CX0 5 f fd P_read_row (sp_read_row CR) := by
  have G_is_name : FnOk P w K mg base CX0 1 f2 fd2 P_is_name (sp_is_name K) := ok_is_name D_is_name T
  have G_sort_of : FnOk P w K mg base CX0 2 f3 fd3 P_sort_of (sp_sort_of K) := ok_sort_of D_sort_of T D_number_of (ok_number_of D_number_of T)
  have G_Row_init : FnOk P w K mg base CX0 3 f1 fd1 P_Row_init (sp_row_init CR) := ok_Row_init D_Row_init T TR.c TR.na D_is_name G_is_name D_sort_of G_sort_of
  refine D.fn.ok sc_read_row (fun vs H Q E h => ?_) (fun cdv A outer s H vs Q E hr h => ?_)
  · obtain ⟨z, rfl, _⟩ := h
    rfl
  · obtain ⟨z, rfl, zl, rn, rs⟩ := h
    refine ⟨_, (pss_cons (ps_asg (pe_bm PySem.F.plainAttrs_str PySem.F.slot_str_split PySem.F.type_str_split mt_splitMax (pv 0) (pa_cons pe_str (pa_cons pe_int pa_nil))) (pg_name (i := 1) sc_read_row.nd rfl (.inl rfl)))
      (pss_cons (ps_if (PW.pt (pw_or (pt_cmpR op_lt (pe_callB call_len_seq (by rfl) T.len (by decide +kernel) (pa_cons (pv 1) pa_nil)) pe_int (nomark _)) (pw_or (pt_cmpR op_ne (pe_ix ix_list (pv 1) pe_int (fun _ _ => rfl)) pe_str (nomark _)) (pw_or (pt_not (pt_val (pe_call G_is_name (hr.mono (by decide)) rfl D_is_name.mg D_is_name.fn.kp D_is_name.bd .nil pass0 (pa_cons (pe_ix ix_list (pv 1) pe_int (fun _ _ => rfl)) pa_nil)))) (pw_or1 (pt_not (pt_val (pe_call G_is_name (hr.mono (by decide)) rfl D_is_name.mg D_is_name.fn.kp D_is_name.bd .nil pass0 (pa_cons (pe_ix ix_list (pv 1) pe_int (fun _ _ => rfl)) pa_nil)))))))))
      (pss_one (ps_ret pe_non))
      pss_nil)
      (pss_one (ps_ret (pe_ifExp (pt_cmpR op_isN (pe_call G_sort_of (hr.mono (by decide)) rfl D_sort_of.mg D_sort_of.fn.kp D_sort_of.bd .nil pass0 (pa_cons (pe_ix ix_list (pv 1) pe_int (fun _ _ => rfl)) pa_nil)) pe_non (nomark _)) pe_non (pe_make M_Row G_Row_init (hr.mono (by decide)) rfl TR.mg D_Row_init.bd .nil pass0 (pa_cons (pe_ix ix_list (pv 1) pe_int (fun _ _ => rfl)) (pa_cons (pe_ix ix_list (pv 1) pe_int (fun _ _ => rfl)) (pa_cons (pe_ix ix_list (pv 1) pe_int (fun _ _ => rfl)) pa_nil))))))))), ?_⟩
    have s4 : 40002 ≤ sizeLine := by decide
    have i63 : (2 : Int) ^ 63 = 9223372036854775808 := by decide
    refine ⟨_, rfl, rfl, _, _, 3, rfl, rfl, by decide, by omega, by omega, by omega, fun a ha => ?_⟩
    have s1 := same_new (o := .lst ((Txt.splitMax z BLANK 3).map V.str)) ha
    have hA := upd_same (H := H) (a := a) (o := .lst ((Txt.splitMax z BLANK 3).map V.str))
    have wl : ∀ p ∈ Txt.splitMax z BLANK 3, p.length ≤ 40000 := fun p hp => Nat.le_trans (splitB_len hp) zl
    have rk : readR z = match Txt.splitMax z BLANK 3 with
      | u :: o :: i :: m :: _ => if u = Str.ofString "under" ∧ nameOk o = true ∧ nameOk i = true ∧ (sortOf m).isSome = true then some (o, i, m) else none
      | _ => none := rfl
    dsimp only [gName]
    rw [show Txt.splitMax z (Str.ofString " ") 3 = Txt.splitMax z BLANK 3 from rfl]
    generalize upd H a (.lst ((Txt.splitMax z BLANK 3).map V.str)) = H1 at hA s1 ⊢
    generalize Txt.splitMax z BLANK 3 = l at *
    by_cases c4 : l.length < 4
    · refine join_ifs (fun b H' => b = true ∧ H1 = H') (fun Q' fin => ?_) ?_
      · refine ⟨_, rfl, _, _, rfl, .inl (SqL.of hA), _, _, rfl, rfl, _, rfl, ?_⟩
        refine ifT (by rw [List.length_map]; omega) (fin _ _ ⟨rfl, rfl⟩)
      rintro _ _ ⟨rfl, rfl⟩
      refine rn ?_ _ s1
      rw [rk]
      split
      · simp at c4
        omega
      · rfl
    · obtain ⟨u, o, i, m, r, rfl⟩ : ∃ u o i m r, l = u :: o :: i :: m :: r := by
        match l, c4 with
        | u :: o :: i :: m :: r, _ => exact ⟨u, o, i, m, r, rfl⟩
        | [], h => exact absurd (by decide) h
        | [_], h => exact absurd (by simp) h
        | [_, _], h => exact absurd (by simp) h
        | [_, _, _], h => exact absurd (by simp) h
      have hA2 : H1 a = some (.lst (.str u :: .str o :: .str i :: .str m :: r.map V.str)) := hA
      have a2 : atI (V.str u :: .str o :: .str i :: .str m :: r.map V.str) 2 = some (.str i) := atI_nat (j := 2) rfl
      have a3 : atI (V.str u :: .str o :: .str i :: .str m :: r.map V.str) 3 = some (.str m) := atI_nat (j := 3) rfl
      refine join_ifs (fun b H' => b = !decide (u = Str.ofString "under" ∧ nameOk o = true ∧ nameOk i = true) ∧ Same H1 H') (fun Q' fin => ?_) ?_
      · refine ⟨_, rfl, _, _, rfl, .inl (SqL.of hA2), _, _, rfl, rfl, _, rfl, ?_⟩
        refine ifF (by simp; omega) ⟨_, rfl, _, _, _, _, rfl, rfl, SqL.of hA2, atI0, rfl, _, rfl, ?_⟩
        by_cases c1 : u = Str.ofString "under"
        · refine ifNF (by rw [c1]) ⟨_, rfl, _, _, _, _, rfl, rfl, SqL.of hA2, atI1, .inl ⟨_, rfl, in_len (wl o (by simp)) (by decide), fun H2 s2 => ⟨_, rfl, ?_⟩⟩⟩
          cases c2 : nameOk o with
          | false => exact iteT (fin _ _ ⟨by simp [c2], s2⟩)
          | true =>
            refine iteF ⟨_, rfl, _, _, _, _, rfl, rfl, SqL.of (s2 _ _ hA2), a2, .inl ⟨_, rfl, in_len (wl i (by simp)) (by decide), fun H3 s3 => ⟨_, rfl, fin _ _ ⟨?_, s2.trans s3⟩⟩⟩⟩
            cases c3 : nameOk i <;> simp [c1, c2, c3]
        · exact ifNT (fun q => c1 (V.str.inj q)) (fin _ _ ⟨by simp [c1], Same.refl _⟩)
      rintro _ H2 ⟨rfl, s2⟩
      refine ite2 (fun c => ?_) (fun c => ?_)
      · refine rn ?_ _ (s1.trans s2)
        rw [rk]
        dsimp only
        rw [if_neg (fun q => nT c ⟨q.1, q.2.1, q.2.2.1⟩)]
      have c := nF c
      dsimp only at rk
      have hA3 := s2 _ _ hA2
      have sm := s1.trans s2
      have ml := wl m (by simp)
      have okr : (sortOf m).isSome = true → RowOk o i m := fun e => ⟨c.2.1, in_len (wl o (by simp)) (by decide), c.2.2, in_len (wl i (by simp)) (by decide), e, in_len ml (by decide), in_len (Nat.le_trans (part_len m) ml) (by decide)⟩
      refine ⟨_, rfl, _, _, _, _, rfl, rfl, SqL.of hA3, a3, .inl ⟨_, rfl, in_len ml (by decide), in_len (Nat.le_trans (part_len m) ml) (by decide), fun e H3 s3 => ⟨rfl, _, rfl, ifT rfl ?_⟩, fun u' n e p H3 hp s3 h3 => ⟨rfl, _, rfl, ifF (by intro q; cases q) ?_⟩⟩⟩
      · refine rn ?_ _ (sm.trans s3)
        rw [rk, if_neg (fun q => by rw [e] at q; cases q.2.2.2)]
      · have e' : (sortOf m).isSome = true := by rw [e]; rfl
        have hA4 := s3 _ _ hA3
        refine ⟨_, rfl, _, _, _, _, rfl, rfl, SqL.of hA4, atI1, _, rfl, _, _, _, _, rfl, rfl, SqL.of hA4, a2, _, rfl, _, _, _, _, rfl, rfl, SqL.of hA4, a3, fun x dx nx ndx nex => ?_⟩
        refine ⟨x, dx, o, i, m, rfl, okr e', upd_same, by rw [upd_ne nex, upd_same], nex, fun H' keep hk => ?_⟩
        have sf := (sm.trans s3).trans (Same.made nx ndx fun b o e n => keep b o n e)
        exact ⟨rfl, rs o i m (by rw [rk, if_pos ⟨c.1, c.2.1, c.2.2, e'⟩]) (okr e') x _ ((sm.trans s3).free nx) sf hk⟩
end L

namespace Hv
open PySem PySem.Spec PyProof.Rows L2
set_option maxRecDepth 100000
/-! enumerate(tuple) -/
theorem draws_tuple {prog : Program} {w : World} {A : Around} {it t : Addr} {items : Array Value} (hh : A.handled = none) (ne : it ≠ t) :
    Draws prog w A it [it, t] items.size (fun i x => items[i]? = some x) (fun i h => h.IsTupleIter it t i ∧ h.IsTuple t items) where
  live := fun i h st => let ⟨o, ho, _⟩ := st.1; ⟨o, ho⟩
  frame := fun i h h' st k => ⟨st.1.at fun o q => k it (by simp) o q, st.2.at fun o q => k t (by simp) o q⟩
  item := fun i s Q E hi st hQ => by
    refine RZ.nextOf_tuple_item st.1 st.2 (x := items[i]) (by simp [hi]) fun h' hit' hs' => ?_
    exact hQ _ h' s.toks (by simp [hi]) ⟨hit', st.2.at fun o q => (hs'.2 t ne.symm).trans q⟩ hs'
  done := fun s Q E st hE => RZ.nextOf_tuple_end hh st.1 st.2 (by simp) hE
open AutoSeq1 (wpAny_loadPart') in
theorem meets_enumerate_newT (l : Addr) (items : Array Value) (n : Nat) (dct : Option Addr) (sl : Array (Option Value)) :
    Meets (Builtin.«enumerate.__new__» ⟨[.type "enumerate", .ref l], []⟩) (fun _ R s => s.heap.get? l = some { cls := .type "tuple", dict := dct, data := .seq items n, slots := sl } ∧
      R (.ok (.ret (.ref (s.heap.push { cls := .type "tuple_iterator", data := .fields #[.ref l, .int 0 0] }).objs.size)))
        { s with heap := (s.heap.push { cls := .type "tuple_iterator", data := .fields #[.ref l, .int 0 0] }).push { cls := .type "enumerate", data := .fields #[.none, .bool false, .ref s.heap.objs.size, rawInt 0, .none, .none] } }) :=
  .of_wp fun prog w A R s h => by
    obtain ⟨hp, g, d, tk, os⟩ := s; obtain ⟨hl, h⟩ := h
    have hsub := sub_enumerate
    have hL : Heap.IsTuple (Shared.heap ⟨hp, g, d, tk, os⟩) l items := ⟨_, hl, rfl, n, rfl⟩
    wp_walk using wpAny_loadPart' hl
    refine wpAny_stack_any fun st => wpAny_pure ?_
    split
    · rename_i c _ _ _ _ _
      cases (c == Value.type "enumerate")
      · wp_walk using wpAny_loadPart' hl, wpAny_pyIter_tuple hL
        exact ⟨_, rfl, h⟩
      · wp_walk using wpAny_loadPart' hl, wpAny_pyIter_tuple hL
        exact ⟨_, rfl, h⟩
    · wp_walk using wpAny_loadPart' hl, wpAny_pyIter_tuple hL
      exact ⟨_, rfl, h⟩
theorem call_enumerate_tup {prog : Program} {w : World} {A : Around} {E : Value → Shared → Prop} {s : Shared} {l : Addr} {items : Array Value} {Q : Value → Shared → Prop} (hL : s.heap.IsTuple l items)
    (h : ∀ h', IsEnum h' (s.heap.objs.size + 1) s.heap.objs.size 0 .none → h'.IsTupleIter s.heap.objs.size l 0 → h'.objs.size = s.heap.objs.size + 2 →
      (∀ b o, s.heap.get? b = some o → h'.get? b = some o) → Q (.ref (s.heap.objs.size + 1)) { s with heap := h' }) :
    wpAny (model prog w) A (call (.type "enumerate") [.ref l]) Q E s := by
  obtain ⟨⟨c, dct, dt, sl⟩, hl, hc, n, hd⟩ := hL
  replace hc : c = .type "tuple" := hc
  replace hd : dt = .seq items n := hd
  subst hc hd
  refine callType_new F.called_enumerate (by decide) (F.typeCall_enumerate_1 _) (F.newCall_enumerate_1 _) (fun obj => F.args_object_init_2 obj _) F.entry_enumerate_new
    (meets_enumerate_newT l items n dct sl) ⟨hl, ?_⟩
  have hz : (s.heap.push { cls := .type "tuple_iterator", data := .fields #[.ref l, .int 0 0] }).objs.size = s.heap.objs.size + 1 := Heap.size_push ..
  show _ ∧ _
  rw [hz]
  have he : IsEnum ((s.heap.push { cls := .type "tuple_iterator", data := .fields #[.ref l, .int 0 0] }).push
      { cls := .type "enumerate", data := .fields #[.none, .bool false, .ref s.heap.objs.size, rawInt 0, .none, .none] }) (s.heap.objs.size + 1) s.heap.objs.size 0 .none := by
    have := Heap.get?_push_size (s.heap.push { cls := .type "tuple_iterator", data := .fields #[.ref l, .int 0 0] })
      (o := { cls := .type "enumerate", data := .fields #[.none, .bool false, .ref s.heap.objs.size, rawInt 0, .none, .none] }) rfl
    rw [hz] at this; exact this
  refine ⟨⟨_, he, rfl⟩, h _ he ⟨_, Heap.get?_push_of_some _ (Heap.get?_push_size _ rfl), rfl, rfl⟩ (by rw [Heap.size_push, hz]) fun b o x => Heap.get?_push_of_some _ (Heap.get?_push_of_some _ x)⟩
/-- the tuple at a, each item in a new pair -/
def IteT (K : PySem.W.Frag) (a : Addr) : It :=
  ⟨fun i H => ∃ (xs : List V) (x : V), SqT K H a xs ∧ xs[i]? = some x, fun i H v H' => ∃ T x, v = .ref T ∧ H T = none ∧ H' = upd H T (.tup [.int (i : Nat), x]) ∧ ∀ xs, SqT K H a xs → xs[i]? = some x, fun i H => ∃ xs : List V, SqT K H a xs ∧ xs.length = i⟩
theorem walk_enumT {K : PySem.W.Frag} {a : Addr} {xs : List V} : Walk (IteT K a) xs.length (fun H => SqT K H a xs) (YPair (fun i => some (.int (i : Nat))) (fun i => xs[i]?)) := by
  refine ⟨fun i _ hi q => ⟨xs, xs[i], q, by simp [hi]⟩, fun _ q => ⟨xs, q, rfl⟩, fun i H v H' _ q y => ?_⟩
  obtain ⟨T, x, h1, h2, h3, h4⟩ := y
  exact ⟨T, .int (i : Nat), x, h1, h2, h3, rfl, h4 xs q⟩
theorem turn_enumT {P : Program} {w : World} {K : PySem.W.Frag} {elts : List Expr} {kk : Nat} {tpos : Pos} (a e it : Addr) :
    Turn P w K (.Tuple elts kk tpos) (IteT K a) [e, it] e (fun i h => (∃ old, IsEnum h e it ((i : Nat) : Int) old) ∧ h.IsTupleIter it a i ∧ e ≠ it ∧ e ≠ a ∧ it ≠ a) where
  mem := by simp
  obj := fun i h st b hb => by
    obtain ⟨⟨old, he⟩, ⟨o, ho, hc, hd⟩, _⟩ := st
    have e' : b = e ∨ b = it := by simpa using hb
    rcases e' with z | z
    · rw [z]; exact ⟨_, he, fun v q => nomatch q⟩
    · rw [z]; exact ⟨o, ho, fun v q => by rw [hd] at q; cases q⟩
  keep := fun i h h' st k => let ⟨⟨old, he⟩, hi, hne⟩ := st; ⟨⟨old, k e (by simp) _ he⟩, hi.at fun o q => k it (by simp) o q, hne⟩
  item := by
    intro X hP hw hK hc i pins s σ H E I hf st hg
    subst hP hw hK
    obtain ⟨⟨old, he⟩, hit, hne, hea, hia⟩ := st
    obtain ⟨xs, x, hq, hx⟩ := hg
    obtain ⟨its, rv, p, hz⟩ := I.tuple hq
    obtain ⟨u, hu, ru⟩ := rv.get hx
    have hel : e < s.heap.objs.size := Heap.lt_size he
    have hil : it < s.heap.objs.size := by obtain ⟨_, q, _⟩ := hit; exact Heap.lt_size q
    have hlt : i < its.toArray.size := by
      have := (List.getElem?_eq_some_iff.mp hu).1
      simpa using this
    refine wpAny_pyNext_enum_itemD (draws_tuple (items := its.toArray) (I.ok.hd hc) hia) he ⟨hit, p⟩ hlt hne (by simp [hne, hea]) fun u' h' tk hP ho hit' hT hsz hk => ?_
    have eu : u' = u := by
      have q : its.toArray[i]? = some u := by simpa using hu
      rw [q] at hP
      exact (Option.some.inj hP).symm
    subst eu
    refine ⟨_, rfl, wpAny_letOwnedTupleGo_enum (s := { s with heap := h', toks := tk + 1 }) ho fun h'' he' sb => ?_⟩
    have hT2 : h''.get? s.heap.objs.size = some { cls := .type "tuple", data := .seq #[.int i tk, u'] } := (sb.2 _ (Nat.ne_of_gt hel)).trans hT
    have new : ObjOk X.prog X.w (upd H s.heap.objs.size (.tup [.int (i : Nat), x])) h'' s.heap.objs.size (.tup [.int (i : Nat), x]) :=
      ⟨by show 2 ≤ sizeLine; decide, [.int i tk, u'], .cons ⟨_, rfl⟩ (.cons ru .nil), ⟨_, hT2, rfl, _, rfl⟩⟩
    have I1 : Inv X pins σ (upd H s.heap.objs.size (.tup [.int (i : Nat), x])) { s with heap := h'', toks := tk + 1 } :=
      I.turnedNew (ch := [e, it]) (fun b ob hb q => (sb.2 b (fun z => hb (by simp [z]))).trans (hk b ob (fun z => hb (by simp [z])) (fun z => hb (by simp [z])) q)) hf (Nat.le_refl _) new
    refine ⟨.ref s.heap.objs.size, _, I1, rfl, ⟨_, x, rfl, I.hok.fresh (Nat.le_refl _), rfl, fun ys hy => ?_⟩, ⟨⟨u', ?_⟩, hit'.1.at fun o q => (sb.2 it (Ne.symm hne)).trans q, hne, hea, hia⟩, fun b hb => ?_⟩
    · rw [I.tuple_inj hy hq]; exact hx
    · have e1 : ((i + 1 : Nat) : Int) = (i : Int) + 1 := by omega
      rw [e1]; exact he'
    · have hb' : b < s.heap.objs.size := by
        have e' : b = e ∨ b = it := by simpa using hb
        rcases e' with z | z
        · rw [z]; exact hel
        · rw [z]; exact hil
      rw [upd_ne (Nat.ne_of_lt hb')]
      exact (hf b hb).1
  done := by
    intro X hP hw hK hc i pins s σ H E I hf st hg
    subst hP hw hK
    obtain ⟨⟨old, he⟩, hit, hne, hea, hia⟩ := st
    obtain ⟨xs, hq, hx⟩ := hg
    obtain ⟨its, rv, p, hz⟩ := I.tuple hq
    obtain ⟨f0, f1, f2, f3, f4, f5⟩ := hf it (by simp)
    have hl := rv.length
    have hi : i = its.toArray.size := by
      rw [List.size_toArray, ← hl, hx]
    subst hi
    exact wpAny_pyNext_enum_endD (draws_tuple (items := its.toArray) (I.ok.hd hc) hia) he ⟨hit, p⟩ fun h' eb => ⟨rfl, I.turned (t' := s.toks) (fun b o hb q => eb b o hb q) f0 f1 f3 f4 f5⟩
  self := fun A i s Q E st h => let ⟨⟨_, he⟩, _⟩ := st; wpAny_pyIter_enum he h
def iEnumT (K : PySem.W.Frag) (ta : TA) : TI := fun σ H R => ta σ H fun vs H1 => ∃ a xs, vs = [.ref a] ∧ SqT K H1 a xs ∧ R (IteT K a) H1
theorem pi_enumT {X : Cx} {e : Expr} {ta : TA} {p pos tpos : Pos} {elts : List Expr} {kk : Nat} (hg : Gl X "enumerate") (hm : X.mg "enumerate" = none) (ha : PA X [e] ta) (hs : starEach [e] X.env = [(false, eval e X.env)] := by rfl) :
    PI X (.Tuple elts kk tpos) (.Call (.Name "enumerate" p) [e] [] pos) (iEnumT X.K ta) := by
  refine ⟨fun pins s σ H R I h => ?_⟩
  refine Call_ (ld_blt I hg hm boot_enumerate (PyProof.Rows.callWith_type1 (thn (ha.run pos pins s σ H _ I h) fun us s1 ⟨vs, H1, I1, r1, q1⟩ => ?_) hs rfl))
  obtain ⟨a, xs, ex, hq, q⟩ := q1
  subst ex
  cases r1 with
  | cons r rr =>
    cases rr
    cases r
    obtain ⟨its, rv, p', hz⟩ := I1.tuple hq
    have hal : a < s1.heap.objs.size := by obtain ⟨o, ho, _⟩ := id p'; exact Heap.lt_size ho
    refine call_enumerate_tup (items := its.toArray) p' fun h' he hit hsz hk => wpAny_pyIter_enum he ?_
    have I2 : Inv X pins σ H1 { s1 with heap := h' } := I1.kept (t' := s1.toks) hk
    refine ⟨s1.heap.objs.size + 1, [s1.heap.objs.size + 1, s1.heap.objs.size], _, _, H1, rfl, I2, turn_enumT a (s1.heap.objs.size + 1) s1.heap.objs.size, ⟨⟨.none, he⟩, hit, Nat.succ_ne_self _, Nat.ne_of_gt (Nat.lt_succ_of_lt hal), Nat.ne_of_gt hal⟩, fun b hb => ?_, q⟩
    have e' : b = s1.heap.objs.size + 1 ∨ b = s1.heap.objs.size := by simpa using hb
    have hle : s1.heap.objs.size ≤ b := by
      rcases e' with z | z
      · rw [z]; exact Nat.le_add_right _ _
      · rw [z]; exact Nat.le_refl _
    exact I1.fpOk hle (I1.hok.fresh hle)
end Hv

namespace Hv
open PySem L2
abbrev R3 : Type := Str × Str × Str
abbrev NL : Str := Str.ofString "\n"
def KindsAt (K : PySem.W.Frag) (C : Addr) (H : Hp) : List V → List Kd → Prop := All2 fun v k => ∃ a, v = .ref a ∧ KindAt K C H a k
def RowsAt (CR : Addr) (H : Hp) : List V → List R3 → Prop := All2 fun v r => ∃ a, v = .ref a ∧ RowAt CR H a r.1 r.2.1 r.2.2
theorem KindsAt.same {K : PySem.W.Frag} {C : Addr} {H H' : Hp} {vs : List V} {ks : List Kd} (h : KindsAt K C H vs ks) (e : Same H H') : KindsAt K C H' vs ks := h.mono fun _ _ ⟨a, h1, h2⟩ => ⟨a, h1, h2.same e⟩
theorem RowAt.same {C : Addr} {H H' : Hp} {a : Addr} {o i m : Str} (h : RowAt C H a o i m) (e : Same H H') : RowAt C H' a o i m := by
  obtain ⟨dx, pt, h1, h2⟩ := h
  exact ⟨dx, pt, e _ _ h1, e _ _ h2⟩
theorem RowsAt.same {C : Addr} {H H' : Hp} {vs : List V} {rs : List R3} (h : RowsAt C H vs rs) (e : Same H H') : RowsAt C H' vs rs := h.mono fun _ _ ⟨a, h1, h2⟩ => ⟨a, h1, h2.same e⟩
structure KindsOk (ks : List Kd) : Prop where
  one : 1 ≤ ks.length
  six : ks.length ≤ 6
  nd : (ks.map (·.name)).Nodup
  ok : ∀ k ∈ ks, k.Ok
structure RowsOk (ks : List Kd) (rs : List R3) : Prop where
  nd : (rs.map fun r => (r.1, r.2.1)).Nodup
  ok : ∀ r ∈ rs, RowOk r.1 r.2.1 r.2.2 ∧ r.1 ∈ ks.map (·.name) ∧ r.2.1 ∈ ks.map (·.name)
def linesR (ks : List Kd) (rs : List R3) : List Str := ks.map lineK ++ rs.map fun r => lineR r.1 r.2.1 r.2.2
def textR (ks : List Kd) (rs : List R3) : Str := Txt.join NL (linesR ks rs)
def RulesAt (K : PySem.W.Frag) (C CR CU : Addr) (H : Hp) (a : Addr) (ks : List Kd) (rs : List R3) : Prop := ∃ dx mt kt rt ll kv rv, H a = some (.ins CU dx [("made", .ref mt), ("lines", .ref ll), ("text", .str (textR ks rs))]) ∧ H mt = some (.tup [.ref kt, .ref rt]) ∧
  H kt = some (.tup kv) ∧ H rt = some (.tup rv) ∧ H ll = some (.lst ((linesR ks rs).map V.str)) ∧ KindsAt K C H kv ks ∧ RowsAt CR H rv rs
theorem RulesAt.same {K : PySem.W.Frag} {C CR CU : Addr} {H H' : Hp} {a : Addr} {ks : List Kd} {rs : List R3} (h : RulesAt K C CR CU H a ks rs) (e : Same H H') : RulesAt K C CR CU H' a ks rs := by
  obtain ⟨dx, mt, kt, rt, ll, kv, rv, h1, h2, h3, h4, h5, h6, h7⟩ := h
  exact ⟨dx, mt, kt, rt, ll, kv, rv, e _ _ h1, e _ _ h2, e _ _ h3, e _ _ h4, e _ _ h5, h6.same e, h7.same e⟩
def sp_check_kinds (K : PySem.W.Frag) (C : Addr) : Sp := fun vs H Q _ => ∃ (kt : Addr) (kv : List V) (ks : List Kd), vs = [.ref kt] ∧ H kt = some (.tup kv) ∧ KindsAt K C H kv ks ∧ KindsOk ks ∧
  ∀ p H', Same H H' → H' p = some (.lst ((ks.map (·.name)).map V.str)) → Q (.ref p) H'
def sp_check_rows (CR : Addr) : Sp := fun vs H Q _ => ∃ (rt nl : Addr) (rv : List V) (ks : List Kd) (rs : List R3), vs = [.ref rt, .ref nl] ∧ H rt = some (.tup rv) ∧ H nl = some (.lst ((ks.map (·.name)).map V.str)) ∧ RowsAt CR H rv rs ∧ RowsOk ks rs ∧ rs.length ≤ 36 ∧
  ∀ H', Same H H' → Q .non H'
theorem inV_strs (z : Str) : ∀ l : List Str, inV (.str z) (l.map V.str) = decide (z ∈ l)
  | [] => rfl
  | x :: l => by
    have ih := inV_strs z l
    unfold inV at ih ⊢
    rw [List.map_cons, List.any_cons, ih]
    have hx : eqV (.str x) (.str z) = decide (z = x) := by
      by_cases h : z = x
      · subst h
        simp [eqV]
      · have : x ≠ z := fun e => h e.symm
        simp [eqV, h, this]
    rw [hx]
    by_cases h : z = x <;> by_cases h2 : z ∈ l <;> simp [h, h2]
theorem flat_strs : ∀ l : List Str, ((l.map V.str).all flatV) = true
  | [] => rfl
  | x :: l => by
    rw [List.map_cons, List.all_cons, flat_strs l]
    rfl
theorem lets_lt : ∀ c ∈ LETS.cps.toList, c < 128 := by decide +kernel
theorem digs_lt : ∀ c ∈ DIGS.cps.toList, c < 128 := by decide +kernel
theorem sign_lt {c : Nat} (h : signOk c = true) : c < 128 ∧ c ≠ 32 ∧ c ≠ 10 := by
  have l : ∀ c ∈ LETS.cps.toList, c < 128 ∧ c ≠ 32 ∧ c ≠ 10 := by decide +kernel
  have d : ∀ c ∈ DIGS.cps.toList, c < 128 ∧ c ≠ 32 ∧ c ≠ 10 := by decide +kernel
  unfold signOk at h
  simp only [Bool.or_eq_true, decide_eq_true_eq] at h
  rcases h with h | h
  · exact l c h
  · exact d c h
theorem name_signs {z : Str} (h : nameOk z = true) : ∀ c ∈ z.cps.toList, c < 128 ∧ c ≠ 32 ∧ c ≠ 10 := by
  unfold nameOk at h
  cases e : z.cps.toList with
  | nil => intro c hc; cases hc
  | cons d cs =>
    rw [e] at h
    simp only [Bool.and_eq_true, List.all_eq_true] at h
    exact fun c hc => sign_lt (h.2 c hc)
theorem strOk_of {z : Str} (h : ∀ c ∈ z.cps.toList, c < 128) : PyData.strOk z = true := by
  unfold PyData.strOk
  rw [Array.all_eq_true']
  intro c hc
  have := h c (by simpa using hc)
  exact decide_eq_true (by omega)
theorem name_strOk {z : Str} (h : nameOk z = true) : PyData.strOk z = true := strOk_of fun c hc => (name_signs h c hc).1
/-! pairs of texts -/
def pairD (o i : Str) : PyData := .tuple [.str o, .str i]
def PairsAt (H : Hp) : List V → List (Str × Str) → Prop := All2 fun v r => ∃ a, v = .ref a ∧ H a = some (.tup [.str r.1, .str r.2])
theorem PairsAt.dp {K : PySem.W.Frag} {H : Hp} : ∀ {vs : List V} {rs : List (Str × Str)}, PairsAt H vs rs → DpAll K H vs (rs.map fun r => pairD r.1 r.2)
  | _, _, .nil => .nil
  | _, _, .cons ⟨_, rfl, h⟩ t => .cons (.tup (SqT.of h) (.cons (.str _) (.cons (.str _) .nil))) (PairsAt.dp t)
theorem pair_shaped {o i : Str} (ho : PyData.strOk o = true) (hi : PyData.strOk i = true) : SeqAt.shaped (pairD o i) = true := by
  unfold SeqAt.shaped
  rw [show PyData.canLay0 (pairD o i) = (PyData.strOk o && (PyData.strOk i && true)) from rfl, ho, hi]
  rfl
theorem pairs_shaped {rs : List (Str × Str)} (h : ∀ r ∈ rs, PyData.strOk r.1 = true ∧ PyData.strOk r.2 = true) : SeqAt.shaped (.list (rs.map fun r => pairD r.1 r.2)) = true := by
  have g : ∀ rs : List (Str × Str), (∀ r ∈ rs, PyData.strOk r.1 = true ∧ PyData.strOk r.2 = true) → PyData.canLayAll0 (rs.map fun r => pairD r.1 r.2) = true ∧ PyData.depthAll (rs.map fun r => pairD r.1 r.2) ≤ 1 := by
    intro rs
    induction rs with
    | nil => exact fun _ => ⟨rfl, by decide⟩
    | cons r l ih =>
      intro h
      obtain ⟨h1, h2⟩ := ih fun x hx => h x (List.mem_cons_of_mem _ hx)
      obtain ⟨a, b⟩ := h r List.mem_cons_self
      refine ⟨?_, ?_⟩
      · show (PyData.canLay0 (pairD r.1 r.2) && _) = true
        rw [show PyData.canLay0 (pairD r.1 r.2) = (PyData.strOk r.1 && (PyData.strOk r.2 && true)) from rfl, a, b, h1]
        rfl
      · show max 1 (PyData.depthAll (l.map fun r => pairD r.1 r.2)) ≤ 1
        omega
  obtain ⟨h1, h2⟩ := g rs h
  unfold SeqAt.shaped
  rw [show PyData.canLay0 (.list (rs.map fun r => pairD r.1 r.2)) = true from h1]
  exact decide_eq_true (by show PyData.depthAll (rs.map fun r => pairD r.1 r.2) + 1 ≤ 64; omega)
theorem pair_eqv (a b c d : Str) : PyData.eqv (pairD a b) (pairD c d) = decide ((a, b) = (c, d)) := by
  show (PyData.eqv (.str a) (.str c) && (PyData.eqv (.str b) (.str d) && true)) = _
  rw [show PyData.eqv (.str a) (.str c) = (a == c) from by simp [PyData.eqv], show PyData.eqv (.str b) (.str d) = (b == d) from by simp [PyData.eqv]]
  by_cases h1 : a = c <;> by_cases h2 : b = d <;> simp [h1, h2]
theorem pairs_in (o i : Str) (rs : List (Str × Str)) : ((rs.map fun r => pairD r.1 r.2).any fun z => PyData.eqv z (pairD o i)) = decide ((o, i) ∈ rs) := by
  induction rs with
  | nil => rfl
  | cons r l ih =>
    rw [List.map_cons, List.any_cons, ih, pair_eqv]
    by_cases h1 : (r.1, r.2) = (o, i) <;> by_cases h2 : (o, i) ∈ l <;> simp [h1, h2]
    · exact h1.symm
    · exact fun e => h1 (by rw [← e])
/-- reading one of the parts of an instance -/
theorem part_at {C x dx pt : Addr} {xs : List V} {H : Hp} {te : TE} {σ : L2.St} (h1 : H x = some (.ins C dx [("parts", .ref pt)])) (h2 : H pt = some (.tup xs)) (i : Int) (v : V) {Q' : VK} (ht : ∀ R : VK, R (.ref x) H → te σ H R) (e : atI xs i = some v) (q : Q' v H) : tProp C (sp_part C i) [] E0 te σ H Q' :=
  ht _ ⟨x, dx, _, rfl, h1, x, dx, pt, xs, v, rfl, h1, h2, e, q⟩
end Hv
namespace L
open PySem L2 Hv
variable {P : Program} {w : World} {K : PySem.W.Frag} {mg : Str → Option Value} {base : Heap}
abbrev s_check_kinds : Stmt := top 42
abbrev N_check_kinds : List Str := ["kinds", "names", "index", "kind"]
abbrev P_check_kinds : List Str := ["kinds"]
theorem sc_check_kinds : FnScope N_check_kinds P_check_kinds (defScope s_check_kinds) := ⟨rfl, rfl, rfl, by decide +kernel, rfl, by decide +kernel, by decide +kernel⟩
theorem ok_check_kinds {C f : Addr} {fd : FuncData} (D : DefAt K mg "check_kinds" s_check_kinds P_check_kinds f fd) (T : Txt K mg) (TK : OwnTxt K mg "Kind" C) (KPS : KProps K C) : FnOk P w K mg base CX0 3 f fd P_check_kinds (sp_check_kinds K C) := by
  obtain ⟨⟨fk0, fdk0, D_Kind_name⟩, ⟨fk1, fdk1, D_Kind_talks⟩, ⟨fk2, fdk2, D_Kind_needs⟩, ⟨fk3, fdk3, D_Kind_closing⟩, ⟨fk4, fdk4, D_Kind_ends⟩⟩ := KPS
  have G_Kind_name : FnOk P w K mg base CX0 1 fk0 fdk0 P_Kind_name (sp_part C 0) := ok_Kind_name D_Kind_name TK.c TK.na
  have G_Kind_talks : FnOk P w K mg base CX0 1 fk1 fdk1 P_Kind_talks (sp_part C 1) := ok_Kind_talks D_Kind_talks TK.c TK.na
  have G_Kind_needs : FnOk P w K mg base CX0 1 fk2 fdk2 P_Kind_needs (sp_part C 2) := ok_Kind_needs D_Kind_needs TK.c TK.na
  have G_Kind_closing : FnOk P w K mg base CX0 1 fk3 fdk3 P_Kind_closing (sp_part C 3) := ok_Kind_closing D_Kind_closing TK.c TK.na
  have G_Kind_ends : FnOk P w K mg base CX0 1 fk4 fdk4 P_Kind_ends (sp_part C 4) := ok_Kind_ends D_Kind_ends TK.c TK.na
  refine D.fn.ok sc_check_kinds (fun vs H Q E h => ?_) (fun cdv A outer s H vs Q E hr h => ?_)
  · obtain ⟨kt, kv, ks, rfl, _⟩ := h
    rfl
  · obtain ⟨kt, kv, ks, rfl, hk, ha, ok, ret⟩ := h
    refine ⟨_, (pss_cons (ps_if (PW.pt (pw_or (pt_not (pt_val (pe_callB call_isi (by rfl) T.isinstance (by decide +kernel) (pa_cons (pv 0) (pa_cons (pe_bltn (v := .ty "tuple") (u := .type "tuple") (by rfl) T.tuple (by decide +kernel) rfl) pa_nil))))) (pw_or1 (pt_cmpR (op_eqE hr.units) (pv 0) (pe_tup pa_nil) (nomark _)))))
      (pss_one ps_never)
      pss_nil)
      (pss_cons (ps_asg (pe_lst pa_nil) (pg_name (i := 1) sc_check_kinds.nd rfl (.inl rfl)))
      (pss_cons (ps_for PassesOwn.never rfl (pi_enumT (by rfl) T.enumerate (pa_cons (pv 0) pa_nil)) (pg_tup (by rfl) (pgs_cons (pg_name (i := 2) sc_check_kinds.nd rfl (.inl rfl)) (pgs_cons (pg_name (i := 3) sc_check_kinds.nd rfl (.inl rfl)) pgs_nil)))
      (pss_cons (ps_if (PW.pt (pw_or (pt_not (pt_val (pe_callB call_isi (by rfl) T.isinstance (by decide +kernel) (pa_cons (pv 3) (pa_cons (pe_glob (v := .ref C) rfl TK.mg rfl) pa_nil))))) (pw_or (pt_cmpR op_in_seq (pe_propD (pv 3) TK.c D_Kind_name.pr G_Kind_name D_Kind_name.bd (hr.mono (by decide))) (pv 1) (by rfl)) (pw_or1 (pt_cmpR op_eq (pv 2) (pe_glob (v := .int 6) rfl T.cMOST_KINDS.choose_spec ⟨_, rfl⟩) (nomark _))))))
      (pss_one ps_never)
      pss_nil)
      (pss_one (ps_expr (pe_bm PySem.F.plainAttrs_list PySem.F.slot_list_append PySem.F.type_list_append mt_append (pv 1) (pa_cons (pe_propD (pv 3) TK.c D_Kind_name.pr G_Kind_name D_Kind_name.bd (hr.mono (by decide))) pa_nil))))))
      (pss_one (ps_ret (pv 1)))))), ?_⟩
    have len := ha.len
    refine join_ifs (fun b H' => b = false ∧ Same H H') (fun Q' fin => ?_) ?_
    · refine ⟨_, rfl, _, _, _, _, _, rfl, .ty _, .base (.tup hk), kit_ty (r := true) (by decide +kernel), _, rfl, ?_⟩
      refine iteF ⟨_, rfl, (by show 0 ≤ sizeLine; decide), fun t ht => ⟨kt, t, kv, rfl, rfl, .inr ⟨SqT.of (same_new ht _ _ hk), SqT.of upd_same⟩, _, rfl, ?_⟩⟩
      refine fin _ _ ⟨?_, same_new ht⟩
      have := ok.one
      cases kv with
      | nil => simp at len; omega
      | cons a b => rfl
    rintro _ H1 ⟨rfl, s1⟩
    dsimp only [tNext]
    refine ⟨(by show 0 ≤ sizeLine; decide), fun L hL => ?_⟩
    have s2 := s1.trans (same_new (o := .lst []) hL)
    have hL2 := upd_same (H := H1) (a := L) (o := .lst [])
    have fL := s1.free hL
    dsimp only [gName]
    generalize upd H1 L (.lst []) = H2 at s2 hL2 ⊢
    refine ⟨_, rfl, kt, kv, rfl, SqT.of (s2 _ _ hk), for_it (walk_enumT (K := K) (a := kt) (xs := kv)) (fun i σ' H' => ∃ x2 x3, σ' = [some (.ref kt), some (.ref L), x2, x3] ∧ Same H H' ∧ H' L = some (.lst (((ks.take i).map (·.name)).map V.str))) ?_ ?_ ?_ ?_⟩
    · exact ⟨none, none, rfl, s2, hL2⟩
    · rintro i σ' H' _ ⟨x2, x3, _, sm, _⟩
      exact SqT.of (sm _ _ hk)
    · rintro i x σ' H' H'' hi ⟨x2, x3, rfl, sm, hl⟩ ⟨T, y, z, rfl, hT, rfl, e1, e2⟩
      cases e1
      obtain ⟨k, hki, a, rfl, dx, pt, cl, h1, h2, h3⟩ := ha.get e2
      have il : i < ks.length := by
        rcases Nat.lt_or_ge i ks.length with q | q
        · exact q
        · rw [List.getElem?_eq_none q] at hki
          cases hki
      have ek : ks[i] = k := by
        have := List.getElem?_eq_getElem il
        rw [hki] at this
        exact (Option.some.inj this).symm
      have s3 := sm.trans (same_new (o := .tup [.int (i : Nat), .ref a]) hT)
      have hl3 := same_new (o := .tup [.int (i : Nat), .ref a]) hT _ _ hl
      refine ⟨T, _, rfl, SqT.of upd_same, rfl, _, _, rfl, _, _, rfl, rfl, ?_⟩
      have h1' := s3 _ _ h1
      have h2' := s3 _ _ h2
      dsimp only
      generalize upd H' T (.tup [.int (i : Nat), .ref a]) = H4 at s3 hl3 h1' h2' ⊢
      have nm : ∀ (σ : L2.St) (Q' : VK), σ[3]? = some (some (.ref a)) → Q' (.str k.name) H4 → tProp C (sp_part C 0) [] E0 (tVar 3) σ H4 Q' := fun σ Q' e q => part_at h1' h2' 0 _ (fun R r => ⟨_, e, r⟩) rfl q
      have nin : k.name ∉ (ks.take i).map (·.name) := by
        have nd := ok.nd
        rw [← List.take_append_drop i ks, List.map_append, List.nodup_append] at nd
        intro hm
        refine nd.2.2 _ hm k.name ?_ rfl
        rw [List.drop_eq_getElem_cons il, ek]
        simp
      refine join_ifs (fun b H' => b = false ∧ H4 = H') (fun Q' fin => ?_) ?_
      · refine ⟨_, rfl, _, _, _, _, true, rfl, .own C, .base (.ins h1' TK.c TK.ha TK.hn TK.htk TK.hm), TK.k1, _, rfl, ?_⟩
        refine iteF (nm _ _ rfl ⟨_, rfl, L, _, rfl, .inl (SqL.of hl3), rfl, flat_strs _, _, rfl, ?_⟩)
        rw [inV_strs]
        refine ifF nin ⟨_, rfl, rfl, _, rfl, ?_⟩
        refine fin _ _ ⟨?_, rfl⟩
        have := ok.six
        rw [decide_eq_false_iff_not]
        intro q
        have := V.int.inj q
        omega
      rintro _ _ ⟨rfl, rfl⟩
      dsimp only [tNext]
      refine ⟨_, rfl, .inl ⟨rfl, _, SqL.of hl3⟩, nm _ _ rfl ⟨L, _, _, rfl, rfl, hl3, ?_, ?_⟩⟩
      · simp
        have := ok.six
        exact Nat.lt_of_le_of_lt (show min i ks.length ≤ 6 by omega) (by decide)
      · refine ⟨_, _, rfl, fun b o e => ?_, ?_⟩
        · rw [upd_ne (ne_of_none e fL)]
          exact s3 _ _ e
        · rw [upd_same, List.take_succ, List.getElem?_eq_getElem il, ek]
          simp
    · rintro σ' H' ⟨x2, x3, rfl, sm, hl⟩
      refine ⟨_, rfl, ret L _ sm ?_⟩
      rw [hl, len, List.take_of_length_le (Nat.le_refl _)]
abbrev s_check_rows : Stmt := top 43
abbrev N_check_rows : List Str := ["rows", "names", "pairs", "index", "row"]
abbrev P_check_rows : List Str := ["rows", "names"]
theorem sc_check_rows : FnScope N_check_rows P_check_rows (defScope s_check_rows) := ⟨rfl, rfl, rfl, by decide +kernel, rfl, by decide +kernel, by decide +kernel⟩
theorem ok_check_rows {CR f : Addr} {fd : FuncData} (D : DefAt K mg "check_rows" s_check_rows P_check_rows f fd) (T : Txt K mg) (TR : OwnTxt K mg "Row" CR) (RPS : RProps K CR) : FnOk P w K mg base CX0 3 f fd P_check_rows (sp_check_rows CR) := by
  obtain ⟨⟨fr0, fdr0, D_Row_outer⟩, ⟨fr1, fdr1, D_Row_inner⟩, ⟨fr2, fdr2, D_Row_amount⟩⟩ := RPS
  have G_Row_outer : FnOk P w K mg base CX0 1 fr0 fdr0 P_Row_outer (sp_part CR 0) := ok_Row_outer D_Row_outer TR.c TR.na
  have G_Row_inner : FnOk P w K mg base CX0 1 fr1 fdr1 P_Row_inner (sp_part CR 1) := ok_Row_inner D_Row_inner TR.c TR.na
  have G_Row_amount : FnOk P w K mg base CX0 1 fr2 fdr2 P_Row_amount (sp_part CR 2) := ok_Row_amount D_Row_amount TR.c TR.na
  refine D.fn.ok sc_check_rows (fun vs H Q E h => ?_) (fun cdv A outer s H vs Q E hr h => ?_)
  · obtain ⟨rt, nl, rv, ks, rs, rfl, _⟩ := h
    rfl
  · obtain ⟨rt, nl, rv, ks, rs, rfl, hk, hn, ha, ok, r36, ret⟩ := h
    refine ⟨_, (pss_cons (ps_if (pt_not (pt_val (pe_callB call_isi (by rfl) T.isinstance (by decide +kernel) (pa_cons (pv 0) (pa_cons (pe_bltn (v := .ty "tuple") (u := .type "tuple") (by rfl) T.tuple (by decide +kernel) rfl) pa_nil)))))
      (pss_one ps_never)
      pss_nil)
      (pss_cons (ps_asg (pe_lst pa_nil) (pg_name (i := 2) sc_check_rows.nd rfl (.inl rfl)))
      (pss_one (ps_for PassesOwn.never rfl (pi_enumT (by rfl) T.enumerate (pa_cons (pv 0) pa_nil)) (pg_tup (by rfl) (pgs_cons (pg_name (i := 3) sc_check_rows.nd rfl (.inl rfl)) (pgs_cons (pg_name (i := 4) sc_check_rows.nd rfl (.inl rfl)) pgs_nil)))
      (pss_cons (ps_if (PW.pt (pw_or (pt_not (pt_val (pe_callB call_isi (by rfl) T.isinstance (by decide +kernel) (pa_cons (pv 4) (pa_cons (pe_glob (v := .ref CR) rfl TR.mg rfl) pa_nil))))) (pw_or (pt_cmpR op_notIn_seq (pe_propD (pv 4) TR.c D_Row_outer.pr G_Row_outer D_Row_outer.bd (hr.mono (by decide))) (pv 1) (by rfl)) (pw_or1 (pt_cmpR op_notIn_seq (pe_propD (pv 4) TR.c D_Row_inner.pr G_Row_inner D_Row_inner.bd (hr.mono (by decide))) (pv 1) (by rfl))))))
      (pss_one ps_never)
      pss_nil)
      (pss_cons (ps_if (pt_cmpR (op_inD (units65 hr)) (pe_tup (pa_cons (pe_propD (pv 4) TR.c D_Row_outer.pr G_Row_outer D_Row_outer.bd (hr.mono (by decide))) (pa_cons (pe_propD (pv 4) TR.c D_Row_inner.pr G_Row_inner D_Row_inner.bd (hr.mono (by decide))) pa_nil))) (pv 2) (by rfl))
      (pss_one ps_never)
      pss_nil)
      (pss_one (ps_expr (pe_bm PySem.F.plainAttrs_list PySem.F.slot_list_append PySem.F.type_list_append mt_append (pv 2) (pa_cons (pe_tup (pa_cons (pe_propD (pv 4) TR.c D_Row_outer.pr G_Row_outer D_Row_outer.bd (hr.mono (by decide))) (pa_cons (pe_propD (pv 4) TR.c D_Row_inner.pr G_Row_inner D_Row_inner.bd (hr.mono (by decide))) pa_nil))) pa_nil)))))))))), ?_⟩
    have len := ha.len
    refine ⟨_, rfl, _, _, _, _, _, rfl, .ty _, .base (.tup hk), kit_ty (r := true) (by decide +kernel), _, rfl, iteF ?_⟩
    refine ⟨(by show 0 ≤ sizeLine; decide), fun L hL => ?_⟩
    have s2 := same_new (o := .lst []) hL
    have hL2 := upd_same (H := H) (a := L) (o := .lst [])
    dsimp only [gName]
    generalize upd H L (.lst []) = H2 at s2 hL2 ⊢
    refine ⟨_, rfl, rt, rv, rfl, SqT.of (s2 _ _ hk), for_it (walk_enumT (K := K) (a := rt) (xs := rv)) (fun i σ' H' => ∃ x3 x4 pv, σ' = [some (.ref rt), some (.ref nl), some (.ref L), x3, x4] ∧ Same H H' ∧ H' L = some (.lst pv) ∧ PairsAt H' pv ((rs.take i).map fun r => (r.1, r.2.1))) ?_ ?_ ?_ ?_⟩
    · exact ⟨none, none, [], rfl, s2, hL2, .nil⟩
    · rintro i σ' H' _ ⟨x2, x3, pv, _, sm, _⟩
      exact SqT.of (sm _ _ hk)
    · rintro i x σ' H' H'' hi ⟨x3, x4, pv, rfl, sm, hl, hp⟩ ⟨T, y, z, rfl, hT, rfl, e1, e2⟩
      cases e1
      obtain ⟨r, hri, a, rfl, dx, pt, h1, h2⟩ := ha.get e2
      have il : i < rs.length := by
        rcases Nat.lt_or_ge i rs.length with q | q
        · exact q
        · rw [List.getElem?_eq_none q] at hri
          cases hri
      have er : rs[i] = r := by
        have := List.getElem?_eq_getElem il
        rw [hri] at this
        exact (Option.some.inj this).symm
      obtain ⟨rok, on, in_⟩ := ok.ok r (er ▸ List.getElem_mem il)
      have s3 := sm.trans (same_new (o := .tup [.int (i : Nat), .ref a]) hT)
      have sT := same_new (H := H') (o := .tup [.int (i : Nat), .ref a]) hT
      have hl3 := sT _ _ hl
      have hp3 : PairsAt (upd H' T (.tup [.int (i : Nat), .ref a])) pv ((rs.take i).map fun r => (r.1, r.2.1)) := hp.mono fun _ _ ⟨a, h1, h2⟩ => ⟨a, h1, sT _ _ h2⟩
      refine ⟨T, _, rfl, SqT.of upd_same, rfl, _, _, rfl, _, _, rfl, rfl, ?_⟩
      have h1' := s3 _ _ h1
      have h2' := s3 _ _ h2
      have hn' := s3 _ _ hn
      dsimp only
      clear sT
      generalize upd H' T (.tup [.int (i : Nat), .ref a]) = H4 at s3 hl3 h1' h2' hn' hp3 ⊢
      have at_ : ∀ (H5 : Hp) (_ : Same H4 H5) (σ : L2.St) (j : Int) (v : V) (Q' : VK), σ[4]? = some (some (.ref a)) → atI [.str r.1, .str r.2.1, .str r.2.2] j = some v → Q' v H5 → tProp CR (sp_part CR j) [] E0 (tVar 4) σ H5 Q' := fun H5 s5 σ j v Q' e e2 q => part_at (s5 _ _ h1') (s5 _ _ h2') j v (fun R r => ⟨_, e, r⟩) e2 q
      have nin : (r.1, r.2.1) ∉ (rs.take i).map fun r => (r.1, r.2.1) := by
        have nd := ok.nd
        rw [← List.take_append_drop i rs, List.map_append, List.nodup_append] at nd
        intro hm
        refine nd.2.2 _ hm (r.1, r.2.1) ?_ rfl
        rw [List.drop_eq_getElem_cons il, er]
        simp
      refine join_ifs (fun b H' => b = false ∧ H4 = H') (fun Q' fin => ?_) ?_
      · refine ⟨_, rfl, _, _, _, _, true, rfl, .own CR, .base (.ins h1' TR.c TR.ha TR.hn TR.htk TR.hm), TR.k1, _, rfl, ?_⟩
        refine iteF (at_ _ (Same.refl _) _ 0 _ _ rfl rfl ⟨_, rfl, nl, _, rfl, .inl (SqL.of hn'), rfl, flat_strs _, _, rfl, ?_⟩)
        show if (!inV (.str r.1) ((ks.map (·.name)).map V.str)) = true then _ else _
        rw [inV_strs]
        refine ifNF on (at_ _ (Same.refl _) _ 1 _ _ rfl rfl ⟨_, rfl, nl, _, rfl, .inl (SqL.of hn'), rfl, flat_strs _, _, rfl, fin _ _ ⟨?_, rfl⟩⟩)
        show (!inV (.str r.2.1) ((ks.map (·.name)).map V.str)) = false
        rw [inV_strs, decide_eq_true in_]
        rfl
      rintro _ _ ⟨rfl, rfl⟩
      dsimp only [tNext]
      have so : ∀ p ∈ (rs.take i).map (fun r => (r.1, r.2.1)), PyData.strOk p.1 = true ∧ PyData.strOk p.2 = true := fun p hp => by
        obtain ⟨q, hq, rfl⟩ := List.mem_map.mp hp
        have := (ok.ok q (List.mem_of_mem_take hq)).1
        exact ⟨name_strOk this.oOk, name_strOk this.iOk⟩
      refine join_ifs (fun b H' => b = false ∧ Same H4 H') (fun Q' fin => ?_) ?_
      · refine at_ _ (Same.refl _) _ 0 _ _ rfl rfl (at_ _ (Same.refl _) _ 1 _ _ rfl rfl ⟨(by show 2 ≤ sizeLine; decide), fun t ht => ?_⟩)
        have s5 := same_new (o := .tup [.str r.1, .str r.2.1]) ht
        refine ⟨_, rfl, pairD r.1 r.2.1, ((rs.take i).map fun r => (r.1, r.2.1)).map fun p => pairD p.1 p.2, .tup (SqT.of upd_same) (.cons (.str _) (.cons (.str _) .nil)), .lst (SqL.of (s5 _ _ hl3)) (PairsAt.dp (hp3.mono fun _ _ ⟨a, h1, h2⟩ => ⟨a, h1, s5 _ _ h2⟩)), pair_shaped (name_strOk rok.oOk) (name_strOk rok.iOk), pairs_shaped so, _, rfl, ?_⟩
        refine fin _ _ ⟨?_, s5⟩
        rw [pairs_in, decide_eq_false nin]
      rintro _ H5 ⟨rfl, s5⟩
      dsimp only [tNext]
      have hl5 := s5 _ _ hl3
      refine ⟨_, rfl, .inl ⟨rfl, _, SqL.of hl5⟩, at_ _ s5 _ 0 _ _ rfl rfl (at_ _ s5 _ 1 _ _ rfl rfl ⟨(by show 2 ≤ sizeLine; decide), fun t ht => ?_⟩)⟩
      have s6 := same_new (o := .tup [.str r.1, .str r.2.1]) ht
      have s7 := s5.trans s6
      have hl6 := s6 _ _ hl5
      have tL : t ≠ L := (ne_of_none hl5 ht).symm
      refine ⟨L, _, _, rfl, rfl, hl6, ?_, _, _, pv ++ [.ref t], rfl, fun b o e => ?_, upd_same, ?_⟩
      · rw [hp3.len]
        simp
        exact Nat.lt_of_le_of_lt (show min i rs.length ≤ 36 by omega) (by decide)
      · rw [upd_ne (ne_of_none e hL)]
        exact s7 _ _ (s3 _ _ e)
      · rw [List.take_succ, List.getElem?_eq_getElem il, er]
        rw [List.map_append]
        refine All2.snoc ⟨t, rfl, ?_⟩ (hp3.mono fun _ _ ⟨b, h1, h2⟩ => ⟨b, h1, ?_⟩)
        · rw [upd_ne tL, upd_same]
        · rw [upd_ne (ne_of (s7 _ _ h2) hl6 (by intro q; cases q))]
          exact s7 _ _ h2
    · rintro σ' H' ⟨x2, x3, pv, rfl, sm, hl, hp⟩
      exact ret _ sm
end L

namespace Hv
open PySem L2
theorem lenJ_app (a b : List Str) : (joinB (a ++ b)).length ≤ (joinB a).length + 1 + (joinB b).length := by
  cases a with
  | nil =>
    rw [List.nil_append]
    omega
  | cons x a =>
    cases b with
    | nil =>
      rw [List.append_nil]
      omega
    | cons y b =>
      rw [joinB_app (by simp) (by simp), Str.length_append, Str.length_append]
      have : BLANK.length = 1 := rfl
      omega
theorem lineK_len {k : Kd} (ok : k.Ok) : (lineK k).length ≤ 150 := by
  have nl := name_len ok.name
  have b1 : BLANK.length = 1 := rfl
  have e1 : (Str.ofString "motion").length = 6 := by decide +kernel
  have e2 : (Str.ofString "talks").length = 5 := by decide +kernel
  have e3 : (Str.ofString "needs").length = 5 := by decide +kernel
  have e4 : (Str.ofString "closed").length = 6 := by decide +kernel
  have e5 : (Str.ofString "after").length = 5 := by decide +kernel
  have e6 : (Str.ofString "by").length = 2 := by decide +kernel
  have e7 : (Str.ofString "ends").length = 4 := by decide +kernel
  have l0 : (joinB [Str.ofString "motion", k.name]).length ≤ 15 := by
    rw [joinB_cons, joinB_one, Str.length_append, Str.length_append]
    omega
  have j0 : (joinB []).length = 0 := by rw [joinB_str]; rfl
  have l1 : (joinB (tW k.talks)).length ≤ 8 := by
    unfold tW
    split
    · have := num_len ok.talks.1 (Int.le_trans ok.talks.2 (by decide))
      rw [joinB_cons, joinB_one, Str.length_append, Str.length_append]
      omega
    · omega
  have l2 : (joinB (nW k.needs)).length ≤ 26 := by
    rcases ok.needs with ⟨i, e, i1, i9⟩ | ⟨z, e, bz⟩
    · rw [e]
      show (joinB (if 1 < i then [Str.ofString "needs", num i] else [])).length ≤ 26
      split
      · have := num_len (i := i) (by omega) (by omega)
        rw [joinB_cons, joinB_one, Str.length_append, Str.length_append]
        omega
      · omega
    · rw [e]
      show (joinB ([Str.ofString "needs"] ++ bw z)).length ≤ 26
      have := bt_len bz
      have := lenJ_app [Str.ofString "needs"] (bw z)
      rw [joinB_bw, joinB_one] at this
      omega
  have l3 : (joinB (cW k.closing)).length ≤ 50 := by
    cases e : k.closing with
    | none => show (joinB []).length ≤ 50; omega
    | some p =>
      obtain ⟨i, z⟩ := p
      obtain ⟨h1, h2, bz⟩ := ok.closing i z e
      have := bt_len bz
      have t := num_len (i := i) h1 (by omega)
      have q := lenJ_app [Str.ofString "closed", Str.ofString "after", num i, Str.ofString "by"] (bw z)
      rw [joinB_bw, joinB_cons, joinB_cons, joinB_cons, joinB_one] at q
      simp only [Str.length_append] at q
      show (joinB ([Str.ofString "closed", Str.ofString "after", num i, Str.ofString "by"] ++ bw z)).length ≤ 50
      omega
  have l4 : (joinB (eW k.ends)).length ≤ 40 := by
    cases e : k.ends with
    | none => show (joinB []).length ≤ 40; omega
    | some z =>
      have := bt_len (ok.ends z e)
      have q := lenJ_app [Str.ofString "ends", Str.ofString "by"] (bw z)
      rw [joinB_bw, joinB_cons, joinB_one] at q
      simp only [Str.length_append] at q
      show (joinB ([Str.ofString "ends", Str.ofString "by"] ++ bw z)).length ≤ 40
      omega
  have q1 := lenJ_app [Str.ofString "motion", k.name] (tW k.talks ++ (nW k.needs ++ (cW k.closing ++ eW k.ends)))
  have q2 := lenJ_app (tW k.talks) (nW k.needs ++ (cW k.closing ++ eW k.ends))
  have q3 := lenJ_app (nW k.needs) (cW k.closing ++ eW k.ends)
  have q4 := lenJ_app (cW k.closing) (eW k.ends)
  unfold lineK kwords
  omega
theorem amt_len : ∀ z ∈ AMTS, z.length ≤ 6 := by decide +kernel
theorem lineR_len {o i m : Str} (h : RowOk o i m) : (lineR o i m).length ≤ 150 ∧ o.length ≤ 8 ∧ i.length ≤ 8 ∧ m.length ≤ 6 := by
  have h1 := name_len h.oOk
  have h2 := name_len h.iOk
  have h3 := amt_len m (amount_mem h.mOk)
  have b1 : BLANK.length = 1 := rfl
  have e1 : (Str.ofString "under").length = 5 := by decide +kernel
  refine ⟨?_, h1, h2, h3⟩
  unfold lineR
  rw [joinB_cons, joinB_cons, joinB_cons, joinB_one]
  simp only [Str.length_append]
  omega
theorem sum_le {l : List Nat} {m : Nat} (h : ∀ x ∈ l, x ≤ m) : l.sum ≤ l.length * m := by
  induction l with
  | nil => simp
  | cons a l ih =>
    have := ih fun x hx => h x (List.mem_cons_of_mem _ hx)
    have := h a List.mem_cons_self
    rw [List.sum_cons, List.length_cons, Nat.succ_mul]
    omega
theorem lines_len {ks : List Kd} {rs : List R3} (hk : KindsOk ks) (hr : RowsOk ks rs) : ∀ z ∈ linesR ks rs, z.length ≤ 150 := by
  intro z hz
  unfold linesR at hz
  rcases List.mem_append.mp hz with hz | hz
  · obtain ⟨k, h, rfl⟩ := List.mem_map.mp hz
    exact lineK_len (hk.ok k h)
  · obtain ⟨r, h, rfl⟩ := List.mem_map.mp hz
    exact (lineR_len (hr.ok r h).1).1
def sp_rules_init (K : PySem.W.Frag) (C CR CU : Addr) : Sp := fun vs H Q _ => ∃ (x dx kt rt : Addr) (kv rv : List V) (ks : List Kd) (rs : List R3), vs = [.ref x, .ref kt, .ref rt] ∧ H kt = some (.tup kv) ∧ H rt = some (.tup rv) ∧ KindsAt K C H kv ks ∧ RowsAt CR H rv rs ∧ KindsOk ks ∧ RowsOk ks rs ∧ rs.length ≤ 36 ∧
  H x = some (.ins CU dx []) ∧ H dx = some (.own x) ∧ dx ≠ x ∧ ∀ H', (∀ b o, b ≠ x → H b = some o → H' b = some o) → RulesAt K C CR CU H' x ks rs → Q .non H'
/-- what the text has of Rules -/
structure RulTxt (K : PySem.W.Frag) (mg : Str → Option Value) (C : Addr) : Prop where
  mg : mg "Rules" = some (.ref C)
  c : Cls K C
  n1 : NoAttr K C "made"
  n2 : NoAttr K C "lines"
  n3 : NoAttr K C "text"
  ha : PySem.W.findIn K (.ref C) "__class__" = some (some (.builtin "object.__class__"))
  hn : PySem.W.specialIn K (.builtin "object.__class__") "__get__" = some (some (.builtin "getset_descriptor.__get__"))
  htk : PySem.W.takesIn K (.builtin "object.__class__") = some true
  hm : PySem.W.mroIn K C (.type "object") = some true
  k1 : PySem.W.kitOne K (.ref C) (.ref C) = some true
end Hv
namespace L
open PySem L2 Hv
variable {P : Program} {w : World} {K : PySem.W.Frag} {mg : Str → Option Value} {base : Heap}
abbrev s_Rules_init : Stmt := inClass (top 44) 0
abbrev N_Rules_init : List Str := ["self", "kinds", "rows", "kind", "row"]
abbrev P_Rules_init : List Str := ["self", "kinds", "rows"]
theorem sc_Rules_init : FnScope N_Rules_init P_Rules_init (defScope s_Rules_init) := ⟨rfl, rfl, rfl, by decide +kernel, rfl, by decide +kernel, by decide +kernel⟩
abbrev FunR (K : PySem.W.Frag) (ta f : Addr) (fd : FuncData) : Prop := FunD K "__init__" "Rules.__init__" (defArgs s_Rules_init) (defBody s_Rules_init) (defScope s_Rules_init) [.ref ta] [] f fd
theorem FunR.all {ta f : Addr} {fd : FuncData} (F : FunR K ta f fd) : Binds K fd P_Rules_init [] := by
  obtain ⟨ds, hv, hb⟩ := F.binds1 (ps := P_Rules_init) 3 1 (by simp) rfl (fun T kV doc pm an cdv ct us its h1 h2 => match us, its, h1, h2 with | [_, _, _], [_], _, _ => ⟨_, rfl, rfl⟩)
  cases hv
  exact hb
theorem ok_Rules_init {C CR CU ta f f1 f2 f3 f4 f5 : Addr} {fd fd1 fd2 fd3 fd4 fd5 : FuncData} (D : FunR K ta f fd) (T : Txt K mg) (TK : OwnTxt K mg "Kind" C) (KPS : KProps K C) (TR : OwnTxt K mg "Row" CR) (RPS : RProps K CR) (TU : RulTxt K mg CU)
    (D_check_kinds : DefAt K mg "check_kinds" s_check_kinds P_check_kinds f1 fd1) (D_check_rows : DefAt K mg "check_rows" s_check_rows P_check_rows f2 fd2)
    (D_line_of_kind : DefAt K mg "line_of_kind" s_line_of_kind P_line_of_kind f3 fd3) (D_line_of_row : DefAt K mg "line_of_row" s_line_of_row P_line_of_row f4 fd4) (D_is_integer : DefAt K mg "is_integer" s_is_integer P_is_integer f5 fd5) :
    FnOk P w K mg base CX0 4 f fd P_Rules_init (sp_rules_init K C CR CU) := by
  have G_check_kinds : FnOk P w K mg base CX0 3 f1 fd1 P_check_kinds (sp_check_kinds K C) := ok_check_kinds D_check_kinds T TK KPS
  have G_check_rows : FnOk P w K mg base CX0 3 f2 fd2 P_check_rows (sp_check_rows CR) := ok_check_rows D_check_rows T TR RPS
  have G_line_of_kind : FnOk P w K mg base CX0 3 f3 fd3 P_line_of_kind (sp_line_of_kind K C) := ok_line_of_kind D_line_of_kind T TK KPS D_is_integer
  have G_line_of_row : FnOk P w K mg base CX0 3 f4 fd4 P_line_of_row (sp_line_of_row CR) := ok_line_of_row D_line_of_row TR RPS
  refine D.ok sc_Rules_init (fun vs H Q E h => ?_) (fun cdv A outer s H vs Q E hr h => ?_)
  · obtain ⟨x, dx, kt, rt, kv, rv, ks, rs, rfl, _⟩ := h
    rfl
  · obtain ⟨x, dx, kt, rt, kv, rv, ks, rs, rfl, hk, hr0, ak, ar, ok, okr, r36, hx, hd, nd, ret⟩ := h
    refine ⟨_, (pss_cons (ps_expr (pe_call G_check_rows (hr.mono (by decide)) rfl D_check_rows.mg D_check_rows.fn.kp D_check_rows.bd .nil pass0 (pa_cons (pv 2) (pa_cons (pe_call G_check_kinds (hr.mono (by decide)) rfl D_check_kinds.mg D_check_kinds.fn.kp D_check_kinds.bd .nil pass0 (pa_cons (pv 1) pa_nil)) pa_nil))))
      (pss_cons (ps_fld (pv 0) (pe_tup (pa_cons (pv 1) (pa_cons (pv 2) pa_nil))) rfl)
      (pss_cons (ps_fld (pv 0) (pe_op op_cat (pe_lc (own := [("kind", 3)]) (g := gName 3) rfl sc_Rules_init.nd (pi_tup (pv 1)) (blkOk_by (own := [("kind", 3)]) (N := N_Rules_init) (sc := defScope s_Rules_init) (by decide +kernel)) (fun _ _ _ _ _ => (pg_name (i := 3) sc_Rules_init.nd rfl (.inl rfl))) (fun _ _ _ _ _ => pts_nil) (fun _ _ _ _ _ => (pe_call G_line_of_kind (hr.mono (by decide)) rfl D_line_of_kind.mg D_line_of_kind.fn.kp D_line_of_kind.bd .nil pass0 (pa_cons (pv 3) pa_nil)))) (pe_lc (own := [("row", 4)]) (g := gName 4) rfl sc_Rules_init.nd (pi_tup (pv 2)) (blkOk_by (own := [("row", 4)]) (N := N_Rules_init) (sc := defScope s_Rules_init) (by decide +kernel)) (fun _ _ _ _ _ => (pg_name (i := 4) sc_Rules_init.nd rfl (.inl rfl))) (fun _ _ _ _ _ => pts_nil) (fun _ _ _ _ _ => (pe_call G_line_of_row (hr.mono (by decide)) rfl D_line_of_row.mg D_line_of_row.fn.kp D_line_of_row.bd .nil pass0 (pa_cons (pv 4) pa_nil))))) rfl)
      (pss_one (ps_fld (pv 0) (pe_join pe_str (pe_fld (pv 0) rfl)) rfl))))), ?_⟩
    have lenk := ak.len
    have lenr := ar.len
    have k6 := ok.six
    have sz : ∀ n : Nat, n ≤ 100 → n ≤ sizeLine := fun n hn => Nat.le_trans hn (by decide)
    -- the checks
    refine ⟨_, rfl, _, rfl, kt, kv, ks, rfl, hk, ak, ok, fun p H1 s1 hp => ?_⟩
    refine ⟨rt, p, rv, ks, rs, rfl, s1 _ _ hr0, hp, ar.same s1, okr, r36, fun H2 s2 => ?_⟩
    have s3 := s1.trans s2
    -- made
    refine ⟨_, rfl, _, rfl, (by show 2 ≤ sizeLine; decide), fun mt hmt => ?_⟩
    have s4 := s3.trans (same_new (o := .tup [.ref kt, .ref rt]) hmt)
    have hm := upd_same (H := H2) (a := mt) (o := .tup [.ref kt, .ref rt])
    refine ⟨_, rfl, x, CU, dx, [], rfl, s4 _ _ hx, TU.c, TU.n1, by decide, ?_⟩
    generalize upd H2 mt (.tup [.ref kt, .ref rt]) = H3 at s4 hm ⊢
    have mx : mt ≠ x := ne_of hm (s4 _ _ hx) (by intro q; cases q)
    -- but for x
    have keep : ∀ (ys : List (Str × V)) b o, b ≠ x → H b = some o → upd H3 x (.ins CU dx ys) b = some o := fun ys b o n e => by
      rw [upd_ne n]
      exact s4 _ _ e
    have kk : ∀ (H' : Hp), (∀ b o, b ≠ x → H3 b = some o → H' b = some o) → KindsAt K C H' kv ks ∧ RowsAt CR H' rv rs ∧ H' kt = some (.tup kv) ∧ H' rt = some (.tup rv) ∧ H' mt = some (.tup [.ref kt, .ref rt]) := fun H' s' => by
      have nx : ∀ {b : Addr} {xs : List V}, H b = some (.tup xs) → H' b = some (.tup xs) := fun {b xs} e => s' _ _ (ne_of e hx (by intro q; cases q)) (s4 _ _ e)
      have ni : ∀ {b C' dy pt : Addr}, H b = some (.ins C' dy [("parts", .ref pt)]) → H' b = some (.ins C' dy [("parts", .ref pt)]) := fun {b C' dy pt} e => s' _ _ (ne_of e hx (by intro q; cases q)) (s4 _ _ e)
      refine ⟨ak.mono ?_, ar.mono ?_, nx hk, nx hr0, s' _ _ mx hm⟩
      · rintro v k ⟨a, rfl, dy, pt, cl, h1, h2, h3⟩
        refine ⟨a, rfl, dy, pt, cl, ni h1, nx h2, ?_⟩
        cases ec : k.closing with
        | none => rw [ec] at h3; exact h3
        | some p =>
          rw [ec] at h3
          obtain ⟨ca, e1, e2⟩ := h3
          exact ⟨ca, e1, nx e2⟩
      · rintro v r ⟨a, rfl, dy, pt, h1, h2⟩
        exact ⟨a, rfl, dy, pt, ni h1, nx h2⟩
    dsimp only
    -- lines
    have kp4 : ∀ b o, b ≠ x → H3 b = some o → upd H3 x (.ins CU dx (putF "made" (.ref mt) [])) b = some o := fun b o n e => by rw [upd_ne n]; exact e
    obtain ⟨ak4, ar4, hk4, hr4, hm4⟩ := kk _ kp4
    have hx4 := upd_same (H := H3) (a := x) (o := .ins CU dx (putF "made" (.ref mt) []))
    have keep4 := keep (putF "made" (.ref mt) [])
    generalize upd H3 x (.ins CU dx (putF "made" (.ref mt) [])) = H4 at ak4 ar4 hk4 hr4 hm4 hx4 keep4 kp4 ⊢
    refine ⟨_, rfl, kt, rfl, ⟨_, SqT.of hk4⟩, fun L1 hL1 => ?_⟩
    refine lc_tup (K := K) (a := kt) (xs := kv) (fun i H' => Same H4 H' ∧ H' L1 = some (.lst (((ks.take i).map lineK).map V.str))) ⟨same_new hL1, upd_same⟩ ?_ ?_ ?_
    · rintro i H' _ ⟨s', _⟩
      exact SqT.of (s' _ _ hk4)
    · rintro i v H' hv ⟨s', hl⟩
      obtain ⟨k, hki, a, rfl, ha⟩ := ak4.get hv
      have il : i < ks.length := (List.getElem?_eq_some_iff.mp hki).1
      have ek : ks[i] = k := (List.getElem?_eq_some_iff.mp hki).2
      refine ⟨rfl, _, rfl, a, k, rfl, ha.same s', ok.ok k (ek ▸ List.getElem_mem il), _, hl, ?_, ?_, ?_⟩
      · simp
        exact Nat.lt_of_le_of_lt (show min i ks.length ≤ 6 by omega) (by decide)
      · intro b o e
        rw [upd_ne (ne_of_none e hL1)]
        exact s' _ _ e
      · rw [upd_same, List.take_succ, List.getElem?_eq_getElem il, ek]
        simp
    rintro H5 ⟨s5, hL5⟩
    rw [lenk, List.take_of_length_le (Nat.le_refl _)] at hL5
    obtain ⟨ak5, ar5, hk5, hr5, hm5⟩ := kk _ fun b o n e => s5 _ _ (kp4 b o n e)
    refine ⟨_, rfl, rt, rfl, ⟨_, SqT.of hr5⟩, fun L2 hL2 => ?_⟩
    refine lc_tup (K := K) (a := rt) (xs := rv) (fun i H' => Same H5 H' ∧ H' L2 = some (.lst (((rs.take i).map fun r => lineR r.1 r.2.1 r.2.2).map V.str))) ⟨same_new hL2, upd_same⟩ ?_ ?_ ?_
    · rintro i H' _ ⟨s', _⟩
      exact SqT.of (s' _ _ hr5)
    · rintro i v H' hv ⟨s', hl⟩
      obtain ⟨r, hri, a, rfl, ha⟩ := ar5.get hv
      have il : i < rs.length := (List.getElem?_eq_some_iff.mp hri).1
      have ek : rs[i] = r := (List.getElem?_eq_some_iff.mp hri).2
      obtain ⟨_, l1, l2, l3⟩ := lineR_len (okr.ok r (ek ▸ List.getElem_mem il)).1
      refine ⟨rfl, _, rfl, a, r.1, r.2.1, r.2.2, rfl, ha.same s', by omega, by omega, by omega, _, hl, ?_, ?_, ?_⟩
      · simp
        exact Nat.lt_of_le_of_lt (show min i rs.length ≤ 36 by omega) (by decide)
      · intro b o e
        rw [upd_ne (ne_of_none e hL2)]
        exact s' _ _ e
      · rw [upd_same, List.take_succ, List.getElem?_eq_getElem il, ek]
        simp
    rintro H6 ⟨s6, hL6⟩
    rw [lenr, List.take_of_length_le (Nat.le_refl _)] at hL6
    have lz : (ks.map lineK).length ≤ 6 ∧ (rs.map fun r => lineR r.1 r.2.1 r.2.2).length ≤ 36 := by
      simp
      omega
    refine ⟨L1, L2, _, _, rfl, rfl, s6 _ _ hL5, hL6, sz _ (by simp; omega), fun L hL => ?_⟩
    have e7 : (ks.map lineK).map V.str ++ (rs.map fun r => lineR r.1 r.2.1 r.2.2).map V.str = (linesR ks rs).map V.str := by
      unfold linesR
      rw [List.map_append]
    rw [e7]
    have s7 := (s5.trans s6).trans (same_new (o := .lst ((linesR ks rs).map V.str)) hL)
    have hl7 := upd_same (H := H6) (a := L) (o := .lst ((linesR ks rs).map V.str))
    have hx7 := s7 _ _ hx4
    refine ⟨_, rfl, x, CU, dx, _, rfl, hx7, TU.c, TU.n2, (by show 1 < 1000; decide), ?_⟩
    generalize upd H6 L (.lst ((linesR ks rs).map V.str)) = H7 at s7 hl7 hx7 ⊢
    have Lx : L ≠ x := ne_of hl7 hx7 (by intro q; cases q)
    dsimp only
    -- text
    have hx8 := upd_same (H := H7) (a := x) (o := .ins CU dx (putF "lines" (.ref L) (putF "made" (.ref mt) [])))
    have hl8 : upd H7 x (.ins CU dx (putF "lines" (.ref L) (putF "made" (.ref mt) []))) L = some (.lst ((linesR ks rs).map V.str)) := by
      rw [upd_ne Lx]
      exact hl7
    have ll := lines_len ok okr
    have lc : (linesR ks rs).length ≤ 42 := by
      unfold linesR
      simp
      omega
    have n1 : NL.length = 1 := rfl
    refine ⟨⟨_, rfl⟩, _, rfl, x, CU, dx, _, _, rfl, hx8, TU.c, TU.n2, rfl, _, L, _, rfl, rfl, .inl (SqL.of hl8), ?_, _, rfl, x, CU, dx, _, rfl, hx8, TU.c, TU.n3, (by show 2 < 1000; decide), ?_⟩
    · have q := sum_le (l := (linesR ks rs).map (·.length)) (m := 150) fun x hx => by
        obtain ⟨z, hz, rfl⟩ := List.mem_map.mp hx
        exact ll z hz
      rw [List.length_map] at q
      show _ + (linesR ks rs).length * NL.length ≤ _
      rw [n1]
      omega
    · rw [upd_upd]
      obtain ⟨ak9, ar9, hk9, hr9, hm9⟩ := kk (upd H7 x (.ins CU dx (putF "text" (.str (Txt.join NL (linesR ks rs))) (putF "lines" (.ref L) (putF "made" (.ref mt) []))))) fun b o n e => by
        rw [upd_ne n]
        exact s7 _ _ (kp4 b o n e)
      refine ret _ (fun b o n e => ?_) ⟨dx, mt, kt, rt, L, kv, rv, ?_, hm9, hk9, hr9, ?_, ak9, ar9⟩
      · rw [upd_ne n]
        exact s7 _ _ (keep4 _ _ n e)
      · rw [upd_same]
        rfl
      · rw [upd_ne Lx]
        exact hl7
end L

namespace Hv
open PySem PySem.Spec PyProof.Rows L2 TL
/-- try: body / except ..: where the body lets nothing out -/
theorem ps_try_calm {X : Cx} {body : List Stmt} {h₀ : ExceptHandler} {hs : List ExceptHandler} {pos : Pos} {tb : TS} (hb : ∀ pn : List (Addr × Obj), PSs (X.tr pn (fun _ _ => False)) body tb) : PS X (.Try body (h₀ :: hs) [] [] pos) tb := by
  refine ⟨fun pins s σ H D I h => ?_⟩
  have xok := I.ok
  refine wpAny_Try_except ?_
  refine wpAny_mono ((hb (X.pn ++ pins)).run [] s σ H D (I.toTry _) h) (fun fl s1 hsp => ?_) fun e s1 he => he.elim
  cases fl with
  | next => obtain ⟨σ', H', J', q⟩ := hsp; exact wpAny_execs_nil ⟨σ', H', J'.ofTry xok, q⟩
  | brk => obtain ⟨σ', H', J', q⟩ := hsp; exact ⟨σ', H', J'.ofTry xok, q⟩
  | cont => obtain ⟨σ', H', J', q⟩ := hsp; exact ⟨σ', H', J'.ofTry xok, q⟩
  | ret u => obtain ⟨v, σ', H', J', r, q⟩ := hsp; exact ⟨v, σ', H', J'.ofTry xok, r, q⟩
/-- c(e, ..), the class in a local name -/
def tMakeL (i : Nat) (C : Addr) (sp : Sp) (dvs : List V) (E : XK) (t : TA) : TE := fun σ H Q => σ[i]? = some (some (.ref C)) ∧ tMake C sp dvs E t σ H Q
theorem pe_makeL {X : Cx} {CX : CXT} {k i : Nat} {C f : Addr} {fd : FuncData} {ps : List Str} {sp : Sp} {dvs : List V} {ds : List Value} {E : XK} {x : Str} {p pos : Pos} {e : Expr} {es : List Expr} {t : TA}
    (M : Mk X.K C f) (F : FnOk X.prog X.w X.K X.mg X.base CX k f fd ps sp) (hr : Room (k + 1) X.A) (hN : X.N[i]? = some x) (hv : Vis X.env.scope x) (hb : Binds X.K fd ps ds) (hd : Vals dvs ds) (hx : Passes CX X E)
    (ha : PA X (e :: es) t) (hdb : (x == ("__debug__" : Str)) = false := by decide) (hcd : (x == ("__classdict__" : Str)) = false := by decide)
    (he : starEach (e :: es) X.env = (false, eval e X.env) :: starEach es X.env := by rfl) (hpl : (backTo pos (starEach es X.env)).any (·.1) = false := by rfl) :
    PE X (.Call (.Name x p) (e :: es) [] pos) (tMakeL i C sp dvs E t) := by
  refine ⟨fun pins s σ H Q I h => ?_⟩
  obtain ⟨hs, ht⟩ := h
  refine wpAny_Call_Name_kw (thn ((pe_var (pos := p) hN hv hdb hcd).run pins s σ H (fun v H1 => v = .ref C ∧ H1 = H) I ⟨.ref C, hs, rfl, rfl⟩) fun u s1 ⟨v, H1, I1, r1, q1⟩ => ?_)
  obtain ⟨rfl, rfl⟩ := q1
  cases r1
  refine PySem.W.callWith_K (h₀ := X.base) I.ok.mod.kin M.kp (thn (ha.run pos pins s1 σ _ _ I1 ht) fun us s2 ⟨vs, H2, I2, r, q⟩ => ⟨I2.kIn, ?_⟩) he hpl
  exact run_make M F hr hb hd hx I2 r q
def rTupOf (K : PySem.W.Frag) : List V → Hp → VK → Prop := fun xs H Q => ∃ (p : Addr) (ys : List V), xs = [V.ref p] ∧ ((SqL K H p ys ∧ ∀ l : Addr, H l = none → Q (V.ref l) (upd H l (.tup ys))) ∨ (SqT K H p ys ∧ Q (V.ref p) H))
theorem split_mem {x y p : Str} {c : Nat} (h : p ∈ Txt.split x y) (hc : c ∈ tl p) : c ∈ tl x := by
  have e := congrArg tl (StrLaws.join_split x y)
  rw [tl_join] at e
  rw [← e]
  exact mem_joinL (List.mem_map.mpr ⟨p, h, rfl⟩) hc
theorem split_len {x y p : Str} (h : p ∈ Txt.split x y) : p.length ≤ x.length := by
  have e := congrArg tl (StrLaws.join_split x y)
  rw [tl_join] at e
  rw [TL.len_tl, TL.len_tl, ← e]
  exact len_joinL (List.mem_map.mpr ⟨p, h, rfl⟩)
theorem wok_split {z y : Str} (h : PyData.strOk z = true) (hl : z.length ≤ 40000) : WOk (Txt.split z y) := fun p hp => by
  refine ⟨?_, Nat.le_trans (split_len hp) hl⟩
  unfold PyData.strOk at h ⊢
  rw [Array.all_eq_true'] at h ⊢
  intro c hc
  exact h c (by simpa using split_mem hp (by simpa [tl] using hc))
/-- what is no list stays -/
def Nol (H H' : Hp) : Prop := ∀ a o, H a = some o → (∀ xs, o ≠ .lst xs) → H' a = some o
theorem Nol.of {H H' : Hp} (e : Same H H') : Nol H H' := fun a o h _ => e a o h
theorem Nol.trans {H H1 H2 : Hp} (a : Nol H H1) (b : Nol H1 H2) : Nol H H2 := fun c o h n => b c o (a c o h n) n
theorem Nol.lst {H : Hp} {p : Addr} {xs ys : List V} (h : H p = some (.lst xs)) : Nol H (upd H p (.lst ys)) := fun a o q n => by
  rw [upd_ne (fun e => by rw [e, h] at q; exact n xs (Option.some.inj q).symm)]
  exact q
theorem KindAt.nol {K : PySem.W.Frag} {C : Addr} {H H' : Hp} {a : Addr} {k : Kd} (h : KindAt K C H a k) (e : Nol H H') : KindAt K C H' a k := by
  obtain ⟨dx, pt, cl, h1, h2, h3⟩ := h
  refine ⟨dx, pt, cl, e _ _ h1 (by intro xs q; cases q), e _ _ h2 (by intro xs q; cases q), ?_⟩
  cases ec : k.closing with
  | none => rw [ec] at h3; exact h3
  | some p =>
    rw [ec] at h3
    obtain ⟨ca, e1, e2⟩ := h3
    exact ⟨ca, e1, e _ _ e2 (by intro xs q; cases q)⟩
theorem KindsAt.nol {K : PySem.W.Frag} {C : Addr} {H H' : Hp} {vs : List V} {ks : List Kd} (h : KindsAt K C H vs ks) (e : Nol H H') : KindsAt K C H' vs ks := h.mono fun _ _ ⟨a, h1, h2⟩ => ⟨a, h1, h2.nol e⟩
theorem RowsAt.nol {C : Addr} {H H' : Hp} {vs : List V} {rs : List R3} (h : RowsAt C H vs rs) (e : Nol H H') : RowsAt C H' vs rs := h.mono fun _ _ ⟨a, h1, dx, pt, h2, h3⟩ => ⟨a, h1, dx, pt, e _ _ h2 (by intro xs q; cases q), e _ _ h3 (by intro xs q; cases q)⟩
/-- the lines read -/
def readL : List Str → List Kd → List R3 → Option (List Kd × List R3)
  | [], ks, rs => some (ks, rs)
  | z :: zs, ks, rs => match (if rs.isEmpty = true then readK z else none), readR z with
    | some k, _ => readL zs (ks ++ [k]) rs
    | none, some r => readL zs ks (rs ++ [r])
    | none, none => none
def sp_read (K : PySem.W.Frag) (C CR CU : Addr) : Sp := fun vs H Q _ => ∃ (z : Str) (ks : List Kd) (rs : List R3), vs = [.ref CU, .str z] ∧ PyData.strOk z = true ∧ z.length ≤ 40000 ∧ (Txt.split z NL).length ≤ 100 ∧ readL (Txt.split z NL) [] [] = some (ks, rs) ∧ KindsOk ks ∧ RowsOk ks rs ∧ rs.length ≤ 36 ∧
  ∀ a H', H a = none → Same H H' → RulesAt K C CR CU H' a ks rs → Q (.ref a) H'
end Hv
namespace L
open PySem L2 Hv
variable {P : Program} {w : World} {K : PySem.W.Frag} {mg : Str → Option Value} {base : Heap}
abbrev s_Rules_read : Stmt := inClass (top 44) 1
abbrev N_Rules_read : List Str := ["cls", "text", "kinds", "rows", "line", "kind", "row"]
abbrev P_Rules_read : List Str := ["cls", "text"]
theorem sc_Rules_read : FnScope N_Rules_read P_Rules_read (defScope s_Rules_read) := ⟨rfl, rfl, rfl, by decide +kernel, rfl, by decide +kernel, by decide +kernel⟩
theorem ok_read {C CR CU f fR f1 f2 : Addr} {fd fdR fd1 fd2 : FuncData} (D : Fun K "read" "Rules.read" s_Rules_read f fd) (T : Txt K mg)
    (M_Rules : Mk K CU fR) (G_Rules_init : FnOk P w K mg base CX0 4 fR fdR P_Rules_init (sp_rules_init K C CR CU)) (B_Rules : Binds K fdR P_Rules_init [])
    (D_read_kind : DefAt K mg "read_kind" s_read_kind P_read_kind f1 fd1) (G_read_kind : FnOk P w K mg base CX0 7 f1 fd1 P_read_kind (sp_read_kind K C))
    (D_read_row : DefAt K mg "read_row" s_read_row P_read_row f2 fd2) (G_read_row : FnOk P w K mg base CX0 5 f2 fd2 P_read_row (sp_read_row CR)) :
    FnOk P w K mg base CX0 8 f fd P_Rules_read (sp_read K C CR CU) := by
  refine D.ok sc_Rules_read (fun vs H Q E h => ?_) (fun cdv A outer s H vs Q E hr h => ?_)
  · obtain ⟨z, ks, rs, rfl, _⟩ := h
    rfl
  · obtain ⟨z, ksF, rsF, rfl, so, zl, l100, rd, ok, okr, r36, ret⟩ := h
    refine ⟨_, (pss_cons (ps_if (pt_not (pt_val (pe_callB call_isi (by rfl) T.isinstance (by decide +kernel) (pa_cons (pv 1) (pa_cons (pe_bltn (v := .ty "str") (u := .type "str") (by rfl) T.str (by decide +kernel) rfl) pa_nil)))))
      (pss_one ps_never)
      pss_nil)
      (pss_cons (ps_par (i := 2) (j := 3) (by rfl) sc_Rules_read.nd rfl rfl (by decide) rfl rfl (pa_cons (pe_lst pa_nil) (pa_cons (pe_lst pa_nil) pa_nil)) (by rfl))
      (pss_cons (ps_for PassesOwn.never rfl (pi_list (pe_split (pv 1) pe_str)) (pg_name (i := 4) sc_Rules_read.nd rfl (.inl rfl))
      (pss_cons (ps_asg (pe_ifExp (pt_cmpR (op_eqE hr.units) (pv 3) (pe_lst pa_nil) (nomark _)) (pe_call G_read_kind (hr.mono (by decide)) rfl D_read_kind.mg D_read_kind.fn.kp D_read_kind.bd .nil pass0 (pa_cons (pv 4) pa_nil)) pe_non) (pg_name (i := 5) sc_Rules_read.nd rfl (.inl rfl)))
      (pss_cons (ps_asg (pe_call G_read_row (hr.mono (by decide)) rfl D_read_row.mg D_read_row.fn.kp D_read_row.bd .nil pass0 (pa_cons (pv 4) pa_nil)) (pg_name (i := 6) sc_Rules_read.nd rfl (.inl rfl)))
      (pss_cons (ps_if (PW.pt (pw_and (pt_cmpR op_isN (pv 5) pe_non (nomark _)) (pw_and1 (pt_cmpR op_isN (pv 6) pe_non (nomark _)))))
      (pss_one ps_never)
      pss_nil)
      (pss_one (ps_if (pt_cmpR op_isN (pv 5) pe_non (nomark _))
      (pss_one (ps_expr (pe_bm PySem.F.plainAttrs_list PySem.F.slot_list_append PySem.F.type_list_append mt_append (pv 3) (pa_cons (pv 6) pa_nil))))
      (pss_one (ps_expr (pe_bm PySem.F.plainAttrs_list PySem.F.slot_list_append PySem.F.type_list_append mt_append (pv 2) (pa_cons (pv 5) pa_nil))))))))))
      (pss_one (ps_try_calm (fun _ => (pss_one (ps_ret (pe_makeL (i := 0) M_Rules G_Rules_init (hr.mono (by decide)) rfl (.inl rfl) B_Rules .nil pass0 (pa_cons (pe_callTy (show CallR _ (.type "tuple") (rTupOf K) from call_tuple_of) (by rfl) T.tuple (by decide +kernel) (pa_cons (pv 2) pa_nil)) (pa_cons (pe_callTy (show CallR _ (.type "tuple") (rTupOf K) from call_tuple_of) (by rfl) T.tuple (by decide +kernel) (pa_cons (pv 3) pa_nil)) pa_nil))))))))))), ?_⟩
    have wo := wok_split (y := NL) so zl
    have s4 : 40002 ≤ sizeLine := by decide
    refine ⟨_, rfl, _, _, _, _, _, rfl, .ty _, .base (.str z), kit_ty (r := true) (by decide +kernel), _, rfl, iteF ?_⟩
    dsimp only [tNext]
    refine ⟨(by show 0 ≤ sizeLine; decide), fun A1 h1 => ⟨(by show 0 ≤ sizeLine; decide), fun A2 h2 => ⟨_, _, rfl, ?_⟩⟩⟩
    have n12 : A2 ≠ A1 := fun e => by rw [e, upd_same] at h2; cases h2
    have f2 : H A2 = none := by rw [upd_ne n12] at h2; exact h2
    have s1 := (same_new (H := H) (o := .lst []) h1).trans (same_new (o := .lst []) h2)
    have hA1 : upd (upd H A1 (.lst [])) A2 (.lst []) A1 = some (.lst []) := by rw [upd_ne n12.symm, upd_same]
    have hA2 := upd_same (H := upd H A1 (.lst [])) (a := A2) (o := .lst [])
    generalize upd (upd H A1 (.lst [])) A2 (.lst []) = H1 at s1 hA1 hA2 ⊢
    dsimp only
    have big : ∀ n : Nat, n ≤ 100 → n < sizeLine := fun n hn => Nat.lt_of_le_of_lt hn (by decide)
    refine ⟨_, rfl, ⟨_, rfl⟩, _, _, rfl, rfl, by decide, by omega, fun LL hLL => ⟨LL, rfl, ⟨_, SqL.of upd_same⟩, ?_⟩⟩
    have e0 : Txt.split z (Str.ofString "\n") = Txt.split z NL := rfl
    rw [e0]
    have s2 := s1.trans (same_new (o := .lst ((Txt.split z NL).map V.str)) hLL)
    have nL1 : LL ≠ A1 := (ne_of_none hA1 hLL).symm
    have nL2 : LL ≠ A2 := (ne_of_none hA2 hLL).symm
    have hA1 := same_new (o := .lst ((Txt.split z NL).map V.str)) hLL _ _ hA1
    have hA2 := same_new (o := .lst ((Txt.split z NL).map V.str)) hLL _ _ hA2
    have hLs := upd_same (H := H1) (a := LL) (o := .lst ((Txt.split z NL).map V.str))
    generalize upd H1 LL (.lst ((Txt.split z NL).map V.str)) = H2 at s2 hA1 hA2 hLs ⊢
    generalize Txt.split z NL = ls at *
    refine for_list (K := K) (a := LL) (xs := ls.map V.str) (fun i σ' H' => ∃ (kv rv : List V) (ks : List Kd) (rs : List R3) (x4 x5 x6 : Option V), σ' = [some (.ref CU), some (.str z), some (.ref A1), some (.ref A2), x4, x5, x6] ∧ Same H H' ∧ H' LL = some (.lst (ls.map V.str)) ∧ H' A1 = some (.lst kv) ∧ H' A2 = some (.lst rv) ∧
      KindsAt K C H' kv ks ∧ RowsAt CR H' rv rs ∧ readL (ls.drop i) ks rs = some (ksF, rsF) ∧ kv.length ≤ i ∧ rv.length ≤ i) ?_ ?_ ?_ ?_
    · exact ⟨[], [], [], [], none, none, none, rfl, s2, hLs, hA1, hA2, .nil, .nil, rd, Nat.le_refl _, Nat.le_refl _⟩
    · rintro i σ' H' _ ⟨kv, rv, ks, rs, x4, x5, x6, _, _, h, _⟩
      exact SqL.of h
    · rintro i x σ' H3 hx ⟨kv, rv, ks, rs, x4, x5, x6, rfl, s3, hL3, h13, h23, ak, ar, rd3, l1, l2⟩
      rw [List.getElem?_map] at hx
      cases hy : ls[i]? with
      | none => rw [hy] at hx; cases hx
      | some y =>
      rw [hy] at hx
      cases hx
      have il : i < ls.length := (List.getElem?_eq_some_iff.mp hy).1
      have ey : ls[i] = y := (List.getElem?_eq_some_iff.mp hy).2
      obtain ⟨so1, yl⟩ := wo y (ey ▸ List.getElem_mem il)
      have rr : readL (ls.drop i) ks rs = match (if rs.isEmpty = true then readK y else none), readR y with
          | some k, _ => readL (ls.drop (i + 1)) (ks ++ [k]) rs
          | none, some r => readL (ls.drop (i + 1)) ks (rs ++ [r])
          | none, none => none := by
        rw [List.drop_eq_getElem_cons il, ey]
        rfl
      rw [rr] at rd3
      have le := ar.len
      have i100 : i ≤ 100 := by omega
      dsimp only [gName]
      refine join_asg (fun v H' => Same H3 H' ∧ ((v = .non ∧ (if rs.isEmpty = true then readK y else none) = none) ∨ ∃ a k, v = .ref a ∧ (if rs.isEmpty = true then readK y else none) = some k ∧ KindAt K C H' a k)) (fun Q' fin => ?_) ?_
      · refine ⟨_, rfl, (by show 0 ≤ sizeLine; decide), fun e he => ⟨A2, e, rv, rfl, rfl, .inl ⟨SqL.of (same_new he _ _ h23), SqL.of upd_same⟩, _, rfl, ?_⟩⟩
        have se := same_new (H := H3) (o := .lst []) he
        have er : rv.isEmpty = rs.isEmpty := by
          cases rv <;> cases rs <;> simp at le <;> rfl
        rw [er]
        cases hr : rs.isEmpty with
        | true =>
          refine iteT ⟨_, rfl, y, rfl, so1, yl, fun e1 H' s' => fin _ _ ⟨se.trans s', .inl ⟨rfl, ?_⟩⟩, fun k e1 okk a H' ha s' hk => fin _ _ ⟨se.trans s', .inr ⟨a, k, rfl, ?_, hk⟩⟩⟩
          · rw [hr]
            exact e1
          · rw [hr]
            exact e1
        | false =>
          refine iteF (fin _ _ ⟨se, .inl ⟨rfl, ?_⟩⟩)
          rw [hr]
          rfl
      rintro v H4 ⟨s4, hv⟩
      dsimp only [gName]
      refine join_asg (fun u H' => Same H4 H' ∧ ((u = .non ∧ readR y = none) ∨ ∃ a r, u = .ref a ∧ readR y = some r ∧ RowAt CR H' a r.1 r.2.1 r.2.2)) (fun Q' fin => ?_) ?_
      · exact ⟨_, rfl, y, rfl, yl, fun e1 H' s' => fin _ _ ⟨s', .inl ⟨rfl, e1⟩⟩, fun o i m e1 okr a H' ha s' hk => fin _ _ ⟨s', .inr ⟨a, (o, i, m), rfl, e1, hk⟩⟩⟩
      rintro u H5 ⟨s5, hu⟩
      dsimp only [gName]
      have s35 := s4.trans s5
      have h15 := s35 _ _ h13
      have h25 := s35 _ _ h23
      have hL5 := s35 _ _ hL3
      have ak5 := ak.same s35
      have ar5 := ar.same s35
      rcases hv with ⟨rfl, ek⟩ | ⟨a, k, rfl, ek, hk⟩
      · rw [ek] at rd3
        rcases hu with ⟨rfl, eu⟩ | ⟨b, r, rfl, eu, hb⟩
        · rw [eu] at rd3
          cases rd3
        · rw [eu] at rd3
          refine ⟨_, rfl, rfl, _, rfl, ifT rfl ⟨_, rfl, rfl, _, rfl, ifF (by intro q; cases q) ?_⟩⟩
          refine ⟨_, rfl, rfl, _, rfl, ifT rfl ?_⟩
          refine ⟨_, rfl, .inl ⟨rfl, _, SqL.of h25⟩, _, rfl, A2, _, _, rfl, rfl, h25, big _ (by omega), ?_⟩
          have no := Nol.lst (ys := rv ++ [.ref b]) h25
          refine ⟨kv, rv ++ [.ref b], ks, rs ++ [r], _, _, _, rfl, fun c o e => ?_, ?_, ?_, upd_same, ak5.nol no, All2.snoc ⟨b, rfl, ?_⟩ (ar5.nol no), rd3, by omega, by simp; omega⟩
          · rw [upd_ne (ne_of_none e f2)]
            exact s35 _ _ (s3 _ _ e)
          · rw [upd_ne nL2]
            exact hL5
          · rw [upd_ne n12.symm]
            exact h15
          · obtain ⟨dx, pt, q1, q2⟩ := hb
            exact ⟨dx, pt, no _ _ q1 (by intro xs q; cases q), no _ _ q2 (by intro xs q; cases q)⟩
      · rw [ek] at rd3
        refine ⟨_, rfl, rfl, _, rfl, ifF (by intro q; cases q) (iteF ?_)⟩
        refine ⟨_, rfl, rfl, _, rfl, ifF (by intro q; cases q) ?_⟩
        refine ⟨_, rfl, .inl ⟨rfl, _, SqL.of h15⟩, _, rfl, A1, _, _, rfl, rfl, h15, big _ (by omega), ?_⟩
        have no := Nol.lst (ys := kv ++ [.ref a]) h15
        refine ⟨kv ++ [.ref a], rv, ks ++ [k], rs, _, _, _, rfl, fun c o e => ?_, ?_, upd_same, ?_, All2.snoc ⟨a, rfl, (hk.same s5).nol no⟩ (ak5.nol no), ar5.nol no, rd3, by simp; omega, by omega⟩
        · rw [upd_ne (ne_of_none e h1)]
          exact s35 _ _ (s3 _ _ e)
        · rw [upd_ne nL1]
          exact hL5
        · rw [upd_ne n12]
          exact h25
    · rintro σ' H3 ⟨kv, rv, ks, rs, x4, x5, x6, rfl, s3, hL3, h13, h23, ak, ar, rd3, l1, l2⟩
      rw [List.length_map, List.drop_of_length_le (Nat.le_refl _)] at rd3
      have rd3 : some (ks, rs) = some (ksF, rsF) := rd3
      cases rd3
      refine ⟨rfl, _, rfl, A1, kv, rfl, .inl ⟨SqL.of h13, fun t1 ht1 => ?_⟩⟩
      have q1 := same_new (o := .tup kv) ht1
      refine ⟨_, rfl, A2, rv, rfl, .inl ⟨SqL.of (q1 _ _ h23), fun t2 ht2 => ?_⟩⟩
      have q2 := q1.trans (same_new (o := .tup rv) ht2)
      have ht1' := same_new (o := .tup rv) ht2 _ _ (upd_same (H := H3) (a := t1) (o := .tup kv))
      have ht2' := upd_same (H := upd H3 t1 (.tup kv)) (a := t2) (o := .tup rv)
      generalize upd (upd H3 t1 (.tup kv)) t2 (.tup rv) = H4 at q2 ht1' ht2' ⊢
      intro x dx nx ndx nex
      have sx : Same H4 (upd (upd H4 dx (.own x)) x (.ins CU dx [])) := fun b o e => by
        rw [upd_ne (ne_of_none e nx), upd_ne (ne_of_none e ndx)]
        exact e
      refine ⟨x, dx, t1, t2, kv, rv, _, _, rfl, sx _ _ ht1', sx _ _ ht2', (ak.same q2).same sx, (ar.same q2).same sx, ok, okr, r36, upd_same, by rw [upd_ne nex, upd_same], nex, fun H' keep hk => ⟨rfl, ?_⟩⟩
      have sf := (s3.trans q2).trans (Same.made nx ndx fun b o e n => keep b o n e)
      exact ret x _ ((s3.trans q2).free nx) sf hk
end L

namespace Hv
open PySem L2 TL
def noBad (p : Str) : Bool := p.cps.toList.all fun c => decide (c ≠ 32) && (decide (c ≠ 10) && decide (c < 128))
theorem noBad_iff {p : Str} (h : noBad p = true) : ∀ c ∈ tl p, c ≠ 32 ∧ c ≠ 10 ∧ c < 128 := fun c hc => by
  have := List.all_eq_true.mp h c hc
  simpa using this
theorem noBad_of {p : Str} (h : ∀ c ∈ tl p, c ≠ 32 ∧ c ≠ 10 ∧ c < 128) : noBad p = true := by
  unfold noBad
  rw [List.all_eq_true]
  intro c hc
  have := h c hc
  simp [this]
def bwTab (z : Str) : Bool := match bw z with
  | [f] => decide (f = z) && (!decide (f = Str.ofString "over") && ((numOf f 9).isNone && noBad f))
  | [o, f] => decide (o = Str.ofString "over") && (noBad f && noBad o)
  | _ => false
theorem bwTab_ok : BL.all bwTab = true := by decide +kernel
theorem over_num : numOf (Str.ofString "over") 9 = none := by decide +kernel
theorem bw_cases {z : Str} (h : BT z) : (bw z = [z] ∧ z ≠ Str.ofString "over" ∧ numOf z 9 = none ∧ noBad z = true) ∨ ∃ f, bw z = [Str.ofString "over", f] ∧ noBad f = true := by
  have q := List.all_eq_true.mp bwTab_ok z (frac_mem h.2)
  unfold bwTab at q
  split at q
  · rename_i f e
    simp only [Bool.and_eq_true, decide_eq_true_eq, Bool.not_eq_true', decide_eq_false_iff_not, Option.isNone_iff_eq_none] at q
    obtain ⟨rfl, q2, q3, q4⟩ := q
    exact .inl ⟨e, q2, q3, q4⟩
  · rename_i o f e
    simp only [Bool.and_eq_true, decide_eq_true_eq] at q
    obtain ⟨rfl, q2, q3⟩ := q
    exact .inr ⟨f, e, q2⟩
  · cases q
theorem take_app (a b : List Str) : (a ++ b).take a.length = a := by simp
theorem num_text {i : Int} (h0 : 0 ≤ i) : num i = text i.toNat := by
  obtain ⟨n, rfl⟩ := Int.eq_ofNat_of_zero_le h0
  rfl
theorem afterNum_hit {i : Int} {rest : List Str} (marks : List Str) {most : Nat} (h0 : 0 ≤ i) (h1 : i ≤ most) (hm : most ≤ 12) : afterNum (marks ++ (num i :: rest)) marks most = (some i.toNat, rest) := by
  have g : (marks ++ (num i :: rest)).getD marks.length Str.empty = num i := by simp
  unfold afterNum
  rw [if_pos ⟨take_app _ _, by simp⟩, g, numOf_of hm (n := i.toNat) (by omega) (num_text h0).symm]
  simp
theorem afterNum_num {w : Str} {rest : List Str} (marks : List Str) {most : Nat} (h : numOf w most = none) : afterNum (marks ++ (w :: rest)) marks most = (none, marks ++ (w :: rest)) := by
  have g : (marks ++ (w :: rest)).getD marks.length Str.empty = w := by simp
  unfold afterNum
  rw [if_pos ⟨take_app _ _, by simp⟩, g, h]
theorem head_take {ws marks : List Str} (h : ws.head? ≠ marks.head?) (hm : marks ≠ []) : ws.take marks.length ≠ marks := by
  intro e
  cases marks with
  | nil => exact hm rfl
  | cons m l =>
    cases ws with
    | nil => cases e
    | cons w r =>
      rw [List.length_cons, List.take_succ_cons] at e
      injection e with e1 e2
      exact h (by rw [e1]; rfl)
theorem afterNum_no {ws marks : List Str} {most : Nat} (h : ws.head? ≠ marks.head?) (hm : marks ≠ []) : afterNum ws marks most = (none, ws) := by
  unfold afterNum
  rw [if_neg (fun z => head_take h hm z.1)]
theorem afterBd_no {ws marks : List Str} (h : ws.head? ≠ marks.head?) (hm : marks ≠ []) : afterBd ws marks = (none, ws) := by
  unfold afterBd
  rw [if_neg (fun z => head_take h hm z.1)]
theorem afterBd_hit {z : Str} {rest : List Str} (marks : List Str) (h : BT z) : afterBd (marks ++ (bw z ++ rest)) marks = (some z, rest) := by
  have d : (marks ++ (bw z ++ rest)).drop marks.length = bw z ++ rest := by simp
  have m : moreOf (marks ++ (bw z ++ rest)) marks.length = (bw z).length := by
    unfold moreOf
    rw [d]
    rcases bw_cases h with ⟨e, n, _⟩ | ⟨f, e, _⟩
    · rw [e, if_neg (by simpa using n)]
      rfl
    · rw [e, if_pos (by simp)]
      rfl
  have b : bdOf (marks ++ (bw z ++ rest)) marks.length = z := by
    unfold bdOf
    rw [m, d, List.take_left, joinB_bw]
  unfold afterBd
  rw [b, if_pos ⟨take_app _ _, h.2⟩, m, ← List.drop_drop, d]
  simp
theorem head_eW (e : Option Str) : (eW e).head? = none ∨ (eW e).head? = some (Str.ofString "ends") := by
  cases e with
  | none => exact .inl rfl
  | some z => exact .inr rfl
theorem head_cW (c : Option (Int × Str)) (e : Option Str) : (cW c ++ eW e).head? = none ∨ (cW c ++ eW e).head? = some (Str.ofString "closed") ∨ (cW c ++ eW e).head? = some (Str.ofString "ends") := by
  cases c with
  | none => exact (head_eW e).imp id .inr
  | some p => exact .inr (.inl rfl)
theorem head_nW (n : V) (c : Option (Int × Str)) (e : Option Str) : (nW n ++ (cW c ++ eW e)).head? = none ∨ (nW n ++ (cW c ++ eW e)).head? = some (Str.ofString "needs") ∨ (nW n ++ (cW c ++ eW e)).head? = some (Str.ofString "closed") ∨ (nW n ++ (cW c ++ eW e)).head? = some (Str.ofString "ends") := by
  have q := head_cW c e
  cases n with
  | int i =>
    show ((if 1 < i then [Str.ofString "needs", num i] else []) ++ (cW c ++ eW e)).head? = none ∨ _
    by_cases h : 1 < i
    · rw [show nW (.int i) = [Str.ofString "needs", num i] from if_pos h, if_pos h]
      exact .inr (.inl rfl)
    · rw [show nW (.int i) = [] from if_neg h, if_neg h, List.nil_append]
      exact q.imp id .inr
  | str z => exact .inr (.inl rfl)
  | _ => exact q.imp id .inr
theorem ne_words : Str.ofString "ends" ≠ Str.ofString "by" ∧ Str.ofString "ends" ≠ Str.ofString "closed" ∧ Str.ofString "closed" ≠ Str.ofString "needs" ∧ Str.ofString "ends" ≠ Str.ofString "needs" ∧ Str.ofString "needs" ≠ Str.ofString "talks" ∧ Str.ofString "closed" ≠ Str.ofString "talks" ∧ Str.ofString "ends" ≠ Str.ofString "talks" := by decide +kernel
def tailP (tt : Option Nat) (nd : V) (l : List Str) : Parse :=
  let a := afterNum l [Str.ofString "closed", Str.ofString "after"] 3
  let b := afterBd a.2 [Str.ofString "by"]
  let l4 := if (closOf a.1 b.1).isSome = true then b.2 else l
  let e := afterBd l4 [Str.ofString "ends", Str.ofString "by"]
  ⟨tt, nd, closOf a.1 b.1, e.1, e.2⟩
def headP (l1 : List Str) : V × List Str :=
  let n := afterNum l1 [Str.ofString "needs"] 9
  let nb := if n.1.isNone = true then afterBd n.2 [Str.ofString "needs"] else (none, n.2)
  (needsOf n.1 nb.1, nb.2)
theorem parse_eq (l : List Str) : parseK l = tailP (afterNum l [Str.ofString "talks"] 3).1 (headP (afterNum l [Str.ofString "talks"] 3).2).1 (headP (afterNum l [Str.ofString "talks"] 3).2).2 := rfl
theorem headP_none {l : List Str} (h : afterNum l [Str.ofString "needs"] 9 = (none, l)) : headP l = (endsV (afterBd l [Str.ofString "needs"]).1, (afterBd l [Str.ofString "needs"]).2) := by
  unfold headP
  rw [h]
  rfl
theorem headP_some {l l' : List Str} {i : Nat} (h : afterNum l [Str.ofString "needs"] 9 = (some i, l')) : headP l = (.int (i : Int), l') := by
  unfold headP
  rw [h]
  rfl
theorem tailP_none {l : List Str} {tt : Option Nat} {nd : V} (a : afterNum l [Str.ofString "closed", Str.ofString "after"] 3 = (none, l)) (b : afterBd l [Str.ofString "by"] = (none, l)) : tailP tt nd l = ⟨tt, nd, none, (afterBd l [Str.ofString "ends", Str.ofString "by"]).1, (afterBd l [Str.ofString "ends", Str.ofString "by"]).2⟩ := by
  unfold tailP
  dsimp only
  rw [a]
  dsimp only
  rw [b]
  rfl
theorem tailP_some {l l1 l2 : List Str} {tt : Option Nat} {nd : V} {i : Nat} {z : Str} (a : afterNum l [Str.ofString "closed", Str.ofString "after"] 3 = (some i, l1)) (b : afterBd l1 [Str.ofString "by"] = (some z, l2)) : tailP tt nd l = ⟨tt, nd, some ((i : Int), z), (afterBd l2 [Str.ofString "ends", Str.ofString "by"]).1, (afterBd l2 [Str.ofString "ends", Str.ofString "by"]).2⟩ := by
  unfold tailP
  dsimp only
  rw [a]
  dsimp only
  rw [b]
  rfl
theorem end_ok {e : Option Str} (h : ∀ z, e = some z → BT z) : afterBd (eW e) [Str.ofString "ends", Str.ofString "by"] = (e, []) := by
  cases e with
  | none => exact afterBd_no (by simp [eW]) (by simp)
  | some z =>
    have := afterBd_hit (rest := []) [Str.ofString "ends", Str.ofString "by"] (h z rfl)
    rw [List.append_nil] at this
    exact this
theorem tail_ok {k : Kd} (ok : k.Ok) (tt : Option Nat) (nd : V) : tailP tt nd (cW k.closing ++ eW k.ends) = ⟨tt, nd, k.closing, k.ends, []⟩ := by
  obtain ⟨w1, w2, w3, w4, w5, w6, w7⟩ := ne_words
  have en := end_ok (e := k.ends) ok.ends
  cases e : k.closing with
  | none =>
    have a : afterNum (eW k.ends) [Str.ofString "closed", Str.ofString "after"] 3 = (none, eW k.ends) := by
      refine afterNum_no ?_ (by simp)
      rcases head_eW k.ends with q | q <;> rw [q] <;> simp <;> assumption
    have b : afterBd (eW k.ends) [Str.ofString "by"] = (none, eW k.ends) := by
      refine afterBd_no ?_ (by simp)
      rcases head_eW k.ends with q | q <;> rw [q] <;> simp <;> assumption
    have c0 : cW none ++ eW k.ends = eW k.ends := rfl
    rw [c0, tailP_none a b, en]
  | some p =>
    obtain ⟨i, z⟩ := p
    obtain ⟨i0, i3, bz⟩ := ok.closing i z e
    have c0 : cW (some (i, z)) ++ eW k.ends = [Str.ofString "closed", Str.ofString "after"] ++ (num i :: ([Str.ofString "by"] ++ (bw z ++ eW k.ends))) := rfl
    have a := afterNum_hit (rest := [Str.ofString "by"] ++ (bw z ++ eW k.ends)) [Str.ofString "closed", Str.ofString "after"] (most := 3) i0 i3 (by decide)
    have b := afterBd_hit (rest := eW k.ends) [Str.ofString "by"] bz
    rw [c0, tailP_some a b, en, Int.toNat_of_nonneg i0]
theorem needs_ok {k : Kd} (ok : k.Ok) : headP (nW k.needs ++ (cW k.closing ++ eW k.ends)) = (if k.needs = .int 1 then .non else k.needs, cW k.closing ++ eW k.ends) := by
  obtain ⟨w1, w2, w3, w4, w5, w6, w7⟩ := ne_words
  have hh : (cW k.closing ++ eW k.ends).head? ≠ [Str.ofString "needs"].head? := by
    rcases head_cW k.closing k.ends with q | q | q <;> rw [q] <;> simp <;> assumption
  generalize cW k.closing ++ eW k.ends = R at hh ⊢
  rcases ok.needs with ⟨i, e, i1, i9⟩ | ⟨z, e, bz⟩
  · by_cases h : 1 < i
    · have r : (if k.needs = .int 1 then V.non else k.needs) = .int i := by
        rw [e]
        exact if_neg (by intro q; have := V.int.inj q; omega)
      have e1 : nW k.needs ++ R = [Str.ofString "needs"] ++ (num i :: R) := by
        rw [e, show nW (.int i) = [Str.ofString "needs", num i] from if_pos h]
        rfl
      rw [r, e1, headP_some (afterNum_hit [Str.ofString "needs"] (i := i) (by omega) (by omega) (by decide)), Int.toNat_of_nonneg (by omega)]
    · have e1 : i = 1 := by omega
      subst e1
      have r : (if k.needs = .int 1 then V.non else k.needs) = .non := if_pos e
      have e0 : nW k.needs = [] := by
        rw [e]
        rfl
      rw [r, e0, List.nil_append, headP_none (afterNum_no hh (by simp)), afterBd_no hh (by simp)]
      rfl
  · have e0 : nW k.needs ++ R = [Str.ofString "needs"] ++ (bw z ++ R) := by
      rw [e]
      rfl
    have r : (if k.needs = .int 1 then V.non else k.needs) = .str z := by
      rw [e]
      exact if_neg (by intro q; cases q)
    have n : afterNum ([Str.ofString "needs"] ++ (bw z ++ R)) [Str.ofString "needs"] 9 = (none, [Str.ofString "needs"] ++ (bw z ++ R)) := by
      rcases bw_cases bz with ⟨q, _, q2, _⟩ | ⟨f, q, _⟩
      · rw [q]
        exact afterNum_num [Str.ofString "needs"] q2
      · rw [q]
        exact afterNum_num [Str.ofString "needs"] over_num
    rw [r, e0, headP_none n, afterBd_hit [Str.ofString "needs"] bz]
    rfl
theorem parse_ok {k : Kd} (ok : k.Ok) : parseK (tW k.talks ++ (nW k.needs ++ (cW k.closing ++ eW k.ends))) = ⟨if 0 < k.talks then some k.talks.toNat else none, if k.needs = .int 1 then .non else k.needs, k.closing, k.ends, []⟩ := by
  obtain ⟨w1, w2, w3, w4, w5, w6, w7⟩ := ne_words
  have hd := needs_ok ok
  have tl := tail_ok ok
  have hh := head_nW k.needs k.closing k.ends
  generalize nW k.needs ++ (cW k.closing ++ eW k.ends) = R1 at hd hh ⊢
  have t : afterNum (tW k.talks ++ R1) [Str.ofString "talks"] 3 = (if 0 < k.talks then some k.talks.toNat else none, R1) := by
    unfold tW
    by_cases h : 0 < k.talks
    · rw [if_pos h, if_pos h]
      exact afterNum_hit [Str.ofString "talks"] ok.talks.1 ok.talks.2 (by decide)
    · rw [if_neg h, if_neg h, List.nil_append]
      refine afterNum_no ?_ (by simp)
      rcases hh with q | q | q | q <;> rw [q] <;> simp <;> assumption
  rw [parse_eq, t]
  dsimp only
  rw [hd]
  exact tl _ _
theorem word_bad : noBad (Str.ofString "motion") = true ∧ noBad (Str.ofString "talks") = true ∧ noBad (Str.ofString "needs") = true ∧ noBad (Str.ofString "closed") = true ∧ noBad (Str.ofString "after") = true ∧ noBad (Str.ofString "by") = true ∧ noBad (Str.ofString "ends") = true ∧ noBad (Str.ofString "over") = true ∧ noBad (Str.ofString "under") = true := by decide +kernel
theorem text_bad : ∀ n < 13, noBad (text n) = true := by decide +kernel
theorem name_bad {z : Str} (h : nameOk z = true) : noBad z = true := noBad_of fun c hc => by
  have := name_signs h c hc
  exact ⟨this.2.1, this.2.2, this.1⟩
theorem num_bad {i : Int} (h0 : 0 ≤ i) (h : i ≤ 12) : noBad (num i) = true := by
  rw [num_text h0]
  exact text_bad _ (by omega)
theorem bw_bad {z : Str} (h : BT z) : ∀ p ∈ bw z, noBad p = true := by
  obtain ⟨_, _, _, _, _, _, _, o, _⟩ := word_bad
  intro p hp
  rcases bw_cases h with ⟨e, _, _, b⟩ | ⟨f, e, b⟩
  · rw [e] at hp
    rw [List.mem_singleton.mp hp]
    exact b
  · rw [e] at hp
    rcases List.mem_cons.mp hp with rfl | hp
    · exact o
    · rw [List.mem_singleton.mp hp]
      exact b
theorem kwords_bad {k : Kd} (ok : k.Ok) : ∀ p ∈ kwords k, noBad p = true := by
  obtain ⟨b1, b2, b3, b4, b5, b6, b7, _, _⟩ := word_bad
  intro p hp
  unfold kwords at hp
  simp only [List.mem_append, List.mem_cons, List.not_mem_nil, or_false] at hp
  rcases hp with (rfl | rfl) | hp | hp | hp | hp
  · exact b1
  · exact name_bad ok.name
  · unfold tW at hp
    split at hp
    · simp only [List.mem_cons, List.not_mem_nil, or_false] at hp
      rcases hp with rfl | rfl
      · exact b2
      · exact num_bad ok.talks.1 (Int.le_trans ok.talks.2 (by decide))
    · cases hp
  · rcases ok.needs with ⟨i, e, i1, i9⟩ | ⟨z, e, bz⟩
    · rw [e] at hp
      have hp : p ∈ (if 1 < i then [Str.ofString "needs", num i] else []) := hp
      split at hp
      · simp only [List.mem_cons, List.not_mem_nil, or_false] at hp
        rcases hp with rfl | rfl
        · exact b3
        · exact num_bad (by omega) (by omega)
      · cases hp
    · rw [e] at hp
      have hp : p ∈ Str.ofString "needs" :: bw z := hp
      rcases List.mem_cons.mp hp with rfl | hp
      · exact b3
      · exact bw_bad bz p hp
  · cases e : k.closing with
    | none => rw [e] at hp; cases hp
    | some q =>
      obtain ⟨i, z⟩ := q
      obtain ⟨i0, i3, bz⟩ := ok.closing i z e
      rw [e] at hp
      have hp : p ∈ [Str.ofString "closed", Str.ofString "after", num i, Str.ofString "by"] ++ bw z := hp
      simp only [List.mem_append, List.mem_cons, List.not_mem_nil, or_false] at hp
      rcases hp with (rfl | rfl | rfl | rfl) | hp
      · exact b4
      · exact b5
      · exact num_bad i0 (by omega)
      · exact b6
      · exact bw_bad bz p hp
  · cases e : k.ends with
    | none => rw [e] at hp; cases hp
    | some z =>
      rw [e] at hp
      have hp : p ∈ [Str.ofString "ends", Str.ofString "by"] ++ bw z := hp
      simp only [List.mem_append, List.mem_cons, List.not_mem_nil, or_false] at hp
      rcases hp with (rfl | rfl) | hp
      · exact b7
      · exact b6
      · exact bw_bad (ok.ends z e) p hp
theorem kwords_ne (k : Kd) : kwords k ≠ [] := by simp [kwords]
theorem bw_lineK {k : Kd} (ok : k.Ok) : bw (lineK k) = kwords k := bw_join (kwords_ne k) fun p hp h => (noBad_iff (kwords_bad ok p hp) 32 h).1 rfl
/-- the line of a kind, read -/
theorem readK_line {k : Kd} (ok : k.Ok) : readK (lineK k) = some k := by
  have pk := parse_ok ok
  have n0 : (if k.needs = .int 1 then V.non else k.needs) ≠ .int 0 := by
    rcases ok.needs with ⟨i, e, i1, i9⟩ | ⟨z, e, bz⟩
    · rw [e]
      split
      · intro q; cases q
      · intro q; cases q; omega
    · rw [e]
      rw [if_neg (by intro q; cases q)]
      intro q
      cases q
  have mk : mkK k.name (parseK (tW k.talks ++ (nW k.needs ++ (cW k.closing ++ eW k.ends)))) = k := by
    rw [pk]
    obtain ⟨name, talks, needs, closing, ends⟩ := k
    unfold mkK
    congr 1
    · show (((if 0 < talks then some talks.toNat else none).getD 0 : Nat) : Int) = talks
      have := ok.talks.1
      dsimp only at this
      split
      · simp
        omega
      · simp
        omega
    · show (if (if needs = .int 1 then V.non else needs) = .non then V.int 1 else if needs = .int 1 then .non else needs) = needs
      by_cases h : needs = .int 1
      · rw [if_pos h, if_pos rfl, h]
      · rw [if_neg h]
        refine if_neg fun q => ?_
        rcases ok.needs with ⟨i, e, _⟩ | ⟨z, e, _⟩
        · have e : needs = .int i := e
          rw [e] at q
          cases q
        · have e : needs = .str z := e
          rw [e] at q
          cases q
  unfold readK
  rw [bw_lineK ok]
  show (if Str.ofString "motion" = Str.ofString "motion" ∧ nameOk k.name = true then (if (parseK (tW k.talks ++ (nW k.needs ++ (cW k.closing ++ eW k.ends)))).left ≠ [] ∨ (parseK (tW k.talks ++ (nW k.needs ++ (cW k.closing ++ eW k.ends)))).needs = .int 0 then none else
    if lineK (mkK k.name (parseK (tW k.talks ++ (nW k.needs ++ (cW k.closing ++ eW k.ends))))) = lineK k then some (mkK k.name (parseK (tW k.talks ++ (nW k.needs ++ (cW k.closing ++ eW k.ends))))) else none) else none) = _
  rw [mk, if_pos ⟨rfl, ok.name⟩, pk, if_neg, if_pos rfl]
  rintro (h | h)
  · exact h rfl
  · exact n0 h
end Hv

namespace Hv
open PySem L2 TL
theorem lineR_split {o i m : Str} (h : RowOk o i m) : Txt.splitMax (lineR o i m) BLANK 3 = [Str.ofString "under", o, i, m] := by
  obtain ⟨_, _, _, _, _, _, _, _, u⟩ := word_bad
  have e : lineR o i m = Str.ofString "under" ++ (BLANK ++ (o ++ (BLANK ++ (i ++ (BLANK ++ m))))) := by
    unfold lineR
    rw [joinB_cons, joinB_cons, joinB_cons, joinB_one]
  rw [e]
  exact splitB_four (fun q => (noBad_iff u 32 q).1 rfl) (fun q => (noBad_iff (name_bad h.oOk) 32 q).1 rfl) (fun q => (noBad_iff (name_bad h.iOk) 32 q).1 rfl)
/-- the line of a row, read -/
theorem readR_line {o i m : Str} (h : RowOk o i m) : readR (lineR o i m) = some (o, i, m) := by
  unfold readR
  rw [lineR_split h]
  exact if_pos ⟨rfl, h.oOk, h.iOk, h.mOk⟩
theorem under_motion : Str.ofString "under" ≠ Str.ofString "motion" := by decide +kernel
theorem bw_lineR {o i m : Str} (h : RowOk o i m) : ∃ r, bw (lineR o i m) = Str.ofString "under" :: r := by
  obtain ⟨_, _, _, _, _, _, _, _, u⟩ := word_bad
  have e : lineR o i m = joinB ([Str.ofString "under", o, i] ++ bw m) := by
    unfold lineR
    rw [joinB_app (by simp) (bw_ne m), joinB_bw]
    rw [joinB_cons, joinB_cons, joinB_cons, joinB_one, joinB_cons, joinB_cons, joinB_one]
    simp only [app_assoc]
  have mb : ∀ p ∈ bw m, 32 ∉ tl p := by
    intro p hp
    have := StrLaws.split_free m 32
    exact this p (by rw [← blank_mk]; exact hp)
  refine ⟨[o, i] ++ bw m, ?_⟩
  rw [e]
  refine bw_join (by simp) fun p hp q => ?_
  simp only [List.mem_append, List.mem_cons, List.not_mem_nil, or_false] at hp
  rcases hp with (rfl | rfl | rfl) | hp
  · exact (noBad_iff u 32 q).1 rfl
  · exact (noBad_iff (name_bad h.oOk) 32 q).1 rfl
  · exact (noBad_iff (name_bad h.iOk) 32 q).1 rfl
  · exact mb p hp q
theorem readK_row {o i m : Str} (h : RowOk o i m) : readK (lineR o i m) = none := by
  obtain ⟨r, e⟩ := bw_lineR h
  unfold readK
  rw [e]
  cases r with
  | nil => rfl
  | cons a r => exact if_neg fun q => under_motion q.1
theorem readL_rows {ks : List Kd} : ∀ (rs acc : List R3), (∀ r ∈ rs, RowOk r.1 r.2.1 r.2.2) → readL (rs.map fun r => lineR r.1 r.2.1 r.2.2) ks acc = some (ks, acc ++ rs)
  | [], acc, _ => by
    rw [List.append_nil]
    rfl
  | r :: rs, acc, h => by
    have h1 := h r List.mem_cons_self
    have ih := readL_rows (ks := ks) rs (acc ++ [r]) fun x hx => h x (List.mem_cons_of_mem _ hx)
    have e : (if acc.isEmpty = true then readK (lineR r.1 r.2.1 r.2.2) else none) = none := by
      rw [readK_row h1]
      split <;> rfl
    rw [List.map_cons, readL, e, readR_line h1]
    show readL (rs.map fun r => lineR r.1 r.2.1 r.2.2) ks (acc ++ [r]) = _
    rw [ih]
    simp
theorem readL_kinds {rs : List R3} (hr : ∀ r ∈ rs, RowOk r.1 r.2.1 r.2.2) : ∀ (ks acc : List Kd), (∀ k ∈ ks, k.Ok) → readL (ks.map lineK ++ rs.map fun r => lineR r.1 r.2.1 r.2.2) acc [] = some (acc ++ ks, rs)
  | [], acc, _ => by
    rw [List.map_nil, List.nil_append, readL_rows rs [] hr]
    simp
  | k :: ks, acc, h => by
    have h1 := h k List.mem_cons_self
    have ih := readL_kinds hr ks (acc ++ [k]) fun x hx => h x (List.mem_cons_of_mem _ hx)
    have e : (if ([] : List R3).isEmpty = true then readK (lineK k) else none) = some k := readK_line h1
    rw [List.map_cons, List.cons_append, readL, e]
    show readL (ks.map lineK ++ rs.map fun r => lineR r.1 r.2.1 r.2.2) (acc ++ [k]) [] = _
    rw [ih]
    simp
theorem amt_bad : ∀ z ∈ AMTS, ∀ c ∈ tl z, c ≠ 10 ∧ c < 128 := by decide +kernel
theorem joinB_signs {P : Nat → Prop} (hb : P 32) : ∀ {ws : List Str}, (∀ z ∈ ws, ∀ c ∈ tl z, P c) → ∀ c ∈ tl (joinB ws), P c
  | [], _ => by
    intro c hc
    rw [joinB_str] at hc
    cases hc
  | [a], h => by
    rw [joinB_one]
    exact h a List.mem_cons_self
  | a :: b :: l, h => by
    intro c hc
    rw [joinB_cons, tl_append, tl_append, blank_tl] at hc
    rcases List.mem_append.mp hc with q | q
    · exact h a List.mem_cons_self c q
    · rcases List.mem_append.mp q with q | q
      · rw [List.mem_singleton.mp q]
        exact hb
      · exact joinB_signs hb (fun z hz => h z (List.mem_cons_of_mem _ hz)) c q
theorem lineK_signs {k : Kd} (ok : k.Ok) : ∀ c ∈ tl (lineK k), c ≠ 10 ∧ c < 128 := joinB_signs ⟨by decide, by decide⟩ fun z hz c hc => by
  have := noBad_iff (kwords_bad ok z hz) c hc
  exact ⟨this.2.1, this.2.2⟩
theorem lineR_signs {o i m : Str} (h : RowOk o i m) : ∀ c ∈ tl (lineR o i m), c ≠ 10 ∧ c < 128 := by
  obtain ⟨_, _, _, _, _, _, _, _, u⟩ := word_bad
  refine joinB_signs ⟨by decide, by decide⟩ fun z hz c hc => ?_
  simp only [List.mem_cons, List.not_mem_nil, or_false] at hz
  rcases hz with rfl | rfl | rfl | rfl
  · have := noBad_iff u c hc
    exact ⟨this.2.1, this.2.2⟩
  · have := noBad_iff (name_bad h.oOk) c hc
    exact ⟨this.2.1, this.2.2⟩
  · have := noBad_iff (name_bad h.iOk) c hc
    exact ⟨this.2.1, this.2.2⟩
  · exact amt_bad _ (amount_mem h.mOk) c hc
theorem lines_signs {ks : List Kd} {rs : List R3} (hk : KindsOk ks) (hr : RowsOk ks rs) : ∀ z ∈ linesR ks rs, ∀ c ∈ tl z, c ≠ 10 ∧ c < 128 := by
  intro z hz
  unfold linesR at hz
  rcases List.mem_append.mp hz with hz | hz
  · obtain ⟨k, h, rfl⟩ := List.mem_map.mp hz
    exact lineK_signs (hk.ok k h)
  · obtain ⟨r, h, rfl⟩ := List.mem_map.mp hz
    exact lineR_signs (hr.ok r h).1
theorem nl_tl : tl NL = [10] := by decide +kernel
theorem split_text {ks : List Kd} {rs : List R3} (hk : KindsOk ks) (hr : RowsOk ks rs) : Txt.split (textR ks rs) NL = linesR ks rs := by
  refine split_join (S := []) nl_tl (by decide +kernel) ?_ fun z hz q => (lines_signs hk hr z hz 10 q).1 rfl
  have := hk.one
  unfold linesR
  cases ks with
  | nil => simp at this
  | cons k l => simp
/-- THE TEXT READ BACK -/
theorem read_text {ks : List Kd} {rs : List R3} (hk : KindsOk ks) (hr : RowsOk ks rs) : readL (Txt.split (textR ks rs) NL) [] [] = some (ks, rs) := by
  rw [split_text hk hr]
  have := readL_kinds (fun r h => (hr.ok r h).1) ks [] hk.ok
  rw [List.nil_append] at this
  exact this
theorem joinL_len (S : List Nat) : ∀ ps : List (List Nat), (joinL S ps).length ≤ (ps.map List.length).sum + ps.length * S.length
  | [] => by simp [joinL]
  | [p] => by simp [joinL]
  | p :: q :: r => by
    have ih := joinL_len S (q :: r)
    show (p ++ (S ++ joinL S (q :: r))).length ≤ _
    simp only [List.length_append, List.map_cons, List.sum_cons, List.length_cons, Nat.add_mul, Nat.succ_mul] at ih ⊢
    omega
theorem text_facts {ks : List Kd} {rs : List R3} (hk : KindsOk ks) (hr : RowsOk ks rs) (h36 : rs.length ≤ 36) : PyData.strOk (textR ks rs) = true ∧ (textR ks rs).length ≤ 40000 ∧ (Txt.split (textR ks rs) NL).length ≤ 100 := by
  have lc : (linesR ks rs).length ≤ 42 := by
    have := hk.six
    unfold linesR
    simp
    omega
  have ll := lines_len hk hr
  have et : tl (textR ks rs) = joinL [10] ((linesR ks rs).map tl) := by
    unfold textR
    rw [join_eq, tl_join, nl_tl]
  refine ⟨strOk_of fun c hc => ?_, ?_, ?_⟩
  · have sg := lines_signs hk hr
    have g : ∀ (ps : List (List Nat)), (∀ p ∈ ps, ∀ c ∈ p, c < 128) → ∀ c ∈ joinL [10] ps, c < 128 := by
      intro ps
      induction ps with
      | nil => intro _ c hc; cases hc
      | cons p r ih =>
        intro h c hc
        cases r with
        | nil => exact h p List.mem_cons_self c hc
        | cons q r =>
          have hc : c ∈ p ++ ([10] ++ joinL [10] (q :: r)) := hc
          rcases List.mem_append.mp hc with w | w
          · exact h p List.mem_cons_self c w
          · rcases List.mem_append.mp w with w | w
            · rw [List.mem_singleton.mp w]
              decide
            · exact ih (fun x hx => h x (List.mem_cons_of_mem _ hx)) c w
    have hc : c ∈ tl (textR ks rs) := hc
    rw [et] at hc
    refine g _ (fun p hp c hc => ?_) c hc
    obtain ⟨z, hz, rfl⟩ := List.mem_map.mp hp
    exact (sg z hz c hc).2
  · rw [TL.len_tl, et]
    have q := joinL_len [10] ((linesR ks rs).map tl)
    have q2 := sum_le (l := ((linesR ks rs).map tl).map List.length) (m := 150) fun x hx => by
      obtain ⟨p, hp, rfl⟩ := List.mem_map.mp hx
      obtain ⟨z, hz, rfl⟩ := List.mem_map.mp hp
      rw [← TL.len_tl]
      exact ll z hz
    simp only [List.length_map, List.length_cons, List.length_nil] at q q2
    omega
  · rw [split_text hk hr]
    omega
end Hv

namespace Hv
open PySem L2 TL
def ndV : Nd → V
  | .cnt n => .int n
  | .bd b => .str b.txt
def kdOf (s : Sr) : Kd := ⟨s.name, (s.talks : Int), ndV s.needs, s.closing.map fun p => ((p.1 : Int), p.2.txt), s.ends.map Bd.txt⟩
def amtOf (r : Rw) : Str := if 0 < r.num then r.word ++ BLANK ++ text r.num else r.word
def rowOf (ss : List Sr) (r : Rw) : R3 := ((ss.map (·.name)).getD r.o Str.empty, (ss.map (·.name)).getD r.i Str.empty, amtOf r)
structure SrOk (s : Sr) : Prop where
  name : nameOk s.name = true
  talks : s.talks ≤ 3
  cnt : ∀ n, s.needs = .cnt n → 1 ≤ n ∧ n ≤ 9
  bd : ∀ b, s.needs = .bd b → b.Ok
  cl : ∀ i b, s.closing = some (i, b) → i ≤ 3 ∧ b.Ok
  en : ∀ b, s.ends = some b → b.Ok
theorem SrAt.ok {H : Hp} {v : V} {s : Sr} (h : SrAt H v s) (hn : nameOk s.name = true) : SrOk s := by
  obtain ⟨h1, a, n, c, d, h2, h3, h4, h5, h6⟩ := h
  refine ⟨hn, h1, fun m e => ?_, fun b e => ?_, fun i b e => ?_, fun b e => ?_⟩
  · rw [e] at h4
    exact ⟨h4.1, h4.2.1⟩
  · rw [e] at h4
    exact h4.1
  · rw [e] at h5
    obtain ⟨q1, a, u, q2, q3, q4⟩ := h5
    exact ⟨q1, q4.1⟩
  · rw [e] at h6
    exact h6.1
theorem SrOk.kd {s : Sr} (h : SrOk s) : (kdOf s).Ok := by
  refine ⟨h.name, Nat.le_trans (name_len h.name) (by decide), ⟨by show (0 : Int) ≤ (s.talks : Int); omega, by show (s.talks : Int) ≤ 3; have := h.talks; omega⟩, ?_, ?_, ?_⟩
  · show (∃ i, ndV s.needs = .int i ∧ _) ∨ ∃ z, ndV s.needs = .str z ∧ _
    cases e : s.needs with
    | cnt n =>
      have := h.cnt n e
      exact .inl ⟨n, rfl, by omega, by omega⟩
    | bd b => exact .inr ⟨b.txt, rfl, Bd.bt (h.bd b e)⟩
  · intro i z e
    cases q : s.closing with
    | none =>
      have e : s.closing.map (fun p => ((p.1 : Int), p.2.txt)) = some (i, z) := e
      rw [q] at e
      cases e
    | some p =>
      have e : s.closing.map (fun p => ((p.1 : Int), p.2.txt)) = some (i, z) := e
      rw [q] at e
      cases e
      have := h.cl p.1 p.2 q
      exact ⟨by omega, by omega, Bd.bt this.2⟩
  · intro z e
    cases q : s.ends with
    | none =>
      have e : s.ends.map Bd.txt = some z := e
      rw [q] at e
      cases e
    | some b =>
      have e : s.ends.map Bd.txt = some z := e
      rw [q] at e
      cases e
      exact Bd.bt (h.en b q)
/-! the law's own words -/
def ltW (s : Sr) : List Str := if 0 < s.talks then [Str.ofString "talks", text s.talks] else []
def lnW : Nd → List Str
  | .cnt n => if n ≠ 1 then [Str.ofString "needs", text n] else []
  | .bd b => [Str.ofString "needs", b.txt]
def lcW : Option (Nat × Bd) → List Str
  | none => []
  | some (i, b) => [Str.ofString "closed after", text i, Str.ofString "by", b.txt]
def leW : Option Bd → List Str
  | none => []
  | some b => [Str.ofString "ends by", b.txt]
def lwords (s : Sr) : List Str := [Str.ofString "motion", s.name] ++ ltW s ++ lnW s.needs ++ lcW s.closing ++ leW s.ends
theorem join_like {X Y Z : List Str} (hx : X ≠ []) (e : joinB Y = joinB Z) (h : Y = [] ↔ Z = []) : joinB (X ++ Y) = joinB (X ++ Z) := by
  by_cases hy : Y = []
  · rw [hy, h.mp hy]
  · rw [joinB_app hx hy, joinB_app hx (fun q => hy (h.mpr q)), e]
theorem lwords_line {s : Sr} (ok : SrOk s) : joinB (lwords s) = lineK (kdOf s) := by
  have b1 : ∀ (X Y Z : List Str), joinB Y = joinB Z → (Y = [] ↔ Z = []) → X ≠ [] → joinB (X ++ Y) = joinB (X ++ Z) := fun X Y Z a b c => join_like c a b
  have t : ltW s = tW (kdOf s).talks := by
    unfold ltW tW
    show _ = (if (0 : Int) < (s.talks : Int) then [Str.ofString "talks", num s.talks] else [])
    by_cases h : 0 < s.talks
    · rw [if_pos h, if_pos (by omega)]
      rfl
    · rw [if_neg h, if_neg (by omega)]
  have n : joinB (lnW s.needs) = joinB (nW (ndV s.needs)) ∧ (lnW s.needs = [] ↔ nW (ndV s.needs) = []) := by
    cases e : s.needs with
    | cnt n =>
      have := ok.cnt n e
      have e2 : lnW (.cnt n) = nW (ndV (.cnt n)) := by
        show (if n ≠ 1 then [Str.ofString "needs", text n] else []) = (if (1 : Int) < (n : Int) then [Str.ofString "needs", num n] else [])
        by_cases h : n ≠ 1
        · rw [if_pos h, if_pos (by omega)]
          rfl
        · rw [if_neg h, if_neg (by omega)]
      rw [e2]
      exact ⟨rfl, Iff.rfl⟩
    | bd b =>
      refine ⟨?_, by simp [lnW, nW, ndV]⟩
      show joinB [Str.ofString "needs", b.txt] = joinB ([Str.ofString "needs"] ++ bw b.txt)
      rw [joinB_app (by simp) (bw_ne _), joinB_bw, joinB_cons, joinB_one, joinB_one]
  have c : joinB (lcW s.closing) = joinB (cW (kdOf s).closing) ∧ (lcW s.closing = [] ↔ cW (kdOf s).closing = []) := by
    show joinB (lcW s.closing) = joinB (cW (s.closing.map fun p => ((p.1 : Int), p.2.txt))) ∧ (lcW s.closing = [] ↔ cW (s.closing.map fun p => ((p.1 : Int), p.2.txt)) = [])
    cases e : s.closing with
    | none => exact ⟨rfl, Iff.rfl⟩
    | some p =>
      obtain ⟨i, b⟩ := p
      refine ⟨?_, by simp [lcW, cW]⟩
      show joinB [Str.ofString "closed after", text i, Str.ofString "by", b.txt] = joinB ([Str.ofString "closed", Str.ofString "after", num i, Str.ofString "by"] ++ bw b.txt)
      rw [joinB_app (by simp) (bw_ne _), joinB_bw]
      rw [joinB_cons, joinB_cons, joinB_cons, joinB_one, joinB_cons, joinB_cons, joinB_cons, joinB_one]
      have e1 : Str.ofString "closed after" = Str.ofString "closed" ++ (BLANK ++ Str.ofString "after") := by decide +kernel
      rw [e1]
      simp only [app_assoc]
      rfl
  have d : joinB (leW s.ends) = joinB (eW (kdOf s).ends) ∧ (leW s.ends = [] ↔ eW (kdOf s).ends = []) := by
    show joinB (leW s.ends) = joinB (eW (s.ends.map Bd.txt)) ∧ (leW s.ends = [] ↔ eW (s.ends.map Bd.txt) = [])
    cases e : s.ends with
    | none => exact ⟨rfl, Iff.rfl⟩
    | some b =>
      refine ⟨?_, by simp [leW, eW]⟩
      show joinB [Str.ofString "ends by", b.txt] = joinB ([Str.ofString "ends", Str.ofString "by"] ++ bw b.txt)
      rw [joinB_app (by simp) (bw_ne _), joinB_bw, joinB_cons, joinB_one, joinB_cons, joinB_one]
      have e1 : Str.ofString "ends by" = Str.ofString "ends" ++ (BLANK ++ Str.ofString "by") := by decide +kernel
      rw [e1]
      try simp only [app_assoc]
  unfold lwords lineK kwords
  have g : ∀ (X Y Z Y' Z' : List Str), X ≠ [] → (joinB Y = joinB Y' ∧ (Y = [] ↔ Y' = [])) → (joinB Z = joinB Z' ∧ (Z = [] ↔ Z' = [])) → joinB (X ++ Y ++ Z) = joinB (X ++ Y' ++ Z') := by
    intro X Y Z Y' Z' hx hy hz
    rw [join_like (by simp [hx]) hz.1 hz.2]
    by_cases h : Z' = []
    · rw [h, List.append_nil, List.append_nil]
      exact join_like hx hy.1 hy.2
    · rw [joinB_app (by simp [hx]) h, joinB_app (by simp [hx]) h, join_like hx hy.1 hy.2]
  rw [← t]
  have g1 := g ([Str.ofString "motion", s.name] ++ ltW s) (lnW s.needs) (lcW s.closing) _ _ (by simp) n c
  have g2 : joinB ([Str.ofString "motion", s.name] ++ ltW s ++ lnW s.needs ++ lcW s.closing ++ leW s.ends) = joinB ([Str.ofString "motion", s.name] ++ ltW s ++ nW (ndV s.needs) ++ cW (kdOf s).closing ++ eW (kdOf s).ends) := by
    rw [join_like (by simp) d.1 d.2]
    by_cases h : eW (kdOf s).ends = []
    · rw [h, List.append_nil, List.append_nil]
      exact g1
    · rw [joinB_app (by simp) h, joinB_app (by simp) h, g1]
  rw [g2]
  simp only [List.append_assoc]
  rfl
theorem const_len : (Str.ofString "motion").length ≤ 20 ∧ (Str.ofString "talks").length ≤ 20 ∧ (Str.ofString "needs").length ≤ 20 ∧ (Str.ofString "closed after").length ≤ 20 ∧ (Str.ofString "by").length ≤ 20 ∧ (Str.ofString "ends by").length ≤ 20 := by decide +kernel
theorem lwords_len {s : Sr} (ok : SrOk s) : ∀ z ∈ lwords s, z.length ≤ 20 := by
  obtain ⟨c1, c2, c3, c4, c5, c6⟩ := const_len
  have tx : ∀ n, n ≤ 12 → (text n).length ≤ 20 := fun n hn => Nat.le_trans (text_short n (by omega)) (by decide)
  intro z hz
  unfold lwords at hz
  simp only [List.mem_append, List.mem_cons, List.not_mem_nil, or_false] at hz
  rcases hz with ((((rfl | rfl) | hz) | hz) | hz) | hz
  · exact c1
  · exact Nat.le_trans (name_len ok.name) (by decide)
  · unfold ltW at hz
    split at hz
    · simp only [List.mem_cons, List.not_mem_nil, or_false] at hz
      rcases hz with rfl | rfl
      · exact c2
      · exact tx _ (by have := ok.talks; omega)
    · cases hz
  · cases e : s.needs with
    | cnt n =>
      have := ok.cnt n e
      rw [e] at hz
      have hz : z ∈ (if n ≠ 1 then [Str.ofString "needs", text n] else []) := hz
      split at hz
      · simp only [List.mem_cons, List.not_mem_nil, or_false] at hz
        rcases hz with rfl | rfl
        · exact c3
        · exact tx _ (by omega)
      · cases hz
    | bd b =>
      rw [e] at hz
      have hz : z ∈ [Str.ofString "needs", b.txt] := hz
      simp only [List.mem_cons, List.not_mem_nil, or_false] at hz
      rcases hz with rfl | rfl
      · exact c3
      · exact Bd.len (ok.bd b e)
  · cases e : s.closing with
    | none => rw [e] at hz; cases hz
    | some p =>
      obtain ⟨i, b⟩ := p
      have := ok.cl i b e
      rw [e] at hz
      have hz : z ∈ [Str.ofString "closed after", text i, Str.ofString "by", b.txt] := hz
      simp only [List.mem_cons, List.not_mem_nil, or_false] at hz
      rcases hz with rfl | rfl | rfl | rfl
      · exact c4
      · exact tx _ (by omega)
      · exact c5
      · exact Bd.len this.2
  · cases e : s.ends with
    | none => rw [e] at hz; cases hz
    | some b =>
      rw [e] at hz
      have hz : z ∈ [Str.ofString "ends by", b.txt] := hz
      simp only [List.mem_cons, List.not_mem_nil, or_false] at hz
      rcases hz with rfl | rfl
      · exact c6
      · exact Bd.len (ok.en b e)
def sp_wline : Sp := fun vs H Q _ => ∃ (v : V) (s : Sr), vs = [v] ∧ SrAt H v s ∧ SrOk s ∧ ∀ H', Same H H' → Q (.str (lineK (kdOf s))) H'
def sp_wtext : Sp := fun vs H Q _ => ∃ (v : V) (ss : List Sr) (rs : List Rw), vs = [v] ∧ PlanAt H v ss rs ∧ PlanOk 6 ss rs ∧ ∀ H', Same H H' → Q (.str (textR (ss.map kdOf) (rs.map (rowOf ss)))) H'
end Hv

namespace L
open PySem L2 Hv
variable {P : Program} {w : World} {K : PySem.W.Frag} {mg : Str → Option Value} {base : Heap}
/-- words + new words -/
theorem text_sz {n : Nat} (h : n ≤ 12) : (text n).length ≤ 2 ∧ (n : Int).natAbs.log2 < 1920 := ⟨text_short n (by omega), Nat.lt_of_le_of_lt (log2_mono (show (n : Int).natAbs ≤ 12 by omega)) (by decide)⟩
abbrev s_line : Stmt := top 62
abbrev N_line : List Str := ["_law_sort_here", "_law_name", "_law_talks", "_law_needs", "_law_closing", "_law_ends", "_law_words"]
abbrev P_line : List Str := ["_law_sort_here"]
theorem sc_line : FnScope N_line P_line (defScope s_line) := ⟨rfl, rfl, rfl, by decide +kernel, rfl, by decide +kernel, by decide +kernel⟩
theorem ok_wline {f f1 : Addr} {fd fd1 : FuncData} (D : DefAt K mg "_law_line" s_line P_line f fd) (T : Txt K mg) (D_bound_text : DefAt K mg "_law_bound_text" s_bound_text P_bound_text f1 fd1) : FnOk P w K mg base CX0 2 f fd P_line sp_wline := by
  have G_bound_text : FnOk P w K mg base CX0 1 f1 fd1 P_bound_text sp_wbtext := ok_bound_text D_bound_text T
  refine D.fn.ok sc_line (fun vs H Q E h => ?_) (fun cdv A outer s H vs Q E hr h => ?_)
  · obtain ⟨v, s, rfl, _⟩ := h
    rfl
  · obtain ⟨_, s, rfl, ⟨_, a, n, c, e, rfl, ha, hn, hc, he⟩, ok, ret⟩ := h
    refine ⟨_, (pss_cons (ps_asg (pv 0) (pg_tup (by rfl) (pgs_cons (pg_name (i := 1) sc_line.nd rfl (.inl rfl)) (pgs_cons (pg_name (i := 2) sc_line.nd rfl (.inl rfl)) (pgs_cons (pg_name (i := 3) sc_line.nd rfl (.inl rfl)) (pgs_cons (pg_name (i := 4) sc_line.nd rfl (.inl rfl)) (pgs_cons (pg_name (i := 5) sc_line.nd rfl (.inl rfl)) pgs_nil)))))))
      (pss_cons (ps_asg (pe_lst (pa_cons pe_str (pa_cons (pv 1) pa_nil))) (pg_name (i := 6) sc_line.nd rfl (.inl rfl)))
      (pss_cons (ps_if (pt_cmpR op_gt (pv 2) pe_int (nomark _))
      (pss_one (ps_asg (pe_op op_cat (pv 6) (pe_lst (pa_cons pe_str (pa_cons (pe_callTy call_str_int (by rfl) T.str (by decide +kernel) (pa_cons (pv 2) pa_nil)) pa_nil)))) (pg_name (i := 6) sc_line.nd rfl (.inl rfl))))
      pss_nil)
      (pss_cons (ps_if (PW.pt (pw_and (pt_cmpR op_eq (pe_ix ix_tup (pv 3) pe_int (fun _ _ => rfl)) pe_str (nomark _)) (pw_and1 (pt_cmpR op_ne (pe_ix ix_tup (pv 3) pe_int (fun _ _ => rfl)) pe_int (nomark _)))))
      (pss_one (ps_asg (pe_op op_cat (pv 6) (pe_lst (pa_cons pe_str (pa_cons (pe_callTy call_str_int (by rfl) T.str (by decide +kernel) (pa_cons (pe_ix ix_tup (pv 3) pe_int (fun _ _ => rfl)) pa_nil)) pa_nil)))) (pg_name (i := 6) sc_line.nd rfl (.inl rfl))))
      pss_nil)
      (pss_cons (ps_if (pt_cmpR op_ne (pe_ix ix_tup (pv 3) pe_int (fun _ _ => rfl)) pe_str (nomark _))
      (pss_one (ps_asg (pe_op op_cat (pv 6) (pe_lst (pa_cons pe_str (pa_cons (pe_call G_bound_text (hr.mono (by decide)) rfl D_bound_text.mg D_bound_text.fn.kp D_bound_text.bd .nil pass0 (pa_cons (pv 3) pa_nil)) pa_nil)))) (pg_name (i := 6) sc_line.nd rfl (.inl rfl))))
      pss_nil)
      (pss_cons (ps_if (pt_cmpR op_notN (pv 4) pe_non (nomark _))
      (pss_one (ps_asg (pe_op op_cat (pv 6) (pe_lst (pa_cons pe_str (pa_cons (pe_callTy call_str_int (by rfl) T.str (by decide +kernel) (pa_cons (pe_ix ix_tup (pv 4) pe_int (fun _ _ => rfl)) pa_nil)) (pa_cons pe_str (pa_cons (pe_call G_bound_text (hr.mono (by decide)) rfl D_bound_text.mg D_bound_text.fn.kp D_bound_text.bd .nil pass0 (pa_cons (pe_ix ix_tup (pv 4) pe_int (fun _ _ => rfl)) pa_nil)) pa_nil)))))) (pg_name (i := 6) sc_line.nd rfl (.inl rfl))))
      pss_nil)
      (pss_cons (ps_if (pt_cmpR op_notN (pv 5) pe_non (nomark _))
      (pss_one (ps_asg (pe_op op_cat (pv 6) (pe_lst (pa_cons pe_str (pa_cons (pe_call G_bound_text (hr.mono (by decide)) rfl D_bound_text.mg D_bound_text.fn.kp D_bound_text.bd .nil pass0 (pa_cons (pv 5) pa_nil)) pa_nil)))) (pg_name (i := 6) sc_line.nd rfl (.inl rfl))))
      pss_nil)
      (pss_one (ps_ret (pe_join pe_str (pv 6))))))))))), ?_⟩
    have sz : ∀ m : Nat, m ≤ 100 → m ≤ sizeLine := fun m hm => Nat.le_trans hm (by decide)
    refine ⟨_, rfl, a, _, rfl, SqT.of ha, rfl, _, _, rfl, _, _, rfl, _, _, rfl, _, _, rfl, _, _, rfl, rfl, ?_⟩
    dsimp only
    refine ⟨_, rfl, (by show 2 ≤ sizeLine; decide), fun p hp => ?_⟩
    -- what stays
    have X0 : ∃ H' p', Same H H' ∧ H' p' = some (.lst ([Str.ofString "motion", s.name].map V.str)) := ⟨_, p, same_new hp, upd_same⟩
    dsimp only [gName]
    have s0 := same_new (H := H) (o := .lst ([Str.ofString "motion", s.name].map V.str)) hp
    have h0 := upd_same (H := H) (a := p) (o := .lst ([Str.ofString "motion", s.name].map V.str))
    rw [show ([V.str (Str.ofString "motion"), .str s.name] : List V) = [Str.ofString "motion", s.name].map V.str from rfl]
    generalize upd H p (.lst ([Str.ofString "motion", s.name].map V.str)) = H1 at s0 h0 ⊢
    clear X0
    -- talks
    refine join_st (fun σ' H' => ∃ q, σ' = [some (.ref a), some (.str s.name), some (.int s.talks), some n, some c, some e, some (.ref q)] ∧ Same H H' ∧ H' q = some (.lst (([Str.ofString "motion", s.name] ++ ltW s).map V.str))) (fun nx' fin => ?_) ?_
    · refine ⟨_, rfl, _, _, rfl, rfl, _, rfl, ?_⟩
      by_cases h : 0 < s.talks
      · obtain ⟨t1, t2⟩ := text_sz (n := s.talks) (by have := ok.talks; omega)
        refine ifT (by omega) ⟨_, rfl, _, rfl, _, rfl, t2, (by show 2 ≤ sizeLine; decide), fun q hq => ⟨p, q, _, _, rfl, rfl, same_new hq _ _ h0, upd_same, sz _ (by simp), fun r hr => ?_⟩⟩
        refine fin _ _ ⟨r, rfl, (s0.trans (same_new hq)).trans (same_new hr), ?_⟩
        rw [upd_same]
        unfold ltW
        rw [if_pos h]
        rfl
      · refine ifF (by omega) (fin _ _ ⟨p, rfl, s0, ?_⟩)
        unfold ltW
        rw [if_neg h, List.append_nil]
        exact h0
    rintro _ H2 ⟨q2, rfl, s2, h2⟩
    have l2 : ([Str.ofString "motion", s.name] ++ ltW s).length ≤ 4 := by
      unfold ltW
      split <;> simp
    generalize e2 : [Str.ofString "motion", s.name] ++ ltW s = W2 at h2 l2
    have eW : lwords s = W2 ++ lnW s.needs ++ lcW s.closing ++ leW s.ends := by
      unfold lwords
      rw [e2]
    clear e2
    -- needs
    refine join_st (fun σ' H' => ∃ q, σ' = [some (.ref a), some (.str s.name), some (.int s.talks), some n, some c, some e, some (.ref q)] ∧ Same H H' ∧ H' q = some (.lst ((W2 ++ (match s.needs with | .cnt m => lnW (.cnt m) | .bd _ => [])).map V.str))) (fun nx' fin => ?_) ?_
    · cases en : s.needs with
      | cnt m =>
        rw [en] at hn
        obtain ⟨m1, m9, na, rfl, hna⟩ := hn
        have hna2 := s2 _ _ hna
        refine ⟨_, rfl, _, _, _, _, rfl, rfl, SqT.of hna2, rfl, rfl, _, rfl, ifT rfl ⟨_, rfl, _, _, _, _, rfl, rfl, SqT.of hna2, rfl, rfl, _, rfl, ?_⟩⟩
        by_cases h : m = 1
        · refine ifNF (by rw [h]; rfl) (fin _ _ ⟨q2, rfl, s2, ?_⟩)
          rw [en]
          show H2 q2 = some (.lst ((W2 ++ if m ≠ 1 then [Str.ofString "needs", text m] else []).map V.str))
          rw [if_neg (by omega), List.append_nil]
          exact h2
        · obtain ⟨t1, t2⟩ := text_sz (n := m) (by omega)
          refine ifNT (fun z => h (by have := V.int.inj z; omega)) ⟨_, rfl, _, rfl, _, _, _, _, rfl, rfl, SqT.of hna2, rfl, _, rfl, t2, (by show 2 ≤ sizeLine; decide), fun q hq => ⟨q2, q, _, _, rfl, rfl, same_new hq _ _ h2, upd_same, sz _ (by simp; omega), fun r hr => ?_⟩⟩
          refine fin _ _ ⟨r, rfl, (s2.trans (same_new hq)).trans (same_new hr), ?_⟩
          rw [upd_same, en]
          show _ = some (HO.lst ((W2 ++ if m ≠ 1 then [Str.ofString "needs", text m] else []).map V.str))
          rw [if_pos h, List.map_append]
          rfl
      | bd b =>
        rw [en] at hn
        obtain ⟨bok, na, rfl, hna⟩ := hn
        have hna2 := s2 _ _ hna
        refine ⟨_, rfl, _, _, _, _, rfl, rfl, SqT.of hna2, rfl, rfl, _, rfl, ifF (by intro q; cases q) (iteF (fin _ _ ⟨q2, rfl, s2, ?_⟩))⟩
        rw [en]
        show H2 q2 = some (.lst ((W2 ++ []).map V.str))
        rw [List.append_nil]
        exact h2
    rintro _ H3 ⟨q3, rfl, s3, h3⟩
    refine join_st (fun σ' H' => ∃ q, σ' = [some (.ref a), some (.str s.name), some (.int s.talks), some n, some c, some e, some (.ref q)] ∧ Same H H' ∧ H' q = some (.lst ((W2 ++ lnW s.needs).map V.str))) (fun nx' fin => ?_) ?_
    · cases en : s.needs with
      | cnt m =>
        rw [en] at hn h3
        obtain ⟨m1, m9, na, rfl, hna⟩ := hn
        refine ⟨_, rfl, _, _, _, _, rfl, rfl, SqT.of (s3 _ _ hna), rfl, rfl, _, rfl, ifNF rfl (fin _ _ ⟨q3, rfl, s3, ?_⟩)⟩
        rw [en]
        exact h3
      | bd b =>
        rw [en] at hn h3
        obtain ⟨bok, na, rfl, hna⟩ := hn
        have h3 : H3 q3 = some (.lst ((W2 ++ []).map V.str)) := h3
        rw [List.append_nil] at h3
        refine ⟨_, rfl, _, _, _, _, rfl, rfl, SqT.of (s3 _ _ hna), rfl, rfl, _, rfl, ifNT (by intro q; cases q) ?_⟩
        refine ⟨_, rfl, _, rfl, _, b, rfl, ⟨bok, na, rfl, s3 _ _ hna⟩, (by show 2 ≤ sizeLine; decide), fun q hq => ⟨q3, q, _, _, rfl, rfl, same_new hq _ _ h3, upd_same, sz _ (by simp; omega), fun r hr => ?_⟩⟩
        refine fin _ _ ⟨r, rfl, (s3.trans (same_new hq)).trans (same_new hr), ?_⟩
        rw [upd_same, en, List.map_append]
        rfl
    rintro _ H4 ⟨q4, rfl, s4, h4⟩
    have l4 : (W2 ++ lnW s.needs).length ≤ 6 := by
      rw [List.length_append]
      cases s.needs with
      | cnt m =>
        show _ + (if m ≠ 1 then [Str.ofString "needs", text m] else []).length ≤ 6
        split <;> simp <;> omega
      | bd b =>
        show _ + 2 ≤ 6
        omega
    generalize W2 ++ lnW s.needs = W4 at h4 l4 eW
    -- closing
    refine join_st (fun σ' H' => ∃ q, σ' = [some (.ref a), some (.str s.name), some (.int s.talks), some n, some c, some e, some (.ref q)] ∧ Same H H' ∧ H' q = some (.lst ((W4 ++ lcW s.closing).map V.str))) (fun nx' fin => ?_) ?_
    · cases en : s.closing with
      | none =>
        rw [en] at hc
        cases (show c = .non from hc)
        refine ⟨_, rfl, rfl, _, rfl, ifNF rfl (fin _ _ ⟨q4, rfl, s4, ?_⟩)⟩
        rw [en]
        show H4 q4 = some (.lst ((W4 ++ []).map V.str))
        rw [List.append_nil]
        exact h4
      | some pp =>
        obtain ⟨i, b⟩ := pp
        rw [en] at hc
        obtain ⟨i3, ca, u, rfl, hca, hb⟩ := hc
        obtain ⟨t1, t2⟩ := text_sz (n := i) (by omega)
        have hca4 := s4 _ _ hca
        refine ⟨_, rfl, rfl, _, rfl, ifNT (by intro q; cases q) ?_⟩
        refine ⟨_, rfl, _, rfl, _, _, _, _, rfl, rfl, SqT.of hca4, rfl, _, rfl, t2, _, rfl, _, _, _, _, rfl, rfl, SqT.of hca4, rfl, _, b, rfl, hb.same s4, (by show 4 ≤ sizeLine; decide), fun q hq => ⟨q4, q, _, _, rfl, rfl, same_new hq _ _ h4, upd_same, sz _ (by simp; omega), fun r hr => ?_⟩⟩
        refine fin _ _ ⟨r, rfl, (s4.trans (same_new hq)).trans (same_new hr), ?_⟩
        rw [upd_same, en, List.map_append]
        rfl
    rintro _ H5 ⟨q5, rfl, s5, h5⟩
    have l5 : (W4 ++ lcW s.closing).length ≤ 10 := by
      rw [List.length_append]
      cases s.closing with
      | none => show _ + 0 ≤ 10; omega
      | some p => show _ + 4 ≤ 10; omega
    generalize W4 ++ lcW s.closing = W5 at h5 l5 eW
    -- ends
    refine join_st (fun σ' H' => ∃ q, σ' = [some (.ref a), some (.str s.name), some (.int s.talks), some n, some c, some e, some (.ref q)] ∧ Same H H' ∧ H' q = some (.lst ((W5 ++ leW s.ends).map V.str))) (fun nx' fin => ?_) ?_
    · cases en : s.ends with
      | none =>
        rw [en] at he
        cases (show e = .non from he)
        refine ⟨_, rfl, rfl, _, rfl, ifNF rfl (fin _ _ ⟨q5, rfl, s5, ?_⟩)⟩
        rw [en]
        show H5 q5 = some (.lst ((W5 ++ []).map V.str))
        rw [List.append_nil]
        exact h5
      | some b =>
        rw [en] at he
        have hb : BdAt H e b := he
        obtain ⟨bok, ea, rfl, hea⟩ := hb
        refine ⟨_, rfl, rfl, _, rfl, ifNT (by intro q; cases q) ?_⟩
        refine ⟨_, rfl, _, rfl, _, b, rfl, ⟨bok, ea, rfl, s5 _ _ hea⟩, (by show 2 ≤ sizeLine; decide), fun q hq => ⟨q5, q, _, _, rfl, rfl, same_new hq _ _ h5, upd_same, sz _ (by simp; omega), fun r hr => ?_⟩⟩
        refine fin _ _ ⟨r, rfl, (s5.trans (same_new hq)).trans (same_new hr), ?_⟩
        rw [upd_same, en, List.map_append]
        rfl
    rintro _ H6 ⟨q6, rfl, s6, h6⟩
    have l6 : (W5 ++ leW s.ends).length ≤ 12 := by
      rw [List.length_append]
      cases s.ends with
      | none => show _ + 0 ≤ 12; omega
      | some p => show _ + 2 ≤ 12; omega
    rw [← eW] at h6 l6
    have q := sum_le (l := (lwords s).map (·.length)) (m := 20) fun x hx => by
      obtain ⟨z, hz, rfl⟩ := List.mem_map.mp hx
      exact lwords_len ok z hz
    rw [List.length_map] at q
    have b1 : (Str.ofString " ").length = 1 := rfl
    refine ⟨⟨_, rfl⟩, _, rfl, _, q6, lwords s, rfl, rfl, .inl (SqL.of h6), ?_, ?_⟩
    · rw [b1]
      omega
    · rw [show Txt.join (Str.ofString " ") (lwords s) = joinB (lwords s) from rfl, lwords_line ok]
      exact ret _ s6
end L

namespace Hv
open PySem L2
theorem PlanOk.names {most : Nat} {ss : List Sr} {rs : List Rw} (h : PlanOk most ss rs) (hm : most ≤ 6) : (ss.map (·.name)).Nodup ∧ ∀ z ∈ ss.map (·.name), nameOk z = true := by
  obtain ⟨b, hb, st, hst, e⟩ := h.nm
  obtain ⟨n1, n2⟩ := names_ok b hb st hst
  have sub : ((List.range ss.length).map (nameAt b st)).Sublist ((List.range 6).map (nameAt b st)) := (List.range_sublist.mpr (Nat.le_trans h.mst hm)).map _
  rw [e]
  exact ⟨n1.sublist sub, fun z hz => List.all_eq_true.mp n2 z (sub.subset hz)⟩
theorem plan_srs {H : Hp} {vs : List V} {ss : List Sr} (h : All2 (SrAt H) vs ss) (hn : ∀ z ∈ ss.map (·.name), nameOk z = true) : ∀ s ∈ ss, SrOk s := by
  intro s hs
  obtain ⟨i, hi⟩ := List.getElem?_of_mem hs
  obtain ⟨v, _, hv⟩ := h.get' hi
  exact hv.ok (hn _ (List.mem_map.mpr ⟨s, hs, rfl⟩))
theorem kd_names (ss : List Sr) : (ss.map kdOf).map (·.name) = ss.map (·.name) := by
  rw [List.map_map]
  rfl
theorem plan_kinds {ss : List Sr} {rs : List Rw} (h : PlanOk 6 ss rs) (hs : ∀ s ∈ ss, SrOk s) : KindsOk (ss.map kdOf) := by
  refine ⟨by rw [List.length_map]; exact h.one, by rw [List.length_map]; exact h.mst, by rw [kd_names]; exact (h.names (by decide)).1, fun k hk => ?_⟩
  obtain ⟨s, h1, rfl⟩ := List.mem_map.mp hk
  exact (hs s h1).kd
theorem getD_inj {l : List Str} (h : l.Nodup) {i j : Nat} (hi : i < l.length) (hj : j < l.length) (e : l.getD i Str.empty = l.getD j Str.empty) : i = j := by
  have e1 : l.getD i Str.empty = l[i] := by simp [hi]
  have e2 : l.getD j Str.empty = l[j] := by simp [hj]
  rw [e1, e2] at e
  have p := List.pairwise_iff_getElem.mp h
  rcases Nat.lt_trichotomy i j with q | q | q
  · exact absurd e (p i j hi hj q)
  · exact q
  · exact absurd e.symm (p j i hj hi q)
theorem getD_in {l : List Str} {i : Nat} (hi : i < l.length) : l.getD i Str.empty ∈ l := by
  have e1 : l.getD i Str.empty = l[i] := by simp [hi]
  rw [e1]
  exact List.getElem_mem _
theorem amt_mem {m : Nat} {r : Rw} (h : Rw.Ok m r) : amtOf r ∈ AMTS := by
  unfold amtOf
  rcases h.am with ⟨w, n1, n3⟩ | ⟨w, n0⟩
  · rw [if_pos (by omega)]
    have q := amts_num r.num (by omega) n1
    rcases w with w | w
    · rw [w]
      exact q.1
    · rw [w]
      exact q.2
  · rw [if_neg (by omega)]
    rcases w with w | w
    · rw [w]
      exact amts_free.2
    · rw [w]
      exact amts_free.1
theorem plan_rows {ss : List Sr} {rs : List Rw} (h : PlanOk 6 ss rs) : RowsOk (ss.map kdOf) (rs.map (rowOf ss)) := by
  obtain ⟨nd, nk⟩ := h.names (by decide)
  have nl : (ss.map (·.name)).length = ss.length := List.length_map ..
  refine ⟨?_, fun r hr => ?_⟩
  · rw [List.map_map]
    have q := h.nd
    unfold List.Nodup at q ⊢
    rw [List.pairwise_map] at q ⊢
    refine q.imp_of_mem fun {a b} ha hb ne e => ne ?_
    have oa := h.rw a ha
    have ob := h.rw b hb
    have e1 := congrArg Prod.fst e
    have e2 := congrArg Prod.snd e
    rw [getD_inj nd (by rw [nl]; exact oa.ol) (by rw [nl]; exact ob.ol) e1, getD_inj nd (by rw [nl]; exact oa.il) (by rw [nl]; exact ob.il) e2]
  · obtain ⟨x, hx, rfl⟩ := List.mem_map.mp hr
    have ox := h.rw x hx
    have m1 : (rowOf ss x).1 ∈ ss.map (·.name) := getD_in (by rw [nl]; exact ox.ol)
    have m2 : (rowOf ss x).2.1 ∈ ss.map (·.name) := getD_in (by rw [nl]; exact ox.il)
    have am := amt_mem ox
    have al := amt_len _ am
    rw [kd_names]
    have sz : ∀ n, n ≤ 8 → n ≤ sizeLine := fun n hn => Nat.le_trans hn (by decide)
    exact ⟨⟨nk _ m1, sz _ (name_len (nk _ m1)), nk _ m2, sz _ (name_len (nk _ m2)), amts_some _ am, sz _ (by show (amtOf x).length ≤ 8; omega), sz _ (Nat.le_trans (part_len _) (by show (amtOf x).length ≤ 8; omega))⟩, m1, m2⟩
theorem plan_36 {ss : List Sr} {rs : List Rw} (h : PlanOk 6 ss rs) : (rs.map (rowOf ss)).length ≤ 36 := by
  rw [List.length_map]
  refine Nat.le_trans h.rl ?_
  exact Nat.mul_le_mul h.mst h.mst
end Hv

namespace L
open PySem L2 Hv
variable {P : Program} {w : World} {K : PySem.W.Frag} {mg : Str → Option Value} {base : Heap}
abbrev s_text : Stmt := top 63
abbrev N_text : List Str := ["_law_plan_here", "_law_found", "_law_outer", "_law_inner", "_law_word", "_law_number", "_law_amount", "_law_sort_here"]
abbrev P_text : List Str := ["_law_plan_here"]
theorem sc_text : FnScope N_text P_text (defScope s_text) := ⟨rfl, rfl, rfl, by decide +kernel, rfl, by decide +kernel, by decide +kernel⟩
theorem ok_wtext {f f1 f2 : Addr} {fd fd1 fd2 : FuncData} (D : DefAt K mg "_law_text" s_text P_text f fd) (T : Txt K mg) (D_line : DefAt K mg "_law_line" s_line P_line f1 fd1) (D_bound_text : DefAt K mg "_law_bound_text" s_bound_text P_bound_text f2 fd2) : FnOk P w K mg base CX0 3 f fd P_text sp_wtext := by
  have G_line : FnOk P w K mg base CX0 2 f1 fd1 P_line sp_wline := ok_wline D_line T D_bound_text
  refine D.fn.ok sc_text (fun vs H Q E h => ?_) (fun cdv A outer s H vs Q E hr h => ?_)
  · obtain ⟨v, ss, rs, rfl, _⟩ := h
    rfl
  · obtain ⟨_, ss, rs, rfl, ⟨p, a, b, vs, us, rfl, hp, ha, hb, al, ar⟩, ok, ret⟩ := h
    refine ⟨_, (pss_cons (ps_setLc (i := 1) (own := [("_law_sort_here", 7)]) (g := gName 7) rfl sc_text.nd rfl rfl (sw_true rfl rfl rfl (by decide +kernel)) (pi_list (pe_ix ix_list (pv 0) pe_int (fun _ _ => rfl))) (blkOk_by (own := [("_law_sort_here", 7)]) (N := N_text) (sc := defScope s_text) (by decide +kernel)) (fun _ _ _ _ _ => (pg_name (i := 7) sc_text.nd rfl (.inl rfl))) (fun _ _ _ _ _ => pts_nil) (fun _ _ _ _ _ => (pe_call G_line (hr.mono (by decide)) rfl D_line.mg D_line.fn.kp D_line.bd .nil pass0 (pa_cons (pv 7) pa_nil))))
      (pss_cons (ps_for PassesOwn.never rfl (pi_list (pe_ix ix_list (pv 0) pe_int (fun _ _ => rfl))) (pg_tup (by rfl) (pgs_cons (pg_name (i := 2) sc_text.nd rfl (.inl rfl)) (pgs_cons (pg_name (i := 3) sc_text.nd rfl (.inl rfl)) (pgs_cons (pg_name (i := 4) sc_text.nd rfl (.inl rfl)) (pgs_cons (pg_name (i := 5) sc_text.nd rfl (.inl rfl)) pgs_nil)))))
      (pss_cons (ps_asg (pe_ifExp (pt_cmpR op_gt (pv 5) pe_int (nomark _)) (pe_op op_add_str (pe_op op_add_str (pv 4) pe_str) (pe_callTy call_str_int (by rfl) T.str (by decide +kernel) (pa_cons (pv 5) pa_nil))) (pv 4)) (pg_name (i := 6) sc_text.nd rfl (.inl rfl)))
      (pss_one (ps_expr (pe_bm PySem.F.plainAttrs_list PySem.F.slot_list_append PySem.F.type_list_append mt_append (pv 1) (pa_cons (pe_join pe_str (pe_lst (pa_cons pe_str (pa_cons (pe_ix ix_tup (pe_ix ix_list (pe_ix ix_list (pv 0) pe_int (fun _ _ => rfl)) (pv 2) (fun _ _ => rfl)) pe_int (fun _ _ => rfl)) (pa_cons (pe_ix ix_tup (pe_ix ix_list (pe_ix ix_list (pv 0) pe_int (fun _ _ => rfl)) (pv 3) (fun _ _ => rfl)) pe_int (fun _ _ => rfl)) (pa_cons (pv 6) pa_nil)))))) pa_nil))))))
      (pss_one (ps_ret (pe_join pe_str (pv 1)))))), ?_⟩
    obtain ⟨nd, nk⟩ := ok.names (by decide)
    have so := plan_srs al nk
    have kok := plan_kinds ok so
    have rok := plan_rows ok
    have r36 := plan_36 ok
    rw [List.length_map] at r36
    have l1 := al.len
    have l2 := ar.len
    have s6 := ok.mst
    refine ⟨_, rfl, _, _, _, _, rfl, rfl, SqL.of hp, rfl, a, rfl, ⟨_, SqL.of ha⟩, fun L hL => ?_⟩
    refine lc_list (K := K) (a := a) (xs := vs) (fun i H' => Same H H' ∧ H' L = some (.lst (((ss.take i).map fun s => lineK (kdOf s)).map V.str))) ⟨same_new hL, upd_same⟩ ?_ ?_ ?_
    · rintro i H' _ ⟨s', _⟩
      exact SqL.of (s' _ _ ha)
    · rintro i v H' hv ⟨s', hl⟩
      obtain ⟨sr, hsi, hsr⟩ := al.get hv
      have il : i < ss.length := (List.getElem?_eq_some_iff.mp hsi).1
      have es : ss[i] = sr := (List.getElem?_eq_some_iff.mp hsi).2
      refine ⟨rfl, _, rfl, _, sr, rfl, hsr.tup (TupS.of s'), so sr (es ▸ List.getElem_mem il), fun H2 s2 => ⟨_, s2 _ _ hl, ?_, ?_, ?_⟩⟩
      · simp
        exact Nat.lt_of_le_of_lt (show min i ss.length ≤ 6 by omega) (by decide)
      · intro c o e
        rw [upd_ne (ne_of_none e hL)]
        exact s2 _ _ (s' _ _ e)
      · rw [upd_same, List.take_succ, List.getElem?_eq_getElem il, es]
        simp
    rintro H1 ⟨s1, hl1⟩
    rw [l1, List.take_of_length_le (Nat.le_refl _)] at hl1
    have e1 : (ss.map fun s => lineK (kdOf s)) = (ss.map kdOf).map lineK := by rw [List.map_map]; rfl
    rw [e1] at hl1
    generalize eK : (ss.map kdOf).map lineK = KL at hl1
    have kl : KL.length = ss.length := by rw [← eK]; simp
    dsimp only
    refine join_st (fun σ' H' => ∃ x2 x3 x4 x5 x6, σ' = [some (.ref p), some (.ref L), x2, x3, x4, x5, x6, none] ∧ Same H H' ∧ H' L = some (.lst ((KL ++ rs.map fun r => lineR (rowOf ss r).1 (rowOf ss r).2.1 (rowOf ss r).2.2).map V.str))) (fun nx' fin => ?_) ?_
    · refine ⟨_, rfl, _, _, _, _, rfl, rfl, SqL.of (s1 _ _ hp), rfl, b, rfl, ⟨_, SqL.of (s1 _ _ hb)⟩, for_list (K := K) (a := b) (xs := us) (fun i σ' H' => ∃ x2 x3 x4 x5 x6, σ' = [some (.ref p), some (.ref L), x2, x3, x4, x5, x6, none] ∧ Same H H' ∧ H' L = some (.lst ((KL ++ (rs.take i).map fun r => lineR (rowOf ss r).1 (rowOf ss r).2.1 (rowOf ss r).2.2).map V.str))) ?_ ?_ ?_ ?_⟩
      · refine ⟨none, none, none, none, none, rfl, s1, ?_⟩
        rw [List.take_zero, List.map_nil, List.append_nil]
        exact hl1
      · rintro i σ' H' _ ⟨_, _, _, _, _, _, sm, _⟩
        exact SqL.of (sm _ _ hb)
      · rintro i v σ' H' hv ⟨x2, x3, x4, x5, x6, rfl, sm, hl⟩
        obtain ⟨r, hri, t, rfl, ht⟩ := ar.get hv
        have il : i < rs.length := (List.getElem?_eq_some_iff.mp hri).1
        have er : rs[i] = r := (List.getElem?_eq_some_iff.mp hri).2
        have rw_ := ok.rw r (er ▸ List.getElem_mem il)
        refine ⟨t, _, rfl, SqT.of (sm _ _ ht), rfl, _, _, rfl, _, _, rfl, _, _, rfl, _, _, rfl, rfl, ?_⟩
        dsimp only
        have r3 : r.num ≤ 3 := by rcases rw_.am with ⟨_, _, h⟩ | ⟨_, h⟩ <;> omega
        have wl : r.word.length ≤ 6 := by
          rcases rw_.am with ⟨h | h, _⟩ | ⟨h | h, _⟩ <;> rw [h] <;> decide
        refine join_asg (fun x H2 => x = .str (amtOf r) ∧ H' = H2) (fun Q' fin => ?_) ?_
        · refine ⟨_, rfl, _, _, rfl, rfl, _, rfl, ?_⟩
          by_cases h : 0 < r.num
          · obtain ⟨t1, t2⟩ := text_sz (n := r.num) (by omega)
            have b1 : (Str.ofString " ").length = 1 := rfl
            refine ifT (by omega) ⟨_, rfl, _, _, rfl, rfl, ?_, _, rfl, _, rfl, t2, _, _, rfl, rfl, ?_, fin _ _ ⟨?_, rfl⟩⟩
            · exact Nat.le_trans (show r.word.length + (Str.ofString " ").length ≤ 100 by omega) (by decide)
            · rw [Str.length_append]
              exact Nat.le_trans (show r.word.length + (Str.ofString " ").length + (text r.num).length ≤ 100 by omega) (by decide)
            · unfold amtOf
              rw [if_pos h]
          · refine ifF (by omega) ⟨_, rfl, fin _ _ ⟨?_, rfl⟩⟩
            unfold amtOf
            rw [if_neg h]
        rintro _ _ ⟨rfl, rfl⟩
        dsimp only [gName]
        -- the names
        have nm : ∀ j, j < ss.length → ∃ (v : V) (tt : Addr) (rest : List V), vs[j]? = some v ∧ v = .ref tt ∧ H tt = some (.tup (.str ((ss.map (·.name)).getD j Str.empty) :: rest)) := fun j hj => by
          obtain ⟨v, hv, _, tt, n, c, d, e1, e2, _⟩ := al.get' (List.getElem?_eq_getElem hj)
          refine ⟨v, tt, [.int ss[j].talks, n, c, d], hv, e1, ?_⟩
          rw [e2]
          have : (ss.map (·.name)).getD j Str.empty = ss[j].name := by simp [hj]
          rw [this]
        obtain ⟨v1, t1, r1, g1, rfl, k1⟩ := nm r.o rw_.ol
        obtain ⟨v2, t2, r2, g2, rfl, k2⟩ := nm r.i rw_.il
        refine ⟨_, rfl, .inl ⟨rfl, _, SqL.of hl⟩, ⟨_, rfl⟩, _, rfl, _, _, _, _, rfl, rfl, SqL.of (sm _ _ hp), rfl, _, rfl, _, _, _, _, rfl, rfl, SqL.of (sm _ _ ha), atI_nat g1, _, _, _, _, rfl, rfl, SqT.of (sm _ _ k1), atI_zero _ _, _, rfl, _, _, _, _, rfl, rfl, SqL.of (sm _ _ hp), rfl, _, rfl, _, _, _, _, rfl, rfl, SqL.of (sm _ _ ha), atI_nat g2, _, _, _, _, rfl, rfl, SqT.of (sm _ _ k2), atI_zero _ _, _, rfl, (by show 4 ≤ sizeLine; decide), fun q hq => ?_⟩
        obtain ⟨q1, q2, q3, q4⟩ := lineR_len (rok.ok (rowOf ss r) (List.mem_map.mpr ⟨r, er ▸ List.getElem_mem il, rfl⟩)).1
        have u5 : (Str.ofString "under").length = 5 := by decide +kernel
        have b1 : (Str.ofString " ").length = 1 := rfl
        refine ⟨_, q, [Str.ofString "under", (rowOf ss r).1, (rowOf ss r).2.1, (rowOf ss r).2.2], rfl, rfl, .inl (SqL.of upd_same), ?_, L, _, _, rfl, rfl, same_new hq _ _ hl, ?_, _, _, _, _, _, rfl, fun c o e => ?_, ?_⟩
        · simp only [List.map_cons, List.map_nil, List.sum_cons, List.sum_nil, List.length_cons, List.length_nil]
          omega
        · simp
          exact Nat.lt_of_le_of_lt (show KL.length + min i rs.length ≤ 50 by omega) (by decide)
        · rw [upd_ne (ne_of_none e hL)]
          exact same_new hq _ _ (sm _ _ e)
        · rw [upd_same, List.take_succ, List.getElem?_eq_getElem il, er]
          simp only [List.map_append, List.append_assoc, Option.toList, List.map_cons, List.map_nil]
          rfl
      · rintro σ' H' ⟨x2, x3, x4, x5, x6, rfl, sm, hl⟩
        rw [l2, List.take_of_length_le (Nat.le_refl _)] at hl
        exact fin _ _ ⟨x2, x3, x4, x5, x6, rfl, sm, hl⟩
    rintro _ H2 ⟨x2, x3, x4, x5, x6, rfl, sm, hl⟩
    have eL : KL ++ (rs.map fun r => lineR (rowOf ss r).1 (rowOf ss r).2.1 (rowOf ss r).2.2) = linesR (ss.map kdOf) (rs.map (rowOf ss)) := by
      unfold linesR
      rw [eK, List.map_map]
      rfl
    rw [eL] at hl
    have ll := lines_len kok rok
    have lc : (linesR (ss.map kdOf) (rs.map (rowOf ss))).length ≤ 42 := by
      rw [← eL]
      simp
      omega
    have n1 : (Str.ofString "\n").length = 1 := rfl
    refine ⟨⟨_, rfl⟩, _, rfl, _, L, _, rfl, rfl, .inl (SqL.of hl), ?_, ret _ sm⟩
    have q := sum_le (l := (linesR (ss.map kdOf) (rs.map (rowOf ss))).map (·.length)) (m := 150) fun x hx => by
      obtain ⟨z, hz, rfl⟩ := List.mem_map.mp hx
      exact ll z hz
    rw [List.length_map] at q
    rw [n1]
    omega
end L

namespace Hv
open PySem L2
abbrev Sh : Type := Nat × Nat
def ltS (a b : Sh) : Bool := decide (a.1 * b.2 < b.1 * a.2)
def insS (x : Sh) : List Sh → List Sh
  | [] => [x]
  | y :: r => if ltS y x = true then y :: insS x r else if y = x then y :: r else x :: y :: r
theorem insS_at {x : Sh} : ∀ (fs : List Sh) (i : Nat), i ≤ fs.length → (∀ j y, j < i → fs[j]? = some y → ltS y x = true) → (∀ y, fs[i]? = some y → ltS y x = false) → insS x fs = if fs[i]? = some x then fs else fs.take i ++ [x] ++ fs.drop i
  | [], 0, _, _, _ => rfl
  | [], i + 1, h, _, _ => by simp at h
  | y :: r, 0, _, _, h => by
    have h1 := h y rfl
    rw [insS, h1, if_neg Bool.false_ne_true]
    by_cases e : y = x
    · rw [if_pos e, if_pos (by rw [e]; rfl)]
    · rw [if_neg e, if_neg (by simpa using e)]
      rfl
  | y :: r, i + 1, hl, h1, h2 => by
    have a := h1 0 y (by omega) rfl
    have ih := insS_at (x := x) r i (by simpa using hl) (fun j z hj hz => h1 (j + 1) z (by omega) (by simpa using hz)) (fun z hz => h2 z (by simpa using hz))
    rw [insS, if_pos a, ih]
    by_cases e : r[i]? = some x
    · rw [if_pos e, if_pos (by simpa using e)]
    · rw [if_neg e, if_neg (by simpa using e)]
      rfl
structure ShOk (s : Sh) : Prop where
  pos : 0 < s.1
  lt : s.1 < s.2
  le : s.2 ≤ 12
  gc : Nat.gcd s.1 s.2 = 1
def ShAt (H : Hp) (v : V) (s : Sh) : Prop := ∃ a, v = .ref a ∧ H a = some (.tup [.int s.1, .int s.2])
theorem ShAt.tup {H H' : Hp} {v : V} {s : Sh} (h : ShAt H v s) (e : TupS H H') : ShAt H' v s := by
  obtain ⟨a, h1, h2⟩ := h
  exact ⟨a, h1, e _ _ h2⟩
def shD (s : Sh) : PyData := .tuple [.int s.1, .int s.2]
theorem shD_eqv (a b : Sh) : PyData.eqv (shD a) (shD b) = decide (a = b) := by
  obtain ⟨a1, a2⟩ := a
  obtain ⟨b1, b2⟩ := b
  show (PyData.eqv (.int a1) (.int b1) && (PyData.eqv (.int a2) (.int b2) && true)) = _
  rw [show PyData.eqv (.int (a1 : Int)) (.int (b1 : Int)) = ((a1 : Int) == (b1 : Int)) from by simp [PyData.eqv], show PyData.eqv (.int (a2 : Int)) (.int (b2 : Int)) = ((a2 : Int) == (b2 : Int)) from by simp [PyData.eqv]]
  by_cases h1 : a1 = b1 <;> by_cases h2 : a2 = b2 <;> simp [h1, h2, Prod.mk.injEq] <;> omega
/-! ascending, each once -/
theorem ltS_of {a b : Sh} (ha : ShOk a) (hb : ShOk b) (h1 : ltS a b = false) (h2 : a ≠ b) : ltS b a = true := by
  unfold ltS at h1 ⊢
  have h1 := of_decide_eq_false h1
  refine decide_eq_true ?_
  rcases Nat.lt_trichotomy (b.1 * a.2) (a.1 * b.2) with q | q | q
  · exact q
  · exfalso
    apply h2
    have d1 : a.1 ∣ b.1 := by
      have : a.1 ∣ b.1 * a.2 := by rw [q]; exact Nat.dvd_mul_right _ _
      exact Nat.Coprime.dvd_of_dvd_mul_right ha.gc this
    have d2 : b.1 ∣ a.1 := by
      have : b.1 ∣ a.1 * b.2 := by rw [← q]; exact Nat.dvd_mul_right _ _
      exact Nat.Coprime.dvd_of_dvd_mul_right hb.gc this
    have e1 := Nat.dvd_antisymm d1 d2
    have e2 : a.2 = b.2 := by
      rw [← e1] at q
      exact Nat.eq_of_mul_eq_mul_left ha.pos q
    exact Prod.ext e1 e2
  · exact absurd q h1
theorem ltS_trans {a b c : Sh} (hb : ShOk b) (h1 : ltS a b = true) (h2 : ltS b c = true) : ltS a c = true := by
  unfold ltS at h1 h2 ⊢
  have h1 := of_decide_eq_true h1
  have h2 := of_decide_eq_true h2
  refine decide_eq_true ?_
  have p := hb.pos
  have q : 0 < b.2 := Nat.lt_trans p hb.lt
  by_cases hc : c.2 = 0
  · rw [hc, Nat.mul_zero] at h2
    rw [hc, Nat.mul_zero]
    refine Nat.mul_pos ?_ ?_
    · rcases Nat.eq_zero_or_pos c.1 with z | z
      · rw [z, Nat.zero_mul] at h2
        omega
      · exact z
    · rcases Nat.eq_zero_or_pos a.2 with z | z
      · rw [z, Nat.mul_zero] at h1
        omega
      · exact z
  · refine Nat.lt_of_mul_lt_mul_right (a := b.2) ?_
    have e1 : a.1 * c.2 * b.2 = a.1 * b.2 * c.2 := by rw [Nat.mul_assoc, Nat.mul_comm c.2, Nat.mul_assoc]
    have e2 : c.1 * a.2 * b.2 = c.1 * b.2 * a.2 := by rw [Nat.mul_assoc, Nat.mul_comm a.2, Nat.mul_assoc]
    have l1 : a.1 * b.2 * c.2 < b.1 * a.2 * c.2 := Nat.mul_lt_mul_of_pos_right h1 (by omega)
    have l2 : b.1 * c.2 * a.2 ≤ c.1 * b.2 * a.2 := Nat.mul_le_mul_right _ (Nat.le_of_lt h2)
    have e3 : b.1 * a.2 * c.2 = b.1 * c.2 * a.2 := by rw [Nat.mul_assoc, Nat.mul_comm a.2, Nat.mul_assoc]
    rw [e1, e2]
    omega
def Asc (l : List Sh) : Prop := l.Pairwise fun a b => ltS a b = true
theorem insS_mem {x y : Sh} : ∀ {l : List Sh}, y ∈ insS x l ↔ y = x ∨ y ∈ l
  | [] => by simp [insS]
  | z :: r => by
    rw [insS]
    split
    · rw [List.mem_cons, List.mem_cons, insS_mem]
      constructor
      · rintro (h | h | h)
        · exact .inr (.inl h)
        · exact .inl h
        · exact .inr (.inr h)
      · rintro (h | h | h)
        · exact .inr (.inl h)
        · exact .inl h
        · exact .inr (.inr h)
    · split
      · rename_i e
        rw [e]
        simp
      · simp
theorem insS_asc {x : Sh} (hx : ShOk x) : ∀ {l : List Sh}, (∀ y ∈ l, ShOk y) → Asc l → Asc (insS x l)
  | [], _, _ => by simp [insS, Asc]
  | z :: r, ok, h => by
    have h := List.pairwise_cons.mp h
    rw [insS]
    split
    · rename_i c
      refine List.pairwise_cons.mpr ⟨fun y hy => ?_, insS_asc hx (fun y hy => ok y (List.mem_cons_of_mem _ hy)) h.2⟩
      rcases insS_mem.mp hy with rfl | hy
      · exact c
      · exact h.1 y hy
    · rename_i c
      split
      · exact List.pairwise_cons.mpr h
      · rename_i e
        have zx : ltS x z = true := ltS_of (ok z List.mem_cons_self) hx (by simpa using c) e
        refine List.pairwise_cons.mpr ⟨fun y hy => ?_, List.pairwise_cons.mpr h⟩
        rcases List.mem_cons.mp hy with rfl | hy
        · exact zx
        · exact ltS_trans (ok z List.mem_cons_self) zx (h.1 y hy)
def addS (l : List Sh) (s : Sh) : List Sh := if 0 < s.1 ∧ s.1 < s.2 then insS s l else l
def frOf (z : Str) : Sh := (fracOf z).getD (0, 1)
def sharesK (k : Kd) : List Sh := (match k.needs with | .str z => [frOf z] | _ => []) ++ (match k.ends with | some z => [frOf z] | none => []) ++ (match k.closing with | some (_, z) => [((frOf z).2 - (frOf z).1, (frOf z).2)] | none => [])
def cutsK (l : List Sh) (k : Kd) : List Sh := (sharesK k).foldl addS l
def cutsOf (ks : List Kd) : List Sh := ks.foldl cutsK []
def sp_factor : Sp := fun vs H Q _ => ∃ (t : Addr) (a b : Nat), vs = [.ref t] ∧ H t = some (.tup [.int a, .int b]) ∧ a ≤ 1000 ∧ b ≤ 1000 ∧ Q (.int (Nat.gcd a b : Nat)) H
def sp_lowest : Sp := fun vs H Q _ => ∃ (a b : Nat), vs = [.int a, .int b] ∧ a ≤ 1000 ∧ b ≤ 1000 ∧ Nat.gcd a b = 1 ∧ ∀ p H', H p = none → Same H H' → H' p = some (.tup [.int a, .int b]) → Q (.ref p) H'
def sp_insert (K : PySem.W.Frag) : Sp := fun vs H Q _ => ∃ (l t : Addr) (fv : List V) (fs : List Sh) (x : Sh), vs = [.ref l, .ref t] ∧ H l = some (.lst fv) ∧ All2 (ShAt H) fv fs ∧ H t = some (.tup [.int x.1, .int x.2]) ∧ (∀ y ∈ fs, y.1 ≤ 1000 ∧ y.2 ≤ 1000) ∧ x.1 ≤ 1000 ∧ x.2 ≤ 1000 ∧ fs.length ≤ 1000 ∧
  ∀ fv' H', (∀ b o, b ≠ l → H b = some o → H' b = some o) → H' l = some (.lst fv') → All2 (ShAt H') fv' (insS x fs) → Q .non H'
end Hv
namespace L
open PySem L2 Hv
variable {P : Program} {w : World} {K : PySem.W.Frag} {mg : Str → Option Value} {base : Heap}
abbrev s_factor : Stmt := top 48
abbrev N_factor : List Str := ["pair", "one", "other"]
abbrev P_factor : List Str := ["pair"]
theorem sc_factor : FnScope N_factor P_factor (defScope s_factor) := ⟨rfl, rfl, rfl, by decide +kernel, rfl, by decide +kernel, by decide +kernel⟩
theorem ok_factor {f : Addr} {fd : FuncData} (D : DefAt K mg "factor" s_factor P_factor f fd) (T : Txt K mg) : FnOk P w K mg base CX0 1 f fd P_factor sp_factor := by
  refine D.fn.ok sc_factor (fun vs H Q E h => ?_) (fun cdv A outer s H vs Q E hr h => ?_)
  · obtain ⟨t, a, b, rfl, _⟩ := h
    rfl
  · obtain ⟨t, a, b, rfl, ht, a1, b1, ret⟩ := h
    refine ⟨_, (pss_cons (ps_asg (pv 0) (pg_tup (by rfl) (pgs_cons (pg_name (i := 1) sc_factor.nd rfl (.inl rfl)) (pgs_cons (pg_name (i := 2) sc_factor.nd rfl (.inl rfl)) pgs_nil))))
      (pss_cons (ps_while PassesOwn.never (pt_cmpR op_ne (pv 2) pe_int (nomark _))
      (pss_one (ps_par (i := 1) (j := 2) (by rfl) sc_factor.nd rfl rfl (by decide) rfl rfl (pa_cons (pv 2) (pa_cons (pe_op op_sub (pv 1) (pe_op op_mul (pe_op op_fdivN (pv 1) (pv 2)) (pv 2))) pa_nil)) (by rfl))))
      (pss_one (ps_ret (pv 1))))), ?_⟩
    refine ⟨_, rfl, t, _, rfl, SqT.of ht, rfl, _, _, rfl, _, _, rfl, rfl, ?_⟩
    dsimp only
    refine ⟨fun m σ' H' => ∃ x y : Nat, σ' = [some (.ref t), some (.int (x : Int)), some (.int (y : Int))] ∧ Nat.gcd x y = Nat.gcd a b ∧ m = y ∧ H' = H ∧ x ≤ 1000 ∧ y ≤ 1000, ⟨b, a, b, rfl, rfl, rfl, rfl, a1, b1⟩, ?_⟩
    rintro m σ' H' ⟨x, y, rfl, e, rfl, rfl, x1, y1⟩
    refine ⟨_, rfl, rfl, _, rfl, ?_⟩
    by_cases h0 : m = 0
    · subst h0
      refine ifNF rfl ⟨_, rfl, ?_⟩
      rw [Nat.gcd_zero_right] at e
      rw [e]
      exact ret
    · refine ifNT (fun q => h0 (by have := V.int.inj q; omega)) ?_
      have em : (x : Int) - (x : Int).fdiv (m : Int) * (m : Int) = ((x % m : Nat) : Int) := by
        rw [Int.fdiv_eq_ediv_of_nonneg _ (by omega)]
        have := Int.mul_ediv_add_emod (x : Int) (m : Int)
        have h2 : ((x % m : Nat) : Int) = (x : Int) % (m : Int) := rfl
        rw [h2, Int.mul_comm]
        omega
      have fb : (x : Int).fdiv (m : Int) ≤ 1000 ∧ 0 ≤ (x : Int).fdiv (m : Int) := by
        rw [Int.fdiv_eq_ediv_of_nonneg _ (by omega)]
        refine ⟨Int.le_trans (Int.ediv_le_self _ (by omega)) (by omega), Int.ediv_nonneg (by omega) (by omega)⟩
      refine ⟨fun σ2 H2 => σ2 = [some (.ref t), some (.int (m : Int)), some (.int ((x % m : Nat) : Int))] ∧ H2 = H', ?_, ?_⟩
      · rintro σ2 H2 ⟨rfl, rfl⟩
        refine ⟨x % m, Nat.mod_lt _ (by omega), m, x % m, rfl, ?_, rfl, rfl, y1, Nat.le_trans (Nat.mod_le _ _) x1⟩
        rw [Nat.gcd_comm, ← Nat.gcd_rec, Nat.gcd_comm, e]
      · refine ⟨_, rfl, _, rfl, _, rfl, _, rfl, _, _, rfl, rfl, ⟨by omega, by omega⟩, _, rfl, _, _, rfl, rfl, .inl ⟨by omega, by omega⟩, _, _, rfl, rfl, _, _, rfl, ?_, rfl⟩
        dsimp only
        rw [em]
        rfl
abbrev s_lowest : Stmt := top 49
abbrev N_lowest : List Str := ["one", "other", "common"]
abbrev P_lowest : List Str := ["one", "other"]
theorem sc_lowest : FnScope N_lowest P_lowest (defScope s_lowest) := ⟨rfl, rfl, rfl, by decide +kernel, rfl, by decide +kernel, by decide +kernel⟩
theorem ok_lowest {f f1 : Addr} {fd fd1 : FuncData} (D : DefAt K mg "lowest" s_lowest P_lowest f fd) (T : Txt K mg) (D_factor : DefAt K mg "factor" s_factor P_factor f1 fd1) : FnOk P w K mg base CX0 2 f fd P_lowest sp_lowest := by
  have G_factor : FnOk P w K mg base CX0 1 f1 fd1 P_factor sp_factor := ok_factor D_factor T
  refine D.fn.ok sc_lowest (fun vs H Q E h => ?_) (fun cdv A outer s H vs Q E hr h => ?_)
  · obtain ⟨a, b, rfl, _⟩ := h
    rfl
  · obtain ⟨a, b, rfl, a1, b1, g, ret⟩ := h
    refine ⟨_, (pss_cons (ps_asg (pe_call G_factor (hr.mono (by decide)) rfl D_factor.mg D_factor.fn.kp D_factor.bd .nil pass0 (pa_cons (pe_tup (pa_cons (pv 0) (pa_cons (pv 1) pa_nil))) pa_nil)) (pg_name (i := 2) sc_lowest.nd rfl (.inl rfl)))
      (pss_one (ps_ret (pe_tup (pa_cons (pe_op op_fdivN (pv 0) (pv 2)) (pa_cons (pe_op op_fdivN (pv 1) (pv 2)) pa_nil)))))), ?_⟩
    refine ⟨_, rfl, _, rfl, (by show 2 ≤ sizeLine; decide), fun t ht => ⟨t, a, b, rfl, upd_same, a1, b1, ?_⟩⟩
    rw [g]
    have one : ∀ n : Nat, (n : Int).fdiv ((1 : Nat) : Int) = n := fun n => by
      rw [Int.fdiv_eq_ediv_of_nonneg _ (by decide)]
      simp
    refine ⟨_, rfl, _, rfl, _, _, rfl, rfl, ⟨by decide, by decide⟩, _, rfl, _, rfl, _, _, rfl, rfl, ⟨by decide, by decide⟩, (by show 2 ≤ sizeLine; decide), fun p hp => ?_⟩
    dsimp only
    rw [one, one]
    exact ret p _ ((same_new ht).free hp) ((same_new ht).trans (same_new hp)) upd_same
abbrev s_insert_share : Stmt := top 50
abbrev N_insert_share : List Str := ["found", "share", "at"]
abbrev P_insert_share : List Str := ["found", "share"]
theorem sc_insert_share : FnScope N_insert_share P_insert_share (defScope s_insert_share) := ⟨rfl, rfl, rfl, by decide +kernel, rfl, by decide +kernel, by decide +kernel⟩
theorem ok_insert {f : Addr} {fd : FuncData} (D : DefAt K mg "insert_share" s_insert_share P_insert_share f fd) (T : Txt K mg) : FnOk P w K mg base CX0 1 f fd P_insert_share (sp_insert K) := by
  refine D.fn.ok sc_insert_share (fun vs H Q E h => ?_) (fun cdv A outer s H vs Q E hr h => ?_)
  · obtain ⟨l, t, fv, fs, x, rfl, _⟩ := h
    rfl
  · obtain ⟨l, t, fv, fs, x, rfl, hl, al, ht, sm, x1, x2, len, ret⟩ := h
    refine ⟨_, (pss_cons (ps_asg pe_int (pg_name (i := 2) sc_insert_share.nd rfl (.inl rfl)))
      (pss_cons (ps_while PassesOwn.never (PW.pt (pw_and (pt_cmpR op_lt (pv 2) (pe_callB call_len_seq (by rfl) T.len (by decide +kernel) (pa_cons (pv 0) pa_nil)) (nomark _)) (pw_and1 (pt_cmpR op_lt (pe_op op_mul (pe_ix ix_tup (pe_ix ix_list (pv 0) (pv 2) (fun _ _ => rfl)) pe_int (fun _ _ => rfl)) (pe_ix ix_tup (pv 1) pe_int (fun _ _ => rfl))) (pe_op op_mul (pe_ix ix_tup (pv 1) pe_int (fun _ _ => rfl)) (pe_ix ix_tup (pe_ix ix_list (pv 0) (pv 2) (fun _ _ => rfl)) pe_int (fun _ _ => rfl))) (nomark _)))))
      (pss_one (ps_aug (i := 2) sc_insert_share.nd rfl (.inl rfl) pe_int ip_add)))
      (pss_one (ps_if (PW.pt (pw_or (pt_cmpR op_eq (pv 2) (pe_callB call_len_seq (by rfl) T.len (by decide +kernel) (pa_cons (pv 0) pa_nil)) (nomark _)) (pw_or1 (pt_cmpR (op_neD hr.units) (pe_ix ix_list (pv 0) (pv 2) (fun _ _ => rfl)) (pv 1) (nomark _)))))
      (pss_one (ps_expr (pe_bm PySem.F.plainAttrs_list PySem.F.slot_list_insert PySem.F.type_list_insert mt_insert (pv 0) (pa_cons (pv 2) (pa_cons (pv 1) pa_nil)))))
      pss_nil)))), ?_⟩
    have lf := al.len
    have sz : ∀ n : Nat, n ≤ 1000 → n < sizeLine := fun n hn => Nat.lt_of_le_of_lt hn (by decide)
    rw [asg_c]
    refine join_st (fun σ' H' => ∃ i : Nat, σ' = [some (.ref l), some (.ref t), some (.int (i : Int))] ∧ H = H' ∧ i ≤ fs.length ∧ (∀ j y, j < i → fs[j]? = some y → ltS y x = true) ∧ ∀ y, fs[i]? = some y → ltS y x = false) (fun nx' fin => ?_) ?_
    · refine ⟨fun m σ' H' => ∃ i : Nat, σ' = [some (.ref l), some (.ref t), some (.int (i : Int))] ∧ H = H' ∧ i ≤ fs.length ∧ (∀ j y, j < i → fs[j]? = some y → ltS y x = true) ∧ m = fs.length - i, ⟨fs.length, 0, rfl, rfl, Nat.zero_le _, fun j y hj => by omega, by omega⟩, ?_⟩
      rintro m σ' H' ⟨i, rfl, rfl, il, before, rfl⟩
      refine ⟨_, rfl, _, rfl, l, _, rfl, .inl (SqL.of hl), _, _, rfl, rfl, _, rfl, ?_⟩
      by_cases c : i < fs.length
      · obtain ⟨v, hv, a, rfl, ha⟩ := al.get' (List.getElem?_eq_getElem c)
        obtain ⟨y1, y2⟩ := sm _ (List.getElem_mem c)
        refine ifT (by omega) ⟨_, rfl, _, rfl, _, _, _, _, rfl, rfl, SqL.of hl, atI_nat hv, _, _, _, _, rfl, rfl, SqT.of ha, rfl, _, rfl, _, _, _, _, rfl, rfl, SqT.of ht, rfl, _, _, rfl, rfl, .inl ⟨by omega, by omega⟩, ?_⟩
        refine ⟨_, rfl, _, _, _, _, rfl, rfl, SqT.of ht, rfl, _, rfl, _, rfl, _, _, _, _, rfl, rfl, SqL.of hl, atI_nat hv, _, _, _, _, rfl, rfl, SqT.of ha, rfl, _, _, rfl, rfl, .inl ⟨by omega, by omega⟩, _, _, rfl, rfl, _, rfl, ?_⟩
        have eq : decide (((fs[i].1 : Nat) : Int) * ((x.2 : Nat) : Int) < ((x.1 : Nat) : Int) * ((fs[i].2 : Nat) : Int)) = ltS fs[i] x := by
          unfold ltS
          refine decide_eq_decide.mpr ?_
          rw [← Int.natCast_mul, ← Int.natCast_mul]
          omega
        dsimp only
        rw [eq]
        cases c2 : ltS fs[i] x with
        | true =>
          refine iteT ⟨fun σ2 H2 => σ2 = [some (.ref l), some (.ref t), some (.int ((i : Int) + 1))] ∧ H = H2, ?_, ?_⟩
          · rintro σ2 H2 ⟨rfl, rfl⟩
            refine ⟨fs.length - (i + 1), by omega, i + 1, rfl, rfl, c, fun j y hj hy => ?_, rfl⟩
            by_cases hji : j < i
            · exact before j y hji hy
            · have : j = i := by omega
              subst this
              rw [List.getElem?_eq_getElem c] at hy
              cases hy
              exact c2
          · exact ⟨_, rfl, _, _, rfl, rfl, rfl, rfl⟩
        | false =>
          refine iteF (fin _ _ ⟨i, rfl, rfl, il, before, fun y hy => ?_⟩)
          rw [List.getElem?_eq_getElem c] at hy
          cases hy
          exact c2
      · refine ifF (by omega) (iteF (fin _ _ ⟨i, rfl, rfl, il, before, fun y hy => ?_⟩))
        rw [List.getElem?_eq_none (by omega)] at hy
        cases hy
    rintro _ _ ⟨i, rfl, rfl, il, before, after⟩
    have res := insS_at fs i il before after
    have same : fs[i]? = some x → Q .non H := fun e => by
      rw [if_pos e] at res
      refine ret fv H (fun _ _ _ h => h) hl ?_
      rw [res]
      exact al
    have ins : fs[i]? ≠ some x → Q .non (upd H l (.lst (fv.take i ++ [.ref t] ++ fv.drop i))) := fun e => by
      rw [if_neg e] at res
      refine ret _ _ (fun b o n h => by rw [upd_ne n]; exact h) upd_same ?_
      rw [res]
      have tp : TupS H (upd H l (.lst (fv.take i ++ [.ref t] ++ fv.drop i))) := TupS.lst hl
      have al2 : All2 (ShAt (upd H l (.lst (fv.take i ++ [.ref t] ++ fv.drop i)))) fv fs := al.mono fun _ _ z => z.tup tp
      have xt : ShAt (upd H l (.lst (fv.take i ++ [.ref t] ++ fv.drop i))) (.ref t) x := ⟨t, rfl, tp _ _ ht⟩
      generalize upd H l (.lst (fv.take i ++ [.ref t] ++ fv.drop i)) = H2 at al2 xt
      exact (al2.take i |>.append (.cons xt .nil)).append (al2.drop i)
    have i63 : (2 : Int) ^ 63 = 9223372036854775808 := by decide
    refine ⟨_, rfl, _, rfl, l, _, rfl, .inl (SqL.of hl), rfl, _, rfl, ?_⟩
    by_cases c : i = fs.length
    · have ne : fs[i]? ≠ some x := by
        rw [List.getElem?_eq_none (by omega)]
        intro q
        cases q
      refine ifT (by rw [lf, c]) (iteT ⟨_, rfl, .inl ⟨rfl, _, SqL.of hl⟩, _, rfl, _, rfl, l, _, _, _, rfl, rfl, hl, sz _ (by omega), by omega, by omega, ?_⟩)
      exact ins ne
    · have c' : i < fs.length := by omega
      obtain ⟨v, hv, a, rfl, ha⟩ := al.get' (List.getElem?_eq_getElem c')
      refine ifF (fun q => c (by have := V.int.inj q; omega)) ⟨_, rfl, _, rfl, _, _, _, _, rfl, rfl, SqL.of hl, atI_nat hv, _, rfl, shD fs[i], shD x, .tup (SqT.of ha) (.cons (.int _) (.cons (.int _) .nil)), .tup (SqT.of ht) (.cons (.int _) (.cons (.int _) .nil)), rfl, rfl, _, rfl, ?_⟩
      rw [shD_eqv]
      by_cases e : fs[i] = x
      · exact ifNF e (same (by rw [List.getElem?_eq_getElem c', e]))
      · refine ifNT e ⟨_, rfl, .inl ⟨rfl, _, SqL.of hl⟩, _, rfl, _, rfl, l, _, _, _, rfl, rfl, hl, sz _ (by omega), by omega, by omega, ?_⟩
        refine ins ?_
        rw [List.getElem?_eq_getElem c']
        intro q
        exact e (Option.some.inj q)
end L

namespace Hv
open PySem L2
theorem frOf_ok {z : Str} (h : BT z) : (frOf z).1 ≤ (frOf z).2 ∧ (frOf z).2 ≤ 12 ∧ 1 ≤ (frOf z).2 ∧ Nat.gcd (frOf z).1 (frOf z).2 = 1 ∧ fracOf z = some (frOf z) := by
  obtain ⟨⟨p, q⟩, e⟩ := Option.isSome_iff_exists.mp h.2
  have h1 := fracOf_le e
  have e2 : frOf z = (p, q) := by
    unfold frOf
    rw [e]
    rfl
  rw [e2]
  exact ⟨h1.2.2.2.1, h1.2.1, h1.2.2.1, h1.2.2.2.2, e⟩
structure ShLe (s : Sh) : Prop where
  a : s.1 ≤ 12
  b : s.2 ≤ 12
  g : Nat.gcd s.1 s.2 = 1
theorem gcd_sub {p q : Nat} (h : p ≤ q) (g : Nat.gcd p q = 1) : Nat.gcd (q - p) q = 1 := by
  have h1 : Nat.gcd (q - p) q ∣ q := Nat.gcd_dvd_right _ _
  have h2 : Nat.gcd (q - p) q ∣ q - p := Nat.gcd_dvd_left _ _
  have h3 : Nat.gcd (q - p) q ∣ p := by
    have := Nat.dvd_sub h1 h2
    rwa [Nat.sub_sub_self h] at this
  have := Nat.dvd_gcd h3 h1
  rw [g] at this
  exact Nat.dvd_one.mp this
def nSh : V → List Sh
  | .str z => [frOf z]
  | _ => []
def eSh : Option Str → List Sh
  | some z => [frOf z]
  | none => []
def cSh : Option (Int × Str) → List Sh
  | some (_, z) => [((frOf z).2 - (frOf z).1, (frOf z).2)]
  | none => []
theorem shares_eq (k : Kd) : sharesK k = nSh k.needs ++ eSh k.ends ++ cSh k.closing := by
  unfold sharesK nSh eSh cSh
  rfl
theorem nSh_ok {k : Kd} (ok : k.Ok) : ∀ s ∈ nSh k.needs, ShLe s := by
  intro s hs
  rcases ok.needs with ⟨i, e, _⟩ | ⟨z, e, bz⟩
  · rw [e] at hs; cases hs
  · rw [e] at hs
    have hs : s ∈ [frOf z] := hs
    rw [List.mem_singleton.mp hs]
    obtain ⟨h1, h2, _, h4, _⟩ := frOf_ok bz
    exact ⟨by omega, h2, h4⟩
theorem eSh_ok {k : Kd} (ok : k.Ok) : ∀ s ∈ eSh k.ends, ShLe s := by
  intro s hs
  cases e : k.ends with
  | none => rw [e] at hs; cases hs
  | some z =>
    rw [e] at hs
    have hs : s ∈ [frOf z] := hs
    rw [List.mem_singleton.mp hs]
    obtain ⟨h1, h2, _, h4, _⟩ := frOf_ok (ok.ends z e)
    exact ⟨by omega, h2, h4⟩
theorem cSh_ok {k : Kd} (ok : k.Ok) : ∀ s ∈ cSh k.closing, ShLe s := by
  intro s hs
  cases e : k.closing with
  | none => rw [e] at hs; cases hs
  | some p =>
    obtain ⟨i, z⟩ := p
    rw [e] at hs
    have hs : s ∈ [((frOf z).2 - (frOf z).1, (frOf z).2)] := hs
    rw [List.mem_singleton.mp hs]
    obtain ⟨h1, h2, _, h4, _⟩ := frOf_ok (ok.closing i z e).2.2
    exact ⟨by show (frOf z).2 - (frOf z).1 ≤ 12; omega, h2, gcd_sub h1 h4⟩
theorem shares_ok {k : Kd} (ok : k.Ok) : (∀ s ∈ sharesK k, ShLe s) ∧ (sharesK k).length ≤ 3 := by
  rw [shares_eq]
  refine ⟨fun s hs => ?_, ?_⟩
  · simp only [List.mem_append] at hs
    rcases hs with (hs | hs) | hs
    · exact nSh_ok ok s hs
    · exact eSh_ok ok s hs
    · exact cSh_ok ok s hs
  · have l1 : (nSh k.needs).length ≤ 1 := by cases k.needs <;> simp [nSh]
    have l2 : (eSh k.ends).length ≤ 1 := by cases k.ends <;> simp [eSh]
    have l3 : (cSh k.closing).length ≤ 1 := by cases k.closing <;> simp [cSh]
    simp only [List.length_append]
    omega
theorem insS_len (x : Sh) : ∀ l : List Sh, (insS x l).length ≤ l.length + 1
  | [] => by simp [insS]
  | y :: r => by
    have := insS_len x r
    rw [insS]
    split
    · simp; omega
    · split <;> simp
structure CutOk (l : List Sh) (n : Nat) : Prop where
  ok : ∀ y ∈ l, ShOk y
  asc : Asc l
  len : l.length ≤ n
theorem CutOk.add {l : List Sh} {n : Nat} {s : Sh} (h : CutOk l n) (hs : ShLe s) : CutOk (addS l s) (n + 1) := by
  unfold addS
  split
  · rename_i c
    have so : ShOk s := ⟨c.1, c.2, hs.b, hs.g⟩
    refine ⟨fun y hy => ?_, insS_asc so h.ok h.asc, ?_⟩
    · rcases insS_mem.mp hy with rfl | hy
      · exact so
      · exact h.ok y hy
    · have := insS_len s l
      have := h.len
      omega
  · exact ⟨h.ok, h.asc, by have := h.len; omega⟩
theorem CutOk.fold {ss : List Sh} : ∀ {l : List Sh} {n : Nat}, CutOk l n → (∀ s ∈ ss, ShLe s) → CutOk (ss.foldl addS l) (n + ss.length) := by
  induction ss with
  | nil => intro l n h _; exact h
  | cons s r ih =>
    intro l n h hs
    have := ih (h.add (hs s List.mem_cons_self)) fun x hx => hs x (List.mem_cons_of_mem _ hx)
    rw [List.foldl_cons, List.length_cons]
    have e : n + 1 + r.length = n + (r.length + 1) := by omega
    rw [e] at this
    exact this
theorem fold_mem {x : Sh} : ∀ (ss l : List Sh), x ∈ ss.foldl addS l ↔ x ∈ l ∨ (x ∈ ss ∧ 0 < x.1 ∧ x.1 < x.2)
  | [], l => by simp
  | s :: r, l => by
    rw [List.foldl_cons, fold_mem r]
    unfold addS
    split
    · rename_i c
      rw [insS_mem, List.mem_cons]
      constructor
      · rintro ((h | h) | ⟨h1, h2⟩)
        · exact .inr ⟨.inl h, by rw [h]; exact c⟩
        · exact .inl h
        · exact .inr ⟨.inr h1, h2⟩
      · rintro (h | ⟨h | h, h2⟩)
        · exact .inl (.inr h)
        · exact .inl (.inl h)
        · exact .inr ⟨h, h2⟩
    · rename_i c
      rw [List.mem_cons]
      constructor
      · rintro (h | ⟨h1, h2⟩)
        · exact .inl h
        · exact .inr ⟨.inr h1, h2⟩
      · rintro (h | ⟨h | h, h2⟩)
        · exact .inl h
        · exact absurd (by rw [← h]; exact h2) c
        · exact .inr ⟨h, h2⟩
theorem cuts_fold (ks : List Kd) : ∀ l : List Sh, ks.foldl cutsK l = (ks.flatMap sharesK).foldl addS l := by
  induction ks with
  | nil => intro l; rfl
  | cons k r ih =>
    intro l
    rw [List.foldl_cons, ih, List.flatMap_cons, List.foldl_append]
    rfl
theorem cutsOf_ok {ks : List Kd} (hk : ∀ k ∈ ks, k.Ok) (h6 : ks.length ≤ 6) : CutOk (cutsOf ks) 18 := by
  have e : cutsOf ks = (ks.flatMap sharesK).foldl addS [] := cuts_fold ks []
  rw [e]
  have l : (ks.flatMap sharesK).length ≤ ks.length * 3 := by
    clear e h6
    induction ks with
    | nil => simp
    | cons k r ih =>
      rw [List.flatMap_cons, List.length_append, List.length_cons, Nat.succ_mul]
      have := ih fun x hx => hk x (List.mem_cons_of_mem _ hx)
      have := (shares_ok (hk k List.mem_cons_self)).2
      omega
  have := CutOk.fold (ss := ks.flatMap sharesK) (l := []) (n := 0) ⟨(fun y hy => nomatch hy), List.Pairwise.nil, by simp⟩ fun s hs => by
    obtain ⟨k, h1, h2⟩ := List.mem_flatMap.mp hs
    exact (shares_ok (hk k h1)).1 s h2
  exact ⟨this.ok, this.asc, by have := this.len; omega⟩
theorem cutsOf_mem {ks : List Kd} {x : Sh} : x ∈ cutsOf ks ↔ (∃ k ∈ ks, x ∈ sharesK k) ∧ 0 < x.1 ∧ x.1 < x.2 := by
  have e : cutsOf ks = (ks.flatMap sharesK).foldl addS [] := cuts_fold ks []
  rw [e, fold_mem]
  simp [List.mem_flatMap]
/-! the bounds of a kind -/
def bS : V → List Str
  | .str z => [z]
  | _ => []
def bndsK (k : Kd) : List Str := [k.needs, endsV k.ends].flatMap bS
theorem bnds_shares (k : Kd) : (bndsK k).map frOf = nSh k.needs ++ eSh k.ends := by
  unfold bndsK
  simp only [List.flatMap_cons, List.flatMap_nil, List.append_nil, List.map_append]
  congr 1
  · cases k.needs <;> rfl
  · cases k.ends <;> rfl
theorem bnds_bt {k : Kd} (ok : k.Ok) : ∀ z ∈ bndsK k, BT z := by
  intro z hz
  unfold bndsK at hz
  simp only [List.flatMap_cons, List.flatMap_nil, List.append_nil, List.mem_append] at hz
  rcases hz with hz | hz
  · rcases ok.needs with ⟨i, e, _⟩ | ⟨y, e, by_⟩
    · rw [e] at hz; cases hz
    · rw [e] at hz
      have hz : z ∈ [y] := hz
      rw [List.mem_singleton.mp hz]
      exact by_
  · cases e : k.ends with
    | none => rw [e] at hz; cases hz
    | some y =>
      rw [e] at hz
      have hz : z ∈ [y] := hz
      rw [List.mem_singleton.mp hz]
      exact ok.ends y e
theorem bnds_vals {k : Kd} (ok : k.Ok) : ∀ x ∈ [k.needs, endsV k.ends], x = .non ∨ (∃ i, x = .int i) ∨ ∃ z, x = .str z := by
  intro x hx
  simp only [List.mem_cons, List.not_mem_nil, or_false] at hx
  rcases hx with rfl | rfl
  · rcases ok.needs with ⟨i, e, _⟩ | ⟨y, e, _⟩
    · exact .inr (.inl ⟨i, e⟩)
    · exact .inr (.inr ⟨y, e⟩)
  · cases k.ends with
    | none => exact .inl rfl
    | some y => exact .inr (.inr ⟨y, rfl⟩)
theorem bnds_len (k : Kd) : (bndsK k).length ≤ 2 := by
  unfold bndsK
  simp only [List.flatMap_cons, List.flatMap_nil, List.append_nil, List.length_append]
  have b : ∀ v : V, (bS v).length ≤ 1 := by intro v; cases v <;> simp [bS]
  have := b k.needs
  have := b (endsV k.ends)
  omega
/-! promises -/
def sp_check_rules (K : PySem.W.Frag) (C CR CU : Addr) : Sp := fun vs H Q _ => ∃ (a : Addr) (ks : List Kd) (rs : List R3), vs = [.ref a] ∧ RulesAt K C CR CU H a ks rs ∧ Q .non H
def sp_rkinds (K : PySem.W.Frag) (C CR CU : Addr) : Sp := fun vs H Q _ => ∃ (a : Addr) (ks : List Kd) (rs : List R3), vs = [.ref a] ∧ RulesAt K C CR CU H a ks rs ∧ ∀ kt kv, H kt = some (.tup kv) → KindsAt K C H kv ks → Q (.ref kt) H
def sp_cuts_of (K : PySem.W.Frag) (C CR CU : Addr) : Sp := fun vs H Q _ => ∃ (a : Addr) (ks : List Kd) (rs : List R3), vs = [.ref a] ∧ RulesAt K C CR CU H a ks rs ∧ (∀ k ∈ ks, k.Ok) ∧ ks.length ≤ 6 ∧
  ∀ p fv H', H p = none → Same H H' → H' p = some (.lst fv) → All2 (ShAt H') fv (cutsOf ks) → Q (.ref p) H'
def sp_cuts (K : PySem.W.Frag) (C CR CU : Addr) : Sp := fun vs H Q _ => ∃ (a : Addr) (ks : List Kd) (rs : List R3), vs = [.ref a] ∧ RulesAt K C CR CU H a ks rs ∧ (∀ k ∈ ks, k.Ok) ∧ ks.length ≤ 6 ∧
  ∀ p fv H', H p = none → Same H H' → H' p = some (.tup fv) → All2 (ShAt H') fv (cutsOf ks) → Q (.ref p) H'
end Hv

namespace L
open PySem L2 Hv
variable {P : Program} {w : World} {K : PySem.W.Frag} {mg : Str → Option Value} {base : Heap}
abbrev s_check_rules : Stmt := top 46
abbrev N_check_rules : List Str := ["value"]
abbrev P_check_rules : List Str := ["value"]
theorem sc_check_rules : FnScope N_check_rules P_check_rules (defScope s_check_rules) := ⟨rfl, rfl, rfl, by decide +kernel, rfl, by decide +kernel, by decide +kernel⟩
theorem ok_check_rules {C CR CU f : Addr} {fd : FuncData} (D : DefAt K mg "check_rules" s_check_rules P_check_rules f fd) (T : Txt K mg) (TU : RulTxt K mg CU) : FnOk P w K mg base CX0 1 f fd P_check_rules (sp_check_rules K C CR CU) := by
  refine D.fn.ok sc_check_rules (fun vs H Q E h => ?_) (fun cdv A outer s H vs Q E hr h => ?_)
  · obtain ⟨a, ks, rs, rfl, _⟩ := h
    rfl
  · obtain ⟨a, ks, rs, rfl, ⟨dx, mt, kt, rt, ll, kv, rv, h1, _⟩, ret⟩ := h
    refine ⟨_, (pss_one (ps_if (pt_not (pt_val (pe_callB call_isi (by rfl) T.isinstance (by decide +kernel) (pa_cons (pv 0) (pa_cons (pe_glob (v := .ref CU) rfl TU.mg rfl) pa_nil)))))
      (pss_one ps_never)
      pss_nil)), ?_⟩
    exact ⟨_, rfl, _, _, _, _, true, rfl, .own CU, .base (.ins h1 TU.c TU.ha TU.hn TU.htk TU.hm), TU.k1, _, rfl, iteF ret⟩
abbrev s_Rules_kinds : Stmt := inClass (top 44) 2
abbrev N_Rules_kinds : List Str := ["self"]
abbrev P_Rules_kinds : List Str := ["self"]
theorem sc_Rules_kinds : FnScope N_Rules_kinds P_Rules_kinds (defScope s_Rules_kinds) := ⟨rfl, rfl, rfl, by decide +kernel, rfl, by decide +kernel, by decide +kernel⟩
theorem ok_Rules_kinds {C CR CU f : Addr} {fd : FuncData} (D : PropAt K CU "kinds" "Rules.kinds" s_Rules_kinds P_Rules_kinds f fd) (TU : RulTxt K mg CU) : FnOk P w K mg base CX0 1 f fd P_Rules_kinds (sp_rkinds K C CR CU) := by
  refine D.fn.ok sc_Rules_kinds (fun vs H Q E h => ?_) (fun cdv A outer s H vs Q E hr h => ?_)
  · obtain ⟨a, ks, rs, rfl, _⟩ := h
    rfl
  · obtain ⟨a, ks, rs, rfl, ⟨dx, mt, kt, rt, ll, kv, rv, h1, h2, h3, h4, h5, h6, h7⟩, ret⟩ := h
    refine ⟨_, (pss_one (ps_ret (pe_ix ix_tup (pe_fld (pv 0) rfl) pe_int (fun _ _ => rfl)))), ?_⟩
    exact ⟨_, rfl, a, CU, dx, _, _, rfl, h1, TU.c, TU.n1, rfl, mt, _, _, _, rfl, rfl, SqT.of h2, rfl, ret kt kv h3 h6⟩
abbrev s_cuts_of : Stmt := top 51
abbrev N_cuts_of : List Str := ["rules", "found", "kind", "bounds", "shares", "part", "whole", "bound"]
abbrev P_cuts_of : List Str := ["rules"]
theorem sc_cuts_of : FnScope N_cuts_of P_cuts_of (defScope s_cuts_of) := ⟨rfl, rfl, rfl, by decide +kernel, rfl, by decide +kernel, by decide +kernel⟩
theorem ok_cuts_of {C CR CU f f0 f1 f2 f3 f4 f5 f6 f7 : Addr} {fd fd0 fd1 fd2 fd3 fd4 fd5 fd6 fd7 : FuncData} (D : DefAt K mg "cuts_of" s_cuts_of P_cuts_of f fd) (T : Txt K mg) (TK : OwnTxt K mg "Kind" C) (KPS : KProps K C) (TU : RulTxt K mg CU)
    (D_Rules_kinds : PropAt K CU "kinds" "Rules.kinds" s_Rules_kinds P_Rules_kinds f0 fd0) (D_is_integer : DefAt K mg "is_integer" s_is_integer P_is_integer f1 fd1)
    (D_fraction_of : DefAt K mg "fraction_of" s_fraction_of P_fraction_of f2 fd2) (D_number_of : DefAt K mg "number_of" s_number_of P_number_of f3 fd3) (D_common_divisor : DefAt K mg "common_divisor" s_common_divisor P_common_divisor f4 fd4)
    (D_insert_share : DefAt K mg "insert_share" s_insert_share P_insert_share f5 fd5) (D_lowest : DefAt K mg "lowest" s_lowest P_lowest f6 fd6) (D_factor : DefAt K mg "factor" s_factor P_factor f7 fd7) :
    FnOk P w K mg base CX0 3 f fd P_cuts_of (sp_cuts_of K C CR CU) := by
  obtain ⟨⟨fk0, fdk0, D_Kind_name⟩, ⟨fk1, fdk1, D_Kind_talks⟩, ⟨fk2, fdk2, D_Kind_needs⟩, ⟨fk3, fdk3, D_Kind_closing⟩, ⟨fk4, fdk4, D_Kind_ends⟩⟩ := KPS
  have G_Kind_name : FnOk P w K mg base CX0 1 fk0 fdk0 P_Kind_name (sp_part C 0) := ok_Kind_name D_Kind_name TK.c TK.na
  have G_Kind_talks : FnOk P w K mg base CX0 1 fk1 fdk1 P_Kind_talks (sp_part C 1) := ok_Kind_talks D_Kind_talks TK.c TK.na
  have G_Kind_needs : FnOk P w K mg base CX0 1 fk2 fdk2 P_Kind_needs (sp_part C 2) := ok_Kind_needs D_Kind_needs TK.c TK.na
  have G_Kind_closing : FnOk P w K mg base CX0 1 fk3 fdk3 P_Kind_closing (sp_part C 3) := ok_Kind_closing D_Kind_closing TK.c TK.na
  have G_Kind_ends : FnOk P w K mg base CX0 1 fk4 fdk4 P_Kind_ends (sp_part C 4) := ok_Kind_ends D_Kind_ends TK.c TK.na
  have G_Rules_kinds : FnOk P w K mg base CX0 1 f0 fd0 P_Rules_kinds (sp_rkinds K C CR CU) := ok_Rules_kinds D_Rules_kinds TU
  have G_is_integer : FnOk P w K mg base CX0 1 f1 fd1 P_is_integer (sp_is_integer K) := ok_is_integer D_is_integer T
  have G_fraction_of : FnOk P w K mg base CX0 2 f2 fd2 P_fraction_of (sp_fraction_of K) := ok_fraction_of D_fraction_of T D_number_of D_common_divisor
  have G_insert_share : FnOk P w K mg base CX0 1 f5 fd5 P_insert_share (sp_insert K) := ok_insert D_insert_share T
  have G_lowest : FnOk P w K mg base CX0 2 f6 fd6 P_lowest sp_lowest := ok_lowest D_lowest T D_factor
  refine D.fn.ok sc_cuts_of (fun vs H Q E h => ?_) (fun cdv A outer s H vs Q E hr h => ?_)
  · obtain ⟨a, ks, rs, rfl, _⟩ := h
    rfl
  · obtain ⟨a, ks, rs, rfl, hR, kok, k6, ret⟩ := h
    refine ⟨_, (pss_cons (ps_asg (pe_lst pa_nil) (pg_name (i := 1) sc_cuts_of.nd rfl (.inl rfl)))
      (pss_cons (ps_for PassesOwn.never rfl (pi_tup (pe_propD (pv 0) TU.c D_Rules_kinds.pr G_Rules_kinds D_Rules_kinds.bd (hr.mono (by decide)))) (pg_name (i := 2) sc_cuts_of.nd rfl (.inl rfl))
      (pss_cons (ps_setLc (i := 3) (own := [("bound", 7)]) (g := gName 7) rfl sc_cuts_of.nd rfl rfl (sw_true rfl rfl rfl (by decide +kernel)) (pi_tup (pe_tup (pa_cons (pe_propD (pv 2) TK.c D_Kind_needs.pr G_Kind_needs D_Kind_needs.bd (hr.mono (by decide))) (pa_cons (pe_propD (pv 2) TK.c D_Kind_ends.pr G_Kind_ends D_Kind_ends.bd (hr.mono (by decide))) pa_nil)))) (blkOk_by (own := [("bound", 7)]) (N := N_cuts_of) (sc := defScope s_cuts_of) (by decide +kernel)) (fun _ _ _ _ _ => (pg_name (i := 7) sc_cuts_of.nd rfl (.inl rfl))) (fun _ _ _ _ _ => (pts_one (PW.pt (pw_and (pt_cmpR op_notN (pv 7) pe_non (nomark _)) (pw_and1 (pt_not (pt_val (pe_call G_is_integer (hr.mono (by decide)) rfl D_is_integer.mg D_is_integer.fn.kp D_is_integer.bd .nil pass0 (pa_cons (pv 7) pa_nil))))))))) (fun _ _ _ _ _ => (pv 7)))
      (pss_cons (ps_setLc (i := 4) (own := [("bound", 7)]) (g := gName 7) rfl sc_cuts_of.nd rfl rfl (sw_true rfl rfl rfl (by decide +kernel)) (pi_list (pv 3)) (blkOk_by (own := [("bound", 7)]) (N := N_cuts_of) (sc := defScope s_cuts_of) (by decide +kernel)) (fun _ _ _ _ _ => (pg_name (i := 7) sc_cuts_of.nd rfl (.inl rfl))) (fun _ _ _ _ _ => pts_nil) (fun _ _ _ _ _ => (pe_call G_fraction_of (hr.mono (by decide)) rfl D_fraction_of.mg D_fraction_of.fn.kp D_fraction_of.bd .nil pass0 (pa_cons (pv 7) pa_nil))))
      (pss_cons (ps_if (pt_cmpR op_notN (pe_propD (pv 2) TK.c D_Kind_closing.pr G_Kind_closing D_Kind_closing.bd (hr.mono (by decide))) pe_non (nomark _))
      (pss_cons (ps_asg (pe_call G_fraction_of (hr.mono (by decide)) rfl D_fraction_of.mg D_fraction_of.fn.kp D_fraction_of.bd .nil pass0 (pa_cons (pe_ix ix_tup (pe_propD (pv 2) TK.c D_Kind_closing.pr G_Kind_closing D_Kind_closing.bd (hr.mono (by decide))) pe_int (fun _ _ => rfl)) pa_nil)) (pg_tup (by rfl) (pgs_cons (pg_name (i := 5) sc_cuts_of.nd rfl (.inl rfl)) (pgs_cons (pg_name (i := 6) sc_cuts_of.nd rfl (.inl rfl)) pgs_nil))))
      (pss_one (ps_expr (pe_bm PySem.F.plainAttrs_list PySem.F.slot_list_append PySem.F.type_list_append mt_append (pv 4) (pa_cons (pe_tup (pa_cons (pe_op op_sub (pv 6) (pv 5)) (pa_cons (pv 6) pa_nil))) pa_nil)))))
      pss_nil)
      (pss_one (ps_for PassesOwn.never rfl (pi_list (pv 4)) (pg_tup (by rfl) (pgs_cons (pg_name (i := 5) sc_cuts_of.nd rfl (.inl rfl)) (pgs_cons (pg_name (i := 6) sc_cuts_of.nd rfl (.inl rfl)) pgs_nil)))
      (pss_one (ps_if (pt_chain op_lt op_lt pe_int (pv 5) (pv 6))
      (pss_one (ps_expr (pe_call G_insert_share (hr.mono (by decide)) rfl D_insert_share.mg D_insert_share.fn.kp D_insert_share.bd .nil pass0 (pa_cons (pv 1) (pa_cons (pe_call G_lowest (hr.mono (by decide)) rfl D_lowest.mg D_lowest.fn.kp D_lowest.bd .nil pass0 (pa_cons (pv 5) (pa_cons (pv 6) pa_nil))) pa_nil)))))
      pss_nil))))))))
      (pss_one (ps_ret (pv 1))))), ?_⟩
    refine ⟨(by show 0 ≤ sizeLine; decide), fun F hF => ?_⟩
    have s1 := same_new (o := .lst []) hF
    have hF1 := upd_same (H := H) (a := F) (o := .lst [])
    dsimp only [gName]
    generalize upd H F (.lst []) = H1 at s1 hF1 ⊢
    have hR1 := hR.same s1
    obtain ⟨dx, mt, kt0, rt, ll, kv0, rv, h1, _⟩ := id hR1
    refine ⟨_, rfl, a, dx, _, rfl, h1, a, ks, rs, rfl, hR1, fun kt kv hk ak => ?_⟩
    have lk := ak.len
    have sz : ∀ n : Nat, n ≤ 100 → n < sizeLine := fun n hn => Nat.lt_of_le_of_lt hn (by decide)
    refine ⟨kt, rfl, ⟨_, SqT.of hk⟩, for_tup (K := K) (a := kt) (xs := kv) (fun i σ' H' => ∃ x2 x3 x4 x5 x6 x7 fv, σ' = [some (.ref a), some (.ref F), x2, x3, x4, x5, x6, x7] ∧ Same H H' ∧ Nol H1 H' ∧ H' F = some (.lst fv) ∧ All2 (ShAt H') fv (cutsOf (ks.take i))) ?_ ?_ ?_ ?_⟩
    · exact ⟨none, none, none, none, none, none, [], rfl, s1, Nol.of (Same.refl _), hF1, .nil⟩
    · rintro i σ' H' _ ⟨_, _, _, _, _, _, _, _, _, no, _⟩
      exact SqT.of (no _ _ hk (by intro xs q; cases q))
    · rintro i v σ' H2 hv ⟨x2, x3, x4, x5, x6, x7, fv, rfl, s2, no, hF2, af⟩
      obtain ⟨k, hki, b, rfl, hb⟩ := ak.get hv
      have il : i < ks.length := (List.getElem?_eq_some_iff.mp hki).1
      have ek : ks[i] = k := (List.getElem?_eq_some_iff.mp hki).2
      have okk := kok k (ek ▸ List.getElem_mem il)
      obtain ⟨dy, pt, cl, b1, b2, b3⟩ := hb.nol no
      dsimp only [gName]
      have at_ : ∀ (H5 : Hp) (_ : Nol H2 H5) (σ : L2.St) (j : Int) (v : V) (Q' : VK), σ[2]? = some (some (.ref b)) → atI [.str k.name, .int k.talks, k.needs, cl, endsV k.ends] j = some v → Q' v H5 → tProp C (sp_part C j) [] E0 (tVar 2) σ H5 Q' := fun H5 s5 σ j v Q' e e2 q => part_at (s5 _ _ b1 (by intro xs q; cases q)) (s5 _ _ b2 (by intro xs q; cases q)) j v (fun R r => ⟨_, e, r⟩) e2 q
      -- the bounds
      refine join_asg (fun v H' => ∃ B, v = .ref B ∧ Same H2 H' ∧ H' B = some (.lst ((bndsK k).map V.str))) (fun Q' fin => ?_) ?_
      · refine at_ _ (Nol.of (Same.refl _)) _ 2 _ _ rfl rfl (at_ _ (Nol.of (Same.refl _)) _ 4 _ _ rfl rfl ⟨(by show 2 ≤ sizeLine; decide), fun t ht => ⟨t, rfl, ⟨_, SqT.of upd_same⟩, fun B hB => ?_⟩⟩)
        have st := same_new (H := H2) (o := .tup [k.needs, endsV k.ends]) ht
        have htt := upd_same (H := H2) (a := t) (o := .tup [k.needs, endsV k.ends])
        generalize upd H2 t (.tup [k.needs, endsV k.ends]) = H3 at st htt hB ⊢
        refine lc_tup (K := K) (a := t) (xs := [k.needs, endsV k.ends]) (fun i H' => Same H3 H' ∧ H' B = some (.lst ((([k.needs, endsV k.ends].take i).flatMap bS).map V.str))) ⟨same_new hB, upd_same⟩ ?_ ?_ ?_
        · rintro i H' _ ⟨s', _⟩
          exact SqT.of (s' _ _ htt)
        · rintro i v H' hv ⟨s', hl⟩
          have tk : (([k.needs, endsV k.ends].take (i + 1)).flatMap bS) = (([k.needs, endsV k.ends].take i).flatMap bS) ++ bS v := by
            rw [List.take_succ, hv, List.flatMap_append]
            simp
          have i2 : i < 2 := (List.getElem?_eq_some_iff.mp hv).1
          refine ⟨rfl, _, rfl, rfl, _, rfl, ?_⟩
          rcases bnds_vals okk v (List.mem_of_getElem? hv) with rfl | ⟨n, rfl⟩ | ⟨z, rfl⟩
          · refine ifNF rfl (iteF ⟨s', ?_⟩)
            rw [tk]
            show H' B = some (.lst ((_ ++ []).map V.str))
            rw [List.append_nil]
            exact hl
          · refine ifNT (by intro q; cases q) ⟨_, rfl, _, _, true, false, rfl, .base (.int _), kit_ty (by decide +kernel), kit_ty (by decide +kernel), _, rfl, iteF ⟨s', ?_⟩⟩
            rw [tk]
            show H' B = some (.lst ((_ ++ []).map V.str))
            rw [List.append_nil]
            exact hl
          · refine ifNT (by intro q; cases q) ⟨_, rfl, _, _, false, false, rfl, .base (.str _), kit_ty (by decide +kernel), kit_ty (by decide +kernel), _, rfl, iteT ⟨_, rfl, _, hl, ?_, ?_, ?_⟩⟩
            · rw [List.length_map]
              have l1 : (([k.needs, endsV k.ends].take i).flatMap bS).length ≤ (bndsK k).length := by
                unfold bndsK
                conv => rhs; rw [← List.take_append_drop i [k.needs, endsV k.ends], List.flatMap_append, List.length_append]
                omega
              have := bnds_len k
              exact sz _ (by omega)
            · intro c o e
              rw [upd_ne (ne_of_none e hB)]
              exact s' _ _ e
            · rw [upd_same, tk, List.map_append]
              rfl
        · rintro H' ⟨s', hl⟩
          exact fin _ _ ⟨B, rfl, st.trans s', hl⟩
      rintro _ H3 ⟨B, rfl, s3, hB⟩
      dsimp only [gName]
      -- the shares
      refine join_asg (fun v H' => ∃ L sv, v = .ref L ∧ Same H3 H' ∧ H3 L = none ∧ H' L = some (.lst sv) ∧ All2 (ShAt H') sv ((bndsK k).map frOf)) (fun Q' fin => ?_) ?_
      · refine ⟨_, rfl, B, rfl, ⟨_, SqL.of hB⟩, fun L hL => ?_⟩
        refine lc_list (K := K) (a := B) (xs := (bndsK k).map V.str) (fun i H' => Same H3 H' ∧ ∃ sv, H' L = some (.lst sv) ∧ All2 (ShAt H') sv (((bndsK k).take i).map frOf)) ⟨same_new hL, [], upd_same, .nil⟩ ?_ ?_ ?_
        · rintro i H' _ ⟨s', _⟩
          exact SqL.of (s' _ _ hB)
        · rintro i v H' hv ⟨s', sv, hl, as⟩
          rw [List.getElem?_map] at hv
          cases hz : (bndsK k)[i]? with
          | none => rw [hz] at hv; cases hv
          | some z =>
          rw [hz] at hv
          cases hv
          have il2 : i < (bndsK k).length := (List.getElem?_eq_some_iff.mp hz).1
          have bz := bnds_bt okk z (List.mem_of_getElem? hz)
          obtain ⟨_, _, _, _, fz⟩ := frOf_ok bz
          refine ⟨rfl, _, rfl, .inl ⟨z, rfl, bz.1, (fun e => by rw [fz] at e; cases e), fun p q e r H4 hr s4 h4 => ?_⟩⟩
          rw [fz] at e
          have e := Option.some.inj e
          have ls : sv.length ≤ 2 := by
            rw [as.len, List.length_map, List.length_take]
            have := bnds_len k
            omega
          have hl4 := s4 _ _ hl
          have tp : TupS H' (upd H4 L (.lst (sv ++ [.ref r]))) := fun c xs q => by
            have := s4 _ _ q
            rw [upd_ne (ne_of this hl4 (by intro w; cases w))]
            exact this
          refine ⟨_, hl4, sz _ (by omega), fun c o e => ?_, _, upd_same, ?_⟩
          · rw [upd_ne (ne_of_none e hL)]
            exact s4 _ _ (s' _ _ e)
          · rw [List.take_succ, hz, List.map_append]
            refine All2.snoc ⟨r, rfl, ?_⟩ (as.mono fun _ _ w => w.tup tp)
            rw [upd_ne (ne_of h4 hl4 (by intro w; cases w)), h4, e]
        · rintro H' ⟨s', sv, hl, as⟩
          rw [List.length_map, List.take_of_length_le (Nat.le_refl _)] at as
          exact fin _ _ ⟨L, sv, rfl, s', hL, hl, as⟩
      rintro _ H4 ⟨L, sv, rfl, s4, fL, hL4, as⟩
      dsimp only [gName]
      have s24 := s3.trans s4
      have fL2 : H2 L = none := s3.free fL
      rw [bnds_shares] at as
      have lsv : sv.length ≤ 2 := by
        rw [as.len, ← bnds_shares, List.length_map]
        exact bnds_len k
      -- the closing
      refine join_st (fun σ' H' => ∃ x5 x6 sv', σ' = [some (.ref a), some (.ref F), some (.ref b), some (.ref B), some (.ref L), x5, x6, x7] ∧ Same H2 H' ∧ H' L = some (.lst sv') ∧ All2 (ShAt H') sv' (sharesK k)) (fun nx' fin => ?_) ?_
      · rw [shares_eq] at fin
        cases ec : k.closing with
        | none =>
          rw [ec] at b3 fin
          cases (show cl = .non from b3)
          refine at_ _ (Nol.of s24) _ 3 _ _ rfl rfl ⟨rfl, _, rfl, ifNF rfl (fin _ _ ⟨_, _, sv, rfl, s24, hL4, ?_⟩)⟩
          show All2 (ShAt H4) sv (nSh k.needs ++ eSh k.ends ++ [])
          rw [List.append_nil]
          exact as
        | some pp =>
          obtain ⟨ci, z⟩ := pp
          rw [ec] at b3 fin
          obtain ⟨ca, rfl, hca⟩ := b3
          have bz := (okk.closing ci z ec).2.2
          obtain ⟨f1, _, _, _, fz⟩ := frOf_ok bz
          refine at_ _ (Nol.of s24) _ 3 _ _ rfl rfl ⟨rfl, _, rfl, ifNT (by intro q; cases q) ?_⟩
          refine at_ _ (Nol.of s24) _ 3 _ _ rfl rfl ⟨ca, _, _, _, rfl, rfl, SqT.of (s24 _ _ hca), rfl, .inl ⟨z, rfl, bz.1, (fun e => by rw [fz] at e; cases e), fun p q e r H5 hr s5 h5 => ?_⟩⟩
          rw [fz] at e
          have e := Option.some.inj e
          refine ⟨r, _, rfl, SqT.of h5, rfl, _, _, rfl, _, _, rfl, rfl, ?_⟩
          have hL5 := s5 _ _ hL4
          refine ⟨_, rfl, .inl ⟨rfl, _, SqL.of hL5⟩, _, rfl, _, rfl, _, _, rfl, rfl, _, rfl, (by show 2 ≤ sizeLine; decide), fun t ht => ?_⟩
          have hL6 := same_new (o := .tup [.int ((q : Int) - (p : Int)), .int (q : Int)]) ht _ _ hL5
          have st := same_new (H := H5) (o := .tup [.int ((q : Int) - (p : Int)), .int (q : Int)]) ht
          have htt := upd_same (H := H5) (a := t) (o := .tup [.int ((q : Int) - (p : Int)), .int (q : Int)])
          refine ⟨L, _, _, rfl, rfl, hL6, sz _ (by omega), ?_⟩
          generalize upd H5 t (.tup [.int ((q : Int) - (p : Int)), .int (q : Int)]) = H6 at hL6 st htt
          have s46 := s5.trans st
          refine fin _ _ ⟨_, _, sv ++ [.ref t], rfl, fun c o w => ?_, upd_same, ?_⟩
          · rw [upd_ne (ne_of_none w fL2)]
            exact s46 _ _ (s24 _ _ w)
          · have tp : TupS H4 (upd H6 L (.lst (sv ++ [.ref t]))) := fun c xs w => by
              have w := s46 _ _ w
              rw [upd_ne (ne_of w hL6 (by intro u; cases u))]
              exact w
            refine (as.mono fun _ _ w => w.tup tp).append (.cons ⟨t, rfl, ?_⟩ .nil)
            rw [upd_ne (ne_of htt hL6 (by intro u; cases u)), htt, e]
            have e2 : ((q : Int) - (p : Int)) = ((q - p : Nat) : Int) := by
              rw [e] at f1
              have f1 : p ≤ q := f1
              omega
            rw [e2]
      rintro _ H5 ⟨x5, x6, sv', rfl, s25, hL5, as5⟩
      -- each share
      obtain ⟨shl, sh3⟩ := shares_ok okk
      have nLF : L ≠ F := fun q => by
        rw [q, hF2] at fL2
        cases fL2
      have cok : CutOk (cutsOf (ks.take i)) 18 := cutsOf_ok (fun x hx => kok x (List.mem_of_mem_take hx)) (by rw [List.length_take]; omega)
      refine ⟨_, rfl, L, rfl, ⟨_, SqL.of hL5⟩, for_list (K := K) (a := L) (xs := sv') (fun j σ' H' => ∃ x5 x6 fv', σ' = [some (.ref a), some (.ref F), some (.ref b), some (.ref B), some (.ref L), x5, x6, x7] ∧ Same H H' ∧ Nol H1 H' ∧ H' L = some (.lst sv') ∧ All2 (ShAt H') sv' (sharesK k) ∧ H' F = some (.lst fv') ∧ All2 (ShAt H') fv' (((sharesK k).take j).foldl addS (cutsOf (ks.take i)))) ?_ ?_ ?_ ?_⟩
      · exact ⟨x5, x6, fv, rfl, s2.trans s25, no.trans (Nol.of s25), hL5, as5, s25 _ _ hF2, af.mono fun _ _ w => w.tup (TupS.of s25)⟩
      · rintro j σ' H' _ ⟨_, _, _, _, _, _, h, _⟩
        exact SqL.of h
      · rintro j v σ' H6 hv ⟨x5, x6, fv', rfl, s6, no6, hL6, as6, hF6, af6⟩
        obtain ⟨sh, hsj, t, rfl, ht⟩ := as6.get hv
        have jl : j < (sharesK k).length := (List.getElem?_eq_some_iff.mp hsj).1
        have sl := shl sh (List.mem_of_getElem? hsj)
        have tk : ((sharesK k).take (j + 1)).foldl addS (cutsOf (ks.take i)) = addS (((sharesK k).take j).foldl addS (cutsOf (ks.take i))) sh := by
          rw [List.take_succ, hsj, List.foldl_append]
          rfl
        have ck := CutOk.fold (ss := (sharesK k).take j) cok fun x hx => shl x (List.mem_of_mem_take hx)
        generalize ((sharesK k).take j).foldl addS (cutsOf (ks.take i)) = acc at tk ck af6
        have al := ck.len
        rw [List.length_take] at al
        refine ⟨t, _, rfl, SqT.of ht, rfl, _, _, rfl, _, _, rfl, rfl, ?_⟩
        dsimp only
        rw [tk]
        refine join_it (fun c H' => c = decide (0 < sh.1 ∧ sh.1 < sh.2) ∧ H6 = H') (fun Q' fin => ?_) ?_
        · refine ⟨_, rfl, _, _, rfl, rfl, _, rfl, ?_⟩
          by_cases c1 : 0 < sh.1
          · refine ifT (by omega) ⟨_, rfl, _, _, rfl, rfl, _, rfl, fin _ _ ⟨?_, rfl⟩⟩
            refine decide_eq_decide.mpr ?_
            constructor
            · intro q; exact ⟨c1, by omega⟩
            · intro q; omega
          · refine ifF (by omega) ⟨_, rfl, fin _ _ ⟨?_, rfl⟩⟩
            rw [decide_eq_false (fun q => c1 q.1)]
        rintro _ _ ⟨rfl, rfl⟩
        refine ite2 (fun c => ?_) (fun c => ?_)
        · have c := of_decide_eq_true c
          have ea : addS acc sh = insS sh acc := if_pos c
          rw [ea]
          have a1 := sl.a
          have a2 := sl.b
          refine ⟨_, rfl, _, rfl, _, rfl, sh.1, sh.2, rfl, by omega, by omega, sl.g, fun p H7 hp s7 h7 => ?_⟩
          have hF7 := s7 _ _ hF6
          refine ⟨F, p, fv', acc, sh, rfl, hF7, af6.mono fun _ _ w => w.tup (TupS.of s7), h7, fun y hy => ?_, by omega, by omega, by omega, fun fv2 H8 keep hF8 al8 => ?_⟩
          · have := ck.ok y hy
            have := this.lt
            have := (ck.ok y hy).le
            omega
          · have kL : ∀ {b : Addr} {o : HO}, H6 b = some o → (∀ xs, o ≠ .lst xs) → H8 b = some o := fun {b o} w n => keep b o (fun q => by rw [q, hF6] at w; exact n fv' (Option.some.inj w).symm) (s7 _ _ w)
            refine ⟨_, _, fv2, rfl, fun b o w => keep b o (ne_of_none w hF) (s7 _ _ (s6 _ _ w)), fun b o w n => kL (no6 b o w n) n, keep _ _ nLF (s7 _ _ hL6), as6.mono fun _ _ w => w.tup fun c xs u => kL u (by intro ys q; cases q), hF8, al8⟩
        · have c := dF c
          have ea : addS acc sh = acc := if_neg c
          rw [ea]
          exact ⟨_, _, fv', rfl, s6, no6, hL6, as6, hF6, af6⟩
      · rintro σ' H6 ⟨x5, x6, fv', rfl, s6, no6, hL6, as6, hF6, af6⟩
        rw [as6.len, List.take_of_length_le (Nat.le_refl _)] at af6
        have tk : cutsOf (ks.take (i + 1)) = (sharesK k).foldl addS (cutsOf (ks.take i)) := by
          unfold cutsOf
          rw [List.take_succ, hki, List.foldl_append]
          rfl
        rw [tk]
        exact ⟨_, _, _, _, _, _, fv', rfl, s6, no6, hF6, af6⟩
    · rintro σ' H' ⟨x2, x3, x4, x5, x6, x7, fv, rfl, s2, no, hF2, af⟩
      rw [lk, List.take_of_length_le (Nat.le_refl _)] at af
      exact ⟨_, rfl, ret F fv _ hF s2 hF2 af⟩
abbrev s_cuts : Stmt := top 52
abbrev N_cuts : List Str := ["rules"]
abbrev P_cuts : List Str := ["rules"]
theorem sc_cuts : FnScope N_cuts P_cuts (defScope s_cuts) := ⟨rfl, rfl, rfl, by decide +kernel, rfl, by decide +kernel, by decide +kernel⟩
theorem ok_cuts {C CR CU f f1 f2 : Addr} {fd fd1 fd2 : FuncData} (D : DefAt K mg "cuts" s_cuts P_cuts f fd) (T : Txt K mg) (D_check_rules : DefAt K mg "check_rules" s_check_rules P_check_rules f1 fd1) (G_check_rules : FnOk P w K mg base CX0 1 f1 fd1 P_check_rules (sp_check_rules K C CR CU))
    (D_cuts_of : DefAt K mg "cuts_of" s_cuts_of P_cuts_of f2 fd2) (G_cuts_of : FnOk P w K mg base CX0 3 f2 fd2 P_cuts_of (sp_cuts_of K C CR CU)) : FnOk P w K mg base CX0 4 f fd P_cuts (sp_cuts K C CR CU) := by
  refine D.fn.ok sc_cuts (fun vs H Q E h => ?_) (fun cdv A outer s H vs Q E hr h => ?_)
  · obtain ⟨a, ks, rs, rfl, _⟩ := h
    rfl
  · obtain ⟨a, ks, rs, rfl, hR, kok, k6, ret⟩ := h
    refine ⟨_, (pss_cons (ps_expr (pe_call G_check_rules (hr.mono (by decide)) rfl D_check_rules.mg D_check_rules.fn.kp D_check_rules.bd .nil pass0 (pa_cons (pv 0) pa_nil)))
      (pss_one (ps_ret (pe_callTy call_tuple_of (by rfl) T.tuple (by decide +kernel) (pa_cons (pe_call G_cuts_of (hr.mono (by decide)) rfl D_cuts_of.mg D_cuts_of.fn.kp D_cuts_of.bd .nil pass0 (pa_cons (pv 0) pa_nil)) pa_nil))))), ?_⟩
    refine ⟨_, rfl, a, ks, rs, rfl, hR, ?_⟩
    refine ⟨_, rfl, a, ks, rs, rfl, hR, kok, k6, fun p fv H1 hp s1 h1 af => ?_⟩
    refine ⟨p, fv, rfl, .inl ⟨SqL.of h1, fun t ht => ?_⟩⟩
    exact ret t fv _ (s1.free ht) (s1.trans (same_new ht)) upd_same (af.mono fun _ _ w => w.tup (TupS.of (same_new ht)))
end L

namespace Hv
open PySem PySem.Spec PyProof.Rows L2
/-- x not in t, t a tuple of data -/
def rNotInDT (K : PySem.W.Frag) : V → V → Hp → VK → Prop := fun x y H Q => ∃ d ds, Dp K H x d ∧ Dp K H y (.tuple ds) ∧ SeqAt.shaped d = true ∧ SeqAt.shaped (.tuple ds) = true ∧ Q (.bl (!ds.any fun z => PyData.eqv z d)) H
theorem op_notInDT {X : Cx} (hu : X.A.units + 65 < cLine) : OpR X (compareOp .NotIn) (rNotInDT X.K) := by
  intro pins s σ H x y v u Q I rx ry h
  obtain ⟨d, ds, hd, he, sd, se, q⟩ := h
  obtain ⟨as, r1⟩ := Dp.reads I d x v hd rx
  obtain ⟨bs, r2⟩ := Dp.reads I (.tuple ds) y u he ry
  exact SeqAt.notIn_tuple_reads r2 r1 (SeqAt.canLay_of_shaped se) (SeqAt.canLay_of_shaped sd) (room_in_shaped sd hu) ⟨.bl _, H, I, rfl, q⟩
def rLenS (K : PySem.W.Frag) : List V → Hp → VK → Prop := fun xs H Q => ∃ (p : Addr) (ys : List V), xs = [V.ref p] ∧ (SqL K H p ys ∨ SqT K H p ys) ∧ Q (V.int (ys.length : Nat)) H
/-! the law's due list -/
def lSh : Nd → List Sh
  | .cnt _ => []
  | .bd b => [(b.p, b.q)]
def lEn : Option Bd → List Sh
  | none => []
  | some b => [(b.p, b.q)]
def lCl : Option (Nat × Bd) → List Sh
  | none => []
  | some (_, b) => [(b.q - b.p, b.q)]
def inSh (s : Sh) : Bool := decide (0 < s.1) && decide (s.1 < s.2)
def dueS (s : Sr) : List Sh := (lSh s.needs ++ lEn s.ends ++ lCl s.closing).filter inSh
def dueL (ss : List Sr) : List Sh := ss.flatMap dueS
theorem fr_bd {b : Bd} (h : b.Ok) : frOf b.txt = (b.p, b.q) := by
  unfold frOf
  rw [(Bd.facts h).1]
  rfl
theorem shares_due {s : Sr} (ok : SrOk s) : sharesK (kdOf s) = lSh s.needs ++ lEn s.ends ++ lCl s.closing := by
  rw [shares_eq]
  have e1 : nSh (kdOf s).needs = lSh s.needs := by
    show nSh (ndV s.needs) = _
    cases e : s.needs with
    | cnt n => rfl
    | bd b =>
      show [frOf b.txt] = [(b.p, b.q)]
      rw [fr_bd (ok.bd b e)]
  have e2 : eSh (kdOf s).ends = lEn s.ends := by
    show eSh (s.ends.map Bd.txt) = _
    cases e : s.ends with
    | none => rfl
    | some b =>
      show [frOf b.txt] = [(b.p, b.q)]
      rw [fr_bd (ok.en b e)]
  have e3 : cSh (kdOf s).closing = lCl s.closing := by
    show cSh (s.closing.map fun p => ((p.1 : Int), p.2.txt)) = _
    cases e : s.closing with
    | none => rfl
    | some p =>
      obtain ⟨i, b⟩ := p
      show [((frOf b.txt).2 - (frOf b.txt).1, (frOf b.txt).2)] = [(b.q - b.p, b.q)]
      rw [fr_bd (ok.cl i b e).2]
  rw [e1, e2, e3]
theorem due_cuts {ss : List Sr} (ok : ∀ s ∈ ss, SrOk s) (x : Sh) : x ∈ cutsOf (ss.map kdOf) ↔ x ∈ dueL ss := by
  rw [cutsOf_mem]
  unfold dueL dueS inSh
  simp only [List.mem_flatMap, List.mem_filter, Bool.and_eq_true, decide_eq_true_eq]
  constructor
  · rintro ⟨⟨k, hk, hx⟩, h1, h2⟩
    obtain ⟨s, hs, rfl⟩ := List.mem_map.mp hk
    rw [shares_due (ok s hs)] at hx
    exact ⟨s, hs, hx, h1, h2⟩
  · rintro ⟨s, hs, hx, h1, h2⟩
    refine ⟨⟨kdOf s, List.mem_map.mpr ⟨s, hs, rfl⟩, ?_⟩, h1, h2⟩
    rw [shares_due (ok s hs)]
    exact hx
theorem dueS_len (s : Sr) : (dueS s).length ≤ 3 := by
  unfold dueS
  refine Nat.le_trans (List.length_filter_le _ _) ?_
  have l1 : (lSh s.needs).length ≤ 1 := by cases s.needs <;> simp [lSh]
  have l2 : (lEn s.ends).length ≤ 1 := by cases s.ends <;> simp [lEn]
  have l3 : (lCl s.closing).length ≤ 1 := by cases s.closing <;> simp [lCl]
  simp only [List.length_append]
  omega
theorem dueL_len (ss : List Sr) : (dueL ss).length ≤ ss.length * 3 := by
  induction ss with
  | nil => simp [dueL]
  | cons s r ih =>
    show ((dueS s) ++ (dueL r)).length ≤ _
    rw [List.length_append, List.length_cons, Nat.succ_mul]
    have := dueS_len s
    omega
theorem shs_dp {K : PySem.W.Frag} {H : Hp} : ∀ {vs : List V} {ss : List Sh}, All2 (ShAt H) vs ss → DpAll K H vs (ss.map shD)
  | _, _, .nil => .nil
  | _, _, .cons ⟨_, rfl, h⟩ t => .cons (.tup (SqT.of h) (.cons (.int _) (.cons (.int _) .nil))) (shs_dp t)
theorem shs_lay : ∀ ss : List Sh, PyData.canLayAll0 (ss.map shD) = true ∧ PyData.depthAll (ss.map shD) ≤ 1
  | [] => ⟨rfl, by decide⟩
  | s :: l => by
    obtain ⟨h1, h2⟩ := shs_lay l
    refine ⟨?_, ?_⟩
    · show (PyData.canLay0 (shD s) && PyData.canLayAll0 (l.map shD)) = true
      rw [h1]
      rfl
    · show max 1 (PyData.depthAll (l.map shD)) ≤ 1
      omega
theorem shs_shaped (ss : List Sh) : SeqAt.shaped (.list (ss.map shD)) = true ∧ SeqAt.shaped (.tuple (ss.map shD)) = true := by
  obtain ⟨h1, h2⟩ := shs_lay ss
  constructor
  · unfold SeqAt.shaped
    rw [show PyData.canLay0 (.list (ss.map shD)) = true from h1]
    exact decide_eq_true (by show PyData.depthAll (ss.map shD) + 1 ≤ 64; omega)
  · unfold SeqAt.shaped
    rw [show PyData.canLay0 (.tuple (ss.map shD)) = true from h1]
    exact decide_eq_true (by show PyData.depthAll (ss.map shD) + 1 ≤ 64; omega)
theorem shs_in (x : Sh) (ss : List Sh) (h : x ∈ ss) : ((ss.map shD).any fun z => PyData.eqv z (shD x)) = true := by
  rw [List.any_map, List.any_eq_true]
  refine ⟨x, h, ?_⟩
  show PyData.eqv (shD x) (shD x) = true
  rw [shD_eqv, decide_eq_true rfl]
def sp_wdue : Sp := fun vs H Q _ => ∃ (v : V) (ss : List Sr) (rs : List Rw), vs = [v] ∧ PlanAt H v ss rs ∧ ss.length ≤ 6 ∧ (∀ s ∈ ss, SrOk s) ∧ ∀ p dv H', H p = none → Same H H' → H' p = some (.lst dv) → All2 (ShAt H') dv (dueL ss) → Q (.ref p) H'
def sp_right24 : Sp := fun vs H Q _ => ∃ w, vs = [.ref w] ∧ Well H w ∧ ∀ H', But w H H' → Q (.bl true) H'
def sp_law24 (K : PySem.W.Frag) : Sp := fun vs H Q _ => ∃ (a : Addr) (ns : List Int), vs = [.ref a] ∧ SqL K H a (ns.map V.int) ∧ (∀ z ∈ ns, Builtin.Int.intBits z ≤ 1048576) ∧ ns.length ≤ 63 ∧ ∀ H', Q (.bl true) H'
end Hv
namespace L
open PySem L2 Hv
variable {P : Program} {w : World} {K : PySem.W.Frag} {mg : Str → Option Value} {base : Heap}
abbrev s_due : Stmt := top 64
abbrev N_due : List Str := ["_law_plan_here", "_law_found", "_law_name", "_law_talks", "_law_needs", "_law_closing", "_law_ends", "_law_mine", "_law_pairs", "_law_bound_here", "_law_pair"]
abbrev P_due : List Str := ["_law_plan_here"]
theorem sc_due : FnScope N_due P_due (defScope s_due) := ⟨rfl, rfl, rfl, by decide +kernel, rfl, by decide +kernel, by decide +kernel⟩
theorem ok_wdue {f : Addr} {fd : FuncData} (D : DefAt K mg "_law_due" s_due P_due f fd) (T : Txt K mg) : FnOk P w K mg base CX0 1 f fd P_due sp_wdue := by
  refine D.fn.ok sc_due (fun vs H Q E h => ?_) (fun cdv A outer s H vs Q E hr h => ?_)
  · obtain ⟨v, ss, rs, rfl, _⟩ := h
    rfl
  · obtain ⟨_, ss, rs, rfl, ⟨p, a, b, vs, us, rfl, hp, ha, hb, al, ar⟩, s6, so, ret⟩ := h
    refine ⟨_, (pss_cons (ps_asg (pe_lst pa_nil) (pg_name (i := 1) sc_due.nd rfl (.inl rfl)))
      (pss_cons (ps_for PassesOwn.never rfl (pi_list (pe_ix ix_list (pv 0) pe_int (fun _ _ => rfl))) (pg_tup (by rfl) (pgs_cons (pg_name (i := 2) sc_due.nd rfl (.inl rfl)) (pgs_cons (pg_name (i := 3) sc_due.nd rfl (.inl rfl)) (pgs_cons (pg_name (i := 4) sc_due.nd rfl (.inl rfl)) (pgs_cons (pg_name (i := 5) sc_due.nd rfl (.inl rfl)) (pgs_cons (pg_name (i := 6) sc_due.nd rfl (.inl rfl)) pgs_nil))))))
      (pss_cons (ps_asg (pe_ifExp (pt_cmpR op_ne (pe_ix ix_tup (pv 4) pe_int (fun _ _ => rfl)) pe_str (nomark _)) (pe_lst (pa_cons (pv 4) pa_nil)) (pe_lst pa_nil)) (pg_name (i := 7) sc_due.nd rfl (.inl rfl)))
      (pss_cons (ps_asg (pe_op op_cat (pv 7) (pe_ifExp (pt_cmpR op_notN (pv 6) pe_non (nomark _)) (pe_lst (pa_cons (pv 6) pa_nil)) (pe_lst pa_nil))) (pg_name (i := 7) sc_due.nd rfl (.inl rfl)))
      (pss_cons (ps_setLc (i := 8) (own := [("_law_bound_here", 9)]) (g := gName 9) rfl sc_due.nd rfl rfl (sw_true rfl rfl rfl (by decide +kernel)) (pi_list (pv 7)) (blkOk_by (own := [("_law_bound_here", 9)]) (N := N_due) (sc := defScope s_due) (by decide +kernel)) (fun _ _ _ _ _ => (pg_name (i := 9) sc_due.nd rfl (.inl rfl))) (fun _ _ _ _ _ => pts_nil) (fun _ _ _ _ _ => (pe_tup (pa_cons (pe_ix (show IxR _ (rIxT K) from ix_tup) (pv 9) pe_int (fun _ _ => rfl)) (pa_cons (pe_ix (show IxR _ (rIxT K) from ix_tup) (pv 9) pe_int (fun _ _ => rfl)) pa_nil)))))
      (pss_cons (ps_if (pt_cmpR op_notN (pv 5) pe_non (nomark _))
      (pss_one (ps_expr (pe_bm PySem.F.plainAttrs_list PySem.F.slot_list_append PySem.F.type_list_append mt_append (pv 8) (pa_cons (pe_tup (pa_cons (pe_op op_sub (pe_ix ix_tup (pe_ix ix_tup (pv 5) pe_int (fun _ _ => rfl)) pe_int (fun _ _ => rfl)) (pe_ix ix_tup (pe_ix ix_tup (pv 5) pe_int (fun _ _ => rfl)) pe_int (fun _ _ => rfl))) (pa_cons (pe_ix ix_tup (pe_ix ix_tup (pv 5) pe_int (fun _ _ => rfl)) pe_int (fun _ _ => rfl)) pa_nil))) pa_nil))))
      pss_nil)
      (pss_one (ps_asg (pe_op op_cat (pv 1) (pe_lc (own := [("_law_pair", 10)]) (g := gName 10) rfl sc_due.nd (pi_list (pv 8)) (blkOk_by (own := [("_law_pair", 10)]) (N := N_due) (sc := defScope s_due) (by decide +kernel)) (fun _ _ _ _ _ => (pg_name (i := 10) sc_due.nd rfl (.inl rfl))) (fun _ _ _ _ _ => (pts_one (PW.pt (pw_and (pt_cmpR op_gt (pe_ix (show IxR _ (rIxT K) from ix_tup) (pv 10) pe_int (fun _ _ => rfl)) pe_int (nomark _)) (pw_and1 (pt_cmpR op_lt (pe_ix (show IxR _ (rIxT K) from ix_tup) (pv 10) pe_int (fun _ _ => rfl)) (pe_ix (show IxR _ (rIxT K) from ix_tup) (pv 10) pe_int (fun _ _ => rfl)) (nomark _))))))) (fun _ _ _ _ _ => (pv 10)))) (pg_name (i := 1) sc_due.nd rfl (.inl rfl)))))))))
      (pss_one (ps_ret (pv 1))))), ?_⟩
    have sz : ∀ n : Nat, n ≤ 100 → n ≤ sizeLine := fun n hn => Nat.le_trans hn (by decide)
    have lv := al.len
    refine ⟨(by show 0 ≤ sizeLine; decide), fun F hF => ?_⟩
    have s1 := same_new (o := .lst []) hF
    have hF1 := upd_same (H := H) (a := F) (o := .lst [])
    dsimp only [gName]
    generalize upd H F (.lst []) = H1 at s1 hF1 ⊢
    refine ⟨_, rfl, _, _, _, _, rfl, rfl, SqL.of (s1 _ _ hp), rfl, a, rfl, ⟨_, SqL.of (s1 _ _ ha)⟩, for_list (K := K) (a := a) (xs := vs) (fun i σ' H' => ∃ G dv x2 x3 x4 x5 x6 x7 x8, σ' = [some (.ref p), some (.ref G), x2, x3, x4, x5, x6, x7, x8, none, none] ∧ Same H H' ∧ H G = none ∧ H' G = some (.lst dv) ∧ All2 (ShAt H') dv (dueL (ss.take i))) ?_ ?_ ?_ ?_⟩
    · exact ⟨F, [], none, none, none, none, none, none, none, rfl, s1, hF, hF1, .nil⟩
    · rintro i σ' H' _ ⟨_, _, _, _, _, _, _, _, _, _, sm, _⟩
      exact SqL.of (sm _ _ ha)
    · rintro i v σ' H2 hv ⟨G, dv, x2, x3, x4, x5, x6, x7, x8, rfl, s2, fG, hG, ad⟩
      obtain ⟨sr, hsi, hsr⟩ := al.get hv
      have il : i < ss.length := (List.getElem?_eq_some_iff.mp hsi).1
      have es : ss[i] = sr := (List.getElem?_eq_some_iff.mp hsi).2
      have ok := so sr (es ▸ List.getElem_mem il)
      obtain ⟨_, t, n, c, e, rfl, ht, hn, hc, he⟩ := hsr.tup (TupS.of s2)
      refine ⟨t, _, rfl, SqT.of ht, rfl, _, _, rfl, _, _, rfl, _, _, rfl, _, _, rfl, _, _, rfl, rfl, ?_⟩
      dsimp only
      -- mine, of needs
      refine join_asg (fun v H' => ∃ M mv bs, v = .ref M ∧ Same H2 H' ∧ H' M = some (.lst mv) ∧ All2 (BdAt H') mv bs ∧ bs.map (fun b => (b.p, b.q)) = lSh sr.needs ∧ bs.length ≤ 1) (fun Q' fin => ?_) ?_
      · cases en : sr.needs with
        | cnt m =>
          rw [en] at hn fin
          obtain ⟨_, _, na, rfl, hna⟩ := hn
          refine ⟨_, rfl, _, _, _, _, rfl, rfl, SqT.of hna, rfl, rfl, _, rfl, ifNF rfl ⟨(by show 0 ≤ sizeLine; decide), fun M hM => fin _ _ ⟨M, [], [], rfl, same_new hM, upd_same, .nil, rfl, by simp⟩⟩⟩
        | bd b =>
          rw [en] at hn fin
          obtain ⟨bok, na, rfl, hna⟩ := hn
          refine ⟨_, rfl, _, _, _, _, rfl, rfl, SqT.of hna, rfl, rfl, _, rfl, ifNT (by intro q; cases q) ⟨_, rfl, (by show 1 ≤ sizeLine; decide), fun M hM => fin _ _ ⟨M, _, [b], rfl, same_new hM, upd_same, .cons ⟨bok, na, rfl, same_new hM _ _ hna⟩ .nil, rfl, by simp⟩⟩⟩
      rintro _ H3 ⟨M, mv, bs, rfl, s3, hM, am, em, lm⟩
      dsimp only [gName]
      have lmv := am.len
      -- and of ends
      refine join_asg (fun v H' => ∃ M mv bs, v = .ref M ∧ Same H2 H' ∧ H' M = some (.lst mv) ∧ All2 (BdAt H') mv bs ∧ bs.map (fun b => (b.p, b.q)) = lSh sr.needs ++ lEn sr.ends ∧ bs.length ≤ 2) (fun Q' fin => ?_) ?_
      · cases en : sr.ends with
        | none =>
          rw [en] at he fin
          cases (show e = .non from he)
          refine ⟨_, rfl, _, rfl, rfl, _, rfl, ifNF rfl ⟨(by show 0 ≤ sizeLine; decide), fun N hN => ⟨M, N, _, _, rfl, rfl, same_new hN _ _ hM, upd_same, sz _ (by simp; omega), fun R hR => ?_⟩⟩⟩
          have st := (same_new (H := H3) (o := .lst []) hN).trans (same_new (o := .lst (mv ++ [])) hR)
          refine fin _ _ ⟨R, mv ++ [], bs ++ [], rfl, s3.trans st, upd_same, ?_, ?_, by simp; omega⟩
          · exact (am.mono fun _ _ w => w.tup (TupS.of st)).append .nil
          · rw [List.append_nil, em]
            exact (List.append_nil _).symm
        | some b =>
          rw [en] at he fin
          have he : BdAt H2 e b := he
          refine ⟨_, rfl, _, rfl, rfl, _, rfl, ?_⟩
          have hne : e ≠ .non := by
            obtain ⟨_, ea, rfl, _⟩ := he
            intro q
            cases q
          refine ifNT hne ⟨_, rfl, (by show 1 ≤ sizeLine; decide), fun N hN => ⟨M, N, _, _, rfl, rfl, same_new hN _ _ hM, upd_same, sz _ (by simp; omega), fun R hR => ?_⟩⟩
          have st := (same_new (H := H3) (o := .lst [e]) hN).trans (same_new (o := .lst (mv ++ [e])) hR)
          refine fin _ _ ⟨R, mv ++ [e], bs ++ [b], rfl, s3.trans st, upd_same, ?_, ?_, by simp; omega⟩
          · exact All2.snoc (he.tup (TupS.of (s3.trans st))) (am.mono fun _ _ w => w.tup (TupS.of st))
          · rw [List.map_append, em]
            rfl
      clear s3 hM am em lm lmv
      rintro _ H3 ⟨M, mv, bs, rfl, s3, hM, am, em, lm⟩
      dsimp only [gName]
      have lmv := am.len
      -- pairs
      refine join_asg (fun v H' => ∃ L pv, v = .ref L ∧ Same H3 H' ∧ H3 L = none ∧ H' L = some (.lst pv) ∧ All2 (ShAt H') pv (bs.map fun b => (b.p, b.q))) (fun Q' fin => ?_) ?_
      · refine ⟨_, rfl, M, rfl, ⟨_, SqL.of hM⟩, fun L hL => ?_⟩
        refine lc_list (K := K) (a := M) (xs := mv) (fun j H' => Same H3 H' ∧ ∃ pv, H' L = some (.lst pv) ∧ All2 (ShAt H') pv ((bs.take j).map fun b => (b.p, b.q))) ⟨same_new hL, [], upd_same, .nil⟩ ?_ ?_ ?_
        · rintro j H' _ ⟨s', _⟩
          exact SqL.of (s' _ _ hM)
        · rintro j v H' hv ⟨s', pv, hl, ap⟩
          obtain ⟨b, hbj, bok, ba, rfl, hba⟩ := am.get hv
          have hba' := s' _ _ hba
          have lp : pv.length ≤ 2 := by
            rw [ap.len, List.length_map, List.length_take]
            omega
          refine ⟨rfl, _, rfl, _, _, _, _, rfl, rfl, SqT.of hba', rfl, _, rfl, _, _, _, _, rfl, rfl, SqT.of hba', rfl, (by show 2 ≤ sizeLine; decide), fun r hr => ?_⟩
          have hl4 := same_new (o := .tup [.int b.p, .int b.q]) hr _ _ hl
          have st := same_new (H := H') (o := .tup [.int b.p, .int b.q]) hr
          have hrr := upd_same (H := H') (a := r) (o := .tup [.int b.p, .int b.q])
          generalize upd H' r (.tup [.int b.p, .int b.q]) = H4 at hl4 st hrr ⊢
          refine ⟨_, hl4, Nat.lt_of_le_of_lt lp (by decide), fun c o w => ?_, _, upd_same, ?_⟩
          · rw [upd_ne (ne_of_none w hL)]
            exact st _ _ (s' _ _ w)
          · rw [List.take_succ, hbj, List.map_append]
            refine All2.snoc ⟨r, rfl, ?_⟩ (ap.mono fun _ _ w => w.tup fun c xs u => ?_)
            · rw [upd_ne (ne_of hrr hl4 (by intro w; cases w))]
              exact hrr
            · have u := st _ _ u
              rw [upd_ne (ne_of u hl4 (by intro w; cases w))]
              exact u
        · rintro H' ⟨s', pv, hl, ap⟩
          rw [lmv, List.take_of_length_le (Nat.le_refl _)] at ap
          exact fin _ _ ⟨L, pv, rfl, s', hL, hl, ap⟩
      rintro _ H4 ⟨L, pv, rfl, s4, fL, hL, ap⟩
      dsimp only [gName]
      rw [em] at ap
      have lpv : pv.length ≤ 2 := by
        rw [ap.len, ← em, List.length_map]
        exact lm
      have s24 := s3.trans s4
      have fL2 : H2 L = none := s3.free fL
      -- closing
      refine join_st (fun σ' H' => ∃ pv, σ' = [some (.ref p), some (.ref G), some (.str sr.name), some (.int sr.talks), some n, some c, some e, some (.ref M), some (.ref L), none, none] ∧ Same H2 H' ∧ H' L = some (.lst pv) ∧ pv.length ≤ 3 ∧ All2 (ShAt H') pv (lSh sr.needs ++ lEn sr.ends ++ lCl sr.closing)) (fun nx' fin => ?_) ?_
      · cases en : sr.closing with
        | none =>
          rw [en] at hc fin
          cases (show c = .non from hc)
          refine ⟨_, rfl, rfl, _, rfl, ifNF rfl (fin _ _ ⟨pv, rfl, s24, hL, by omega, ?_⟩)⟩
          show All2 (ShAt H4) pv (lSh sr.needs ++ lEn sr.ends ++ [])
          rw [List.append_nil]
          exact ap
        | some pp =>
          obtain ⟨ci, b⟩ := pp
          rw [en] at hc fin
          obtain ⟨_, ca, u, rfl, hca, bok, ba, rfl, hba⟩ := hc
          have hca4 := s24 _ _ hca
          have hba4 := s24 _ _ hba
          refine ⟨_, rfl, rfl, _, rfl, ifNT (by intro q; cases q) ?_⟩
          refine ⟨_, rfl, .inl ⟨rfl, _, SqL.of hL⟩, _, rfl, _, _, _, _, rfl, rfl, SqT.of hca4, rfl, _, _, _, _, rfl, rfl, SqT.of hba4, rfl, _, rfl, _, _, _, _, rfl, rfl, SqT.of hca4, rfl, _, _, _, _, rfl, rfl, SqT.of hba4, rfl, _, _, rfl, rfl, _, rfl, _, _, _, _, rfl, rfl, SqT.of hca4, rfl, _, _, _, _, rfl, rfl, SqT.of hba4, rfl, (by show 2 ≤ sizeLine; decide), fun r hr => ?_⟩
          have pq := bok.pq
          have e2 : ((b.q : Int) - (b.p : Int)) = ((b.q - b.p : Nat) : Int) := by omega
          dsimp only
          rw [e2]
          have hl4 := same_new (o := .tup [.int ((b.q - b.p : Nat) : Int), .int b.q]) hr _ _ hL
          have st := same_new (H := H4) (o := .tup [.int ((b.q - b.p : Nat) : Int), .int b.q]) hr
          have hrr := upd_same (H := H4) (a := r) (o := .tup [.int ((b.q - b.p : Nat) : Int), .int b.q])
          generalize upd H4 r (.tup [.int ((b.q - b.p : Nat) : Int), .int b.q]) = H5 at hl4 st hrr ⊢
          refine ⟨L, _, _, rfl, rfl, hl4, Nat.lt_of_le_of_lt lpv (by decide), fin _ _ ⟨pv ++ [.ref r], rfl, fun c o w => ?_, upd_same, by simp; omega, ?_⟩⟩
          · rw [upd_ne (ne_of_none w fL2)]
            exact st _ _ (s24 _ _ w)
          · have tp : TupS H4 (upd H5 L (.lst (pv ++ [.ref r]))) := fun c xs u => by
              have u := st _ _ u
              rw [upd_ne (ne_of u hl4 (by intro w; cases w))]
              exact u
            refine (ap.mono fun _ _ w => w.tup tp).append (.cons ⟨r, rfl, ?_⟩ .nil)
            rw [upd_ne (ne_of hrr hl4 (by intro w; cases w))]
            exact hrr
      clear hL ap lpv
      rintro _ H5 ⟨pv, rfl, s5, hL, lpv, ap⟩
      -- found
      have hG5 := s5 _ _ hG
      have ld : dv.length ≤ 18 := by
        rw [ad.len]
        have := dueL_len (ss.take i)
        rw [List.length_take] at this
        omega
      have tk : dueL (ss.take (i + 1)) = dueL (ss.take i) ++ dueS sr := by
        unfold dueL
        rw [List.take_succ, hsi, List.flatMap_append]
        simp
      have eD : dueS sr = (lSh sr.needs ++ lEn sr.ends ++ lCl sr.closing).filter inSh := rfl
      generalize lSh sr.needs ++ lEn sr.ends ++ lCl sr.closing = shs at ap eD
      refine ⟨_, rfl, _, rfl, L, rfl, ⟨_, SqL.of hL⟩, fun N hN => ?_⟩
      refine lc_list (K := K) (a := L) (xs := pv) (fun j H' => Same H5 H' ∧ ∃ nv, H' N = some (.lst nv) ∧ nv.length ≤ j ∧ All2 (ShAt H') nv ((shs.take j).filter inSh)) ⟨same_new hN, [], upd_same, Nat.le_refl _, .nil⟩ ?_ ?_ ?_
      · rintro j H' _ ⟨s', _⟩
        exact SqL.of (s' _ _ hL)
      · rintro j v H' hv ⟨s', nv, hl, ln, an⟩
        obtain ⟨sh, hsj, r, rfl, hr⟩ := ap.get hv
        have jl : j < 3 := by
          have := (List.getElem?_eq_some_iff.mp hv).1
          omega
        have hr' := s' _ _ hr
        have tj : (shs.take (j + 1)).filter inSh = (shs.take j).filter inSh ++ if inSh sh = true then [sh] else [] := by
          rw [List.take_succ, hsj, List.filter_append]
          congr 1
          cases q : inSh sh <;> simp [q]
        refine ⟨rfl, ?_⟩
        have fin : ∀ bb : Bool, bb = inSh sh → if bb = true then tVar 10 [some (.ref p), some (.ref G), some (.str sr.name), some (.int sr.talks), some n, some c, some e, some (.ref M), some (.ref L), none, some (.ref r)] H' (fun y H4 => ∃ acc, H4 N = some (.lst acc) ∧ acc.length < sizeLine ∧ Same H5 (upd H4 N (.lst (acc ++ [y]))) ∧ ∃ nv, upd H4 N (.lst (acc ++ [y])) N = some (.lst nv) ∧ nv.length ≤ j + 1 ∧ All2 (ShAt (upd H4 N (.lst (acc ++ [y])))) nv ((shs.take (j + 1)).filter inSh)) else Same H5 H' ∧ ∃ nv, H' N = some (.lst nv) ∧ nv.length ≤ j + 1 ∧ All2 (ShAt H') nv ((shs.take (j + 1)).filter inSh) := by
          intro bb ebb
          rw [tj, ← ebb]
          cases bb with
          | true =>
            refine iteT ⟨_, rfl, nv, hl, Nat.lt_of_le_of_lt (show nv.length ≤ 3 by omega) (by decide), fun c o w => ?_, _, upd_same, by simp; omega, ?_⟩
            · rw [upd_ne (ne_of_none w hN)]
              exact s' _ _ w
            · have tp : TupS H' (upd H' N (.lst (nv ++ [.ref r]))) := TupS.lst hl
              exact (an.mono fun _ _ w => w.tup tp).append (.cons ⟨r, rfl, tp _ _ hr'⟩ .nil)
          | false =>
            refine iteF ⟨s', nv, hl, by omega, ?_⟩
            show All2 (ShAt H') nv ((shs.take j).filter inSh ++ [])
            rw [List.append_nil]
            exact an
        refine ⟨_, rfl, _, _, _, _, rfl, rfl, SqT.of hr', rfl, _, _, rfl, rfl, _, rfl, ?_⟩
        by_cases c1 : 0 < sh.1
        · refine ifT (by omega) ⟨_, rfl, _, _, _, _, rfl, rfl, SqT.of hr', rfl, _, rfl, _, _, _, _, rfl, rfl, SqT.of hr', rfl, _, _, rfl, rfl, _, rfl, fin _ ?_⟩
          unfold inSh
          rw [decide_eq_true c1, Bool.true_and]
          exact decide_eq_decide.mpr (by omega)
        · refine ifF (by omega) (fin false ?_)
          unfold inSh
          rw [decide_eq_false c1]
          rfl
      · rintro H6 ⟨s6', nv, hN6, ln, an⟩
        rw [ap.len, List.take_of_length_le (Nat.le_refl _)] at an
        refine ⟨G, N, _, _, rfl, rfl, s6' _ _ hG5, hN6, sz _ (by omega), fun R hR => ?_⟩
        have st := s6'.trans (same_new (o := .lst (dv ++ nv)) hR)
        refine ⟨R, dv ++ nv, _, _, _, _, _, _, _, rfl, (s2.trans s5).trans st, ?_, upd_same, ?_⟩
        · exact ((s2.trans s5).trans s6').free hR
        · rw [tk, eD]
          exact (ad.mono fun _ _ w => w.tup (TupS.of (s5.trans st))).append (an.mono fun _ _ w => w.tup (TupS.of (same_new hR)))
    · rintro σ' H' ⟨G, dv, x2, x3, x4, x5, x6, x7, x8, rfl, sm, fG, hG, ad⟩
      rw [lv, List.take_of_length_le (Nat.le_refl _)] at ad
      exact ⟨_, rfl, ret G dv _ fG sm hG ad⟩
end L

namespace L
open PySem L2 Hv ClX
variable {P : Program} {w : World} {K : PySem.W.Frag} {mg : Str → Option Value} {base : Heap}
abbrev s_right : Stmt := top 65
abbrev N_right : List Str := ["_law_well_here", "_law_plan_here", "_law_due_here", "_law_told", "_law_part", "_law_whole", "_law_k", "_law_one", "_law_pair"]
abbrev P_right : List Str := ["_law_well_here"]
theorem sc_right : FnScope N_right P_right (defScope s_right) := ⟨rfl, rfl, rfl, by decide +kernel, rfl, by decide +kernel, by decide +kernel⟩
theorem ok_right24 {C CR CU f f1 f2 f3 f4 f5 f6 f7 f8 f9 f10 f11 pc : Addr} {fd fd1 fd2 fd3 fd4 fd5 fd6 fd7 fd8 fd9 fd10 : FuncData} {mc : Value} (D : DefAt K mg "_law_right" s_right P_right f fd) (T : Txt K mg) (TU : RulTxt K mg CU) (CRD_read : CRead K CU mc) (CMT_read : CMet K CU mc "read" pc f11)
    (R_read : FnR P w K mg base CX0 8 f11 (sp_read K C CR CU))
    (D_plan : DefAt K mg "_law_plan" s_plan P_plan f1 fd1) (D_draw : DefAt K mg "_law_draw" s_draw P_draw f2 fd2) (D_common : DefAt K mg "_law_common" s_common P_common f3 fd3) (D_bound : DefAt K mg "_law_bound" s_bound P_bound f4 fd4) (D_sort : DefAt K mg "_law_sort" s_sort P_sort f5 fd5)
    (D_due : DefAt K mg "_law_due" s_due P_due f6 fd6) (D_text : DefAt K mg "_law_text" s_text P_text f7 fd7) (D_line : DefAt K mg "_law_line" s_line P_line f8 fd8) (D_bound_text : DefAt K mg "_law_bound_text" s_bound_text P_bound_text f9 fd9)
    (D_cuts : DefAt K mg "cuts" s_cuts P_cuts f10 fd10) (G_cuts : FnOk P w K mg base CX0 4 f10 fd10 P_cuts (sp_cuts K C CR CU)) : FnOk P w K mg base CX0 9 f fd P_right sp_right24 := by
  have G_plan : FnOk P w K mg base CX0 4 f1 fd1 P_plan sp_plan := ok_plan D_plan T D_draw D_common D_bound D_sort
  have G_due : FnOk P w K mg base CX0 1 f6 fd6 P_due sp_wdue := ok_wdue D_due T
  have G_text : FnOk P w K mg base CX0 3 f7 fd7 P_text sp_wtext := ok_wtext D_text T D_line D_bound_text
  have G_common : FnOk P w K mg base CX0 1 f3 fd3 P_common sp_gcd := ok_common D_common T
  refine D.fn.ok sc_right (fun vs H Q E h => ?_) (fun cdv A outer s H vs Q E hr h => ?_)
  · obtain ⟨wl, rfl, _⟩ := h
    rfl
  · obtain ⟨wl, rfl, hw, ret⟩ := h
    refine ⟨_, (pss_cons (ps_asg (pe_call G_plan (hr.mono (by decide)) rfl D_plan.mg D_plan.fn.kp D_plan.bd .nil pass0 (pa_cons (pv 0) (pa_cons pe_int pa_nil))) (pg_name (i := 1) sc_right.nd rfl (.inl rfl)))
      (pss_cons (ps_asg (pe_tup (pa_cons (pe_call G_due (hr.mono (by decide)) rfl D_due.mg D_due.fn.kp D_due.bd .nil pass0 (pa_cons (pv 1) pa_nil)) (pa_cons (pe_call G_cuts (hr.mono (by decide)) rfl D_cuts.mg D_cuts.fn.kp D_cuts.bd .nil pass0 (pa_cons (pe_cmeth (pe_glob (v := .ref CU) rfl TU.mg rfl) CRD_read CMT_read R_read (hr.mono (by decide)) pass0 (pa_cons (pe_call G_text (hr.mono (by decide)) rfl D_text.mg D_text.fn.kp D_text.bd .nil pass0 (pa_cons (pv 1) pa_nil)) pa_nil)) pa_nil)) pa_nil))) (pg_tup (by rfl) (pgs_cons (pg_name (i := 2) sc_right.nd rfl (.inl rfl)) (pgs_cons (pg_name (i := 3) sc_right.nd rfl (.inr rfl)) pgs_nil))))
      (pss_cons (ps_if (pt_not (pt_val (pe_callB call_isi (by rfl) T.isinstance (by decide +kernel) (pa_cons (pv 3) (pa_cons (pe_bltn (v := .ty "tuple") (u := .type "tuple") (by rfl) T.tuple (by decide +kernel) rfl) pa_nil)))))
      (pss_one (ps_ret pe_bl))
      pss_nil)
      (pss_cons (ps_if (pt_cmpR (op_neD hr.units) (pe_lc (own := [("_law_one", 7)]) (g := gName 7) rfl sc_right.nd (pi_tup (pv 3)) (blkOk_by (own := [("_law_one", 7)]) (N := N_right) (sc := defScope s_right) (by decide +kernel)) (fun _ _ _ _ _ => (pg_name (i := 7) sc_right.nd rfl (.inl rfl))) (fun _ _ _ _ _ => (pts_one (PW.pt (pw_or (pt_not (pt_val (pe_callB (show CallR _ (.builtin "isinstance") (rIsi K) from call_isi) (by rfl) T.isinstance (by decide +kernel) (pa_cons (pv 7) (pa_cons (pe_bltn (v := .ty "tuple") (u := .type "tuple") (by rfl) T.tuple (by decide +kernel) rfl) pa_nil))))) (pw_or1 (pt_cmpR op_ne (pe_callB (show CallR _ (.builtin "len") (rLenS K) from call_len_seq) (by rfl) T.len (by decide +kernel) (pa_cons (pv 7) pa_nil)) pe_int (nomark _))))))) (fun _ _ _ _ _ => (pv 7))) (pe_lst pa_nil) (nomark _))
      (pss_one (ps_ret pe_bl))
      pss_nil)
      (pss_cons (ps_for PassesOwn.never rfl (pi_tup (pv 3)) (pg_tup (by rfl) (pgs_cons (pg_name (i := 4) sc_right.nd rfl (.inl rfl)) (pgs_cons (pg_name (i := 5) sc_right.nd rfl (.inl rfl)) pgs_nil)))
      (pss_cons (ps_if (PW.pt (pw_or (pt_val (pe_callB call_isi (by rfl) T.isinstance (by decide +kernel) (pa_cons (pv 4) (pa_cons (pe_bltn (v := .ty "bool") (u := .type "bool") (by rfl) T.bool (by decide +kernel) rfl) pa_nil)))) (pw_or (pt_not (pt_val (pe_callB call_isi (by rfl) T.isinstance (by decide +kernel) (pa_cons (pv 4) (pa_cons (pe_bltn (v := .ty "int") (u := .type "int") (by rfl) T.int (by decide +kernel) rfl) pa_nil))))) (pw_or1 (pt_not (pt_val (pe_callB call_isi (by rfl) T.isinstance (by decide +kernel) (pa_cons (pv 5) (pa_cons (pe_bltn (v := .ty "int") (u := .type "int") (by rfl) T.int (by decide +kernel) rfl) pa_nil)))))))))
      (pss_one (ps_ret pe_bl))
      pss_nil)
      (pss_one (ps_if (PW.pt (pw_or (pt_cmpR (op_notInD (units65 hr)) (pe_tup (pa_cons (pv 4) (pa_cons (pv 5) pa_nil))) (pv 2) (by rfl)) (pw_or1 (pt_cmpR op_ne (pe_call G_common (hr.mono (by decide)) rfl D_common.mg D_common.fn.kp D_common.bd .nil pass0 (pa_cons (pv 4) (pa_cons (pv 5) pa_nil))) pe_int (nomark _)))))
      (pss_one (ps_ret pe_bl))
      pss_nil))))
      (pss_cons (ps_for PassesOwn.never rfl (pi_range2 (by rfl) T.range (pa_cons pe_int (pa_cons (pe_callB call_len_seq (by rfl) T.len (by decide +kernel) (pa_cons (pv 3) pa_nil)) pa_nil))) (pg_name (i := 6) sc_right.nd rfl (.inl rfl))
      (pss_one (ps_if (pt_cmpR op_ge (pe_op op_mul (pe_ix ix_tup (pe_ix ix_tup (pv 3) (pe_op op_sub (pv 6) pe_int) (fun _ _ => rfl)) pe_int (fun _ _ => rfl)) (pe_ix ix_tup (pe_ix ix_tup (pv 3) (pv 6) (fun _ _ => rfl)) pe_int (fun _ _ => rfl))) (pe_op op_mul (pe_ix ix_tup (pe_ix ix_tup (pv 3) (pv 6) (fun _ _ => rfl)) pe_int (fun _ _ => rfl)) (pe_ix ix_tup (pe_ix ix_tup (pv 3) (pe_op op_sub (pv 6) pe_int) (fun _ _ => rfl)) pe_int (fun _ _ => rfl))) (nomark _))
      (pss_one (ps_ret pe_bl))
      pss_nil)))
      (pss_one (ps_ret (pe_cmpR (op_eqD hr.units) (pe_lc (own := [("_law_pair", 8)]) (g := gName 8) rfl sc_right.nd (pi_list (pv 2)) (blkOk_by (own := [("_law_pair", 8)]) (N := N_right) (sc := defScope s_right) (by decide +kernel)) (fun _ _ _ _ _ => (pg_name (i := 8) sc_right.nd rfl (.inl rfl))) (fun _ _ _ _ _ => (pts_one (pt_cmpR (show OpR _ (compareOp .NotIn) (rNotInDT K) from op_notInDT (units65 hr)) (pv 8) (pv 3) (by rfl)))) (fun _ _ _ _ _ => (pv 8))) (pe_lst pa_nil) (nomark _)))))))))), ?_⟩
    refine ⟨_, rfl, wl, 6, rfl, hw, by decide, by decide, fun v ss rs H1 b1 w1 hpl pok => ?_⟩
    dsimp only [gName]
    obtain ⟨nd, nk⟩ := pok.names (by decide)
    have so : ∀ s ∈ ss, SrOk s := by
      obtain ⟨_, _, _, _, _, _, _, _, _, al, _⟩ := id hpl
      exact plan_srs al nk
    have kok := plan_kinds pok so
    have rok := plan_rows pok
    obtain ⟨tf1, tf2, tf3⟩ := text_facts kok rok (plan_36 pok)
    refine ⟨_, rfl, v, ss, rs, rfl, hpl, pok.mst, so, fun p dv H2 hp s2 hD ad => ?_⟩
    refine ⟨rfl, _, rfl, v, ss, rs, rfl, hpl.same s2, pok, fun H3 s3 => ?_⟩
    refine ⟨_, _, _, rfl, tf1, tf2, tf3, read_text kok rok, kok, rok, plan_36 pok, fun a H4 ha s4 hR => ?_⟩
    refine ⟨a, _, _, rfl, hR, kok.ok, kok.six, fun q fv H5 hq s5 hT af => ?_⟩
    refine ⟨(by show 2 ≤ sizeLine; decide), fun t ht => ⟨t, _, rfl, SqT.of upd_same, rfl, _, _, rfl, _, _, rfl, rfl, ?_⟩⟩
    have s25 := (s3.trans s4).trans s5
    have s6 := same_new (o := .tup [.ref p, .ref q]) ht
    have hD6 := s6 _ _ (s25 _ _ hD)
    have ad6 := ad.mono fun _ _ w => w.tup (TupS.of (s25.trans s6))
    have hT6 := s6 _ _ hT
    have af6 := af.mono fun _ _ w => w.tup (TupS.of s6)
    have b6 : But wl H (upd H5 t (.tup [.ref p, .ref q])) := b1.trans (But.of ((s2.trans s25).trans s6))
    generalize upd H5 t (.tup [.ref p, .ref q]) = H6 at hD6 ad6 hT6 af6 b6
    clear s6 s25 s5 s4 s3 s2 ht hT hq hD hp af ad ha hR
    have ck := cutsOf_ok kok.ok kok.six
    have mem := due_cuts so
    generalize cutsOf (ss.map kdOf) = cs at ck mem af6
    generalize dueL ss = ds at mem ad6
    have ret : ∀ H', Same H6 H' → Q (.bl true) H' := fun H' s' => ret _ (b6.trans (But.of s'))
    dsimp only
    have lf := af6.len
    have l18 := ck.len
    -- a tuple
    refine ⟨_, rfl, _, _, _, _, _, rfl, .ty _, .base (.tup hT6), kit_ty (r := true) (by decide +kernel), _, rfl, iteF ?_⟩
    dsimp only [tNext]
    -- of pairs
    refine join_ifs (fun b H' => b = false ∧ Same H6 H') (fun Q' fin => ?_) ?_
    · refine ⟨_, rfl, q, rfl, ⟨_, SqT.of hT6⟩, fun N hN => ?_⟩
      refine lc_tup (K := K) (a := q) (xs := fv) (fun i H' => Same H6 H' ∧ H' N = some (.lst [])) ⟨same_new hN, upd_same⟩ ?_ ?_ ?_
      · rintro i H' _ ⟨s', _⟩
        exact SqT.of (s' _ _ hT6)
      · rintro i x H' hx ⟨s', hl⟩
        obtain ⟨sh, _, r, rfl, hr⟩ := af6.get hx
        have hr' := s' _ _ hr
        refine ⟨rfl, _, rfl, _, _, _, _, true, rfl, .ty _, .base (.tup hr'), kit_ty (by decide +kernel), _, rfl, ?_⟩
        exact iteF ⟨_, rfl, r, _, rfl, .inr (SqT.of hr'), rfl, _, rfl, iteF ⟨s', hl⟩⟩
      · rintro H' ⟨s', hl⟩
        refine ⟨(by show 0 ≤ sizeLine; decide), fun e he => ⟨.list [], .list [], .lst (SqL.of (same_new he _ _ hl)) .nil, .lst (SqL.of upd_same) .nil, rfl, rfl, _, rfl, fin _ _ ⟨rfl, s'.trans (same_new he)⟩⟩⟩
    rintro _ H7 ⟨rfl, s7⟩
    refine iteF ?_
    dsimp only [tNext]
    have hT7 := s7 _ _ hT6
    have hD7 := s7 _ _ hD6
    have af7 := af6.mono fun _ _ w => w.tup (TupS.of s7)
    have ad7 := ad6.mono fun _ _ w => w.tup (TupS.of s7)
    -- each one is due
    refine join_st (fun σ' H' => ∃ x4 x5, σ' = [some (.ref wl), some v, some (.ref p), some (.ref q), x4, x5, none, none, none] ∧ Same H7 H') (fun nx' fin => ?_) ?_
    · refine ⟨_, rfl, q, rfl, ⟨_, SqT.of hT7⟩, for_tup (K := K) (a := q) (xs := fv) (fun i σ' H' => ∃ x4 x5, σ' = [some (.ref wl), some v, some (.ref p), some (.ref q), x4, x5, none, none, none] ∧ Same H7 H') ⟨none, none, rfl, Same.refl _⟩ ?_ ?_ ?_⟩
      · rintro i σ' H' _ ⟨_, _, _, s'⟩
        exact SqT.of (s' _ _ hT7)
      · rintro i x σ' H8 hx ⟨x4, x5, rfl, s8⟩
        obtain ⟨sh, hsi, r, rfl, hr⟩ := af7.get hx
        have shm := List.mem_of_getElem? hsi
        have sok := ck.ok sh shm
        refine ⟨r, _, rfl, SqT.of (s8 _ _ hr), rfl, _, _, rfl, _, _, rfl, rfl, ?_⟩
        dsimp only
        refine join_ifs (fun b H' => b = false ∧ H8 = H') (fun Q' fin => ?_) ?_
        · refine ⟨_, rfl, _, _, _, _, false, rfl, .ty _, .base (.int _), kit_ty (by decide +kernel), _, rfl, iteF ?_⟩
          refine ⟨_, rfl, _, _, _, _, true, rfl, .ty _, .base (.int _), kit_ty (by decide +kernel), _, rfl, iteF ?_⟩
          exact ⟨_, rfl, _, _, _, _, true, rfl, .ty _, .base (.int _), kit_ty (by decide +kernel), _, rfl, fin _ _ ⟨rfl, rfl⟩⟩
        rintro _ _ ⟨rfl, rfl⟩
        refine iteF ?_
        dsimp only [tNext]
        refine join_it (fun b H' => b = false ∧ Same H8 H') (fun Q' fin => ?_) ?_
        · refine ⟨_, rfl, _, rfl, (by show 2 ≤ sizeLine; decide), fun t ht => ?_⟩
          have st := same_new (H := H8) (o := .tup [.int sh.1, .int sh.2]) ht
          refine ⟨_, rfl, shD sh, ds.map shD, .tup (SqT.of upd_same) (.cons (.int _) (.cons (.int _) .nil)), .lst (SqL.of (st _ _ (s8 _ _ hD7))) (shs_dp (ad7.mono fun _ _ w => w.tup (TupS.of (s8.trans st)))), rfl, (shs_shaped ds).1, _, rfl, ?_⟩
          rw [shs_in sh ds ((mem sh).mp shm)]
          refine iteF ⟨_, rfl, _, rfl, sh.1, sh.2, rfl, rfl, _, rfl, fin _ _ ⟨?_, st⟩⟩
          rw [sok.gc]
          rfl
        rintro _ H9 ⟨rfl, s9⟩
        exact ⟨_, _, rfl, s8.trans s9⟩
      · rintro σ' H' ⟨x4, x5, rfl, s'⟩
        exact fin _ _ ⟨x4, x5, rfl, s'⟩
    rintro _ H8 ⟨x4, x5, rfl, s8⟩
    have hT8 := s8 _ _ hT7
    have hD8 := s8 _ _ hD7
    have af8 := af7.mono fun _ _ w => w.tup (TupS.of s8)
    have ad8 := ad7.mono fun _ _ w => w.tup (TupS.of s8)
    have s68 := s7.trans s8
    -- ascending
    refine join_st (fun σ' H' => ∃ x6, σ' = [some (.ref wl), some v, some (.ref p), some (.ref q), x4, x5, x6, none, none] ∧ H8 = H') (fun nx' fin => ?_) ?_
    · refine ⟨_, rfl, q, _, rfl, .inr (SqT.of hT8), 1, _, rfl, ⟨by decide, by decide, by omega, by omega⟩, for_range (lo := 1) (n := ((fv.length : Int) - 1).toNat) (fun i σ' H' => ∃ x6, σ' = [some (.ref wl), some v, some (.ref p), some (.ref q), x4, x5, x6, none, none] ∧ H8 = H') ⟨none, rfl, rfl⟩ ?_ ?_⟩
      · rintro i σ' H' hi ⟨x6, rfl, rfl⟩
        have i1 : i + 1 < cs.length := by omega
        obtain ⟨v1, g1, r1, rfl, k1⟩ := af8.get' (List.getElem?_eq_getElem (show i < cs.length by omega))
        obtain ⟨v2, g2, r2, rfl, k2⟩ := af8.get' (List.getElem?_eq_getElem i1)
        have o1 := ck.ok _ (List.getElem_mem (show i < cs.length by omega))
        have o2 := ck.ok _ (List.getElem_mem i1)
        have lt := List.pairwise_iff_getElem.mp ck.asc i (i + 1) (by omega) i1 (by omega)
        have lt := of_decide_eq_true lt
        have e1 : (1 : Int) + (i : Nat) - 1 = ((i : Nat) : Int) := by omega
        have e2 : (1 : Int) + (i : Nat) = ((i + 1 : Nat) : Int) := by omega
        have l1 := o1.lt
        have l2 := o2.lt
        have m1 := o1.le
        have m2 := o2.le
        refine ⟨_, rfl, _, rfl, _, _, rfl, rfl, _, _, _, _, rfl, rfl, SqT.of hT8, by rw [e1]; exact atI_nat g1, _, _, _, _, rfl, rfl, SqT.of k1, rfl, _, rfl, _, rfl, _, _, _, _, rfl, rfl, SqT.of hT8, by rw [e2]; exact atI_nat g2, _, _, _, _, rfl, rfl, SqT.of k2, rfl, _, _, rfl, rfl, .inl ⟨by omega, by omega⟩, ?_⟩
        refine ⟨_, rfl, _, rfl, _, _, _, _, rfl, rfl, SqT.of hT8, by rw [e2]; exact atI_nat g2, _, _, _, _, rfl, rfl, SqT.of k2, rfl, _, rfl, _, rfl, _, _, rfl, rfl, _, _, _, _, rfl, rfl, SqT.of hT8, by rw [e1]; exact atI_nat g1, _, _, _, _, rfl, rfl, SqT.of k1, rfl, _, _, rfl, rfl, .inl ⟨by omega, by omega⟩, _, _, rfl, rfl, _, rfl, ?_⟩
        refine ifF ?_ ⟨_, rfl, rfl⟩
        rw [← Int.natCast_mul, ← Int.natCast_mul]
        omega
      · rintro σ' H' ⟨x6, rfl, rfl⟩
        exact fin _ _ ⟨x6, rfl, rfl⟩
    rintro _ _ ⟨x6, rfl, rfl⟩
    -- all are told
    refine ⟨_, rfl, p, rfl, ⟨_, SqL.of hD8⟩, fun N hN => ?_⟩
    refine lc_list (K := K) (a := p) (xs := dv) (fun i H' => Same H8 H' ∧ H' N = some (.lst [])) ⟨same_new hN, upd_same⟩ ?_ ?_ ?_
    · rintro i H' _ ⟨s', _⟩
      exact SqL.of (s' _ _ hD8)
    · rintro i x H' hx ⟨s', hl⟩
      obtain ⟨sh, hsi, r, rfl, hr⟩ := ad8.get hx
      have shm := (mem sh).mpr (List.mem_of_getElem? hsi)
      refine ⟨rfl, _, rfl, _, rfl, shD sh, cs.map shD, .tup (SqT.of (s' _ _ hr)) (.cons (.int _) (.cons (.int _) .nil)), .tup (SqT.of (s' _ _ hT8)) (shs_dp (af8.mono fun _ _ w => w.tup (TupS.of s'))), rfl, (shs_shaped cs).2, _, rfl, ?_⟩
      rw [shs_in sh cs shm]
      exact iteF ⟨s', hl⟩
    · rintro H' ⟨s', hl⟩
      refine ⟨(by show 0 ≤ sizeLine; decide), fun e he => ⟨.list [], .list [], .lst (SqL.of (same_new he _ _ hl)) .nil, .lst (SqL.of upd_same) .nil, rfl, rfl, ?_⟩⟩
      exact ret _ ((s68.trans s').trans (same_new he))
abbrev s_law : Stmt := top 66
abbrev N_law : List Str := ["_law_script", "_law_spot"]
abbrev P_law : List Str := ["_law_script"]
theorem sc_law : FnScope N_law P_law (defScope s_law) := ⟨rfl, rfl, rfl, by decide +kernel, rfl, by decide +kernel, by decide +kernel⟩
theorem ok_law24 {f f1 f2 : Addr} {fd fd1 fd2 : FuncData} (D : Fun K "law" "law" s_law f fd) (T : Txt K mg) (D_right : DefAt K mg "_law_right" s_right P_right f1 fd1) (G_right : FnOk P w K mg base CX0 9 f1 fd1 P_right sp_right24) (D_well : DefAt K mg "_law_well" s_well P_well f2 fd2) : FnOk P w K mg base CX0 10 f fd P_law (sp_law24 K) := by
  have G_well : FnOk P w K mg base CX0 1 f2 fd2 P_well (sp_well K) := ok_well D_well T
  refine D.ok sc_law (fun vs H Q E h => ?_) (fun cdv A outer s H vs Q E hr h => ?_)
  · obtain ⟨a, ns, rfl, _⟩ := h
    rfl
  · obtain ⟨a, ns, rfl, hS, bits, l63, ret⟩ := h
    refine ⟨_, (pss_one (ps_ret (pe_callB (cr_all rfl) (by rfl) T.all (by decide +kernel) (pa_cons (pe_lc (own := [("_law_spot", 1)]) (g := gName 1) rfl sc_law.nd (pi_range1 (by rfl) T.range (pa_cons (pe_callB (call_max2 rfl) (by rfl) T.max (by decide +kernel) (pa_cons pe_int (pa_cons (pe_callB (call_min2 rfl) (by rfl) T.min (by decide +kernel) (pa_cons (pe_callB call_len_seq (by rfl) T.len (by decide +kernel) (pa_cons (pv 0) pa_nil)) (pa_cons pe_int pa_nil))) pa_nil))) pa_nil)) (blkOk_by (own := [("_law_spot", 1)]) (N := N_law) (sc := defScope s_law) (by decide +kernel)) (fun _ _ _ _ _ => (pg_name (i := 1) sc_law.nd rfl (.inl rfl))) (fun _ _ _ _ _ => pts_nil) (fun _ _ _ _ _ => (pe_call G_right (hr.mono (by decide)) rfl D_right.mg D_right.fn.kp D_right.bd .nil pass0 (pa_cons (pe_call G_well (hr.mono (by decide)) rfl D_well.mg D_well.fn.kp D_well.bd .nil pass0 (pa_cons (pv 0) (pa_cons (pv 1) pa_nil))) pa_nil)))) pa_nil)))), ?_⟩
    have i62 : (2 : Int) ^ 62 = 4611686018427387904 := by decide
    refine ⟨_, rfl, a, _, rfl, .inl hS, _, _, rfl, _, _, rfl, _, rfl, ?_, ?_, fun N hN => ?_⟩
    · split <;> split <;> omega
    · split <;> split <;> omega
    have big : (if (if (4 : Int) < ((ns.map V.int).length : Nat) then (4 : Int) else ((ns.map V.int).length : Nat)) > 2 then (if (4 : Int) < ((ns.map V.int).length : Nat) then (4 : Int) else ((ns.map V.int).length : Nat)) else 2).toNat ≤ 4 := by
      split <;> split <;> omega
    generalize (if (if (4 : Int) < ((ns.map V.int).length : Nat) then (4 : Int) else ((ns.map V.int).length : Nat)) > 2 then (if (4 : Int) < ((ns.map V.int).length : Nat) then (4 : Int) else ((ns.map V.int).length : Nat)) else 2).toNat = m at big
    refine lc_range (lo := 0) (n := m) (fun j H' => Same H H' ∧ H' N = some (.lst (List.replicate j (.bl true)))) ⟨same_new hN, upd_same⟩ ?_ ?_
    · rintro j H1 hj ⟨s1, h1⟩
      refine ⟨rfl, _, rfl, _, rfl, a, ns, _, rfl, s1.seq hS, bits, by omega, by omega, by omega, fun p H2 hp s2 hw => ?_⟩
      have h2 := s2 _ _ h1
      have nNp : N ≠ p := ne_of_none h1 hp
      refine ⟨p, rfl, hw, fun H3 b3 => ⟨_, b3 _ _ nNp h2, ?_, ?_, ?_⟩⟩
      · rw [List.length_replicate]
        exact Nat.lt_trans hj (Nat.lt_of_le_of_lt big (by decide))
      · exact same_put (same_but (s1.trans s2) (s1.free hp) b3) hN
      · rw [upd_same, List.replicate_succ']
    · rintro H1 ⟨s1, h1⟩
      refine ⟨N, List.replicate m true, rfl, SqL.of ?_, ?_⟩
      · rw [h1, List.map_replicate]
      · have e : (List.replicate m true).all id = true := by
          rw [List.all_eq_true]
          intro x hx
          exact (List.mem_replicate.mp hx).2
        rw [e]
        exact ret _
end L

namespace Hv
open PySem PySem.Spec PyProof.Rows L2
/-! ### the part of the heap that is told -/
abbrev Look := Addr → Option Obj
def names1 (g : Look) (x : Str) : Addr := He.ga (He.frG g [mainGlobals]) x
def next1 (g : Look) (a : Addr) : List Addr := match g a with
  | some o => He.refsD o
  | none => []
/-- a function: what it names; another object: what that names, and so on -/
def next2 (g : Look) (a : Addr) : List Addr := match g a with
  | some ⟨_, _, .func fd, _⟩ => He.refV fd.code ++ He.refV fd.defaults ++ He.refV fd.kwdefaults
  | some o => He.refsD o ++ (He.refsD o).flatMap (next1 g)
  | none => []
def ofCls (g : Look) (C : Addr) : List Addr := C :: match g C with
  | some ⟨_, _, .cls cd, _⟩ => cd.ns :: (next1 g cd.ns).flatMap fun a => a :: next2 g a
  | _ => []
/-- the defs fs, the classes cs with all their methods, the classes ds without -/
def asO (g : Look) (fs cs ds : List Str) : List Addr := mainGlobals :: cStatics :: ((fs.flatMap fun x => names1 g x :: next1 g (names1 g x)) ++ ((cs.flatMap fun x => ofCls g (names1 g x)) ++ ds.flatMap fun x => names1 g x :: match g (names1 g x) with
  | some ⟨_, _, .cls cd, _⟩ => [cd.ns]
  | _ => []))
/-! ### a def at a place -/
structure DefQ where
  at_ : PySem.W.Frag → Addr
  name : Str
  qual : Str
  st : Stmt
  dfl : List He.Dv := []
def DefQ.val (d : DefQ) : He.FnW := some (d.name, d.qual, defArgs d.st, .stmts (defBody d.st), defScope d.st, mainGlobals, [], builtinsNs)
def DefQ.obs (K : PySem.W.Frag) (d : DefQ) : He.FnW := match K.lookup (d.at_ K) with
  | some ⟨_, _, .func fd, _⟩ => some (fd.name, fd.qualname, fd.params, fd.body, fd.scope, fd.globals, fd.closure, fd.builtins)
  | _ => none
def DefQ.dvs (K : PySem.W.Frag) (d : DefQ) : List V := d.dfl.map (He.Dv.v K)
def DefQ.ok (K : PySem.W.Frag) (d : DefQ) : Bool := PySem.W.keepIn K (.ref (d.at_ K)) && (match K.lookup (d.at_ K) with
  | some ⟨_, _, .func fd, _⟩ => PySem.W.codeIn K fd.code d.qual && He.dflB K fd.defaults (d.dvs K)
  | _ => false)
/-- what is known of it -/
def DefO (K : PySem.W.Frag) (d : DefQ) : Prop := ∃ (oc : Value) (od : Option Addr) (dV kV doc pm : Value) (an : Option Addr) (cd ct : Value) (sl : Array (Option Value)),
  K.lookup (d.at_ K) = some ⟨oc, od, .func (PySem.W.fnOf d.name d.qual (defArgs d.st) (defBody d.st) (defScope d.st) dV kV doc pm an cd ct), sl⟩ ∧ PySem.W.codeIn K cd d.qual = true ∧ DflV K dV (d.dvs K) ∧ PySem.W.keepIn K (.ref (d.at_ K)) = true
theorem DefQ.out {K : PySem.W.Frag} {d : DefQ} (e : d.obs K = d.val) (c : d.ok K = true) : DefO K d := by
  obtain ⟨kp, c2⟩ := He.ba c
  unfold DefQ.obs at e
  cases q : K.lookup (d.at_ K) with
  | none =>
    rw [q] at c2
    cases c2
  | some o =>
    obtain ⟨oc, od, dt, osl⟩ := o
    rw [q] at c2 e
    cases dt with
    | func fd =>
      obtain ⟨n1, n2, n3, n4, n5, n6, n7, n8, n9, n10, n11, n12, n13, n14, n15⟩ := fd
      have e2 : (some (n1, n2, n3, n4, n5, n6, n7, n15) : He.FnW) = some (d.name, d.qual, defArgs d.st, .stmts (defBody d.st), defScope d.st, mainGlobals, [], builtinsNs) := e
      simp only [Option.some.injEq, Prod.mk.injEq] at e2
      obtain ⟨h1, h2, h3, h4, h5, h6, h7, h8⟩ := e2
      subst h1 h2 h3 h4 h5 h6 h7 h8
      obtain ⟨k1, k2⟩ := He.ba (show (PySem.W.codeIn K n13 d.qual && He.dflB K n8 (d.dvs K)) = true from c2)
      exact ⟨oc, od, n8, n9, n10, n11, n12, n13, n14, osl, q, k1, He.dflB_ok k2, kp⟩
    | _ => cases c2
/-! ### the Hook -/
abbrev Fb := PySem.W.Frag → Bool
def tabB (g : Look) (K : PySem.W.Frag) (x : Str) : Bool := PySem.W.codeHdIn K (He.cT K (x, none)).1 (He.cT K (x, none)).2 && (match g (He.cT K (x, none)).2 with
  | some o => He.emptyTab o
  | none => false)
abbrev Ob := Bool × List He.FnW
def obO (fb : List Fb) (fn : List DefQ) (tf : List Str) (g : Look) (K : PySem.W.Frag) : Ob := ((fb.all fun b => b K) && (fn.all (fun d => d.ok K) && tf.all (fun x => tabB g K x)), fn.map fun d => d.obs K)
structure Says (fb : List Fb) (fn : List DefQ) (tf : List Str) (h : Heap) (K : PySem.W.Frag) : Prop where
  kin : K.In h
  bs : ∀ b ∈ fb, b K = true
  df : ∀ d ∈ fn, DefO K d
  hd : ∀ x ∈ tf, PySem.W.codeHdIn K (He.cT K (x, none)).1 (He.cT K (x, none)).2 = true
  no : ∀ x ∈ tf, K.lookup (He.cT K (x, none)).2 = none
  em : ∀ x ∈ tf, h.get? (He.cT K (x, none)).2 = some tab0
theorem says_of {fb : List Fb} {fn : List DefQ} {tf : List Str} {h : Heap} {as : List Addr} (e : obO fb fn tf h.get? (He.frT h.get? as) = (true, fn.map DefQ.val)) : Says fb fn tf h (He.frT h.get? as) := by
  obtain ⟨e1, e2⟩ := Prod.mk.inj e
  obtain ⟨h1, h2⟩ := He.ba e1
  obtain ⟨h3, h4⟩ := He.ba h2
  have key : ∀ x ∈ tf, PySem.W.codeHdIn (He.frT h.get? as) (He.cT (He.frT h.get? as) (x, none)).1 (He.cT (He.frT h.get? as) (x, none)).2 = true ∧ ∃ o, h.get? (He.cT (He.frT h.get? as) (x, none)).2 = some o ∧ He.emptyTab o = true := fun x hx => by
    obtain ⟨k1, k2⟩ := He.ba (List.all_eq_true.mp h4 x hx)
    refine ⟨k1, ?_⟩
    cases q : h.get? (He.cT (He.frT h.get? as) (x, none)).2 with
    | none =>
      rw [q] at k2
      cases k2
    | some o =>
      rw [q] at k2
      exact ⟨o, rfl, k2⟩
  refine ⟨He.frT_in, fun b hb => List.all_eq_true.mp h1 b hb, fun d hd => ?_, fun x hx => (key x hx).1, fun x hx => ?_, fun x hx => ?_⟩
  · refine DefQ.out ?_ (List.all_eq_true.mp h3 d hd)
    exact List.map_inj_left.mp e2 d hd
  · obtain ⟨_, o, q, z⟩ := key x hx
    exact He.frT_none q z
  · obtain ⟨_, o, q, z⟩ := key x hx
    rw [q, He.emptyTab_eq z]
def hookO (fs cs ds : List Str) (fb : List Fb) (fn : List DefQ) (tf : List Str) : PySem.W.Hook where
  α := Ob
  obs := fun s => obO fb fn tf s.heap.get? (He.frT s.heap.get? (asO s.heap.get? fs cs ds))
  val := fun _ => (true, fn.map DefQ.val)
  says := fun _ h => ∃ K : PySem.W.Frag, Says fb fn tf h K
  of := fun _ _ e => ⟨_, says_of e⟩
  keeps := fun _ _ _ ⟨K, c⟩ k => ⟨K, PySem.W.Frag.In.keeps c.kin k, c.bs, c.df, c.hd, c.no, fun x hx => k _ _ (c.em x hx)⟩
def obT (fs cs ds : List Str) (fb : List Fb) (fn : List DefQ) (tf : List Str) (s : PySem.W.SharedT) : Ob := obO fb fn tf (HandSHeadRun.getT s) (He.frT (HandSHeadRun.getT s) (asO (HandSHeadRun.getT s) fs cs ds))
theorem obT_eq {fs cs ds : List Str} {fb : List Fb} {fn : List DefQ} {tf : List Str} (s : PySem.W.SharedT) : obT fs cs ds fb fn tf s = (hookO fs cs ds fb fn tf).obs s.abs := by
  have e : HandSHeadRun.getT s = s.abs.heap.get? := funext (HandSHeadRun.getT_eq s)
  unfold obT
  rw [e]
  rfl
section
variable {fb : List Fb} {fn : List DefQ} {tf : List Str} {h : Heap} {K : PySem.W.Frag}
theorem Says.b (c : Says fb fn tf h K) (i : Nat) {f : Fb} (hf : fb[i]? = some f := by rfl) : f K = true := c.bs f (List.mem_of_getElem? hf)
theorem Says.d (c : Says fb fn tf h K) (i : Nat) {f : DefQ} (hf : fn[i]? = some f := by rfl) : DefO K f := c.df f (List.mem_of_getElem? hf)
theorem dfl_none {dV : Value} (h : DflV K dV []) : dV = .none := by
  rcases h with ⟨_, h⟩ | ⟨h, _⟩
  · exact h
  · exact absurd rfl h
/-- a def of the module -/
abbrev defG (x : Str) (st : Stmt) : DefQ := ⟨fun K => He.ga K x, x, x, st, []⟩
theorem defIn_of {x : Str} {st : Stmt} (h : DefO K (defG x st)) (hg : PySem.W.nsIn K mainGlobals x = some (some (.ref (He.ga K x)))) : DefIn K x st := by
  obtain ⟨oc, od, dV, kV, doc, pm, an, cd, ct, sl, h1, h2, h3, h4⟩ := h
  cases dfl_none h3
  exact ⟨_, oc, od, kV, doc, pm, an, cd, ct, sl, hg, h1, h2, h4⟩
theorem tabIn_of {x : Str} {st : Stmt} (c : Says fb fn tf h K) (hx : x ∈ tf) (d : DefO K (defG x st)) (hg : PySem.W.nsIn K mainGlobals x = some (some (.ref (He.ga K x)))) : TabIn K x (He.cT K (x, none)).1 (He.cT K (x, none)).2 := by
  obtain ⟨oc, od, dV, kV, doc, pm, an, cd, ct, sl, h1, h2, h3, h4⟩ := d
  obtain ⟨cc, rfl⟩ := He.codeIn_ref h2
  have e : (He.cT K (x, none)).1 = cc := He.codeOf_eq (p := (x, none)) h1 rfl
  have hd := c.hd x hx
  have no := c.no x hx
  generalize (He.cT K (x, none)).2 = P at hd no ⊢
  rw [e] at hd ⊢
  unfold PySem.W.codeHdIn at hd
  split at hd
  · rename_i dd vs sl2 hk
    simp only [Bool.and_eq_true] at hd
    obtain ⟨⟨⟨⟨⟨q, _⟩, _⟩, _⟩, _⟩, _⟩ := hd
    have hv : vs[11]? = some (.ref P) := by
      split at q
      · rename_i P' e'
        rw [e', beq_iff_eq.mp q]
      · cases q
    exact ⟨_, _, _, _, _, _, _, hg, h1, rfl, rfl, hk, hv, no⟩
  · cases hd
end
abbrev defM (C m q : Str) (st : Stmt) (dfl : List He.Dv := []) : DefQ := ⟨fun K => He.ma K (He.ga K C) m, m, q, st, dfl⟩
/-! ### a method, a property -/
def methB (C m : Str) : Fb := fun K => decide (PySem.W.findIn K (.ref (He.ga K C)) m = some (some (.ref (He.ma K (He.ga K C) m)))) && PySem.W.isFn K (.ref (He.ma K (He.ga K C) m))
theorem methIn_of {K : PySem.W.Frag} {C m q : Str} {st : Stmt} (h : methB C m K = true) (d : DefO K (defM C m q st)) : MethIn K (He.ga K C) m q st := by
  unfold methB at h
  simp only [Bool.and_eq_true, decide_eq_true_eq] at h
  obtain ⟨oc, od, dV, kV, doc, pm, an, cd, ct, sl, d1, d2, d3, d4⟩ := d
  cases dfl_none d3
  exact ⟨_, oc, od, kV, doc, pm, an, cd, ct, sl, h.1, h.2, d1, d2, d4⟩
def pg (C m : Str) (K : PySem.W.Frag) : Addr := match PySem.W.recIn K (He.ma K (He.ga K C) m) "property" with
  | some (.ref g :: _) => g
  | _ => 0
def propB (C m : Str) : Fb := fun K => decide (PySem.W.findIn K (.ref (He.ga K C)) m = some (some (.ref (He.ma K (He.ga K C) m)))) && (decide (PySem.W.specialIn K (.ref (He.ma K (He.ga K C) m)) "__get__" = some (some (.builtin "property.__get__"))) && (decide (PySem.W.takesIn K (.ref (He.ma K (He.ga K C) m)) = some true) &&
  (match PySem.W.recIn K (He.ma K (He.ga K C) m) "property" with
  | some (.ref _ :: _) => true
  | _ => false)))
abbrev defP (C m q : Str) (st : Stmt) : DefQ := ⟨pg C m, m, q, st, []⟩
theorem propIn_of {K : PySem.W.Frag} {C m q : Str} {st : Stmt} (h : propB C m K = true) (d : DefO K (defP C m q st)) : PropIn K (He.ga K C) m q st := by
  unfold propB at h
  simp only [Bool.and_eq_true, decide_eq_true_eq] at h
  obtain ⟨h1, h2, h3, h4⟩ := h
  obtain ⟨oc, od, dV, kV, doc, pm, an, cd, ct, sl, d1, d2, d3, d4⟩ := d
  cases dfl_none d3
  split at h4
  · rename_i g rest e
    have eg : pg C m K = g := by
      unfold pg
      rw [e]
    rw [show (defP C m q st).at_ K = g from eg] at d1 d4
    exact ⟨g, oc, od, kV, doc, pm, an, cd, ct, sl, ⟨_, h1, h2, h3, rest, e⟩, d1, d2, d4⟩
  · cases h4
/-! ### constants -/
def intB (x : Str) (i : Int) : Fb := fun K => match PySem.W.nsIn K mainGlobals x with
  | some (some (.int j _)) => decide (j = i)
  | _ => false
theorem intIn_of {K : PySem.W.Frag} {x : Str} {i : Int} (h : intB x i K = true) : ∃ v, PySem.W.nsIn K mainGlobals x = some (some v) ∧ ∃ t, v = .int i t := by
  unfold intB at h
  split at h
  · rename_i j t e
    cases of_decide_eq_true h
    exact ⟨_, e, _, rfl⟩
  · cases h
def strB (x z : Str) : Fb := fun K => match PySem.W.nsIn K mainGlobals x with
  | some (some (.str y _)) => decide (y = z)
  | _ => false
theorem strIn_of {K : PySem.W.Frag} {x z : Str} (h : strB x z K = true) : ∃ v, PySem.W.nsIn K mainGlobals x = some (some v) ∧ ∃ t, v = .str z t := by
  unfold strB at h
  split at h
  · rename_i y t e
    cases of_decide_eq_true h
    exact ⟨_, e, _, rfl⟩
  · cases h
/-! ### the end -/
theorem walkTE {l : PySem.W.OpenLaw} {n k : Nat} {q : Program} {loose : List Str} {XP : (Str → Option Value) → Heap → Prop} {YP : World → Heap → Prop} {d : DefRec} {x : Str} {fb : List Fb} {fn : List DefQ} (xs : List Str)
    (hn : l.most = some n) (hn2 : n ≤ sizeLine) (hdf : d.params.defaults = []) (hr : Room k callerA) (hY : ∀ (w : World) (h : Heap), YP w h → ∃ K, Says fb fn xs h K)
    (F : ∀ (w : World) (mg : Str → Option Value) (fa : Addr) (h : Heap) (K : PySem.W.Frag), Says fb fn xs h K → h.Ns mainGlobals mg → mg d.name = some (.ref fa) → LawT l w K k n x mg fa xs) :
    PySem.W.WalkO q loose XP YP l.row.toRowW d [] (fun f vs => PySem.call f vs) := by
  refine Att.attach_callB hn hdf ?_
  intro w s₀ s₁ mg mb fa o pm cd doc a vs ns G Y ho hd hcd hmg hobj hints hlen hbits hg
  obtain ⟨K, c⟩ := hY w _ Y
  have X := c.kin
  obtain ⟨fd, cs, sp, ht, hb, hsp, hF⟩ := F w mg fa _ K c G.T.g hmg
  have key : ∀ p ∈ cs, ∃ y ∈ xs, p = He.cT K (y, none) := fun p hp => by
    obtain ⟨y, hy, f, o, fd, e, dd, us, sl, k1, k2, k3, k4, k5, k6, _⟩ := ht p hp
    refine ⟨y, hy, ?_⟩
    have eg : He.fAd K (y, none) = f := by
      show He.ga K y = f
      unfold He.ga
      rw [k1]
    obtain ⟨oc, od, dt, osl⟩ := o
    cases k3
    have e1 : He.codeOf K (y, none) = p.1 := He.codeOf_eq (by rw [eg]; exact k2) k4
    have e2 : He.tabOf K p.1 = p.2 := by
      unfold He.tabOf
      rw [k5]
      show (match us.getD 11 .none with | .ref P => P | _ => 0) = p.2
      rw [Array.getD_eq_getD_getElem?, k6]
      rfl
    unfold He.cT
    rw [e1, e2]
  refine call_lawT X G.T.g G.T.b G.T.builtins G.T.nolimit hg (fun p hp => ?_) (fun p hp => ?_) (fun p hp => ?_) G.T.bmain hobj hints (Nat.le_trans hlen hn2) hr hF hb fun H hC hS => hsp H a ns hlen hbits hC hS
  · obtain ⟨y, hy, rfl⟩ := key p hp
    exact c.em y hy
  · obtain ⟨y, hy, rfl⟩ := key p hp
    exact c.no y hy
  · obtain ⟨y, hy, rfl⟩ := key p hp
    exact PySem.W.codeHd_of_K X (c.hd y hy)
end Hv

namespace L
open PySem L2 Hv
/-- Kind.__init__ as the top has left it -/
def KindInitIn (K : PySem.W.Frag) (C : Addr) : Prop := ∃ (f : Addr) (fd : FuncData), FunK K f fd ∧ PySem.W.findIn K (.ref C) "__init__" = some (some (.ref f)) ∧ PySem.W.isFn K (.ref f) = true
def isInt (i : Int) : Option (Option Value) → Bool
  | some (some (.int j _)) => decide (j = i)
  | _ => false
theorem isInt_ok {i : Int} {o : Option (Option Value)} (h : isInt i o = true) : ∃ v, o = some (some v) ∧ ∃ t, v = .int i t := by
  unfold isInt at h
  split at h
  · cases of_decide_eq_true h
    exact ⟨_, rfl, _, rfl⟩
  · cases h
def isNone : Option (Option Value) → Bool
  | some (some .none) => true
  | _ => false
theorem isNone_ok {o : Option (Option Value)} (h : isNone o = true) : o = some (some .none) := by
  unfold isNone at h
  split at h
  · rfl
  · cases h
def kindKwB : Hv.Fb := fun K => match K.lookup (He.ma K (He.ga K "Kind") "__init__") with
  | some ⟨_, _, .func fd, _⟩ => (match fd.kwdefaults with
    | .ref DD => isInt 0 (PySem.W.nsIn K DD "talks") && (isInt 1 (PySem.W.nsIn K DD "needs") && (isNone (PySem.W.nsIn K DD "closing") && isNone (PySem.W.nsIn K DD "ends")))
    | _ => false)
  | _ => false
theorem kindInit_of {K : PySem.W.Frag} (h : Hv.methB "Kind" "__init__" K = true) (kw : kindKwB K = true) (d : Hv.DefO K (Hv.defM "Kind" "__init__" "Kind.__init__" s_Kind_init)) : KindInitIn K (He.ga K "Kind") := by
  unfold Hv.methB at h
  simp only [Bool.and_eq_true, decide_eq_true_eq] at h
  obtain ⟨oc, od, dV, kV, doc, pm, an, cd, ct, sl, d1, d2, d3, d4⟩ := d
  cases Hv.dfl_none d3
  unfold kindKwB at kw
  rw [show K.lookup (He.ma K (He.ga K "Kind") "__init__") = _ from d1] at kw
  cases kV with
  | ref DD =>
    have kw : (isInt 0 (PySem.W.nsIn K DD "talks") && (isInt 1 (PySem.W.nsIn K DD "needs") && (isNone (PySem.W.nsIn K DD "closing") && isNone (PySem.W.nsIn K DD "ends")))) = true := kw
    simp only [Bool.and_eq_true] at kw
    obtain ⟨k1, k2, k3, k4⟩ := kw
    obtain ⟨u1, n1, r1⟩ := isInt_ok k1
    obtain ⟨u2, n2, r2⟩ := isInt_ok k2
    have n3 := isNone_ok k3
    have n4 := isNone_ok k4
    refine ⟨_, _, ⟨⟨oc, od, .none, .ref DD, doc, pm, an, cd, ct, sl, rfl, d1, d2, .inl ⟨rfl, rfl⟩, .inr ⟨DD, rfl, ?_⟩⟩, d4⟩, h.1, h.2⟩
    intro q hq
    simp only [kwsK, List.mem_cons, List.not_mem_nil, or_false] at hq
    rcases hq with rfl | rfl | rfl | rfl
    · exact ⟨u1, n1, r1⟩
    · exact ⟨u2, n2, r2⟩
    · exact ⟨.none, n3, rfl⟩
    · exact ⟨.none, n4, rfl⟩
  | _ => exact absurd kw (by intro z; cases z)
end L

namespace L
open PySem L2 Hv ClX
def rulesTa (K : PySem.W.Frag) : Addr := match K.lookup (He.ma K (He.ga K "Rules") "__init__") with
  | some ⟨_, _, .func fd, _⟩ => (match fd.defaults with
    | .ref T => (match K.lookup T with
      | some ⟨_, _, .seq its _, _⟩ => (match its.toList[0]? with
        | some (Value.ref a) => a
        | _ => 0)
      | _ => 0)
    | _ => 0)
  | _ => 0
abbrev defRI : Hv.DefQ := Hv.defM "Rules" "__init__" "Rules.__init__" s_Rules_init [.adr rulesTa]
def RulesInitIn (K : PySem.W.Frag) (C : Addr) : Prop := ∃ (ta f : Addr) (fd : FuncData), FunR K ta f fd ∧ PySem.W.findIn K (.ref C) "__init__" = some (some (.ref f)) ∧ PySem.W.isFn K (.ref f) = true
theorem rulesInit_of {K : PySem.W.Frag} (h : Hv.methB "Rules" "__init__" K = true) (d : Hv.DefO K defRI) : RulesInitIn K (He.ga K "Rules") := by
  unfold Hv.methB at h
  simp only [Bool.and_eq_true, decide_eq_true_eq] at h
  obtain ⟨oc, od, dV, kV, doc, pm, an, cd, ct, sl, d1, d2, d3, d4⟩ := d
  exact ⟨rulesTa K, _, _, ⟨⟨oc, od, dV, kV, doc, pm, an, cd, ct, sl, rfl, d1, d2, d3, .inl rfl⟩, d4⟩, h.1, h.2⟩
def readB : Hv.Fb := fun K => He5.wrapB K (He.ga K "Rules") "classmethod" "classmethod.__get__" "read" && PySem.W.fnIn K (He5.wf K (He.ga K "Rules") "classmethod" "read")
abbrev defRD : Hv.DefQ := ⟨fun K => He5.wf K (He.ga K "Rules") "classmethod" "read", "read", "Rules.read", s_Rules_read, []⟩
def ReadIn (K : PySem.W.Frag) (C : Addr) : Prop := ∃ (p f : Addr) (fd : FuncData), CMet K C (.type "type") "read" p f ∧ Fun K "read" "Rules.read" s_Rules_read f fd
theorem readIn_of {K : PySem.W.Frag} (h : readB K = true) (d : Hv.DefO K defRD) : ReadIn K (He.ga K "Rules") := by
  unfold readB at h
  simp only [Bool.and_eq_true] at h
  obtain ⟨oc, od, dV, kV, doc, pm, an, cd, ct, sl, d1, d2, d3, d4⟩ := d
  cases Hv.dfl_none d3
  exact ⟨_, _, _, He5.cmet_of h.1 h.2, fun_mk (st := s_Rules_read) d1 d2 d4⟩
theorem all_mk {l : PySem.W.OpenLaw} {w : World} {K : PySem.W.Frag} {h : Heap} {mg : Str → Option Value} {fa : Addr} (X : K.In h) (G : h.Ns mainGlobals mg) (hfa : mg "law" = some (.ref fa))
    {C CR CU : Addr}
    (o_Kind_a : PySem.W.nsIn K mainGlobals "Kind" = some (some (.ref C)))
    (o_Kind_pg : PySem.W.plainGet K C Str.empty = true)
    (o_Kind_hd : PySem.W.hasDictIn K C = true)
    (o_Kind_po : PySem.W.plainOver K C = true)
    (o_Kind_sa : PySem.W.findIn K (.ref C) "__setattr__" = some (some (.builtin "object.__setattr__")))
    (o_Kind_ha : PySem.W.findIn K (.ref C) "__class__" = some (some (.builtin "object.__class__")))
    (o_Kind_hm : PySem.W.mroIn K C (.type "object") = some true)
    (o_Kind_kp : PySem.W.keepIn K (.ref C) = true)
    (o_Kind_mk : PySem.W.makesIn K C = true)
    (o_Kind_ne : PySem.W.findIn K (.ref C) "__ne__" = some (some (.builtin "object.__ne__")))
    (o_Kind_bo : PySem.W.findIn K (.ref C) "__bool__" = some none)
    (o_Kind_le : PySem.W.findIn K (.ref C) "__len__" = some none)
    (o_Kind_na_parts : PySem.W.findIn K (.ref C) "parts" = some none)
    (o_Kind_s0 : PySem.W.subIn K (.ref C) (.type "NoneType") = some false)
    (o_Kind_s1 : PySem.W.subIn K (.ref C) (.type "int") = some false)
    (o_Kind_s2 : PySem.W.subIn K (.ref C) (.type "bool") = some false)
    (o_Kind_s3 : PySem.W.subIn K (.ref C) (.type "str") = some false)
    (o_Kind_s4 : PySem.W.subIn K (.ref C) (.type "list") = some false)
    (o_Kind_s5 : PySem.W.subIn K (.ref C) (.type "tuple") = some false)
    (o_Kind_u0 : PySem.W.subIn K (.type "NoneType") (.ref C) = some false)
    (o_Kind_u1 : PySem.W.subIn K (.type "int") (.ref C) = some false)
    (o_Kind_u2 : PySem.W.subIn K (.type "bool") (.ref C) = some false)
    (o_Kind_u3 : PySem.W.subIn K (.type "str") (.ref C) = some false)
    (o_Kind_u4 : PySem.W.subIn K (.type "list") (.ref C) = some false)
    (o_Kind_u5 : PySem.W.subIn K (.type "tuple") (.ref C) = some false)
    (o_Kind_nf : PySem.W.notFirst K C (.ref C) = true)
    (o_Kind_k1 : PySem.W.kitOne K (.ref C) (.ref C) = some true)
    (o_Kind_q0 : PySem.W.kitOne K (.type "NoneType") (.ref C) = some false)
    (o_Kind_q1 : PySem.W.kitOne K (.type "int") (.ref C) = some false)
    (o_Kind_q2 : PySem.W.kitOne K (.type "bool") (.ref C) = some false)
    (o_Kind_q3 : PySem.W.kitOne K (.type "str") (.ref C) = some false)
    (o_Kind_q4 : PySem.W.kitOne K (.type "list") (.ref C) = some false)
    (o_Kind_q5 : PySem.W.kitOne K (.type "tuple") (.ref C) = some false)
    (o_cls1 : PySem.W.specialIn K (.builtin "object.__class__") "__get__" = some (some (.builtin "getset_descriptor.__get__")))
    (o_cls2 : PySem.W.takesIn K (.builtin "object.__class__") = some true)
    (o_Row_a : PySem.W.nsIn K mainGlobals "Row" = some (some (.ref CR)))
    (o_Row_pg : PySem.W.plainGet K CR Str.empty = true)
    (o_Row_hd : PySem.W.hasDictIn K CR = true)
    (o_Row_po : PySem.W.plainOver K CR = true)
    (o_Row_sa : PySem.W.findIn K (.ref CR) "__setattr__" = some (some (.builtin "object.__setattr__")))
    (o_Row_ha : PySem.W.findIn K (.ref CR) "__class__" = some (some (.builtin "object.__class__")))
    (o_Row_hm : PySem.W.mroIn K CR (.type "object") = some true)
    (o_Row_kp : PySem.W.keepIn K (.ref CR) = true)
    (o_Row_mk : PySem.W.makesIn K CR = true)
    (o_Row_ne : PySem.W.findIn K (.ref CR) "__ne__" = some (some (.builtin "object.__ne__")))
    (o_Row_bo : PySem.W.findIn K (.ref CR) "__bool__" = some none)
    (o_Row_le : PySem.W.findIn K (.ref CR) "__len__" = some none)
    (o_Row_na_parts : PySem.W.findIn K (.ref CR) "parts" = some none)
    (o_Row_s0 : PySem.W.subIn K (.ref CR) (.type "NoneType") = some false)
    (o_Row_s1 : PySem.W.subIn K (.ref CR) (.type "int") = some false)
    (o_Row_s2 : PySem.W.subIn K (.ref CR) (.type "bool") = some false)
    (o_Row_s3 : PySem.W.subIn K (.ref CR) (.type "str") = some false)
    (o_Row_s4 : PySem.W.subIn K (.ref CR) (.type "list") = some false)
    (o_Row_s5 : PySem.W.subIn K (.ref CR) (.type "tuple") = some false)
    (o_Row_u0 : PySem.W.subIn K (.type "NoneType") (.ref CR) = some false)
    (o_Row_u1 : PySem.W.subIn K (.type "int") (.ref CR) = some false)
    (o_Row_u2 : PySem.W.subIn K (.type "bool") (.ref CR) = some false)
    (o_Row_u3 : PySem.W.subIn K (.type "str") (.ref CR) = some false)
    (o_Row_u4 : PySem.W.subIn K (.type "list") (.ref CR) = some false)
    (o_Row_u5 : PySem.W.subIn K (.type "tuple") (.ref CR) = some false)
    (o_Row_nf : PySem.W.notFirst K CR (.ref CR) = true)
    (o_Row_k1 : PySem.W.kitOne K (.ref CR) (.ref CR) = some true)
    (o_Row_q0 : PySem.W.kitOne K (.type "NoneType") (.ref CR) = some false)
    (o_Row_q1 : PySem.W.kitOne K (.type "int") (.ref CR) = some false)
    (o_Row_q2 : PySem.W.kitOne K (.type "bool") (.ref CR) = some false)
    (o_Row_q3 : PySem.W.kitOne K (.type "str") (.ref CR) = some false)
    (o_Row_q4 : PySem.W.kitOne K (.type "list") (.ref CR) = some false)
    (o_Row_q5 : PySem.W.kitOne K (.type "tuple") (.ref CR) = some false)
    (o_Rules_a : PySem.W.nsIn K mainGlobals "Rules" = some (some (.ref CU)))
    (o_Rules_pg : PySem.W.plainGet K CU Str.empty = true)
    (o_Rules_hd : PySem.W.hasDictIn K CU = true)
    (o_Rules_po : PySem.W.plainOver K CU = true)
    (o_Rules_sa : PySem.W.findIn K (.ref CU) "__setattr__" = some (some (.builtin "object.__setattr__")))
    (o_Rules_kp : PySem.W.keepIn K (.ref CU) = true)
    (o_Rules_mk : PySem.W.makesIn K CU = true)
    (o_Rules_na_made : PySem.W.findIn K (.ref CU) "made" = some none)
    (o_Rules_na_lines : PySem.W.findIn K (.ref CU) "lines" = some none)
    (o_Rules_na_text : PySem.W.findIn K (.ref CU) "text" = some none)
    (m_Kind_init : KindInitIn K C)
    (m_Kind_name : PropIn K C "name" "Kind.name" s_Kind_name)
    (m_Kind_talks : PropIn K C "talks" "Kind.talks" s_Kind_talks)
    (m_Kind_needs : PropIn K C "needs" "Kind.needs" s_Kind_needs)
    (m_Kind_closing : PropIn K C "closing" "Kind.closing" s_Kind_closing)
    (m_Kind_ends : PropIn K C "ends" "Kind.ends" s_Kind_ends)
    (m_Row_init : MethIn K CR "__init__" "Row.__init__" s_Row_init)
    (m_Row_outer : PropIn K CR "outer" "Row.outer" s_Row_outer)
    (m_Row_inner : PropIn K CR "inner" "Row.inner" s_Row_inner)
    (m_Row_amount : PropIn K CR "amount" "Row.amount" s_Row_amount)
    (m_Rules_kinds : PropIn K CU "kinds" "Rules.kinds" s_Rules_kinds)
    (m_Rules_init : RulesInitIn K CU)
    (m_Rules_read : ReadIn K CU)
    (u_ha : PySem.W.findIn K (.ref CU) "__class__" = some (some (.builtin "object.__class__")))
    (u_hm : PySem.W.mroIn K CU (.type "object") = some true)
    (u_k1 : PySem.W.kitOne K (.ref CU) (.ref CU) = some true)
    (u_rd : PySem.W.readsIn K CU (.type "type") = true)
    (u_gg : PySem.W.specialIn K (.ref CU) "__getattribute__" = some (some (.builtin "type.__getattribute__")))
    (d_is_integer : DefIn K "is_integer" s_is_integer)
    (d_is_name : DefIn K "is_name" s_is_name)
    (d_common_divisor : DefIn K "common_divisor" s_common_divisor)
    (d_number_of : DefIn K "number_of" s_number_of)
    (d_fraction_of : DefIn K "fraction_of" s_fraction_of)
    (d_is_bound : DefIn K "is_bound" s_is_bound)
    (d_is_needs : DefIn K "is_needs" s_is_needs)
    (d_is_closing : DefIn K "is_closing" s_is_closing)
    (d_sort_of : DefIn K "sort_of" s_sort_of)
    (d_line_of_kind : DefIn K "line_of_kind" s_line_of_kind)
    (d_line_of_row : DefIn K "line_of_row" s_line_of_row)
    (d_after_number : DefIn K "after_number" s_after_number)
    (d_after_bound : DefIn K "after_bound" s_after_bound)
    (d_read_kind : DefIn K "read_kind" s_read_kind)
    (d_read_row : DefIn K "read_row" s_read_row)
    (d_check_kinds : DefIn K "check_kinds" s_check_kinds)
    (d_check_rows : DefIn K "check_rows" s_check_rows)
    (d_check_rules : DefIn K "check_rules" s_check_rules)
    (d_factor : DefIn K "factor" s_factor)
    (d_lowest : DefIn K "lowest" s_lowest)
    (d_insert_share : DefIn K "insert_share" s_insert_share)
    (d_cuts_of : DefIn K "cuts_of" s_cuts_of)
    (d_cuts : DefIn K "cuts" s_cuts)
    (d_well : DefIn K "_law_well" s_well)
    (d_draw : DefIn K "_law_draw" s_draw)
    (d_common : DefIn K "_law_common" s_common)
    (d_bound : DefIn K "_law_bound" s_bound)
    (d_bound_text : DefIn K "_law_bound_text" s_bound_text)
    (d_sort : DefIn K "_law_sort" s_sort)
    (d_plan : DefIn K "_law_plan" s_plan)
    (d_line : DefIn K "_law_line" s_line)
    (d_text : DefIn K "_law_text" s_text)
    (d_due : DefIn K "_law_due" s_due)
    (d_right : DefIn K "_law_right" s_right)
    (d_law : DefIn K "law" s_law)
    (b_ValueError : PySem.W.nsIn K mainGlobals "ValueError" = some none)
    (b_abs : PySem.W.nsIn K mainGlobals "abs" = some none)
    (b_all : PySem.W.nsIn K mainGlobals "all" = some none)
    (b_any : PySem.W.nsIn K mainGlobals "any" = some none)
    (b_bool : PySem.W.nsIn K mainGlobals "bool" = some none)
    (b_classmethod : PySem.W.nsIn K mainGlobals "classmethod" = some none)
    (b_divmod : PySem.W.nsIn K mainGlobals "divmod" = some none)
    (b_enumerate : PySem.W.nsIn K mainGlobals "enumerate" = some none)
    (b_int : PySem.W.nsIn K mainGlobals "int" = some none)
    (b_isinstance : PySem.W.nsIn K mainGlobals "isinstance" = some none)
    (b_len : PySem.W.nsIn K mainGlobals "len" = some none)
    (b_max : PySem.W.nsIn K mainGlobals "max" = some none)
    (b_min : PySem.W.nsIn K mainGlobals "min" = some none)
    (b_property : PySem.W.nsIn K mainGlobals "property" = some none)
    (b_range : PySem.W.nsIn K mainGlobals "range" = some none)
    (b_str : PySem.W.nsIn K mainGlobals "str" = some none)
    (b_tuple : PySem.W.nsIn K mainGlobals "tuple" = some none)
    (c_MOST_KINDS : ∃ v, PySem.W.nsIn K mainGlobals "MOST_KINDS" = some (some v) ∧ ∃ t, v = (.int (6) t))
    (c_MOST_TALKS : ∃ v, PySem.W.nsIn K mainGlobals "MOST_TALKS" = some (some v) ∧ ∃ t, v = (.int (3) t))
    (c_MOST_TIMES : ∃ v, PySem.W.nsIn K mainGlobals "MOST_TIMES" = some (some v) ∧ ∃ t, v = (.int (3) t))
    (c_MOST_AFTER : ∃ v, PySem.W.nsIn K mainGlobals "MOST_AFTER" = some (some v) ∧ ∃ t, v = (.int (3) t))
    (c_MOST_NEEDS : ∃ v, PySem.W.nsIn K mainGlobals "MOST_NEEDS" = some (some v) ∧ ∃ t, v = (.int (9) t))
    (c_MOST_PART : ∃ v, PySem.W.nsIn K mainGlobals "MOST_PART" = some (some v) ∧ ∃ t, v = (.int (12) t))
    (c_DIGITS : ∃ v, PySem.W.nsIn K mainGlobals "DIGITS" = some (some v) ∧ ∃ t, v = (.str "0123456789" t))
    (c_LETTERS : ∃ v, PySem.W.nsIn K mainGlobals "LETTERS" = some (some v) ∧ ∃ t, v = (.str "abcdefghijklmnopqrstuvwxyz" t))
    (c_MARK : ∃ v, PySem.W.nsIn K mainGlobals "MARK" = some (some v) ∧ ∃ t, v = (.str "over " t))
    : LawT l w K 10 63 "_law_script" mg fa [] := by
  have T : Txt K mg := ⟨PySem.W.mg_none_of X G b_ValueError, PySem.W.mg_none_of X G b_abs, PySem.W.mg_none_of X G b_all, PySem.W.mg_none_of X G b_any, PySem.W.mg_none_of X G b_bool, PySem.W.mg_none_of X G b_classmethod, PySem.W.mg_none_of X G b_divmod, PySem.W.mg_none_of X G b_enumerate, PySem.W.mg_none_of X G b_int, PySem.W.mg_none_of X G b_isinstance, PySem.W.mg_none_of X G b_len, PySem.W.mg_none_of X G b_max, PySem.W.mg_none_of X G b_min, PySem.W.mg_none_of X G b_property, PySem.W.mg_none_of X G b_range, PySem.W.mg_none_of X G b_str, PySem.W.mg_none_of X G b_tuple, (by obtain ⟨v, e, t, rfl⟩ := c_MOST_KINDS; exact ⟨t, PySem.W.mg_of X G e⟩), (by obtain ⟨v, e, t, rfl⟩ := c_MOST_TALKS; exact ⟨t, PySem.W.mg_of X G e⟩), (by obtain ⟨v, e, t, rfl⟩ := c_MOST_TIMES; exact ⟨t, PySem.W.mg_of X G e⟩), (by obtain ⟨v, e, t, rfl⟩ := c_MOST_AFTER; exact ⟨t, PySem.W.mg_of X G e⟩), (by obtain ⟨v, e, t, rfl⟩ := c_MOST_NEEDS; exact ⟨t, PySem.W.mg_of X G e⟩), (by obtain ⟨v, e, t, rfl⟩ := c_MOST_PART; exact ⟨t, PySem.W.mg_of X G e⟩), (by obtain ⟨v, e, t, rfl⟩ := c_DIGITS; exact ⟨t, PySem.W.mg_of X G e⟩), (by obtain ⟨v, e, t, rfl⟩ := c_LETTERS; exact ⟨t, PySem.W.mg_of X G e⟩), (by obtain ⟨v, e, t, rfl⟩ := c_MARK; exact ⟨t, PySem.W.mg_of X G e⟩)⟩
  obtain ⟨f_is_integer, fd_is_integer, D_is_integer⟩ := d_is_integer.at X G (ps := P_is_integer) (fun _ _ _ _ _ _ us hl => match us, hl with | [_], _ => rfl)
  obtain ⟨f_is_name, fd_is_name, D_is_name⟩ := d_is_name.at X G (ps := P_is_name) (fun _ _ _ _ _ _ us hl => match us, hl with | [_], _ => rfl)
  obtain ⟨f_common_divisor, fd_common_divisor, D_common_divisor⟩ := d_common_divisor.at X G (ps := P_common_divisor) (fun _ _ _ _ _ _ us hl => match us, hl with | [_, _], _ => rfl)
  obtain ⟨f_number_of, fd_number_of, D_number_of⟩ := d_number_of.at X G (ps := P_number_of) (fun _ _ _ _ _ _ us hl => match us, hl with | [_, _], _ => rfl)
  obtain ⟨f_fraction_of, fd_fraction_of, D_fraction_of⟩ := d_fraction_of.at X G (ps := P_fraction_of) (fun _ _ _ _ _ _ us hl => match us, hl with | [_], _ => rfl)
  obtain ⟨f_is_bound, fd_is_bound, D_is_bound⟩ := d_is_bound.at X G (ps := P_is_bound) (fun _ _ _ _ _ _ us hl => match us, hl with | [_], _ => rfl)
  obtain ⟨f_is_needs, fd_is_needs, D_is_needs⟩ := d_is_needs.at X G (ps := P_is_needs) (fun _ _ _ _ _ _ us hl => match us, hl with | [_], _ => rfl)
  obtain ⟨f_is_closing, fd_is_closing, D_is_closing⟩ := d_is_closing.at X G (ps := P_is_closing) (fun _ _ _ _ _ _ us hl => match us, hl with | [_], _ => rfl)
  obtain ⟨f_sort_of, fd_sort_of, D_sort_of⟩ := d_sort_of.at X G (ps := P_sort_of) (fun _ _ _ _ _ _ us hl => match us, hl with | [_], _ => rfl)
  obtain ⟨f_line_of_kind, fd_line_of_kind, D_line_of_kind⟩ := d_line_of_kind.at X G (ps := P_line_of_kind) (fun _ _ _ _ _ _ us hl => match us, hl with | [_], _ => rfl)
  obtain ⟨f_line_of_row, fd_line_of_row, D_line_of_row⟩ := d_line_of_row.at X G (ps := P_line_of_row) (fun _ _ _ _ _ _ us hl => match us, hl with | [_], _ => rfl)
  obtain ⟨f_after_number, fd_after_number, D_after_number⟩ := d_after_number.at X G (ps := P_after_number) (fun _ _ _ _ _ _ us hl => match us, hl with | [_, _, _], _ => rfl)
  obtain ⟨f_after_bound, fd_after_bound, D_after_bound⟩ := d_after_bound.at X G (ps := P_after_bound) (fun _ _ _ _ _ _ us hl => match us, hl with | [_, _], _ => rfl)
  obtain ⟨f_read_kind, fd_read_kind, D_read_kind⟩ := d_read_kind.at X G (ps := P_read_kind) (fun _ _ _ _ _ _ us hl => match us, hl with | [_], _ => rfl)
  obtain ⟨f_read_row, fd_read_row, D_read_row⟩ := d_read_row.at X G (ps := P_read_row) (fun _ _ _ _ _ _ us hl => match us, hl with | [_], _ => rfl)
  obtain ⟨f_check_kinds, fd_check_kinds, D_check_kinds⟩ := d_check_kinds.at X G (ps := P_check_kinds) (fun _ _ _ _ _ _ us hl => match us, hl with | [_], _ => rfl)
  obtain ⟨f_check_rows, fd_check_rows, D_check_rows⟩ := d_check_rows.at X G (ps := P_check_rows) (fun _ _ _ _ _ _ us hl => match us, hl with | [_, _], _ => rfl)
  obtain ⟨f_check_rules, fd_check_rules, D_check_rules⟩ := d_check_rules.at X G (ps := P_check_rules) (fun _ _ _ _ _ _ us hl => match us, hl with | [_], _ => rfl)
  obtain ⟨f_factor, fd_factor, D_factor⟩ := d_factor.at X G (ps := P_factor) (fun _ _ _ _ _ _ us hl => match us, hl with | [_], _ => rfl)
  obtain ⟨f_lowest, fd_lowest, D_lowest⟩ := d_lowest.at X G (ps := P_lowest) (fun _ _ _ _ _ _ us hl => match us, hl with | [_, _], _ => rfl)
  obtain ⟨f_insert_share, fd_insert_share, D_insert_share⟩ := d_insert_share.at X G (ps := P_insert_share) (fun _ _ _ _ _ _ us hl => match us, hl with | [_, _], _ => rfl)
  obtain ⟨f_cuts_of, fd_cuts_of, D_cuts_of⟩ := d_cuts_of.at X G (ps := P_cuts_of) (fun _ _ _ _ _ _ us hl => match us, hl with | [_], _ => rfl)
  obtain ⟨f_cuts, fd_cuts, D_cuts⟩ := d_cuts.at X G (ps := P_cuts) (fun _ _ _ _ _ _ us hl => match us, hl with | [_], _ => rfl)
  obtain ⟨f_well, fd_well, D_well⟩ := d_well.at X G (ps := P_well) (fun _ _ _ _ _ _ us hl => match us, hl with | [_, _], _ => rfl)
  obtain ⟨f_draw, fd_draw, D_draw⟩ := d_draw.at X G (ps := P_draw) (fun _ _ _ _ _ _ us hl => match us, hl with | [_, _], _ => rfl)
  obtain ⟨f_common, fd_common, D_common⟩ := d_common.at X G (ps := P_common) (fun _ _ _ _ _ _ us hl => match us, hl with | [_, _], _ => rfl)
  obtain ⟨f_bound, fd_bound, D_bound⟩ := d_bound.at X G (ps := P_bound) (fun _ _ _ _ _ _ us hl => match us, hl with | [_], _ => rfl)
  obtain ⟨f_bound_text, fd_bound_text, D_bound_text⟩ := d_bound_text.at X G (ps := P_bound_text) (fun _ _ _ _ _ _ us hl => match us, hl with | [_], _ => rfl)
  obtain ⟨f_sort, fd_sort, D_sort⟩ := d_sort.at X G (ps := P_sort) (fun _ _ _ _ _ _ us hl => match us, hl with | [_, _], _ => rfl)
  obtain ⟨f_plan, fd_plan, D_plan⟩ := d_plan.at X G (ps := P_plan) (fun _ _ _ _ _ _ us hl => match us, hl with | [_, _], _ => rfl)
  obtain ⟨f_line, fd_line, D_line⟩ := d_line.at X G (ps := P_line) (fun _ _ _ _ _ _ us hl => match us, hl with | [_], _ => rfl)
  obtain ⟨f_text, fd_text, D_text⟩ := d_text.at X G (ps := P_text) (fun _ _ _ _ _ _ us hl => match us, hl with | [_], _ => rfl)
  obtain ⟨f_due, fd_due, D_due⟩ := d_due.at X G (ps := P_due) (fun _ _ _ _ _ _ us hl => match us, hl with | [_], _ => rfl)
  obtain ⟨f_right, fd_right, D_right⟩ := d_right.at X G (ps := P_right) (fun _ _ _ _ _ _ us hl => match us, hl with | [_], _ => rfl)
  obtain ⟨f_Kind_name, fd_Kind_name, D_Kind_name⟩ := m_Kind_name.at (ps := P_Kind_name) (fun _ _ _ _ _ _ us hl => match us, hl with | [_], _ => rfl)
  obtain ⟨f_Kind_talks, fd_Kind_talks, D_Kind_talks⟩ := m_Kind_talks.at (ps := P_Kind_talks) (fun _ _ _ _ _ _ us hl => match us, hl with | [_], _ => rfl)
  obtain ⟨f_Kind_needs, fd_Kind_needs, D_Kind_needs⟩ := m_Kind_needs.at (ps := P_Kind_needs) (fun _ _ _ _ _ _ us hl => match us, hl with | [_], _ => rfl)
  obtain ⟨f_Kind_closing, fd_Kind_closing, D_Kind_closing⟩ := m_Kind_closing.at (ps := P_Kind_closing) (fun _ _ _ _ _ _ us hl => match us, hl with | [_], _ => rfl)
  obtain ⟨f_Kind_ends, fd_Kind_ends, D_Kind_ends⟩ := m_Kind_ends.at (ps := P_Kind_ends) (fun _ _ _ _ _ _ us hl => match us, hl with | [_], _ => rfl)
  obtain ⟨f_Row_init, fd_Row_init, D_Row_init⟩ := m_Row_init.at (ps := P_Row_init) (fun _ _ _ _ _ _ us hl => match us, hl with | [_, _, _, _], _ => rfl)
  obtain ⟨f_Row_outer, fd_Row_outer, D_Row_outer⟩ := m_Row_outer.at (ps := P_Row_outer) (fun _ _ _ _ _ _ us hl => match us, hl with | [_], _ => rfl)
  obtain ⟨f_Row_inner, fd_Row_inner, D_Row_inner⟩ := m_Row_inner.at (ps := P_Row_inner) (fun _ _ _ _ _ _ us hl => match us, hl with | [_], _ => rfl)
  obtain ⟨f_Row_amount, fd_Row_amount, D_Row_amount⟩ := m_Row_amount.at (ps := P_Row_amount) (fun _ _ _ _ _ _ us hl => match us, hl with | [_], _ => rfl)
  obtain ⟨f_Rules_kinds, fd_Rules_kinds, D_Rules_kinds⟩ := m_Rules_kinds.at (ps := P_Rules_kinds) (fun _ _ _ _ _ _ us hl => match us, hl with | [_], _ => rfl)
  have TX_Kind : OwnTxt K mg "Kind" C := ⟨PySem.W.mg_of X G o_Kind_a, ⟨o_Kind_pg, o_Kind_hd, o_Kind_po, o_Kind_sa⟩, o_Kind_na_parts, o_Kind_ha, o_cls1, o_cls2, o_Kind_hm, o_Kind_k1, o_Kind_kp⟩
  have KN_Kind : KitNo K C := ⟨o_Kind_q0, o_Kind_q1, o_Kind_q2, o_Kind_q3, o_Kind_q4, o_Kind_q5⟩
  have TRU_Kind := And.intro o_Kind_bo o_Kind_le
  have TX_Row : OwnTxt K mg "Row" CR := ⟨PySem.W.mg_of X G o_Row_a, ⟨o_Row_pg, o_Row_hd, o_Row_po, o_Row_sa⟩, o_Row_na_parts, o_Row_ha, o_cls1, o_cls2, o_Row_hm, o_Row_k1, o_Row_kp⟩
  have KN_Row : KitNo K CR := ⟨o_Row_q0, o_Row_q1, o_Row_q2, o_Row_q3, o_Row_q4, o_Row_q5⟩
  have TRU_Row := And.intro o_Row_bo o_Row_le
  obtain ⟨f_law, oc, od, kV, doc, pm, an, cd, ct, sl, e_law, l_law, c_law, k_law⟩ := d_law
  have e := hfa.symm.trans (PySem.W.mg_of X G e_law)
  cases e
  have D_law := fun_mk (st := s_law) l_law c_law k_law
  obtain ⟨fI, fdI, FK, fIa, fIi⟩ := m_Kind_init
  have M_Kind : Mk K C fI := ⟨o_Kind_mk, fIa, fIi, o_Kind_kp⟩
  have M_Row : Mk K CR f_Row_init := ⟨o_Row_mk, D_Row_init.at_, D_Row_init.isf, o_Row_kp⟩
  obtain ⟨ta, fR, fdR, FR, fRa, fRi⟩ := m_Rules_init
  have M_Rules : Mk K CU fR := ⟨o_Rules_mk, fRa, fRi, o_Rules_kp⟩
  obtain ⟨pc, fr, fdr, CMT, F_read⟩ := m_Rules_read
  have TU : RulTxt K mg CU := ⟨PySem.W.mg_of X G o_Rules_a, ⟨o_Rules_pg, o_Rules_hd, o_Rules_po, o_Rules_sa⟩, o_Rules_na_made, o_Rules_na_lines, o_Rules_na_text, u_ha, o_cls1, o_cls2, u_hm, u_k1⟩
  have KPS : KProps K C := ⟨⟨_, _, D_Kind_name⟩, ⟨_, _, D_Kind_talks⟩, ⟨_, _, D_Kind_needs⟩, ⟨_, _, D_Kind_closing⟩, ⟨_, _, D_Kind_ends⟩⟩
  have RPS : RProps K CR := ⟨⟨_, _, D_Row_outer⟩, ⟨_, _, D_Row_inner⟩, ⟨_, _, D_Row_amount⟩⟩
  have B_read : Binds K fdr P_Rules_read [] := F_read.binds (fun _ _ _ _ _ _ us hl => match us, hl with | [_, _], _ => rfl)
  refine ⟨PySem.W.fnOf "law" "law" (defArgs s_law) (defBody s_law) (defScope s_law) .none kV doc pm an cd ct, [], sp_law24 K, (fun p hp => nomatch hp), fun s v => .of_eq rfl, fun H a ns hl hb _ hS => ⟨a, ns, rfl, hS, hb, hl, fun _ => rfl⟩, fun base _ _ _ => ?_⟩
  have G_is_integer : FnOk l.prog w K mg base CX0 1 f_is_integer fd_is_integer P_is_integer (sp_is_integer K) := ok_is_integer D_is_integer T
  have G_is_name : FnOk l.prog w K mg base CX0 1 f_is_name fd_is_name P_is_name (sp_is_name K) := ok_is_name D_is_name T
  have G_fraction_of : FnOk l.prog w K mg base CX0 2 f_fraction_of fd_fraction_of P_fraction_of (sp_fraction_of K) := ok_fraction_of D_fraction_of T D_number_of D_common_divisor
  have G_is_bound : FnOk l.prog w K mg base CX0 3 f_is_bound fd_is_bound P_is_bound (sp_is_bound K) := ok_is_bound D_is_bound D_fraction_of G_fraction_of
  have G_is_needs : FnOk l.prog w K mg base CX0 4 f_is_needs fd_is_needs P_is_needs (sp_is_needs K) := ok_is_needs D_is_needs T D_is_bound G_is_bound D_is_integer G_is_integer
  have G_is_closing : FnOk l.prog w K mg base CX0 4 f_is_closing fd_is_closing P_is_closing (sp_is_closing K) := ok_is_closing D_is_closing T D_is_bound G_is_bound D_is_integer G_is_integer
  have G_Kind_init : FnOk l.prog w K mg base CX0 5 fI fdI P_Kind_init (sp_kind_init K C) := ok_Kind_init FK T TX_Kind.c TX_Kind.na D_is_name G_is_name D_is_bound G_is_bound D_is_integer G_is_integer D_is_needs G_is_needs D_is_closing G_is_closing
  have G_read_kind : FnOk l.prog w K mg base CX0 7 f_read_kind fd_read_kind P_read_kind (sp_read_kind K C) := ok_read_kind D_read_kind T TX_Kind KPS M_Kind FK G_Kind_init D_after_number D_number_of D_after_bound D_is_bound G_is_bound D_is_name D_line_of_kind D_is_integer
  have G_read_row : FnOk l.prog w K mg base CX0 5 f_read_row fd_read_row P_read_row (sp_read_row CR) := ok_read_row D_read_row T TX_Row M_Row D_Row_init D_is_name D_sort_of D_number_of
  have G_Rules_init : FnOk l.prog w K mg base CX0 4 fR fdR P_Rules_init (sp_rules_init K C CR CU) := ok_Rules_init FR T TX_Kind KPS TX_Row RPS TU D_check_kinds D_check_rows D_line_of_kind D_line_of_row D_is_integer
  have G_read : FnOk l.prog w K mg base CX0 8 fr fdr P_Rules_read (sp_read K C CR CU) := ok_read F_read T M_Rules G_Rules_init FR.all D_read_kind G_read_kind D_read_row G_read_row
  have R_read : FnR l.prog w K mg base CX0 8 fr (sp_read K C CR CU) := raw_ok G_read B_read
  have G_cuts_of : FnOk l.prog w K mg base CX0 3 f_cuts_of fd_cuts_of P_cuts_of (sp_cuts_of K C CR CU) := ok_cuts_of D_cuts_of T TX_Kind KPS TU D_Rules_kinds D_is_integer D_fraction_of D_number_of D_common_divisor D_insert_share D_lowest D_factor
  have G_cuts : FnOk l.prog w K mg base CX0 4 f_cuts fd_cuts P_cuts (sp_cuts K C CR CU) := ok_cuts D_cuts T D_check_rules (ok_check_rules D_check_rules T TU) D_cuts_of G_cuts_of
  have G_right : FnOk l.prog w K mg base CX0 9 f_right fd_right P_right sp_right24 := ok_right24 D_right T TU ⟨u_rd, u_gg⟩ CMT R_read D_plan D_draw D_common D_bound D_sort D_due D_text D_line D_bound_text D_cuts G_cuts
  exact OkG.of (ok_law24 D_law T D_right G_right D_well)
/-! ### the head -/
abbrev R : PySem.W.OpenRow := PySem.W.OpenLaw.row PySem.Challenge.rw_heldvotes_k24_cuts_of_rules
def fb_0 : Hv.Fb := fun K => decide (PySem.W.nsIn K mainGlobals "Kind" = some (some (.ref (He.ga K "Kind"))))
def fb_1 : Hv.Fb := fun K => decide (PySem.W.plainGet K (He.ga K "Kind") Str.empty = true)
def fb_2 : Hv.Fb := fun K => decide (PySem.W.hasDictIn K (He.ga K "Kind") = true)
def fb_3 : Hv.Fb := fun K => decide (PySem.W.plainOver K (He.ga K "Kind") = true)
def fb_4 : Hv.Fb := fun K => decide (PySem.W.findIn K (.ref (He.ga K "Kind")) "__setattr__" = some (some (.builtin "object.__setattr__")))
def fb_5 : Hv.Fb := fun K => decide (PySem.W.findIn K (.ref (He.ga K "Kind")) "__class__" = some (some (.builtin "object.__class__")))
def fb_6 : Hv.Fb := fun K => decide (PySem.W.mroIn K (He.ga K "Kind") (.type "object") = some true)
def fb_7 : Hv.Fb := fun K => decide (PySem.W.keepIn K (.ref (He.ga K "Kind")) = true)
def fb_8 : Hv.Fb := fun K => decide (PySem.W.makesIn K (He.ga K "Kind") = true)
def fb_9 : Hv.Fb := fun K => decide (PySem.W.findIn K (.ref (He.ga K "Kind")) "__ne__" = some (some (.builtin "object.__ne__")))
def fb_10 : Hv.Fb := fun K => decide (PySem.W.findIn K (.ref (He.ga K "Kind")) "__bool__" = some none)
def fb_11 : Hv.Fb := fun K => decide (PySem.W.findIn K (.ref (He.ga K "Kind")) "__len__" = some none)
def fb_12 : Hv.Fb := fun K => decide (PySem.W.findIn K (.ref (He.ga K "Kind")) "parts" = some none)
def fb_13 : Hv.Fb := fun K => decide (PySem.W.subIn K (.ref (He.ga K "Kind")) (.type "NoneType") = some false)
def fb_14 : Hv.Fb := fun K => decide (PySem.W.subIn K (.ref (He.ga K "Kind")) (.type "int") = some false)
def fb_15 : Hv.Fb := fun K => decide (PySem.W.subIn K (.ref (He.ga K "Kind")) (.type "bool") = some false)
def fb_16 : Hv.Fb := fun K => decide (PySem.W.subIn K (.ref (He.ga K "Kind")) (.type "str") = some false)
def fb_17 : Hv.Fb := fun K => decide (PySem.W.subIn K (.ref (He.ga K "Kind")) (.type "list") = some false)
def fb_18 : Hv.Fb := fun K => decide (PySem.W.subIn K (.ref (He.ga K "Kind")) (.type "tuple") = some false)
def fb_19 : Hv.Fb := fun K => decide (PySem.W.subIn K (.type "NoneType") (.ref (He.ga K "Kind")) = some false)
def fb_20 : Hv.Fb := fun K => decide (PySem.W.subIn K (.type "int") (.ref (He.ga K "Kind")) = some false)
def fb_21 : Hv.Fb := fun K => decide (PySem.W.subIn K (.type "bool") (.ref (He.ga K "Kind")) = some false)
def fb_22 : Hv.Fb := fun K => decide (PySem.W.subIn K (.type "str") (.ref (He.ga K "Kind")) = some false)
def fb_23 : Hv.Fb := fun K => decide (PySem.W.subIn K (.type "list") (.ref (He.ga K "Kind")) = some false)
def fb_24 : Hv.Fb := fun K => decide (PySem.W.subIn K (.type "tuple") (.ref (He.ga K "Kind")) = some false)
def fb_25 : Hv.Fb := fun K => decide (PySem.W.notFirst K (He.ga K "Kind") (.ref (He.ga K "Kind")) = true)
def fb_26 : Hv.Fb := fun K => decide (PySem.W.kitOne K (.ref (He.ga K "Kind")) (.ref (He.ga K "Kind")) = some true)
def fb_27 : Hv.Fb := fun K => decide (PySem.W.kitOne K (.type "NoneType") (.ref (He.ga K "Kind")) = some false)
def fb_28 : Hv.Fb := fun K => decide (PySem.W.kitOne K (.type "int") (.ref (He.ga K "Kind")) = some false)
def fb_29 : Hv.Fb := fun K => decide (PySem.W.kitOne K (.type "bool") (.ref (He.ga K "Kind")) = some false)
def fb_30 : Hv.Fb := fun K => decide (PySem.W.kitOne K (.type "str") (.ref (He.ga K "Kind")) = some false)
def fb_31 : Hv.Fb := fun K => decide (PySem.W.kitOne K (.type "list") (.ref (He.ga K "Kind")) = some false)
def fb_32 : Hv.Fb := fun K => decide (PySem.W.kitOne K (.type "tuple") (.ref (He.ga K "Kind")) = some false)
def fb_33 : Hv.Fb := fun K => decide (PySem.W.specialIn K (.builtin "object.__class__") "__get__" = some (some (.builtin "getset_descriptor.__get__")))
def fb_34 : Hv.Fb := fun K => decide (PySem.W.takesIn K (.builtin "object.__class__") = some true)
def fb_35 : Hv.Fb := fun K => decide (PySem.W.nsIn K mainGlobals "Row" = some (some (.ref (He.ga K "Row"))))
def fb_36 : Hv.Fb := fun K => decide (PySem.W.plainGet K (He.ga K "Row") Str.empty = true)
def fb_37 : Hv.Fb := fun K => decide (PySem.W.hasDictIn K (He.ga K "Row") = true)
def fb_38 : Hv.Fb := fun K => decide (PySem.W.plainOver K (He.ga K "Row") = true)
def fb_39 : Hv.Fb := fun K => decide (PySem.W.findIn K (.ref (He.ga K "Row")) "__setattr__" = some (some (.builtin "object.__setattr__")))
def fb_40 : Hv.Fb := fun K => decide (PySem.W.findIn K (.ref (He.ga K "Row")) "__class__" = some (some (.builtin "object.__class__")))
def fb_41 : Hv.Fb := fun K => decide (PySem.W.mroIn K (He.ga K "Row") (.type "object") = some true)
def fb_42 : Hv.Fb := fun K => decide (PySem.W.keepIn K (.ref (He.ga K "Row")) = true)
def fb_43 : Hv.Fb := fun K => decide (PySem.W.makesIn K (He.ga K "Row") = true)
def fb_44 : Hv.Fb := fun K => decide (PySem.W.findIn K (.ref (He.ga K "Row")) "__ne__" = some (some (.builtin "object.__ne__")))
def fb_45 : Hv.Fb := fun K => decide (PySem.W.findIn K (.ref (He.ga K "Row")) "__bool__" = some none)
def fb_46 : Hv.Fb := fun K => decide (PySem.W.findIn K (.ref (He.ga K "Row")) "__len__" = some none)
def fb_47 : Hv.Fb := fun K => decide (PySem.W.findIn K (.ref (He.ga K "Row")) "parts" = some none)
def fb_48 : Hv.Fb := fun K => decide (PySem.W.subIn K (.ref (He.ga K "Row")) (.type "NoneType") = some false)
def fb_49 : Hv.Fb := fun K => decide (PySem.W.subIn K (.ref (He.ga K "Row")) (.type "int") = some false)
def fb_50 : Hv.Fb := fun K => decide (PySem.W.subIn K (.ref (He.ga K "Row")) (.type "bool") = some false)
def fb_51 : Hv.Fb := fun K => decide (PySem.W.subIn K (.ref (He.ga K "Row")) (.type "str") = some false)
def fb_52 : Hv.Fb := fun K => decide (PySem.W.subIn K (.ref (He.ga K "Row")) (.type "list") = some false)
def fb_53 : Hv.Fb := fun K => decide (PySem.W.subIn K (.ref (He.ga K "Row")) (.type "tuple") = some false)
def fb_54 : Hv.Fb := fun K => decide (PySem.W.subIn K (.type "NoneType") (.ref (He.ga K "Row")) = some false)
def fb_55 : Hv.Fb := fun K => decide (PySem.W.subIn K (.type "int") (.ref (He.ga K "Row")) = some false)
def fb_56 : Hv.Fb := fun K => decide (PySem.W.subIn K (.type "bool") (.ref (He.ga K "Row")) = some false)
def fb_57 : Hv.Fb := fun K => decide (PySem.W.subIn K (.type "str") (.ref (He.ga K "Row")) = some false)
def fb_58 : Hv.Fb := fun K => decide (PySem.W.subIn K (.type "list") (.ref (He.ga K "Row")) = some false)
def fb_59 : Hv.Fb := fun K => decide (PySem.W.subIn K (.type "tuple") (.ref (He.ga K "Row")) = some false)
def fb_60 : Hv.Fb := fun K => decide (PySem.W.notFirst K (He.ga K "Row") (.ref (He.ga K "Row")) = true)
def fb_61 : Hv.Fb := fun K => decide (PySem.W.kitOne K (.ref (He.ga K "Row")) (.ref (He.ga K "Row")) = some true)
def fb_62 : Hv.Fb := fun K => decide (PySem.W.kitOne K (.type "NoneType") (.ref (He.ga K "Row")) = some false)
def fb_63 : Hv.Fb := fun K => decide (PySem.W.kitOne K (.type "int") (.ref (He.ga K "Row")) = some false)
def fb_64 : Hv.Fb := fun K => decide (PySem.W.kitOne K (.type "bool") (.ref (He.ga K "Row")) = some false)
def fb_65 : Hv.Fb := fun K => decide (PySem.W.kitOne K (.type "str") (.ref (He.ga K "Row")) = some false)
def fb_66 : Hv.Fb := fun K => decide (PySem.W.kitOne K (.type "list") (.ref (He.ga K "Row")) = some false)
def fb_67 : Hv.Fb := fun K => decide (PySem.W.kitOne K (.type "tuple") (.ref (He.ga K "Row")) = some false)
def fb_68 : Hv.Fb := fun K => decide (PySem.W.nsIn K mainGlobals "Rules" = some (some (.ref (He.ga K "Rules"))))
def fb_69 : Hv.Fb := fun K => decide (PySem.W.plainGet K (He.ga K "Rules") Str.empty = true)
def fb_70 : Hv.Fb := fun K => decide (PySem.W.hasDictIn K (He.ga K "Rules") = true)
def fb_71 : Hv.Fb := fun K => decide (PySem.W.plainOver K (He.ga K "Rules") = true)
def fb_72 : Hv.Fb := fun K => decide (PySem.W.findIn K (.ref (He.ga K "Rules")) "__setattr__" = some (some (.builtin "object.__setattr__")))
def fb_73 : Hv.Fb := fun K => decide (PySem.W.keepIn K (.ref (He.ga K "Rules")) = true)
def fb_74 : Hv.Fb := fun K => decide (PySem.W.makesIn K (He.ga K "Rules") = true)
def fb_75 : Hv.Fb := fun K => decide (PySem.W.findIn K (.ref (He.ga K "Rules")) "made" = some none)
def fb_76 : Hv.Fb := fun K => decide (PySem.W.findIn K (.ref (He.ga K "Rules")) "lines" = some none)
def fb_77 : Hv.Fb := fun K => decide (PySem.W.findIn K (.ref (He.ga K "Rules")) "text" = some none)
def fb_78 : Hv.Fb := fun K => Hv.methB "Kind" "__init__" K
def fb_79 : Hv.Fb := fun K => kindKwB K
def fb_80 : Hv.Fb := fun K => Hv.propB "Kind" "name" K
def fb_81 : Hv.Fb := fun K => Hv.propB "Kind" "talks" K
def fb_82 : Hv.Fb := fun K => Hv.propB "Kind" "needs" K
def fb_83 : Hv.Fb := fun K => Hv.propB "Kind" "closing" K
def fb_84 : Hv.Fb := fun K => Hv.propB "Kind" "ends" K
def fb_85 : Hv.Fb := fun K => Hv.methB "Row" "__init__" K
def fb_86 : Hv.Fb := fun K => Hv.propB "Row" "outer" K
def fb_87 : Hv.Fb := fun K => Hv.propB "Row" "inner" K
def fb_88 : Hv.Fb := fun K => Hv.propB "Row" "amount" K
def fb_89 : Hv.Fb := fun K => Hv.propB "Rules" "kinds" K
def fb_90 : Hv.Fb := fun K => Hv.methB "Rules" "__init__" K
def fb_91 : Hv.Fb := fun K => readB K
def fb_92 : Hv.Fb := fun K => decide (PySem.W.findIn K (.ref (He.ga K "Rules")) "__class__" = some (some (.builtin "object.__class__")))
def fb_93 : Hv.Fb := fun K => decide (PySem.W.mroIn K (He.ga K "Rules") (.type "object") = some true)
def fb_94 : Hv.Fb := fun K => decide (PySem.W.kitOne K (.ref (He.ga K "Rules")) (.ref (He.ga K "Rules")) = some true)
def fb_95 : Hv.Fb := fun K => decide (PySem.W.readsIn K (He.ga K "Rules") (.type "type") = true)
def fb_96 : Hv.Fb := fun K => decide (PySem.W.specialIn K (.ref (He.ga K "Rules")) "__getattribute__" = some (some (.builtin "type.__getattribute__")))
def fb_97 : Hv.Fb := fun K => decide (PySem.W.nsIn K mainGlobals "is_integer" = some (some (.ref (He.ga K "is_integer"))))
def fb_98 : Hv.Fb := fun K => decide (PySem.W.nsIn K mainGlobals "is_name" = some (some (.ref (He.ga K "is_name"))))
def fb_99 : Hv.Fb := fun K => decide (PySem.W.nsIn K mainGlobals "common_divisor" = some (some (.ref (He.ga K "common_divisor"))))
def fb_100 : Hv.Fb := fun K => decide (PySem.W.nsIn K mainGlobals "number_of" = some (some (.ref (He.ga K "number_of"))))
def fb_101 : Hv.Fb := fun K => decide (PySem.W.nsIn K mainGlobals "fraction_of" = some (some (.ref (He.ga K "fraction_of"))))
def fb_102 : Hv.Fb := fun K => decide (PySem.W.nsIn K mainGlobals "is_bound" = some (some (.ref (He.ga K "is_bound"))))
def fb_103 : Hv.Fb := fun K => decide (PySem.W.nsIn K mainGlobals "is_needs" = some (some (.ref (He.ga K "is_needs"))))
def fb_104 : Hv.Fb := fun K => decide (PySem.W.nsIn K mainGlobals "is_closing" = some (some (.ref (He.ga K "is_closing"))))
def fb_105 : Hv.Fb := fun K => decide (PySem.W.nsIn K mainGlobals "sort_of" = some (some (.ref (He.ga K "sort_of"))))
def fb_106 : Hv.Fb := fun K => decide (PySem.W.nsIn K mainGlobals "line_of_kind" = some (some (.ref (He.ga K "line_of_kind"))))
def fb_107 : Hv.Fb := fun K => decide (PySem.W.nsIn K mainGlobals "line_of_row" = some (some (.ref (He.ga K "line_of_row"))))
def fb_108 : Hv.Fb := fun K => decide (PySem.W.nsIn K mainGlobals "after_number" = some (some (.ref (He.ga K "after_number"))))
def fb_109 : Hv.Fb := fun K => decide (PySem.W.nsIn K mainGlobals "after_bound" = some (some (.ref (He.ga K "after_bound"))))
def fb_110 : Hv.Fb := fun K => decide (PySem.W.nsIn K mainGlobals "read_kind" = some (some (.ref (He.ga K "read_kind"))))
def fb_111 : Hv.Fb := fun K => decide (PySem.W.nsIn K mainGlobals "read_row" = some (some (.ref (He.ga K "read_row"))))
def fb_112 : Hv.Fb := fun K => decide (PySem.W.nsIn K mainGlobals "check_kinds" = some (some (.ref (He.ga K "check_kinds"))))
def fb_113 : Hv.Fb := fun K => decide (PySem.W.nsIn K mainGlobals "check_rows" = some (some (.ref (He.ga K "check_rows"))))
def fb_114 : Hv.Fb := fun K => decide (PySem.W.nsIn K mainGlobals "check_rules" = some (some (.ref (He.ga K "check_rules"))))
def fb_115 : Hv.Fb := fun K => decide (PySem.W.nsIn K mainGlobals "factor" = some (some (.ref (He.ga K "factor"))))
def fb_116 : Hv.Fb := fun K => decide (PySem.W.nsIn K mainGlobals "lowest" = some (some (.ref (He.ga K "lowest"))))
def fb_117 : Hv.Fb := fun K => decide (PySem.W.nsIn K mainGlobals "insert_share" = some (some (.ref (He.ga K "insert_share"))))
def fb_118 : Hv.Fb := fun K => decide (PySem.W.nsIn K mainGlobals "cuts_of" = some (some (.ref (He.ga K "cuts_of"))))
def fb_119 : Hv.Fb := fun K => decide (PySem.W.nsIn K mainGlobals "cuts" = some (some (.ref (He.ga K "cuts"))))
def fb_120 : Hv.Fb := fun K => decide (PySem.W.nsIn K mainGlobals "_law_well" = some (some (.ref (He.ga K "_law_well"))))
def fb_121 : Hv.Fb := fun K => decide (PySem.W.nsIn K mainGlobals "_law_draw" = some (some (.ref (He.ga K "_law_draw"))))
def fb_122 : Hv.Fb := fun K => decide (PySem.W.nsIn K mainGlobals "_law_common" = some (some (.ref (He.ga K "_law_common"))))
def fb_123 : Hv.Fb := fun K => decide (PySem.W.nsIn K mainGlobals "_law_bound" = some (some (.ref (He.ga K "_law_bound"))))
def fb_124 : Hv.Fb := fun K => decide (PySem.W.nsIn K mainGlobals "_law_bound_text" = some (some (.ref (He.ga K "_law_bound_text"))))
def fb_125 : Hv.Fb := fun K => decide (PySem.W.nsIn K mainGlobals "_law_sort" = some (some (.ref (He.ga K "_law_sort"))))
def fb_126 : Hv.Fb := fun K => decide (PySem.W.nsIn K mainGlobals "_law_plan" = some (some (.ref (He.ga K "_law_plan"))))
def fb_127 : Hv.Fb := fun K => decide (PySem.W.nsIn K mainGlobals "_law_line" = some (some (.ref (He.ga K "_law_line"))))
def fb_128 : Hv.Fb := fun K => decide (PySem.W.nsIn K mainGlobals "_law_text" = some (some (.ref (He.ga K "_law_text"))))
def fb_129 : Hv.Fb := fun K => decide (PySem.W.nsIn K mainGlobals "_law_due" = some (some (.ref (He.ga K "_law_due"))))
def fb_130 : Hv.Fb := fun K => decide (PySem.W.nsIn K mainGlobals "_law_right" = some (some (.ref (He.ga K "_law_right"))))
def fb_131 : Hv.Fb := fun K => decide (PySem.W.nsIn K mainGlobals "law" = some (some (.ref (He.ga K "law"))))
def fb_132 : Hv.Fb := fun K => decide (PySem.W.nsIn K mainGlobals "ValueError" = some none)
def fb_133 : Hv.Fb := fun K => decide (PySem.W.nsIn K mainGlobals "abs" = some none)
def fb_134 : Hv.Fb := fun K => decide (PySem.W.nsIn K mainGlobals "all" = some none)
def fb_135 : Hv.Fb := fun K => decide (PySem.W.nsIn K mainGlobals "any" = some none)
def fb_136 : Hv.Fb := fun K => decide (PySem.W.nsIn K mainGlobals "bool" = some none)
def fb_137 : Hv.Fb := fun K => decide (PySem.W.nsIn K mainGlobals "classmethod" = some none)
def fb_138 : Hv.Fb := fun K => decide (PySem.W.nsIn K mainGlobals "divmod" = some none)
def fb_139 : Hv.Fb := fun K => decide (PySem.W.nsIn K mainGlobals "enumerate" = some none)
def fb_140 : Hv.Fb := fun K => decide (PySem.W.nsIn K mainGlobals "int" = some none)
def fb_141 : Hv.Fb := fun K => decide (PySem.W.nsIn K mainGlobals "isinstance" = some none)
def fb_142 : Hv.Fb := fun K => decide (PySem.W.nsIn K mainGlobals "len" = some none)
def fb_143 : Hv.Fb := fun K => decide (PySem.W.nsIn K mainGlobals "max" = some none)
def fb_144 : Hv.Fb := fun K => decide (PySem.W.nsIn K mainGlobals "min" = some none)
def fb_145 : Hv.Fb := fun K => decide (PySem.W.nsIn K mainGlobals "property" = some none)
def fb_146 : Hv.Fb := fun K => decide (PySem.W.nsIn K mainGlobals "range" = some none)
def fb_147 : Hv.Fb := fun K => decide (PySem.W.nsIn K mainGlobals "str" = some none)
def fb_148 : Hv.Fb := fun K => decide (PySem.W.nsIn K mainGlobals "tuple" = some none)
def fb_149 : Hv.Fb := fun K => Hv.intB "MOST_KINDS" (6) K
def fb_150 : Hv.Fb := fun K => Hv.intB "MOST_TALKS" (3) K
def fb_151 : Hv.Fb := fun K => Hv.intB "MOST_TIMES" (3) K
def fb_152 : Hv.Fb := fun K => Hv.intB "MOST_AFTER" (3) K
def fb_153 : Hv.Fb := fun K => Hv.intB "MOST_NEEDS" (9) K
def fb_154 : Hv.Fb := fun K => Hv.intB "MOST_PART" (12) K
def fb_155 : Hv.Fb := fun K => Hv.strB "DIGITS" "0123456789" K
def fb_156 : Hv.Fb := fun K => Hv.strB "LETTERS" "abcdefghijklmnopqrstuvwxyz" K
def fb_157 : Hv.Fb := fun K => Hv.strB "MARK" "over " K
def fbs_0 : List Hv.Fb := [fb_0, fb_1, fb_2, fb_3, fb_4, fb_5, fb_6, fb_7, fb_8, fb_9, fb_10, fb_11, fb_12, fb_13, fb_14, fb_15, fb_16, fb_17, fb_18, fb_19, fb_20, fb_21, fb_22, fb_23, fb_24, fb_25, fb_26, fb_27, fb_28, fb_29]
def fbs_1 : List Hv.Fb := [fb_30, fb_31, fb_32, fb_33, fb_34, fb_35, fb_36, fb_37, fb_38, fb_39, fb_40, fb_41, fb_42, fb_43, fb_44, fb_45, fb_46, fb_47, fb_48, fb_49, fb_50, fb_51, fb_52, fb_53, fb_54, fb_55, fb_56, fb_57, fb_58, fb_59]
def fbs_2 : List Hv.Fb := [fb_60, fb_61, fb_62, fb_63, fb_64, fb_65, fb_66, fb_67, fb_68, fb_69, fb_70, fb_71, fb_72, fb_73, fb_74, fb_75, fb_76, fb_77, fb_78, fb_79, fb_80, fb_81, fb_82, fb_83, fb_84, fb_85, fb_86, fb_87, fb_88, fb_89]
def fbs_3 : List Hv.Fb := [fb_90, fb_91, fb_92, fb_93, fb_94, fb_95, fb_96, fb_97, fb_98, fb_99, fb_100, fb_101, fb_102, fb_103, fb_104, fb_105, fb_106, fb_107, fb_108, fb_109, fb_110, fb_111, fb_112, fb_113, fb_114, fb_115, fb_116, fb_117, fb_118, fb_119]
def fbs_4 : List Hv.Fb := [fb_120, fb_121, fb_122, fb_123, fb_124, fb_125, fb_126, fb_127, fb_128, fb_129, fb_130, fb_131, fb_132, fb_133, fb_134, fb_135, fb_136, fb_137, fb_138, fb_139, fb_140, fb_141, fb_142, fb_143, fb_144, fb_145, fb_146, fb_147, fb_148, fb_149]
def fbs_5 : List Hv.Fb := [fb_150, fb_151, fb_152, fb_153, fb_154, fb_155, fb_156, fb_157]
def fbs : List Hv.Fb := fbs_0 ++ (fbs_1 ++ (fbs_2 ++ (fbs_3 ++ (fbs_4 ++ (fbs_5)))))
def fns_0 : List Hv.DefQ := [Hv.defM "Kind" "__init__" "Kind.__init__" s_Kind_init, Hv.defP "Kind" "name" "Kind.name" s_Kind_name, Hv.defP "Kind" "talks" "Kind.talks" s_Kind_talks, Hv.defP "Kind" "needs" "Kind.needs" s_Kind_needs, Hv.defP "Kind" "closing" "Kind.closing" s_Kind_closing, Hv.defP "Kind" "ends" "Kind.ends" s_Kind_ends, Hv.defM "Row" "__init__" "Row.__init__" s_Row_init, Hv.defP "Row" "outer" "Row.outer" s_Row_outer, Hv.defP "Row" "inner" "Row.inner" s_Row_inner, Hv.defP "Row" "amount" "Row.amount" s_Row_amount, Hv.defP "Rules" "kinds" "Rules.kinds" s_Rules_kinds, defRI, defRD, Hv.defG "is_integer" s_is_integer, Hv.defG "is_name" s_is_name, Hv.defG "common_divisor" s_common_divisor, Hv.defG "number_of" s_number_of, Hv.defG "fraction_of" s_fraction_of, Hv.defG "is_bound" s_is_bound, Hv.defG "is_needs" s_is_needs, Hv.defG "is_closing" s_is_closing, Hv.defG "sort_of" s_sort_of, Hv.defG "line_of_kind" s_line_of_kind, Hv.defG "line_of_row" s_line_of_row, Hv.defG "after_number" s_after_number, Hv.defG "after_bound" s_after_bound, Hv.defG "read_kind" s_read_kind, Hv.defG "read_row" s_read_row, Hv.defG "check_kinds" s_check_kinds, Hv.defG "check_rows" s_check_rows]
def fns_1 : List Hv.DefQ := [Hv.defG "check_rules" s_check_rules, Hv.defG "factor" s_factor, Hv.defG "lowest" s_lowest, Hv.defG "insert_share" s_insert_share, Hv.defG "cuts_of" s_cuts_of, Hv.defG "cuts" s_cuts, Hv.defG "_law_well" s_well, Hv.defG "_law_draw" s_draw, Hv.defG "_law_common" s_common, Hv.defG "_law_bound" s_bound, Hv.defG "_law_bound_text" s_bound_text, Hv.defG "_law_sort" s_sort, Hv.defG "_law_plan" s_plan, Hv.defG "_law_line" s_line, Hv.defG "_law_text" s_text, Hv.defG "_law_due" s_due, Hv.defG "_law_right" s_right, Hv.defG "law" s_law]
def fns : List Hv.DefQ := fns_0 ++ (fns_1)
def hfs_0 : List Str := ["is_integer", "is_name", "common_divisor", "number_of", "fraction_of", "is_bound", "is_needs", "is_closing", "sort_of", "line_of_kind", "line_of_row", "after_number", "after_bound", "read_kind", "read_row", "check_kinds", "check_rows", "check_rules", "factor", "lowest", "insert_share", "cuts_of", "cuts", "_law_well", "_law_draw", "_law_common", "_law_bound", "_law_bound_text", "_law_sort", "_law_plan"]
def hfs_1 : List Str := ["_law_line", "_law_text", "_law_due", "_law_right", "law"]
def hfs : List Str := hfs_0 ++ (hfs_1)
def hcs_0 : List Str := ["Kind", "Row", "Rules"]
def hcs : List Str := hcs_0
def hds_0 : List Str := []
def hds : List Str := hds_0
def htf_0 : List Str := []
def htf : List Str := htf_0
def loose_0 : List Str := ["_wall", "__name__", "WrongValue", "InvalidName", "InvalidNumber", "InvalidNeeds", "InvalidClosing", "InvalidEnds", "InvalidAmount", "InvalidText", "NotRules", "InvalidKinds", "InvalidRows", "MOST_KINDS", "MOST_TALKS", "MOST_TIMES", "MOST_AFTER", "MOST_NEEDS", "MOST_PART", "DIGITS", "LETTERS", "is_integer", "is_name", "common_divisor", "number_of", "MARK", "fraction_of", "is_bound", "is_needs", "is_closing"]
def loose_1 : List Str := ["sort_of", "Kind", "Row", "line_of_kind", "line_of_row", "after_number", "after_bound", "read_kind", "read_row", "check_kinds", "check_rows", "Rules", "check_rules", "factor", "lowest", "insert_share", "cuts_of", "cuts", "_law_well", "_law_draw", "_law_common", "_law_bound", "_law_bound_text", "_law_met", "_law_sort", "_law_plan", "_law_line", "_law_text", "_law_due", "_law_right"]
def loose : List Str := loose_0 ++ (loose_1)
abbrev hk : PySem.W.Hook := Hv.hookO hfs hcs hds fbs fns htf
def ob (s : PySem.W.SharedT) : Hv.Ob := Hv.obT hfs hcs hds fbs fns htf s
theorem ob_eq (s : PySem.W.SharedT) : ob s = hk.obs s.abs := Hv.obT_eq s
theorem run (w : World) : HandSHeadRun.RunEq R (PySem.W.view R.prog [66]) hk ob 60000 loose w := by
  intro os
  kernel_rfl
theorem all_in {w : World} {mg : Str → Option Value} {fa : Addr} {h : Heap} {K : PySem.W.Frag} (c : Hv.Says fbs fns htf h K) (G : h.Ns mainGlobals mg) (hfa : mg "law" = some (.ref fa)) : Hv.LawT PySem.Challenge.rw_heldvotes_k24_cuts_of_rules w K 10 63 "_law_script" mg fa htf :=
  all_mk c.kin G hfa (C := (He.ga K "Kind")) (CR := (He.ga K "Row")) (CU := (He.ga K "Rules"))
    (o_Kind_a := (of_decide_eq_true (c.b 0 (f := fb_0) rfl)))
    (o_Kind_pg := (of_decide_eq_true (c.b 1 (f := fb_1) rfl)))
    (o_Kind_hd := (of_decide_eq_true (c.b 2 (f := fb_2) rfl)))
    (o_Kind_po := (of_decide_eq_true (c.b 3 (f := fb_3) rfl)))
    (o_Kind_sa := (of_decide_eq_true (c.b 4 (f := fb_4) rfl)))
    (o_Kind_ha := (of_decide_eq_true (c.b 5 (f := fb_5) rfl)))
    (o_Kind_hm := (of_decide_eq_true (c.b 6 (f := fb_6) rfl)))
    (o_Kind_kp := (of_decide_eq_true (c.b 7 (f := fb_7) rfl)))
    (o_Kind_mk := (of_decide_eq_true (c.b 8 (f := fb_8) rfl)))
    (o_Kind_ne := (of_decide_eq_true (c.b 9 (f := fb_9) rfl)))
    (o_Kind_bo := (of_decide_eq_true (c.b 10 (f := fb_10) rfl)))
    (o_Kind_le := (of_decide_eq_true (c.b 11 (f := fb_11) rfl)))
    (o_Kind_na_parts := (of_decide_eq_true (c.b 12 (f := fb_12) rfl)))
    (o_Kind_s0 := (of_decide_eq_true (c.b 13 (f := fb_13) rfl)))
    (o_Kind_s1 := (of_decide_eq_true (c.b 14 (f := fb_14) rfl)))
    (o_Kind_s2 := (of_decide_eq_true (c.b 15 (f := fb_15) rfl)))
    (o_Kind_s3 := (of_decide_eq_true (c.b 16 (f := fb_16) rfl)))
    (o_Kind_s4 := (of_decide_eq_true (c.b 17 (f := fb_17) rfl)))
    (o_Kind_s5 := (of_decide_eq_true (c.b 18 (f := fb_18) rfl)))
    (o_Kind_u0 := (of_decide_eq_true (c.b 19 (f := fb_19) rfl)))
    (o_Kind_u1 := (of_decide_eq_true (c.b 20 (f := fb_20) rfl)))
    (o_Kind_u2 := (of_decide_eq_true (c.b 21 (f := fb_21) rfl)))
    (o_Kind_u3 := (of_decide_eq_true (c.b 22 (f := fb_22) rfl)))
    (o_Kind_u4 := (of_decide_eq_true (c.b 23 (f := fb_23) rfl)))
    (o_Kind_u5 := (of_decide_eq_true (c.b 24 (f := fb_24) rfl)))
    (o_Kind_nf := (of_decide_eq_true (c.b 25 (f := fb_25) rfl)))
    (o_Kind_k1 := (of_decide_eq_true (c.b 26 (f := fb_26) rfl)))
    (o_Kind_q0 := (of_decide_eq_true (c.b 27 (f := fb_27) rfl)))
    (o_Kind_q1 := (of_decide_eq_true (c.b 28 (f := fb_28) rfl)))
    (o_Kind_q2 := (of_decide_eq_true (c.b 29 (f := fb_29) rfl)))
    (o_Kind_q3 := (of_decide_eq_true (c.b 30 (f := fb_30) rfl)))
    (o_Kind_q4 := (of_decide_eq_true (c.b 31 (f := fb_31) rfl)))
    (o_Kind_q5 := (of_decide_eq_true (c.b 32 (f := fb_32) rfl)))
    (o_cls1 := (of_decide_eq_true (c.b 33 (f := fb_33) rfl)))
    (o_cls2 := (of_decide_eq_true (c.b 34 (f := fb_34) rfl)))
    (o_Row_a := (of_decide_eq_true (c.b 35 (f := fb_35) rfl)))
    (o_Row_pg := (of_decide_eq_true (c.b 36 (f := fb_36) rfl)))
    (o_Row_hd := (of_decide_eq_true (c.b 37 (f := fb_37) rfl)))
    (o_Row_po := (of_decide_eq_true (c.b 38 (f := fb_38) rfl)))
    (o_Row_sa := (of_decide_eq_true (c.b 39 (f := fb_39) rfl)))
    (o_Row_ha := (of_decide_eq_true (c.b 40 (f := fb_40) rfl)))
    (o_Row_hm := (of_decide_eq_true (c.b 41 (f := fb_41) rfl)))
    (o_Row_kp := (of_decide_eq_true (c.b 42 (f := fb_42) rfl)))
    (o_Row_mk := (of_decide_eq_true (c.b 43 (f := fb_43) rfl)))
    (o_Row_ne := (of_decide_eq_true (c.b 44 (f := fb_44) rfl)))
    (o_Row_bo := (of_decide_eq_true (c.b 45 (f := fb_45) rfl)))
    (o_Row_le := (of_decide_eq_true (c.b 46 (f := fb_46) rfl)))
    (o_Row_na_parts := (of_decide_eq_true (c.b 47 (f := fb_47) rfl)))
    (o_Row_s0 := (of_decide_eq_true (c.b 48 (f := fb_48) rfl)))
    (o_Row_s1 := (of_decide_eq_true (c.b 49 (f := fb_49) rfl)))
    (o_Row_s2 := (of_decide_eq_true (c.b 50 (f := fb_50) rfl)))
    (o_Row_s3 := (of_decide_eq_true (c.b 51 (f := fb_51) rfl)))
    (o_Row_s4 := (of_decide_eq_true (c.b 52 (f := fb_52) rfl)))
    (o_Row_s5 := (of_decide_eq_true (c.b 53 (f := fb_53) rfl)))
    (o_Row_u0 := (of_decide_eq_true (c.b 54 (f := fb_54) rfl)))
    (o_Row_u1 := (of_decide_eq_true (c.b 55 (f := fb_55) rfl)))
    (o_Row_u2 := (of_decide_eq_true (c.b 56 (f := fb_56) rfl)))
    (o_Row_u3 := (of_decide_eq_true (c.b 57 (f := fb_57) rfl)))
    (o_Row_u4 := (of_decide_eq_true (c.b 58 (f := fb_58) rfl)))
    (o_Row_u5 := (of_decide_eq_true (c.b 59 (f := fb_59) rfl)))
    (o_Row_nf := (of_decide_eq_true (c.b 60 (f := fb_60) rfl)))
    (o_Row_k1 := (of_decide_eq_true (c.b 61 (f := fb_61) rfl)))
    (o_Row_q0 := (of_decide_eq_true (c.b 62 (f := fb_62) rfl)))
    (o_Row_q1 := (of_decide_eq_true (c.b 63 (f := fb_63) rfl)))
    (o_Row_q2 := (of_decide_eq_true (c.b 64 (f := fb_64) rfl)))
    (o_Row_q3 := (of_decide_eq_true (c.b 65 (f := fb_65) rfl)))
    (o_Row_q4 := (of_decide_eq_true (c.b 66 (f := fb_66) rfl)))
    (o_Row_q5 := (of_decide_eq_true (c.b 67 (f := fb_67) rfl)))
    (o_Rules_a := (of_decide_eq_true (c.b 68 (f := fb_68) rfl)))
    (o_Rules_pg := (of_decide_eq_true (c.b 69 (f := fb_69) rfl)))
    (o_Rules_hd := (of_decide_eq_true (c.b 70 (f := fb_70) rfl)))
    (o_Rules_po := (of_decide_eq_true (c.b 71 (f := fb_71) rfl)))
    (o_Rules_sa := (of_decide_eq_true (c.b 72 (f := fb_72) rfl)))
    (o_Rules_kp := (of_decide_eq_true (c.b 73 (f := fb_73) rfl)))
    (o_Rules_mk := (of_decide_eq_true (c.b 74 (f := fb_74) rfl)))
    (o_Rules_na_made := (of_decide_eq_true (c.b 75 (f := fb_75) rfl)))
    (o_Rules_na_lines := (of_decide_eq_true (c.b 76 (f := fb_76) rfl)))
    (o_Rules_na_text := (of_decide_eq_true (c.b 77 (f := fb_77) rfl)))
    (m_Kind_init := (kindInit_of (c.b 78 (f := fb_78) rfl) (c.b 79 (f := fb_79) rfl) (c.d 0 (f := Hv.defM "Kind" "__init__" "Kind.__init__" s_Kind_init) rfl)))
    (m_Kind_name := (Hv.propIn_of (c.b 80 (f := fb_80) rfl) (c.d 1 (f := Hv.defP "Kind" "name" "Kind.name" s_Kind_name) rfl)))
    (m_Kind_talks := (Hv.propIn_of (c.b 81 (f := fb_81) rfl) (c.d 2 (f := Hv.defP "Kind" "talks" "Kind.talks" s_Kind_talks) rfl)))
    (m_Kind_needs := (Hv.propIn_of (c.b 82 (f := fb_82) rfl) (c.d 3 (f := Hv.defP "Kind" "needs" "Kind.needs" s_Kind_needs) rfl)))
    (m_Kind_closing := (Hv.propIn_of (c.b 83 (f := fb_83) rfl) (c.d 4 (f := Hv.defP "Kind" "closing" "Kind.closing" s_Kind_closing) rfl)))
    (m_Kind_ends := (Hv.propIn_of (c.b 84 (f := fb_84) rfl) (c.d 5 (f := Hv.defP "Kind" "ends" "Kind.ends" s_Kind_ends) rfl)))
    (m_Row_init := (Hv.methIn_of (c.b 85 (f := fb_85) rfl) (c.d 6 (f := Hv.defM "Row" "__init__" "Row.__init__" s_Row_init) rfl)))
    (m_Row_outer := (Hv.propIn_of (c.b 86 (f := fb_86) rfl) (c.d 7 (f := Hv.defP "Row" "outer" "Row.outer" s_Row_outer) rfl)))
    (m_Row_inner := (Hv.propIn_of (c.b 87 (f := fb_87) rfl) (c.d 8 (f := Hv.defP "Row" "inner" "Row.inner" s_Row_inner) rfl)))
    (m_Row_amount := (Hv.propIn_of (c.b 88 (f := fb_88) rfl) (c.d 9 (f := Hv.defP "Row" "amount" "Row.amount" s_Row_amount) rfl)))
    (m_Rules_kinds := (Hv.propIn_of (c.b 89 (f := fb_89) rfl) (c.d 10 (f := Hv.defP "Rules" "kinds" "Rules.kinds" s_Rules_kinds) rfl)))
    (m_Rules_init := (rulesInit_of (c.b 90 (f := fb_90) rfl) (c.d 11 (f := defRI) rfl)))
    (m_Rules_read := (readIn_of (c.b 91 (f := fb_91) rfl) (c.d 12 (f := defRD) rfl)))
    (u_ha := (of_decide_eq_true (c.b 92 (f := fb_92) rfl)))
    (u_hm := (of_decide_eq_true (c.b 93 (f := fb_93) rfl)))
    (u_k1 := (of_decide_eq_true (c.b 94 (f := fb_94) rfl)))
    (u_rd := (of_decide_eq_true (c.b 95 (f := fb_95) rfl)))
    (u_gg := (of_decide_eq_true (c.b 96 (f := fb_96) rfl)))
    (d_is_integer := (Hv.defIn_of (c.d 13 (f := Hv.defG "is_integer" s_is_integer) rfl) (of_decide_eq_true (c.b 97 (f := fb_97) rfl))))
    (d_is_name := (Hv.defIn_of (c.d 14 (f := Hv.defG "is_name" s_is_name) rfl) (of_decide_eq_true (c.b 98 (f := fb_98) rfl))))
    (d_common_divisor := (Hv.defIn_of (c.d 15 (f := Hv.defG "common_divisor" s_common_divisor) rfl) (of_decide_eq_true (c.b 99 (f := fb_99) rfl))))
    (d_number_of := (Hv.defIn_of (c.d 16 (f := Hv.defG "number_of" s_number_of) rfl) (of_decide_eq_true (c.b 100 (f := fb_100) rfl))))
    (d_fraction_of := (Hv.defIn_of (c.d 17 (f := Hv.defG "fraction_of" s_fraction_of) rfl) (of_decide_eq_true (c.b 101 (f := fb_101) rfl))))
    (d_is_bound := (Hv.defIn_of (c.d 18 (f := Hv.defG "is_bound" s_is_bound) rfl) (of_decide_eq_true (c.b 102 (f := fb_102) rfl))))
    (d_is_needs := (Hv.defIn_of (c.d 19 (f := Hv.defG "is_needs" s_is_needs) rfl) (of_decide_eq_true (c.b 103 (f := fb_103) rfl))))
    (d_is_closing := (Hv.defIn_of (c.d 20 (f := Hv.defG "is_closing" s_is_closing) rfl) (of_decide_eq_true (c.b 104 (f := fb_104) rfl))))
    (d_sort_of := (Hv.defIn_of (c.d 21 (f := Hv.defG "sort_of" s_sort_of) rfl) (of_decide_eq_true (c.b 105 (f := fb_105) rfl))))
    (d_line_of_kind := (Hv.defIn_of (c.d 22 (f := Hv.defG "line_of_kind" s_line_of_kind) rfl) (of_decide_eq_true (c.b 106 (f := fb_106) rfl))))
    (d_line_of_row := (Hv.defIn_of (c.d 23 (f := Hv.defG "line_of_row" s_line_of_row) rfl) (of_decide_eq_true (c.b 107 (f := fb_107) rfl))))
    (d_after_number := (Hv.defIn_of (c.d 24 (f := Hv.defG "after_number" s_after_number) rfl) (of_decide_eq_true (c.b 108 (f := fb_108) rfl))))
    (d_after_bound := (Hv.defIn_of (c.d 25 (f := Hv.defG "after_bound" s_after_bound) rfl) (of_decide_eq_true (c.b 109 (f := fb_109) rfl))))
    (d_read_kind := (Hv.defIn_of (c.d 26 (f := Hv.defG "read_kind" s_read_kind) rfl) (of_decide_eq_true (c.b 110 (f := fb_110) rfl))))
    (d_read_row := (Hv.defIn_of (c.d 27 (f := Hv.defG "read_row" s_read_row) rfl) (of_decide_eq_true (c.b 111 (f := fb_111) rfl))))
    (d_check_kinds := (Hv.defIn_of (c.d 28 (f := Hv.defG "check_kinds" s_check_kinds) rfl) (of_decide_eq_true (c.b 112 (f := fb_112) rfl))))
    (d_check_rows := (Hv.defIn_of (c.d 29 (f := Hv.defG "check_rows" s_check_rows) rfl) (of_decide_eq_true (c.b 113 (f := fb_113) rfl))))
    (d_check_rules := (Hv.defIn_of (c.d 30 (f := Hv.defG "check_rules" s_check_rules) rfl) (of_decide_eq_true (c.b 114 (f := fb_114) rfl))))
    (d_factor := (Hv.defIn_of (c.d 31 (f := Hv.defG "factor" s_factor) rfl) (of_decide_eq_true (c.b 115 (f := fb_115) rfl))))
    (d_lowest := (Hv.defIn_of (c.d 32 (f := Hv.defG "lowest" s_lowest) rfl) (of_decide_eq_true (c.b 116 (f := fb_116) rfl))))
    (d_insert_share := (Hv.defIn_of (c.d 33 (f := Hv.defG "insert_share" s_insert_share) rfl) (of_decide_eq_true (c.b 117 (f := fb_117) rfl))))
    (d_cuts_of := (Hv.defIn_of (c.d 34 (f := Hv.defG "cuts_of" s_cuts_of) rfl) (of_decide_eq_true (c.b 118 (f := fb_118) rfl))))
    (d_cuts := (Hv.defIn_of (c.d 35 (f := Hv.defG "cuts" s_cuts) rfl) (of_decide_eq_true (c.b 119 (f := fb_119) rfl))))
    (d_well := (Hv.defIn_of (c.d 36 (f := Hv.defG "_law_well" s_well) rfl) (of_decide_eq_true (c.b 120 (f := fb_120) rfl))))
    (d_draw := (Hv.defIn_of (c.d 37 (f := Hv.defG "_law_draw" s_draw) rfl) (of_decide_eq_true (c.b 121 (f := fb_121) rfl))))
    (d_common := (Hv.defIn_of (c.d 38 (f := Hv.defG "_law_common" s_common) rfl) (of_decide_eq_true (c.b 122 (f := fb_122) rfl))))
    (d_bound := (Hv.defIn_of (c.d 39 (f := Hv.defG "_law_bound" s_bound) rfl) (of_decide_eq_true (c.b 123 (f := fb_123) rfl))))
    (d_bound_text := (Hv.defIn_of (c.d 40 (f := Hv.defG "_law_bound_text" s_bound_text) rfl) (of_decide_eq_true (c.b 124 (f := fb_124) rfl))))
    (d_sort := (Hv.defIn_of (c.d 41 (f := Hv.defG "_law_sort" s_sort) rfl) (of_decide_eq_true (c.b 125 (f := fb_125) rfl))))
    (d_plan := (Hv.defIn_of (c.d 42 (f := Hv.defG "_law_plan" s_plan) rfl) (of_decide_eq_true (c.b 126 (f := fb_126) rfl))))
    (d_line := (Hv.defIn_of (c.d 43 (f := Hv.defG "_law_line" s_line) rfl) (of_decide_eq_true (c.b 127 (f := fb_127) rfl))))
    (d_text := (Hv.defIn_of (c.d 44 (f := Hv.defG "_law_text" s_text) rfl) (of_decide_eq_true (c.b 128 (f := fb_128) rfl))))
    (d_due := (Hv.defIn_of (c.d 45 (f := Hv.defG "_law_due" s_due) rfl) (of_decide_eq_true (c.b 129 (f := fb_129) rfl))))
    (d_right := (Hv.defIn_of (c.d 46 (f := Hv.defG "_law_right" s_right) rfl) (of_decide_eq_true (c.b 130 (f := fb_130) rfl))))
    (d_law := (Hv.defIn_of (c.d 47 (f := Hv.defG "law" s_law) rfl) (of_decide_eq_true (c.b 131 (f := fb_131) rfl))))
    (b_ValueError := (of_decide_eq_true (c.b 132 (f := fb_132) rfl)))
    (b_abs := (of_decide_eq_true (c.b 133 (f := fb_133) rfl)))
    (b_all := (of_decide_eq_true (c.b 134 (f := fb_134) rfl)))
    (b_any := (of_decide_eq_true (c.b 135 (f := fb_135) rfl)))
    (b_bool := (of_decide_eq_true (c.b 136 (f := fb_136) rfl)))
    (b_classmethod := (of_decide_eq_true (c.b 137 (f := fb_137) rfl)))
    (b_divmod := (of_decide_eq_true (c.b 138 (f := fb_138) rfl)))
    (b_enumerate := (of_decide_eq_true (c.b 139 (f := fb_139) rfl)))
    (b_int := (of_decide_eq_true (c.b 140 (f := fb_140) rfl)))
    (b_isinstance := (of_decide_eq_true (c.b 141 (f := fb_141) rfl)))
    (b_len := (of_decide_eq_true (c.b 142 (f := fb_142) rfl)))
    (b_max := (of_decide_eq_true (c.b 143 (f := fb_143) rfl)))
    (b_min := (of_decide_eq_true (c.b 144 (f := fb_144) rfl)))
    (b_property := (of_decide_eq_true (c.b 145 (f := fb_145) rfl)))
    (b_range := (of_decide_eq_true (c.b 146 (f := fb_146) rfl)))
    (b_str := (of_decide_eq_true (c.b 147 (f := fb_147) rfl)))
    (b_tuple := (of_decide_eq_true (c.b 148 (f := fb_148) rfl)))
    (c_MOST_KINDS := (Hv.intIn_of (c.b 149 (f := fb_149) rfl)))
    (c_MOST_TALKS := (Hv.intIn_of (c.b 150 (f := fb_150) rfl)))
    (c_MOST_TIMES := (Hv.intIn_of (c.b 151 (f := fb_151) rfl)))
    (c_MOST_AFTER := (Hv.intIn_of (c.b 152 (f := fb_152) rfl)))
    (c_MOST_NEEDS := (Hv.intIn_of (c.b 153 (f := fb_153) rfl)))
    (c_MOST_PART := (Hv.intIn_of (c.b 154 (f := fb_154) rfl)))
    (c_DIGITS := (Hv.strIn_of (c.b 155 (f := fb_155) rfl)))
    (c_LETTERS := (Hv.strIn_of (c.b 156 (f := fb_156) rfl)))
    (c_MARK := (Hv.strIn_of (c.b 157 (f := fb_157) rfl)))
end L

open PySem PySem.W PySem.Calls PyProof.Rows in
set_option maxRecDepth 100000 in
set_option maxHeartbeats 0 in
theorem PySem.Challenge.cw_heldvotes_k24_cuts_of_rules_holds : PySem.Challenge.rw_heldvotes_k24_cuts_of_rules.Holds := by
  w_on; o_law
  refine HandSHeadRun.head_any (r := OpenLaw.row PySem.Challenge.rw_heldvotes_k24_cuts_of_rules) (q := view (OpenLaw.row PySem.Challenge.rw_heldvotes_k24_cuts_of_rules).prog [66]) (H := L.hk) (ob := L.ob) (M := 60000) (loose := L.loose) (d := HandSHeadRun.topDef (OpenLaw.row PySem.Challenge.rw_heldvotes_k24_cuts_of_rules).prog 66) (kwd := []) L.ob_eq
    (by kernel_rfl) (fun s => by kernel_rfl) L.run (by kernel_rfl) (by kernel_rfl) (by kernel_rfl) (by rfl) (by first | assumption | decide +kernel) (by decide +kernel) ⟨rfl, rfl, rfl, rfl, rfl, by decide +kernel⟩ ?hw ?hc
  case hw => w_witness2
  case hc =>
    refine Hv.walkTE (l := PySem.Challenge.rw_heldvotes_k24_cuts_of_rules) (n := 63) (k := 10) (x := "_law_script") (fb := L.fbs) (fn := L.fns) L.htf rfl (by decide) (by kernel_rfl) ⟨rfl, by decide, by decide⟩ (fun w h Y => Y) ?F
    intro w mg fa h K c G hmg0
    have hmg : mg ("law" : PySem.Str) = some (.ref fa) := by
      have e : (HandSHeadRun.topDef (OpenLaw.row PySem.Challenge.rw_heldvotes_k24_cuts_of_rules).prog 66).name = ("law" : PySem.Str) := by kernel_rfl
      rw [← e]
      exact hmg0
    exact L.all_in c G hmg


