import PyProof.Rows.All
import Wide.All
import OpenK.AllK
import Wide.FinOn
import HandS.ForMost
import HandS.ForExc
import HandS.EndBits
import HandS.Wide
import HandS.WideBits
import HandS.IsInst
import HandS.StrMore
import HandS.Style
import HandS.Evl
import PyProof.ReprRoads
import HandS.ReplaceDef
import HandS.ReplaceLit
import HandS.NoneIn
import HandS.Walk
import HandS.Codes
import KE.KOpsOwn
import KE.KCallOwn
import HandS.SlotsOwn
import HandS.More
import PyProof.TwoTypes
import PyProof.StrReplace2
import HandS.FStr
import HandS.TupLe
import KE.RegKIsAll
import PySem.Challenge.RW_heldvotes_k15_lengths_added
set_option Elab.async false
set_option linter.all false
set_option maxRecDepth 100000
set_option maxHeartbeats 4000000
namespace Hv
open PySem PySem.Spec PyProof.Rows L2

/-- a promise that is kept wherever no repr is under way -/
structure OkG (P : Program) (w : World) (K : PySem.W.Frag) (mg : Str → Option Value) (base : Heap) (CX : CXT) (k : Nat)
    (f : Addr) (fd : FuncData) (ps : List Str) (sp : Sp) : Prop where
  len : ∀ vs H Q E, sp vs H Q E → vs.length = ps.length
  run : ∀ (A : Around) (outer : List Env) (s : Shared) (H : Hp) (args : Args) (us : List Value) (vs : List V) (Q : VK) (E : XK),
    A.guards = some [] → Room k A → Env0 P w K mg base A outer s H → BindsTo s fd args (ps.zip us) → Vals vs us →
    sp vs H Q E → codeAny (model P w) A (.call (.ref f) args) (CR CX outer P w H s Q E) s

section
variable {P : Program} {w : World} {K : PySem.W.Frag} {mg : Str → Option Value} {base : Heap} {CX : CXT} {k : Nat}
  {f : Addr} {fd : FuncData} {ps : List Str} {sp : Sp}
theorem OkG.of (F : FnOk P w K mg base CX k f fd ps sp) : OkG P w K mg base CX k f fd ps sp :=
  ⟨F.len, fun A outer s H args us vs Q E _ => F.run A outer s H args us vs Q E⟩
theorem OkG.mono {j : Nat} (F : OkG P w K mg base CX j f fd ps sp) (h : j ≤ k) : OkG P w K mg base CX k f fd ps sp :=
  ⟨F.len, fun A outer s H args us vs Q E hg hr => F.run A outer s H args us vs Q E hg (hr.mono h)⟩

/-- the rule for a def, where no repr is under way -/
theorem okG {x qual : Str} {st : Stmt} {N : List Str} (F : Fun K x qual st f fd) (S : FnScope N ps (defScope st))
    (len : ∀ vs H Q E, sp vs H Q E → vs.length = ps.length)
    (body : ∀ (cdv : Value) (A : Around) (outer : List Env) (s : Shared) (H : Hp) (vs : List V) (Q : VK) (E : XK),
      A.guards = some [] → Room k (A.deeper (envOfC qual (defScope st) s.heap.objs.size f cdv)) → sp vs H Q E →
      ∃ t, PSs (cxOf CX P w K mg base N qual (defScope st) f cdv A outer s H E) (defBody st) t ∧
        t { nx := fun _ H' => Q .non H', rt := Q } (start N vs) H) :
    OkG P w K mg base CX (k + 1) f fd ps sp := by
  obtain ⟨oc, od, kV, doc, pm, an, cdv, ct, osl, rfl, lk, hcd⟩ := F.ex
  constructor
  · exact len
  intro A outer s H args us vs Q E hg hr e0 hb r hsp
  have KX : K.In s.heap := e0.mod.kin.keeps (fun b o e => (e0.bs b o e).1)
  have lim := e0.mod.nolimit.keeps (fun b o e => (e0.bs b o e).1)
  have kinds : ∀ y ∈ ps.zip us, (defScope st).names.lookup y.1 = some .local ∨
      ((defScope st).names.lookup y.1 = some .cell ∧
        ((cellsFrom (s.heap.objs.size + 1) (defScope st).names []).lookup y.1).isSome = true) := by
    rintro ⟨n, v⟩ hy
    cases S.par n (List.of_mem_zip hy).1 with
    | inl q => exact Or.inl q
    | inr q => exact Or.inr ⟨q, PySem.W.cellsFrom_some _ _ _ (Or.inl q)⟩
  apply codeAny_call_function hr.depth (KX _ _ lk) rfl S.co S.gen rfl (PySem.W.codeRec_of KX hcd)
  apply hb
  refine wpAny_newFunctionEnv_cells S.kind kinds ?_
  rintro env rfl s1 x
  refine ⟨lim.keeps x.toInCall.keep, codeAny_func ?_⟩
  obtain ⟨t, ht, hq⟩ := body cdv A outer s H vs Q E hg (hr.deeper _) hsp
  have I := inv_start (CX := CX) (E := E) S hr.hd e0 (len _ _ _ _ hsp) r x
  apply wpAny_mono (ht.run [] s1 (start N vs) H _ I hq)
  · intro fl s' hs
    cases fl with
    | ret u =>
      obtain ⟨v, σ', H', J, rv, q⟩ := hs
      exact ⟨v, H', J.os, J.bare, J.base, J.hok, rv, q⟩
    | next =>
      obtain ⟨σ', H', J, q⟩ := hs
      exact ⟨V.non, H', J.os, J.bare, J.base, J.hok, rfl, q⟩
    | brk =>
      obtain ⟨_, _, _, q⟩ := hs
      exact q.elim
    | cont =>
      obtain ⟨_, _, _, q⟩ := hs
      exact q.elim
  · intro e s' hs
    exact hs
end

theorem okG0 {P : Program} {w : World} {K : PySem.W.Frag} {mg : Str → Option Value} {base : Heap} {k : Nat} {f : Addr} {fd : FuncData} {ps : List Str} {sp : Sp}
    {x qual : Str} {st : Stmt} {N : List Str} (F : Fun K x qual st f fd) (S : FnScope N ps (defScope st)) (len : ∀ vs H Q E, sp vs H Q E → vs.length = ps.length)
    (body : ∀ (cdv : Value) (A : Around) (outer : List Env) (s : Shared) (H : Hp) (vs : List V) (Q : VK) (E : XK),
      A.guards = some [] → Room k (A.deeper (envOfC qual (defScope st) s.heap.objs.size f cdv)) → sp vs H Q E →
      ∃ t, PSs (cxOf CX0 P w K mg base N qual (defScope st) f cdv A outer s H E).nox (defBody st) t ∧
        t { nx := fun _ H' => Q .non H', rt := Q } (start N vs) H) : OkG P w K mg base CX0 (k + 1) f fd ps sp :=
  okG F S len fun cdv A outer s H vs Q E hg hr hsp =>
    let ⟨t, h, q⟩ := body cdv A outer s H vs Q E hg hr hsp
    ⟨t, h.nox, q⟩
section
variable {X : Cx} {CX : CXT} {k : Nat} {f : Addr} {fd : FuncData} {ps : List Str} {sp : Sp} {dvs : List V} {ds : List Value}
  {E : XK} {x : Str} {p pos : Pos} {e : Expr} {es : List Expr} {t : TA}
theorem runG {pins : List (Addr × Obj)} {σ : L2.St} {H : Hp} {s : Shared} {Q : VK} {us : List Value} {vs : List V}
    (F : OkG X.prog X.w X.K X.mg X.base CX k f fd ps sp) (hG : X.A.guards = some []) (hr : Room k X.A)
    (hb : Binds X.K fd ps ds) (hd : Vals dvs ds) (hx : Passes CX X E) (I : Inv X pins σ H s) (r : Vals vs us)
    (h : sp (vs ++ dvs) H Q E) : wpAny (model X.prog X.w) X.A (call (.ref f) us) (EP X pins σ Q) X.xe s := by
  have r2 : Vals (vs ++ dvs) (us ++ ds) := r.append hd
  have hl : (us ++ ds).length = ps.length := r2.length.symm.trans (F.len _ _ _ _ h)
  have go := F.run X.A X.stack s H ⟨us, []⟩ (us ++ ds) (vs ++ dvs) Q E hG hr I.env0 (hb s us I.kIn hl) r2 h
  refine wpAny_call (codeAny_mono go ?_)
  intro r s' hq
  match r, hq with
  | .error e, hq => exact hx pins σ H s e s' I hq
  | .ok (.ret u), hq => exact I.after hq
  | .ok .next, hq => exact hq.elim
  | .ok .brk, hq => exact hq.elim
  | .ok .cont, hq => exact hq.elim
/-- f(e, ..) for such a def -/
theorem pe_callG (F : OkG X.prog X.w X.K X.mg X.base CX k f fd ps sp) (hG : X.A.guards = some []) (hr : Room k X.A) (hg : Gl X x)
    (hm : X.mg x = some (.ref f)) (hk : PySem.W.keepIn X.K (.ref f) = true) (hb : Binds X.K fd ps ds) (hd : Vals dvs ds)
    (hx : Passes CX X E) (ha : PA X (e :: es) t) (hdb : (x == ("__debug__" : Str)) = false := by decide)
    (he : starEach (e :: es) X.env = (false, eval e X.env) :: starEach es X.env := by rfl)
    (hpl : (backTo pos (starEach es X.env)).any (·.1) = false := by rfl) :
    PE X (.Call (.Name x p) (e :: es) [] pos) (tCall sp dvs E t) := by
  constructor
  intro pins s σ H Q I h
  apply wpAny_Call_Name_kw
  refine ld_glob I hg hm ?_ hdb
  refine PySem.W.callWith_K (h₀ := X.base) I.ok.mod.kin hk (thn (ha.run pos pins s σ H _ I h) ?_) he hpl
  rintro us s1 ⟨vs, H1, I1, r, q⟩
  exact ⟨I1.kIn, runG F hG hr hb hd hx I1 r q⟩
theorem pe_call0G (F : OkG X.prog X.w X.K X.mg X.base CX k f fd ps sp) (hG : X.A.guards = some []) (hr : Room k X.A) (hg : Gl X x)
    (hm : X.mg x = some (.ref f)) (hk : PySem.W.keepIn X.K (.ref f) = true) (hb : Binds X.K fd ps ds) (hd : Vals dvs ds)
    (hx : Passes CX X E) (hdb : (x == ("__debug__" : Str)) = false := by decide) :
    PE X (.Call (.Name x p) [] [] pos) (tCall sp dvs E tNil) := by
  constructor
  intro pins s σ H Q I h
  apply wpAny_Call_Name_kw
  refine ld_glob I hg hm ?_ hdb
  exact PySem.W.callWith_K0 I.kIn hk (runG (us := []) F hG hr hb hd hx I .nil h)

/-- repr of data -/
theorem cr_repr (hG : X.A.guards = some []) (hu : X.A.units + 64 < cLine) : CallR X (.builtin "repr") (fun xs H Q => ∃ v d, xs = [v] ∧ Dp X.K H v d ∧
    d.showable = true ∧ d.hasDict = false ∧ d.depth ≤ 60 ∧ d.shown.length ≤ sizeLine ∧ Q (.str d.shown) H) := by
  intro pins s σ H xs us Q I r h
  obtain ⟨v, d, rfl, hd, hs, hn, hdep, hz, q⟩ := h
  obtain ⟨u, rfl, ru⟩ : ∃ u, us = [u] ∧ RelV v u := by
    cases r with
    | cons a b => cases b with | nil => exact ⟨_, rfl, a⟩
  obtain ⟨as, rd⟩ := Dp.reads I d v u hd ru
  cases hd with
  | non => cases ru; exact PySem.P.repr_of_none ⟨.str _, H, I.tok _, ⟨_, rfl⟩, q⟩
  | bl b => cases ru; exact PySem.P.repr_of_bool ⟨.str _, H, I.tok _, ⟨_, rfl⟩, q⟩
  | int i =>
    obtain ⟨t, rfl⟩ := ru
    refine PySem.P.repr_of_int ?_ ⟨.str _, H, I.tok _, ⟨_, rfl⟩, q⟩
    simpa [PyData.showable] using hs
  | str z =>
    obtain ⟨t, rfl⟩ := ru
    exact PySem.P.repr_of_str ⟨.str _, H, I.tok _, ⟨_, rfl⟩, q⟩ hz
  | lst h1 h2 =>
    cases ru
    refine repr_of_reads' rd hs (by rw [hn]; intro z; cases z) hG (by omega) (fun _ _ e => e) ?_ hz
    intro h' u' tk hk
    exact ⟨.str _, H, I.kept hk, ⟨_, rfl⟩, q⟩
  | tup h1 h2 =>
    cases ru
    refine repr_of_reads' rd hs (by rw [hn]; intro z; cases z) hG (by omega) (fun _ _ e => e) ?_ hz
    intro h' u' tk hk
    exact ⟨.str _, H, I.kept hk, ⟨_, rfl⟩, q⟩
end

/-! ### the end: the law's call, where no repr is under way -/
theorem old_of {P : Program} {w : World} {H H' : Hp} {h h' : Heap} (hO : Only H) (un : Un (frs []) [] H H' h h') (ok : HOk P w H h) (ok' : HOk P w H' h') : OldK h h' := by
  apply OldK.of_keep
  intro b o e
  rcases hO b with z | ⟨ob, xs, z⟩
  · exact un.keep b o e z (by intro q; cases q) (by intro q; cases q)
  · have k1 := (ok b _ z).1
    have k2 := (ok' b _ (un.frzs b ob _ z)).1
    rw [e] at k1
    cases k1
    exact k2
theorem call_lawG {P : Program} {w : World} {K : PySem.W.Frag} {mg mb : Str → Option Value} {CX : CXT} {k : Nat} {fa a : Addr} {fd : FuncData}
    {x : Str} {sp : Sp} {s : Shared} {vs : List Value} {ns : List Int} (KX : K.In s.heap) (gl : s.heap.Ns mainGlobals mg)
    (bl : s.heap.Ns builtinsNs mb) (hbb : ∀ x : Str, x ≠ "__name__" → mb x = bootBuiltins x) (lim : s.heap.NoLimit) (gens : s.gens = #[])
    (ha : s.heap.get? a = some { cls := .type "list", data := .seq vs.toArray }) (hi : IntsAre vs ns) (hl : ns.length ≤ sizeLine)
    (hr : Room k callerA) (F : ∀ base : Heap, K.In base → base.Ns mainGlobals mg → OkG P w K mg base CX k fa fd [x] sp)
    (bind : ∀ (s : Shared) (u : Value), BindsTo s fd ⟨[u], []⟩ [(x, u)])
    (hsp : ∀ H : Hp, SqL K H a (ns.map V.int) → sp [.ref a] H (fun v _ => v = .bl true) fun _ _ _ => False)
    (hCX : ∀ H e s', CX [] H s (fun _ _ _ => False) e s' → False) :
    codeAny (model P w) callerA (.call (.ref fa) ⟨[.ref a], []⟩)
      (fun r s' => r = .ok (.ret (.bool true)) ∧ OldK s.heap s'.heap ∧ s'.os = s.os ∧ AllBare s'.gens) s := by
  have rv := vals_ints hi
  have core : ∀ H : Hp, Only H → SqL K H a (ns.map V.int) → HOk P w H s.heap → (∀ b, H b ≠ none → b = a) → (H a ≠ none → K.lookup a = none) →
      codeAny (model P w) callerA (.call (.ref fa) ⟨[.ref a], []⟩)
        (fun r s' => r = .ok (.ret (.bool true)) ∧ OldK s.heap s'.heap ∧ s'.os = s.os ∧ AllBare s'.gens) s := by
    intro H hO hS ok hA hK
    -- what is no list is not tracked
    have free : ∀ {b : Addr} {o : Obj}, s.heap.get? b = some o → (b = a → H a = none) → H b = none := by
      intro b o _ z
      by_cases q : H b = none
      · exact q
      · have e := hA b q
        rw [e]
        exact z e
    have ns' : ∀ {b : Addr} {m : Str → Option Value}, s.heap.Ns b m → (hidT s.heap H).Ns b m := by
      rintro b m ⟨o, es, ep, e, d, r⟩
      refine ⟨o, es, ep, hidT_get e (free e fun q => ?_), d, r⟩
      subst q
      rw [ha] at e
      cases e
      cases d
    have hKb : K.In (hidT s.heap H) := by
      intro b o e
      refine hidT_get (KX b o e) (free (KX b o e) fun q => ?_)
      subst q
      by_cases z : H b = none
      · exact z
      · rw [hK z] at e
        cases e
    have hM : Mod K mg (hidT s.heap H) := by
      obtain ⟨mc, h1, h2⟩ := lim
      exact ⟨hKb, ns' gl, ⟨mb, ns' bl, hbb⟩, ⟨mc, ns' h1, h2⟩⟩
    have e0 : Env0 P w K mg (hidT s.heap H) callerA [] s H := by
      refine ⟨rfl, hM, fun b o e => of_hidT e, Nat.le_of_eq (hidT_size _ _), trivial, ?_, ok, .of_eq gens⟩
      intro b hb
      cases (show b ∈ ([] : List Addr) from hb)
    have go := (F _ hKb (ns' gl)).run callerA [] s H ⟨[.ref a], []⟩ [.ref a] [.ref a] (fun v _ => v = .bl true) (fun _ _ _ => False)
      rfl hr e0 (bind s (.ref a)) (.cons rfl .nil) (hsp H hS)
    refine codeAny_mono go ?_
    intro r s' h
    match r, h with
    | .error e, h => exact (hCX H e s' h).elim
    | .ok .next, h => exact h.elim
    | .ok .brk, h => exact h.elim
    | .ok .cont, h => exact h.elim
    | .ok (.ret u), h =>
      obtain ⟨v, H', os, bare, un, ok', r', q⟩ := h
      cases (show v = .bl true from q)
      cases (show u = Value.bool true from r')
      exact ⟨rfl, old_of hO un ok ok', os, bare⟩
  by_cases hk : K.lookup a = none
  · refine core (upd (fun _ => none) a (.frz { cls := .type "list", data := .seq vs.toArray } (.lst (ns.map V.int)))) ?_ (.inl (.inr ⟨_, upd_same⟩)) ?_ ?_ fun _ => hk
    · intro b
      by_cases hb : b = a
      · subst hb
        exact .inr ⟨_, _, upd_same⟩
      · exact .inl (upd_ne hb)
    · intro b u z
      by_cases hb : b = a
      · subst hb
        rw [upd_same] at z
        cases z
        exact ⟨ha, by rw [List.length_map]; exact hl, vs, _, rv, ha⟩
      · rw [upd_ne hb] at z
        cases z
    · intro b z
      by_cases hb : b = a
      · exact hb
      · exact absurd (upd_ne hb) z
  · obtain ⟨o, ho⟩ := Option.ne_none_iff_exists'.mp hk
    have e := KX a o ho
    rw [ha] at e
    cases e
    have lenV := hi.length
    refine core (fun _ => none) (fun _ => .inl rfl) (.inr ⟨_, vs.toArray, _, ho, rfl, rfl, rfl, ?_, ?_⟩) ?_ ?_ ?_
    · rw [List.size_toArray, lenV]
      exact hl
    · simpa using rv
    · intro b u z
      cases (show (none : Option HO) = some u from z)
    · intro b z
      exact absurd rfl z
    · intro z
      exact absurd rfl z
theorem walkG {l : PySem.W.OpenLaw} {n k : Nat} {q : Program} {loose : List Str} {XP : (Str → Option Value) → Heap → Prop}
    {YP : World → Heap → Prop} {d : DefRec} {K : Params → PySem.W.Frag} {CX : World → CXT} {sp : World → Sp} {x : Str}
    (hn : l.most = some n) (hn2 : n ≤ sizeLine) (hdf : d.params.defaults = []) (hr : Room k callerA)
    (hY : ∀ (w : World) (h : Heap), YP w h → (K w.params).In h)
    (F : ∀ (w : World) (mg : Str → Option Value) (fa : Addr) (h : Heap), (K w.params).In h → h.Ns mainGlobals mg →
      mg d.name = some (.ref fa) → ∃ fd : FuncData, (∀ (s : Shared) (u : Value), BindsTo s fd ⟨[u], []⟩ [(x, u)]) ∧
        ∀ base : Heap, (K w.params).In base → base.Ns mainGlobals mg → OkG l.prog w (K w.params) mg base (CX w) k fa fd [x] (sp w))
    (hsp : ∀ (w : World) (H : Hp) (a : Addr) (ns : List Int), ns.length ≤ n → (∀ z ∈ ns, Builtin.Int.intBits z ≤ 1048576) →
      SqL (K w.params) H a (ns.map V.int) → sp w [.ref a] H (fun v _ => v = .bl true) fun _ _ _ => False)
    (hCX : ∀ (w : World) (H : Hp) (s : Shared) (e : Value) (s' : Shared), CX w [] H s (fun _ _ _ => False) e s' → False) :
    PySem.W.WalkO q loose XP YP l.row.toRowW d [] (fun f vs => PySem.call f vs) := by
  refine Att.attach_callB hn hdf ?_
  intro w s₀ s₁ mg mb fa o pm cd doc a vs ns G Y ho hd hcd hmg hobj hints hlen hbits hg
  obtain ⟨fd, hb, hF⟩ := F w mg fa _ (hY w _ Y) G.T.g hmg
  exact call_lawG (hY w _ Y) G.T.g G.T.b G.T.builtins G.T.nolimit hg hobj hints (Nat.le_trans hlen hn2) hr hF hb
    (fun H hS => hsp w H a ns hlen hbits hS) (fun H e s' => hCX w H s₁ e s')
end Hv

namespace Hv
open PySem PySem.Spec PyProof.Rows L2
section
variable {X : Cx} {o e : Expr} {to te : TE}
/-- a text's method of one argument; its receiver wants a token -/
theorem pet_m1 {id : String} {name : Str} {apos pos : Pos} {r : V → List V → Hp → VK → Prop} (slot : Slot "str" name id)
    (ty : typeOf (.builtin id) = pure (.type "method_descriptor")) (rule : MtR X id r) (ho : PET X o to) (he : PE X e te)
    (hs : starEach [e] X.env = [(false, eval e X.env)] := by rfl) (hbase : attributeBase o name X.env (eval o X.env) = eval o X.env := by rfl)
    (hline : (apos.endLine == pos.line) = true := by rfl) : PET X (.Call (.Attribute o name apos) [e] [] pos) (tM1 r to te) := by
  intro pins s σ H Q h0 I h
  apply PySem.Call_method1 hbase hs hline
  apply thn (ho pins s σ H _ h0 I h)
  rintro v s1 ⟨x, H1, I1, r1, ⟨a, rfl⟩, q1⟩
  obtain ⟨t, rfl⟩ := _root_.id r1
  refine ⟨"str", _, F.plainAttrs_str, slot, ty, typeIs_str _ _ _, (fun _ e => nomatch e), ?_⟩
  refine Calls.callWith_builtin rfl (Calls.evalArgs_plain (Calls.spliced_cons (thn (he.run pins s1 σ H1 _ I1 q1) ?_)))
  rintro u s2 ⟨y, H2, I2, r2, q2⟩
  exact Calls.spliced_nil (rule pins s2 σ H2 _ [y] _ [u] Q I2 r1 (.cons r2 .nil) q2)
theorem pst_asg {tg : Expr} {g : TG} {pos : Pos} (he : PET X e te) (hg : PG X tg g) (hs : swapsWithSole [tg] e pos.line X.env = pure false := by rfl)
    (hw : swappedStores [tg] e X.env = pure none := by rfl) (h1 : (assignEach [tg] X.env).map (·.2) = [assign tg X.env] := by rfl) :
    PST X (.Assign [tg] e pos) (tAsg te g) := by
  intro pins s σ H D h0 I h
  refine wpAny_Assign_stores (thn (he pins s σ H _ h0 I h) ?_) hs hw
  rintro v s1 ⟨x, H1, I1, r1, q1⟩
  rw [h1]
  exact thn (hg.run pins s1 σ H1 x v _ I1 r1 q1) fun _ s2 q => q
/-- f(k = v, ..), no positional argument -/
theorem pe_callK0 {CX : CXT} {k : Nat} {f : Addr} {fd : FuncData} {ps ks : List Str} {sp : Sp} {E : XK} {x : Str} {p pos : Pos} {kws : List Keyword} {tk : TA}
    {g : List Value → List Value → List Value} {gV : List V → List V → List V} (F : FnOk X.prog X.w X.K X.mg X.base CX k f fd ps sp) (hr : Room k X.A) (hg : Gl X x)
    (hm : X.mg x = some (.ref f)) (hk : PySem.W.keepIn X.K (.ref f) = true) (hb : KBinds X.K fd ps ks g gV) (hx : Passes CX X E) (hkw : PK X kws tk)
    (hall : (backToKw pos (keywordEach kws X.env)).all (·.1.isSome) = true := by rfl) (hks : (backToKw pos (keywordEach kws X.env)).filterMap (·.1) = ks := by rfl)
    (hdb : (x == ("__debug__" : Str)) = false := by decide)
    (hpl : ((backTo pos (starEach [] X.env)).any (·.1) || (backToKw pos (keywordEach kws X.env)).any (·.1.isNone)) = false := by rfl) :
    PE X (.Call (.Name x p) [] kws pos) (tCallK sp gV E tNil tk) := by
  constructor
  intro pins s σ H Q I h
  apply wpAny_Call_Name_kw
  refine ld_glob I hg hm ?_ hdb
  refine PySem.W.callWith_KW0 (h₀ := X.base) I.ok.mod.kin hk hall ?_ hpl
  apply thn (hkw.run pos pins s σ H _ I h)
  rintro ws s2 ⟨zs, H2, I2, rz, q2⟩
  rw [hks]
  exact ⟨I2.kIn, run_fnk (us := []) F hr hb hx I2 .nil rz q2⟩
/-- repr of a truth value -/
theorem cr_reprB : CallR X (.builtin "repr") (fun xs H Q => ∃ b, xs = [.bl b] ∧ Q (.str (if b then "True" else "False")) H) := by
  intro pins s σ H xs us Q I r h
  obtain ⟨b, rfl, q⟩ := h
  cases r with
  | cons a t =>
    cases t
    cases a
    exact PySem.P.repr_of_bool ⟨.str _, H, I.tok _, ⟨_, rfl⟩, q⟩
end
section
variable {P : Program} {w : World} {K : PySem.W.Frag} {mg : Str → Option Value} {base : Heap} {CX : CXT} {k : Nat} {f : Addr} {fd : FuncData} {ps : List Str} {sp : Sp}
/-- the rule for a def without cells: a token is out when its body begins -/
theorem okT {x qual : Str} {st : Stmt} {N : List Str} (F : Fun K x qual st f fd) (S : FnScope N ps (defScope st)) (hnc : ∀ y ∈ (defScope st).names, y.2 ≠ .cell) (hps : 1 ≤ ps.length)
    (len : ∀ vs H Q E, sp vs H Q E → vs.length = ps.length)
    (body : ∀ (cdv : Value) (A : Around) (outer : List Env) (s : Shared) (H : Hp) (vs : List V) (Q : VK) (E : XK),
      Room k (A.deeper (envOfC qual (defScope st) s.heap.objs.size f cdv)) → sp vs H Q E →
      ∃ t, PSsT (cxOf CX P w K mg base N qual (defScope st) f cdv A outer s H E) (defBody st) t ∧ t { nx := fun _ H' => Q .non H', rt := Q } (start N vs) H) :
    FnOk P w K mg base CX (k + 1) f fd ps sp := by
  obtain ⟨oc, od, kV, doc, pm, an, cdv, ct, osl, rfl, lk, hcd⟩ := F.ex
  exact fn_ofT lk hcd S hnc hps len fun A outer s H vs Q E hr hsp => body cdv A outer s H vs Q E hr hsp
end
end Hv

namespace Hv
open PySem L2

theorem dT {p : Prop} [Decidable p] (h : decide p = true) : p := of_decide_eq_true h
theorem dF {p : Prop} [Decidable p] (h : ¬ decide p = true) : ¬ p := fun q => h (decide_eq_true q)
theorem nT {p : Prop} [Decidable p] (h : (!decide p) = true) : ¬ p := fun q => by
  rw [decide_eq_true q] at h
  cases h
theorem nF {p : Prop} [Decidable p] (h : ¬ (!decide p) = true) : p := by
  by_cases q : p
  · exact q
  · exact absurd (by rw [decide_eq_false q]; rfl) h

theorem ifT {p : Prop} [Decidable p] {A B : Prop} (hp : p) (h : A) : if decide p = true then A else B := by
  rw [if_pos (decide_eq_true hp)]
  exact h
theorem ifF {p : Prop} [Decidable p] {A B : Prop} (hp : ¬ p) (h : B) : if decide p = true then A else B := by
  rw [if_neg (fun q => hp (of_decide_eq_true q))]
  exact h
theorem ifNT {p : Prop} [Decidable p] {A B : Prop} (hp : ¬ p) (h : A) : if (!decide p) = true then A else B := by
  rw [decide_eq_false hp]
  exact h
theorem ifNF {p : Prop} [Decidable p] {A B : Prop} (hp : p) (h : B) : if (!decide p) = true then A else B := by
  rw [decide_eq_true hp]
  exact h

/-- a value's reading by what holds behind it -/
theorem join_te {te : TE} {σ : L2.St} {H : Hp} {Q : VK} (S : V → Hp → Prop) (h : ∀ Q' : VK, (∀ v H', S v H' → Q' v H') → te σ H Q') (k : ∀ v H', S v H' → Q v H') : te σ H Q := h Q k

theorem join_asg {te : TE} {g : TG} {u : TS} {D : Ends} {σ : L2.St} {H : Hp} (S : V → Hp → Prop) (h : ∀ Q' : VK, (∀ v H', S v H' → Q' v H') → te σ H Q')
    (k : ∀ v H', S v H' → g v σ H' (u D)) : tSeq (tAsg te g) u D σ H := h _ k

theorem join_ifs {tt : TT} {t u v : TS} {D : Ends} {σ : L2.St} {H : Hp} (S : Bool → Hp → Prop) (h : ∀ Q' : Bool → Hp → Prop, (∀ b H', S b H' → Q' b H') → tt σ H Q')
    (k : ∀ b H', S b H' → if b = true then t { D with nx := v D } σ H' else u { D with nx := v D } σ H') : tSeq (tIfS tt t u) v D σ H := h _ k
/-- both ways of an if come to the same -/
theorem join_if {c : Bool} {A B R : Prop} (hB : c = false → R → B) (hA : c = true → R → A) (r : R) : if c = true then A else B := by
  cases c with
  | true => exact hA rfl r
  | false => exact hB rfl r

structure DefAt (K : PySem.W.Frag) (mg : Str → Option Value) (x : Str) (st : Stmt) (ps : List Str) (f : Addr) (fd : FuncData) : Prop where
  fn : Fun K x x st f fd
  mg : mg x = some (.ref f)
  bd : Binds K fd ps []
/-- what the top has left of a def -/
def DefIn (K : PySem.W.Frag) (x : Str) (st : Stmt) : Prop :=
  ∃ (f : Addr) (oc : Value) (od : Option Addr) (kV doc pm : Value) (an : Option Addr) (cd ct : Value) (sl : Array (Option Value)),
    PySem.W.nsIn K mainGlobals x = some (some (.ref f)) ∧
    K.lookup f = some ⟨oc, od, .func (PySem.W.fnOf x x (defArgs st) (defBody st) (defScope st) .none kV doc pm an cd ct), sl⟩ ∧
    PySem.W.codeIn K cd x = true ∧ PySem.W.keepIn K (.ref f) = true
theorem defIn_mk {K : PySem.W.Frag} {x : Str} {st : Stmt} {f : Addr} {oc : Value} {od : Option Addr} {kV doc pm : Value} {an : Option Addr} {cd ct : Value} {sl : Array (Option Value)}
    (a : PySem.W.nsIn K mainGlobals x = some (some (.ref f)))
    (l : K.lookup f = some ⟨oc, od, .func (PySem.W.fnOf x x (defArgs st) (defBody st) (defScope st) .none kV doc pm an cd ct), sl⟩)
    (c : PySem.W.codeIn K cd x = true) (k : PySem.W.keepIn K (.ref f) = true) : DefIn K x st :=
  ⟨f, oc, od, kV, doc, pm, an, cd, ct, sl, a, l, c, k⟩
theorem constIn_mk {K : PySem.W.Frag} {x : Str} {C : Value → Prop} {v : Value} (a : PySem.W.nsIn K mainGlobals x = some (some v)) (c : C v) : ∃ v, PySem.W.nsIn K mainGlobals x = some (some v) ∧ C v := ⟨v, a, c⟩
theorem DefIn.at {K : PySem.W.Frag} {mg : Str → Option Value} {h : Heap} {x : Str} {st : Stmt} {ps : List Str} (d : DefIn K x st) (X : K.In h) (G : h.Ns mainGlobals mg)
    (hb : ∀ (kV doc pm : Value) (an : Option Addr) (cdv ct : Value) (us : List Value), us.length = ps.length →
      bindArgs (PySem.W.fnOf x x (defArgs st) (defBody st) (defScope st) .none kV doc pm an cdv ct) ⟨us, []⟩ = pure (ps.zip us)) :
    ∃ f fd, DefAt K mg x st ps f fd := by
  obtain ⟨f, oc, od, kV, doc, pm, an, cd, ct, sl, a, l, c, k⟩ := d
  have F := fun_mk (st := st) l c k
  exact ⟨f, _, F, PySem.W.mg_of X G a, F.binds hb⟩

/-- the draws' bag: three ints, the second one from 0 on and not beyond the script's bits, the third at most k -/
def Bag (H : Hp) (b : Addr) (k : Nat) : Prop :=
  ∃ s d n : Int, H b = some (.lst [.int s, .int d, .int n]) ∧ 0 ≤ d ∧ Builtin.Int.intBits d ≤ 1048576 ∧ 0 ≤ n ∧ n ≤ k
theorem Bag.mono {H : Hp} {b : Addr} {j k : Nat} (h : Bag H b j) (le : j ≤ k) : Bag H b k := by
  obtain ⟨s, d, n, h1, h2, h3, h4, h5⟩ := h
  exact ⟨s, d, n, h1, h2, h3, h4, by omega⟩
theorem Bag.same {H H' : Hp} {b : Addr} {k : Nat} (h : Bag H b k) (e : Same H H') : Bag H' b k := by
  obtain ⟨s, d, n, h1, h2⟩ := h
  exact ⟨s, d, n, e _ _ h1, h2⟩
theorem Bag.ne_none {H : Hp} {b p : Addr} {k : Nat} (h : Bag H b k) (hp : H p = none) : p ≠ b := by
  obtain ⟨s, d, n, h1, _⟩ := h
  exact (ne_of_none h1 hp).symm
/-- all that is tracked but b stays -/
def But (b : Addr) (H H' : Hp) : Prop := ∀ a o, a ≠ b → H a = some o → H' a = some o
theorem But.refl {b : Addr} {H : Hp} : But b H H := fun _ _ _ h => h
theorem But.trans {b : Addr} {H H1 H2 : Hp} (x : But b H H1) (y : But b H1 H2) : But b H H2 := fun a o n h => y a o n (x a o n h)
theorem But.put {b : Addr} {H H1 : Hp} {o : HO} (x : But b H H1) : But b H (upd H1 b o) := fun a u n h => by
  rw [upd_ne n]; exact x a u n h
theorem But.new {b p : Addr} {H H1 : Hp} {o : HO} (x : But b H H1) (hp : H1 p = none) : But b H (upd H1 p o) := fun a u n h => by
  have q := x a u n h
  rw [upd_ne (ne_of_none q hp)]; exact q
theorem But.of {b : Addr} {H H' : Hp} (e : Same H H') : But b H H' := fun a o _ h => e a o h
theorem But.seq {b a : Addr} {K : PySem.W.Frag} {H H' : Hp} {xs : List V} (e : But b H H') (n : a ≠ b) (h : SqL K H a xs) : SqL K H' a xs := by
  rcases h with (h | ⟨o, h⟩) | h
  · exact .inl (.inl (e _ _ n h))
  · exact .inl (.inr ⟨o, e _ _ n h⟩)
  · exact .inr h
theorem same_new {H : Hp} {p : Addr} {o : HO} (hp : H p = none) : Same H (upd H p o) := fun a u e => by
  rw [upd_ne (ne_of_none e hp)]; exact e
theorem But.free {b p : Addr} {H H' : Hp} (e : But b H H') (n : p ≠ b) (h : H' p = none) : H p = none := by
  cases q : H p with
  | none => rfl
  | some o =>
    rw [e p o n q] at h
    cases h

/-- changes at places that H did not know -/
theorem same_but {H H1 H2 : Hp} {b : Addr} (s : Same H H1) (hb : H b = none) (e : But b H1 H2) : Same H H2 := fun a o h =>
  e a o (ne_of_none h hb) (s a o h)
theorem same_put {H H1 : Hp} {b : Addr} {o : HO} (s : Same H H1) (hb : H b = none) : Same H (upd H1 b o) := fun a u h => by
  rw [upd_ne (ne_of_none h hb)]
  exact s a u h
theorem Bag.put {H : Hp} {b p : Addr} {k : Nat} {o : HO} (h : Bag H b k) (n : p ≠ b) : Bag (upd H p o) b k := by
  obtain ⟨s, d, m, h1, h2⟩ := h
  exact ⟨s, d, m, by rw [upd_ne n.symm]; exact h1, h2⟩
theorem log2_mono {a b : Nat} (h : a ≤ b) : a.log2 ≤ b.log2 := by
  by_cases h0 : a = 0
  · subst h0
    rw [Nat.log2_zero]
    exact Nat.zero_le _
  · have h1 := Nat.log2_self_le h0
    exact (Nat.le_log2 (by omega)).mpr (Nat.le_trans h1 h)
theorem bits_mono {a b : Int} (h : a.natAbs ≤ b.natAbs) : Builtin.Int.intBits a ≤ Builtin.Int.intBits b := by
  unfold Builtin.Int.intBits
  have := log2_mono h
  by_cases h0 : a = 0
  · rw [if_pos (by rw [h0]; rfl)]
    exact Nat.zero_le _
  · by_cases h1 : b = 0
    · subst h1
      simp at h
      exact absurd h h0
    · rw [if_neg (by simpa using h0), if_neg (by simpa using h1)]
      omega
theorem bits_div {d m : Int} (h0 : 0 ≤ d) (hm : 0 < m) (h : Builtin.Int.intBits d ≤ 1048576) : Builtin.Int.intBits (d / m) ≤ 1048576 := by
  refine Nat.le_trans (bits_mono ?_) h
  have h1 : 0 ≤ d / m := Int.ediv_nonneg h0 (by omega)
  have h2 : d / m ≤ d := Int.ediv_le_self _ h0
  omega
theorem bits_small {n : Int} (h : n.natAbs < 2 ^ 1000) : Builtin.Int.intBits n ≤ 1048576 := by
  unfold Builtin.Int.intBits
  split
  · decide
  · by_cases h0 : n.natAbs = 0
    · rw [h0]
      decide
    · have := (Nat.log2_lt h0).mpr h
      omega
theorem pylong_no {d m : Int} (h : m.natAbs < 2 ^ 1000) : Builtin.divisionGoesByPylong d m = false := by
  unfold Builtin.divisionGoesByPylong
  rw [Bool.and_eq_false_iff]
  left
  rw [decide_eq_false_iff_not]
  dsimp only
  split
  · decide
  · rename_i hz
    have h0 : m.natAbs ≠ 0 := by
      intro q
      apply hz
      rw [beq_iff_eq]
      omega
    have := (Nat.log2_lt h0).mpr h
    omega
theorem m_small {m : Int} (h0 : 0 ≤ m) (h : m ≤ 10 ^ 41) : m.natAbs < 2 ^ 1000 := by
  have e : (10 : Nat) ^ 41 < 2 ^ 1000 := by decide +kernel
  have : m.natAbs ≤ 10 ^ 41 := by omega
  exact Nat.lt_of_le_of_lt this e
/-- a number of the script, or one mixed of its first ones -/
def sp_seed (K : PySem.W.Frag) : Sp := fun vs H Q _ => ∃ (a : Addr) (ns : List Int) (k : Int), vs = [.ref a, .int k] ∧ SqL K H a (ns.map V.int) ∧
  (∀ z ∈ ns, Builtin.Int.intBits z ≤ 1048576) ∧ 0 ≤ k ∧ k < 1000 ∧ ∀ (n : Int) (H' : Hp), Same H H' → Builtin.Int.intBits n ≤ 1048576 → Q (.int n) H'
def sp_bag : Sp := fun vs H Q _ => ∃ (n : Int), vs = [.int n] ∧ Builtin.Int.intBits n ≤ 1048576 ∧
  ∀ (p : Addr) (H' : Hp), H p = none → Same H H' → Bag H' p 0 → Q (.ref p) H'
/-- a draw below m -/
def sp_take : Sp := fun vs H Q _ => ∃ (b : Addr) (m : Int) (k : Nat), vs = [.ref b, .int m] ∧ Bag H b k ∧ k < 1000000 ∧ 0 < m ∧ m.natAbs < 2 ^ 1000 ∧
  ∀ (r : Int) (H' : Hp), But b H H' → Bag H' b (k + 1) → 0 ≤ r → r < m → Q (.int r) H'
end Hv

namespace Hv
open PySem PySem.Spec PyProof.Rows L2 SlX
/-- what + asks of the class at C: its defs for __add__ at f, __radd__ at g -/
structure AddO (K : PySem.W.Frag) (C f g : Addr) : Prop where
  sf : PySem.W.selfFirst K C = true
  add : PySem.W.findIn K (.ref C) (PySem.dunder "add") = some (some (.ref f))
  fa : PySem.W.isFn K (.ref f) = true
  radd : PySem.W.findIn K (.ref C) (dunderR "add") = some (some (.ref g))
  fr : PySem.W.isFn K (.ref g) = true
  i1 : PySem.W.findIn K (.type "int") (PySem.dunder "add") = some (some (.builtin "int.__add__"))
  i2 : PySem.W.findIn K (.type "int") (dunderR "add") = some (some (.builtin "int.__radd__"))
  s1 : PySem.W.subIn K (.type "int") (.ref C) = some false
  s2 : PySem.W.subIn K (.ref C) (.type "int") = some false
section
variable {X : Cx} {CX : CXT} {n : Nat} {C f g : Addr} {sp : Sp} {E : XK}
def rAddO (C : Addr) (sp : Sp) (E : XK) : R2 := fun x y H Q => ∃ a dx vs, x = .ref a ∧ Slt H a C dx vs ∧ ((∃ b dy ws, y = .ref b ∧ Slt H b C dy ws) ∨ ∃ i, y = .int i) ∧ sp [x, y] H Q E
theorem op_addO (c : AddO X.K C f g) (F : FnR X.prog X.w X.K X.mg X.base CX n f sp) (hr : Room n X.A) (hx : Passes CX X E) : OpR X (binaryOp .Add) (rAddO C sp E) := by
  intro pins s σ H x y v u Q I rx ry h
  obtain ⟨a, dx, vs, rfl, ha, hy, q⟩ := h
  cases (show v = Value.ref a from rx)
  obtain ⟨sl, od, _, J, _⟩ := slt_inst I ha
  obtain ⟨m, hF⟩ := I.fr
  have back : ∀ {y : V} {u : Value}, RelV y u → sp [.ref a, y] H Q E → wpAny (model X.prog X.w) X.A (call (.ref f) [.ref a, u]) (PySem.W.CmpBack (EP X pins σ Q)) X.xe s := by
    intro y u ry q
    refine wpAny_mono (wpAny_call (run_fnR (us := [.ref a, u]) (vs := [.ref a, y]) F hr hx I (.cons rfl (.cons ry .nil)) q)) ?_ fun _ _ z => z
    rintro w s' ⟨z', H', I', rz, qz⟩
    exact cmpback rz ⟨z', H', I', rz, qz⟩
  rcases hy with ⟨b, dy, ws, rfl, hb⟩ | ⟨i, rfl⟩
  · cases (show u = Value.ref b from ry)
    obtain ⟨sl', od', _, J', _⟩ := slt_inst I hb
    exact PySem.W.binop_K (op := .Add) hF I.ok.mod.kin J J'.type c.sf c.add c.fa (back (y := .ref b) rfl q)
  · obtain ⟨t, rfl⟩ := (show ∃ t, u = Value.int i t from ry)
    exact PySem.W.ksp_binT (op := .Add) (T := "int") hF I.ok.mod.kin J rfl c.sf c.add c.fa c.radd (.inr ⟨g, rfl⟩) c.i1 c.i2 c.s1 (back (y := .int i) ⟨t, rfl⟩ q)
/-- the int declines an instance -/
theorem int_add_no {x : Addr} {o : Obj} (hd : o.data = .plain) (a : Int) (t : Tok) : GivesAt (fun s => s.heap.get? x = some o) (Builtin.«int.__add__» ⟨[.int a t, .ref x], []⟩) (.val .notImplemented) := by
  intro prog w A R s hP h
  obtain ⟨hp, gs, d, tk, os⟩ := s
  obtain ⟨oc, od, dt, osl⟩ := o
  cases (show dt = .plain from hd)
  unfold Builtin.«int.__add__» Builtin.Int.intBinary
  refine wpAny_bind (wpAny_pure ?_)
  refine wpAny_bind (wpAny_pure ?_)
  refine wpAny_bind (m := asInt? (.ref x)) (wpAny_bind (wpAny_load hP ?_))
  exact wpAny_pure (wpAny_bind (wpAny_rule (wpAny_pure h)))
theorem binop_R {prog : Program} {w : World} {A : Around} {E : Value → Shared → Prop} {s : Shared} {K : PySem.W.Frag} {x L : Addr} {h₀ : Heap} {m : Str → Option Value} {ox : Obj} {od : Option Obj}
    {i : Int} {t : Tok} {Q : Value → Shared → Prop} (F : Fr h₀ L s.heap m) (X₀ : K.In h₀) (I : PySem.W.InstAt s.heap x ox C od) (hd : ox.data = .plain) (c : AddO K C f g)
    (h : wpAny (model prog w) A (call (.ref g) [.ref x, .int i t]) (PySem.W.CmpBack Q) E s) : wpAny (model prog w) A (binaryOp .Add (.int i t) (.ref x)) Q E s := by
  have X := X₀.keeps F.keep
  obtain ⟨cd, rest, hcd, hm⟩ := PySem.W.ksp_first c.sf
  have one := PySem.W.ksp_try X I c.radd c.fr h
  have L3 : PySem.W.Looks (model prog w) s.heap (fillsNumberSlot (.ref C) "add") true := PySem.W.fills_K X hcd hm c.add
  have L4 : PySem.W.Looks (model prog w) s.heap (fillsNumberSlot (.type "int") "add") true := PySem.W.ksp_fillsT X c.i1 c.i2
  have L5 : PySem.W.Looks (model prog w) s.heap (isSubtype (.ref C) (.type "int")) false := PySem.W.looks_subIn X c.s2
  have hne : (Value.type "int" == Value.ref C) = false := Bool.eq_false_iff.mpr fun q => by cases beq_iff_eq.mp q
  have hpy : numberSlotInPython (.type "int") "add" = pure false := rfl
  unfold binaryOp
  refine wpAny_holding (wpAny_bind ?_)
  show wpAny _ _ (binaryOp1 "add" (.int i t) (.ref x)) _ _ _
  unfold binaryOp1
  refine wpAny_bind (wpAny_typeOf (typeIs_int s i t) (wpAny_bind (I.type.here (wpAny_bind (L4.here ?_)))))
  simp only [hne, Bool.false_eq_true, if_false]
  refine wpAny_bind (L3.here ?_)
  simp only [Bool.and_self, if_true]
  refine wpAny_bind (L5.here ?_)
  simp only [Bool.false_eq_true, if_false, pure_bind, Bool.not_false, Bool.and_self, if_true, hpy]
  refine wpAny_bind (wpAny_tryMethod_declines (typeIs_int s i t) PySem.F.slot_int_add (call_givesAt PySem.F.slot_int_add (typeIs_int s i t) PySem.F.entry_int_add (PySem.F.args_int_add_2 _ _) (int_add_no hd i t) I.at_ ⟨rfl, ?_⟩))
  refine wpAny_bind (wpAny_mono one ?_ fun _ _ e => e)
  rintro r s' ⟨v, rfl, q⟩
  exact wpAny_bind (wpAny_rule (wpAny_pure (wpAny_pure q)))
def rRAddO (C : Addr) (sp : Sp) (E : XK) : R2 := fun x y H Q => ∃ i a dx vs, x = .int i ∧ y = .ref a ∧ Slt H a C dx vs ∧ sp [y, x] H Q E
theorem op_raddO (c : AddO X.K C f g) (F : FnR X.prog X.w X.K X.mg X.base CX n g sp) (hr : Room n X.A) (hx : Passes CX X E) : OpR X (binaryOp .Add) (rRAddO C sp E) := by
  intro pins s σ H x y v u Q I rx ry h
  obtain ⟨i, a, dx, vs, rfl, rfl, ha, q⟩ := h
  cases (show u = Value.ref a from ry)
  obtain ⟨t, rfl⟩ := (show ∃ t, v = Value.int i t from rx)
  obtain ⟨sl, od, _, J, _⟩ := slt_inst I ha
  obtain ⟨m, hF⟩ := I.fr
  refine binop_R hF I.ok.mod.kin J rfl c ?_
  refine wpAny_mono (wpAny_call (run_fnR (us := [.ref a, .int i t]) (vs := [.ref a, .int i]) F hr hx I (.cons rfl (.cons ⟨t, rfl⟩ .nil)) q)) ?_ fun _ _ z => z
  rintro w s' ⟨z', H', I', rz, qz⟩
  exact cmpback rz ⟨z', H', I', rz, qz⟩
/-- str(x), x an instance of the class at C whose __str__ is at f -/
def rStrO (C : Addr) (sp : Sp) (E : XK) : List V → Hp → VK → Prop := fun xs H Q => ∃ a dx vs, xs = [.ref a] ∧ Slt H a C dx vs ∧ sp [.ref a] H (fun z H' => ∃ y, z = .str y ∧ Q z H') E
theorem call_strO (hs : PySem.W.findIn X.K (.ref C) "__str__" = some (some (.ref f))) (hf : PySem.W.isFn X.K (.ref f) = true) (F : FnR X.prog X.w X.K X.mg X.base CX n f sp) (hr : Room (n + 2) X.A)
    (hx : Passes CX X E) : CallR X (.type "str") (rStrO C sp E) := by
  intro pins s σ H xs us Q I r h
  obtain ⟨a, dx, vs, rfl, ha, q⟩ := h
  obtain ⟨sl, od, _, J, _⟩ := slt_inst I ha
  cases r with
  | cons ra rt =>
    cases rt
    cases ra
    refine PySem.W.kso_call (by have := hr.un; show X.A.units + 1 + 1 < cLine; omega) I.kIn J hs hf ?_
    refine wpAny_mono (wpAny_call (run_at (us := [.ref a]) (ws := [.ref a]) F hr.in1.in1 I.env0.in1.in1 hx I (.cons rfl .nil) q)) ?_ fun _ _ z => z
    rintro w s' ⟨z', H', I', rz, y, rfl, qz⟩
    obtain ⟨t, rfl⟩ := (show ∃ t, w = Value.str y t from rz)
    exact ⟨.str y, H', I', ⟨t, rfl⟩, qz⟩
end
end Hv

namespace Hv
open PySem L2 SlX
/-- a def of a class as the top has left it -/
def MethIn (K : PySem.W.Frag) (C : Addr) (x qual : Str) (st : Stmt) : Prop :=
  ∃ (f : Addr) (oc : Value) (od : Option Addr) (kV doc pm : Value) (an : Option Addr) (cd ct : Value) (sl : Array (Option Value)),
    PySem.W.findIn K (.ref C) x = some (some (.ref f)) ∧ PySem.W.isFn K (.ref f) = true ∧
    K.lookup f = some ⟨oc, od, .func (PySem.W.fnOf x qual (defArgs st) (defBody st) (defScope st) .none kV doc pm an cd ct), sl⟩ ∧
    PySem.W.codeIn K cd qual = true ∧ PySem.W.keepIn K (.ref f) = true
theorem methIn_mk {K : PySem.W.Frag} {C : Addr} {x qual : Str} {st : Stmt} {f : Addr} {oc : Value} {od : Option Addr} {kV doc pm : Value} {an : Option Addr} {cd ct : Value} {sl : Array (Option Value)}
    (a : PySem.W.findIn K (.ref C) x = some (some (.ref f))) (i : PySem.W.isFn K (.ref f) = true)
    (l : K.lookup f = some ⟨oc, od, .func (PySem.W.fnOf x qual (defArgs st) (defBody st) (defScope st) .none kV doc pm an cd ct), sl⟩)
    (c : PySem.W.codeIn K cd qual = true) (k : PySem.W.keepIn K (.ref f) = true) : MethIn K C x qual st :=
  ⟨f, oc, od, kV, doc, pm, an, cd, ct, sl, a, i, l, c, k⟩
structure MethAt (K : PySem.W.Frag) (C : Addr) (x qual : Str) (st : Stmt) (ps : List Str) (f : Addr) (fd : FuncData) : Prop where
  at_ : PySem.W.findIn K (.ref C) x = some (some (.ref f))
  isf : PySem.W.isFn K (.ref f) = true
  fn : Fun K x qual st f fd
  bd : Binds K fd ps []
theorem MethIn.at {K : PySem.W.Frag} {C : Addr} {x qual : Str} {st : Stmt} {ps : List Str} (d : MethIn K C x qual st)
    (hb : ∀ (kV doc pm : Value) (an : Option Addr) (cdv ct : Value) (us : List Value), us.length = ps.length →
      bindArgs (PySem.W.fnOf x qual (defArgs st) (defBody st) (defScope st) .none kV doc pm an cdv ct) ⟨us, []⟩ = pure (ps.zip us)) :
    ∃ f fd, MethAt K C x qual st ps f fd := by
  obtain ⟨f, oc, od, kV, doc, pm, an, cd, ct, sl, a, i, l, c, k⟩ := d
  have F := fun_mk (st := st) l c k
  exact ⟨f, _, a, i, F, F.binds hb⟩
/-- a property of a class, its getter at g -/
structure PropK (K : PySem.W.Frag) (C : Addr) (x : Str) (g : Addr) : Prop where
  ex : ∃ p, PySem.W.findIn K (.ref C) x = some (some (.ref p)) ∧ PySem.W.specialIn K (.ref p) "__get__" = some (some (.builtin "property.__get__")) ∧
    PySem.W.takesIn K (.ref p) = some true ∧ ∃ rest, PySem.W.recIn K p "property" = some (.ref g :: rest)
def PropIn (K : PySem.W.Frag) (C : Addr) (x qual : Str) (st : Stmt) : Prop :=
  ∃ (g : Addr) (oc : Value) (od : Option Addr) (kV doc pm : Value) (an : Option Addr) (cd ct : Value) (sl : Array (Option Value)), PropK K C x g ∧
    K.lookup g = some ⟨oc, od, .func (PySem.W.fnOf x qual (defArgs st) (defBody st) (defScope st) .none kV doc pm an cd ct), sl⟩ ∧
    PySem.W.codeIn K cd qual = true ∧ PySem.W.keepIn K (.ref g) = true
theorem propIn_mk {K : PySem.W.Frag} {C p : Addr} {rest : List Value} {x qual : Str} {st : Stmt} {g : Addr} {oc : Value} {od : Option Addr} {kV doc pm : Value} {an : Option Addr} {cd ct : Value} {sl : Array (Option Value)}
    (a : PySem.W.findIn K (.ref C) x = some (some (.ref p))) (b : PySem.W.specialIn K (.ref p) "__get__" = some (some (.builtin "property.__get__"))) (t : PySem.W.takesIn K (.ref p) = some true)
    (r : PySem.W.recIn K p "property" = some (.ref g :: rest))
    (l : K.lookup g = some ⟨oc, od, .func (PySem.W.fnOf x qual (defArgs st) (defBody st) (defScope st) .none kV doc pm an cd ct), sl⟩)
    (c : PySem.W.codeIn K cd qual = true) (k : PySem.W.keepIn K (.ref g) = true) : PropIn K C x qual st :=
  ⟨g, oc, od, kV, doc, pm, an, cd, ct, sl, ⟨p, a, b, t, rest, r⟩, l, c, k⟩
structure PropAt (K : PySem.W.Frag) (C : Addr) (x qual : Str) (st : Stmt) (ps : List Str) (f : Addr) (fd : FuncData) : Prop where
  pr : PropK K C x f
  fn : Fun K x qual st f fd
  bd : Binds K fd ps []
theorem PropIn.at {K : PySem.W.Frag} {C : Addr} {x qual : Str} {st : Stmt} {ps : List Str} (d : PropIn K C x qual st)
    (hb : ∀ (kV doc pm : Value) (an : Option Addr) (cdv ct : Value) (us : List Value), us.length = ps.length →
      bindArgs (PySem.W.fnOf x qual (defArgs st) (defBody st) (defScope st) .none kV doc pm an cdv ct) ⟨us, []⟩ = pure (ps.zip us)) :
    ∃ f fd, PropAt K C x qual st ps f fd := by
  obtain ⟨f, oc, od, kV, doc, pm, an, cd, ct, sl, pr, l, c, k⟩ := d
  have F := fun_mk (st := st) l c k
  exact ⟨f, _, pr, F, F.binds hb⟩
theorem raw_ok {P : Program} {w : World} {K : PySem.W.Frag} {mg : Str → Option Value} {base : Heap} {CX : CXT} {k : Nat} {f : Addr} {fd : FuncData} {ps : List Str} {sp : Sp} (F : FnOk P w K mg base CX k f fd ps sp) (hb : Binds K fd ps []) :
    FnR P w K mg base CX k f sp := (FnOk.raw F hb .nil).imp fun vs H Q E h => by
  rw [List.append_nil]
  exact h
section
variable {X : Cx} {e : Expr} {ta : TE} {C g : Addr} {f : Str} {pos : Pos} {n : Nat} {sp : Sp}
/-- a property of an instance with slots -/
theorem pe_propO (he : PE X e ta) (c : SCls X.K C) (p : PropK X.K C f g) (F : FnR X.prog X.w X.K X.mg X.base CX0 n g sp) (hr : Room (n + 1) X.A)
    (hb : attributeBase e f X.env (eval e X.env) = eval e X.env := by rfl) : PE X (.Attribute e f pos) (tPropSl C sp E0 ta) := by
  obtain ⟨p, h1, h2, h3, h4⟩ := p.ex
  exact pe_propSl he c h1 h2 h3 h4 F hr (fun _ _ _ _ z => z) hb
/-- one of two ways to read a call -/
theorem callR_or {v : Value} {r1 r2 : List V → Hp → VK → Prop} (h1 : CallR X v r1) (h2 : CallR X v r2) : CallR X v (fun xs H Q => r1 xs H Q ∨ r2 xs H Q) := by
  intro pins s σ H xs us Q I r h
  rcases h with h | h
  · exact h1 pins s σ H xs us Q I r h
  · exact h2 pins s σ H xs us Q I r h
end
end Hv

namespace Hv
open PySem L2
def sp_is_integer (K : PySem.W.Frag) : Sp := fun vs H Q _ => ∃ (v : V) (t : Value) (b1 b2 : Bool), vs = [v] ∧ TyX K H v t ∧ PySem.W.kitOne K t (.type "int") = some b1 ∧
  PySem.W.kitOne K t (.type "bool") = some b2 ∧ Q (.bl (b1 && !b2)) H
end Hv

namespace L
open PySem L2 Hv
def top (i : Nat) : Stmt := PySem.Challenge.pw_heldvotes_k15_lengths_added.main.body.getD i (.Pass ⟨0, 0, 0, 0⟩)
structure Txt (K : PySem.W.Frag) (mg : Str → Option Value) : Prop where
  NotImplemented : mg "NotImplemented" = none
  ValueError : mg "ValueError" = none
  abs : mg "abs" = none
  all : mg "all" = none
  bool : mg "bool" = none
  divmod : mg "divmod" = none
  int : mg "int" = none
  isinstance : mg "isinstance" = none
  len : mg "len" = none
  max : mg "max" = none
  min : mg "min" = none
  property : mg "property" = none
  range : mg "range" = none
  repr : mg "repr" = none
  str : mg "str" = none
  sum : mg "sum" = none
end L

namespace L
open PySem L2 Hv
variable {P : Program} {w : World} {K : PySem.W.Frag} {mg : Str → Option Value} {base : Heap}
abbrev s_take : Stmt := top 10
abbrev N_take : List Str := ["_law_bag_here", "_law_many", "_law_digit"]
abbrev P_take : List Str := ["_law_bag_here", "_law_many"]
theorem sc_take : FnScope N_take P_take (defScope s_take) := ⟨rfl, rfl, rfl, by decide +kernel, rfl, by decide +kernel, by decide +kernel⟩
theorem ok_take {f : Addr} {fd : FuncData} (D : DefAt K mg "_law_take" s_take P_take f fd) (T : Txt K mg) : FnOk P w K mg base CX0 1 f fd P_take sp_take := by
  refine D.fn.ok sc_take (fun vs H Q E h => ?_) (fun cdv A outer s H vs Q E hr h => ?_)
  · obtain ⟨b, m, k, rfl, _⟩ := h
    rfl
  · obtain ⟨b, m, k, rfl, ⟨z, d, n, hb, d0, db, n0, nk⟩, hk, m0, m1, ret⟩ := h
    refine ⟨_, (pss_cons (ps_asg (pe_op op_add (pe_ix ix_list (pv 0) pe_int (fun _ _ => rfl)) pe_int) (pg_sub (pv 0) pe_int set_list))
      (pss_cons (ps_asg (pe_op op_mod (pe_callTy call_int1 (by rfl) T.int (by decide +kernel) (pa_cons (pe_op op_add (pe_op op_add (pe_op op_mul (pe_ix ix_list (pv 0) pe_int (fun _ _ => rfl)) pe_int) (pe_op op_mul (pe_op op_mul (pe_ix ix_list (pv 0) pe_int (fun _ _ => rfl)) (pe_ix ix_list (pv 0) pe_int (fun _ _ => rfl))) pe_int)) pe_int) pa_nil)) pe_int) (pg_sub (pv 0) pe_int set_list))
      (pss_cons (ps_if (pt_cmpR op_gt (pe_ix ix_list (pv 0) pe_int (fun _ _ => rfl)) pe_int (nomark _))
      (pss_cons (ps_asg (pe_callB call_divmodW (by rfl) T.divmod (by decide +kernel) (pa_cons (pe_ix ix_list (pv 0) pe_int (fun _ _ => rfl)) (pa_cons (pv 1) pa_nil))) (pg_tup (by rfl) (pgs_cons (pg_sub (pv 0) pe_int set_list) (pgs_cons (pg_name (i := 2) sc_take.nd rfl (.inl rfl)) pgs_nil))))
      (pss_one (ps_ret (pv 2))))
      pss_nil)
      (pss_one (ps_ret (pe_op op_mod (pe_callTy call_int1 (by rfl) T.int (by decide +kernel) (pa_cons (pe_op op_fdiv (pe_ix ix_list (pv 0) pe_int (fun _ _ => rfl)) pe_int) pa_nil)) (pv 1))))))), ?_⟩
    refine ⟨_, rfl, _, _, _, _, rfl, rfl, SqL.of hb, rfl, _, _, rfl, rfl, _, rfl, _, _, _, _, rfl, rfl, hb, rfl, ?_⟩
    have hb1 := upd_same (H := H) (a := b) (o := .lst (List.set [.int z, .int d, .int n] 2 (.int (n + 1))))
    refine ⟨_, rfl, _, _, _, _, rfl, rfl, SqL.of hb1, rfl, _, _, rfl, rfl, .inr ⟨by decide, by decide⟩, _, rfl, _, _, _, _, rfl, rfl, SqL.of hb1, rfl, _, rfl, _, _, _, _, rfl, rfl, SqL.of hb1, rfl, _, _, rfl, rfl, .inl ⟨by omega, by omega⟩,
      _, _, rfl, rfl, .inr ⟨by decide, by decide⟩, _, _, rfl, rfl, _, _, rfl, rfl, .inl ⟨_, rfl, _, _, rfl, rfl, (by show (0 : Int) < _; decide), _, rfl, _, _, _, _, rfl, rfl, hb1, rfl, ?_⟩⟩
    rw [upd_upd]
    have hb2 := upd_same (H := H) (a := b) (o := .lst [.int ((z * 91193 + (n + 1) * (n + 1) * 6827 + 40507) % 2147483399), .int d, .int (n + 1)])
    refine ⟨_, rfl, _, _, _, _, rfl, rfl, SqL.of hb2, rfl, _, _, rfl, rfl, _, rfl, ?_⟩
    refine ite2 (fun hc => ?_) (fun hc => ?_)
    · refine ⟨_, rfl, _, _, _, _, rfl, rfl, SqL.of hb2, rfl, _, rfl, _, _, rfl, ⟨m0, pylong_no m1⟩, fun p hp => ?_⟩
      have np : b ≠ p := ne_of_none hb2 hp
      refine ⟨_, _, rfl, SqT.of upd_same, rfl, _, _, rfl, _, rfl, _, _, _, _, rfl, rfl, (upd_ne np).trans hb2, rfl, _, _, rfl, rfl, _, rfl, ?_⟩
      refine ret _ _ (((But.refl.put).new hp).put) ⟨_, _, _, upd_same, ?_, bits_div d0 m0 db, ?_, ?_⟩ (Int.emod_nonneg _ (by omega)) (Int.emod_lt_of_pos _ m0)
      · exact Int.ediv_nonneg d0 (by omega)
      · omega
      · omega
    · refine ⟨_, rfl, _, _, _, _, rfl, rfl, SqL.of hb2, rfl, _, _, rfl, rfl, ⟨by decide, by decide⟩, .inl ⟨_, rfl, _, rfl, _, _, rfl, rfl, m0, ?_⟩⟩
      refine ret _ _ But.refl.put ⟨_, _, _, upd_same, d0, db, ?_, ?_⟩ (Int.emod_nonneg _ (by omega)) (Int.emod_lt_of_pos _ m0)
      · omega
      · omega
abbrev s_bag : Stmt := top 9
abbrev N_bag : List Str := ["_law_number", "_law_digits", "_law_state"]
abbrev P_bag : List Str := ["_law_number"]
theorem sc_bag : FnScope N_bag P_bag (defScope s_bag) := ⟨rfl, rfl, rfl, by decide +kernel, rfl, by decide +kernel, by decide +kernel⟩
theorem ok_bag {f : Addr} {fd : FuncData} (D : DefAt K mg "_law_bag" s_bag P_bag f fd) (T : Txt K mg) : FnOk P w K mg base CX0 1 f fd P_bag sp_bag := by
  refine D.fn.ok sc_bag (fun vs H Q E h => ?_) (fun cdv A outer s H vs Q E hr h => ?_)
  · obtain ⟨n, rfl, _⟩ := h
    rfl
  · obtain ⟨n, rfl, nb, ret⟩ := h
    refine ⟨_, (pss_cons (ps_asg (pe_ifExp (pt_chain op_le op_lt pe_int (pv 0) (pe_op op_pow pe_int pe_int)) pe_int (pe_callB call_abs (by rfl) T.abs (by decide +kernel) (pa_cons (pv 0) pa_nil))) (pg_name (i := 1) sc_bag.nd rfl (.inl rfl)))
      (pss_cons (ps_asg (pe_op op_mod (pe_callTy call_int1 (by rfl) T.int (by decide +kernel) (pa_cons (pv 0) pa_nil)) pe_int) (pg_name (i := 2) sc_bag.nd rfl (.inl rfl)))
      (pss_one (ps_ret (pe_lst (pa_cons (pe_op op_mod (pe_callTy call_int1 (by rfl) T.int (by decide +kernel) (pa_cons (pe_op op_add (pe_op op_mul (pv 2) (pe_op op_add (pe_op op_mod (pe_callTy call_int1 (by rfl) T.int (by decide +kernel) (pa_cons (pv 2) pa_nil)) pe_int) pe_int)) pe_int) pa_nil)) pe_int) (pa_cons (pv 1) (pa_cons pe_int pa_nil)))))))), ?_⟩
    have fin : ∀ d : Int, 0 ≤ d → Builtin.Int.intBits d ≤ 1048576 → ∀ p, H p = none → ∀ z : Int, Q (.ref p) (upd H p (.lst [.int z, .int d, .int 0])) := fun d d0 d1 p hp z =>
      ret p _ hp (same_new hp) ⟨z, d, 0, upd_same, d0, d1, by omega, by omega⟩
    refine ⟨_, rfl, _, _, rfl, rfl, _, rfl, ?_⟩
    refine ite2 (fun hc => ?_) (fun hc => ?_)
    · refine ⟨_, _, rfl, rfl, ⟨by decide, by decide, by decide⟩, _, _, rfl, rfl, _, rfl, ?_⟩
      refine ite2 (fun hc2 => ?_) (fun hc2 => ?_)
      · refine ⟨_, rfl, .inl ⟨_, rfl, _, _, rfl, rfl, (by show (0 : Int) < _; decide), _, rfl, _, rfl, .inl ⟨_, rfl, _, _, rfl, rfl, (by show (0 : Int) < _; decide), _, _, rfl, rfl, _, _, rfl, rfl, .inl ⟨?_, ?_⟩, _, _, rfl, rfl, .inl ⟨_, rfl, _, _, rfl, rfl, (by show (0 : Int) < _; decide), _, rfl, (by show 3 ≤ sizeLine; decide), fun p hp => ?_⟩⟩⟩⟩
        · show -(2 ^ 64) < n % 2147483399
          omega
        · show n % 2147483399 < 2 ^ 64
          omega
        · exact fin 0 (by decide) (by decide) p hp _
      · refine ⟨_, rfl, _, rfl, _, rfl, .inl ⟨_, rfl, _, _, rfl, rfl, (by show (0 : Int) < _; decide), _, rfl, _, rfl, .inl ⟨_, rfl, _, _, rfl, rfl, (by show (0 : Int) < _; decide), _, _, rfl, rfl, _, _, rfl, rfl, .inl ⟨?_, ?_⟩, _, _, rfl, rfl, .inl ⟨_, rfl, _, _, rfl, rfl, (by show (0 : Int) < _; decide), _, rfl, (by show 3 ≤ sizeLine; decide), fun p hp => ?_⟩⟩⟩⟩
        · show -(2 ^ 64) < n % 2147483399
          omega
        · show n % 2147483399 < 2 ^ 64
          omega
        · refine fin _ ?_ (Nat.le_trans (bits_mono ?_) nb) p hp _
          · split <;> omega
          · split <;> omega
    · refine ⟨_, rfl, iteF ⟨_, rfl, _, rfl, _, rfl, .inl ⟨_, rfl, _, _, rfl, rfl, (by show (0 : Int) < _; decide), _, rfl, _, rfl, .inl ⟨_, rfl, _, _, rfl, rfl, (by show (0 : Int) < _; decide), _, _, rfl, rfl, _, _, rfl, rfl, .inl ⟨?_, ?_⟩, _, _, rfl, rfl, .inl ⟨_, rfl, _, _, rfl, rfl, (by show (0 : Int) < _; decide), _, rfl, (by show 3 ≤ sizeLine; decide), fun p hp => ?_⟩⟩⟩⟩⟩
      · show -(2 ^ 64) < n % 2147483399
        omega
      · show n % 2147483399 < 2 ^ 64
        omega
      · refine fin _ ?_ (Nat.le_trans (bits_mono ?_) nb) p hp _
        · split <;> omega
        · split <;> omega
abbrev s_seed : Stmt := top 8
abbrev N_seed : List Str := ["_law_script", "_law_k", "_law_mixed", "_law_number"]
abbrev P_seed : List Str := ["_law_script", "_law_k"]
theorem sc_seed : FnScope N_seed P_seed (defScope s_seed) := ⟨rfl, rfl, rfl, by decide +kernel, rfl, by decide +kernel, by decide +kernel⟩
theorem ok_seed {f : Addr} {fd : FuncData} (D : DefAt K mg "_law_seed" s_seed P_seed f fd) (T : Txt K mg) : FnOk P w K mg base CX0 1 f fd P_seed (sp_seed K) := by
  refine D.fn.ok sc_seed (fun vs H Q E h => ?_) (fun cdv A outer s H vs Q E hr h => ?_)
  · obtain ⟨a, ns, k, rfl, _⟩ := h
    rfl
  · obtain ⟨a, ns, k, rfl, hS, bits, k0, k1, ret⟩ := h
    refine ⟨_, (pss_cons (ps_if (pt_cmpR op_lt (pv 1) (pe_callB call_len_seq (by rfl) T.len (by decide +kernel) (pa_cons (pv 0) pa_nil)) (nomark _))
      (pss_one (ps_ret (pe_ix ix_list (pv 0) (pv 1) (fun _ _ => rfl))))
      pss_nil)
      (pss_cons (ps_asg (pe_op op_add pe_int (pe_op op_mul (pe_op op_mul pe_int (pv 1)) (pv 1))) (pg_name (i := 2) sc_seed.nd rfl (.inl rfl)))
      (pss_cons (ps_for PassesOwn.never rfl (pi_list (pe_slice sl_list (pv 0) po_none (po_some pe_int))) (pg_name (i := 3) sc_seed.nd rfl (.inl rfl))
      (pss_one (ps_asg (pe_op op_mod (pe_callTy call_int1 (by rfl) T.int (by decide +kernel) (pa_cons (pe_op op_add (pe_op op_mul (pv 2) pe_int) (pv 3)) pa_nil)) pe_int) (pg_name (i := 2) sc_seed.nd rfl (.inl rfl)))))
      (pss_one (ps_ret (pv 2)))))), ?_⟩
    refine ⟨_, rfl, _, rfl, _, _, rfl, .inl hS, _, _, rfl, rfl, _, rfl, ?_⟩
    refine ite2 (fun hc => ?_) (fun hc => ?_)
    · have hlt : k < ns.length := by simpa using hc
      obtain ⟨j, rfl⟩ := Int.eq_ofNat_of_zero_le k0
      have hj : j < ns.length := by omega
      have hat : (ns.map V.int)[j]? = some (.int ns[j]) := by simp [hj]
      exact ⟨_, rfl, _, rfl, _, _, _, _, rfl, rfl, hS, atI_nat hat, ret _ _ (Same.refl H) (bits _ (List.getElem_mem _))⟩
    · refine ⟨_, rfl, _, _, rfl, rfl, .inl ⟨by decide, by decide⟩, _, rfl, _, _, rfl, rfl, .inr ⟨by omega, by omega⟩, _, _, rfl, rfl, _, rfl, _, rfl, _, _, rfl, hS, fun p hp => ?_⟩
      refine ⟨p, rfl, ⟨_, SqL.of upd_same⟩, for_list (K := K) (a := p) (xs := cutV (ns.map V.int) none (some 4)) (fun i σ' H' => ∃ (z : Int) (v : Option V), σ' = [some (.ref a), some (.int k), some (.int z), v] ∧
        H' = upd H p (.lst (cutV (ns.map V.int) none (some 4))) ∧ 0 ≤ z ∧ z < 2 ^ 50) ⟨_, none, rfl, rfl, ?_, ?_⟩ ?_ ?_ ?_⟩
      · have q : 0 ≤ k * k := Int.mul_nonneg k0 k0
        show 0 ≤ 7919 + 104729 * k * k
        rw [Int.mul_assoc]
        omega
      · have q : k * k ≤ 1000 * 1000 := Int.mul_le_mul (by omega) (by omega) k0 (by decide)
        show 7919 + 104729 * k * k < 2 ^ 50
        rw [Int.mul_assoc]
        omega
      · rintro i σ' H' _ ⟨z, v, _, rfl, _⟩
        exact SqL.of upd_same
      · rintro i x σ' H' hx ⟨z, v, rfl, rfl, _, _⟩
        have hm : x ∈ ns.map V.int := by
          have q := List.mem_of_getElem? hx
          exact List.mem_of_mem_drop (List.mem_of_mem_take q)
        obtain ⟨n, _, rfl⟩ := List.mem_map.mp hm
        refine ⟨_, rfl, _, _, rfl, rfl, .inr ⟨by decide, by decide⟩, _, rfl, _, _, rfl, rfl, .inl ⟨_, rfl, _, _, rfl, rfl, (by show (0 : Int) < _; decide), ?_⟩⟩
        refine ⟨_, _, rfl, rfl, ?_, ?_⟩
        · exact Int.emod_nonneg _ (by decide)
        · have q := Int.emod_lt_of_pos (z * 52711 + n) (b := 2147483563) (by decide)
          show (z * 52711 + n) % 2147483563 < 2 ^ 50
          omega
      · rintro σ' H' ⟨z, v, rfl, rfl, z0, z1⟩
        refine ⟨_, rfl, ret _ _ (same_new hp) (bits_small ?_)⟩
        have : z.natAbs < 2 ^ 50 := by omega
        exact Nat.lt_trans this (Nat.pow_lt_pow_right (by decide) (by decide))
end L

namespace Hv
open PySem L2 SlX
/-- what a length is made of -/
inductive W where
  | num (n : Nat) | endless | dead
  deriving DecidableEq
def W.v : W → V
  | .num n => .int (n : Int)
  | .endless => .str "endless"
  | .dead => .str "dead"
def W.rank : W → Nat
  | .num _ => 0
  | .endless => 1
  | .dead => 2
def W.cnt : W → Nat
  | .num n => n
  | _ => 0
def W.word : W → Str
  | .num _ => "steps"
  | .endless => "endless"
  | .dead => "dead"
def W.steps : W → V
  | .num n => .int (n : Int)
  | _ => .non
def W.add : W → W → W
  | .dead, _ => .dead
  | _, .dead => .dead
  | .endless, _ => .endless
  | _, .endless => .endless
  | .num a, .num b => .num (a + b)
def W.le (a b : W) : Bool := decide (a.rank < b.rank) || (decide (a.rank = b.rank) && decide (a.cnt ≤ b.cnt))
theorem W.eq_iff (a b : W) : a = b ↔ a.rank = b.rank ∧ a.cnt = b.cnt := by
  cases a <;> cases b <;> simp [W.rank, W.cnt]
theorem W.add_comm (a b : W) : a.add b = b.add a := by
  cases a <;> cases b <;> simp [W.add, Nat.add_comm]
theorem W.add_assoc (a b c : W) : (a.add b).add c = a.add (b.add c) := by
  cases a <;> cases b <;> cases c <;> simp [W.add, Nat.add_assoc]
theorem W.add_zero (a : W) : a.add (.num 0) = a := by
  cases a <;> simp [W.add]
theorem W.le_add (a b : W) : a.le (a.add b) = true := by
  cases a <;> cases b <;> simp [W.le, W.add, W.rank, W.cnt]
theorem W.add_mono (a b c : W) (h : a.le b = true) : (a.add c).le (b.add c) = true := by
  cases a <;> cases b <;> cases c <;> simp_all [W.le, W.add, W.rank, W.cnt] <;> exact of_decide_eq_true h
/-- an instance of Length at a, made of w -/
def LenAt (C : Addr) (H : Hp) (a : Addr) (w : W) : Prop := ∃ dx pt, Slt H a C dx [some (.ref pt)] ∧ H pt = some (.tup [.int (w.rank : Int), .int (w.cnt : Int)])
theorem slt_same {H H' : Hp} {a C dx : Addr} {vs : List (Option V)} (h : Slt H a C dx vs) (e : Same H H') : Slt H' a C dx vs := by
  rcases h with ⟨h1, h2⟩ | ⟨h1, h2⟩
  · exact .inl ⟨e _ _ h1, h2⟩
  · exact .inr ⟨e _ _ h1, e _ _ h2⟩
theorem LenAt.same {C : Addr} {H H' : Hp} {a : Addr} {w : W} (h : LenAt C H a w) (e : Same H H') : LenAt C H' a w := by
  obtain ⟨dx, pt, h1, h2⟩ := h
  exact ⟨dx, pt, slt_same h1 e, e _ _ h2⟩
theorem LenAt.slt {C : Addr} {H : Hp} {a : Addr} {w : W} (h : LenAt C H a w) : ∃ dx vs, Slt H a C dx vs := let ⟨dx, _, h1, _⟩ := h; ⟨dx, _, h1⟩
/-! promises -/
def sp_len_init (C : Addr) : Sp := fun vs H Q _ => ∃ (x dx : Addr) (w : W), vs = [.ref x, w.v] ∧ H x = some (.ins C dx []) ∧ H dx = some (.own x) ∧ dx ≠ x ∧
  ∀ H', (∀ b o, b ≠ x → b ≠ dx → H b = some o → H' b = some o) → LenAt C H' x w → Q .non H'
def sp_len_steps (C : Addr) : Sp := fun vs H Q _ => ∃ (a : Addr) (w : W), vs = [.ref a] ∧ LenAt C H a w ∧ Q w.steps H
def sp_len_word (C : Addr) : Sp := fun vs H Q _ => ∃ (a : Addr) (w : W), vs = [.ref a] ∧ LenAt C H a w ∧ ∀ H', Same H H' → Q (.str w.word) H'
def sp_len_eq (C : Addr) : Sp := fun vs H Q _ => ∃ (a b : Addr) (v w : W), vs = [.ref a, .ref b] ∧ LenAt C H a v ∧ LenAt C H b w ∧ Q (.bl (decide (v = w))) H
def sp_len_le (C : Addr) : Sp := fun vs H Q _ => ∃ (a b : Addr) (v w : W), vs = [.ref a, .ref b] ∧ LenAt C H a v ∧ LenAt C H b w ∧ Q (.bl (v.le w)) H
/-- the second summand: a length, or an integer from 0 on -/
def Summand (C : Addr) (H : Hp) (y : V) (w : W) : Prop := (∃ b, y = .ref b ∧ LenAt C H b w) ∨ ∃ n : Nat, y = .int (n : Int) ∧ w = .num n
def sp_len_add (C : Addr) : Sp := fun vs H Q _ => ∃ (a : Addr) (y : V) (v w : W), vs = [.ref a, y] ∧ LenAt C H a v ∧ Summand C H y w ∧
  ∀ p H', H p = none → Same H H' → LenAt C H' p (v.add w) → Q (.ref p) H'
def W.text : W → Str
  | .num n => Str.ofString (toString ((n : Nat) : Int))
  | .endless => "endless"
  | .dead => "dead"
def sp_len_str (C : Addr) : Sp := fun vs H Q _ => ∃ (a : Addr) (w : W), vs = [.ref a] ∧ LenAt C H a w ∧ w.cnt < 2 ^ 1900 ∧ ∀ H', Same H H' → Q (.str w.text) H'
end Hv
namespace L
open PySem L2 Hv SlX
structure LenTxt (K : PySem.W.Frag) (mg : Str → Option Value) (C f g : Addr) : Prop where
  mg : mg "Length" = some (.ref C)
  sc : SCls K C
  sl : ∃ p, Slot1 K C "place" p 0
  si : SIsi K C
  k1 : PySem.W.kitOne K (.ref C) (.ref C) = some true
  k2 : PySem.W.kitOne K (.type "int") (.ref C) = some false
  nf : PySem.W.notFirst K C (.ref C) = true
  ad : AddO K C f g
variable {P : Program} {w : World} {K : PySem.W.Frag} {mg : Str → Option Value} {base : Heap}
abbrev s_is_integer : Stmt := top 4
abbrev N_is_integer : List Str := ["value"]
abbrev P_is_integer : List Str := ["value"]
theorem sc_is_integer : FnScope N_is_integer P_is_integer (defScope s_is_integer) := ⟨rfl, rfl, rfl, by decide +kernel, rfl, by decide +kernel, by decide +kernel⟩
theorem ok_is_integer {f : Addr} {fd : FuncData} (D : DefAt K mg "is_integer" s_is_integer P_is_integer f fd) (T : Txt K mg) : FnOk P w K mg base CX0 1 f fd P_is_integer (sp_is_integer K) := by
  refine D.fn.ok sc_is_integer (fun vs H Q E h => ?_) (fun cdv A outer s H vs Q E hr h => ?_)
  · obtain ⟨v, t, b1, b2, rfl, _⟩ := h
    rfl
  · obtain ⟨v, t, b1, b2, rfl, ty, k1, k2, ret⟩ := h
    refine ⟨_, (pss_one (ps_ret (pe_and (pe_callB call_isi (by rfl) T.isinstance (by decide +kernel) (pa_cons (pv 0) (pa_cons (pe_bltn (v := .ty "int") (u := .type "int") (by rfl) T.int (by decide +kernel) rfl) pa_nil))) (pe_one (pe_not (pe_callB call_isi (by rfl) T.isinstance (by decide +kernel) (pa_cons (pv 0) (pa_cons (pe_bltn (v := .ty "bool") (u := .type "bool") (by rfl) T.bool (by decide +kernel) rfl) pa_nil)))))))), ?_⟩
    refine ⟨_, rfl, _, _, _, _, _, rfl, .ty _, ty, k1, _, rfl, ?_⟩
    cases b1 with
    | true => exact iteT ⟨_, rfl, _, _, _, _, _, rfl, .ty _, ty, k2, _, rfl, ret⟩
    | false => exact iteF ret

abbrev s_Length_init : Stmt := inClass (top 6) 1
abbrev N_Length_init : List Str := ["self", "value"]
abbrev P_Length_init : List Str := ["self", "value"]
theorem sc_Length_init : FnScope N_Length_init P_Length_init (defScope s_Length_init) := ⟨rfl, rfl, rfl, by decide +kernel, rfl, by decide +kernel, by decide +kernel⟩
theorem ok_Len_init {C fa ga f f1 : Addr} {fd fd1 : FuncData} (D : MethAt K C "__init__" "Length.__init__" s_Length_init P_Length_init f fd) (T : Txt K mg) (TL : LenTxt K mg C fa ga)
    (D_is_integer : DefAt K mg "is_integer" s_is_integer P_is_integer f1 fd1) : FnOk P w K mg base CX0 2 f fd P_Length_init (sp_len_init C) := by
  have G_is_integer : FnOk P w K mg base CX0 1 f1 fd1 P_is_integer (sp_is_integer K) := ok_is_integer D_is_integer T
  refine D.fn.ok sc_Length_init (fun vs H Q E h => ?_) (fun cdv A outer s H vs Q E hr h => ?_)
  · obtain ⟨x, dx, w, rfl, _⟩ := h
    rfl
  · obtain ⟨x, dx, w, rfl, hx, hd, nd, ret⟩ := h
    obtain ⟨ps, hp⟩ := TL.sl
    refine ⟨_, (pss_one (ps_if (PW.pt (pw_and (pt_val (pe_call G_is_integer (hr.mono (by decide)) rfl D_is_integer.mg D_is_integer.fn.kp D_is_integer.bd .nil pass0 (pa_cons (pv 1) pa_nil))) (pw_and1 (pt_cmpR op_ge (pv 1) pe_int (nomark _)))))
      (pss_one (ps_sl (pv 0) (pe_tup (pa_cons pe_int (pa_cons (pv 1) pa_nil)))))
      (pss_one (ps_if (PW.pt (pw_and (pt_val (pe_callB call_isi (by rfl) T.isinstance (by decide +kernel) (pa_cons (pv 1) (pa_cons (pe_bltn (v := .ty "str") (u := .type "str") (by rfl) T.str (by decide +kernel) rfl) pa_nil)))) (pw_and1 (pt_cmpR op_in_seq (pv 1) (pe_tup (pa_cons pe_str (pa_cons pe_str pa_nil))) (by rfl)))))
      (pss_one (ps_sl (pv 0) (pe_tup (pa_cons (pe_ifExp (pt_cmpR op_eq (pv 1) pe_str (nomark _)) pe_int pe_int) (pa_cons pe_int pa_nil)))))
      (pss_one ps_never))))), ?_⟩
    -- the slot is filled with the new tuple at p
    have fin : ∀ (H1 : Hp) (p : Addr) (i j : Int), Same H H1 → H1 p = none → i = w.rank → j = w.cnt →
        Q .non (slH (upd H1 p (.tup [.int i, .int j])) x C dx (putS 0 (.ref p) [])) := by
      intro H1 p i j sm hp0 hi hj
      have px : p ≠ x := (ne_of_none (sm _ _ hx) hp0).symm
      have pd : p ≠ dx := (ne_of_none (sm _ _ hd) hp0).symm
      refine ret _ (fun b o n1 n2 e => ?_) ⟨dx, p, slH_slt nd, ?_⟩
      · rw [slH_ne n1 n2, upd_ne (ne_of_none (sm _ _ e) hp0)]
        exact sm _ _ e
      · rw [slH_ne px pd, upd_same, hi, hj]
    have slt : ∀ (H1 : Hp) (p : Addr) (o : HO), Same H H1 → H1 p = none → Slt (upd H1 p o) x C dx [] := fun H1 p o sm hp0 =>
      .inl ⟨same_new hp0 _ _ (sm _ _ hx), rfl⟩
    cases w with
    | num n =>
      refine ⟨_, rfl, _, _, true, false, rfl, .base (.int _), kit_ty (by decide +kernel), kit_ty (by decide +kernel), _, rfl, ?_⟩
      refine ⟨_, rfl, _, _, rfl, rfl, _, rfl, ifT (by omega) ?_⟩
      refine ⟨_, rfl, by show 2 ≤ sizeLine; decide, fun p hp0 => ?_⟩
      exact ⟨_, rfl, x, C, dx, ps, [], 0, rfl, slt H p _ (Same.refl H) hp0, TL.sc, hp, fin H p _ _ (Same.refl H) hp0 rfl rfl⟩
    | endless =>
      refine ⟨_, rfl, _, _, false, false, rfl, .base (.str _), kit_ty (by decide +kernel), kit_ty (by decide +kernel), _, rfl, ?_⟩
      refine ⟨_, rfl, _, _, _, _, _, rfl, .ty _, .base (.str _), kit_ty (r := true) (by decide +kernel), _, rfl, ?_⟩
      refine ⟨_, rfl, by decide, fun t ht => ⟨_, _, rfl, .inr (SqT.of upd_same), rfl, rfl, _, rfl, ?_⟩⟩
      refine ite2 (fun _ => ?_) (fun q => absurd (by decide +kernel) q)
      refine ⟨_, rfl, rfl, _, rfl, ?_⟩
      refine ifT rfl ⟨by decide, fun p hp0 => ?_⟩
      exact ⟨_, rfl, x, C, dx, ps, [], 0, rfl, slt _ p _ (same_new ht) hp0, TL.sc, hp, fin _ p _ _ (same_new ht) hp0 rfl rfl⟩
    | dead =>
      refine ⟨_, rfl, _, _, false, false, rfl, .base (.str _), kit_ty (by decide +kernel), kit_ty (by decide +kernel), _, rfl, ?_⟩
      refine ⟨_, rfl, _, _, _, _, _, rfl, .ty _, .base (.str _), kit_ty (r := true) (by decide +kernel), _, rfl, ?_⟩
      refine ⟨_, rfl, by decide, fun t ht => ⟨_, _, rfl, .inr (SqT.of upd_same), rfl, rfl, _, rfl, ?_⟩⟩
      refine ite2 (fun _ => ?_) (fun q => absurd (by decide +kernel) q)
      refine ⟨_, rfl, rfl, _, rfl, ?_⟩
      refine ifF (by decide +kernel) ⟨by decide, fun p hp0 => ?_⟩
      exact ⟨_, rfl, x, C, dx, ps, [], 0, rfl, slt _ p _ (same_new ht) hp0, TL.sc, hp, fin _ p _ _ (same_new ht) hp0 rfl rfl⟩
abbrev s_Length_steps : Stmt := inClass (top 6) 2
abbrev N_Length_steps : List Str := ["self"]
abbrev P_Length_steps : List Str := ["self"]
theorem sc_Length_steps : FnScope N_Length_steps P_Length_steps (defScope s_Length_steps) := ⟨rfl, rfl, rfl, by decide +kernel, rfl, by decide +kernel, by decide +kernel⟩
theorem ok_Len_steps {C fa ga f : Addr} {fd : FuncData} (D : PropAt K C "steps" "Length.steps" s_Length_steps P_Length_steps f fd) (TL : LenTxt K mg C fa ga) : FnOk P w K mg base CX0 1 f fd P_Length_steps (sp_len_steps C) := by
  refine D.fn.ok sc_Length_steps (fun vs H Q E h => ?_) (fun cdv A outer s H vs Q E hr h => ?_)
  · obtain ⟨a, w, rfl, _⟩ := h
    rfl
  · obtain ⟨a, w, rfl, ⟨dx, pt, hs, hpt⟩, ret⟩ := h
    obtain ⟨ps, hp⟩ := TL.sl
    refine ⟨_, (pss_one (ps_ret (pe_ifExp (pt_cmpR op_eq (pe_ix ix_tup (pe_sl (pv 0)) pe_int (fun _ _ => rfl)) pe_int (nomark _)) (pe_ix ix_tup (pe_sl (pv 0)) pe_int (fun _ _ => rfl)) pe_non))), ?_⟩
    refine ⟨_, rfl, a, C, dx, ps, _, 0, _, rfl, hs, TL.sc, hp, rfl, _, _, _, _, rfl, rfl, SqT.of hpt, rfl, rfl, _, rfl, ?_⟩
    cases w with
    | num n => exact ifT rfl ⟨_, rfl, a, C, dx, ps, _, 0, _, rfl, hs, TL.sc, hp, rfl, _, _, _, _, rfl, rfl, SqT.of hpt, rfl, ret⟩
    | endless => exact ifF (by intro q; cases q) ret
    | dead => exact ifF (by intro q; cases q) ret
abbrev s_Length_word : Stmt := inClass (top 6) 3
abbrev N_Length_word : List Str := ["self"]
abbrev P_Length_word : List Str := ["self"]
theorem sc_Length_word : FnScope N_Length_word P_Length_word (defScope s_Length_word) := ⟨rfl, rfl, rfl, by decide +kernel, rfl, by decide +kernel, by decide +kernel⟩
theorem ok_Len_word {C fa ga f : Addr} {fd : FuncData} (D : PropAt K C "word" "Length.word" s_Length_word P_Length_word f fd) (TL : LenTxt K mg C fa ga) : FnOk P w K mg base CX0 1 f fd P_Length_word (sp_len_word C) := by
  refine D.fn.ok sc_Length_word (fun vs H Q E h => ?_) (fun cdv A outer s H vs Q E hr h => ?_)
  · obtain ⟨a, w, rfl, _⟩ := h
    rfl
  · obtain ⟨a, w, rfl, ⟨dx, pt, hs, hpt⟩, ret⟩ := h
    obtain ⟨ps, hp⟩ := TL.sl
    refine ⟨_, (pss_one (ps_ret (pe_ix ix_tup (pe_tup (pa_cons pe_str (pa_cons pe_str (pa_cons pe_str pa_nil)))) (pe_ix ix_tup (pe_sl (pv 0)) pe_int (fun _ _ => rfl)) (fun _ _ => rfl)))), ?_⟩
    refine ⟨by decide, fun t ht => ?_⟩
    have sm : Same H (upd H t (.tup [.str "steps", .str "endless", .str "dead"])) := same_new ht
    refine ⟨_, rfl, a, C, dx, ps, _, 0, _, rfl, slt_same hs sm, TL.sc, hp, rfl, _, _, _, _, rfl, rfl, SqT.of (sm _ _ hpt), rfl, ?_⟩
    cases w with
    | num n => exact ⟨_, _, _, _, rfl, rfl, SqT.of upd_same, rfl, ret _ sm⟩
    | endless => exact ⟨_, _, _, _, rfl, rfl, SqT.of upd_same, rfl, ret _ sm⟩
    | dead => exact ⟨_, _, _, _, rfl, rfl, SqT.of upd_same, rfl, ret _ sm⟩
abbrev s_Length_eq : Stmt := inClass (top 6) 4
abbrev N_Length_eq : List Str := ["self", "other"]
abbrev P_Length_eq : List Str := ["self", "other"]
theorem sc_Length_eq : FnScope N_Length_eq P_Length_eq (defScope s_Length_eq) := ⟨rfl, rfl, rfl, by decide +kernel, rfl, by decide +kernel, by decide +kernel⟩
theorem ok_Len_eq {C fa ga f : Addr} {fd : FuncData} (D : MethAt K C "__eq__" "Length.__eq__" s_Length_eq P_Length_eq f fd) (T : Txt K mg) (TL : LenTxt K mg C fa ga) : FnOk P w K mg base CX0 1 f fd P_Length_eq (sp_len_eq C) := by
  refine D.fn.ok sc_Length_eq (fun vs H Q E h => ?_) (fun cdv A outer s H vs Q E hr h => ?_)
  · obtain ⟨a, b, v, w, rfl, _⟩ := h
    rfl
  · obtain ⟨a, b, v, w, rfl, ⟨dx, pt, hs, hpt⟩, ⟨dy, qt, hs2, hqt⟩, ret⟩ := h
    obtain ⟨ps, hp⟩ := TL.sl
    refine ⟨_, (pss_one (ps_ret (pe_and (pe_callB (call_isiSl (.ref C)) (by rfl) T.isinstance (by decide +kernel) (pa_cons (pv 1) (pa_cons (pe_glob (v := .ref C) rfl TL.mg rfl) pa_nil))) (pe_one (pe_cmpR (op_eqD hr.units) (pe_sl (pv 0)) (pe_sl (pv 1)) (nomark _)))))), ?_⟩
    refine ⟨_, rfl, b, C, dy, _, _, true, rfl, rfl, fun _ q => q, hs2, TL.sc, TL.si, TL.k1, _, rfl, ?_⟩
    refine ⟨_, rfl, a, C, dx, ps, _, 0, _, rfl, hs, TL.sc, hp, rfl, _, rfl, b, C, dy, ps, _, 0, _, rfl, hs2, TL.sc, hp, rfl,
      .tuple [.int v.rank, .int v.cnt], .tuple [.int w.rank, .int w.cnt], .tup (SqT.of hpt) (.cons (.int _) (.cons (.int _) .nil)), .tup (SqT.of hqt) (.cons (.int _) (.cons (.int _) .nil)), rfl, rfl, ?_⟩
    have e : PyData.eqv (.tuple [.int v.rank, .int v.cnt]) (.tuple [.int w.rank, .int w.cnt]) = decide (v = w) := by
      rw [Bool.eq_iff_iff, decide_eq_true_iff, W.eq_iff]
      simp [PyData.eqv, PyData.eqvAll]
      omega
    rw [e]
    exact ret
abbrev s_Length_le : Stmt := inClass (top 6) 6
abbrev N_Length_le : List Str := ["self", "other"]
abbrev P_Length_le : List Str := ["self", "other"]
theorem sc_Length_le : FnScope N_Length_le P_Length_le (defScope s_Length_le) := ⟨rfl, rfl, rfl, by decide +kernel, rfl, by decide +kernel, by decide +kernel⟩
theorem ok_Len_le {C fa ga f : Addr} {fd : FuncData} (D : MethAt K C "__le__" "Length.__le__" s_Length_le P_Length_le f fd) (T : Txt K mg) (TL : LenTxt K mg C fa ga) : FnOk P w K mg base CX0 1 f fd P_Length_le (sp_len_le C) := by
  refine D.fn.ok sc_Length_le (fun vs H Q E h => ?_) (fun cdv A outer s H vs Q E hr h => ?_)
  · obtain ⟨a, b, v, w, rfl, _⟩ := h
    rfl
  · obtain ⟨a, b, v, w, rfl, ⟨dx, pt, hs, hpt⟩, ⟨dy, qt, hs2, hqt⟩, ret⟩ := h
    obtain ⟨ps, hp⟩ := TL.sl
    refine ⟨_, (pss_cons (ps_if (pt_not (pt_val (pe_callB (call_isiSl (.ref C)) (by rfl) T.isinstance (by decide +kernel) (pa_cons (pv 1) (pa_cons (pe_glob (v := .ref C) rfl TL.mg rfl) pa_nil)))))
      (pss_one ps_never)
      pss_nil)
      (pss_one (ps_ret (pe_cmpR (op_leT hr.units0) (pe_sl (pv 0)) (pe_sl (pv 1)) (nomark _))))), ?_⟩
    refine ⟨_, rfl, b, C, dy, _, _, true, rfl, rfl, fun _ q => q, hs2, TL.sc, TL.si, TL.k1, _, rfl, ?_⟩
    refine ⟨_, rfl, a, C, dx, ps, _, 0, _, rfl, hs, TL.sc, hp, rfl, _, rfl, b, C, dy, ps, _, 0, _, rfl, hs2, TL.sc, hp, rfl, ?_⟩
    refine ⟨pt, qt, [(v.rank : Int), (v.cnt : Int)], [(w.rank : Int), (w.cnt : Int)], rfl, rfl, SqT.of hpt, SqT.of hqt, ?_⟩
    have e : Ob.lexAt (fun j => decide ([(v.rank : Int), (v.cnt : Int)].getD j 0 = [(w.rank : Int), (w.cnt : Int)].getD j 0)) (fun j => decide ([(v.rank : Int), (v.cnt : Int)].getD j 0 ≤ [(w.rank : Int), (w.cnt : Int)].getD j 0)) (decide (2 ≤ 2)) 0 2 = v.le w := by
      simp only [Ob.lexAt, List.getD_cons_zero, List.getD_cons_succ, W.le]
      by_cases h1 : v.rank = w.rank
      · by_cases h2 : v.cnt = w.cnt
        · simp [h1, h2]
        · have h3 : ¬ ((v.cnt : Int) = (w.cnt : Int)) := by omega
          simp [h1, h3]
      · have h3 : ¬ ((v.rank : Int) = (w.rank : Int)) := by omega
        rw [if_neg (by simpa using h3), decide_eq_false h1, Bool.false_and, Bool.or_false]
        exact decide_eq_decide.mpr ⟨fun _ => by omega, fun _ => by omega⟩
    exact e ▸ ret
abbrev s_Length_add : Stmt := inClass (top 6) 9
abbrev N_Length_add : List Str := ["self", "other", "rank", "steps"]
abbrev P_Length_add : List Str := ["self", "other"]
theorem sc_Length_add : FnScope N_Length_add P_Length_add (defScope s_Length_add) := ⟨rfl, rfl, rfl, by decide +kernel, rfl, by decide +kernel, by decide +kernel⟩
theorem ok_Len_add {C fa ga f f1 : Addr} {fd fd1 : FuncData} (D : MethAt K C "__add__" "Length.__add__" s_Length_add P_Length_add f fd) (T : Txt K mg) (TL : LenTxt K mg C fa ga) (M_Len : Mk K C f1)
    (D_Len_init : MethAt K C "__init__" "Length.__init__" s_Length_init P_Length_init f1 fd1) (G_Len_init : FnOk P w K mg base CX0 2 f1 fd1 P_Length_init (sp_len_init C)) : FnOk P w K mg base CX0 4 f fd P_Length_add (sp_len_add C) := by
  refine D.fn.ok sc_Length_add (fun vs H Q E h => ?_) (fun cdv A outer s H vs Q E hr h => ?_)
  · obtain ⟨a, y, v, w, rfl, _⟩ := h
    rfl
  · obtain ⟨a, y, v, w, rfl, hv, hw, ret⟩ := h
    obtain ⟨ps, hp⟩ := TL.sl
    refine ⟨_, (pss_cons (ps_asg (pe_ifExp (pt_val (pe_callB (callR_or (call_isiSl (.ref C)) call_isi) (by rfl) T.isinstance (by decide +kernel) (pa_cons (pv 1) (pa_cons (pe_glob (v := .ref C) rfl TL.mg rfl) pa_nil)))) (pe_sl (pv 1)) (pe_tup (pa_cons pe_int (pa_cons (pv 1) pa_nil)))) (pg_tup (by rfl) (pgs_cons (pg_name (i := 2) sc_Length_add.nd rfl (.inl rfl)) (pgs_cons (pg_name (i := 3) sc_Length_add.nd rfl (.inl rfl)) pgs_nil))))
      (pss_cons (ps_if (PW.pt (pw_and (pt_cmpR op_eq (pv 2) pe_int (nomark _)) (pw_and1 (pt_cmpR op_eq (pe_ix ix_tup (pe_sl (pv 0)) pe_int (fun _ _ => rfl)) pe_int (nomark _)))))
      (pss_one (ps_ret (pe_make M_Len G_Len_init (hr.mono (by decide)) rfl TL.mg D_Len_init.bd .nil pass0 (pa_cons (pe_op op_add (pe_ix ix_tup (pe_sl (pv 0)) pe_int (fun _ _ => rfl)) (pv 3)) pa_nil))))
      pss_nil)
      (pss_one (ps_ret (pe_make M_Len G_Len_init (hr.mono (by decide)) rfl TL.mg D_Len_init.bd .nil pass0 (pa_cons (pe_ifExp (pt_cmpR op_in_seq pe_int (pe_tup (pa_cons (pv 2) (pa_cons (pe_ix ix_tup (pe_sl (pv 0)) pe_int (fun _ _ => rfl)) pa_nil))) (by rfl)) pe_str pe_str) pa_nil)))))), ?_⟩
    -- a new length of z, made where H1 stands
    have made : ∀ (z : W) (H1 : Hp), Same H H1 → z = v.add w → ∀ x dx, H1 x = none → H1 dx = none → dx ≠ x →
        sp_len_init C [.ref x, z.v] (upd (upd H1 dx (.own x)) x (.ins C dx [])) (fun v H2 => v = .non ∧ Q (.ref x) H2) E0 := by
      intro z H1 sm hz x dx nx nd ne
      refine ⟨x, dx, z, rfl, upd_same, by rw [upd_ne ne, upd_same], ne, fun H2 keep hl => ⟨rfl, ?_⟩⟩
      refine ret x H2 (sm.free nx) (fun b o e => ?_) (by rw [← hz]; exact hl)
      have e1 := sm _ _ e
      have b1 := ne_of_none e1 nx
      have b2 := ne_of_none e1 nd
      exact keep b o b1 b2 (by rw [upd_ne b1, upd_ne b2]; exact e1)
    obtain ⟨dx, pt, hs, hpt⟩ := hv
    refine join_asg (fun u H' => ∃ t, u = .ref t ∧ H' t = some (.tup [.int (w.rank : Int), .int (w.cnt : Int)]) ∧ Same H H') (fun Q' fin => ?_) ?_
    · rcases hw with ⟨b, rfl, dy, qt, hs2, hqt⟩ | ⟨n, rfl, rfl⟩
      · exact ⟨_, rfl, .inl ⟨b, C, dy, _, .ref C, true, rfl, rfl, fun _ q => q, hs2, TL.sc, TL.si, TL.k1, _, rfl, _, rfl, b, C, dy, ps, _, 0, _, rfl, hs2, TL.sc, hp, rfl, fin _ _ ⟨qt, rfl, hqt, Same.refl H⟩⟩⟩
      · exact ⟨_, rfl, .inr ⟨_, _, _, _, false, rfl, .own C, .base (.int _), TL.k2, _, rfl, _, rfl, by show 2 ≤ sizeLine; decide, fun t ht => fin _ _ ⟨t, rfl, upd_same, same_new ht⟩⟩⟩
    rintro _ H1 ⟨t, rfl, ht, sm⟩
    have hs1 := slt_same hs sm
    have hpt1 := sm _ _ hpt
    refine ⟨t, _, rfl, SqT.of ht, rfl, _, _, rfl, _, _, rfl, rfl, ?_⟩
    refine ⟨_, rfl, rfl, _, rfl, ?_⟩
    -- no number of steps: dead or endless
    have other : ∀ z : W, z = v.add w → (z = .dead ∧ inV (.int 2) [.int (w.rank : Int), .int (v.rank : Int)] = true ∨ z = .endless ∧ inV (.int 2) [.int (w.rank : Int), .int (v.rank : Int)] = false) →
        tRet (tMake C (sp_len_init C) [] E0 (tCons (tIf (tTest (tOp (rIn K false) (tC (.int 2)) (tTup (tCons (tVar 2) (tCons (tOp (rIxT K) (SlX.tSl K (tVar 0) "place") (tC (.int 0))) tNil))))) (tC (.str "dead")) (tC (.str "endless"))) tNil))
          { nx := fun _ H' => Q .non H', rt := Q } [some (.ref a), some y, some (.int (w.rank : Int)), some (.int (w.cnt : Int))] H1 := by
      intro z hz hc
      refine ⟨_, rfl, _, rfl, a, C, dx, ps, _, 0, _, rfl, hs1, TL.sc, hp, rfl, _, _, _, _, rfl, rfl, SqT.of hpt1, rfl, by show 2 ≤ sizeLine; decide, fun u hu => ?_⟩
      refine ⟨_, _, rfl, .inr (SqT.of upd_same), rfl, rfl, _, rfl, ?_⟩
      rcases hc with ⟨rfl, h2⟩ | ⟨rfl, h2⟩
      · show (if inV (.int 2) [.int (w.rank : Int), .int (v.rank : Int)] = true then _ else _)
        rw [h2]
        exact made .dead _ (sm.trans (same_new hu)) hz
      · show (if inV (.int 2) [.int (w.rank : Int), .int (v.rank : Int)] = true then _ else _)
        rw [h2]
        exact made .endless _ (sm.trans (same_new hu)) hz
    cases w with
    | num m =>
      refine ifT rfl ⟨_, rfl, a, C, dx, ps, _, 0, _, rfl, hs1, TL.sc, hp, rfl, _, _, _, _, rfl, rfl, SqT.of hpt1, rfl, rfl, _, rfl, ?_⟩
      cases v with
      | num n => exact ifT rfl ⟨_, rfl, a, C, dx, ps, _, 0, _, rfl, hs1, TL.sc, hp, rfl, _, _, _, _, rfl, rfl, SqT.of hpt1, rfl, _, rfl, _, _, rfl, rfl, made (.num (n + m)) H1 sm rfl⟩
      | endless => exact ifF (by intro q; cases q) (other .endless rfl (.inr ⟨rfl, by rfl⟩))
      | dead => exact ifF (by intro q; cases q) (other .dead rfl (.inl ⟨rfl, by rfl⟩))
    | endless => cases v with
      | num n => exact ifF (by intro q; cases q) (other .endless rfl (.inr ⟨rfl, by rfl⟩))
      | endless => exact ifF (by intro q; cases q) (other .endless rfl (.inr ⟨rfl, by rfl⟩))
      | dead => exact ifF (by intro q; cases q) (other .dead rfl (.inl ⟨rfl, by rfl⟩))
    | dead => cases v with
      | num n => exact ifF (by intro q; cases q) (other .dead rfl (.inl ⟨rfl, by rfl⟩))
      | endless => exact ifF (by intro q; cases q) (other .dead rfl (.inl ⟨rfl, by rfl⟩))
      | dead => exact ifF (by intro q; cases q) (other .dead rfl (.inl ⟨rfl, by rfl⟩))
abbrev s_Length_radd : Stmt := inClass (top 6) 10
abbrev N_Length_radd : List Str := ["self", "other"]
abbrev P_Length_radd : List Str := ["self", "other"]
theorem sc_Length_radd : FnScope N_Length_radd P_Length_radd (defScope s_Length_radd) := ⟨rfl, rfl, rfl, by decide +kernel, rfl, by decide +kernel, by decide +kernel⟩
theorem ok_Len_radd {C fa ga f : Addr} {fd : FuncData} (D : MethAt K C "__radd__" "Length.__radd__" s_Length_radd P_Length_radd f fd) (TL : LenTxt K mg C fa ga)
    (R_Len_add : FnR P w K mg base CX0 4 fa (sp_len_add C)) : FnOk P w K mg base CX0 5 f fd P_Length_radd (sp_len_add C) := by
  refine D.fn.ok sc_Length_radd (fun vs H Q E h => ?_) (fun cdv A outer s H vs Q E hr h => ?_)
  · obtain ⟨a, y, v, w, rfl, _⟩ := h
    rfl
  · obtain ⟨a, y, v, w, rfl, hv, hw, ret⟩ := h
    refine ⟨_, (pss_one (ps_ret (pe_op (op_addO TL.ad R_Len_add (hr.mono (by decide)) pass0) (pv 0) (pv 1)))), ?_⟩
    obtain ⟨dx, vs, hs⟩ := hv.slt
    refine ⟨_, rfl, _, rfl, a, dx, vs, rfl, hs, ?_, a, y, v, w, rfl, hv, hw, ret⟩
    rcases hw with ⟨b, rfl, hb⟩ | ⟨n, rfl, rfl⟩
    · obtain ⟨dy, ws, hs2⟩ := hb.slt
      exact .inl ⟨b, dy, ws, rfl, hs2⟩
    · exact .inr ⟨_, rfl⟩
abbrev s_Length_str : Stmt := inClass (top 6) 11
abbrev N_Length_str : List Str := ["self"]
abbrev P_Length_str : List Str := ["self"]
theorem sc_Length_str : FnScope N_Length_str P_Length_str (defScope s_Length_str) := ⟨rfl, rfl, rfl, by decide +kernel, rfl, by decide +kernel, by decide +kernel⟩
theorem ok_Len_str {C fa ga f f1 : Addr} {fd fd1 : FuncData} (D : MethAt K C "__str__" "Length.__str__" s_Length_str P_Length_str f fd) (T : Txt K mg) (TL : LenTxt K mg C fa ga)
    (D_Len_word : PropAt K C "word" "Length.word" s_Length_word P_Length_word f1 fd1) : FnOk P w K mg base CX0 3 f fd P_Length_str (sp_len_str C) := by
  have R_Len_word : FnR P w K mg base CX0 1 f1 (sp_len_word C) := raw_ok (ok_Len_word D_Len_word TL) D_Len_word.bd
  refine D.fn.ok sc_Length_str (fun vs H Q E h => ?_) (fun cdv A outer s H vs Q E hr h => ?_)
  · obtain ⟨a, w, rfl, _⟩ := h
    rfl
  · obtain ⟨a, w, rfl, hw, hc, ret⟩ := h
    obtain ⟨ps, hp⟩ := TL.sl
    obtain ⟨dx, pt, hs, hpt⟩ := id hw
    refine ⟨_, (pss_cons (ps_if (pt_cmpR op_eq (pe_ix ix_tup (pe_sl (pv 0)) pe_int (fun _ _ => rfl)) pe_int (nomark _))
      (pss_one (ps_ret (pe_callTy call_str_int (by rfl) T.str (by decide +kernel) (pa_cons (pe_ix ix_tup (pe_sl (pv 0)) pe_int (fun _ _ => rfl)) pa_nil))))
      pss_nil)
      (pss_one (ps_ret (pe_joined1 (pe_fmt (pe_propO (pv 0) TL.sc D_Len_word.pr R_Len_word (hr.mono (by decide)))))))), ?_⟩
    refine ⟨_, rfl, a, C, dx, ps, _, 0, _, rfl, hs, TL.sc, hp, rfl, _, _, _, _, rfl, rfl, SqT.of hpt, rfl, rfl, _, rfl, ?_⟩
    cases w with
    | num n =>
      refine ifT rfl ⟨_, rfl, a, C, dx, ps, _, 0, _, rfl, hs, TL.sc, hp, rfl, _, _, _, _, rfl, rfl, SqT.of hpt, rfl, _, rfl, ?_, ret H (Same.refl H)⟩
      show (n : Int).natAbs.log2 < 1920
      by_cases h0 : n = 0
      · subst h0
        decide
      · have := (Nat.log2_lt h0).mpr hc
        show n.log2 < 1920
        omega
    | endless => exact ifF (by intro q; cases q) ⟨_, rfl, a, dx, _, rfl, hs, a, .endless, rfl, hw, fun H1 s1 => .inl ⟨_, rfl, by decide, ret H1 s1⟩⟩
    | dead => exact ifF (by intro q; cases q) ⟨_, rfl, a, dx, _, rfl, hs, a, .dead, rfl, hw, fun H1 s1 => .inl ⟨_, rfl, by decide, ret H1 s1⟩⟩
end L

namespace Hv
open PySem L2 SlX Evl
/-- a new length -/
theorem len_made {C : Addr} {H1 : Hp} {z : W} {Q : VK} (ret : ∀ x H2, H1 x = none → Same H1 H2 → LenAt C H2 x z → Q (.ref x) H2) :
    ∀ x dx, H1 x = none → H1 dx = none → dx ≠ x → sp_len_init C [.ref x, z.v] (upd (upd H1 dx (.own x)) x (.ins C dx [])) (fun v H2 => v = .non ∧ Q (.ref x) H2) E0 := by
  intro x dx nx nd ne
  refine ⟨x, dx, z, rfl, upd_same, by rw [upd_ne ne, upd_same], ne, fun H2 keep hl => ⟨rfl, ?_⟩⟩
  refine ret x H2 nx (fun b o e => ?_) hl
  have b1 := ne_of_none e nx
  have b2 := ne_of_none e nd
  exact keep b o b1 b2 (by rw [upd_ne b1, upd_ne b2]; exact e)
/-- an expression that gives a length made of w -/
def EvLen (C : Addr) (te : TE) (σ : L2.St) (H : Hp) (w : W) : Prop := ∀ H1, Ex H H1 → ∀ Q : VK, (∀ p H2, Ex H1 H2 → LenAt C H2 p w → Q (.ref p) H2) → te σ H1 Q
section
variable {K : PySem.W.Frag} {C : Addr} {σ : L2.St} {H H' : Hp} {ta tb te : TE} {v w : W}
theorem EvLen.mono (h : EvLen C te σ H w) (e : Ex H H') : EvLen C te σ H' w := fun H1 a Q q => h H1 (e.trans a) Q q
theorem evl_var {i : Nat} {a : Addr} (h : σ[i]? = some (some (.ref a))) (l : LenAt C H a w) : EvLen C (tVar i) σ H w := fun H1 e _ q => ⟨_, h, q a H1 (Ex.refl H1) (l.same e)⟩
theorem evl_make {ta : TA} {z : V} (hz : z = w.v) (h : EvA ta σ H [z]) : EvLen C (tMake C (sp_len_init C) [] E0 ta) σ H w := fun H1 e Q q =>
  h H1 e _ fun H2 e2 => by
    subst hz
    exact len_made fun x H3 nx s3 l => q x H3 (e2.trans s3) l
theorem evl_add (ha : EvLen C ta σ H v) (hb : EvLen C tb σ H w) : EvLen C (tOp (rAddO C (sp_len_add C) E0) ta tb) σ H (v.add w) := fun H1 e Q q =>
  ha H1 e _ fun a H2 e2 la => hb H2 (e.trans e2) _ fun b H3 e3 lb => by
    obtain ⟨dx, vs, hs⟩ := (la.same e3).slt
    obtain ⟨dy, ws, hs2⟩ := lb.slt
    exact ⟨a, dx, vs, rfl, hs, .inl ⟨b, dy, ws, rfl, hs2⟩, a, _, v, w, rfl, la.same e3, .inl ⟨b, rfl, lb⟩, fun p H4 _ s4 l => q p H4 ((e2.trans e3).trans s4) l⟩
theorem evl_addI {n : Nat} (ha : EvLen C ta σ H v) (hb : Ev tb σ H (.int (n : Int))) : EvLen C (tOp (rAddO C (sp_len_add C) E0) ta tb) σ H (v.add (.num n)) := fun H1 e Q q =>
  ha H1 e _ fun a H2 e2 la => hb H2 (e.trans e2) _ fun H3 e3 => by
    obtain ⟨dx, vs, hs⟩ := (la.same e3).slt
    exact ⟨a, dx, vs, rfl, hs, .inr ⟨_, rfl⟩, a, _, v, .num n, rfl, la.same e3, .inr ⟨n, rfl, rfl⟩, fun p H4 _ s4 l => q p H4 ((e2.trans e3).trans s4) l⟩
theorem evl_raddI {n : Nat} (ha : Ev ta σ H (.int (n : Int))) (hb : EvLen C tb σ H v) : EvLen C (tOp (rRAddO C (sp_len_add C) E0) ta tb) σ H (v.add (.num n)) := fun H1 e Q q =>
  ha H1 e _ fun H2 e2 => hb H2 (e.trans e2) _ fun a H3 e3 la => by
    obtain ⟨dx, vs, hs⟩ := la.slt
    exact ⟨_, a, dx, vs, rfl, rfl, hs, a, _, v, .num n, rfl, la, .inr ⟨n, rfl, rfl⟩, fun p H4 _ s4 l => q p H4 ((e2.trans e3).trans s4) l⟩
theorem ev_leneq (nf : PySem.W.notFirst K C (.ref C) = true) (ha : EvLen C ta σ H v) (hb : EvLen C tb σ H w) : Ev (tOp (rOwn K C (sp_len_eq C) E0) ta tb) σ H (.bl (decide (v = w))) := fun H1 e Q q =>
  ha H1 e _ fun a H2 e2 la => hb H2 (e.trans e2) _ fun b H3 e3 lb => by
    obtain ⟨dx, vs, hs⟩ := (la.same e3).slt
    obtain ⟨dy, ws, hs2⟩ := lb.slt
    exact ⟨a, dx, vs, b, C, dy, ws, rfl, rfl, hs, hs2, nf, a, b, v, w, rfl, la.same e3, lb, q H3 (e2.trans e3)⟩
theorem ev_lenle (nf : PySem.W.notFirst K C (.ref C) = true) (ha : EvLen C ta σ H v) (hb : EvLen C tb σ H w) : Ev (tOp (rOwn K C (sp_len_le C) E0) ta tb) σ H (.bl (v.le w)) := fun H1 e Q q =>
  ha H1 e _ fun a H2 e2 la => hb H2 (e.trans e2) _ fun b H3 e3 lb => by
    obtain ⟨dx, vs, hs⟩ := (la.same e3).slt
    obtain ⟨dy, ws, hs2⟩ := lb.slt
    exact ⟨a, dx, vs, b, C, dy, ws, rfl, rfl, hs, hs2, nf, a, b, v, w, rfl, la.same e3, lb, q H3 (e2.trans e3)⟩
theorem s_asgN {i : Nat} {D : Ends} (h : EvLen C te σ H w) (k : ∀ p H1, Ex H H1 → LenAt C H1 p w → D.nx (σ.set i (some (.ref p))) H1) : tAsg te (gName i) D σ H := h H (Ex.refl H) _ k
theorem q_asgN {i : Nat} {D : Ends} {tz : TS} (h : EvLen C te σ H w) (k : ∀ p H1, Ex H H1 → LenAt C H1 p w → tz D (σ.set i (some (.ref p))) H1) : tSeq (tAsg te (gName i)) tz D σ H := h H (Ex.refl H) _ k
theorem evl_if {t : TT} {b : Bool} (h : EvT t σ H b) (h1 : b = true → EvLen C ta σ H w) (h2 : b = false → EvLen C tb σ H w) : EvLen C (tIf t ta tb) σ H w := fun H1 e Q q =>
  h H1 e _ fun H2 e2 => by
    cases b with
    | true => exact h1 rfl H2 (e.trans e2) Q fun p H3 e3 l => q p H3 (e2.trans e3) l
    | false => exact h2 rfl H2 (e.trans e2) Q fun p H3 e3 l => q p H3 (e2.trans e3) l
theorem use_len {Q : VK} (h : EvLen C te σ H w) (k : ∀ p H2, Ex H H2 → LenAt C H2 p w → Q (.ref p) H2) : te σ H Q := h H (Ex.refl H) Q k
theorem evl_is {v : W} (h : EvLen C te σ H w) (e : w = v) : EvLen C te σ H v := e ▸ h
end
end Hv

namespace Hv
open PySem L2 SlX
def wsum : List W → W
  | [] => .num 0
  | w :: ws => w.add (wsum ws)
theorem wsum_append (a b : List W) : wsum (a ++ b) = (wsum a).add (wsum b) := by
  induction a with
  | nil => cases h : wsum b <;> simp [wsum, W.add, h]
  | cons x xs ih => simp [wsum, ih, W.add_assoc]
theorem wsum_eq (ws : List W) : wsum ws = if W.dead ∈ ws then .dead else if W.endless ∈ ws then .endless else .num (ws.map W.cnt).sum := by
  induction ws with
  | nil => simp [wsum]
  | cons w ws ih =>
    rw [wsum, ih]
    cases w <;> by_cases h1 : W.dead ∈ ws <;> by_cases h2 : W.endless ∈ ws <;> simp [h1, h2, W.add, W.cnt]
theorem eq1 : eqV (W.v .endless) (.str "dead") = false := by decide +kernel
theorem eq2 : eqV (W.v .dead) (.str "dead") = true := by decide +kernel
theorem eq3 : eqV (W.v .endless) (.str "endless") = true := by decide +kernel
theorem eq4 : eqV (W.v .dead) (.str "endless") = false := by decide +kernel
theorem inV_dead (ws : List W) : inV (.str "dead") (ws.map W.v) = decide (W.dead ∈ ws) := by
  induction ws with
  | nil => rfl
  | cons w ws ih =>
    have e : inV (.str "dead") ((w :: ws).map W.v) = (eqV w.v (.str "dead") || inV (.str "dead") (ws.map W.v)) := rfl
    rw [e, ih]
    cases w with
    | num n => simp [W.v, eqV]
    | endless => rw [eq1]; simp
    | dead => rw [eq2]; simp
theorem inV_endless (ws : List W) : inV (.str "endless") (ws.map W.v) = decide (W.endless ∈ ws) := by
  induction ws with
  | nil => rfl
  | cons w ws ih =>
    have e : inV (.str "endless") ((w :: ws).map W.v) = (eqV w.v (.str "endless") || inV (.str "endless") (ws.map W.v)) := rfl
    rw [e, ih]
    cases w with
    | num n => simp [W.v, eqV]
    | endless => rw [eq3]; simp
    | dead => rw [eq4]; simp
theorem flat_w (ws : List W) : (ws.map W.v).all flatV = true := by
  rw [List.all_map, List.all_eq_true]
  intro w _
  cases w <;> rfl
theorem nums_w {ws : List W} (h1 : W.dead ∉ ws) (h2 : W.endless ∉ ws) : ws.map W.v = ((ws.map W.cnt).map (fun n : Nat => (n : Int))).map V.int := by
  induction ws with
  | nil => rfl
  | cons w ws ih =>
    simp only [List.mem_cons, not_or] at h1 h2
    rw [List.map_cons, ih h1.2 h2.2]
    cases w with
    | num n => rfl
    | endless => exact absurd rfl h2.1
    | dead => exact absurd rfl h1.1
theorem sum_cast (l : List Nat) : (l.map (fun n : Nat => (n : Int))).sum = ((l.sum : Nat) : Int) := by
  induction l with
  | nil => rfl
  | cons x xs ih => simp [ih]
theorem scal_w (w : W) : scal w.v w.v = true := by
  cases w <;> rfl
/-- the data of a worth -/
def W.d : W → PyData
  | .num n => .int (n : Int)
  | .endless => .str "endless"
  | .dead => .str "dead"
theorem W.dp {K : PySem.W.Frag} {H : Hp} (w : W) : Dp K H w.v w.d := by
  cases w with
  | num n => exact .int _
  | endless => exact .str _
  | dead => exact .str _
theorem W.dpAll {K : PySem.W.Frag} {H : Hp} : ∀ ws : List W, DpAll K H (ws.map W.v) (ws.map W.d)
  | [] => .nil
  | w :: ws => .cons w.dp (W.dpAll ws)
theorem W.shaped (w : W) : SeqAt.shaped w.d = true := by
  cases w with
  | num n => rfl
  | endless => decide +kernel
  | dead => decide +kernel
theorem strOk_num (n : Nat) : PyData.strOk (Str.ofString (toString ((n : Nat) : Int))) = true := by
  rw [SX.num_S]
  unfold PyData.strOk
  rw [Array.all_eq_true']
  intro c hc
  have h := TL.numL_digits n c (by simpa [SX.S] using hc)
  exact decide_eq_true (by omega)
def big : Nat := 10 ^ 38
def Small (w : W) (n : Nat) : Prop := w.cnt ≤ n * big
theorem small_str {w : W} {n : Nat} (h : Small w n) (hn : n ≤ 100) : w.cnt < 2 ^ 1900 := by
  have e : 100 * big < 2 ^ 1900 := by decide +kernel
  have := Nat.mul_le_mul_right big hn
  unfold Small at h
  omega
theorem small_add {v w : W} {m n : Nat} (h1 : Small v m) (h2 : Small w n) : Small (v.add w) (m + n) := by
  unfold Small at *
  rw [Nat.add_mul]
  cases v <;> cases w <;> simp_all [W.add, W.cnt]
  omega
theorem small_mono {w : W} {m n : Nat} (h : Small w m) (l : m ≤ n) : Small w n := Nat.le_trans h (Nat.mul_le_mul_right _ l)
def sp_worth : Sp := fun vs H Q _ => ∃ (b : Addr) (k : Nat), vs = [.ref b] ∧ Bag H b k ∧ k < 900000 ∧ ∀ (w : W) (H' : Hp), But b H H' → Bag H' b (k + 2) → Small w 1 → Q w.v H'
def sp_sum (K : PySem.W.Frag) : Sp := fun vs H Q _ => ∃ (a : Addr) (ws : List W), vs = [.ref a] ∧ SqL K H a (ws.map W.v) ∧ Q (wsum ws).v H
def sp_shown (C : Addr) : Sp := fun vs H Q _ => ∃ (a : Addr) (w : W), vs = [.ref a] ∧ LenAt C H a w ∧ w.cnt < 2 ^ 1900 ∧ ∀ H', Same H H' → Q w.v H'
def sp_added (K : PySem.W.Frag) : Sp := fun vs H Q _ => ∃ (a : Addr) (ws : List W) (n : Int), vs = [.ref a, .int n] ∧ SqL K H a (ws.map W.v) ∧ 1 ≤ ws.length ∧ ws.length ≤ 20 ∧ (∀ w ∈ ws, Small w 1) ∧
  ∀ H', Same H H' → Q (wsum ws).v H'
end Hv
namespace L
open PySem L2 Hv SlX
variable {P : Program} {w : World} {K : PySem.W.Frag} {mg : Str → Option Value} {base : Heap}
abbrev s_worth : Stmt := top 11
abbrev N_worth : List Str := ["_law_bag_here", "_law_way"]
abbrev P_worth : List Str := ["_law_bag_here"]
theorem sc_worth : FnScope N_worth P_worth (defScope s_worth) := ⟨rfl, rfl, rfl, by decide +kernel, rfl, by decide +kernel, by decide +kernel⟩
theorem ok_worth {f f1 : Addr} {fd fd1 : FuncData} (D : DefAt K mg "_law_worth" s_worth P_worth f fd) (T : Txt K mg) (D_take : DefAt K mg "_law_take" s_take P_take f1 fd1) : FnOk P w K mg base CX0 2 f fd P_worth sp_worth := by
  have G_take : FnOk P w K mg base CX0 1 f1 fd1 P_take sp_take := ok_take D_take T
  refine D.fn.ok sc_worth (fun vs H Q E h => ?_) (fun cdv A outer s H vs Q E hr h => ?_)
  · obtain ⟨b, k, rfl, _⟩ := h
    rfl
  · obtain ⟨b, k, rfl, hb, hk, ret⟩ := h
    refine ⟨_, (pss_cons (ps_asg (pe_call G_take (hr.mono (by decide)) rfl D_take.mg D_take.fn.kp D_take.bd .nil pass0 (pa_cons (pv 0) (pa_cons pe_int pa_nil))) (pg_name (i := 1) sc_worth.nd rfl (.inl rfl)))
      (pss_cons (ps_if (pt_cmpR op_lt (pv 1) pe_int (nomark _))
      (pss_one (ps_ret (pe_ix ix_list (pe_lst (pa_cons pe_str (pa_cons pe_str pa_nil))) (pv 1) (fun _ _ => rfl))))
      pss_nil)
      (pss_one (ps_ret (pe_call G_take (hr.mono (by decide)) rfl D_take.mg D_take.fn.kp D_take.bd .nil pass0 (pa_cons (pv 0) (pa_cons (pe_ix ix_list (pe_lst (pa_cons pe_int (pa_cons pe_int (pa_cons pe_int (pa_cons (pe_op op_pow pe_int pe_int) (pa_cons (pe_op op_pow pe_int pe_int) pa_nil)))))) (pe_op op_sub (pv 1) pe_int) (fun _ _ => rfl)) pa_nil))))))), ?_⟩
    refine ⟨_, rfl, b, 7, k, rfl, hb, by omega, by decide, m_small (by decide) (by decide), fun r H1 e1 b1 r0 r1 => ?_⟩
    refine ⟨_, rfl, _, _, rfl, rfl, _, rfl, ?_⟩
    refine ite2 (fun hc => ?_) (fun hc => ?_)
    · refine ⟨by decide, fun t ht => ?_⟩
      have hr2 : r = 0 ∨ r = 1 := by have := of_decide_eq_true hc; omega
      rcases hr2 with rfl | rfl
      · exact ⟨_, rfl, _, _, _, _, rfl, rfl, SqL.of upd_same, rfl, ret .endless _ (e1.new ht) ((b1.same (same_new ht)).mono (by omega)) (Nat.zero_le _)⟩
      · exact ⟨_, rfl, _, _, _, _, rfl, rfl, SqL.of upd_same, rfl, ret .dead _ (e1.new ht) ((b1.same (same_new ht)).mono (by omega)) (Nat.zero_le _)⟩
    · have hr5 : ∃ j : Nat, r - 2 = (j : Int) ∧ j < 5 := ⟨(r - 2).toNat, by have := dF hc; omega, by omega⟩
      obtain ⟨j, hj, j5⟩ := hr5
      refine ⟨_, rfl, _, _, rfl, rfl, ⟨by decide, by decide, by decide⟩, _, _, rfl, rfl, ⟨by decide, by decide, by decide⟩, by decide, fun t ht => ?_⟩
      have fin : ∀ m : Int, 0 < m → m ≤ 10 ^ 38 → sp_take [.ref b, .int m] (upd H1 t (.lst [.int 2, .int 9, .int 1000, .int (10 ^ 9), .int (10 ^ 38)])) Q E0 := fun m m0 m1 =>
        ⟨b, m, k + 1, rfl, b1.same (same_new ht), by omega, m0, m_small (by omega) (by omega), fun q H2 e2 b2 q0 q1 => by
          obtain ⟨n, rfl⟩ := Int.eq_ofNat_of_zero_le q0
          refine ret (.num n) _ ((e1.new ht).trans e2) b2 ?_
          show n ≤ 1 * big
          have : (big : Int) = 10 ^ 38 := by decide
          omega⟩
      refine ⟨_, rfl, _, _, rfl, rfl, ?_⟩
      have at5 : ∃ m : Int, [V.int 2, V.int 9, V.int 1000, V.int (10 ^ 9), V.int (10 ^ 38)][j]? = some (.int m) ∧ 0 < m ∧ m ≤ 10 ^ 38 := by
        rcases (show j = 0 ∨ j = 1 ∨ j = 2 ∨ j = 3 ∨ j = 4 by omega) with rfl | rfl | rfl | rfl | rfl
        · exact ⟨_, rfl, by decide, by decide⟩
        · exact ⟨_, rfl, by decide, by decide⟩
        · exact ⟨_, rfl, by decide, by decide⟩
        · exact ⟨_, rfl, by decide, by decide⟩
        · exact ⟨_, rfl, by decide, by decide⟩
      obtain ⟨m, hm, m0, m1⟩ := at5
      refine ⟨_, _, _, _, rfl, rfl, SqL.of upd_same, ?_, fin m m0 m1⟩
      show atI _ (r - 2) = _
      rw [hj]
      exact atI_nat hm
abbrev s_sum : Stmt := top 12
abbrev N_sum : List Str := ["_law_worths"]
abbrev P_sum : List Str := ["_law_worths"]
theorem sc_sum : FnScope N_sum P_sum (defScope s_sum) := ⟨rfl, rfl, rfl, by decide +kernel, rfl, by decide +kernel, by decide +kernel⟩
theorem ok_sum {f : Addr} {fd : FuncData} (D : DefAt K mg "_law_sum" s_sum P_sum f fd) (T : Txt K mg) : FnOk P w K mg base CX0 1 f fd P_sum (sp_sum K) := by
  refine D.fn.ok sc_sum (fun vs H Q E h => ?_) (fun cdv A outer s H vs Q E hr h => ?_)
  · obtain ⟨a, ws, rfl, _⟩ := h
    rfl
  · obtain ⟨a, ws, rfl, hS, ret⟩ := h
    refine ⟨_, (pss_cons (ps_if (pt_cmpR op_in_seq pe_str (pv 0) (by rfl))
      (pss_one (ps_ret pe_str))
      pss_nil)
      (pss_one (ps_ret (pe_ifExp (pt_cmpR op_in_seq pe_str (pv 0) (by rfl)) pe_str (pe_callB (cr_sum rfl) (by rfl) T.sum (by decide +kernel) (pa_cons (pv 0) pa_nil)))))), ?_⟩
    refine ⟨_, rfl, a, _, rfl, .inl hS, rfl, flat_w ws, _, rfl, ?_⟩
    rw [wsum_eq] at ret
    show (if inV (.str "dead") (ws.map W.v) = true then _ else _)
    rw [inV_dead]
    by_cases h1 : W.dead ∈ ws
    · rw [if_pos h1] at ret
      exact ifT h1 ret
    · rw [if_neg h1] at ret
      refine ifF h1 ⟨_, rfl, a, _, rfl, .inl hS, rfl, flat_w ws, _, rfl, ?_⟩
      show (if inV (.str "endless") (ws.map W.v) = true then _ else _)
      rw [inV_endless]
      by_cases h2 : W.endless ∈ ws
      · rw [if_pos h2] at ret
        exact ifT h2 ret
      · rw [if_neg h2] at ret
        rw [nums_w h1 h2] at hS
        refine ifF h2 ⟨_, rfl, a, _, rfl, hS, ?_⟩
        rw [sum_cast]
        exact ret
abbrev s_shown : Stmt := top 13
abbrev N_shown : List Str := ["_law_box"]
abbrev P_shown : List Str := ["_law_box"]
theorem sc_shown : FnScope N_shown P_shown (defScope s_shown) := ⟨rfl, rfl, rfl, by decide +kernel, rfl, by decide +kernel, by decide +kernel⟩
theorem ok_shown {C fa ga f f1 f2 f3 : Addr} {fd fd1 fd2 fd3 : FuncData} (D : DefAt K mg "_law_shown" s_shown P_shown f fd) (T : Txt K mg) (TL : LenTxt K mg C fa ga)
    (D_Len_steps : PropAt K C "steps" "Length.steps" s_Length_steps P_Length_steps f1 fd1) (D_Len_word : PropAt K C "word" "Length.word" s_Length_word P_Length_word f2 fd2)
    (D_Len_str : MethAt K C "__str__" "Length.__str__" s_Length_str P_Length_str f3 fd3) : FnOk P w K mg base CX0 6 f fd P_shown (sp_shown C) := by
  have R_Len_steps : FnR P w K mg base CX0 1 f1 (sp_len_steps C) := raw_ok (ok_Len_steps D_Len_steps TL) D_Len_steps.bd
  have R_Len_word : FnR P w K mg base CX0 1 f2 (sp_len_word C) := raw_ok (ok_Len_word D_Len_word TL) D_Len_word.bd
  have R_Len_str : FnR P w K mg base CX0 3 f3 (sp_len_str C) := raw_ok (ok_Len_str D_Len_str T TL D_Len_word) D_Len_str.bd
  refine D.fn.ok sc_shown (fun vs H Q E h => ?_) (fun cdv A outer s H vs Q E hr h => ?_)
  · obtain ⟨a, w, rfl, _⟩ := h
    rfl
  · obtain ⟨a, w, rfl, hw, hc, ret⟩ := h
    refine ⟨_, (pss_cons (ps_if (pt_not (pt_val (pe_callB (call_isiSl (.ref C)) (by rfl) T.isinstance (by decide +kernel) (pa_cons (pv 0) (pa_cons (pe_glob (v := .ref C) rfl TL.mg rfl) pa_nil)))))
      (pss_one (ps_ret pe_non))
      pss_nil)
      (pss_cons (ps_if (pt_cmpR op_isN (pe_propO (pv 0) TL.sc D_Len_steps.pr R_Len_steps (hr.mono (by decide))) pe_non (nomark _))
      (pss_one (ps_ret (pe_ifExp (PW.pt (pw_and (pt_cmpR op_in_seq (pe_propO (pv 0) TL.sc D_Len_word.pr R_Len_word (hr.mono (by decide))) (pe_lst (pa_cons pe_str (pa_cons pe_str pa_nil))) (by rfl)) (pw_and1 (pt_cmpR op_eq (pe_callTy (call_strO D_Len_str.at_ D_Len_str.isf R_Len_str (hr.mono (by decide)) pass0) (by rfl) T.str (by decide +kernel) (pa_cons (pv 0) pa_nil)) (pe_propO (pv 0) TL.sc D_Len_word.pr R_Len_word (hr.mono (by decide))) (nomark _))))) (pe_propO (pv 0) TL.sc D_Len_word.pr R_Len_word (hr.mono (by decide))) pe_non)))
      pss_nil)
      (pss_one (ps_ret (pe_ifExp (pt_cmpR (op_eqD hr.units) (pe_lst (pa_cons (pe_propO (pv 0) TL.sc D_Len_word.pr R_Len_word (hr.mono (by decide))) (pa_cons (pe_callTy (call_strO D_Len_str.at_ D_Len_str.isf R_Len_str (hr.mono (by decide)) pass0) (by rfl) T.str (by decide +kernel) (pa_cons (pv 0) pa_nil)) pa_nil))) (pe_lst (pa_cons pe_str (pa_cons (pe_callTy call_str_int (by rfl) T.str (by decide +kernel) (pa_cons (pe_propO (pv 0) TL.sc D_Len_steps.pr R_Len_steps (hr.mono (by decide))) pa_nil)) pa_nil))) (nomark _)) (pe_propO (pv 0) TL.sc D_Len_steps.pr R_Len_steps (hr.mono (by decide))) pe_non))))), ?_⟩
    obtain ⟨dx, ss, hs⟩ := hw.slt
    refine ⟨_, rfl, a, C, dx, _, _, true, rfl, rfl, fun _ q => q, hs, TL.sc, TL.si, TL.k1, _, rfl, ?_⟩
    refine ⟨_, rfl, a, dx, _, rfl, hs, a, w, rfl, hw, rfl, _, rfl, ?_⟩
    have steps_at : ∀ (H1 : Hp) (Q' : VK), Same H H1 → Q' w.steps H1 → tPropSl C (sp_len_steps C) E0 (tVar 0) [some (.ref a)] H1 Q' := fun H1 Q' s1 q =>
      ⟨_, rfl, a, dx, _, rfl, slt_same hs s1, a, w, rfl, hw.same s1, q⟩
    have word_at : ∀ (H1 : Hp) (Q' : VK), Same H H1 → (∀ H2, Same H1 H2 → Q' (.str w.word) H2) → tPropSl C (sp_len_word C) E0 (tVar 0) [some (.ref a)] H1 Q' := fun H1 Q' s1 q =>
      ⟨_, rfl, a, dx, _, rfl, slt_same hs s1, a, w, rfl, hw.same s1, q⟩
    have str_at : ∀ (H1 : Hp) (Q' : VK), Same H H1 → (∀ H2, Same H1 H2 → Q' (.str w.text) H2) → tCB (rStrO C (sp_len_str C) E0) (tCons (tVar 0) tNil) [some (.ref a)] H1 Q' := fun H1 Q' s1 q =>
      ⟨_, rfl, a, dx, _, rfl, slt_same hs s1, a, w, rfl, hw.same s1, hc, fun H2 s2 => ⟨_, rfl, q H2 s2⟩⟩
    cases hk : w with
    | num n =>
      subst hk
      refine ifF (by intro q; cases q) ?_
      refine word_at H _ (Same.refl H) fun H1 s1 => str_at H1 _ s1 fun H2 s2 => ⟨by show 2 ≤ sizeLine; decide, fun l1 n1 => ?_⟩
      have sm2 : Same H (upd H2 l1 (.lst [.str "steps", .str (W.text (.num n))])) := (s1.trans s2).trans (same_new n1)
      refine steps_at _ _ sm2 ⟨_, rfl, ?_, ⟨by show 2 ≤ sizeLine; decide, fun l2 n2 => ?_⟩⟩
      · show (n : Int).natAbs.log2 < 1920
        by_cases h0 : n = 0
        · subst h0
          decide
        · have := (Nat.log2_lt h0).mpr hc
          show n.log2 < 1920
          omega
      have ok : SeqAt.shaped (.list [.str "steps", .str (W.text (.num n))]) = true := by
        have o1 : PyData.strOk (Str.ofString "steps") = true := by decide +kernel
        have o2 : PyData.strOk (W.text (.num n)) = true := strOk_num n
        simp [SeqAt.shaped, PyData.canLay0, PyData.canLayAll0, PyData.depth, PyData.depthAll, o1, o2]
      refine ⟨.list [.str "steps", .str (W.text (.num n))], .list [.str "steps", .str (W.text (.num n))], .lst (SqL.of (same_new n2 _ _ upd_same)) (.cons (.str _) (.cons (.str _) .nil)),
        .lst (SqL.of upd_same) (.cons (.str _) (.cons (.str _) .nil)), ok, ok, _, rfl, ?_⟩
      rw [SeqAt.eqv_refl _ (SeqAt.canLay_of_shaped ok)]
      exact steps_at _ _ (sm2.trans (same_new n2)) (ret _ (sm2.trans (same_new n2)))
    | endless =>
      subst hk
      refine ifT rfl ?_
      refine word_at H _ (Same.refl H) fun H1 s1 => ⟨by decide, fun l1 n1 => ⟨_, _, rfl, .inl (SqL.of upd_same), rfl, rfl, _, rfl, ?_⟩⟩
      refine ite2 (fun _ => ?_) (fun q => absurd (by decide +kernel) q)
      have sm : Same H (upd H1 l1 (.lst [.str "endless", .str "dead"])) := s1.trans (same_new n1)
      refine str_at _ _ sm fun H2 s2 => word_at H2 _ (sm.trans s2) fun H3 s3 => ⟨rfl, _, rfl, ifT rfl ?_⟩
      exact word_at H3 _ ((sm.trans s2).trans s3) fun H4 s4 => ret _ (((sm.trans s2).trans s3).trans s4)
    | dead =>
      subst hk
      refine ifT rfl ?_
      refine word_at H _ (Same.refl H) fun H1 s1 => ⟨by decide, fun l1 n1 => ⟨_, _, rfl, .inl (SqL.of upd_same), rfl, rfl, _, rfl, ?_⟩⟩
      refine ite2 (fun _ => ?_) (fun q => absurd (by decide +kernel) q)
      have sm : Same H (upd H1 l1 (.lst [.str "endless", .str "dead"])) := s1.trans (same_new n1)
      refine str_at _ _ sm fun H2 s2 => word_at H2 _ (sm.trans s2) fun H3 s3 => ⟨rfl, _, rfl, ifT rfl ?_⟩
      exact word_at H3 _ ((sm.trans s2).trans s3) fun H4 s4 => ret _ (((sm.trans s2).trans s3).trans s4)
end L
namespace Hv
open PySem L2 SlX Evl
section
variable {K : PySem.W.Frag} {C : Addr} {σ : L2.St} {H H' : Hp} {ta tb te : TE} {v w : W}
theorem ev_shown (ha : EvLen C ta σ H w) (hc : w.cnt < 2 ^ 1900) : Ev (tCall (sp_shown C) [] E0 (tCons ta tNil)) σ H w.v := fun H1 e Q q =>
  ha H1 e _ fun a H2 e2 la => ⟨a, w, rfl, la, hc, fun H3 s3 => q H3 (e2.trans s3)⟩
theorem ev_sum {a : Addr} {ws : List W} (ha : Ev ta σ H (.ref a)) (hS : SqL K H a (ws.map W.v)) : Ev (tCall (sp_sum K) [] E0 (tCons ta tNil)) σ H (wsum ws).v := fun H1 e Q q =>
  ha H1 e _ fun H2 e2 => ⟨a, ws, rfl, ex_l (e.trans e2) hS, q H2 e2⟩
theorem ev_sumL {ws : List W} (ha : EvL ta σ H (ws.map W.v)) : Ev (tCall (sp_sum K) [] E0 (tCons ta tNil)) σ H (wsum ws).v := fun H1 e Q q =>
  ha H1 e _ fun p H2 _ e2 hp => ⟨p, ws, rfl, SqL.of hp, q H2 e2⟩
end
end Hv
namespace L
open PySem L2 Hv SlX Evl
variable {P : Program} {w : World} {K : PySem.W.Frag} {mg : Str → Option Value} {base : Heap}
abbrev s_added : Stmt := top 14
abbrev N_added : List Str := ["_law_worths", "_law_many", "_law_total", "_law_at", "_law_plain"]
abbrev P_added : List Str := ["_law_worths", "_law_many"]
theorem sc_added : FnScope N_added P_added (defScope s_added) := ⟨rfl, rfl, rfl, by decide +kernel, rfl, by decide +kernel, by decide +kernel⟩
theorem ok_added {C fa ga f f1 f2 : Addr} {fd fd1 fd2 : FuncData} (D : DefAt K mg "_law_added" s_added P_added f fd) (T : Txt K mg) (TL : LenTxt K mg C fa ga) (M_Len : Mk K C f1)
    (D_Len_init : MethAt K C "__init__" "Length.__init__" s_Length_init P_Length_init f1 fd1) (G_Len_init : FnOk P w K mg base CX0 2 f1 fd1 P_Length_init (sp_len_init C))
    (R_Len_add : FnR P w K mg base CX0 4 fa (sp_len_add C)) (R_Len_radd : FnR P w K mg base CX0 5 ga (sp_len_add C))
    (D_shown : DefAt K mg "_law_shown" s_shown P_shown f2 fd2) (G_shown : FnOk P w K mg base CX0 6 f2 fd2 P_shown (sp_shown C)) : FnOk P w K mg base CX0 7 f fd P_added (sp_added K) := by
  refine D.fn.ok sc_added (fun vs H Q E h => ?_) (fun cdv A outer s H vs Q E hr h => ?_)
  · obtain ⟨a, ws, n, rfl, _⟩ := h
    rfl
  · obtain ⟨a, ws, n, rfl, hS, l1, l20, hsm, ret⟩ := h
    refine ⟨_, (pss_cons (ps_asg (pe_make M_Len G_Len_init (hr.mono (by decide)) rfl TL.mg D_Len_init.bd .nil pass0 (pa_cons (pe_ix ix_list (pv 0) pe_int (fun _ _ => rfl)) pa_nil)) (pg_name (i := 2) sc_added.nd rfl (.inl rfl)))
      (pss_cons (ps_for PassesOwn.never rfl (pi_range2 (by rfl) T.range (pa_cons pe_int (pa_cons (pe_callB call_len_seq (by rfl) T.len (by decide +kernel) (pa_cons (pv 0) pa_nil)) pa_nil))) (pg_name (i := 3) sc_added.nd rfl (.inl rfl))
      (pss_cons (ps_asg (pe_and (pe_callB call_isi (by rfl) T.isinstance (by decide +kernel) (pa_cons (pe_ix ix_list (pv 0) (pv 3) (fun _ _ => rfl)) (pa_cons (pe_bltn (v := .ty "int") (u := .type "int") (by rfl) T.int (by decide +kernel) rfl) pa_nil))) (pe_one (pe_cmpR op_eq (pe_op op_mod (pe_callTy call_int1 (by rfl) T.int (by decide +kernel) (pa_cons (pe_op op_fdiv (pv 1) (pe_op op_add (pv 3) pe_int)) pa_nil)) pe_int) pe_int (nomark _)))) (pg_name (i := 4) sc_added.nd rfl (.inl rfl)))
      (pss_one (ps_if (pt_val (pv 4))
      (pss_one (ps_asg (pe_ifExp (pt_cmpR op_eq (pe_op op_mod (pe_callTy call_int1 (by rfl) T.int (by decide +kernel) (pa_cons (pv 1) pa_nil)) pe_int) pe_int (nomark _)) (pe_op (op_raddO TL.ad R_Len_radd (hr.mono (by decide)) pass0) (pe_ix ix_list (pv 0) (pv 3) (fun _ _ => rfl)) (pv 2)) (pe_op (op_addO TL.ad R_Len_add (hr.mono (by decide)) pass0) (pv 2) (pe_ix ix_list (pv 0) (pv 3) (fun _ _ => rfl)))) (pg_name (i := 2) sc_added.nd rfl (.inl rfl))))
      (pss_one (ps_asg (pe_op (op_addO TL.ad R_Len_add (hr.mono (by decide)) pass0) (pv 2) (pe_make M_Len G_Len_init (hr.mono (by decide)) rfl TL.mg D_Len_init.bd .nil pass0 (pa_cons (pe_ix ix_list (pv 0) (pv 3) (fun _ _ => rfl)) pa_nil))) (pg_name (i := 2) sc_added.nd rfl (.inl rfl))))))))
      (pss_one (ps_ret (pe_call G_shown (hr.mono (by decide)) rfl D_shown.mg D_shown.fn.kp D_shown.bd .nil pass0 (pa_cons (pv 2) pa_nil)))))), ?_⟩
    have at_ : ∀ j (hj : j < ws.length), (ws.map W.v)[j]? = some ws[j].v := fun j hj => by simp [hj]
    refine q_asgN (evl_make (w := ws[0]) rfl (ea_cons (ev_op (ev_var rfl) ev_c (rv_ixL hS (atI_nat (j := 0) (at_ 0 (by omega))))) ea_nil)) fun t H1 s1 lt => ?_
    refine ⟨_, rfl, _, _, rfl, .inl (ex_l s1 hS), 1, _, rfl, ⟨by decide, by decide, ?_, ?_⟩, for_range (lo := 1) (fun i σ' H' => ∃ t v3 v4, σ' = [some (.ref a), some (.int n), some (.ref t), v3, v4] ∧
      LenAt C H' t (wsum (ws.take (i + 1))) ∧ Small (wsum (ws.take (i + 1))) (i + 1) ∧ Same H H') ?_ ?_ ?_⟩
    · rw [List.length_map]
      omega
    · rw [List.length_map]
      omega
    · have e : ws.take 1 = [ws[0]] := by
        match ws, l1 with
        | x :: xs, _ => rfl
      refine ⟨t, none, none, rfl, ?_, ?_, s1⟩
      · rw [e]
        show LenAt C H1 t (ws[0].add (.num 0))
        rw [W.add_zero]
        exact lt
      · rw [e]
        show Small (ws[0].add (.num 0)) 1
        rw [W.add_zero]
        exact hsm _ (List.getElem_mem _)
    · rintro i σ' H' hi ⟨t, v3, v4, rfl, lt, st, sm⟩
      rw [List.length_map] at hi
      have hi' : i + 1 < ws.length := by omega
      have idx : (1 : Int) + (i : Nat) = ((i + 1 : Nat) : Int) := by omega
      have hx := at_ (i + 1) hi'
      have hw1 := hsm _ (List.getElem_mem hi')
      have step : wsum (ws.take (i + 1 + 1)) = (wsum (ws.take (i + 1))).add ws[i + 1] := by
        rw [List.take_succ, List.getElem?_eq_getElem hi', wsum_append]
        show _ = _
        congr 1
        exact W.add_zero _
      generalize ws[i + 1] = x at hx hw1 step
      have ixv : ∀ (σ2 : L2.St) (H2 : Hp), Ex H' H2 → σ2[0]? = some (some (.ref a)) → σ2[3]? = some (some (.int (1 + (i : Nat)))) → Ev (tOp (rIxL K) (tVar 0) (tVar 3)) σ2 H2 x.v := fun σ2 H2 e2 q0 q3 =>
        ev_op (ev_var q0) (ev_var q3) (rv_ixL (ex_l (Ex.trans sm e2) hS) (by rw [idx]; exact atI_nat hx))
      have fin : ∀ (v5 : Option V) (t2 : Addr) (H2 : Hp), Ex H' H2 → LenAt C H2 t2 ((wsum (ws.take (i + 1))).add x) →
          ∃ t v3 v4, [some (V.ref a), some (.int n), some (.ref t2), some (.int (1 + (i : Nat))), v5] = [some (.ref a), some (.int n), some (.ref t), v3, v4] ∧
            LenAt C H2 t (wsum (ws.take (i + 1 + 1))) ∧ Small (wsum (ws.take (i + 1 + 1))) (i + 1 + 1) ∧ Same H H2 := fun v5 t2 H2 e2 l2 =>
        ⟨t2, _, _, rfl, by rw [step]; exact l2, by rw [step]; exact small_add st hw1, Ex.trans sm e2⟩
      have plus : ∀ (p : Bool) (H2 : Hp), Ex H' H2 → EvLen C (tOp (rAddO C (sp_len_add C) E0) (tVar 2) (tMake C (sp_len_init C) [] E0 (tCons (tOp (rIxL K) (tVar 0) (tVar 3)) tNil)))
          [some (V.ref a), some (.int n), some (.ref t), some (.int (1 + (i : Nat))), some (.bl p)] H2 ((wsum (ws.take (i + 1))).add x) := fun p H2 e2 =>
        evl_add (evl_var rfl (lt.same e2)) (evl_make rfl (ea_cons (ixv _ H2 e2 rfl rfl) ea_nil))
      cases x with
      | num m =>
        have int1 : ∀ {H1 : Hp} {z : Int}, RC (fun xs H Q => (∃ i, xs = [.int i] ∧ Q (.int i) H) ∨ ∃ k, xs = [.bl k] ∧ Q (.int (if k then 1 else 0)) H) [.int z] H1 (.int z) := fun H2 _ Q q => .inl ⟨_, rfl, q H2 (Ex.refl H2)⟩
        refine q_asg (ev_andV (a := true) (ev_cb (ea_cons (ixv _ H' (Ex.refl H') rfl rfl) (ea_cons ev_c ea_nil)) (fun H1 e1 Q q => ⟨_, _, _, _, true, rfl, .ty _, .base (.int _), kit_ty (by decide +kernel), q H1 (Ex.refl H1)⟩))
          (fun _ => ev_op (ev_op (ev_cb (ea_cons (ev_op (ev_var rfl) (ev_op (ev_var rfl) ev_c rv_I0) (rv_I ⟨by omega, by omega⟩)) ea_nil) int1) ev_c (rv_I (by decide))) ev_c (rv_eq rfl))) fun H1 e1 => ?_
        refine s_if (et_B (ev_var rfl)) (fun _ H2 e2 => ?_) fun _ H2 e2 => ?_
        · refine s_asgN (evl_if (et_test (ev_op (ev_op (ev_cb (ea_cons (ev_var rfl) ea_nil) int1) ev_c (rv_I (by decide))) ev_c (rv_eq rfl)))
            (fun _ => evl_raddI (ixv _ H2 (e1.trans e2) rfl rfl) (evl_var rfl (lt.same (e1.trans e2)))) (fun _ => evl_addI (evl_var rfl (lt.same (e1.trans e2))) (ixv _ H2 (e1.trans e2) rfl rfl))) fun p H3 e3 l3 => fin _ p H3 ((e1.trans e2).trans e3) l3
        · exact s_asgN (plus _ H2 (e1.trans e2)) fun p H3 e3 l3 => fin _ p H3 ((e1.trans e2).trans e3) l3
      | endless =>
        refine q_asg (v := .bl false) (ev_is (ev_andV (a := false) (b := false) (ev_cb (ea_cons (ixv _ H' (Ex.refl H') rfl rfl) (ea_cons ev_c ea_nil)) (fun H1 e1 Q q => ⟨_, _, _, _, false, rfl, .ty _, .base (.str _), kit_ty (by decide +kernel), q H1 (Ex.refl H1)⟩)) (fun z => by cases z)) rfl) fun H1 e1 => ?_
        refine s_if (b := false) (et_B (ev_var rfl)) (fun z => by cases z) fun _ H2 e2 => ?_
        exact s_asgN (plus false H2 (e1.trans e2)) fun p H3 e3 l3 => fin _ p H3 ((e1.trans e2).trans e3) l3
      | dead =>
        refine q_asg (v := .bl false) (ev_is (ev_andV (a := false) (b := false) (ev_cb (ea_cons (ixv _ H' (Ex.refl H') rfl rfl) (ea_cons ev_c ea_nil)) (fun H1 e1 Q q => ⟨_, _, _, _, false, rfl, .ty _, .base (.str _), kit_ty (by decide +kernel), q H1 (Ex.refl H1)⟩)) (fun z => by cases z)) rfl) fun H1 e1 => ?_
        refine s_if (b := false) (et_B (ev_var rfl)) (fun z => by cases z) fun _ H2 e2 => ?_
        exact s_asgN (plus false H2 (e1.trans e2)) fun p H3 e3 l3 => fin _ p H3 ((e1.trans e2).trans e3) l3
    · rintro σ' H' ⟨t, v3, v4, rfl, lt, st, sm⟩
      have e : ((ws.map W.v).length - 1 : Int).toNat + 1 = ws.length := by
        rw [List.length_map]
        omega
      rw [e, List.take_length] at lt st
      exact ⟨_, rfl, t, _, rfl, lt, small_str st (by omega), fun H2 s2 => ret H2 (sm.trans s2)⟩
end L
namespace Hv
open PySem L2 SlX Evl
theorem LenAt.put {C : Addr} {H : Hp} {a D : Addr} {w : W} {xs ys : List V} (h : LenAt C H a w) (hD : H D = some (.lst xs)) : LenAt C (upd H D (.lst ys)) a w := by
  obtain ⟨dx, pt, h1, h2⟩ := h
  have np : pt ≠ D := ne_of h2 hD (by intro q; cases q)
  rcases h1 with ⟨_, z⟩ | ⟨h1, h3⟩
  · cases z
  · have na : a ≠ D := ne_of h1 hD (by intro q; cases q)
    have nd : dx ≠ D := ne_of h3 hD (by intro q; cases q)
    exact ⟨dx, pt, .inr ⟨by rw [upd_ne na]; exact h1, by rw [upd_ne nd]; exact h3⟩, by rw [upd_ne np]; exact h2⟩
theorem LenAt.but {C : Addr} {H H' : Hp} {a b : Addr} {w : W} {k : Nat} (h : LenAt C H a w) (hb : Bag H b k) (e : But b H H') : LenAt C H' a w := by
  obtain ⟨dx, pt, h1, h2⟩ := h
  obtain ⟨s, d, n, hb, _⟩ := hb
  have np : pt ≠ b := ne_of h2 hb (by intro q; cases q)
  rcases h1 with ⟨_, z⟩ | ⟨h1, h3⟩
  · cases z
  · have na : a ≠ b := ne_of h1 hb (by intro q; cases q)
    have nd : dx ≠ b := ne_of h3 hb (by intro q; cases q)
    exact ⟨dx, pt, .inr ⟨e _ _ na h1, e _ _ nd h3⟩, e _ _ np h2⟩
/-- lengths one by one -/
inductive Lens (C : Addr) (H : Hp) : List Addr → List W → Prop
  | nil : Lens C H [] []
  | cons {a : Addr} {w : W} {as : List Addr} {ws : List W} : LenAt C H a w → Lens C H as ws → Lens C H (a :: as) (w :: ws)
theorem Lens.imp {C : Addr} {H H' : Hp} (k : ∀ a w, LenAt C H a w → LenAt C H' a w) : ∀ {as : List Addr} {ws : List W}, Lens C H as ws → Lens C H' as ws
  | _, _, .nil => .nil
  | _, _, .cons h t => .cons (k _ _ h) (Lens.imp k t)
theorem Lens.snoc {C : Addr} {H : Hp} {a : Addr} {w : W} (h : LenAt C H a w) : ∀ {as : List Addr} {ws : List W}, Lens C H as ws → Lens C H (as ++ [a]) (ws ++ [w])
  | _, _, .nil => .cons h .nil
  | _, _, .cons g t => .cons g (Lens.snoc h t)
theorem Lens.length {C : Addr} {H : Hp} : ∀ {as : List Addr} {ws : List W}, Lens C H as ws → as.length = ws.length
  | _, _, .nil => rfl
  | _, _, .cons _ t => congrArg (· + 1) (Lens.length t)
theorem Lens.get {C : Addr} {H : Hp} : ∀ {as : List Addr} {ws : List W} {i : Nat} {a : Addr}, Lens C H as ws → as[i]? = some a → ∃ w, ws[i]? = some w ∧ LenAt C H a w
  | _, _, _, _, .nil, e => by simp at e
  | _, _, 0, _, .cons h _, e => by simp at e; subst e; exact ⟨_, rfl, h⟩
  | _, _, i + 1, a, .cons _ t, e => Lens.get (i := i) (a := a) t (by simpa using e)
def EvLens (C : Addr) (ta : TA) (σ : L2.St) (H : Hp) (ws : List W) : Prop := ∀ H1, Ex H H1 → ∀ Q : List V → Hp → Prop, (∀ as H2, Ex H1 H2 → Lens C H2 as ws → Q (as.map V.ref) H2) → ta σ H1 Q
section
variable {K : PySem.W.Frag} {C : Addr} {σ : L2.St} {H H' : Hp} {ta tb te : TE} {tr : TA} {v w : W} {ws : List W}
theorem els_nil : EvLens C tNil σ H [] := fun H1 _ _ q => q [] H1 (Ex.refl H1) .nil
theorem els_cons (h : EvLen C ta σ H w) (hr : EvLens C tr σ H ws) : EvLens C (tCons ta tr) σ H (w :: ws) := fun H1 e Q q =>
  h H1 e _ fun a H2 e2 l => hr H2 (e.trans e2) _ fun as H3 e3 ls => q (a :: as) H3 (e2.trans e3) (.cons (l.same e3) ls)
theorem q_asgLens {i : Nat} {D : Ends} {tz : TS} (h : EvLens C tr σ H ws) (hl : ws.length ≤ 1000) (k : ∀ p as H1, Ex H H1 → H1 p = some (.lst (as.map V.ref)) → Lens C H1 as ws → tz D (σ.set i (some (.ref p))) H1) :
    tSeq (tAsg (tLst tr) (gName i)) tz D σ H := h H (Ex.refl H) _ fun as H1 e1 ls =>
  ⟨by rw [List.length_map, ls.length]; exact Nat.le_trans hl (by decide), fun p hp => k p as _ (e1.trans (Ex.new hp)) upd_same (ls.imp fun a w l => l.same (same_new hp))⟩
theorem el_rep {xs : List V} {n : Nat} (h : EvL te σ H xs) (hn : n ≤ 100) (hx : xs.length ≤ 100) : EvL (tOp rRep te (tC (.int (n : Int)))) σ H (List.replicate n xs).flatten := fun H1 e Q q =>
  h H1 e _ fun p H2 hp e2 h2 => by
    refine ⟨p, (n : Int), xs, rfl, rfl, h2, by omega, by omega, ?_, fun r hr => ?_⟩
    · show xs.length * ((n : Int)).toNat ≤ sizeLine
      have h1 : xs.length * n ≤ 100 * 100 := Nat.mul_le_mul hx hn
      have h3 : 100 * 100 ≤ sizeLine := by decide
      rw [Int.toNat_natCast]
      omega
    · exact q r _ (fresh_back e2 hr) (e2.trans (Ex.new hr)) upd_same
/-- two lists of the same worths -/
theorem shaped_list (ws : List W) : SeqAt.shaped (.list (ws.map W.d)) = true := by
  have h1 : PyData.canLayAll0 (ws.map W.d) = true := by
    induction ws with
    | nil => rfl
    | cons w ws ih =>
      show (PyData.canLay0 w.d && PyData.canLayAll0 (ws.map W.d)) = true
      rw [ih, SeqAt.canLay_of_shaped w.shaped]
      rfl
  have h2 : PyData.depthAll (ws.map W.d) ≤ 1 := by
    induction ws with
    | nil => decide
    | cons w ws ih =>
      have hw : w.d.depth ≤ 1 := by cases w <;> exact Nat.zero_le _
      have := ih (by
        have : (PyData.canLay0 w.d && PyData.canLayAll0 (ws.map W.d)) = true := h1
        rw [Bool.and_eq_true] at this
        exact this.2)
      show max w.d.depth (PyData.depthAll (ws.map W.d)) ≤ 1
      omega
  unfold SeqAt.shaped
  rw [Bool.and_eq_true]
  refine ⟨h1, decide_eq_true ?_⟩
  show PyData.depthAll (ws.map W.d) + 1 ≤ 64
  omega
theorem rv_neW {p q : Addr} {xs ys : List V} (hp : SqL K H p (ws.map W.v)) (hq : SqL K H q (ws.map W.v)) : RV (rNeD K) (.ref p) (.ref q) H (.bl false) := fun H1 e Q k => by
  refine ⟨.list (ws.map W.d), .list (ws.map W.d), .lst (ex_l e hp) (W.dpAll ws), .lst (ex_l e hq) (W.dpAll ws), shaped_list ws, shaped_list ws, ?_⟩
  rw [SeqAt.eqv_refl _ (SeqAt.canLay_of_shaped (shaped_list ws))]
  exact k H1 (Ex.refl H1)
theorem rv_eqW {p q : Addr} (hp : SqL K H p (ws.map W.v)) (hq : SqL K H q (ws.map W.v)) : RV (rEqD K) (.ref p) (.ref q) H (.bl true) := fun H1 e Q k => by
  refine ⟨.list (ws.map W.d), .list (ws.map W.d), .lst (ex_l e hp) (W.dpAll ws), .lst (ex_l e hq) (W.dpAll ws), shaped_list ws, shaped_list ws, ?_⟩
  rw [SeqAt.eqv_refl _ (SeqAt.canLay_of_shaped (shaped_list ws))]
  exact k H1 (Ex.refl H1)
end
def sp_right : Sp := fun vs H Q _ => ∃ (b : Addr) (k : Nat), vs = [.ref b] ∧ Bag H b k ∧ k < 800000 ∧ ∀ H', But b H H' → Bag H' b (k + 10) → Q (.bl true) H'
def sp_law (K : PySem.W.Frag) : Sp := fun vs H Q _ => ∃ (a : Addr) (ns : List Int), vs = [.ref a] ∧ SqL K H a (ns.map V.int) ∧ ns.length ≤ 63 ∧ (∀ z ∈ ns, Builtin.Int.intBits z ≤ 1048576) ∧ ∀ H', Q (.bl true) H'
end Hv
namespace L
open PySem L2 Hv SlX Evl
variable {P : Program} {w : World} {K : PySem.W.Frag} {mg : Str → Option Value} {base : Heap}
abbrev s_right : Stmt := top 15
abbrev N_right : List Str := ["_law_bag_here", "_law_worths", "_law_one", "_law_two", "_law_three", "_law_number", "_law_due", "_law_some", "_law_k", "_law_worth_here", "_law_box"]
abbrev P_right : List Str := ["_law_bag_here"]
theorem sc_right : FnScope N_right P_right (defScope s_right) := ⟨rfl, rfl, rfl, by decide +kernel, rfl, by decide +kernel, by decide +kernel⟩
theorem ok_right {C fa ga f f1 f2 f3 f4 f5 f6 f7 : Addr} {fd fd1 fd2 fd3 fd4 fd5 fd6 fd7 : FuncData} (D : DefAt K mg "_law_right" s_right P_right f fd) (T : Txt K mg) (TL : LenTxt K mg C fa ga) (M_Len : Mk K C f1)
    (D_Len_init : MethAt K C "__init__" "Length.__init__" s_Length_init P_Length_init f1 fd1) (G_Len_init : FnOk P w K mg base CX0 2 f1 fd1 P_Length_init (sp_len_init C))
    (R_Len_add : FnR P w K mg base CX0 4 fa (sp_len_add C)) (R_Len_radd : FnR P w K mg base CX0 5 ga (sp_len_add C))
    (D_Len_eq : MethAt K C "__eq__" "Length.__eq__" s_Length_eq P_Length_eq f2 fd2) (D_Len_le : MethAt K C "__le__" "Length.__le__" s_Length_le P_Length_le f3 fd3)
    (D_shown : DefAt K mg "_law_shown" s_shown P_shown f4 fd4) (G_shown : FnOk P w K mg base CX0 6 f4 fd4 P_shown (sp_shown C))
    (D_take : DefAt K mg "_law_take" s_take P_take f5 fd5) (D_worth : DefAt K mg "_law_worth" s_worth P_worth f6 fd6) (D_sum : DefAt K mg "_law_sum" s_sum P_sum f7 fd7) : FnOk P w K mg base CX0 7 f fd P_right sp_right := by
  have G_take : FnOk P w K mg base CX0 1 f5 fd5 P_take sp_take := ok_take D_take T
  have G_worth : FnOk P w K mg base CX0 2 f6 fd6 P_worth sp_worth := ok_worth D_worth T D_take
  have G_sum : FnOk P w K mg base CX0 1 f7 fd7 P_sum (sp_sum K) := ok_sum D_sum T
  have R_Len_eq : FnR P w K mg base CX0 1 f2 (sp_len_eq C) := raw_ok (ok_Len_eq D_Len_eq T TL) D_Len_eq.bd
  have R_Len_le : FnR P w K mg base CX0 1 f3 (sp_len_le C) := raw_ok (ok_Len_le D_Len_le T TL) D_Len_le.bd
  refine D.fn.ok sc_right (fun vs H Q E h => ?_) (fun cdv A outer s H vs Q E hr h => ?_)
  · obtain ⟨b, k, rfl, _⟩ := h
    rfl
  · obtain ⟨b, k, rfl, hb, hk, ret⟩ := h
    refine ⟨_, (pss_cons (ps_setLc (i := 1) (own := [("_law_k", 8)]) (g := gName 8) rfl sc_right.nd rfl rfl (sw_true rfl rfl rfl (by decide +kernel)) (pi_range1 (by rfl) T.range (pa_cons pe_int pa_nil)) (blkOk_by (own := [("_law_k", 8)]) (N := N_right) (sc := defScope s_right) (by decide +kernel)) (fun _ _ _ _ _ => (pg_name (i := 8) sc_right.nd rfl (.inl rfl))) (fun _ _ _ _ _ => pts_nil) (fun _ _ _ _ _ => (pe_call G_worth (hr.mono (by decide)) rfl D_worth.mg D_worth.fn.kp D_worth.bd .nil pass0 (pa_cons (pv 0) pa_nil))))
      (pss_cons (ps_asg (pe_lc (own := [("_law_worth_here", 9)]) (g := gName 9) rfl sc_right.nd (pi_list (pv 1)) (blkOk_by (own := [("_law_worth_here", 9)]) (N := N_right) (sc := defScope s_right) (by decide +kernel)) (fun _ _ _ _ _ => (pg_name (i := 9) sc_right.nd rfl (.inl rfl))) (fun _ _ _ _ _ => pts_nil) (fun _ _ _ _ _ => (pe_make M_Len G_Len_init (hr.mono (by decide)) rfl TL.mg D_Len_init.bd .nil pass0 (pa_cons (pv 9) pa_nil)))) (pg_unl (by rfl) (pgs_cons (pg_name (i := 2) sc_right.nd rfl (.inl rfl)) (pgs_cons (pg_name (i := 3) sc_right.nd rfl (.inl rfl)) (pgs_cons (pg_name (i := 4) sc_right.nd rfl (.inl rfl)) pgs_nil)))))
      (pss_cons (ps_asg (pe_call G_take (hr.mono (by decide)) rfl D_take.mg D_take.fn.kp D_take.bd .nil pass0 (pa_cons (pv 0) (pa_cons (pe_ix ix_list (pe_lst (pa_cons pe_int (pa_cons (pe_op op_pow pe_int pe_int) pa_nil))) (pe_call G_take (hr.mono (by decide)) rfl D_take.mg D_take.fn.kp D_take.bd .nil pass0 (pa_cons (pv 0) (pa_cons pe_int pa_nil))) (fun _ _ => rfl)) pa_nil))) (pg_name (i := 5) sc_right.nd rfl (.inl rfl)))
      (pss_cons (ps_asg (pe_call G_sum (hr.mono (by decide)) rfl D_sum.mg D_sum.fn.kp D_sum.bd .nil pass0 (pa_cons (pv 1) pa_nil)) (pg_name (i := 6) sc_right.nd rfl (.inl rfl)))
      (pss_cons (ps_asg (pe_lst (pa_cons (pe_call G_shown (hr.mono (by decide)) rfl D_shown.mg D_shown.fn.kp D_shown.bd .nil pass0 (pa_cons (pe_op (op_addO TL.ad R_Len_add (hr.mono (by decide)) pass0) (pe_op (op_addO TL.ad R_Len_add (hr.mono (by decide)) pass0) (pv 2) (pv 3)) (pv 4)) pa_nil)) (pa_cons (pe_call G_shown (hr.mono (by decide)) rfl D_shown.mg D_shown.fn.kp D_shown.bd .nil pass0 (pa_cons (pe_op (op_addO TL.ad R_Len_add (hr.mono (by decide)) pass0) (pv 2) (pe_op (op_addO TL.ad R_Len_add (hr.mono (by decide)) pass0) (pv 3) (pv 4))) pa_nil)) (pa_cons (pe_call G_shown (hr.mono (by decide)) rfl D_shown.mg D_shown.fn.kp D_shown.bd .nil pass0 (pa_cons (pe_op (op_addO TL.ad R_Len_add (hr.mono (by decide)) pass0) (pe_op (op_addO TL.ad R_Len_add (hr.mono (by decide)) pass0) (pv 4) (pv 3)) (pv 2)) pa_nil)) pa_nil)))) (pg_name (i := 7) sc_right.nd rfl (.inl rfl)))
      (pss_cons (ps_if (PW.pt (pw_or (pt_cmpR (op_neD hr.units) (pv 7) (pe_op op_rep (pe_lst (pa_cons (pv 6) pa_nil)) pe_int) (nomark _)) (pw_or (pt_cmpR op_ne (pe_call G_shown (hr.mono (by decide)) rfl D_shown.mg D_shown.fn.kp D_shown.bd .nil pass0 (pa_cons (pe_op (op_addO TL.ad R_Len_add (hr.mono (by decide)) pass0) (pv 2) (pv 3)) pa_nil)) (pe_call G_sum (hr.mono (by decide)) rfl D_sum.mg D_sum.fn.kp D_sum.bd .nil pass0 (pa_cons (pe_slice sl_list (pv 1) po_none (po_some pe_int)) pa_nil)) (nomark _)) (pw_or1 (pt_not (pt_cmpR (op_own (op := .Eq) (fun _ _ => rfl) D_Len_eq.at_ D_Len_eq.isf R_Len_eq (hr.mono (by decide)) pass0) (pe_op (op_addO TL.ad R_Len_add (hr.mono (by decide)) pass0) (pv 2) (pv 3)) (pe_op (op_addO TL.ad R_Len_add (hr.mono (by decide)) pass0) (pv 3) (pv 2)) (nomark _)))))))
      (pss_one (ps_ret pe_bl))
      pss_nil)
      (pss_cons (ps_asg (pe_lst (pa_cons (pe_op (op_addO TL.ad R_Len_add (hr.mono (by decide)) pass0) (pv 2) (pv 5)) (pa_cons (pe_op (op_raddO TL.ad R_Len_radd (hr.mono (by decide)) pass0) (pv 5) (pv 2)) (pa_cons (pe_op (op_addO TL.ad R_Len_add (hr.mono (by decide)) pass0) (pv 2) (pe_make M_Len G_Len_init (hr.mono (by decide)) rfl TL.mg D_Len_init.bd .nil pass0 (pa_cons (pv 5) pa_nil))) (pa_cons (pe_op (op_addO TL.ad R_Len_add (hr.mono (by decide)) pass0) (pe_make M_Len G_Len_init (hr.mono (by decide)) rfl TL.mg D_Len_init.bd .nil pass0 (pa_cons (pv 5) pa_nil)) (pv 2)) pa_nil))))) (pg_name (i := 7) sc_right.nd rfl (.inl rfl)))
      (pss_cons (ps_if (pt_cmpR (op_neD hr.units) (pe_lc (own := [("_law_box", 10)]) (g := gName 10) rfl sc_right.nd (pi_list (pv 7)) (blkOk_by (own := [("_law_box", 10)]) (N := N_right) (sc := defScope s_right) (by decide +kernel)) (fun _ _ _ _ _ => (pg_name (i := 10) sc_right.nd rfl (.inl rfl))) (fun _ _ _ _ _ => pts_nil) (fun _ _ _ _ _ => (pe_call G_shown (hr.mono (by decide)) rfl D_shown.mg D_shown.fn.kp D_shown.bd .nil pass0 (pa_cons (pv 10) pa_nil)))) (pe_op op_rep (pe_lst (pa_cons (pe_call G_sum (hr.mono (by decide)) rfl D_sum.mg D_sum.fn.kp D_sum.bd .nil pass0 (pa_cons (pe_lst (pa_cons (pe_ix ix_list (pv 1) pe_int (fun _ _ => rfl)) (pa_cons (pv 5) pa_nil))) pa_nil)) pa_nil)) pe_int) (nomark _))
      (pss_one (ps_ret pe_bl))
      pss_nil)
      (pss_cons (ps_if (PW.pt (pw_or (pt_not (pt_cmpR (op_own (op := .Eq) (fun _ _ => rfl) D_Len_eq.at_ D_Len_eq.isf R_Len_eq (hr.mono (by decide)) pass0) (pe_op (op_addO TL.ad R_Len_add (hr.mono (by decide)) pass0) (pv 2) pe_int) (pv 2) (nomark _))) (pw_or (pt_not (pt_cmpR (op_own (op := .Eq) (fun _ _ => rfl) D_Len_eq.at_ D_Len_eq.isf R_Len_eq (hr.mono (by decide)) pass0) (pe_op (op_raddO TL.ad R_Len_radd (hr.mono (by decide)) pass0) pe_int (pv 2)) (pv 2) (nomark _))) (pw_or1 (pt_not (pt_cmpR (op_own (op := .LtE) (fun _ _ => rfl) D_Len_le.at_ D_Len_le.isf R_Len_le (hr.mono (by decide)) pass0) (pv 2) (pe_op (op_addO TL.ad R_Len_add (hr.mono (by decide)) pass0) (pv 2) (pv 3)) (nomark _)))))))
      (pss_one (ps_ret pe_bl))
      pss_nil)
      (pss_cons (ps_if (PW.pt (pw_and (pt_cmpR (op_own (op := .LtE) (fun _ _ => rfl) D_Len_le.at_ D_Len_le.isf R_Len_le (hr.mono (by decide)) pass0) (pv 2) (pv 3) (nomark _)) (pw_and1 (pt_not (pt_cmpR (op_own (op := .LtE) (fun _ _ => rfl) D_Len_le.at_ D_Len_le.isf R_Len_le (hr.mono (by decide)) pass0) (pe_op (op_addO TL.ad R_Len_add (hr.mono (by decide)) pass0) (pv 2) (pv 4)) (pe_op (op_addO TL.ad R_Len_add (hr.mono (by decide)) pass0) (pv 3) (pv 4)) (nomark _))))))
      (pss_one (ps_ret pe_bl))
      pss_nil)
      (pss_cons (ps_if (PW.pt (pw_and (pt_cmpR (op_own (op := .LtE) (fun _ _ => rfl) D_Len_le.at_ D_Len_le.isf R_Len_le (hr.mono (by decide)) pass0) (pv 3) (pv 2) (nomark _)) (pw_and1 (pt_not (pt_cmpR (op_own (op := .LtE) (fun _ _ => rfl) D_Len_le.at_ D_Len_le.isf R_Len_le (hr.mono (by decide)) pass0) (pe_op (op_raddO TL.ad R_Len_radd (hr.mono (by decide)) pass0) (pv 5) (pv 3)) (pe_op (op_addO TL.ad R_Len_add (hr.mono (by decide)) pass0) (pv 2) (pv 5)) (nomark _))))))
      (pss_one (ps_ret pe_bl))
      pss_nil)
      (pss_one (ps_ret (pe_cmpR (op_eqD hr.units) (pe_lc (own := [("_law_box", 10)]) (g := gName 10) rfl sc_right.nd (pi_list (pe_lst (pa_cons (pv 2) (pa_cons (pv 3) (pa_cons (pv 4) pa_nil))))) (blkOk_by (own := [("_law_box", 10)]) (N := N_right) (sc := defScope s_right) (by decide +kernel)) (fun _ _ _ _ _ => (pg_name (i := 10) sc_right.nd rfl (.inl rfl))) (fun _ _ _ _ _ => pts_nil) (fun _ _ _ _ _ => (pe_call G_shown (hr.mono (by decide)) rfl D_shown.mg D_shown.fn.kp D_shown.bd .nil pass0 (pa_cons (pv 10) pa_nil)))) (pv 1) (nomark _))))))))))))))), ?_⟩
    refine ⟨3, rfl, by decide, by decide, fun dl nd => ?_⟩
    have ndb : dl ≠ b := hb.ne_none nd
    refine lc_range (lo := 0) (n := 3) (fun i H' => ∃ l : List W, l.length = i ∧ (∀ w ∈ l, Small w 1) ∧ H' dl = some (.lst (l.map W.v)) ∧ Bag H' b (k + 2 * i) ∧ But b H H')
      ⟨[], rfl, (fun _ z => by cases z), upd_same, hb.same (same_new nd), But.refl.new nd⟩ ?_ ?_
    · rintro i H1 hi ⟨l, hl, hsm, h1, h2, h3⟩
      refine ⟨rfl, _, rfl, b, k + 2 * i, rfl, h2, by omega, fun w H2 e2 b2 sw => ⟨_, e2 _ _ ndb h1, ?_, l ++ [w], ?_, ?_, ?_, ?_, ?_⟩⟩
      · rw [List.length_map, hl]
        exact Nat.lt_trans hi (by decide)
      · rw [List.length_append, hl]
        rfl
      · intro z hz
        rcases List.mem_append.mp hz with q | q
        · exact hsm z q
        · cases List.mem_singleton.mp q
          exact sw
      · rw [upd_same, List.map_append]
        rfl
      · exact b2.put ndb
      · intro a o na ea
        have nad : a ≠ dl := ne_of_none ea nd
        rw [upd_ne nad]
        exact e2 _ _ na (h3 _ _ na ea)
    rintro H1 ⟨l, hl, hsm, hD, b1, e1⟩
    match l, hl, hsm, hD with
    | [w1, w2, w3], _, hsm, hD =>
    have sm1 : Small w1 1 := hsm w1 (by simp)
    have sm2 : Small w2 1 := hsm w2 (by simp)
    have sm3 : Small w3 1 := hsm w3 (by simp)
    refine ⟨_, rfl, dl, rfl, ⟨_, SqL.of hD⟩, fun el ne => ?_⟩
    refine lc_list (K := K) (a := dl) (xs := [w1, w2, w3].map W.v) (fun i H' => ∃ as : List Addr, Lens C H' as ([w1, w2, w3].take i) ∧ H' el = some (.lst (as.map V.ref)) ∧ Same H1 H')
      ⟨[], .nil, upd_same, same_new ne⟩ (fun i H' _ ⟨_, _, _, s1⟩ => SqL.of (s1 _ _ hD)) ?_ ?_
    · rintro i x H2 hx ⟨as, ls, he, s2⟩
      have hi : i < 3 := (List.getElem?_eq_some_iff.mp hx).1
      obtain ⟨z, hz, rfl⟩ : ∃ z, [w1, w2, w3][i]? = some z ∧ x = z.v := by
        rw [List.getElem?_map] at hx
        cases q : [w1, w2, w3][i]? with
        | none => rw [q] at hx; cases hx
        | some z => rw [q] at hx; exact ⟨z, rfl, (Option.some.inj hx).symm⟩
      refine ⟨rfl, ?_⟩
      dsimp only [tYes]
      rw [if_pos rfl]
      refine use_len (w := z) (evl_make rfl (ea_cons (ev_var rfl) ea_nil)) fun p H3 e3 l3 => ⟨_, e3 _ _ he, ?_, as ++ [p], ?_, ?_, ?_⟩
      · have := ls.length
        rw [List.length_map]
        have l2 : ([w1, w2, w3].take i).length ≤ 3 := by rw [List.length_take]; omega
        have : 3 < sizeLine := by decide
        omega
      · have t2 : [w1, w2, w3].take (i + 1) = [w1, w2, w3].take i ++ [z] := by
          rw [List.take_succ, hz]
          rfl
        rw [t2]
        exact ((ls.imp fun a w l => l.same e3).snoc l3).imp fun a w l => l.put (e3 _ _ he)
      · rw [upd_same, List.map_append]
        rfl
      · exact same_put (Same.trans s2 e3) ne
    rintro H2 ⟨as, ls, he, s2⟩
    match as, ls with
    | [a1, a2, a3], .cons l1 (.cons l2 (.cons l3 .nil)) =>
    refine ⟨el, _, rfl, SqL.of he, rfl, _, _, rfl, _, _, rfl, _, _, rfl, rfl, ?_⟩
    have b2 : Bag H2 b (k + 6) := b1.same s2
    have e2 : But b H H2 := e1.trans (But.of s2)
    have hD2 := s2 _ _ hD
    dsimp only
    refine join_asg (fun v H' => ∃ n : Nat, v = .int (n : Int) ∧ Small (.num n) 1 ∧ But b H2 H' ∧ Bag H' b (k + 8)) (fun Q' fin => ?_) ?_
    · refine ⟨_, rfl, _, _, rfl, rfl, ⟨by decide, by decide, by decide⟩, by decide, fun q nq => ?_⟩
      have nqb : q ≠ b := b2.ne_none nq
      refine ⟨_, rfl, b, 2, k + 6, rfl, b2.same (same_new nq), by omega, by decide, m_small (by decide) (by decide), fun r H3 e3 b3 r0 r1 => ?_⟩
      have go : ∀ m : Int, 0 < m → m ≤ 10 ^ 38 → sp_take [.ref b, .int m] H3 Q' E0 := fun m m0 m1 =>
        ⟨b, m, k + 7, rfl, b3, by omega, m0, m_small (by omega) (by omega), fun z H4 e4 b4 z0 z1 => by
          obtain ⟨n, rfl⟩ := Int.eq_ofNat_of_zero_le z0
          refine fin _ _ ⟨n, rfl, ?_, (But.refl.new nq).trans (e3.trans e4), b4⟩
          show n ≤ 1 * big
          have : (big : Int) = 10 ^ 38 := by decide
          omega⟩
      rcases (show r = 0 ∨ r = 1 by omega) with rfl | rfl
      · exact ⟨_, _, _, _, rfl, rfl, SqL.of (e3 _ _ nqb upd_same), rfl, go _ (by decide) (by decide)⟩
      · exact ⟨_, _, _, _, rfl, rfl, SqL.of (e3 _ _ nqb upd_same), rfl, go _ (by decide) (by decide)⟩
    rintro _ H5 ⟨n, rfl, smn, e5, b5⟩
    have l1 := l1.but b2 e5
    have l2 := l2.but b2 e5
    have l3 := l3.but b2 e5
    have hD5 := e5 _ _ ndb hD2
    have e5' : But b H H5 := e2.trans e5
    have fin : ∀ H', Ex H5 H' → Q (.bl true) H' := fun H' x => ret H' (e5'.trans (But.of x)) ((b5.same x).mono (by omega))
    clear ret ls s2 he b1 e1 hD hD2 e2 e5 b2
    have hS : (w1.add (w2.add w3)) = (w1.add w2).add w3 := (W.add_assoc _ _ _).symm
    have hT : (w3.add w2).add w1 = (w1.add w2).add w3 := by
      rw [W.add_comm (w3.add w2) w1, W.add_comm w3 w2, hS]
    have hsum : wsum [w1, w2, w3] = (w1.add w2).add w3 := by
      show w1.add (w2.add (w3.add (.num 0))) = _
      rw [W.add_zero, hS]
    have hsum2 : wsum [w1, w2] = w1.add w2 := by
      show w1.add (w2.add (.num 0)) = _
      rw [W.add_zero]
    have hsum3 : wsum [w1, .num n] = w1.add (.num n) := by
      show w1.add ((W.num n).add (.num 0)) = _
      rw [W.add_zero]
    have s12 := small_add sm1 sm2
    have s123 := small_add s12 sm3
    have s1n := small_add sm1 smn
    refine q_asg (v := ((w1.add w2).add w3).v) (ev_is (ev_sum (K := K) (ws := [w1, w2, w3]) (ev_var rfl) (SqL.of hD5)) (by rw [hsum])) fun H6 x6 => ?_
    have c123 := small_str s123 (by decide)
    refine q_asgL (xs := [((w1.add w2).add w3).v, ((w1.add w2).add w3).v, ((w1.add w2).add w3).v]) (el_lst (ea_cons (ev_shown (evl_add (evl_add (evl_var rfl (l1.same x6)) (evl_var rfl (l2.same x6))) (evl_var rfl (l3.same x6))) c123)
      (ea_cons (ev_shown (evl_is (evl_add (evl_var rfl (l1.same x6)) (evl_add (evl_var rfl (l2.same x6)) (evl_var rfl (l3.same x6)))) hS) c123)
      (ea_cons (ev_shown (evl_is (evl_add (evl_add (evl_var rfl (l3.same x6)) (evl_var rfl (l2.same x6))) (evl_var rfl (l1.same x6))) hT) c123) ea_nil))) (by show 3 ≤ 100000; decide)) fun p7 H7 n7 x67 h7 => ?_
    have x7 := x6.trans x67
    refine q_when (b := false) (et_or (a := false) (b := false) (et_test (ev_opL (ev_var rfl) (el_rep (n := 3) (el_lst (ea_cons (ev_var rfl) ea_nil) (by show 1 ≤ 100000; decide)) (by decide) (by show 1 ≤ 100; decide))
        (fun p H1 hp e => rv_neW (ws := [(w1.add w2).add w3, (w1.add w2).add w3, (w1.add w2).add w3]) (xs := []) (ys := []) (SqL.of (e _ _ h7)) (SqL.of hp))))
      (fun _ => et_or (a := false) (b := false) (et_test (ev_is (ev_op (ev_shown (evl_add (evl_var rfl (l1.same x7)) (evl_var rfl (l2.same x7))) (small_str s12 (by decide)))
          (ev_is (ev_sumL (K := K) (ws := [w1, w2]) (el_sl (K := K) (ev_var rfl) eo_none (eo_some ev_c) (SqL.of (x7 _ _ hD5)))) (by rw [hsum2])) (rv_ne (scal_w _))) (by rw [decide_eq_true rfl]; rfl)))
        (fun _ => et_is (et_not (et_test (ev_leneq TL.nf (evl_add (evl_var rfl (l1.same x7)) (evl_var rfl (l2.same x7))) (evl_add (evl_var rfl (l2.same x7)) (evl_var rfl (l1.same x7)))))) (by rw [decide_eq_true (W.add_comm _ _)]; rfl))))
      (fun z => by cases z) fun _ H8 x78 => ?_
    have x8 := x7.trans x78
    have yes : ∀ {σ2 : L2.St} {H2 : Hp}, EvT tYes σ2 H2 true := fun H2 _ Q q => q H2 (Ex.refl H2)
    refine q_asgLens (ws := [w1.add (.num n), w1.add (.num n), w1.add (.num n), w1.add (.num n)]) (els_cons (evl_addI (evl_var rfl (l1.same x8)) (ev_var rfl)) (els_cons (evl_raddI (ev_var rfl) (evl_var rfl (l1.same x8)))
      (els_cons (evl_add (evl_var rfl (l1.same x8)) (evl_make (w := .num n) rfl (ea_cons (ev_var rfl) ea_nil)))
      (els_cons (evl_is (evl_add (evl_make (w := .num n) rfl (ea_cons (ev_var rfl) ea_nil)) (evl_var rfl (l1.same x8))) (W.add_comm _ _)) els_nil)))) (by show 4 ≤ 1000; decide) fun p9 as9 H9 x89 h9 ls9 => ?_
    have x9 := x8.trans x89
    have len9 := ls9.length
    have get9 : ∀ (i : Nat) (x : V) (H1 : Hp), Ex H9 H1 → (as9.map V.ref)[i]? = some x → ∃ a, x = .ref a ∧ LenAt C H1 a (w1.add (.num n)) := by
      intro i x H1 e hx
      rw [List.getElem?_map] at hx
      cases q : as9[i]? with
      | none => rw [q] at hx; cases hx
      | some a =>
        rw [q] at hx
        obtain ⟨z, hz, lz⟩ := ls9.get q
        have hm := List.mem_of_getElem? hz
        simp only [List.mem_cons, List.not_mem_nil, or_false, or_self] at hm
        subst hm
        exact ⟨a, (Option.some.inj hx).symm, lz.same e⟩
    have four : (as9.map V.ref).length = 4 := by rw [List.length_map, len9]; rfl
    refine q_when (b := false) (et_test (ev_opLL (xs := List.map W.v [w1.add (.num n), w1.add (.num n), w1.add (.num n), w1.add (.num n)]) (ys := (List.replicate 4 [(w1.add (.num n)).v]).flatten)
        (by
          have z := el_lcL (K := K) (σ := [some (V.ref b), some (.ref dl), some (.ref a1), some (.ref a2), some (.ref a3), some (.int (n : Int)), some ((w1.add w2).add w3).v, some (.ref p9), none, none, none]) (H := H9) (tl := tVar 7) (j := 10) (vs := [10]) (t := tYes) (te := tCall (sp_shown C) [] E0 (tCons (tVar 10) tNil))
            (fun _ => true) (fun _ => (w1.add (.num n)).v) (ev_var rfl) (SqL.of h9) (by rw [four]; decide) (fun _ => rfl) (fun i x H1 e hx => yes)
            (fun i x H1 e hx _ => by
              obtain ⟨a, rfl, la⟩ := get9 i x H1 e hx
              exact ev_shown (evl_var rfl la) (small_str s1n (by decide)))
          rw [four] at z
          exact z)
        (el_rep (n := 4) (el_lst (ea_cons (ev_is (ev_sumL (K := K) (ws := [w1, .num n]) (el_lst (ea_cons (ev_op (ev_var rfl) ev_c (rv_ixL (K := K) (SqL.of (x9 _ _ hD5)) (atI_nat (j := 0) rfl))) (ea_cons (ev_var rfl) ea_nil)) (by show 2 ≤ 100000; decide))) (by rw [hsum3])) ea_nil) (by show 1 ≤ 100000; decide)) (by decide) (by show 1 ≤ 100; decide))
        (fun p q H1 hp hq e => rv_neW (ws := [w1.add (.num n), w1.add (.num n), w1.add (.num n), w1.add (.num n)]) (xs := []) (ys := []) (SqL.of hp) (SqL.of hq))))
      (fun z => by cases z) fun _ Ha x9a => ?_
    have xa := x9.trans x9a
    refine q_when (b := false) (et_or (a := false) (b := false) (et_is (et_not (et_test (ev_leneq TL.nf (evl_addI (n := 0) (evl_var rfl (l1.same xa)) ev_c) (evl_var rfl (l1.same xa))))) (by rw [decide_eq_true (W.add_zero _)]; rfl))
      (fun _ => et_or (a := false) (b := false) (et_is (et_not (et_test (ev_leneq TL.nf (evl_raddI (n := 0) ev_c (evl_var rfl (l1.same xa))) (evl_var rfl (l1.same xa))))) (by rw [decide_eq_true (W.add_zero _)]; rfl))
        (fun _ => et_is (et_not (et_test (ev_lenle TL.nf (evl_var rfl (l1.same xa)) (evl_add (evl_var rfl (l1.same xa)) (evl_var rfl (l2.same xa)))))) (by rw [W.le_add]; rfl))))
      (fun z => by cases z) fun _ Hb xab => ?_
    have xb := xa.trans xab
    refine q_when (et_and (et_test (ev_lenle TL.nf (evl_var rfl (l1.same xb)) (evl_var rfl (l2.same xb)))) (fun _ => et_not (et_test (ev_lenle TL.nf (evl_add (evl_var rfl (l1.same xb)) (evl_var rfl (l3.same xb))) (evl_add (evl_var rfl (l2.same xb)) (evl_var rfl (l3.same xb)))))))
      (fun z => by
        rw [Bool.and_eq_true] at z
        rw [W.add_mono _ _ _ z.1] at z
        cases z.2) fun _ Hc xbc => ?_
    have xc := xb.trans xbc
    refine q_when (et_and (et_test (ev_lenle TL.nf (evl_var rfl (l2.same xc)) (evl_var rfl (l1.same xc)))) (fun _ => et_not (et_test (ev_lenle TL.nf (evl_raddI (ev_var rfl) (evl_var rfl (l2.same xc))) (evl_addI (evl_var rfl (l1.same xc)) (ev_var rfl))))))
      (fun z => by
        rw [Bool.and_eq_true] at z
        rw [W.add_mono _ _ _ z.1] at z
        cases z.2) fun _ Hd xcd => ?_
    have xd := xc.trans xcd
    have three : ∀ (i : Nat) (x : V) (H1 : Hp), Ex Hd H1 → [V.ref a1, .ref a2, .ref a3][i]? = some x → ∃ a w, x = .ref a ∧ LenAt C H1 a w ∧ [w1, w2, w3].getD i w1 = w ∧ w.cnt < 2 ^ 1900 := by
      intro i x H1 e hx
      match i, hx with
      | 0, hx => cases hx; exact ⟨a1, w1, rfl, l1.same (xd.trans e), rfl, small_str sm1 (by decide)⟩
      | 1, hx => cases hx; exact ⟨a2, w2, rfl, l2.same (xd.trans e), rfl, small_str sm2 (by decide)⟩
      | 2, hx => cases hx; exact ⟨a3, w3, rfl, l3.same (xd.trans e), rfl, small_str sm3 (by decide)⟩
      | i + 3, hx => simp at hx
    refine s_ret (v := .bl true) (ev_opL1 (xs := List.map W.v [w1, w2, w3])
      (el_lcNL (K := K) (fun _ => true) (fun i => ([w1, w2, w3].getD i w1).v) (xs := [V.ref a1, .ref a2, .ref a3]) (el_lst (ea_cons (ev_var rfl) (ea_cons (ev_var rfl) (ea_cons (ev_var rfl) ea_nil))) (by show 3 ≤ 100000; decide)) (by show 3 ≤ 40000; decide) (fun _ => rfl) (fun i x H1 e hx => yes)
        (fun i x H1 e hx _ => by
          obtain ⟨a, w, rfl, la, rfl, hc⟩ := three i x H1 e hx
          exact ev_shown (evl_var rfl la) hc))
      (fun H1 e => ev_var rfl) (fun p H1 hp e => rv_eqW (K := K) (ws := [w1, w2, w3]) (SqL.of hp) (SqL.of (e _ _ (xd _ _ hD5))))) fun He xde => ?_
    exact fin He (xd.trans xde)
end L
namespace L
open PySem L2 Hv SlX Evl
variable {P : Program} {w : World} {K : PySem.W.Frag} {mg : Str → Option Value} {base : Heap}
abbrev s_law : Stmt := top 16
abbrev N_law : List Str := ["_law_script", "_law_told", "_law_k", "_law_bag_here", "_law_worths", "_law_turn"]
abbrev P_law : List Str := ["_law_script"]
theorem sc_law : FnScope N_law P_law (defScope s_law) := ⟨rfl, rfl, rfl, by decide +kernel, rfl, by decide +kernel, by decide +kernel⟩
theorem ok_law {C fa ga f f1 f2 f3 f4 f5 f6 f7 f8 f9 : Addr} {fd fd1 fd2 fd3 fd4 fd5 fd6 fd7 fd8 fd9 : FuncData} (D : Fun K "law" "law" s_law f fd) (T : Txt K mg) (TL : LenTxt K mg C fa ga) (M_Len : Mk K C f1)
    (D_Len_init : MethAt K C "__init__" "Length.__init__" s_Length_init P_Length_init f1 fd1) (G_Len_init : FnOk P w K mg base CX0 2 f1 fd1 P_Length_init (sp_len_init C))
    (R_Len_add : FnR P w K mg base CX0 4 fa (sp_len_add C)) (R_Len_radd : FnR P w K mg base CX0 5 ga (sp_len_add C))
    (D_shown : DefAt K mg "_law_shown" s_shown P_shown f2 fd2) (G_shown : FnOk P w K mg base CX0 6 f2 fd2 P_shown (sp_shown C))
    (D_bag : DefAt K mg "_law_bag" s_bag P_bag f3 fd3) (D_seed : DefAt K mg "_law_seed" s_seed P_seed f4 fd4)
    (D_right : DefAt K mg "_law_right" s_right P_right f5 fd5) (G_right : FnOk P w K mg base CX0 7 f5 fd5 P_right sp_right)
    (D_take : DefAt K mg "_law_take" s_take P_take f6 fd6) (D_worth : DefAt K mg "_law_worth" s_worth P_worth f7 fd7) (D_sum : DefAt K mg "_law_sum" s_sum P_sum f8 fd8)
    (D_added : DefAt K mg "_law_added" s_added P_added f9 fd9) (G_added : FnOk P w K mg base CX0 7 f9 fd9 P_added (sp_added K)) : OkG P w K mg base CX0 8 f fd P_law (sp_law K) := by
  have G_bag : FnOk P w K mg base CX0 1 f3 fd3 P_bag sp_bag := ok_bag D_bag T
  have G_seed : FnOk P w K mg base CX0 1 f4 fd4 P_seed (sp_seed K) := ok_seed D_seed T
  have G_take : FnOk P w K mg base CX0 1 f6 fd6 P_take sp_take := ok_take D_take T
  have G_worth : FnOk P w K mg base CX0 2 f7 fd7 P_worth sp_worth := ok_worth D_worth T D_take
  have G_sum : FnOk P w K mg base CX0 1 f8 fd8 P_sum (sp_sum K) := ok_sum D_sum T
  refine okG0 D sc_law (fun vs H Q E h => ?_) (fun cdv A outer s H vs Q E hG hr h => ?_)
  · obtain ⟨a, ns, rfl, _⟩ := h
    rfl
  · obtain ⟨a, ns, rfl, hS, hlen, bits, ret⟩ := h
    refine ⟨_, (pss_cons (ps_asg (pe_lst (pa_cons (pe_call G_shown (hr.mono (by decide)) rfl D_shown.mg D_shown.fn.kp D_shown.bd .nil pass0 (pa_cons (pe_op (op_addO TL.ad R_Len_add (hr.mono (by decide)) pass0) (pe_make M_Len G_Len_init (hr.mono (by decide)) rfl TL.mg D_Len_init.bd .nil pass0 (pa_cons pe_int pa_nil)) pe_int) pa_nil)) (pa_cons (pe_call G_shown (hr.mono (by decide)) rfl D_shown.mg D_shown.fn.kp D_shown.bd .nil pass0 (pa_cons (pe_op (op_raddO TL.ad R_Len_radd (hr.mono (by decide)) pass0) pe_int (pe_make M_Len G_Len_init (hr.mono (by decide)) rfl TL.mg D_Len_init.bd .nil pass0 (pa_cons pe_int pa_nil))) pa_nil)) (pa_cons (pe_call G_shown (hr.mono (by decide)) rfl D_shown.mg D_shown.fn.kp D_shown.bd .nil pass0 (pa_cons (pe_op (op_addO TL.ad R_Len_add (hr.mono (by decide)) pass0) (pe_make M_Len G_Len_init (hr.mono (by decide)) rfl TL.mg D_Len_init.bd .nil pass0 (pa_cons pe_str pa_nil)) (pe_make M_Len G_Len_init (hr.mono (by decide)) rfl TL.mg D_Len_init.bd .nil pass0 (pa_cons pe_str pa_nil))) pa_nil)) pa_nil)))) (pg_name (i := 1) sc_law.nd rfl (.inl rfl)))
      (pss_cons (ps_if (pt_cmpR op_ne (pe_callB (cr_repr hG hr.units) (by rfl) T.repr (by decide +kernel) (pa_cons (pv 1) pa_nil)) pe_str (nomark _))
      (pss_one (ps_ret pe_bl))
      pss_nil)
      (pss_cons (ps_for PassesOwn.never rfl (pi_range1 (by rfl) T.range (pa_cons (pe_callB (call_max2 rfl) (by rfl) T.max (by decide +kernel) (pa_cons pe_int (pa_cons (pe_callB (call_min2 rfl) (by rfl) T.min (by decide +kernel) (pa_cons (pe_callB call_len_seq (by rfl) T.len (by decide +kernel) (pa_cons (pv 0) pa_nil)) (pa_cons pe_int pa_nil))) pa_nil))) pa_nil)) (pg_name (i := 2) sc_law.nd rfl (.inl rfl))
      (pss_cons (ps_asg (pe_call G_bag (hr.mono (by decide)) rfl D_bag.mg D_bag.fn.kp D_bag.bd .nil pass0 (pa_cons (pe_call G_seed (hr.mono (by decide)) rfl D_seed.mg D_seed.fn.kp D_seed.bd .nil pass0 (pa_cons (pv 0) (pa_cons (pv 2) pa_nil))) pa_nil)) (pg_name (i := 3) sc_law.nd rfl (.inr rfl)))
      (pss_cons (ps_if (pt_not (pt_val (pe_callB (cr_all rfl) (by rfl) T.all (by decide +kernel) (pa_cons (pe_lc (own := [("_law_turn", 5)]) (g := gName 5) rfl sc_law.nd (pi_range1 (by rfl) T.range (pa_cons pe_int pa_nil)) (blkOk_by (own := [("_law_turn", 5)]) (N := N_law) (sc := defScope s_law) (by decide +kernel)) (fun _ _ _ _ _ => (pg_name (i := 5) sc_law.nd rfl (.inl rfl))) (fun _ _ _ _ _ => pts_nil) (fun _ _ _ _ _ => (pe_call G_right (hr.mono (by decide)) rfl D_right.mg D_right.fn.kp D_right.bd .nil pass0 (pa_cons (pv 3) pa_nil)))) pa_nil))))
      (pss_one (ps_ret pe_bl))
      pss_nil)
      (pss_cons (ps_setLc (i := 4) (own := [("_law_turn", 5)]) (g := gName 5) rfl sc_law.nd rfl rfl (sw_true rfl rfl rfl (by decide +kernel)) (pi_range1 (by rfl) T.range (pa_cons (pe_op op_add pe_int (pe_call G_take (hr.mono (by decide)) rfl D_take.mg D_take.fn.kp D_take.bd .nil pass0 (pa_cons (pv 3) (pa_cons pe_int pa_nil)))) pa_nil)) (blkOk_by (own := [("_law_turn", 5)]) (N := N_law) (sc := defScope s_law) (by decide +kernel)) (fun _ _ _ _ _ => (pg_name (i := 5) sc_law.nd rfl (.inl rfl))) (fun _ _ _ _ _ => pts_nil) (fun _ _ _ _ _ => (pe_call G_worth (hr.mono (by decide)) rfl D_worth.mg D_worth.fn.kp D_worth.bd .nil pass0 (pa_cons (pv 3) pa_nil))))
      (pss_one (ps_if (pt_cmpR op_ne (pe_call G_added (hr.mono (by decide)) rfl D_added.mg D_added.fn.kp D_added.bd .nil pass0 (pa_cons (pv 4) (pa_cons (pe_call G_take (hr.mono (by decide)) rfl D_take.mg D_take.fn.kp D_take.bd .nil pass0 (pa_cons (pv 3) (pa_cons (pe_op op_pow pe_int pe_int) pa_nil))) pa_nil))) (pe_call G_sum (hr.mono (by decide)) rfl D_sum.mg D_sum.fn.kp D_sum.bd .nil pass0 (pa_cons (pv 4) pa_nil)) (nomark _))
      (pss_one (ps_ret pe_bl))
      pss_nil))))))
      (pss_one (ps_ret pe_bl))))), ?_⟩
    refine q_asgL (xs := [.int 0, .int 5, .str "dead"]) (el_lst (ea_cons (ev_shown (w := .num 0) (evl_addI (v := .num 0) (n := 0) (evl_make (w := .num 0) rfl (ea_cons ev_c ea_nil)) ev_c) (by decide +kernel))
      (ea_cons (ev_shown (w := .num 5) (evl_raddI (v := .num 3) (n := 2) ev_c (evl_make (w := .num 3) rfl (ea_cons ev_c ea_nil))) (by decide +kernel))
      (ea_cons (ev_shown (w := .dead) (evl_add (v := .dead) (w := .endless) (evl_make (w := .dead) rfl (ea_cons ev_c ea_nil)) (evl_make (w := .endless) rfl (ea_cons ev_c ea_nil))) (by decide +kernel)) ea_nil))) (by show 3 ≤ 100000; decide)) fun p1 H1 n1 s1 h1 => ?_
    refine q_when (b := false) (et_test (ev_is (ev_op (ev_cb (ea_cons (ev_var rfl) ea_nil) (fun H2 e2 Q' q => ⟨_, PyData.list [.int 0, .int 5, .str "dead"], rfl, .lst (SqL.of (e2 _ _ h1)) (.cons (.int _) (.cons (.int _) (.cons (.str _) .nil))), by decide +kernel, by decide, by decide, by decide +kernel, q H2 (Ex.refl H2)⟩)) ev_c (rv_ne rfl)) (by decide +kernel)))
      (fun z => by cases z) fun _ H8 s8 => ?_
    have hS' : SqL K H8 a (ns.map V.int) := ex_l (s1.trans s8) hS
    refine ⟨_, rfl, _, _, rfl, .inl hS', _, _, rfl, _, _, rfl, _, rfl, ?_, ?_, for_range (lo := 0) (fun i σ' H' => ∃ v2 v3 v4 v5, σ' = [some (.ref a), some (.ref p1), v2, v3, v4, v5] ∧
      SqL K H' a (ns.map V.int)) ⟨none, none, none, none, rfl, hS'⟩ ?_ ?_⟩
    · split <;> split <;> omega
    · split <;> split <;> omega
    · rintro i σ' H' hi ⟨v2, v3, v4, v5, rfl, hS1⟩
      have hi' : i < 1000 := by
        refine Nat.lt_of_lt_of_le hi ?_
        split <;> split <;> omega
      refine ⟨_, rfl, _, rfl, a, ns, _, rfl, hS1, bits, by omega, by omega, fun n H2 s2 nb2 => ⟨n, rfl, nb2, fun p H3 np s3 bg => ?_⟩⟩
      refine ⟨4, rfl, by decide, by decide, fun L hL => ?_⟩
      have nLp : L ≠ p := bg.ne_none hL
      have nL2 : H2 L = none := s3.free hL
      refine lc_range (lo := 0) (n := 4) (fun j H' => Same H2 H' ∧ Bag H' p (10 * j) ∧ H' L = some (.lst (List.replicate j (.bl true))))
        ⟨s3.trans (same_new hL), bg.same (same_new hL), upd_same⟩ ?_ ?_
      · rintro j H4 hj ⟨h1, h3, h4⟩
        refine ⟨rfl, _, rfl, p, 10 * j, rfl, h3, by omega, fun H5 e5 b5 => ⟨_, e5 _ _ nLp h4, ?_, ?_⟩⟩
        · rw [List.length_replicate]
          exact Nat.lt_trans hj (by decide)
        · refine ⟨same_put (same_but h1 np e5) nL2, b5.put nLp, ?_⟩
          rw [upd_same, List.replicate_succ']
      rintro H4 ⟨h1, h3, h4⟩
      refine ⟨L, List.replicate 4 true, rfl, SqL.of h4, _, rfl, ?_⟩
      refine ⟨_, rfl, p, 12, 40, rfl, h3, by decide, by decide, m_small (by decide) (by decide), fun r H5 e5 b5 r0 r1 => ⟨_, _, rfl, rfl, _, rfl, by omega, by omega, fun dl nd => ?_⟩⟩
      have s5 : Same H2 H5 := same_but h1 np e5
      have ndp : dl ≠ p := b5.ne_none nd
      have nd2 : H2 dl = none := s5.free nd
      refine lc_range (lo := 0) (n := (1 + r).toNat) (fun j H' => ∃ l : List W, l.length = j ∧ (∀ w ∈ l, Small w 1) ∧ H' dl = some (.lst (l.map W.v)) ∧ Bag H' p (41 + 2 * j) ∧ Same H2 H')
        ⟨[], rfl, (fun _ z => by cases z), upd_same, b5.same (same_new nd), s5.trans (same_new nd)⟩ ?_ ?_
      · rintro j H6 hj ⟨l, hl, hsm, h6, b6, s6⟩
        refine ⟨rfl, _, rfl, p, 41 + 2 * j, rfl, b6, by omega, fun w H7 e7 b7 sw => ⟨_, e7 _ _ ndp h6, ?_, l ++ [w], ?_, ?_, ?_, ?_, ?_⟩⟩
        · rw [List.length_map, hl]
          have : 20 < sizeLine := by decide
          omega
        · rw [List.length_append, hl]
          rfl
        · intro z hz
          rcases List.mem_append.mp hz with q | q
          · exact hsm z q
          · cases List.mem_singleton.mp q
            exact sw
        · rw [upd_same, List.map_append]
          rfl
        · exact b7.put ndp
        · exact same_put (same_but s6 np e7) nd2
      rintro H6 ⟨l, hl, hsm, h6, b6, s6⟩
      refine ⟨_, rfl, _, rfl, _, _, rfl, rfl, ⟨by decide, by decide, by decide⟩, p, _, _, rfl, b6, by omega, by decide, m_small (by decide) (by decide), fun z H7 e7 b7 z0 z1 => ?_⟩
      refine ⟨dl, l, z, rfl, SqL.of (e7 _ _ ndp h6), by omega, by omega, hsm, fun H9 s9 => ?_⟩
      refine ⟨_, rfl, dl, l, rfl, SqL.of (s9 _ _ (e7 _ _ ndp h6)), scal_w _, _, rfl, ifNF rfl ?_⟩
      exact ⟨_, _, _, _, rfl, ((same_but s6 np e7).trans s9).seq (s2.seq hS1)⟩
    · rintro σ' H' ⟨v2, v3, v4, v5, rfl, hS1⟩
      exact ret _
theorem walk {l : PySem.W.OpenLaw} {q : Program} {loose : List Str} {XP : (Str → Option Value) → Heap → Prop} {YP : World → Heap → Prop} {d : DefRec} {K : Params → PySem.W.Frag} (hn : l.most = some 63) (hdf : d.params.defaults = [])
    (hY : ∀ (w : World) (h : Heap), YP w h → (K w.params).In h)
    (F : ∀ (w : World) (mg : Str → Option Value) (fa : Addr) (h : Heap), (K w.params).In h → h.Ns mainGlobals mg → mg d.name = some (.ref fa) →
      ∃ fd : FuncData, (∀ (s : Shared) (u : Value), BindsTo s fd ⟨[u], []⟩ [("_law_script", u)]) ∧ ∀ base : Heap, (K w.params).In base → base.Ns mainGlobals mg → OkG l.prog w (K w.params) mg base CX0 8 fa fd ["_law_script"] (sp_law (K w.params))) :
    PySem.W.WalkO q loose XP YP l.row.toRowW d [] (fun f vs => PySem.call f vs) :=
  walkG (n := 63) (k := 8) (x := "_law_script") (CX := fun _ => CX0) (sp := fun w => sp_law (K w.params)) hn (by decide) hdf ⟨rfl, by decide, by decide⟩ hY F (fun _ _ a ns hl hb hS => ⟨a, ns, rfl, hS, hl, hb, fun _ => rfl⟩) fun _ _ _ _ _ z => z
theorem all_mk {l : PySem.W.OpenLaw} {w : World} {K : PySem.W.Frag} {h : Heap} {mg : Str → Option Value} {fa : Addr} (X : K.In h) (G : h.Ns mainGlobals mg) (hfa : mg "law" = some (.ref fa))
    {C pS : Addr}
    (a_C : PySem.W.nsIn K mainGlobals "Length" = some (some (.ref C)))
    (e_pg : PySem.W.plainGet K C Str.empty = true)
    (e_ic : PySem.W.isClsIn K C = true)
    (e_po : PySem.W.plainOver K C = true)
    (e_sa : PySem.W.findIn K (.ref C) "__setattr__" = some (some (.builtin "object.__setattr__")))
    (e_s1 : PySem.W.findIn K (.ref C) "place" = some (some (.ref pS)))
    (e_s2 : PySem.W.specialIn K (.ref pS) "__get__" = some (some (.builtin "member_descriptor.__get__")))
    (e_s3 : PySem.W.takesIn K (.ref pS) = some true)
    (e_s4 : PySem.W.typeIn K (.ref pS) = some (.type "member_descriptor"))
    (e_s5 : PySem.W.slotIn K pS C = some 0)
    (e_i1 : PySem.W.findIn K (.ref C) "__class__" = some (some (.builtin "object.__class__")))
    (e_i2 : PySem.W.specialIn K (.builtin "object.__class__") "__get__" = some (some (.builtin "getset_descriptor.__get__")))
    (e_i3 : PySem.W.takesIn K (.builtin "object.__class__") = some true)
    (e_i4 : PySem.W.mroIn K C (.type "object") = some true)
    (e_k1 : PySem.W.kitOne K (.ref C) (.ref C) = some true)
    (e_k2 : PySem.W.kitOne K (.type "int") (.ref C) = some false)
    (e_nf : PySem.W.notFirst K C (.ref C) = true)
    (e_sf : PySem.W.selfFirst K C = true)
    (e_a1 : PySem.W.findIn K (.type "int") "__add__" = some (some (.builtin "int.__add__")))
    (e_a2 : PySem.W.findIn K (.type "int") "__radd__" = some (some (.builtin "int.__radd__")))
    (e_a3 : PySem.W.subIn K (.type "int") (.ref C) = some false)
    (e_a4 : PySem.W.subIn K (.ref C) (.type "int") = some false)
    (e_mk : PySem.W.makesIn K C = true)
    (e_kc : PySem.W.keepIn K (.ref C) = true)
    (m_Length_init : MethIn K C "__init__" "Length.__init__" s_Length_init)
    (m_Length_steps : PropIn K C "steps" "Length.steps" s_Length_steps)
    (m_Length_word : PropIn K C "word" "Length.word" s_Length_word)
    (m_Length_eq : MethIn K C "__eq__" "Length.__eq__" s_Length_eq)
    (m_Length_le : MethIn K C "__le__" "Length.__le__" s_Length_le)
    (m_Length_add : MethIn K C "__add__" "Length.__add__" s_Length_add)
    (m_Length_radd : MethIn K C "__radd__" "Length.__radd__" s_Length_radd)
    (m_Length_str : MethIn K C "__str__" "Length.__str__" s_Length_str)
    (d_is_integer : DefIn K "is_integer" s_is_integer)
    (d_seed : DefIn K "_law_seed" s_seed)
    (d_bag : DefIn K "_law_bag" s_bag)
    (d_take : DefIn K "_law_take" s_take)
    (d_worth : DefIn K "_law_worth" s_worth)
    (d_sum : DefIn K "_law_sum" s_sum)
    (d_shown : DefIn K "_law_shown" s_shown)
    (d_added : DefIn K "_law_added" s_added)
    (d_right : DefIn K "_law_right" s_right)
    (d_law : DefIn K "law" s_law)
    (b_NotImplemented : PySem.W.nsIn K mainGlobals "NotImplemented" = some none)
    (b_ValueError : PySem.W.nsIn K mainGlobals "ValueError" = some none)
    (b_abs : PySem.W.nsIn K mainGlobals "abs" = some none)
    (b_all : PySem.W.nsIn K mainGlobals "all" = some none)
    (b_bool : PySem.W.nsIn K mainGlobals "bool" = some none)
    (b_divmod : PySem.W.nsIn K mainGlobals "divmod" = some none)
    (b_int : PySem.W.nsIn K mainGlobals "int" = some none)
    (b_isinstance : PySem.W.nsIn K mainGlobals "isinstance" = some none)
    (b_len : PySem.W.nsIn K mainGlobals "len" = some none)
    (b_max : PySem.W.nsIn K mainGlobals "max" = some none)
    (b_min : PySem.W.nsIn K mainGlobals "min" = some none)
    (b_property : PySem.W.nsIn K mainGlobals "property" = some none)
    (b_range : PySem.W.nsIn K mainGlobals "range" = some none)
    (b_repr : PySem.W.nsIn K mainGlobals "repr" = some none)
    (b_str : PySem.W.nsIn K mainGlobals "str" = some none)
    (b_sum : PySem.W.nsIn K mainGlobals "sum" = some none)
    : ∃ fd : FuncData, (∀ (s : Shared) (v : Value), BindsTo s fd ⟨[v], []⟩ [("_law_script", v)]) ∧ ∀ base : Heap, K.In base → base.Ns mainGlobals mg → OkG l.prog w K mg base CX0 8 fa fd ["_law_script"] (sp_law K) := by
  have T : Txt K mg := ⟨PySem.W.mg_none_of X G b_NotImplemented, PySem.W.mg_none_of X G b_ValueError, PySem.W.mg_none_of X G b_abs, PySem.W.mg_none_of X G b_all, PySem.W.mg_none_of X G b_bool, PySem.W.mg_none_of X G b_divmod, PySem.W.mg_none_of X G b_int, PySem.W.mg_none_of X G b_isinstance, PySem.W.mg_none_of X G b_len, PySem.W.mg_none_of X G b_max, PySem.W.mg_none_of X G b_min, PySem.W.mg_none_of X G b_property, PySem.W.mg_none_of X G b_range, PySem.W.mg_none_of X G b_repr, PySem.W.mg_none_of X G b_str, PySem.W.mg_none_of X G b_sum⟩
  obtain ⟨f_is_integer, fd_is_integer, D_is_integer⟩ := d_is_integer.at X G (ps := P_is_integer) (fun _ _ _ _ _ _ us hl => match us, hl with | [_], _ => rfl)
  obtain ⟨f_seed, fd_seed, D_seed⟩ := d_seed.at X G (ps := P_seed) (fun _ _ _ _ _ _ us hl => match us, hl with | [_, _], _ => rfl)
  obtain ⟨f_bag, fd_bag, D_bag⟩ := d_bag.at X G (ps := P_bag) (fun _ _ _ _ _ _ us hl => match us, hl with | [_], _ => rfl)
  obtain ⟨f_take, fd_take, D_take⟩ := d_take.at X G (ps := P_take) (fun _ _ _ _ _ _ us hl => match us, hl with | [_, _], _ => rfl)
  obtain ⟨f_worth, fd_worth, D_worth⟩ := d_worth.at X G (ps := P_worth) (fun _ _ _ _ _ _ us hl => match us, hl with | [_], _ => rfl)
  obtain ⟨f_sum, fd_sum, D_sum⟩ := d_sum.at X G (ps := P_sum) (fun _ _ _ _ _ _ us hl => match us, hl with | [_], _ => rfl)
  obtain ⟨f_shown, fd_shown, D_shown⟩ := d_shown.at X G (ps := P_shown) (fun _ _ _ _ _ _ us hl => match us, hl with | [_], _ => rfl)
  obtain ⟨f_added, fd_added, D_added⟩ := d_added.at X G (ps := P_added) (fun _ _ _ _ _ _ us hl => match us, hl with | [_, _], _ => rfl)
  obtain ⟨f_right, fd_right, D_right⟩ := d_right.at X G (ps := P_right) (fun _ _ _ _ _ _ us hl => match us, hl with | [_], _ => rfl)
  obtain ⟨f_law, oc, od, kV, doc, pm, an, cd, ct, sl, e_law, l_law, c_law, k_law⟩ := d_law
  have e := hfa.symm.trans (PySem.W.mg_of X G e_law)
  cases e
  refine ⟨PySem.W.fnOf "law" "law" (defArgs s_law) (defBody s_law) (defScope s_law) .none kV doc pm an cd ct, fun s v => .of_eq rfl, fun base _ _ => ?_⟩
  obtain ⟨fI, fdI, D_Len_init⟩ := m_Length_init.at (ps := P_Length_init) (fun _ _ _ _ _ _ us hl => match us, hl with | [_, _], _ => rfl)
  obtain ⟨fS, fdS, D_Len_steps⟩ := m_Length_steps.at (ps := P_Length_steps) (fun _ _ _ _ _ _ us hl => match us, hl with | [_], _ => rfl)
  obtain ⟨fW, fdW, D_Len_word⟩ := m_Length_word.at (ps := P_Length_word) (fun _ _ _ _ _ _ us hl => match us, hl with | [_], _ => rfl)
  obtain ⟨fE, fdE, D_Len_eq⟩ := m_Length_eq.at (ps := P_Length_eq) (fun _ _ _ _ _ _ us hl => match us, hl with | [_, _], _ => rfl)
  obtain ⟨fL, fdL, D_Len_le⟩ := m_Length_le.at (ps := P_Length_le) (fun _ _ _ _ _ _ us hl => match us, hl with | [_, _], _ => rfl)
  obtain ⟨fA, fdA, D_Len_add⟩ := m_Length_add.at (ps := P_Length_add) (fun _ _ _ _ _ _ us hl => match us, hl with | [_, _], _ => rfl)
  obtain ⟨fR, fdR, D_Len_radd⟩ := m_Length_radd.at (ps := P_Length_radd) (fun _ _ _ _ _ _ us hl => match us, hl with | [_, _], _ => rfl)
  obtain ⟨fT, fdT, D_Len_str⟩ := m_Length_str.at (ps := P_Length_str) (fun _ _ _ _ _ _ us hl => match us, hl with | [_], _ => rfl)
  have d1 : PySem.dunder "add" = ("__add__" : Str) := by decide +kernel
  have d2 : dunderR "add" = ("__radd__" : Str) := by decide +kernel
  have TL : LenTxt K mg C fA fR := ⟨PySem.W.mg_of X G a_C, ⟨e_pg, e_ic, e_po, e_sa⟩, ⟨pS, e_s1, e_s2, e_s3, e_s4, e_s5, by decide⟩, ⟨e_i1, e_i2, e_i3, e_i4⟩, e_k1, e_k2, e_nf,
    ⟨e_sf, by rw [d1]; exact D_Len_add.at_, D_Len_add.isf, by rw [d2]; exact D_Len_radd.at_, D_Len_radd.isf, by rw [d1]; exact e_a1, by rw [d2]; exact e_a2, e_a3, e_a4⟩⟩
  have M_Len : Mk K C fI := ⟨e_mk, D_Len_init.at_, D_Len_init.isf, e_kc⟩
  have G_Len_init : FnOk l.prog w K mg base CX0 2 fI fdI P_Length_init (sp_len_init C) := ok_Len_init D_Len_init T TL D_is_integer
  have R_Len_add : FnR l.prog w K mg base CX0 4 fA (sp_len_add C) := raw_ok (ok_Len_add D_Len_add T TL M_Len D_Len_init G_Len_init) D_Len_add.bd
  have R_Len_radd : FnR l.prog w K mg base CX0 5 fR (sp_len_add C) := raw_ok (ok_Len_radd D_Len_radd TL R_Len_add) D_Len_radd.bd
  have G_shown : FnOk l.prog w K mg base CX0 6 f_shown fd_shown P_shown (sp_shown C) := ok_shown D_shown T TL D_Len_steps D_Len_word D_Len_str
  exact ok_law (fun_mk (st := s_law) l_law c_law k_law) T TL M_Len D_Len_init G_Len_init R_Len_add R_Len_radd D_shown G_shown D_bag D_seed
    D_right (ok_right D_right T TL M_Len D_Len_init G_Len_init R_Len_add R_Len_radd D_Len_eq D_Len_le D_shown G_shown D_take D_worth D_sum)
    D_take D_worth D_sum D_added (ok_added D_added T TL M_Len D_Len_init G_Len_init R_Len_add R_Len_radd D_shown G_shown)
end L

open PySem PySem.W PyProof.Rows in
set_option maxRecDepth 100000 in
set_option maxHeartbeats 0 in
theorem PySem.Challenge.cw_heldvotes_k15_lengths_added_holds : PySem.Challenge.rw_heldvotes_k15_lengths_added.Holds := by
  w_on; o_law; k_head; (case hw => w_witness2)
  k_fill
  refine L.walk (l := PySem.Challenge.rw_heldvotes_k15_lengths_added) rfl rfl (fun w h Y => PySem.W.kIn_of Y) ?F
  case F =>
    intro w mg fa h KX G hmg
    refine' L.all_mk KX G hmg ?a_C ?e_pg ?e_ic ?e_po ?e_sa ?e_s1 ?e_s2 ?e_s3 ?e_s4 ?e_s5 ?e_i1 ?e_i2 ?e_i3 ?e_i4 ?e_k1 ?e_k2 ?e_nf ?e_sf ?e_a1 ?e_a2 ?e_a3 ?e_a4 ?e_mk ?e_kc ?m_Length_init ?m_Length_steps ?m_Length_word ?m_Length_eq ?m_Length_le ?m_Length_add ?m_Length_radd ?m_Length_str ?d_is_integer ?d_seed ?d_bag ?d_take ?d_worth ?d_sum ?d_shown ?d_added ?d_right ?d_law ?b_NotImplemented ?b_ValueError ?b_abs ?b_all ?b_bool ?b_divmod ?b_int ?b_isinstance ?b_len ?b_max ?b_min ?b_property ?b_range ?b_repr ?b_str ?b_sum
    (case a_C => k_is)
    (case e_pg => k_is)
    (case e_ic => k_is)
    (case e_po => k_is)
    (case e_sa => k_is)
    (case e_s1 => k_is)
    (case e_s2 => k_is)
    (case e_s3 => k_is)
    (case e_s4 => k_is)
    (case e_s5 => k_is)
    (case e_i1 => k_is)
    (case e_i2 => k_is)
    (case e_i3 => k_is)
    (case e_i4 => k_is)
    (case e_k1 => kit_is)
    (case e_k2 => kit_is)
    (case e_nf => k_is)
    (case e_sf => k_is)
    (case e_a1 => k_is)
    (case e_a2 => k_is)
    (case e_a3 => k_is)
    (case e_a4 => k_is)
    (case e_mk => k_is)
    (case e_kc => k_is)
    (case m_Length_init => refine' Hv.methIn_mk ?a ?i ?l ?c ?k; (case a => k_is); (case i => k_is); (case l => k_is); (case c => k_is); (case k => k_is))
    (case m_Length_steps => refine' Hv.propIn_mk ?a ?b ?t ?r ?l ?c ?k; (case a => k_is); (case b => k_is); (case t => k_is); (case r => k_is); (case l => k_is); (case c => k_is); (case k => k_is))
    (case m_Length_word => refine' Hv.propIn_mk ?a ?b ?t ?r ?l ?c ?k; (case a => k_is); (case b => k_is); (case t => k_is); (case r => k_is); (case l => k_is); (case c => k_is); (case k => k_is))
    (case m_Length_eq => refine' Hv.methIn_mk ?a ?i ?l ?c ?k; (case a => k_is); (case i => k_is); (case l => k_is); (case c => k_is); (case k => k_is))
    (case m_Length_le => refine' Hv.methIn_mk ?a ?i ?l ?c ?k; (case a => k_is); (case i => k_is); (case l => k_is); (case c => k_is); (case k => k_is))
    (case m_Length_add => refine' Hv.methIn_mk ?a ?i ?l ?c ?k; (case a => k_is); (case i => k_is); (case l => k_is); (case c => k_is); (case k => k_is))
    (case m_Length_radd => refine' Hv.methIn_mk ?a ?i ?l ?c ?k; (case a => k_is); (case i => k_is); (case l => k_is); (case c => k_is); (case k => k_is))
    (case m_Length_str => refine' Hv.methIn_mk ?a ?i ?l ?c ?k; (case a => k_is); (case i => k_is); (case l => k_is); (case c => k_is); (case k => k_is))
    (case d_is_integer => refine' Hv.defIn_mk ?a ?l ?c ?k; (case a => k_is); (case l => k_is); (case c => k_is); (case k => k_is))
    (case d_seed => refine' Hv.defIn_mk ?a ?l ?c ?k; (case a => k_is); (case l => k_is); (case c => k_is); (case k => k_is))
    (case d_bag => refine' Hv.defIn_mk ?a ?l ?c ?k; (case a => k_is); (case l => k_is); (case c => k_is); (case k => k_is))
    (case d_take => refine' Hv.defIn_mk ?a ?l ?c ?k; (case a => k_is); (case l => k_is); (case c => k_is); (case k => k_is))
    (case d_worth => refine' Hv.defIn_mk ?a ?l ?c ?k; (case a => k_is); (case l => k_is); (case c => k_is); (case k => k_is))
    (case d_sum => refine' Hv.defIn_mk ?a ?l ?c ?k; (case a => k_is); (case l => k_is); (case c => k_is); (case k => k_is))
    (case d_shown => refine' Hv.defIn_mk ?a ?l ?c ?k; (case a => k_is); (case l => k_is); (case c => k_is); (case k => k_is))
    (case d_added => refine' Hv.defIn_mk ?a ?l ?c ?k; (case a => k_is); (case l => k_is); (case c => k_is); (case k => k_is))
    (case d_right => refine' Hv.defIn_mk ?a ?l ?c ?k; (case a => k_is); (case l => k_is); (case c => k_is); (case k => k_is))
    (case d_law => refine' Hv.defIn_mk ?a ?l ?c ?k; (case a => k_is); (case l => k_is); (case c => k_is); (case k => k_is))
    (case b_NotImplemented => k_is)
    (case b_ValueError => k_is)
    (case b_abs => k_is)
    (case b_all => k_is)
    (case b_bool => k_is)
    (case b_divmod => k_is)
    (case b_int => k_is)
    (case b_isinstance => k_is)
    (case b_len => k_is)
    (case b_max => k_is)
    (case b_min => k_is)
    (case b_property => k_is)
    (case b_range => k_is)
    (case b_repr => k_is)
    (case b_str => k_is)
    (case b_sum => k_is)

