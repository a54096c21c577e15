import PyProof.Rows.All
import Wide.All
import OpenK.AllK
import Wide.FinOn
import HandS.ForMost
import HandS.ForExc
import HandS.EndBits
import HandS.Wide
import HandS.WideBits
import HandS.IsInst
import HandS.StrMore
import HandS.Style
import HandS.Evl
import PyProof.ReprRoads
import HandS.ReplaceDef
import HandS.ReplaceLit
import HandS.NoneIn
import HandS.Walk
import HandS.Codes
import PySem.Challenge.RW_heldvotes_k02_bounds_met
set_option Elab.async false
set_option linter.all false
set_option maxRecDepth 100000
set_option maxHeartbeats 4000000
namespace Hv
open PySem PySem.Spec PyProof.Rows L2

/-- a promise that is kept wherever no repr is under way -/
structure OkG (P : Program) (w : World) (K : PySem.W.Frag) (mg : Str → Option Value) (base : Heap) (CX : CXT) (k : Nat)
    (f : Addr) (fd : FuncData) (ps : List Str) (sp : Sp) : Prop where
  len : ∀ vs H Q E, sp vs H Q E → vs.length = ps.length
  run : ∀ (A : Around) (outer : List Env) (s : Shared) (H : Hp) (args : Args) (us : List Value) (vs : List V) (Q : VK) (E : XK),
    A.guards = some [] → Room k A → Env0 P w K mg base A outer s H → BindsTo s fd args (ps.zip us) → Vals vs us →
    sp vs H Q E → codeAny (model P w) A (.call (.ref f) args) (CR CX outer P w H s Q E) s

section
variable {P : Program} {w : World} {K : PySem.W.Frag} {mg : Str → Option Value} {base : Heap} {CX : CXT} {k : Nat}
  {f : Addr} {fd : FuncData} {ps : List Str} {sp : Sp}
theorem OkG.of (F : FnOk P w K mg base CX k f fd ps sp) : OkG P w K mg base CX k f fd ps sp :=
  ⟨F.len, fun A outer s H args us vs Q E _ => F.run A outer s H args us vs Q E⟩
theorem OkG.mono {j : Nat} (F : OkG P w K mg base CX j f fd ps sp) (h : j ≤ k) : OkG P w K mg base CX k f fd ps sp :=
  ⟨F.len, fun A outer s H args us vs Q E hg hr => F.run A outer s H args us vs Q E hg (hr.mono h)⟩

/-- the rule for a def, where no repr is under way -/
theorem okG {x qual : Str} {st : Stmt} {N : List Str} (F : Fun K x qual st f fd) (S : FnScope N ps (defScope st))
    (len : ∀ vs H Q E, sp vs H Q E → vs.length = ps.length)
    (body : ∀ (cdv : Value) (A : Around) (outer : List Env) (s : Shared) (H : Hp) (vs : List V) (Q : VK) (E : XK),
      A.guards = some [] → Room k (A.deeper (envOfC qual (defScope st) s.heap.objs.size f cdv)) → sp vs H Q E →
      ∃ t, PSs (cxOf CX P w K mg base N qual (defScope st) f cdv A outer s H E) (defBody st) t ∧
        t { nx := fun _ H' => Q .non H', rt := Q } (start N vs) H) :
    OkG P w K mg base CX (k + 1) f fd ps sp := by
  obtain ⟨oc, od, kV, doc, pm, an, cdv, ct, osl, rfl, lk, hcd⟩ := F.ex
  constructor
  · exact len
  intro A outer s H args us vs Q E hg hr e0 hb r hsp
  have KX : K.In s.heap := e0.mod.kin.keeps (fun b o e => (e0.bs b o e).1)
  have lim := e0.mod.nolimit.keeps (fun b o e => (e0.bs b o e).1)
  have kinds : ∀ y ∈ ps.zip us, (defScope st).names.lookup y.1 = some .local ∨
      ((defScope st).names.lookup y.1 = some .cell ∧
        ((cellsFrom (s.heap.objs.size + 1) (defScope st).names []).lookup y.1).isSome = true) := by
    rintro ⟨n, v⟩ hy
    cases S.par n (List.of_mem_zip hy).1 with
    | inl q => exact Or.inl q
    | inr q => exact Or.inr ⟨q, PySem.W.cellsFrom_some _ _ _ (Or.inl q)⟩
  apply codeAny_call_function hr.depth (KX _ _ lk) rfl S.co S.gen rfl (PySem.W.codeRec_of KX hcd)
  apply hb
  refine wpAny_newFunctionEnv_cells S.kind kinds ?_
  rintro env rfl s1 x
  refine ⟨lim.keeps x.toInCall.keep, codeAny_func ?_⟩
  obtain ⟨t, ht, hq⟩ := body cdv A outer s H vs Q E hg (hr.deeper _) hsp
  have I := inv_start (CX := CX) (E := E) S hr.hd e0 (len _ _ _ _ hsp) r x
  apply wpAny_mono (ht.run [] s1 (start N vs) H _ I hq)
  · intro fl s' hs
    cases fl with
    | ret u =>
      obtain ⟨v, σ', H', J, rv, q⟩ := hs
      exact ⟨v, H', J.os, J.bare, J.base, J.hok, rv, q⟩
    | next =>
      obtain ⟨σ', H', J, q⟩ := hs
      exact ⟨V.non, H', J.os, J.bare, J.base, J.hok, rfl, q⟩
    | brk =>
      obtain ⟨_, _, _, q⟩ := hs
      exact q.elim
    | cont =>
      obtain ⟨_, _, _, q⟩ := hs
      exact q.elim
  · intro e s' hs
    exact hs
end

theorem okG0 {P : Program} {w : World} {K : PySem.W.Frag} {mg : Str → Option Value} {base : Heap} {k : Nat} {f : Addr} {fd : FuncData} {ps : List Str} {sp : Sp}
    {x qual : Str} {st : Stmt} {N : List Str} (F : Fun K x qual st f fd) (S : FnScope N ps (defScope st)) (len : ∀ vs H Q E, sp vs H Q E → vs.length = ps.length)
    (body : ∀ (cdv : Value) (A : Around) (outer : List Env) (s : Shared) (H : Hp) (vs : List V) (Q : VK) (E : XK),
      A.guards = some [] → Room k (A.deeper (envOfC qual (defScope st) s.heap.objs.size f cdv)) → sp vs H Q E →
      ∃ t, PSs (cxOf CX0 P w K mg base N qual (defScope st) f cdv A outer s H E).nox (defBody st) t ∧
        t { nx := fun _ H' => Q .non H', rt := Q } (start N vs) H) : OkG P w K mg base CX0 (k + 1) f fd ps sp :=
  okG F S len fun cdv A outer s H vs Q E hg hr hsp =>
    let ⟨t, h, q⟩ := body cdv A outer s H vs Q E hg hr hsp
    ⟨t, h.nox, q⟩
section
variable {X : Cx} {CX : CXT} {k : Nat} {f : Addr} {fd : FuncData} {ps : List Str} {sp : Sp} {dvs : List V} {ds : List Value}
  {E : XK} {x : Str} {p pos : Pos} {e : Expr} {es : List Expr} {t : TA}
theorem runG {pins : List (Addr × Obj)} {σ : L2.St} {H : Hp} {s : Shared} {Q : VK} {us : List Value} {vs : List V}
    (F : OkG X.prog X.w X.K X.mg X.base CX k f fd ps sp) (hG : X.A.guards = some []) (hr : Room k X.A)
    (hb : Binds X.K fd ps ds) (hd : Vals dvs ds) (hx : Passes CX X E) (I : Inv X pins σ H s) (r : Vals vs us)
    (h : sp (vs ++ dvs) H Q E) : wpAny (model X.prog X.w) X.A (call (.ref f) us) (EP X pins σ Q) X.xe s := by
  have r2 : Vals (vs ++ dvs) (us ++ ds) := r.append hd
  have hl : (us ++ ds).length = ps.length := r2.length.symm.trans (F.len _ _ _ _ h)
  have go := F.run X.A X.stack s H ⟨us, []⟩ (us ++ ds) (vs ++ dvs) Q E hG hr I.env0 (hb s us I.kIn hl) r2 h
  refine wpAny_call (codeAny_mono go ?_)
  intro r s' hq
  match r, hq with
  | .error e, hq => exact hx pins σ H s e s' I hq
  | .ok (.ret u), hq => exact I.after hq
  | .ok .next, hq => exact hq.elim
  | .ok .brk, hq => exact hq.elim
  | .ok .cont, hq => exact hq.elim
/-- f(e, ..) for such a def -/
theorem pe_callG (F : OkG X.prog X.w X.K X.mg X.base CX k f fd ps sp) (hG : X.A.guards = some []) (hr : Room k X.A) (hg : Gl X x)
    (hm : X.mg x = some (.ref f)) (hk : PySem.W.keepIn X.K (.ref f) = true) (hb : Binds X.K fd ps ds) (hd : Vals dvs ds)
    (hx : Passes CX X E) (ha : PA X (e :: es) t) (hdb : (x == ("__debug__" : Str)) = false := by decide)
    (he : starEach (e :: es) X.env = (false, eval e X.env) :: starEach es X.env := by rfl)
    (hpl : (backTo pos (starEach es X.env)).any (·.1) = false := by rfl) :
    PE X (.Call (.Name x p) (e :: es) [] pos) (tCall sp dvs E t) := by
  constructor
  intro pins s σ H Q I h
  apply wpAny_Call_Name_kw
  refine ld_glob I hg hm ?_ hdb
  refine PySem.W.callWith_K (h₀ := X.base) I.ok.mod.kin hk (thn (ha.run pos pins s σ H _ I h) ?_) he hpl
  rintro us s1 ⟨vs, H1, I1, r, q⟩
  exact ⟨I1.kIn, runG F hG hr hb hd hx I1 r q⟩
theorem pe_call0G (F : OkG X.prog X.w X.K X.mg X.base CX k f fd ps sp) (hG : X.A.guards = some []) (hr : Room k X.A) (hg : Gl X x)
    (hm : X.mg x = some (.ref f)) (hk : PySem.W.keepIn X.K (.ref f) = true) (hb : Binds X.K fd ps ds) (hd : Vals dvs ds)
    (hx : Passes CX X E) (hdb : (x == ("__debug__" : Str)) = false := by decide) :
    PE X (.Call (.Name x p) [] [] pos) (tCall sp dvs E tNil) := by
  constructor
  intro pins s σ H Q I h
  apply wpAny_Call_Name_kw
  refine ld_glob I hg hm ?_ hdb
  exact PySem.W.callWith_K0 I.kIn hk (runG (us := []) F hG hr hb hd hx I .nil h)

/-- repr of data -/
theorem cr_repr (hG : X.A.guards = some []) (hu : X.A.units + 64 < cLine) : CallR X (.builtin "repr") (fun xs H Q => ∃ v d, xs = [v] ∧ Dp X.K H v d ∧
    d.showable = true ∧ d.hasDict = false ∧ d.depth ≤ 60 ∧ d.shown.length ≤ sizeLine ∧ Q (.str d.shown) H) := by
  intro pins s σ H xs us Q I r h
  obtain ⟨v, d, rfl, hd, hs, hn, hdep, hz, q⟩ := h
  obtain ⟨u, rfl, ru⟩ : ∃ u, us = [u] ∧ RelV v u := by
    cases r with
    | cons a b => cases b with | nil => exact ⟨_, rfl, a⟩
  obtain ⟨as, rd⟩ := Dp.reads I d v u hd ru
  cases hd with
  | non => cases ru; exact PySem.P.repr_of_none ⟨.str _, H, I.tok _, ⟨_, rfl⟩, q⟩
  | bl b => cases ru; exact PySem.P.repr_of_bool ⟨.str _, H, I.tok _, ⟨_, rfl⟩, q⟩
  | int i =>
    obtain ⟨t, rfl⟩ := ru
    refine PySem.P.repr_of_int ?_ ⟨.str _, H, I.tok _, ⟨_, rfl⟩, q⟩
    simpa [PyData.showable] using hs
  | str z =>
    obtain ⟨t, rfl⟩ := ru
    exact PySem.P.repr_of_str ⟨.str _, H, I.tok _, ⟨_, rfl⟩, q⟩ hz
  | lst h1 h2 =>
    cases ru
    refine repr_of_reads' rd hs (by rw [hn]; intro z; cases z) hG (by omega) (fun _ _ e => e) ?_ hz
    intro h' u' tk hk
    exact ⟨.str _, H, I.kept hk, ⟨_, rfl⟩, q⟩
  | tup h1 h2 =>
    cases ru
    refine repr_of_reads' rd hs (by rw [hn]; intro z; cases z) hG (by omega) (fun _ _ e => e) ?_ hz
    intro h' u' tk hk
    exact ⟨.str _, H, I.kept hk, ⟨_, rfl⟩, q⟩
end

/-! ### the end: the law's call, where no repr is under way -/
theorem old_of {P : Program} {w : World} {H H' : Hp} {h h' : Heap} (hO : Only H) (un : Un (frs []) [] H H' h h') (ok : HOk P w H h) (ok' : HOk P w H' h') : OldK h h' := by
  apply OldK.of_keep
  intro b o e
  rcases hO b with z | ⟨ob, xs, z⟩
  · exact un.keep b o e z (by intro q; cases q) (by intro q; cases q)
  · have k1 := (ok b _ z).1
    have k2 := (ok' b _ (un.frzs b ob _ z)).1
    rw [e] at k1
    cases k1
    exact k2
theorem call_lawG {P : Program} {w : World} {K : PySem.W.Frag} {mg mb : Str → Option Value} {CX : CXT} {k : Nat} {fa a : Addr} {fd : FuncData}
    {x : Str} {sp : Sp} {s : Shared} {vs : List Value} {ns : List Int} (KX : K.In s.heap) (gl : s.heap.Ns mainGlobals mg)
    (bl : s.heap.Ns builtinsNs mb) (hbb : ∀ x : Str, x ≠ "__name__" → mb x = bootBuiltins x) (lim : s.heap.NoLimit) (gens : s.gens = #[])
    (ha : s.heap.get? a = some { cls := .type "list", data := .seq vs.toArray }) (hi : IntsAre vs ns) (hl : ns.length ≤ sizeLine)
    (hr : Room k callerA) (F : ∀ base : Heap, K.In base → base.Ns mainGlobals mg → OkG P w K mg base CX k fa fd [x] sp)
    (bind : ∀ (s : Shared) (u : Value), BindsTo s fd ⟨[u], []⟩ [(x, u)])
    (hsp : ∀ H : Hp, SqL K H a (ns.map V.int) → sp [.ref a] H (fun v _ => v = .bl true) fun _ _ _ => False)
    (hCX : ∀ H e s', CX [] H s (fun _ _ _ => False) e s' → False) :
    codeAny (model P w) callerA (.call (.ref fa) ⟨[.ref a], []⟩)
      (fun r s' => r = .ok (.ret (.bool true)) ∧ OldK s.heap s'.heap ∧ s'.os = s.os ∧ AllBare s'.gens) s := by
  have rv := vals_ints hi
  have core : ∀ H : Hp, Only H → SqL K H a (ns.map V.int) → HOk P w H s.heap → (∀ b, H b ≠ none → b = a) → (H a ≠ none → K.lookup a = none) →
      codeAny (model P w) callerA (.call (.ref fa) ⟨[.ref a], []⟩)
        (fun r s' => r = .ok (.ret (.bool true)) ∧ OldK s.heap s'.heap ∧ s'.os = s.os ∧ AllBare s'.gens) s := by
    intro H hO hS ok hA hK
    -- what is no list is not tracked
    have free : ∀ {b : Addr} {o : Obj}, s.heap.get? b = some o → (b = a → H a = none) → H b = none := by
      intro b o _ z
      by_cases q : H b = none
      · exact q
      · have e := hA b q
        rw [e]
        exact z e
    have ns' : ∀ {b : Addr} {m : Str → Option Value}, s.heap.Ns b m → (hidT s.heap H).Ns b m := by
      rintro b m ⟨o, es, ep, e, d, r⟩
      refine ⟨o, es, ep, hidT_get e (free e fun q => ?_), d, r⟩
      subst q
      rw [ha] at e
      cases e
      cases d
    have hKb : K.In (hidT s.heap H) := by
      intro b o e
      refine hidT_get (KX b o e) (free (KX b o e) fun q => ?_)
      subst q
      by_cases z : H b = none
      · exact z
      · rw [hK z] at e
        cases e
    have hM : Mod K mg (hidT s.heap H) := by
      obtain ⟨mc, h1, h2⟩ := lim
      exact ⟨hKb, ns' gl, ⟨mb, ns' bl, hbb⟩, ⟨mc, ns' h1, h2⟩⟩
    have e0 : Env0 P w K mg (hidT s.heap H) callerA [] s H := by
      refine ⟨rfl, hM, fun b o e => of_hidT e, Nat.le_of_eq (hidT_size _ _), trivial, ?_, ok, .of_eq gens⟩
      intro b hb
      cases (show b ∈ ([] : List Addr) from hb)
    have go := (F _ hKb (ns' gl)).run callerA [] s H ⟨[.ref a], []⟩ [.ref a] [.ref a] (fun v _ => v = .bl true) (fun _ _ _ => False)
      rfl hr e0 (bind s (.ref a)) (.cons rfl .nil) (hsp H hS)
    refine codeAny_mono go ?_
    intro r s' h
    match r, h with
    | .error e, h => exact (hCX H e s' h).elim
    | .ok .next, h => exact h.elim
    | .ok .brk, h => exact h.elim
    | .ok .cont, h => exact h.elim
    | .ok (.ret u), h =>
      obtain ⟨v, H', os, bare, un, ok', r', q⟩ := h
      cases (show v = .bl true from q)
      cases (show u = Value.bool true from r')
      exact ⟨rfl, old_of hO un ok ok', os, bare⟩
  by_cases hk : K.lookup a = none
  · refine core (upd (fun _ => none) a (.frz { cls := .type "list", data := .seq vs.toArray } (.lst (ns.map V.int)))) ?_ (.inl (.inr ⟨_, upd_same⟩)) ?_ ?_ fun _ => hk
    · intro b
      by_cases hb : b = a
      · subst hb
        exact .inr ⟨_, _, upd_same⟩
      · exact .inl (upd_ne hb)
    · intro b u z
      by_cases hb : b = a
      · subst hb
        rw [upd_same] at z
        cases z
        exact ⟨ha, by rw [List.length_map]; exact hl, vs, _, rv, ha⟩
      · rw [upd_ne hb] at z
        cases z
    · intro b z
      by_cases hb : b = a
      · exact hb
      · exact absurd (upd_ne hb) z
  · obtain ⟨o, ho⟩ := Option.ne_none_iff_exists'.mp hk
    have e := KX a o ho
    rw [ha] at e
    cases e
    have lenV := hi.length
    refine core (fun _ => none) (fun _ => .inl rfl) (.inr ⟨_, vs.toArray, _, ho, rfl, rfl, rfl, ?_, ?_⟩) ?_ ?_ ?_
    · rw [List.size_toArray, lenV]
      exact hl
    · simpa using rv
    · intro b u z
      cases (show (none : Option HO) = some u from z)
    · intro b z
      exact absurd rfl z
    · intro z
      exact absurd rfl z
theorem walkG {l : PySem.W.OpenLaw} {n k : Nat} {q : Program} {loose : List Str} {XP : (Str → Option Value) → Heap → Prop}
    {YP : World → Heap → Prop} {d : DefRec} {K : Params → PySem.W.Frag} {CX : World → CXT} {sp : World → Sp} {x : Str}
    (hn : l.most = some n) (hn2 : n ≤ sizeLine) (hdf : d.params.defaults = []) (hr : Room k callerA)
    (hY : ∀ (w : World) (h : Heap), YP w h → (K w.params).In h)
    (F : ∀ (w : World) (mg : Str → Option Value) (fa : Addr) (h : Heap), (K w.params).In h → h.Ns mainGlobals mg →
      mg d.name = some (.ref fa) → ∃ fd : FuncData, (∀ (s : Shared) (u : Value), BindsTo s fd ⟨[u], []⟩ [(x, u)]) ∧
        ∀ base : Heap, (K w.params).In base → base.Ns mainGlobals mg → OkG l.prog w (K w.params) mg base (CX w) k fa fd [x] (sp w))
    (hsp : ∀ (w : World) (H : Hp) (a : Addr) (ns : List Int), ns.length ≤ n → (∀ z ∈ ns, Builtin.Int.intBits z ≤ 1048576) →
      SqL (K w.params) H a (ns.map V.int) → sp w [.ref a] H (fun v _ => v = .bl true) fun _ _ _ => False)
    (hCX : ∀ (w : World) (H : Hp) (s : Shared) (e : Value) (s' : Shared), CX w [] H s (fun _ _ _ => False) e s' → False) :
    PySem.W.WalkO q loose XP YP l.row.toRowW d [] (fun f vs => PySem.call f vs) := by
  refine Att.attach_callB hn hdf ?_
  intro w s₀ s₁ mg mb fa o pm cd doc a vs ns G Y ho hd hcd hmg hobj hints hlen hbits hg
  obtain ⟨fd, hb, hF⟩ := F w mg fa _ (hY w _ Y) G.T.g hmg
  exact call_lawG (hY w _ Y) G.T.g G.T.b G.T.builtins G.T.nolimit hg hobj hints (Nat.le_trans hlen hn2) hr hF hb
    (fun H hS => hsp w H a ns hlen hbits hS) (fun H e s' => hCX w H s₁ e s')
end Hv

namespace Hv
open PySem PySem.Spec PyProof.Rows L2
section
variable {X : Cx} {o e : Expr} {to te : TE}
/-- a text's method of one argument; its receiver wants a token -/
theorem pet_m1 {id : String} {name : Str} {apos pos : Pos} {r : V → List V → Hp → VK → Prop} (slot : Slot "str" name id)
    (ty : typeOf (.builtin id) = pure (.type "method_descriptor")) (rule : MtR X id r) (ho : PET X o to) (he : PE X e te)
    (hs : starEach [e] X.env = [(false, eval e X.env)] := by rfl) (hbase : attributeBase o name X.env (eval o X.env) = eval o X.env := by rfl)
    (hline : (apos.endLine == pos.line) = true := by rfl) : PET X (.Call (.Attribute o name apos) [e] [] pos) (tM1 r to te) := by
  intro pins s σ H Q h0 I h
  apply PySem.Call_method1 hbase hs hline
  apply thn (ho pins s σ H _ h0 I h)
  rintro v s1 ⟨x, H1, I1, r1, ⟨a, rfl⟩, q1⟩
  obtain ⟨t, rfl⟩ := _root_.id r1
  refine ⟨"str", _, F.plainAttrs_str, slot, ty, typeIs_str _ _ _, (fun _ e => nomatch e), ?_⟩
  refine Calls.callWith_builtin rfl (Calls.evalArgs_plain (Calls.spliced_cons (thn (he.run pins s1 σ H1 _ I1 q1) ?_)))
  rintro u s2 ⟨y, H2, I2, r2, q2⟩
  exact Calls.spliced_nil (rule pins s2 σ H2 _ [y] _ [u] Q I2 r1 (.cons r2 .nil) q2)
theorem pst_asg {tg : Expr} {g : TG} {pos : Pos} (he : PET X e te) (hg : PG X tg g) (hs : swapsWithSole [tg] e pos.line X.env = pure false := by rfl)
    (hw : swappedStores [tg] e X.env = pure none := by rfl) (h1 : (assignEach [tg] X.env).map (·.2) = [assign tg X.env] := by rfl) :
    PST X (.Assign [tg] e pos) (tAsg te g) := by
  intro pins s σ H D h0 I h
  refine wpAny_Assign_stores (thn (he pins s σ H _ h0 I h) ?_) hs hw
  rintro v s1 ⟨x, H1, I1, r1, q1⟩
  rw [h1]
  exact thn (hg.run pins s1 σ H1 x v _ I1 r1 q1) fun _ s2 q => q
/-- f(k = v, ..), no positional argument -/
theorem pe_callK0 {CX : CXT} {k : Nat} {f : Addr} {fd : FuncData} {ps ks : List Str} {sp : Sp} {E : XK} {x : Str} {p pos : Pos} {kws : List Keyword} {tk : TA}
    {g : List Value → List Value → List Value} {gV : List V → List V → List V} (F : FnOk X.prog X.w X.K X.mg X.base CX k f fd ps sp) (hr : Room k X.A) (hg : Gl X x)
    (hm : X.mg x = some (.ref f)) (hk : PySem.W.keepIn X.K (.ref f) = true) (hb : KBinds X.K fd ps ks g gV) (hx : Passes CX X E) (hkw : PK X kws tk)
    (hall : (backToKw pos (keywordEach kws X.env)).all (·.1.isSome) = true := by rfl) (hks : (backToKw pos (keywordEach kws X.env)).filterMap (·.1) = ks := by rfl)
    (hdb : (x == ("__debug__" : Str)) = false := by decide)
    (hpl : ((backTo pos (starEach [] X.env)).any (·.1) || (backToKw pos (keywordEach kws X.env)).any (·.1.isNone)) = false := by rfl) :
    PE X (.Call (.Name x p) [] kws pos) (tCallK sp gV E tNil tk) := by
  constructor
  intro pins s σ H Q I h
  apply wpAny_Call_Name_kw
  refine ld_glob I hg hm ?_ hdb
  refine PySem.W.callWith_KW0 (h₀ := X.base) I.ok.mod.kin hk hall ?_ hpl
  apply thn (hkw.run pos pins s σ H _ I h)
  rintro ws s2 ⟨zs, H2, I2, rz, q2⟩
  rw [hks]
  exact ⟨I2.kIn, run_fnk (us := []) F hr hb hx I2 .nil rz q2⟩
/-- repr of a truth value -/
theorem cr_reprB : CallR X (.builtin "repr") (fun xs H Q => ∃ b, xs = [.bl b] ∧ Q (.str (if b then "True" else "False")) H) := by
  intro pins s σ H xs us Q I r h
  obtain ⟨b, rfl, q⟩ := h
  cases r with
  | cons a t =>
    cases t
    cases a
    exact PySem.P.repr_of_bool ⟨.str _, H, I.tok _, ⟨_, rfl⟩, q⟩
end
section
variable {P : Program} {w : World} {K : PySem.W.Frag} {mg : Str → Option Value} {base : Heap} {CX : CXT} {k : Nat} {f : Addr} {fd : FuncData} {ps : List Str} {sp : Sp}
/-- the rule for a def without cells: a token is out when its body begins -/
theorem okT {x qual : Str} {st : Stmt} {N : List Str} (F : Fun K x qual st f fd) (S : FnScope N ps (defScope st)) (hnc : ∀ y ∈ (defScope st).names, y.2 ≠ .cell) (hps : 1 ≤ ps.length)
    (len : ∀ vs H Q E, sp vs H Q E → vs.length = ps.length)
    (body : ∀ (cdv : Value) (A : Around) (outer : List Env) (s : Shared) (H : Hp) (vs : List V) (Q : VK) (E : XK),
      Room k (A.deeper (envOfC qual (defScope st) s.heap.objs.size f cdv)) → sp vs H Q E →
      ∃ t, PSsT (cxOf CX P w K mg base N qual (defScope st) f cdv A outer s H E) (defBody st) t ∧ t { nx := fun _ H' => Q .non H', rt := Q } (start N vs) H) :
    FnOk P w K mg base CX (k + 1) f fd ps sp := by
  obtain ⟨oc, od, kV, doc, pm, an, cdv, ct, osl, rfl, lk, hcd⟩ := F.ex
  exact fn_ofT lk hcd S hnc hps len fun A outer s H vs Q E hr hsp => body cdv A outer s H vs Q E hr hsp
end
end Hv

namespace Hv
open PySem L2

theorem dT {p : Prop} [Decidable p] (h : decide p = true) : p := of_decide_eq_true h
theorem dF {p : Prop} [Decidable p] (h : ¬ decide p = true) : ¬ p := fun q => h (decide_eq_true q)
theorem nT {p : Prop} [Decidable p] (h : (!decide p) = true) : ¬ p := fun q => by
  rw [decide_eq_true q] at h
  cases h
theorem nF {p : Prop} [Decidable p] (h : ¬ (!decide p) = true) : p := by
  by_cases q : p
  · exact q
  · exact absurd (by rw [decide_eq_false q]; rfl) h

theorem ifT {p : Prop} [Decidable p] {A B : Prop} (hp : p) (h : A) : if decide p = true then A else B := by
  rw [if_pos (decide_eq_true hp)]
  exact h
theorem ifF {p : Prop} [Decidable p] {A B : Prop} (hp : ¬ p) (h : B) : if decide p = true then A else B := by
  rw [if_neg (fun q => hp (of_decide_eq_true q))]
  exact h
theorem ifNT {p : Prop} [Decidable p] {A B : Prop} (hp : ¬ p) (h : A) : if (!decide p) = true then A else B := by
  rw [decide_eq_false hp]
  exact h
theorem ifNF {p : Prop} [Decidable p] {A B : Prop} (hp : p) (h : B) : if (!decide p) = true then A else B := by
  rw [decide_eq_true hp]
  exact h

/-- a value's reading by what holds behind it -/
theorem join_te {te : TE} {σ : L2.St} {H : Hp} {Q : VK} (S : V → Hp → Prop) (h : ∀ Q' : VK, (∀ v H', S v H' → Q' v H') → te σ H Q') (k : ∀ v H', S v H' → Q v H') : te σ H Q := h Q k

theorem join_asg {te : TE} {g : TG} {u : TS} {D : Ends} {σ : L2.St} {H : Hp} (S : V → Hp → Prop) (h : ∀ Q' : VK, (∀ v H', S v H' → Q' v H') → te σ H Q')
    (k : ∀ v H', S v H' → g v σ H' (u D)) : tSeq (tAsg te g) u D σ H := h _ k

theorem join_ifs {tt : TT} {t u v : TS} {D : Ends} {σ : L2.St} {H : Hp} (S : Bool → Hp → Prop) (h : ∀ Q' : Bool → Hp → Prop, (∀ b H', S b H' → Q' b H') → tt σ H Q')
    (k : ∀ b H', S b H' → if b = true then t { D with nx := v D } σ H' else u { D with nx := v D } σ H') : tSeq (tIfS tt t u) v D σ H := h _ k
/-- both ways of an if come to the same -/
theorem join_if {c : Bool} {A B R : Prop} (hB : c = false → R → B) (hA : c = true → R → A) (r : R) : if c = true then A else B := by
  cases c with
  | true => exact hA rfl r
  | false => exact hB rfl r

structure DefAt (K : PySem.W.Frag) (mg : Str → Option Value) (x : Str) (st : Stmt) (ps : List Str) (f : Addr) (fd : FuncData) : Prop where
  fn : Fun K x x st f fd
  mg : mg x = some (.ref f)
  bd : Binds K fd ps []
/-- what the top has left of a def -/
def DefIn (K : PySem.W.Frag) (x : Str) (st : Stmt) : Prop :=
  ∃ (f : Addr) (oc : Value) (od : Option Addr) (kV doc pm : Value) (an : Option Addr) (cd ct : Value) (sl : Array (Option Value)),
    PySem.W.nsIn K mainGlobals x = some (some (.ref f)) ∧
    K.lookup f = some ⟨oc, od, .func (PySem.W.fnOf x x (defArgs st) (defBody st) (defScope st) .none kV doc pm an cd ct), sl⟩ ∧
    PySem.W.codeIn K cd x = true ∧ PySem.W.keepIn K (.ref f) = true
theorem defIn_mk {K : PySem.W.Frag} {x : Str} {st : Stmt} {f : Addr} {oc : Value} {od : Option Addr} {kV doc pm : Value} {an : Option Addr} {cd ct : Value} {sl : Array (Option Value)}
    (a : PySem.W.nsIn K mainGlobals x = some (some (.ref f)))
    (l : K.lookup f = some ⟨oc, od, .func (PySem.W.fnOf x x (defArgs st) (defBody st) (defScope st) .none kV doc pm an cd ct), sl⟩)
    (c : PySem.W.codeIn K cd x = true) (k : PySem.W.keepIn K (.ref f) = true) : DefIn K x st :=
  ⟨f, oc, od, kV, doc, pm, an, cd, ct, sl, a, l, c, k⟩
theorem constIn_mk {K : PySem.W.Frag} {x : Str} {C : Value → Prop} {v : Value} (a : PySem.W.nsIn K mainGlobals x = some (some v)) (c : C v) : ∃ v, PySem.W.nsIn K mainGlobals x = some (some v) ∧ C v := ⟨v, a, c⟩
theorem DefIn.at {K : PySem.W.Frag} {mg : Str → Option Value} {h : Heap} {x : Str} {st : Stmt} {ps : List Str} (d : DefIn K x st) (X : K.In h) (G : h.Ns mainGlobals mg)
    (hb : ∀ (kV doc pm : Value) (an : Option Addr) (cdv ct : Value) (us : List Value), us.length = ps.length →
      bindArgs (PySem.W.fnOf x x (defArgs st) (defBody st) (defScope st) .none kV doc pm an cdv ct) ⟨us, []⟩ = pure (ps.zip us)) :
    ∃ f fd, DefAt K mg x st ps f fd := by
  obtain ⟨f, oc, od, kV, doc, pm, an, cd, ct, sl, a, l, c, k⟩ := d
  have F := fun_mk (st := st) l c k
  exact ⟨f, _, F, PySem.W.mg_of X G a, F.binds hb⟩

/-- the draws' bag: three ints, the second one from 0 on and not beyond the script's bits, the third at most k -/
def Bag (H : Hp) (b : Addr) (k : Nat) : Prop :=
  ∃ s d n : Int, H b = some (.lst [.int s, .int d, .int n]) ∧ 0 ≤ d ∧ Builtin.Int.intBits d ≤ 1048576 ∧ 0 ≤ n ∧ n ≤ k
theorem Bag.mono {H : Hp} {b : Addr} {j k : Nat} (h : Bag H b j) (le : j ≤ k) : Bag H b k := by
  obtain ⟨s, d, n, h1, h2, h3, h4, h5⟩ := h
  exact ⟨s, d, n, h1, h2, h3, h4, by omega⟩
theorem Bag.same {H H' : Hp} {b : Addr} {k : Nat} (h : Bag H b k) (e : Same H H') : Bag H' b k := by
  obtain ⟨s, d, n, h1, h2⟩ := h
  exact ⟨s, d, n, e _ _ h1, h2⟩
theorem Bag.ne_none {H : Hp} {b p : Addr} {k : Nat} (h : Bag H b k) (hp : H p = none) : p ≠ b := by
  obtain ⟨s, d, n, h1, _⟩ := h
  exact (ne_of_none h1 hp).symm
/-- all that is tracked but b stays -/
def But (b : Addr) (H H' : Hp) : Prop := ∀ a o, a ≠ b → H a = some o → H' a = some o
theorem But.refl {b : Addr} {H : Hp} : But b H H := fun _ _ _ h => h
theorem But.trans {b : Addr} {H H1 H2 : Hp} (x : But b H H1) (y : But b H1 H2) : But b H H2 := fun a o n h => y a o n (x a o n h)
theorem But.put {b : Addr} {H H1 : Hp} {o : HO} (x : But b H H1) : But b H (upd H1 b o) := fun a u n h => by
  rw [upd_ne n]; exact x a u n h
theorem But.new {b p : Addr} {H H1 : Hp} {o : HO} (x : But b H H1) (hp : H1 p = none) : But b H (upd H1 p o) := fun a u n h => by
  have q := x a u n h
  rw [upd_ne (ne_of_none q hp)]; exact q
theorem But.of {b : Addr} {H H' : Hp} (e : Same H H') : But b H H' := fun a o _ h => e a o h
theorem But.seq {b a : Addr} {K : PySem.W.Frag} {H H' : Hp} {xs : List V} (e : But b H H') (n : a ≠ b) (h : SqL K H a xs) : SqL K H' a xs := by
  rcases h with (h | ⟨o, h⟩) | h
  · exact .inl (.inl (e _ _ n h))
  · exact .inl (.inr ⟨o, e _ _ n h⟩)
  · exact .inr h
theorem same_new {H : Hp} {p : Addr} {o : HO} (hp : H p = none) : Same H (upd H p o) := fun a u e => by
  rw [upd_ne (ne_of_none e hp)]; exact e
theorem But.free {b p : Addr} {H H' : Hp} (e : But b H H') (n : p ≠ b) (h : H' p = none) : H p = none := by
  cases q : H p with
  | none => rfl
  | some o =>
    rw [e p o n q] at h
    cases h

/-- changes at places that H did not know -/
theorem same_but {H H1 H2 : Hp} {b : Addr} (s : Same H H1) (hb : H b = none) (e : But b H1 H2) : Same H H2 := fun a o h =>
  e a o (ne_of_none h hb) (s a o h)
theorem same_put {H H1 : Hp} {b : Addr} {o : HO} (s : Same H H1) (hb : H b = none) : Same H (upd H1 b o) := fun a u h => by
  rw [upd_ne (ne_of_none h hb)]
  exact s a u h
theorem Bag.put {H : Hp} {b p : Addr} {k : Nat} {o : HO} (h : Bag H b k) (n : p ≠ b) : Bag (upd H p o) b k := by
  obtain ⟨s, d, m, h1, h2⟩ := h
  exact ⟨s, d, m, by rw [upd_ne n.symm]; exact h1, h2⟩
theorem log2_mono {a b : Nat} (h : a ≤ b) : a.log2 ≤ b.log2 := by
  by_cases h0 : a = 0
  · subst h0
    rw [Nat.log2_zero]
    exact Nat.zero_le _
  · have h1 := Nat.log2_self_le h0
    exact (Nat.le_log2 (by omega)).mpr (Nat.le_trans h1 h)
theorem bits_mono {a b : Int} (h : a.natAbs ≤ b.natAbs) : Builtin.Int.intBits a ≤ Builtin.Int.intBits b := by
  unfold Builtin.Int.intBits
  have := log2_mono h
  by_cases h0 : a = 0
  · rw [if_pos (by rw [h0]; rfl)]
    exact Nat.zero_le _
  · by_cases h1 : b = 0
    · subst h1
      simp at h
      exact absurd h h0
    · rw [if_neg (by simpa using h0), if_neg (by simpa using h1)]
      omega
theorem bits_div {d m : Int} (h0 : 0 ≤ d) (hm : 0 < m) (h : Builtin.Int.intBits d ≤ 1048576) : Builtin.Int.intBits (d / m) ≤ 1048576 := by
  refine Nat.le_trans (bits_mono ?_) h
  have h1 : 0 ≤ d / m := Int.ediv_nonneg h0 (by omega)
  have h2 : d / m ≤ d := Int.ediv_le_self _ h0
  omega
theorem bits_small {n : Int} (h : n.natAbs < 2 ^ 1000) : Builtin.Int.intBits n ≤ 1048576 := by
  unfold Builtin.Int.intBits
  split
  · decide
  · by_cases h0 : n.natAbs = 0
    · rw [h0]
      decide
    · have := (Nat.log2_lt h0).mpr h
      omega
theorem pylong_no {d m : Int} (h : m.natAbs < 2 ^ 1000) : Builtin.divisionGoesByPylong d m = false := by
  unfold Builtin.divisionGoesByPylong
  rw [Bool.and_eq_false_iff]
  left
  rw [decide_eq_false_iff_not]
  dsimp only
  split
  · decide
  · rename_i hz
    have h0 : m.natAbs ≠ 0 := by
      intro q
      apply hz
      rw [beq_iff_eq]
      omega
    have := (Nat.log2_lt h0).mpr h
    omega
theorem m_small {m : Int} (h0 : 0 ≤ m) (h : m ≤ 10 ^ 41) : m.natAbs < 2 ^ 1000 := by
  have e : (10 : Nat) ^ 41 < 2 ^ 1000 := by decide +kernel
  have : m.natAbs ≤ 10 ^ 41 := by omega
  exact Nat.lt_of_le_of_lt this e
/-- a number of the script, or one mixed of its first ones -/
def sp_seed (K : PySem.W.Frag) : Sp := fun vs H Q _ => ∃ (a : Addr) (ns : List Int) (k : Int), vs = [.ref a, .int k] ∧ SqL K H a (ns.map V.int) ∧
  (∀ z ∈ ns, Builtin.Int.intBits z ≤ 1048576) ∧ 0 ≤ k ∧ k < 1000 ∧ ∀ (n : Int) (H' : Hp), Same H H' → Builtin.Int.intBits n ≤ 1048576 → Q (.int n) H'
def sp_bag : Sp := fun vs H Q _ => ∃ (n : Int), vs = [.int n] ∧ Builtin.Int.intBits n ≤ 1048576 ∧
  ∀ (p : Addr) (H' : Hp), H p = none → Same H H' → Bag H' p 0 → Q (.ref p) H'
/-- a draw below m -/
def sp_take : Sp := fun vs H Q _ => ∃ (b : Addr) (m : Int) (k : Nat), vs = [.ref b, .int m] ∧ Bag H b k ∧ k < 1000000 ∧ 0 < m ∧ m.natAbs < 2 ^ 1000 ∧
  ∀ (r : Int) (H' : Hp), But b H H' → Bag H' b (k + 1) → 0 ≤ r → r < m → Q (.int r) H'
end Hv

namespace L
open PySem L2 Hv
def top (i : Nat) : Stmt := PySem.Challenge.pw_heldvotes_k02_bounds_met.main.body.getD i (.Pass ⟨0, 0, 0, 0⟩)
structure Txt (K : PySem.W.Frag) (mg : Str → Option Value) : Prop where
  ValueError : mg "ValueError" = none
  abs : mg "abs" = none
  all : mg "all" = none
  any : mg "any" = none
  bool : mg "bool" = none
  divmod : mg "divmod" = none
  int : mg "int" = none
  isinstance : mg "isinstance" = none
  len : mg "len" = none
  max : mg "max" = none
  min : mg "min" = none
  range : mg "range" = none
  repr : mg "repr" = none
  str : mg "str" = none
  cMOST_PART : ∃ t, mg "MOST_PART" = some (.int (12) t)
  cDIGITS : ∃ t, mg "DIGITS" = some (.str "0123456789" t)
  cMARK : ∃ t, mg "MARK" = some (.str "over " t)
variable {P : Program} {w : World} {K : PySem.W.Frag} {mg : Str → Option Value} {base : Heap}
abbrev s_take : Stmt := top 19
abbrev N_take : List Str := ["_law_bag_here", "_law_many_here", "_law_digit"]
abbrev P_take : List Str := ["_law_bag_here", "_law_many_here"]
theorem sc_take : FnScope N_take P_take (defScope s_take) := ⟨rfl, rfl, rfl, by decide +kernel, rfl, by decide +kernel, by decide +kernel⟩
theorem ok_take {f : Addr} {fd : FuncData} (D : DefAt K mg "_law_take" s_take P_take f fd) (T : Txt K mg) : FnOk P w K mg base CX0 1 f fd P_take sp_take := by
  refine D.fn.ok sc_take (fun vs H Q E h => ?_) (fun cdv A outer s H vs Q E hr h => ?_)
  · obtain ⟨b, m, k, rfl, _⟩ := h
    rfl
  · obtain ⟨b, m, k, rfl, ⟨z, d, n, hb, d0, db, n0, nk⟩, hk, m0, m1, ret⟩ := h
    refine ⟨_, (pss_cons (ps_asg (pe_op op_add (pe_ix ix_list (pv 0) pe_int (fun _ _ => rfl)) pe_int) (pg_sub (pv 0) pe_int set_list))
      (pss_cons (ps_asg (pe_op op_mod (pe_callTy call_int1 (by rfl) T.int (by decide +kernel) (pa_cons (pe_op op_add (pe_op op_add (pe_op op_mul (pe_ix ix_list (pv 0) pe_int (fun _ _ => rfl)) pe_int) (pe_op op_mul (pe_op op_mul (pe_ix ix_list (pv 0) pe_int (fun _ _ => rfl)) (pe_ix ix_list (pv 0) pe_int (fun _ _ => rfl))) pe_int)) pe_int) pa_nil)) pe_int) (pg_sub (pv 0) pe_int set_list))
      (pss_cons (ps_if (pt_cmpR op_gt (pe_ix ix_list (pv 0) pe_int (fun _ _ => rfl)) pe_int (nomark _))
      (pss_cons (ps_asg (pe_callB call_divmodW (by rfl) T.divmod (by decide +kernel) (pa_cons (pe_ix ix_list (pv 0) pe_int (fun _ _ => rfl)) (pa_cons (pv 1) pa_nil))) (pg_tup (by rfl) (pgs_cons (pg_sub (pv 0) pe_int set_list) (pgs_cons (pg_name (i := 2) sc_take.nd rfl (.inl rfl)) pgs_nil))))
      (pss_one (ps_ret (pv 2))))
      pss_nil)
      (pss_one (ps_ret (pe_op op_mod (pe_callTy call_int1 (by rfl) T.int (by decide +kernel) (pa_cons (pe_op op_fdiv (pe_ix ix_list (pv 0) pe_int (fun _ _ => rfl)) pe_int) pa_nil)) (pv 1))))))), ?_⟩
    refine ⟨_, rfl, _, _, _, _, rfl, rfl, SqL.of hb, rfl, _, _, rfl, rfl, _, rfl, _, _, _, _, rfl, rfl, hb, rfl, ?_⟩
    have hb1 := upd_same (H := H) (a := b) (o := .lst (List.set [.int z, .int d, .int n] 2 (.int (n + 1))))
    refine ⟨_, rfl, _, _, _, _, rfl, rfl, SqL.of hb1, rfl, _, _, rfl, rfl, .inr ⟨by decide, by decide⟩, _, rfl, _, _, _, _, rfl, rfl, SqL.of hb1, rfl, _, rfl, _, _, _, _, rfl, rfl, SqL.of hb1, rfl, _, _, rfl, rfl, .inl ⟨by omega, by omega⟩,
      _, _, rfl, rfl, .inr ⟨by decide, by decide⟩, _, _, rfl, rfl, _, _, rfl, rfl, .inl ⟨_, rfl, _, _, rfl, rfl, (by show (0 : Int) < _; decide), _, rfl, _, _, _, _, rfl, rfl, hb1, rfl, ?_⟩⟩
    rw [upd_upd]
    have hb2 := upd_same (H := H) (a := b) (o := .lst [.int ((z * 91193 + (n + 1) * (n + 1) * 6827 + 40507) % 2147483399), .int d, .int (n + 1)])
    refine ⟨_, rfl, _, _, _, _, rfl, rfl, SqL.of hb2, rfl, _, _, rfl, rfl, _, rfl, ?_⟩
    refine ite2 (fun hc => ?_) (fun hc => ?_)
    · refine ⟨_, rfl, _, _, _, _, rfl, rfl, SqL.of hb2, rfl, _, rfl, _, _, rfl, ⟨m0, pylong_no m1⟩, fun p hp => ?_⟩
      have np : b ≠ p := ne_of_none hb2 hp
      refine ⟨_, _, rfl, SqT.of upd_same, rfl, _, _, rfl, _, rfl, _, _, _, _, rfl, rfl, (upd_ne np).trans hb2, rfl, _, _, rfl, rfl, _, rfl, ?_⟩
      refine ret _ _ (((But.refl.put).new hp).put) ⟨_, _, _, upd_same, ?_, bits_div d0 m0 db, ?_, ?_⟩ (Int.emod_nonneg _ (by omega)) (Int.emod_lt_of_pos _ m0)
      · exact Int.ediv_nonneg d0 (by omega)
      · omega
      · omega
    · refine ⟨_, rfl, _, _, _, _, rfl, rfl, SqL.of hb2, rfl, _, _, rfl, rfl, ⟨by decide, by decide⟩, .inl ⟨_, rfl, _, rfl, _, _, rfl, rfl, m0, ?_⟩⟩
      refine ret _ _ But.refl.put ⟨_, _, _, upd_same, d0, db, ?_, ?_⟩ (Int.emod_nonneg _ (by omega)) (Int.emod_lt_of_pos _ m0)
      · omega
      · omega
abbrev s_bag : Stmt := top 18
abbrev N_bag : List Str := ["_law_number", "_law_digits", "_law_state"]
abbrev P_bag : List Str := ["_law_number"]
theorem sc_bag : FnScope N_bag P_bag (defScope s_bag) := ⟨rfl, rfl, rfl, by decide +kernel, rfl, by decide +kernel, by decide +kernel⟩
theorem ok_bag {f : Addr} {fd : FuncData} (D : DefAt K mg "_law_bag" s_bag P_bag f fd) (T : Txt K mg) : FnOk P w K mg base CX0 1 f fd P_bag sp_bag := by
  refine D.fn.ok sc_bag (fun vs H Q E h => ?_) (fun cdv A outer s H vs Q E hr h => ?_)
  · obtain ⟨n, rfl, _⟩ := h
    rfl
  · obtain ⟨n, rfl, nb, ret⟩ := h
    refine ⟨_, (pss_cons (ps_asg (pe_ifExp (pt_chain op_le op_lt pe_int (pv 0) (pe_op op_pow pe_int pe_int)) pe_int (pe_callB call_abs (by rfl) T.abs (by decide +kernel) (pa_cons (pv 0) pa_nil))) (pg_name (i := 1) sc_bag.nd rfl (.inl rfl)))
      (pss_cons (ps_asg (pe_op op_mod (pe_callTy call_int1 (by rfl) T.int (by decide +kernel) (pa_cons (pv 0) pa_nil)) pe_int) (pg_name (i := 2) sc_bag.nd rfl (.inl rfl)))
      (pss_one (ps_ret (pe_lst (pa_cons (pe_op op_mod (pe_callTy call_int1 (by rfl) T.int (by decide +kernel) (pa_cons (pe_op op_add (pe_op op_mul (pv 2) (pe_op op_add (pe_op op_mod (pe_callTy call_int1 (by rfl) T.int (by decide +kernel) (pa_cons (pv 2) pa_nil)) pe_int) pe_int)) pe_int) pa_nil)) pe_int) (pa_cons (pv 1) (pa_cons pe_int pa_nil)))))))), ?_⟩
    have fin : ∀ d : Int, 0 ≤ d → Builtin.Int.intBits d ≤ 1048576 → ∀ p, H p = none → ∀ z : Int, Q (.ref p) (upd H p (.lst [.int z, .int d, .int 0])) := fun d d0 d1 p hp z =>
      ret p _ hp (same_new hp) ⟨z, d, 0, upd_same, d0, d1, by omega, by omega⟩
    refine ⟨_, rfl, _, _, rfl, rfl, _, rfl, ?_⟩
    refine ite2 (fun hc => ?_) (fun hc => ?_)
    · refine ⟨_, _, rfl, rfl, ⟨by decide, by decide, by decide⟩, _, _, rfl, rfl, _, rfl, ?_⟩
      refine ite2 (fun hc2 => ?_) (fun hc2 => ?_)
      · refine ⟨_, rfl, .inl ⟨_, rfl, _, _, rfl, rfl, (by show (0 : Int) < _; decide), _, rfl, _, rfl, .inl ⟨_, rfl, _, _, rfl, rfl, (by show (0 : Int) < _; decide), _, _, rfl, rfl, _, _, rfl, rfl, .inl ⟨?_, ?_⟩, _, _, rfl, rfl, .inl ⟨_, rfl, _, _, rfl, rfl, (by show (0 : Int) < _; decide), _, rfl, (by show 3 ≤ sizeLine; decide), fun p hp => ?_⟩⟩⟩⟩
        · show -(2 ^ 64) < n % 2147483399
          omega
        · show n % 2147483399 < 2 ^ 64
          omega
        · exact fin 0 (by decide) (by decide) p hp _
      · refine ⟨_, rfl, _, rfl, _, rfl, .inl ⟨_, rfl, _, _, rfl, rfl, (by show (0 : Int) < _; decide), _, rfl, _, rfl, .inl ⟨_, rfl, _, _, rfl, rfl, (by show (0 : Int) < _; decide), _, _, rfl, rfl, _, _, rfl, rfl, .inl ⟨?_, ?_⟩, _, _, rfl, rfl, .inl ⟨_, rfl, _, _, rfl, rfl, (by show (0 : Int) < _; decide), _, rfl, (by show 3 ≤ sizeLine; decide), fun p hp => ?_⟩⟩⟩⟩
        · show -(2 ^ 64) < n % 2147483399
          omega
        · show n % 2147483399 < 2 ^ 64
          omega
        · refine fin _ ?_ (Nat.le_trans (bits_mono ?_) nb) p hp _
          · split <;> omega
          · split <;> omega
    · refine ⟨_, rfl, iteF ⟨_, rfl, _, rfl, _, rfl, .inl ⟨_, rfl, _, _, rfl, rfl, (by show (0 : Int) < _; decide), _, rfl, _, rfl, .inl ⟨_, rfl, _, _, rfl, rfl, (by show (0 : Int) < _; decide), _, _, rfl, rfl, _, _, rfl, rfl, .inl ⟨?_, ?_⟩, _, _, rfl, rfl, .inl ⟨_, rfl, _, _, rfl, rfl, (by show (0 : Int) < _; decide), _, rfl, (by show 3 ≤ sizeLine; decide), fun p hp => ?_⟩⟩⟩⟩⟩
      · show -(2 ^ 64) < n % 2147483399
        omega
      · show n % 2147483399 < 2 ^ 64
        omega
      · refine fin _ ?_ (Nat.le_trans (bits_mono ?_) nb) p hp _
        · split <;> omega
        · split <;> omega
abbrev s_seed : Stmt := top 17
abbrev N_seed : List Str := ["_law_script", "_law_k", "_law_mixed", "_law_number"]
abbrev P_seed : List Str := ["_law_script", "_law_k"]
theorem sc_seed : FnScope N_seed P_seed (defScope s_seed) := ⟨rfl, rfl, rfl, by decide +kernel, rfl, by decide +kernel, by decide +kernel⟩
theorem ok_seed {f : Addr} {fd : FuncData} (D : DefAt K mg "_law_seed" s_seed P_seed f fd) (T : Txt K mg) : FnOk P w K mg base CX0 1 f fd P_seed (sp_seed K) := by
  refine D.fn.ok sc_seed (fun vs H Q E h => ?_) (fun cdv A outer s H vs Q E hr h => ?_)
  · obtain ⟨a, ns, k, rfl, _⟩ := h
    rfl
  · obtain ⟨a, ns, k, rfl, hS, bits, k0, k1, ret⟩ := h
    refine ⟨_, (pss_cons (ps_if (pt_cmpR op_lt (pv 1) (pe_callB call_len_seq (by rfl) T.len (by decide +kernel) (pa_cons (pv 0) pa_nil)) (nomark _))
      (pss_one (ps_ret (pe_ix ix_list (pv 0) (pv 1) (fun _ _ => rfl))))
      pss_nil)
      (pss_cons (ps_asg (pe_op op_add pe_int (pe_op op_mul (pe_op op_mul pe_int (pv 1)) (pv 1))) (pg_name (i := 2) sc_seed.nd rfl (.inl rfl)))
      (pss_cons (ps_for PassesOwn.never rfl (pi_list (pe_slice sl_list (pv 0) po_none (po_some pe_int))) (pg_name (i := 3) sc_seed.nd rfl (.inl rfl))
      (pss_one (ps_asg (pe_op op_mod (pe_callTy call_int1 (by rfl) T.int (by decide +kernel) (pa_cons (pe_op op_add (pe_op op_mul (pv 2) pe_int) (pv 3)) pa_nil)) pe_int) (pg_name (i := 2) sc_seed.nd rfl (.inl rfl)))))
      (pss_one (ps_ret (pv 2)))))), ?_⟩
    refine ⟨_, rfl, _, rfl, _, _, rfl, .inl hS, _, _, rfl, rfl, _, rfl, ?_⟩
    refine ite2 (fun hc => ?_) (fun hc => ?_)
    · have hlt : k < ns.length := by simpa using hc
      obtain ⟨j, rfl⟩ := Int.eq_ofNat_of_zero_le k0
      have hj : j < ns.length := by omega
      have hat : (ns.map V.int)[j]? = some (.int ns[j]) := by simp [hj]
      exact ⟨_, rfl, _, rfl, _, _, _, _, rfl, rfl, hS, atI_nat hat, ret _ _ (Same.refl H) (bits _ (List.getElem_mem _))⟩
    · refine ⟨_, rfl, _, _, rfl, rfl, .inl ⟨by decide, by decide⟩, _, rfl, _, _, rfl, rfl, .inr ⟨by omega, by omega⟩, _, _, rfl, rfl, _, rfl, _, rfl, _, _, rfl, hS, fun p hp => ?_⟩
      refine ⟨p, rfl, ⟨_, SqL.of upd_same⟩, for_list (K := K) (a := p) (xs := cutV (ns.map V.int) none (some 4)) (fun i σ' H' => ∃ (z : Int) (v : Option V), σ' = [some (.ref a), some (.int k), some (.int z), v] ∧
        H' = upd H p (.lst (cutV (ns.map V.int) none (some 4))) ∧ 0 ≤ z ∧ z < 2 ^ 50) ⟨_, none, rfl, rfl, ?_, ?_⟩ ?_ ?_ ?_⟩
      · have q : 0 ≤ k * k := Int.mul_nonneg k0 k0
        show 0 ≤ 7919 + 104729 * k * k
        rw [Int.mul_assoc]
        omega
      · have q : k * k ≤ 1000 * 1000 := Int.mul_le_mul (by omega) (by omega) k0 (by decide)
        show 7919 + 104729 * k * k < 2 ^ 50
        rw [Int.mul_assoc]
        omega
      · rintro i σ' H' _ ⟨z, v, _, rfl, _⟩
        exact SqL.of upd_same
      · rintro i x σ' H' hx ⟨z, v, rfl, rfl, _, _⟩
        have hm : x ∈ ns.map V.int := by
          have q := List.mem_of_getElem? hx
          exact List.mem_of_mem_drop (List.mem_of_mem_take q)
        obtain ⟨n, _, rfl⟩ := List.mem_map.mp hm
        refine ⟨_, rfl, _, _, rfl, rfl, .inr ⟨by decide, by decide⟩, _, rfl, _, _, rfl, rfl, .inl ⟨_, rfl, _, _, rfl, rfl, (by show (0 : Int) < _; decide), ?_⟩⟩
        refine ⟨_, _, rfl, rfl, ?_, ?_⟩
        · exact Int.emod_nonneg _ (by decide)
        · have q := Int.emod_lt_of_pos (z * 52711 + n) (b := 2147483563) (by decide)
          show (z * 52711 + n) % 2147483563 < 2 ^ 50
          omega
      · rintro σ' H' ⟨z, v, rfl, rfl, z0, z1⟩
        refine ⟨_, rfl, ret _ _ (same_new hp) (bits_small ?_)⟩
        have : z.natAbs < 2 ^ 50 := by omega
        exact Nat.lt_trans this (Nat.pow_lt_pow_right (by decide) (by decide))
end L

namespace Hv
open PySem L2
abbrev text (n : Nat) : Str := Str.ofString (toString ((n : Nat) : Int))
def numOf (z : Str) (most : Nat) : Option Nat := (List.range (most + 1)).find? fun n => decide (text n = z)
def numV : Option Nat → V
  | some n => .int (n : Int)
  | none => .non
theorem text_int : ∀ n < 13, intText? (text n) = some (n : Int) := by decide +kernel
theorem text_len : ∀ m < 13, ∀ n < m + 1, 1 ≤ (text n).length ∧ (text n).length ≤ (text m).length := by decide +kernel
theorem text_digits : ∀ n < 13, ∀ c ∈ (text n).cps.toList, c ∈ (Str.ofString "0123456789").cps.toList := by decide +kernel
theorem text_short : ∀ m < 13, (text m).length ≤ 2 := by decide +kernel
theorem digits_in : ∀ c ∈ (Str.ofString "0123456789").cps.toList, 48 ≤ c ∧ c ≤ 57 := by decide +kernel
theorem numOf_some {z : Str} {m n : Nat} (h : numOf z m = some n) : n ≤ m ∧ text n = z := by
  unfold numOf at h
  have h1 := List.mem_of_find?_eq_some h
  have h2 := List.find?_some h
  exact ⟨by have := List.mem_range.mp h1; omega, of_decide_eq_true h2⟩
theorem numOf_of {z : Str} {m n : Nat} (hm : m ≤ 12) (hn : n ≤ m) (e : text n = z) : numOf z m = some n := by
  cases q : numOf z m with
  | none =>
    unfold numOf at q
    have := (List.find?_eq_none.mp q) n (List.mem_range.mpr (by omega))
    exact absurd (decide_eq_true e) this
  | some k =>
    obtain ⟨h1, h2⟩ := numOf_some q
    have a := text_int n (by omega)
    have b := text_int k (by omega)
    rw [e] at a
    rw [h2, a] at b
    have := Option.some.inj b
    rw [Int.ofNat.inj this]
theorem numOf_none {z : Str} {m : Nat} (h : ∀ n, n ≤ m → text n ≠ z) : numOf z m = none := by
  cases q : numOf z m with
  | none => rfl
  | some k => exact absurd (numOf_some q).2 (h k (numOf_some q).1)
/-- the signs are all digits: the text is a number's -/
theorem all_digits {z : Str} (h1 : 1 ≤ z.length) (h2 : z.length ≤ 2) (h : ∀ c ∈ z.cps.toList, c ∈ (Str.ofString "0123456789").cps.toList) : ∃ n : Nat, intText? z = some (n : Int) := by
  have e : z = SX.S z.cps.toList := by
    cases z
    rfl
  refine ⟨NumText.digitsVal z.cps.toList, ?_⟩
  rw [e]
  refine SX.int_S ?_ ?_ ?_
  · rw [List.all_eq_true]
    intro c hc
    have := digits_in c (h c (by simpa using hc))
    rw [Bool.and_eq_true, decide_eq_true_eq, decide_eq_true_eq]
    exact this
  · intro q
    have : z.cps.toList.length = 0 := by rw [q]; rfl
    have l : z.length = z.cps.toList.length := by
      show z.cps.size = _
      simp
    omega
  · have l : z.length = z.cps.toList.length := by
      show z.cps.size = _
      simp
    omega

abbrev MARK : Str := Str.ofString "over "
abbrev SLASH : Str := Str.ofString "/"
def isOver (z : Str) : Bool := Txt.startswith z MARK
def fracOf (z : Str) : Option (Nat × Nat) :=
  match Txt.split (Txt.removeprefix z MARK) SLASH with
  | [a, b] =>
    match numOf a 12, numOf b 12 with
    | some p, some q => if q < 1 ∨ 1 < Nat.gcd p q then none else if p + (if isOver z then 1 else 0) ≤ q then some (p, q) else none
    | _, _ => none
  | _ => none
theorem fracOf_le {z : Str} {p q : Nat} (h : fracOf z = some (p, q)) : p ≤ 12 ∧ q ≤ 12 ∧ 1 ≤ q ∧ p ≤ q ∧ Nat.gcd p q = 1 := by
  unfold fracOf at h
  split at h
  · rename_i a b _
    cases e1 : numOf a 12 with
    | none => rw [e1] at h; cases h
    | some p1 =>
      cases e2 : numOf b 12 with
      | none => rw [e1, e2] at h; cases h
      | some q1 =>
        rw [e1, e2] at h
        dsimp only at h
        have l1 := (numOf_some e1).1
        have l2 := (numOf_some e2).1
        by_cases c : q1 < 1 ∨ 1 < Nat.gcd p1 q1
        · rw [if_pos c] at h; cases h
        · rw [if_neg c] at h
          by_cases d : p1 + (if isOver z = true then 1 else 0) ≤ q1
          · rw [if_pos d] at h
            cases h
            have g : 0 < Nat.gcd p q := Nat.gcd_pos_of_pos_right _ (by omega)
            refine ⟨l1, l2, by omega, by omega, by omega⟩
          · rw [if_neg d] at h; cases h
  · cases h
/-- what fraction_of asks of a text's length -/
structure TextOk (z : Str) : Prop where
  own : z.length + 2 ≤ sizeLine
  cut : (Txt.removeprefix z MARK).length + 2 ≤ sizeLine
  part : ∀ p ∈ Txt.split (Txt.removeprefix z MARK) SLASH, p.length ≤ sizeLine
/-- whether p of w meet the bound z, which is a / b -/
def met (z : Str) (a b : Nat) (p w : Int) : Bool := if isOver z then decide (w * a < p * b) else decide (w * a ≤ p * b)

theorem fracOf_len {z : Str} (h : (Txt.split (Txt.removeprefix z MARK) SLASH).length ≠ 2) : fracOf z = none := by
  unfold fracOf
  split
  · rename_i e
    rw [e] at h
    exact absurd rfl h
  · rfl
theorem fracOf_two {z a b : Str} (e : Txt.split (Txt.removeprefix z MARK) SLASH = [a, b]) : fracOf z = match numOf a 12, numOf b 12 with
    | some p, some q => if q < 1 ∨ 1 < Nat.gcd p q then none else if p + (if isOver z then 1 else 0) ≤ q then some (p, q) else none
    | _, _ => none := by
  unfold fracOf
  rw [e]
theorem two_of {l : List Str} (h : l.length = 2) : ∃ a b, l = [a, b] := by
  match l, h with
  | [a, b], _ => exact ⟨a, b, rfl⟩
/-! promises -/
def sp_is_integer (K : PySem.W.Frag) : Sp := fun vs H Q _ => ∃ (v : V) (t : Value) (b1 b2 : Bool), vs = [v] ∧ TyX K H v t ∧ PySem.W.kitOne K t (.type "int") = some b1 ∧
  PySem.W.kitOne K t (.type "bool") = some b2 ∧ Q (.bl (b1 && !b2)) H
def sp_gcd : Sp := fun vs H Q _ => ∃ (a b : Nat), vs = [.int a, .int b] ∧ Q (.int (Nat.gcd a b : Nat)) H
def sp_number_of : Sp := fun vs H Q _ => ∃ (z : Str) (m : Nat), vs = [.str z, .int m] ∧ z.length ≤ sizeLine ∧ m ≤ 12 ∧ ∀ H', Same H H' → Q (numV (numOf z m)) H'
/-- of a text, or of another value -/
def sp_fraction_of (K : PySem.W.Frag) : Sp := fun vs H Q _ =>
  (∃ z : Str, vs = [.str z] ∧ TextOk z ∧ (fracOf z = none → ∀ H', Same H H' → Q .non H') ∧
    ∀ a b, fracOf z = some (a, b) → ∀ p H', H p = none → Same H H' → H' p = some (.tup [.int (a : Int), .int (b : Int)]) → Q (.ref p) H') ∨
  ∃ (v : V) (t : Value), vs = [v] ∧ TyX K H v t ∧ PySem.W.kitOne K t (.type "str") = some false ∧ Q .non H
def sp_is_bound (K : PySem.W.Frag) : Sp := fun vs H Q _ =>
  (∃ z : Str, vs = [.str z] ∧ TextOk z ∧ ∀ H', Same H H' → Q (.bl (fracOf z).isSome) H') ∨
  ∃ (v : V) (t : Value), vs = [v] ∧ TyX K H v t ∧ PySem.W.kitOne K t (.type "str") = some false ∧ Q (.bl false) H
def sp_bound_met : Sp := fun vs H Q _ => ∃ (z : Str) (a b : Nat) (p w : Int), vs = [.str z, .int p, .int w] ∧ TextOk z ∧ fracOf z = some (a, b) ∧ ∀ H', Same H H' → Q (.bl (met z a b p w)) H'
end Hv
namespace L
open PySem L2 Hv
variable {P : Program} {w : World} {K : PySem.W.Frag} {mg : Str → Option Value} {base : Heap}
abbrev s_is_integer : Stmt := top 7
abbrev N_is_integer : List Str := ["value"]
abbrev P_is_integer : List Str := ["value"]
theorem sc_is_integer : FnScope N_is_integer P_is_integer (defScope s_is_integer) := ⟨rfl, rfl, rfl, by decide +kernel, rfl, by decide +kernel, by decide +kernel⟩
theorem ok_is_integer {f : Addr} {fd : FuncData} (D : DefAt K mg "is_integer" s_is_integer P_is_integer f fd) (T : Txt K mg) : FnOk P w K mg base CX0 1 f fd P_is_integer (sp_is_integer K) := by
  refine D.fn.ok sc_is_integer (fun vs H Q E h => ?_) (fun cdv A outer s H vs Q E hr h => ?_)
  · obtain ⟨v, t, b1, b2, rfl, _⟩ := h
    rfl
  · obtain ⟨v, t, b1, b2, rfl, ty, k1, k2, ret⟩ := h
    refine ⟨_, (pss_one (ps_ret (pe_and (pe_callB call_isi (by rfl) T.isinstance (by decide +kernel) (pa_cons (pv 0) (pa_cons (pe_bltn (v := .ty "int") (u := .type "int") (by rfl) T.int (by decide +kernel) rfl) pa_nil))) (pe_one (pe_not (pe_callB call_isi (by rfl) T.isinstance (by decide +kernel) (pa_cons (pv 0) (pa_cons (pe_bltn (v := .ty "bool") (u := .type "bool") (by rfl) T.bool (by decide +kernel) rfl) pa_nil)))))))), ?_⟩
    refine ⟨_, rfl, _, _, _, _, _, rfl, .ty _, ty, k1, _, rfl, ?_⟩
    cases b1 with
    | true => exact iteT ⟨_, rfl, _, _, _, _, _, rfl, .ty _, ty, k2, _, rfl, ret⟩
    | false => exact iteF ret
abbrev s_common_divisor : Stmt := top 8
abbrev N_common_divisor : List Str := ["one", "other"]
abbrev P_common_divisor : List Str := ["one", "other"]
theorem sc_common_divisor : FnScope N_common_divisor P_common_divisor (defScope s_common_divisor) := ⟨rfl, rfl, rfl, by decide +kernel, rfl, by decide +kernel, by decide +kernel⟩
theorem ok_common_divisor {f : Addr} {fd : FuncData} (D : DefAt K mg "common_divisor" s_common_divisor P_common_divisor f fd) (T : Txt K mg) : FnOk P w K mg base CX0 1 f fd P_common_divisor sp_gcd := by
  refine D.fn.ok sc_common_divisor (fun vs H Q E h => ?_) (fun cdv A outer s H vs Q E hr h => ?_)
  · obtain ⟨a, b, rfl, _⟩ := h
    rfl
  · obtain ⟨a, b, rfl, ret⟩ := h
    refine ⟨_, (pss_cons (ps_while PassesOwn.never (pt_cmpR op_gt (pv 1) pe_int (nomark _))
      (pss_one (ps_par (i := 0) (j := 1) (by rfl) sc_common_divisor.nd rfl rfl (by decide) rfl rfl (pa_cons (pv 1) (pa_cons (pe_op op_mod (pe_callTy call_int1 (by rfl) T.int (by decide +kernel) (pa_cons (pv 0) pa_nil)) (pv 1)) pa_nil)) (by rfl))))
      (pss_one (ps_ret (pv 0)))), ?_⟩
    refine ⟨fun m σ' H' => ∃ x y : Nat, σ' = [some (.int (x : Int)), some (.int (y : Int))] ∧ Nat.gcd x y = Nat.gcd a b ∧ m = y ∧ H' = H, ⟨b, a, b, rfl, rfl, rfl, rfl⟩, ?_⟩
    rintro m σ' H' ⟨x, y, rfl, e, rfl, rfl⟩
    refine ⟨_, rfl, _, _, rfl, rfl, _, rfl, ?_⟩
    refine ite2 (fun hc => ?_) (fun hc => ?_)
    · have hy : 0 < m := by have := of_decide_eq_true hc; omega
      refine ⟨fun σ2 H2 => σ2 = [some (.int (m : Int)), some (.int ((x % m : Nat) : Int))] ∧ H2 = H', ?_, ?_⟩
      · rintro σ2 H2 ⟨rfl, rfl⟩
        refine ⟨x % m, Nat.mod_lt _ hy, m, x % m, rfl, ?_, rfl, rfl⟩
        rw [Nat.gcd_comm, ← Nat.gcd_rec, Nat.gcd_comm, e]
      · refine ⟨_, rfl, _, rfl, .inl ⟨_, rfl, _, rfl, _, _, rfl, rfl, ?_, _, _, rfl, ?_, rfl⟩⟩
        · show (0 : Int) < m
          omega
        · rfl
    · have hy : m = 0 := by
        have : ¬ (0 : Int) < (m : Int) := fun q => hc (decide_eq_true q)
        omega
      subst hy
      refine ⟨_, rfl, ?_⟩
      rw [Nat.gcd_zero_right] at e
      rw [e]
      exact ret
abbrev s_number_of : Stmt := top 9
abbrev N_number_of : List Str := ["word", "most", "number", "sign"]
abbrev P_number_of : List Str := ["word", "most"]
theorem sc_number_of : FnScope N_number_of P_number_of (defScope s_number_of) := ⟨rfl, rfl, rfl, by decide +kernel, rfl, by decide +kernel, by decide +kernel⟩
theorem ok_number_of {f : Addr} {fd : FuncData} (D : DefAt K mg "number_of" s_number_of P_number_of f fd) (T : Txt K mg) : FnOk P w K mg base CX0 1 f fd P_number_of sp_number_of := by
  refine D.fn.ok sc_number_of (fun vs H Q E h => ?_) (fun cdv A outer s H vs Q E hr h => ?_)
  · obtain ⟨z, m, rfl, _⟩ := h
    rfl
  · obtain ⟨z, m, rfl, hz, hm, ret⟩ := h
    refine ⟨_, (pss_cons (ps_if (PW.pt (pw_or (pt_not (pt_chain op_le op_le pe_int (pe_callB call_len_str (by rfl) T.len (by decide +kernel) (pa_cons (pv 0) pa_nil)) (pe_callB call_len_str (by rfl) T.len (by decide +kernel) (pa_cons (pe_callTy call_str_int (by rfl) T.str (by decide +kernel) (pa_cons (pv 1) pa_nil)) pa_nil)))) (pw_or1 (pt_val (pe_callB (cr_any rfl) (by rfl) T.any (by decide +kernel) (pa_cons (pe_lc (own := [("sign", 3)]) (g := gName 3) rfl sc_number_of.nd (pi_str (pv 0)) (blkOk_by (own := [("sign", 3)]) (N := N_number_of) (sc := defScope s_number_of) (by decide +kernel)) (fun _ _ _ _ _ => (pg_name (i := 3) sc_number_of.nd rfl (.inl rfl))) (fun _ _ _ _ _ => pts_nil) (fun _ _ _ _ _ => (pe_cmpR op_notIn_sign (pv 3) (pe_glob (v := .str "0123456789") rfl T.cDIGITS.choose_spec ⟨_, rfl⟩) (by rfl)))) pa_nil))))))
      (pss_one (ps_ret pe_non))
      pss_nil)
      (pss_cons (ps_asg (pe_callTy call_int_str (by rfl) T.int (by decide +kernel) (pa_cons (pv 0) pa_nil)) (pg_name (i := 2) sc_number_of.nd rfl (.inl rfl)))
      (pss_one (ps_ret (pe_ifExp (PW.pt (pw_and (pt_cmpR op_le (pv 2) (pv 1) (nomark _)) (pw_and1 (pt_cmpR op_eq (pe_callTy call_str_int (by rfl) T.str (by decide +kernel) (pa_cons (pv 2) pa_nil)) (pv 0) (nomark _))))) (pv 2) pe_non))))), ?_⟩
    have none_ : numOf z m = none → ∀ H', Same H H' → Q .non H' := fun e H' s => by
      have q := ret H' s
      rw [e] at q
      exact q
    refine ⟨_, rfl, _, rfl, hz, _, _, rfl, rfl, _, rfl, ?_⟩
    refine ite2 (fun hc => ?_) (fun hc => ?_)
    · have c1 : (1 : Int) ≤ z.length := of_decide_eq_true hc
      have lg : (m : Int).natAbs.log2 < 1920 := Nat.lt_of_le_of_lt (log2_mono (show (m : Int).natAbs ≤ 12 by omega)) (by decide)
      refine ⟨_, rfl, _, rfl, lg, _, rfl, ?_, _, _, rfl, rfl, _, rfl, ?_⟩
      · exact Nat.le_trans (text_short m (by omega)) (by decide)
      refine ite2 (fun hc2 => ?_) (fun hc2 => ?_)
      · -- the length does not fit
        refine none_ (numOf_none fun n hn e => ?_) _ (Same.refl H)
        have l := (text_len m (by omega) n (by omega)).2
        rw [e] at l
        have : ¬ ((z.length : Int) ≤ ((text m).length : Int)) := nT hc2
        omega
      · have c2 : (z.length : Int) ≤ ((text m).length : Int) := nF hc2
        have c3 := text_short m (by omega)
        refine ⟨_, rfl, _, rfl, fun L hL => ?_⟩
        refine lc_it walk_str (fun i H' => H' = upd H L (.lst ((z.cps.toList.take i).map fun c => V.bl (!decide (c ∈ (Str.ofString "0123456789").cps.toList))))) ?_ (fun _ _ _ _ => trivial) ?_ ?_
        · rfl
        · rintro i x H1 H2 hi rfl ⟨rfl, c, hc, rfl⟩
          refine ⟨rfl, _, rfl, c, _, rfl, rfl, _, upd_same, ?_, ?_⟩
          · rw [List.length_map, List.length_take]
            have : z.cps.toList.length = z.length := by
              show _ = z.cps.size
              simp
            have s2 : 2 < sizeLine := by decide
            omega
          · rw [upd_upd, List.take_succ]
            have e : z.cps.toList[i]? = some c := by simpa using hc
            rw [e, List.map_append]
            rfl
        · rintro H1 rfl
          have e : List.take z.cps.size z.cps.toList = z.cps.toList := List.take_of_length_le (by simp)
          rw [e]
          refine ⟨_, z.cps.toList.map fun c => !decide (c ∈ (Str.ofString "0123456789").cps.toList), rfl, SqL.of (by rw [upd_same, List.map_map]; rfl), _, rfl, ?_⟩
          refine ite2 (fun ha => ?_) (fun ha => ?_)
          · refine none_ (numOf_none fun n hn q => ?_) _ (same_new hL)
            rw [List.any_map, List.any_eq_true] at ha
            obtain ⟨c, hc, hd⟩ := ha
            have := text_digits n (by omega) c (by rw [q]; exact hc)
            exact nT (p := c ∈ (Str.ofString "0123456789").cps.toList) hd this
          · have dg : ∀ c ∈ z.cps.toList, c ∈ (Str.ofString "0123456789").cps.toList := by
              intro c hc
              by_cases q : c ∈ (Str.ofString "0123456789").cps.toList
              · exact q
              · exfalso
                apply ha
                rw [List.any_map, List.any_eq_true]
                exact ⟨c, hc, by show (!decide (c ∈ (Str.ofString "0123456789").cps.toList)) = true; rw [decide_eq_false q]; rfl⟩
            obtain ⟨n, hn⟩ := all_digits (by omega) (by omega) dg
            refine ⟨_, rfl, _, _, rfl, hn, by omega, _, rfl, _, rfl, _, _, rfl, rfl, _, rfl, ?_⟩
            have no : ¬ (n ≤ m ∧ text n = z) → numOf z m = none := fun q => numOf_none fun k hk e => q (by
              have a := text_int k (by omega)
              rw [e, hn] at a
              have b : n = k := by have := Option.some.inj a; omega
              rw [b]
              exact ⟨hk, e⟩)
            refine ite2 (fun h1 => ?_) (fun h1 => ?_)
            · have h1' : n ≤ m := by have := of_decide_eq_true h1; omega
              have lg : (n : Int).natAbs.log2 < 1920 := Nat.lt_of_le_of_lt (log2_mono (show (n : Int).natAbs ≤ 12 by omega)) (by decide)
              refine ⟨_, rfl, _, rfl, lg, _, rfl, rfl, _, rfl, ?_⟩
              refine ite2 (fun h2 => ?_) (fun h2 => ?_)
              · have h2' : text n = z := V.str.inj (of_decide_eq_true h2)
                refine ⟨_, rfl, ?_⟩
                have q := ret _ (same_new (o := .lst (z.cps.toList.map fun c => V.bl (!decide (c ∈ (Str.ofString "0123456789").cps.toList)))) hL)
                rw [numOf_of hm h1' h2'] at q
                exact q
              · refine none_ (no fun q => h2 (decide_eq_true ?_)) _ (same_new hL)
                rw [← q.2]
            · refine iteF (none_ (no fun q => h1 (decide_eq_true ?_)) _ (same_new hL))
              have := q.1
              omega
    · refine ⟨_, rfl, iteT (none_ (numOf_none fun n hn e => ?_) _ (Same.refl H))⟩
      have l := (text_len m (by omega) n (by omega)).1
      rw [e] at l
      have : ¬ ((1 : Int) ≤ (z.length : Int)) := dF hc
      omega
abbrev s_fraction_of : Stmt := top 12
abbrev N_fraction_of : List Str := ["bound", "words", "part", "whole"]
abbrev P_fraction_of : List Str := ["bound"]
theorem sc_fraction_of : FnScope N_fraction_of P_fraction_of (defScope s_fraction_of) := ⟨rfl, rfl, rfl, by decide +kernel, rfl, by decide +kernel, by decide +kernel⟩
theorem ok_fraction_of {f f1 f2 : Addr} {fd fd1 fd2 : FuncData} (D : DefAt K mg "fraction_of" s_fraction_of P_fraction_of f fd) (T : Txt K mg)
    (D_number_of : DefAt K mg "number_of" s_number_of P_number_of f1 fd1) (D_common_divisor : DefAt K mg "common_divisor" s_common_divisor P_common_divisor f2 fd2) :
    FnOk P w K mg base CX0 2 f fd P_fraction_of (sp_fraction_of K) := by
  have G_number_of : FnOk P w K mg base CX0 1 f1 fd1 P_number_of sp_number_of := ok_number_of D_number_of T
  have G_common_divisor : FnOk P w K mg base CX0 1 f2 fd2 P_common_divisor sp_gcd := ok_common_divisor D_common_divisor T
  refine D.fn.ok sc_fraction_of (fun vs H Q E h => ?_) (fun cdv A outer s H vs Q E hr h => ?_)
  · rcases h with ⟨z, rfl, _⟩ | ⟨v, t, rfl, _⟩ <;> rfl
  · refine ⟨_, (pss_cons (ps_if (pt_not (pt_val (pe_callB call_isi (by rfl) T.isinstance (by decide +kernel) (pa_cons (pv 0) (pa_cons (pe_bltn (v := .ty "str") (u := .type "str") (by rfl) T.str (by decide +kernel) rfl) pa_nil)))))
      (pss_one (ps_ret pe_non))
      pss_nil)
      (pss_cons (ps_asg (pe_split (pe_bm PySem.F.plainAttrs_str PySem.F.slot_str_removeprefix PySem.F.type_str_removeprefix mt_removeprefix (pv 0) (pa_cons (pe_glob (v := .str "over ") rfl T.cMARK.choose_spec ⟨_, rfl⟩) pa_nil)) pe_str) (pg_name (i := 1) sc_fraction_of.nd rfl (.inl rfl)))
      (pss_cons (ps_if (pt_cmpR op_ne (pe_callB call_len_seq (by rfl) T.len (by decide +kernel) (pa_cons (pv 1) pa_nil)) pe_int (nomark _))
      (pss_one (ps_ret pe_non))
      pss_nil)
      (pss_cons (ps_par (i := 2) (j := 3) (by rfl) sc_fraction_of.nd rfl rfl (by decide) rfl rfl (pa_cons (pe_call G_number_of (hr.mono (by decide)) rfl D_number_of.mg D_number_of.fn.kp D_number_of.bd .nil pass0 (pa_cons (pe_ix ix_list (pv 1) pe_int (fun _ _ => rfl)) (pa_cons (pe_glob (v := .int 12) rfl T.cMOST_PART.choose_spec ⟨_, rfl⟩) pa_nil))) (pa_cons (pe_call G_number_of (hr.mono (by decide)) rfl D_number_of.mg D_number_of.fn.kp D_number_of.bd .nil pass0 (pa_cons (pe_ix ix_list (pv 1) pe_int (fun _ _ => rfl)) (pa_cons (pe_glob (v := .int 12) rfl T.cMOST_PART.choose_spec ⟨_, rfl⟩) pa_nil))) pa_nil)) (by rfl))
      (pss_cons (ps_if (PW.pt (pw_or (pt_cmpR op_isN (pv 2) pe_non (nomark _)) (pw_or (pt_cmpR op_isN (pv 3) pe_non (nomark _)) (pw_or (pt_cmpR op_lt (pv 3) pe_int (nomark _)) (pw_or1 (pt_cmpR op_gt (pe_call G_common_divisor (hr.mono (by decide)) rfl D_common_divisor.mg D_common_divisor.fn.kp D_common_divisor.bd .nil pass0 (pa_cons (pv 2) (pa_cons (pv 3) pa_nil))) pe_int (nomark _)))))))
      (pss_one (ps_ret pe_non))
      pss_nil)
      (pss_one (ps_ret (pe_ifExp (pt_cmpR op_le (pe_op op_add (pv 2) (pe_ifExp (pt_val (pe_m1 PySem.F.slot_str_startswith PySem.F.type_str_startswith mt_startswith (pv 0) (pe_glob (v := .str "over ") rfl T.cMARK.choose_spec ⟨_, rfl⟩))) pe_int pe_int)) (pv 3) (nomark _)) (pe_tup (pa_cons (pv 2) (pa_cons (pv 3) pa_nil))) pe_non)))))))), ?_⟩
    rcases h with ⟨z, rfl, ok, rn, rs⟩ | ⟨v, t, rfl, ty, kit, ret⟩
    · refine ⟨_, rfl, _, _, _, _, _, rfl, .ty _, .base (.str z), kit_ty (r := true) (by decide +kernel), _, rfl, ?_⟩
      refine ⟨_, rfl, rfl, _, _, rfl, rfl, by have := ok.own; omega, ⟨_, rfl⟩, _, _, rfl, rfl, by decide, ok.cut, fun p hp => ?_⟩
      have hL := upd_same (H := H) (a := p) (o := .lst ((Txt.split (Txt.removeprefix z MARK) SLASH).map V.str))
      have sm : Same H (upd H p (.lst ((Txt.split (Txt.removeprefix z MARK) SLASH).map V.str))) := same_new hp
      refine ⟨_, rfl, _, _, rfl, .inl (SqL.of hL), rfl, _, rfl, ?_⟩
      refine ite2 (fun hc => ?_) (fun hc => ?_)
      · refine rn (fracOf_len fun q => nT hc ?_) _ sm
        rw [List.length_map, q]
        rfl
      · have l2 : (Txt.split (Txt.removeprefix z MARK) SLASH).length = 2 := by
          have := V.int.inj (nF hc)
          rw [List.length_map] at this
          omega
        obtain ⟨a, b, e⟩ := two_of l2
        have la : a.length ≤ sizeLine := ok.part a (by rw [e]; simp)
        have lb : b.length ≤ sizeLine := ok.part b (by rw [e]; simp)
        rw [e] at hL sm ⊢
        have fe := fracOf_two e
        refine ⟨_, rfl, _, _, _, _, rfl, rfl, SqL.of hL, rfl, a, 12, rfl, la, by decide, fun H1 s1 => ?_⟩
        refine ⟨_, rfl, _, _, _, _, rfl, rfl, SqL.of (s1 _ _ hL), rfl, b, 12, rfl, lb, by decide, fun H2 s2 => ⟨_, _, rfl, ?_⟩⟩
        have sm2 : Same H H2 := (sm.trans s1).trans s2
        cases e1 : numOf a 12 with
        | none =>
          rw [e1] at fe
          refine ⟨_, rfl, rfl, _, rfl, ?_⟩
          exact ifT rfl (rn fe _ sm2)
        | some x =>
          cases e2 : numOf b 12 with
          | none =>
            rw [e1, e2] at fe
            refine ⟨_, rfl, rfl, _, rfl, ?_⟩
            refine ifF (fun q => by cases q) ⟨_, rfl, rfl, _, rfl, ?_⟩
            exact ifT rfl (rn fe _ sm2)
          | some y =>
            rw [e1, e2] at fe
            dsimp only at fe
            refine ⟨_, rfl, rfl, _, rfl, ?_⟩
            refine ifF (fun q => by cases q) ⟨_, rfl, rfl, _, rfl, ?_⟩
            refine ifF (fun q => by cases q) ⟨_, rfl, _, _, rfl, rfl, _, rfl, ?_⟩
            by_cases y1 : y < 1
            · refine ifT (by omega) (rn ?_ _ sm2)
              rw [fe, if_pos (.inl y1)]
            · refine ifF (by omega) ⟨_, rfl, _, rfl, x, y, rfl, _, _, rfl, rfl, _, rfl, ?_⟩
              by_cases g : 1 < Nat.gcd x y
              · refine ifT (by omega) (rn ?_ _ sm2)
                rw [fe, if_pos (.inr g)]
              · refine ifF (by omega) ⟨_, rfl, _, rfl, ⟨_, rfl⟩, _, _, rfl, rfl, _, rfl, ?_⟩
                rw [if_neg (by omega)] at fe
                have fin : ∀ k : Nat, k = (if isOver z = true then 1 else 0) → ∀ i : Int, i = k → (if decide ((x : Int) + i ≤ (y : Int)) = true then
                    tTup (tCons (tVar 2) (tCons (tVar 3) tNil)) [some (V.str z), some (V.ref p), some (V.int (x : Int)), some (V.int (y : Int))] H2 Q
                    else Q .non H2) := by
                  intro k hk i hi
                  by_cases c : x + k ≤ y
                  · refine ifT (by omega) ⟨_, rfl, _, rfl, by show 2 ≤ sizeLine; decide, fun t ht => ?_⟩
                    rw [← hk, if_pos c] at fe
                    exact rs x y fe t _ (sm2.free ht) (sm2.trans (same_new ht)) upd_same
                  · refine ifF (by omega) (rn ?_ _ sm2)
                    rw [fe, ← hk, if_neg c]
                cases ov : isOver z with
                | true =>
                  have ov' : Txt.startswith z MARK = true := ov
                  rw [ov']
                  exact ⟨_, _, rfl, rfl, _, rfl, _, _, rfl, rfl, _, rfl, fin 1 (by rw [ov]; rfl) 1 rfl⟩
                | false =>
                  have ov' : Txt.startswith z MARK = false := ov
                  rw [ov']
                  exact ⟨_, _, rfl, rfl, _, rfl, _, _, rfl, rfl, _, rfl, fin 0 (by rw [ov]; rfl) 0 rfl⟩
    · exact ⟨_, rfl, _, _, _, _, _, rfl, .ty _, ty, kit, _, rfl, ret⟩
abbrev s_is_bound : Stmt := top 13
abbrev N_is_bound : List Str := ["value"]
abbrev P_is_bound : List Str := ["value"]
theorem sc_is_bound : FnScope N_is_bound P_is_bound (defScope s_is_bound) := ⟨rfl, rfl, rfl, by decide +kernel, rfl, by decide +kernel, by decide +kernel⟩
theorem ok_is_bound {f f1 : Addr} {fd fd1 : FuncData} (D : DefAt K mg "is_bound" s_is_bound P_is_bound f fd) (D_fraction_of : DefAt K mg "fraction_of" s_fraction_of P_fraction_of f1 fd1)
    (G_fraction_of : FnOk P w K mg base CX0 2 f1 fd1 P_fraction_of (sp_fraction_of K)) : FnOk P w K mg base CX0 3 f fd P_is_bound (sp_is_bound K) := by
  refine D.fn.ok sc_is_bound (fun vs H Q E h => ?_) (fun cdv A outer s H vs Q E hr h => ?_)
  · rcases h with ⟨z, rfl, _⟩ | ⟨v, t, rfl, _⟩ <;> rfl
  · refine ⟨_, (pss_one (ps_ret (pe_cmpR op_notN (pe_call G_fraction_of (hr.mono (by decide)) rfl D_fraction_of.mg D_fraction_of.fn.kp D_fraction_of.bd .nil pass0 (pa_cons (pv 0) pa_nil)) pe_non (nomark _)))), ?_⟩
    rcases h with ⟨z, rfl, ok, ret⟩ | ⟨v, t, rfl, ty, kit, ret⟩
    · refine ⟨_, rfl, .inl ⟨z, rfl, ok, fun e H' sm => ?_, fun a b e p H' hp sm h' => ?_⟩⟩
      · have q := ret H' sm
        rw [e] at q
        exact ⟨rfl, q⟩
      · have q := ret H' sm
        rw [e] at q
        exact ⟨rfl, q⟩
    · exact ⟨_, rfl, .inr ⟨v, t, rfl, ty, kit, rfl, ret⟩⟩
abbrev s_bound_met : Stmt := top 14
abbrev N_bound_met : List Str := ["bound", "part", "whole", "over", "under"]
abbrev P_bound_met : List Str := ["bound", "part", "whole"]
theorem sc_bound_met : FnScope N_bound_met P_bound_met (defScope s_bound_met) := ⟨rfl, rfl, rfl, by decide +kernel, rfl, by decide +kernel, by decide +kernel⟩
theorem ok_bound_met {f f1 : Addr} {fd fd1 : FuncData} (D : DefAt K mg "bound_met" s_bound_met P_bound_met f fd) (T : Txt K mg) (D_fraction_of : DefAt K mg "fraction_of" s_fraction_of P_fraction_of f1 fd1)
    (G_fraction_of : FnOk P w K mg base CX0 2 f1 fd1 P_fraction_of (sp_fraction_of K)) : FnOk P w K mg base CX0 3 f fd P_bound_met sp_bound_met := by
  refine D.fn.ok sc_bound_met (fun vs H Q E h => ?_) (fun cdv A outer s H vs Q E hr h => ?_)
  · obtain ⟨z, a, b, p, w, rfl, _⟩ := h
    rfl
  · obtain ⟨z, a, b, p, w, rfl, ok, fe, ret⟩ := h
    obtain ⟨a12, b12, _, _, _⟩ := fracOf_le fe
    refine ⟨_, (pss_cons (ps_asg (pe_call G_fraction_of (hr.mono (by decide)) rfl D_fraction_of.mg D_fraction_of.fn.kp D_fraction_of.bd .nil pass0 (pa_cons (pv 0) pa_nil)) (pg_tup (by rfl) (pgs_cons (pg_name (i := 3) sc_bound_met.nd rfl (.inl rfl)) (pgs_cons (pg_name (i := 4) sc_bound_met.nd rfl (.inl rfl)) pgs_nil))))
      (pss_cons (ps_if (pt_val (pe_m1 PySem.F.slot_str_startswith PySem.F.type_str_startswith mt_startswith (pv 0) (pe_glob (v := .str "over ") rfl T.cMARK.choose_spec ⟨_, rfl⟩)))
      (pss_one (ps_ret (pe_cmpR op_gt (pe_op op_mul (pv 1) (pv 4)) (pe_op op_mul (pv 2) (pv 3)) (nomark _))))
      pss_nil)
      (pss_one (ps_ret (pe_cmpR op_ge (pe_op op_mul (pv 1) (pv 4)) (pe_op op_mul (pv 2) (pv 3)) (nomark _)))))), ?_⟩
    refine ⟨_, rfl, .inl ⟨z, rfl, ok, (fun e => by rw [e] at fe; cases fe), fun a' b' e t H' ht sm h' => ?_⟩⟩
    rw [fe] at e
    cases e
    refine ⟨_, _, rfl, SqT.of h', rfl, _, _, rfl, _, _, rfl, rfl, _, rfl, ⟨_, rfl⟩, _, _, rfl, rfl, _, rfl, ?_⟩
    have q := ret H' sm
    unfold met at q
    cases ov : isOver z with
    | true =>
      have ov' : Txt.startswith z MARK = true := ov
      rw [ov, if_pos rfl] at q
      rw [ov']
      exact ⟨_, rfl, _, rfl, _, _, rfl, rfl, .inr ⟨by omega, by omega⟩, _, rfl, _, rfl, _, _, rfl, rfl, .inr ⟨by omega, by omega⟩, _, _, rfl, rfl, q⟩
    | false =>
      have ov' : Txt.startswith z MARK = false := ov
      rw [ov, if_neg (by decide)] at q
      rw [ov']
      exact ⟨_, rfl, _, rfl, _, _, rfl, rfl, .inr ⟨by omega, by omega⟩, _, rfl, _, rfl, _, _, rfl, rfl, .inr ⟨by omega, by omega⟩, _, _, rfl, rfl, q⟩
end L

namespace Hv
open PySem L2
def sp_meets : Sp := fun vs H Q _ => ∃ (z : Str) (a b : Nat) (p w : Int), vs = [.str z, .int p, .int w] ∧ TextOk z ∧ fracOf z = some (a, b) ∧ 0 ≤ p ∧ 1 ≤ w ∧ p ≤ w ∧ ∀ H', Same H H' → Q (.bl (met z a b p w)) H'
def lineOf (a b : Nat) : List Str := if Nat.gcd a b = 1 then (text a ++ SLASH ++ text b) :: (if a < b then [MARK ++ text a ++ SLASH ++ text b] else []) else []
def inner (b n : Nat) : List Str := (List.range n).flatMap fun a => lineOf a b
def outer (n : Nat) : List Str := (List.range n).flatMap fun i => inner (i + 1) (i + 2)
def BL : List Str := outer 12
def sp_bounds : Sp := fun vs H Q _ => vs = [] ∧ ∀ p H', H p = none → Same H H' → H' p = some (.lst (BL.map V.str)) → Q (.ref p) H'
def sp_many : Sp := fun vs H Q _ => ∃ (b : Addr) (k : Nat), vs = [.ref b] ∧ Bag H b k ∧ k < 900000 ∧ ∀ (r : Int) (H' : Hp), But b H H' → Bag H' b (k + 2) → 1 ≤ r → r ≤ 10 ^ 39 → Q (.int r) H'
/-- the other bound of a / b -/
def other (a b : Nat) : Str := if b - a = 0 then Str.ofString "over 0/1" else MARK ++ (text (b - a) ++ SLASH ++ text b)
def okLine (z : Str) : Bool :=
  match fracOf z with
  | some (a, b) => decide (Txt.split (Txt.replace z MARK (Str.ofString "")) SLASH = [text a, text b]) && (Txt.startswith z (Str.ofString "over") == isOver z) && decide (z.length ≤ 20) &&
      decide ((Txt.removeprefix z MARK).length ≤ 20) && (Txt.split (Txt.removeprefix z MARK) SLASH).all (fun p => decide (p.length ≤ 20)) && decide ((Txt.replace z MARK (Str.ofString "")).length ≤ 20)
  | none => false
def okOther (z : Str) : Bool :=
  match fracOf z with
  | some (a, b) => isOver z || decide (a = 0) ||
      (okLine (other a b) && isOver (other a b) && (fracOf (other a b) == if b - a = 0 then some (0, 1) else some (b - a, b)))
  | none => false
theorem BL_ok : BL.all okLine = true := by decide +kernel
theorem BL_other : BL.all okOther = true := by decide +kernel
theorem BL_len : BL.length = 93 := by decide +kernel
theorem sz20 {n : Nat} (h : n ≤ 20) : n + 2 ≤ sizeLine := by
  have : 22 ≤ sizeLine := by decide
  omega
structure Line (z : Str) (a b : Nat) : Prop where
  fr : fracOf z = some (a, b)
  sp : Txt.split (Txt.replace z MARK (Str.ofString "")) SLASH = [text a, text b]
  ov : Txt.startswith z (Str.ofString "over") = isOver z
  ok : TextOk z
  len : z.length ≤ 20
  rl : (Txt.replace z MARK (Str.ofString "")).length ≤ 20
theorem okLine_line {z : Str} (h : okLine z = true) : ∃ a b, Line z a b := by
  unfold okLine at h
  cases e : fracOf z with
  | none => rw [e] at h; cases h
  | some p =>
    obtain ⟨a, b⟩ := p
    rw [e] at h
    simp only [Bool.and_eq_true, decide_eq_true_eq, beq_iff_eq, List.all_eq_true] at h
    obtain ⟨⟨⟨⟨⟨h1, h2⟩, h3⟩, h4⟩, h5⟩, h6⟩ := h
    exact ⟨a, b, e, h1, h2, ⟨sz20 h3, sz20 h4, fun p hp => by have := sz20 (h5 p hp); omega⟩, h3, h6⟩
theorem line_of {z : Str} (h : z ∈ BL) : ∃ a b, Line z a b := okLine_line (List.all_eq_true.mp BL_ok z h)
theorem other_of {z : Str} {a b : Nat} (h : z ∈ BL) (l : Line z a b) (ov : isOver z = false) (ha : a ≠ 0) :
    ∃ c d, Line (other a b) c d ∧ isOver (other a b) = true ∧ (c, d) = if b - a = 0 then (0, 1) else (b - a, b) := by
  have q := List.all_eq_true.mp BL_other z h
  unfold okOther at q
  rw [l.fr] at q
  dsimp only at q
  rw [ov, decide_eq_false ha] at q
  simp only [Bool.or_self, Bool.false_or, Bool.and_eq_true, beq_iff_eq] at q
  obtain ⟨⟨q1, q2⟩, q3⟩ := q
  obtain ⟨c, d, l'⟩ := okLine_line q1
  refine ⟨c, d, l', q2, ?_⟩
  have f := l'.fr
  rw [q3] at f
  by_cases c0 : b - a = 0
  · rw [if_pos c0] at f ⊢
    exact (Option.some.inj f).symm
  · rw [if_neg c0] at f ⊢
    exact (Option.some.inj f).symm
theorem met_twice {z : Str} {a b : Nat} {p w : Int} : met z a b (2 * p) (2 * w) = met z a b p w := by
  unfold met
  rw [Int.mul_assoc, Int.mul_assoc]
  split
  · exact decide_eq_decide.mpr ⟨fun h => by omega, fun h => by omega⟩
  · exact decide_eq_decide.mpr ⟨fun h => by omega, fun h => by omega⟩
theorem met_more {z : Str} {a b : Nat} {p w : Int} (h : met z a b p w = true) : met z a b (p + 1) w = true := by
  unfold met at h ⊢
  rw [Int.add_mul, Int.one_mul]
  split at h
  · rename_i c
    rw [if_pos c]
    have := of_decide_eq_true h
    exact decide_eq_true (by omega)
  · rename_i c
    rw [if_neg c]
    have := of_decide_eq_true h
    exact decide_eq_true (by omega)
theorem met_other {z o : Str} {a b c d : Nat} {p w : Int} (hz : isOver z = false) (ho : isOver o = true) (e : (c, d) = if b - a = 0 then (0, 1) else (b - a, b)) (le : a ≤ b) (b1 : 1 ≤ b) :
    met o c d (w - p) w = !met z a b p w := by
  unfold met
  rw [hz, ho, if_pos rfl, if_neg (by decide)]
  by_cases q : b - a = 0
  · rw [if_pos q] at e
    cases e
    have : a = b := by omega
    subst this
    have k : (w * (a : Int) ≤ p * (a : Int)) ↔ w ≤ p := ⟨fun h => Int.le_of_mul_le_mul_right h (by omega), fun h => Int.mul_le_mul_of_nonneg_right h (by omega)⟩
    have k2 : (w * ((0 : Nat) : Int) < (w - p) * ((1 : Nat) : Int)) ↔ ¬ (w * (a : Int) ≤ p * (a : Int)) := by
      rw [k]
      omega
    rw [decide_eq_decide.mpr k2, decide_not]
  · rw [if_neg q] at e
    cases e
    have e2 : ((b - a : Nat) : Int) = (b : Int) - a := by omega
    rw [e2, Int.mul_sub, Int.sub_mul]
    have k2 : (w * (b : Int) - w * (a : Int) < w * (b : Int) - p * (b : Int)) ↔ ¬ (w * (a : Int) ≤ p * (b : Int)) := by omega
    rw [decide_eq_decide.mpr k2, decide_not]
end Hv
namespace L
open PySem L2 Hv
variable {P : Program} {w : World} {K : PySem.W.Frag} {mg : Str → Option Value} {base : Heap}
abbrev s_meets : Stmt := top 15
abbrev N_meets : List Str := ["bound", "part", "whole"]
abbrev P_meets : List Str := ["bound", "part", "whole"]
theorem sc_meets : FnScope N_meets P_meets (defScope s_meets) := ⟨rfl, rfl, rfl, by decide +kernel, rfl, by decide +kernel, by decide +kernel⟩
theorem ok_meets {f f1 f2 f3 : Addr} {fd fd1 fd2 fd3 : FuncData} (D : DefAt K mg "meets" s_meets P_meets f fd)
    (D_is_bound : DefAt K mg "is_bound" s_is_bound P_is_bound f1 fd1) (G_is_bound : FnOk P w K mg base CX0 3 f1 fd1 P_is_bound (sp_is_bound K))
    (D_is_integer : DefAt K mg "is_integer" s_is_integer P_is_integer f2 fd2) (G_is_integer : FnOk P w K mg base CX0 1 f2 fd2 P_is_integer (sp_is_integer K))
    (D_bound_met : DefAt K mg "bound_met" s_bound_met P_bound_met f3 fd3) (G_bound_met : FnOk P w K mg base CX0 3 f3 fd3 P_bound_met sp_bound_met) :
    FnOk P w K mg base CX0 4 f fd P_meets sp_meets := by
  refine D.fn.ok sc_meets (fun vs H Q E h => ?_) (fun cdv A outer s H vs Q E hr h => ?_)
  · obtain ⟨z, a, b, p, w, rfl, _⟩ := h
    rfl
  · obtain ⟨z, a, b, p, w, rfl, ok, fe, p0, w1, pw, ret⟩ := h
    refine ⟨_, (pss_cons (ps_if (pt_not (pt_val (pe_call G_is_bound (hr.mono (by decide)) rfl D_is_bound.mg D_is_bound.fn.kp D_is_bound.bd .nil pass0 (pa_cons (pv 0) pa_nil))))
      (pss_one ps_never)
      pss_nil)
      (pss_cons (ps_if (PW.pt (pw_or (pt_not (pt_val (pe_call G_is_integer (hr.mono (by decide)) rfl D_is_integer.mg D_is_integer.fn.kp D_is_integer.bd .nil pass0 (pa_cons (pv 1) pa_nil)))) (pw_or1 (pt_cmpR op_lt (pv 1) pe_int (nomark _)))))
      (pss_one ps_never)
      pss_nil)
      (pss_cons (ps_if (PW.pt (pw_or (pt_not (pt_val (pe_call G_is_integer (hr.mono (by decide)) rfl D_is_integer.mg D_is_integer.fn.kp D_is_integer.bd .nil pass0 (pa_cons (pv 2) pa_nil)))) (pw_or (pt_cmpR op_lt (pv 2) pe_int (nomark _)) (pw_or1 (pt_cmpR op_lt (pv 2) (pv 1) (nomark _))))))
      (pss_one ps_never)
      pss_nil)
      (pss_one (ps_ret (pe_call G_bound_met (hr.mono (by decide)) rfl D_bound_met.mg D_bound_met.fn.kp D_bound_met.bd .nil pass0 (pa_cons (pv 0) (pa_cons (pv 1) (pa_cons (pv 2) pa_nil))))))))), ?_⟩
    refine ⟨_, rfl, .inl ⟨z, rfl, ok, fun H1 s1 => ?_⟩⟩
    rw [fe]
    refine ⟨_, rfl, ?_⟩
    refine ⟨_, rfl, _, _, true, false, rfl, .base (.int _), kit_ty (by decide +kernel), kit_ty (by decide +kernel), _, rfl, ?_⟩
    refine ⟨_, rfl, _, _, rfl, rfl, _, rfl, ?_⟩
    refine ifF (by omega) ?_
    refine ⟨_, rfl, _, _, true, false, rfl, .base (.int _), kit_ty (by decide +kernel), kit_ty (by decide +kernel), _, rfl, ?_⟩
    refine ⟨_, rfl, _, _, rfl, rfl, _, rfl, ?_⟩
    refine ifF (by omega) ⟨_, rfl, _, rfl, _, _, rfl, rfl, _, rfl, ?_⟩
    refine ifF (by omega) ?_
    exact ⟨_, rfl, _, rfl, _, rfl, z, a, b, p, w, rfl, ok, fe, fun H2 s2 => ret H2 (s1.trans s2)⟩
abbrev s_common : Stmt := top 20
abbrev N_common : List Str := ["_law_one", "_law_two"]
abbrev P_common : List Str := ["_law_one", "_law_two"]
theorem sc_common : FnScope N_common P_common (defScope s_common) := ⟨rfl, rfl, rfl, by decide +kernel, rfl, by decide +kernel, by decide +kernel⟩
theorem ok_common {f : Addr} {fd : FuncData} (D : DefAt K mg "_law_common" s_common P_common f fd) (T : Txt K mg) : FnOk P w K mg base CX0 1 f fd P_common sp_gcd := by
  refine D.fn.ok sc_common (fun vs H Q E h => ?_) (fun cdv A outer s H vs Q E hr h => ?_)
  · obtain ⟨a, b, rfl, _⟩ := h
    rfl
  · obtain ⟨a, b, rfl, ret⟩ := h
    refine ⟨_, (pss_cons (ps_while PassesOwn.never (pt_cmpR op_gt (pv 1) pe_int (nomark _))
      (pss_one (ps_par (i := 0) (j := 1) (by rfl) sc_common.nd rfl rfl (by decide) rfl rfl (pa_cons (pv 1) (pa_cons (pe_op op_mod (pe_callTy call_int1 (by rfl) T.int (by decide +kernel) (pa_cons (pv 0) pa_nil)) (pv 1)) pa_nil)) (by rfl))))
      (pss_one (ps_ret (pv 0)))), ?_⟩
    refine ⟨fun m σ' H' => ∃ x y : Nat, σ' = [some (.int (x : Int)), some (.int (y : Int))] ∧ Nat.gcd x y = Nat.gcd a b ∧ m = y ∧ H' = H, ⟨b, a, b, rfl, rfl, rfl, rfl⟩, ?_⟩
    rintro m σ' H' ⟨x, y, rfl, e, rfl, rfl⟩
    refine ⟨_, rfl, _, _, rfl, rfl, _, rfl, ?_⟩
    refine ite2 (fun hc => ?_) (fun hc => ?_)
    · have hy : 0 < m := by have := of_decide_eq_true hc; omega
      refine ⟨fun σ2 H2 => σ2 = [some (.int (m : Int)), some (.int ((x % m : Nat) : Int))] ∧ H2 = H', ?_, ?_⟩
      · rintro σ2 H2 ⟨rfl, rfl⟩
        refine ⟨x % m, Nat.mod_lt _ hy, m, x % m, rfl, ?_, rfl, rfl⟩
        rw [Nat.gcd_comm, ← Nat.gcd_rec, Nat.gcd_comm, e]
      · refine ⟨_, rfl, _, rfl, .inl ⟨_, rfl, _, rfl, _, _, rfl, rfl, ?_, _, _, rfl, ?_, rfl⟩⟩
        · show (0 : Int) < m
          omega
        · rfl
    · have hy : m = 0 := by
        have : ¬ (0 : Int) < (m : Int) := fun q => hc (decide_eq_true q)
        omega
      subst hy
      refine ⟨_, rfl, ?_⟩
      rw [Nat.gcd_zero_right] at e
      rw [e]
      exact ret
abbrev s_bounds : Stmt := top 21
abbrev N_bounds : List Str := ["_law_found", "_law_below", "_law_above"]
abbrev P_bounds : List Str := []
theorem sc_bounds : FnScope N_bounds P_bounds (defScope s_bounds) := ⟨rfl, rfl, rfl, by decide +kernel, rfl, by decide +kernel, by decide +kernel⟩
theorem ok_bounds {f f1 : Addr} {fd fd1 : FuncData} (D : DefAt K mg "_law_bounds" s_bounds P_bounds f fd) (T : Txt K mg) (D_common : DefAt K mg "_law_common" s_common P_common f1 fd1) : FnOk P w K mg base CX0 2 f fd P_bounds sp_bounds := by
  have G_common : FnOk P w K mg base CX0 1 f1 fd1 P_common sp_gcd := ok_common D_common T
  refine D.fn.ok sc_bounds (fun vs H Q E h => ?_) (fun cdv A outer s H vs Q E hr h => ?_)
  · obtain ⟨rfl, _⟩ := h
    rfl
  · obtain ⟨rfl, ret⟩ := h
    have lg : ∀ n : Nat, n ≤ 12 → (n : Int).natAbs.log2 < 1920 := fun n hn => Nat.lt_of_le_of_lt (log2_mono (show (n : Int).natAbs ≤ 12 by omega)) (by decide)
    have tl : ∀ n : Nat, n ≤ 12 → (text n).length ≤ 2 := fun n hn => text_short n (by omega)
    refine ⟨_, (pss_cons (ps_asg (pe_lst pa_nil) (pg_name (i := 0) sc_bounds.nd rfl (.inl rfl)))
      (pss_cons (ps_for PassesOwn.never rfl (pi_range2 (by rfl) T.range (pa_cons pe_int (pa_cons pe_int pa_nil))) (pg_name (i := 1) sc_bounds.nd rfl (.inl rfl))
      (pss_one (ps_for PassesOwn.never rfl (pi_range1 (by rfl) T.range (pa_cons (pe_op op_add (pv 1) pe_int) pa_nil)) (pg_name (i := 2) sc_bounds.nd rfl (.inl rfl))
      (pss_one (ps_if (pt_cmpR op_eq (pe_call G_common (hr.mono (by decide)) rfl D_common.mg D_common.fn.kp D_common.bd .nil pass0 (pa_cons (pv 2) (pa_cons (pv 1) pa_nil))) pe_int (nomark _))
      (pss_cons (ps_expr (pe_bm PySem.F.plainAttrs_list PySem.F.slot_list_append PySem.F.type_list_append mt_append (pv 0) (pa_cons (pe_op op_add_str (pe_op op_add_str (pe_callTy call_str_int (by rfl) T.str (by decide +kernel) (pa_cons (pv 2) pa_nil)) pe_str) (pe_callTy call_str_int (by rfl) T.str (by decide +kernel) (pa_cons (pv 1) pa_nil))) pa_nil)))
      (pss_one (ps_if (pt_cmpR op_lt (pv 2) (pv 1) (nomark _))
      (pss_one (ps_expr (pe_bm PySem.F.plainAttrs_list PySem.F.slot_list_append PySem.F.type_list_append mt_append (pv 0) (pa_cons (pe_op op_add_str (pe_op op_add_str (pe_op op_add_str pe_str (pe_callTy call_str_int (by rfl) T.str (by decide +kernel) (pa_cons (pv 2) pa_nil))) pe_str) (pe_callTy call_str_int (by rfl) T.str (by decide +kernel) (pa_cons (pv 1) pa_nil))) pa_nil))))
      pss_nil)))
      pss_nil)))))
      (pss_one (ps_ret (pv 0))))), ?_⟩
    refine ⟨Nat.zero_le _, fun L hL => ?_⟩
    refine ⟨1, 13, rfl, ⟨by decide, by decide, by decide, by decide⟩, for_range (lo := 1) (n := 12)
      (fun i σ' H' => ∃ v1 v2, σ' = [some (.ref L), v1, v2] ∧ H' = upd H L (.lst ((Hv.outer i).map V.str)) ∧ i ≤ 12 ∧ (Hv.outer i).length ≤ i * 30) ⟨none, none, rfl, rfl, by decide, by decide⟩ ?_ ?_⟩
    · rintro i σ' H' hi ⟨v1, v2, rfl, rfl, _, hlen⟩
      have hn2 : ((1 : Int) + (i : Nat) + 1).toNat = i + 2 := by omega
      refine ⟨_, rfl, _, _, rfl, rfl, _, rfl, ?_, ?_, for_range (lo := 0) (n := ((1 : Int) + (i : Nat) + 1).toNat) (fun j σ2 H2 => ∃ v, σ2 = [some (.ref L), some (.int (1 + (i : Nat))), v] ∧
        H2 = upd H L (.lst ((Hv.outer i ++ Hv.inner (i + 1) j).map V.str)) ∧ (Hv.inner (i + 1) j).length ≤ j * 2) ?_ ?_ ?_⟩
      · show -(2 ^ 62) ≤ (1 : Int) + (i : Nat) + 1
        omega
      · show (1 : Int) + (i : Nat) + 1 < 2 ^ 62
        omega
      · refine ⟨_, rfl, ?_, Nat.zero_le _⟩
        show _ = upd H L (.lst ((Hv.outer i ++ []).map V.str))
        rw [List.append_nil]
      · rintro j σ2 H2 hj ⟨v, rfl, rfl, hl2⟩
        rw [hn2] at hj
        have sz : (Hv.outer i ++ Hv.inner (i + 1) j).length < 1000 := by
          rw [List.length_append]
          omega
        have step : Hv.inner (i + 1) (j + 1) = Hv.inner (i + 1) j ++ lineOf j (i + 1) := by
          unfold Hv.inner
          rw [List.range_succ, List.flatMap_append]
          simp
        have e0 : (0 : Int) + (j : Nat) = ((j : Nat) : Int) := Int.zero_add _
        have e1 : (1 : Int) + (i : Nat) = ((i + 1 : Nat) : Int) := by omega
        have l2 : (lineOf j (i + 1)).length ≤ 2 := by
          unfold lineOf
          split
          · split <;> simp
          · simp
        have big : ∀ n : Nat, n < 1002 → n < sizeLine := fun n hn => Nat.lt_of_lt_of_le hn (by decide)
        have lt2 : ∀ n : Nat, n ≤ 20 → n ≤ sizeLine := fun n hn => Nat.le_trans hn (by decide)
        have sl : (Str.ofString "/").length = 1 := rfl
        have mk : (Str.ofString "over ").length = 5 := rfl
        have tj : (Str.ofString (toString ((j : Nat) : Int))).length ≤ 2 := tl j (by omega)
        have ti : (Str.ofString (toString ((i + 1 : Nat) : Int))).length ≤ 2 := tl (i + 1) (by omega)
        show tIfS _ _ _ _ [some (.ref L), some (.int (1 + (i : Nat))), some (.int (0 + (j : Nat)))] _
        rw [e0, e1]
        refine ⟨_, rfl, _, rfl, j, i + 1, rfl, rfl, _, rfl, ?_⟩
        by_cases g : Nat.gcd j (i + 1) = 1
        · refine ifT (by rw [g]; rfl) ?_
          refine ⟨_, rfl, .inl ⟨rfl, _, SqL.of upd_same⟩, _, rfl, _, rfl, lg j (by omega), _, _, rfl, rfl, ?_, _, rfl, _, rfl, lg (i + 1) (by omega), _, _, rfl, rfl, ?_, _, _, _, rfl, rfl, upd_same, ?_, ?_⟩
          · exact lt2 _ (by omega)
          · rw [Str.length_append]
            exact lt2 _ (by omega)
          · rw [List.length_map]
            exact big _ (by omega)
          rw [upd_upd]
          refine ⟨_, rfl, _, rfl, _, _, rfl, rfl, _, rfl, ?_⟩
          by_cases c : j < i + 1
          · refine ifT (by omega) ?_
            refine ⟨_, rfl, .inl ⟨rfl, _, SqL.of upd_same⟩, _, rfl, _, rfl, lg j (by omega), _, _, rfl, rfl, ?_, _, _, rfl, rfl, ?_, _, rfl, _, rfl, lg (i + 1) (by omega), _, _, rfl, rfl, ?_, _, _, _, rfl, rfl, upd_same, ?_, ?_⟩
            · exact lt2 _ (by omega)
            · rw [Str.length_append]
              exact lt2 _ (by omega)
            · rw [Str.length_append, Str.length_append]
              exact lt2 _ (by omega)
            · rw [List.length_append, List.length_map]
              exact big _ (by simp; omega)
            · rw [upd_upd]
              refine ⟨_, rfl, ?_, ?_⟩
              · rw [step]
                unfold lineOf
                rw [if_pos g, if_pos c]
                simp
                rfl
              · rw [step, List.length_append]
                omega
          · refine ifF (by omega) ?_
            refine ⟨_, rfl, ?_, ?_⟩
            · rw [step]
              unfold lineOf
              rw [if_pos g, if_neg c]
              simp
              rfl
            · rw [step, List.length_append]
              omega
        · refine ifF (fun q => g (by have := V.int.inj q; omega)) ?_
          refine ⟨_, rfl, ?_, ?_⟩
          · rw [step]
            unfold lineOf
            rw [if_neg g, List.append_nil]
          · rw [step, List.length_append]
            omega
      · rintro σ2 H2 ⟨v, rfl, rfl, hl2⟩
        rw [hn2]
        rw [hn2] at hl2
        have step : Hv.outer (i + 1) = Hv.outer i ++ Hv.inner (i + 1) (i + 2) := by
          unfold Hv.outer
          rw [List.range_succ, List.flatMap_append]
          simp
        refine ⟨_, _, rfl, by rw [step], by omega, ?_⟩
        rw [step, List.length_append]
        omega
    · rintro σ' H' ⟨v1, v2, rfl, rfl, _, _⟩
      exact ⟨_, rfl, ret L _ hL (same_new hL) upd_same⟩
abbrev s_many : Stmt := top 22
abbrev N_many : List Str := ["_law_bag_here", "_law_way"]
abbrev P_many : List Str := ["_law_bag_here"]
theorem sc_many : FnScope N_many P_many (defScope s_many) := ⟨rfl, rfl, rfl, by decide +kernel, rfl, by decide +kernel, by decide +kernel⟩
theorem ok_many {f f1 : Addr} {fd fd1 : FuncData} (D : DefAt K mg "_law_many" s_many P_many f fd) (T : Txt K mg) (D_take : DefAt K mg "_law_take" s_take P_take f1 fd1) : FnOk P w K mg base CX0 2 f fd P_many sp_many := by
  have G_take : FnOk P w K mg base CX0 1 f1 fd1 P_take sp_take := ok_take D_take T
  refine D.fn.ok sc_many (fun vs H Q E h => ?_) (fun cdv A outer s H vs Q E hr h => ?_)
  · obtain ⟨b, k, rfl, _⟩ := h
    rfl
  · obtain ⟨b, k, rfl, hb, hk, ret⟩ := h
    refine ⟨_, (pss_cons (ps_asg (pe_call G_take (hr.mono (by decide)) rfl D_take.mg D_take.fn.kp D_take.bd .nil pass0 (pa_cons (pv 0) (pa_cons pe_int pa_nil))) (pg_name (i := 1) sc_many.nd rfl (.inl rfl)))
      (pss_cons (ps_if (pt_cmpR op_lt (pv 1) pe_int (nomark _))
      (pss_one (ps_ret (pe_op op_add pe_int (pe_call G_take (hr.mono (by decide)) rfl D_take.mg D_take.fn.kp D_take.bd .nil pass0 (pa_cons (pv 0) (pa_cons pe_int pa_nil))))))
      pss_nil)
      (pss_one (ps_ret (pe_op op_add pe_int (pe_call G_take (hr.mono (by decide)) rfl D_take.mg D_take.fn.kp D_take.bd .nil pass0 (pa_cons (pv 0) (pa_cons (pe_ifExp (pt_cmpR op_eq (pv 1) pe_int (nomark _)) (pe_op op_pow pe_int pe_int) (pe_op op_pow pe_int pe_int)) pa_nil)))))))), ?_⟩
    refine ⟨_, rfl, b, 5, k, rfl, hb, by omega, by decide, m_small (by decide) (by decide), fun r H1 e1 b1 r0 r1 => ?_⟩
    refine ⟨_, rfl, _, _, rfl, rfl, _, rfl, ?_⟩
    refine ite2 (fun hc => ?_) (fun hc => ?_)
    · exact ⟨_, rfl, b, 40, k + 1, rfl, b1, by omega, by decide, m_small (by decide) (by decide), fun q H2 e2 b2 q0 q1 => ⟨_, _, rfl, rfl, ret _ _ (e1.trans e2) b2 (by omega) (by omega)⟩⟩
    · refine ⟨_, rfl, _, rfl, rfl, _, rfl, ?_⟩
      refine ite2 (fun hc => ?_) (fun hc => ?_)
      · exact ⟨_, _, rfl, rfl, ⟨by decide, by decide, by decide⟩, b, _, k + 1, rfl, b1, by omega, by decide, m_small (by decide) (by decide), fun q H2 e2 b2 q0 q1 => ⟨_, _, rfl, rfl, ret _ _ (e1.trans e2) b2 (by omega) (by have : q < 10 ^ 9 := q1; omega)⟩⟩
      · exact ⟨_, _, rfl, rfl, ⟨by decide, by decide, by decide⟩, b, _, k + 1, rfl, b1, by omega, by decide, m_small (by decide) (by decide), fun q H2 e2 b2 q0 q1 => ⟨_, _, rfl, rfl, ret _ _ (e1.trans e2) b2 (by omega) (by have : q < 10 ^ 39 := q1; omega)⟩⟩
abbrev s_told : Stmt := top 23
abbrev N_told : List Str := ["_law_line", "_law_some", "_law_many_here", "_law_told_here"]
abbrev P_told : List Str := ["_law_line", "_law_some", "_law_many_here"]
theorem sc_told : FnScope N_told P_told (defScope s_told) := ⟨rfl, rfl, rfl, by decide +kernel, rfl, by decide +kernel, by decide +kernel⟩
theorem kb_meets_0_whole_bound_part {f : Addr} {fd : FuncData} (F : Fun K "meets" "meets" s_meets f fd) : KBinds K fd P_meets ["whole", "bound", "part"] (fun us ws => match us, ws with | [], [w0, w1, w2] => [w1, w2, w0] | _, _ => []) (fun us ws => match us, ws with | [], [w0, w1, w2] => [w1, w2, w0] | _, _ => []) := by
  obtain ⟨oc, od, kV, doc, pm, an, cdv, ct, osl, rfl, lk, hcd⟩ := F.ex
  refine ⟨fun s us ws _ hl => ?_, fun {vs us zs ws} r rz => ?_⟩
  · rcases us with _ | ⟨xu, yu⟩ <;> rcases ws with _ | ⟨w0, _ | ⟨w1, _ | ⟨w2, _ | ⟨xw, yw⟩⟩⟩⟩ <;> first | exact .of_eq rfl | cases hl
  · cases r with
    | cons _ _ => exact .nil
    | nil =>
      cases rz with
      | nil => exact .nil
      | cons rw0 tw0 =>
        cases tw0 with
        | nil => exact .nil
        | cons rw1 tw1 =>
          cases tw1 with
          | nil => exact .nil
          | cons rw2 tw2 =>
            cases tw2 with
            | cons _ _ => exact .nil
            | nil =>
              exact .cons rw1 (.cons rw2 (.cons rw0 (.nil)))
theorem ok_told {f f1 : Addr} {fd fd1 : FuncData} (D : DefAt K mg "_law_told" s_told P_told f fd) (T : Txt K mg) (D_meets : DefAt K mg "meets" s_meets P_meets f1 fd1) (G_meets : FnOk P w K mg base CX0 4 f1 fd1 P_meets sp_meets) :
    FnOk P w K mg base CX0 5 f fd P_told sp_meets := by
  refine D.fn.ok sc_told (fun vs H Q E h => ?_) (fun cdv A outer s H vs Q E hr h => ?_)
  · obtain ⟨z, a, b, p, w, rfl, _⟩ := h
    rfl
  · obtain ⟨z, a, b, p, w, rfl, ok, fe, p0, w1, pw, ret⟩ := h
    refine ⟨_, (pss_cons (ps_asg (pe_call G_meets (hr.mono (by decide)) rfl D_meets.mg D_meets.fn.kp D_meets.bd .nil pass0 (pa_cons (pv 0) (pa_cons (pv 1) (pa_cons (pv 2) pa_nil)))) (pg_name (i := 3) sc_told.nd rfl (.inl rfl)))
      (pss_cons (ps_if (PW.pt (pw_or (pt_not (pt_val (pe_callB call_isi (by rfl) T.isinstance (by decide +kernel) (pa_cons (pv 3) (pa_cons (pe_bltn (v := .ty "bool") (u := .type "bool") (by rfl) T.bool (by decide +kernel) rfl) pa_nil))))) (pw_or1 (pt_cmpR op_ne (pe_callB cr_reprB (by rfl) T.repr (by decide +kernel) (pa_cons (pe_callK0 G_meets (hr.mono (by decide)) rfl D_meets.mg D_meets.fn.kp (kb_meets_0_whole_bound_part D_meets.fn) pass0 (pk_cons (pv 2) (pk_cons (pv 0) (pk_cons (pv 1) pk_nil)))) pa_nil)) (pe_callB cr_reprB (by rfl) T.repr (by decide +kernel) (pa_cons (pv 3) pa_nil)) (nomark _)))))
      (pss_one (ps_ret pe_non))
      pss_nil)
      (pss_one (ps_ret (pv 3))))), ?_⟩
    refine ⟨_, rfl, _, rfl, _, rfl, z, a, b, p, w, rfl, ok, fe, p0, w1, pw, fun H1 s1 => ?_⟩
    refine ⟨_, rfl, _, _, _, _, _, rfl, .ty _, .base (.bl _), kit_ty (r := true) (by decide +kernel), _, rfl, ?_⟩
    refine ⟨_, rfl, _, rfl, _, rfl, z, a, b, p, w, rfl, ok, fe, p0, w1, pw, fun H2 s2 => ?_⟩
    refine ⟨_, rfl, _, rfl, _, rfl, rfl, _, rfl, ?_⟩
    refine ifNF rfl ?_
    exact ⟨_, rfl, ret H2 (s1.trans s2)⟩
end L
namespace Hv
open PySem L2
def sp_right (K : PySem.W.Frag) : Sp := fun vs H Q _ => ∃ (b bl : Addr) (k : Nat), vs = [.ref b, .ref bl] ∧ Bag H b k ∧ k < 800000 ∧ SqL K H bl (BL.map V.str) ∧ bl ≠ b ∧
  ∀ H', But b H H' → Bag H' b (k + 10) → Q (.bl true) H'
def sp_law (K : PySem.W.Frag) : Sp := fun vs H Q _ => ∃ (a : Addr) (ns : List Int), vs = [.ref a] ∧ SqL K H a (ns.map V.int) ∧ ns.length ≤ 63 ∧ (∀ z ∈ ns, Builtin.Int.intBits z ≤ 1048576) ∧ ∀ H', Q (.bl true) H'
end Hv
namespace L
open PySem L2 Hv
variable {P : Program} {w : World} {K : PySem.W.Frag} {mg : Str → Option Value} {base : Heap}
abbrev s_right : Stmt := top 24
abbrev N_right : List Str := ["_law_bag_here", "_law_bounds_here", "_law_line", "_law_many_here", "_law_above", "_law_below", "_law_some", "_law_due", "_law_other"]
abbrev P_right : List Str := ["_law_bag_here", "_law_bounds_here"]
theorem sc_right : FnScope N_right P_right (defScope s_right) := ⟨rfl, rfl, rfl, by decide +kernel, rfl, by decide +kernel, by decide +kernel⟩
theorem ok_right {f f1 f2 f3 : Addr} {fd fd1 fd2 fd3 : FuncData} (D : DefAt K mg "_law_right" s_right P_right f fd) (T : Txt K mg) (D_take : DefAt K mg "_law_take" s_take P_take f1 fd1)
    (D_many : DefAt K mg "_law_many" s_many P_many f2 fd2) (D_told : DefAt K mg "_law_told" s_told P_told f3 fd3) (G_told : FnOk P w K mg base CX0 5 f3 fd3 P_told sp_meets) : FnOk P w K mg base CX0 6 f fd P_right (sp_right K) := by
  have G_take : FnOk P w K mg base CX0 1 f1 fd1 P_take sp_take := ok_take D_take T
  have G_many : FnOk P w K mg base CX0 2 f2 fd2 P_many sp_many := ok_many D_many T D_take
  refine okT D.fn sc_right (by decide +kernel) (by decide) (fun vs H Q E h => ?_) (fun cdv A outer s H vs Q E hr h => ?_)
  · obtain ⟨b, bl, k, rfl, _⟩ := h
    rfl
  · obtain ⟨b, bl, k, rfl, hb, hk, hL, nb, ret⟩ := h
    refine ⟨_, (psst_cons (PST.of (ps_par (i := 2) (j := 3) (by rfl) sc_right.nd rfl rfl (by decide) rfl rfl (pa_cons (pe_ix ix_list (pv 1) (pe_call G_take (hr.mono (by decide)) rfl D_take.mg D_take.fn.kp D_take.bd .nil pass0 (pa_cons (pv 0) (pa_cons (pe_callB call_len_seq (by rfl) T.len (by decide +kernel) (pa_cons (pv 1) pa_nil)) pa_nil))) (fun _ _ => rfl)) (pa_cons (pe_call G_many (hr.mono (by decide)) rfl D_many.mg D_many.fn.kp D_many.bd .nil pass0 (pa_cons (pv 0) pa_nil)) pa_nil)) (by rfl)))
      (psst_cons (pst_asg (pet_m1 PySem.F.slot_str_split PySem.F.type_str_split mt_split (CwR.pet_replC (pv 2)) pe_str) (pg_unl (by rfl) (pgs_cons (pg_name (i := 4) sc_right.nd rfl (.inl rfl)) (pgs_cons (pg_name (i := 5) sc_right.nd rfl (.inl rfl)) pgs_nil))))
      (psst_cons (PST.of (ps_par (i := 4) (j := 5) (by rfl) sc_right.nd rfl rfl (by decide) rfl rfl (pa_cons (pe_callTy call_int_str (by rfl) T.int (by decide +kernel) (pa_cons (pv 4) pa_nil)) (pa_cons (pe_callTy call_int_str (by rfl) T.int (by decide +kernel) (pa_cons (pv 5) pa_nil)) pa_nil)) (by rfl)))
      (psst_cons (PST.of (ps_asg (pe_ifExp (pt_cmpR op_gt (pe_call G_take (hr.mono (by decide)) rfl D_take.mg D_take.fn.kp D_take.bd .nil pass0 (pa_cons (pv 0) (pa_cons pe_int pa_nil))) pe_int (nomark _)) (pe_op op_sub (pe_op op_add (pe_op op_fdiv (pe_op op_mul (pv 3) (pv 4)) (pv 5)) (pe_call G_take (hr.mono (by decide)) rfl D_take.mg D_take.fn.kp D_take.bd .nil pass0 (pa_cons (pv 0) (pa_cons pe_int pa_nil)))) pe_int) (pe_call G_take (hr.mono (by decide)) rfl D_take.mg D_take.fn.kp D_take.bd .nil pass0 (pa_cons (pv 0) (pa_cons (pe_op op_add (pv 3) pe_int) pa_nil)))) (pg_name (i := 6) sc_right.nd rfl (.inl rfl))))
      (psst_cons (PST.of (ps_asg (pe_callB (call_max2 rfl) (by rfl) T.max (by decide +kernel) (pa_cons pe_int (pa_cons (pe_callB (call_min2 rfl) (by rfl) T.min (by decide +kernel) (pa_cons (pv 3) (pa_cons (pv 6) pa_nil))) pa_nil))) (pg_name (i := 6) sc_right.nd rfl (.inl rfl))))
      (psst_cons (PST.of (ps_asg (pe_cmpR op_ge (pe_op op_mul (pv 6) (pv 5)) (pe_op op_mul (pv 3) (pv 4)) (nomark _)) (pg_name (i := 7) sc_right.nd rfl (.inl rfl))))
      (psst_cons (PST.of (ps_if (pt_val (pe_m1 PySem.F.slot_str_startswith PySem.F.type_str_startswith mt_startswith (pv 2) pe_str))
      (pss_one (ps_asg (pe_cmpR op_gt (pe_op op_mul (pv 6) (pv 5)) (pe_op op_mul (pv 3) (pv 4)) (nomark _)) (pg_name (i := 7) sc_right.nd rfl (.inl rfl))))
      pss_nil))
      (psst_cons (PST.of (ps_if (PW.pt (pw_or (pt_cmpR op_ne (pe_call G_told (hr.mono (by decide)) rfl D_told.mg D_told.fn.kp D_told.bd .nil pass0 (pa_cons (pv 2) (pa_cons (pv 6) (pa_cons (pv 3) pa_nil)))) (pv 7) (nomark _)) (pw_or1 (pt_cmpR op_ne (pe_call G_told (hr.mono (by decide)) rfl D_told.mg D_told.fn.kp D_told.bd .nil pass0 (pa_cons (pv 2) (pa_cons (pe_op op_mul pe_int (pv 6)) (pa_cons (pe_op op_mul pe_int (pv 3)) pa_nil)))) (pv 7) (nomark _)))))
      (pss_one (ps_ret pe_bl))
      pss_nil))
      (psst_cons (PST.of (ps_if (PW.pt (pw_and (pt_cmpR op_lt (pv 6) (pv 3) (nomark _)) (pw_and (pt_val (pv 7)) (pw_and1 (pt_cmpR op_notBl (pe_call G_told (hr.mono (by decide)) rfl D_told.mg D_told.fn.kp D_told.bd .nil pass0 (pa_cons (pv 2) (pa_cons (pe_op op_add (pv 6) pe_int) (pa_cons (pv 3) pa_nil)))) pe_bl (nomark _))))))
      (pss_one (ps_ret pe_bl))
      pss_nil))
      (psst_cons (PST.of (ps_if (PW.pt (pw_or (pt_val (pe_m1 PySem.F.slot_str_startswith PySem.F.type_str_startswith mt_startswith (pv 2) pe_str)) (pw_or1 (pt_cmpR op_eq (pv 4) pe_int (nomark _)))))
      (pss_one (ps_ret pe_bl))
      pss_nil))
      (psst_cons (PST.of (ps_asg (pe_op op_add_str (pe_op op_add_str (pe_callTy call_str_int (by rfl) T.str (by decide +kernel) (pa_cons (pe_op op_sub (pv 5) (pv 4)) pa_nil)) pe_str) (pe_callTy call_str_int (by rfl) T.str (by decide +kernel) (pa_cons (pv 5) pa_nil))) (pg_name (i := 8) sc_right.nd rfl (.inl rfl))))
      (psst_cons (PST.of (ps_if (pt_cmpR op_eq (pe_op op_sub (pv 5) (pv 4)) pe_int (nomark _))
      (pss_one (ps_asg pe_str (pg_name (i := 8) sc_right.nd rfl (.inl rfl))))
      pss_nil))
      (CwR.psst_one (PST.of (ps_ret (pe_cmpR op_eq (pe_call G_told (hr.mono (by decide)) rfl D_told.mg D_told.fn.kp D_told.bd .nil pass0 (pa_cons (pe_op op_add_str pe_str (pv 8)) (pa_cons (pe_op op_sub (pv 3) (pv 6)) (pa_cons (pv 3) pa_nil)))) (pe_not (pv 7)) (nomark _))))))))))))))))), ?_⟩
    refine ⟨_, rfl, _, rfl, _, rfl, _, _, rfl, .inl hL, b, _, k, rfl, hb, by omega, ?_, ?_, fun r H1 e1 b1 r0 r1 => ?_⟩
    · rw [List.length_map, BL_len]
      decide
    · rw [List.length_map, BL_len]
      exact m_small (by decide) (by decide)
    rw [List.length_map, BL_len] at r1
    obtain ⟨j, rfl⟩ := Int.eq_ofNat_of_zero_le r0
    have hj : j < BL.length := by rw [BL_len]; omega
    have hat : (BL.map V.str)[j]? = some (.str BL[j]) := by simp [hj]
    obtain ⟨a, d, ln⟩ := line_of (List.getElem_mem hj)
    have hm := List.getElem_mem hj
    generalize BL[j] = z at hat ln hm
    refine ⟨_, _, _, _, rfl, rfl, e1.seq nb hL, atI_nat hat, ?_⟩
    refine ⟨_, rfl, b, k + 1, rfl, b1, by omega, fun m H2 e2 b2 m0 m1 => ⟨_, _, rfl, ?_⟩⟩
    obtain ⟨a12, d12, d1, ad, gc⟩ := fracOf_le ln.fr
    have bz := ln.len
    have br := ln.rl
    have s22 : 22 ≤ sizeLine := by decide
    refine ⟨_, rfl, z, rfl, ?_, ⟨_, rfl⟩, _, _, rfl, rfl, by decide, ?_, fun p hp => ?_⟩
    · show z.length + (z.length + 1) * 0 ≤ 16777216
      omega
    · exact sz20 br
    have np : p ≠ b := b2.ne_none hp
    have e3 : But b H (upd H2 p (.lst ((Txt.split (Txt.replace z MARK (Str.ofString "")) SLASH).map V.str))) := (e1.trans e2).new hp
    have b3 : Bag (upd H2 p (.lst ((Txt.split (Txt.replace z MARK (Str.ofString "")) SLASH).map V.str))) b (k + 3) := b2.same (same_new hp)
    have hS : (upd H2 p (.lst ((Txt.split (Txt.replace z MARK (Str.ofString "")) SLASH).map V.str))) p = _ := upd_same
    rw [ln.sp] at e3 b3 hS
    show gUnl _ _ _ (.ref p) _ (upd H2 p (.lst ((Txt.split (Txt.replace z MARK (Str.ofString "")) SLASH).map V.str))) _
    rw [ln.sp]
    generalize upd H2 p (.lst ([text a, text d].map V.str)) = H3 at e3 b3 hS
    clear hp e2 b2 e1 b1
    refine ⟨p, _, rfl, SqL.of hS, rfl, _, _, rfl, _, _, rfl, rfl, ?_⟩
    refine ⟨_, rfl, _, _, rfl, text_int a (by omega), Nat.le_trans (text_short a (by omega)) (by decide), _, rfl, _, _, rfl, text_int d (by omega), Nat.le_trans (text_short d (by omega)) (by decide), _, _, rfl, ?_⟩
    dsimp only
    refine join_asg (fun v H4 => ∃ x : Int, v = .int x ∧ But b H H4 ∧ Bag H4 b (k + 5)) (fun Q' fin => ?_) ?_
    · refine ⟨_, rfl, b, 4, k + 3, rfl, b3, by omega, by decide, m_small (by decide) (by decide), fun r H4 e4 b4 r0 r1 => ⟨_, _, rfl, rfl, _, rfl, ?_⟩⟩
      refine ite2 (fun hc => ?_) (fun hc => ?_)
      · refine ⟨_, rfl, _, rfl, _, _, rfl, rfl, .inr ⟨by omega, by omega⟩, _, rfl, _, _, rfl, rfl, ⟨by omega, by omega⟩, ?_⟩
        exact ⟨_, rfl, b, 3, k + 4, rfl, b4, by omega, by decide, m_small (by decide) (by decide), fun r2 H5 e5 b5 _ _ => ⟨_, _, rfl, rfl, _, _, rfl, rfl, fin _ _ ⟨_, rfl, (e3.trans e4).trans e5, b5⟩⟩⟩
      · exact ⟨_, rfl, _, rfl, _, _, rfl, rfl, b, _, k + 4, rfl, b4, by omega, by omega, m_small (by omega) (by omega), fun r2 H5 e5 b5 _ _ => fin _ _ ⟨_, rfl, (e3.trans e4).trans e5, b5⟩⟩
    rintro v H4 ⟨x, rfl, e4, b4⟩
    refine ⟨_, rfl, _, rfl, _, _, rfl, _, _, rfl, ?_⟩
    have hp0 : 0 ≤ (if (if x < m then x else m) > 0 then (if x < m then x else m) else 0) ∧ (if (if x < m then x else m) > 0 then (if x < m then x else m) else 0) ≤ m := by
      split <;> split <;> omega
    generalize (if (if x < m then x else m) > 0 then (if x < m then x else m) else 0) = q at hp0
    obtain ⟨q0, qm⟩ := hp0
    refine ⟨_, rfl, _, rfl, _, _, rfl, rfl, .inr ⟨by omega, by omega⟩, _, rfl, _, rfl, _, _, rfl, rfl, .inr ⟨by omega, by omega⟩, _, _, rfl, rfl, ?_⟩
    refine ⟨_, rfl, ⟨_, rfl⟩, _, _, rfl, rfl, _, rfl, ?_⟩
    rw [ln.ov]
    dsimp only
    refine' join_if ?hB ?hA ?hr
    case hB =>
      intro ov r
      have hd : decide (m * (a : Int) ≤ q * (d : Int)) = met z a d q m := by
        unfold met
        rw [ov]
        rfl
      show tSeq _ _ _ [some (.ref b), some (.ref bl), some (.str z), some (.int m), some (.int (a : Int)), some (.int (d : Int)), some (.int q), some (.bl (decide (m * (a : Int) ≤ q * (d : Int)))), none] H4
      rw [hd]
      exact r
    case hA =>
      intro ov r
      have hd : decide (m * (a : Int) < q * (d : Int)) = met z a d q m := by
        unfold met
        rw [ov]
        rfl
      refine ⟨_, rfl, _, rfl, _, _, rfl, rfl, .inr ⟨by omega, by omega⟩, _, rfl, _, rfl, _, _, rfl, rfl, .inr ⟨by omega, by omega⟩, _, _, rfl, rfl, ?_⟩
      show tSeq _ _ _ [some (.ref b), some (.ref bl), some (.str z), some (.int m), some (.int (a : Int)), some (.int (d : Int)), some (.int q), some (.bl (decide (m * (a : Int) < q * (d : Int)))), none] H4
      rw [hd]
      exact r
    refine ⟨_, rfl, _, rfl, _, rfl, z, a, d, q, m, rfl, ln.ok, ln.fr, q0, m0, qm, fun H5 s5 => ⟨_, rfl, rfl, _, rfl, ifNF rfl ?_⟩⟩
    refine ⟨_, rfl, _, rfl, _, _, rfl, rfl, .inl ⟨by decide, by decide⟩, _, rfl, _, _, rfl, rfl, .inl ⟨by decide, by decide⟩, z, a, d, 2 * q, 2 * m, rfl, ln.ok, ln.fr, by omega, by omega, by omega, fun H6 s6 => ⟨_, rfl, rfl, _, rfl, ?_⟩⟩
    refine ifNF (by rw [met_twice]) ?_
    have e6 : But b H H6 := (e4.trans (But.of s5)).trans (But.of s6)
    have b6 : Bag H6 b (k + 5) := (b4.same s5).same s6
    clear e4 b4 s5 s6
    dsimp only [tNext]
    refine join_ifs (fun c H' => c = false ∧ But b H H' ∧ Bag H' b (k + 5)) (fun Q' fin => ?_) ?_
    · refine ⟨_, rfl, _, rfl, _, _, rfl, rfl, _, rfl, ?_⟩
      refine ite2 (fun c1 => ?_) (fun c1 => fin _ _ ⟨rfl, e6, b6⟩)
      have c1' : q < m := of_decide_eq_true c1
      refine ⟨_, rfl, _, rfl, ?_⟩
      refine ite2 (fun c2 => ?_) (fun c2 => fin _ _ ⟨rfl, e6, b6⟩)
      refine ⟨_, rfl, _, rfl, _, _, rfl, rfl, _, rfl, z, a, d, q + 1, m, rfl, ln.ok, ln.fr, by omega, m0, by omega, fun H7 s7 => ⟨_, _, rfl, rfl, _, rfl, ?_⟩⟩
      rw [met_more c2]
      exact fin _ _ ⟨rfl, e6.trans (But.of s7), b6.same s7⟩
    rintro _ H7 ⟨rfl, e7, b7⟩
    refine iteF ?_
    refine ⟨_, rfl, ⟨_, rfl⟩, _, _, rfl, rfl, _, rfl, ?_⟩
    rw [ln.ov]
    cases ov : isOver z with
    | true => exact ret _ e7 (b7.mono (by omega))
    | false =>
      refine ⟨_, rfl, rfl, _, rfl, ?_⟩
      by_cases a0 : a = 0
      · refine ifT (by rw [a0]; rfl) (ret _ e7 (b7.mono (by omega)))
      · refine ifF (fun c => a0 (by have := V.int.inj c; omega)) ?_
        have hs : (d : Int) - (a : Int) = ((d - a : Nat) : Int) := by omega
        have lg : ∀ n : Nat, n ≤ 12 → (n : Int).natAbs.log2 < 1920 := fun n hn => Nat.lt_of_le_of_lt (log2_mono (show (n : Int).natAbs ≤ 12 by omega)) (by decide)
        have lt2 : ∀ n : Nat, n ≤ 20 → n ≤ sizeLine := fun n hn => Nat.le_trans hn (by decide)
        have sl : (Str.ofString "/").length = 1 := rfl
        have mk : (Str.ofString "over ").length = 5 := rfl
        have tj : (Str.ofString (toString ((d - a : Nat) : Int))).length ≤ 2 := text_short (d - a) (by omega)
        have ti : (Str.ofString (toString ((d : Nat) : Int))).length ≤ 2 := text_short d (by omega)
        obtain ⟨c, e, lo, oo, ce⟩ := other_of hm ln ov a0
        have fin : ∀ H8, Same H7 H8 → Q (.bl (decide (V.bl (met (other a d) c e (m - q) m) = V.bl (!met z a d q m)))) H8 := fun H8 s8 => by
          rw [met_other ov oo ce ad d1, decide_eq_true rfl]
          exact ret _ (e7.trans (But.of s8)) ((b7.same s8).mono (by omega))
        refine ⟨_, rfl, _, rfl, _, _, rfl, rfl, _, rfl, ?_, ?_⟩
        · rw [hs]
          exact lg _ (by omega)
        rw [hs]
        refine ⟨_, _, rfl, rfl, lt2 _ (by omega), _, rfl, _, rfl, lg d (by omega), _, _, rfl, rfl, ?_, ?_⟩
        · rw [Str.length_append]
          exact lt2 _ (by omega)
        refine ⟨_, rfl, _, rfl, _, _, rfl, rfl, rfl, _, rfl, ?_⟩
        by_cases z0 : d - a = 0
        · refine ifT (by show V.int ((d : Int) - a) = V.int 0; rw [hs, z0]; rfl) ?_
          refine ⟨_, rfl, _, _, rfl, rfl, by decide, _, rfl, _, rfl, _, _, rfl, rfl, _, rfl, other a d, c, e, m - q, m, ?_, lo.ok, lo.fr, by omega, m0, by omega, fun H8 s8 => ⟨_, rfl, _, rfl, rfl, fin H8 s8⟩⟩
          unfold other
          rw [if_pos z0]
          rfl
        · refine ifF (fun c => z0 (by have := V.int.inj c; omega)) ?_
          refine ⟨_, rfl, _, _, rfl, rfl, ?_, _, rfl, _, rfl, _, _, rfl, rfl, _, rfl, other a d, c, e, m - q, m, ?_, lo.ok, lo.fr, by omega, m0, by omega, fun H8 s8 => ⟨_, rfl, _, rfl, rfl, fin H8 s8⟩⟩
          · rw [Str.length_append, Str.length_append]
            exact lt2 _ (by omega)
          · unfold other
            rw [if_neg z0]
            rfl
end L
namespace Hv
open PySem L2
theorem lit_ok {z : Str} (h : okLine z = true) : TextOk z := (okLine_line h).elim fun _ h => h.elim fun _ h => h.ok
end Hv
namespace L
open PySem L2 Hv
variable {P : Program} {w : World} {K : PySem.W.Frag} {mg : Str → Option Value} {base : Heap}
abbrev s_law : Stmt := top 25
abbrev N_law : List Str := ["_law_script", "_law_bounds_here", "_law_told_here", "_law_k", "_law_bag_here", "_law_turn"]
abbrev P_law : List Str := ["_law_script"]
theorem sc_law : FnScope N_law P_law (defScope s_law) := ⟨rfl, rfl, rfl, by decide +kernel, rfl, by decide +kernel, by decide +kernel⟩
theorem ok_law {f f1 f2 f3 f4 f5 : Addr} {fd fd1 fd2 fd3 fd4 fd5 : FuncData} (D : Fun K "law" "law" s_law f fd) (T : Txt K mg)
    (D_bounds : DefAt K mg "_law_bounds" s_bounds P_bounds f1 fd1) (G_bounds : FnOk P w K mg base CX0 2 f1 fd1 P_bounds sp_bounds)
    (D_meets : DefAt K mg "meets" s_meets P_meets f2 fd2) (G_meets : FnOk P w K mg base CX0 4 f2 fd2 P_meets sp_meets)
    (D_bag : DefAt K mg "_law_bag" s_bag P_bag f3 fd3) (D_seed : DefAt K mg "_law_seed" s_seed P_seed f4 fd4)
    (D_right : DefAt K mg "_law_right" s_right P_right f5 fd5) (G_right : FnOk P w K mg base CX0 6 f5 fd5 P_right (sp_right K)) :
    OkG P w K mg base CX0 7 f fd P_law (sp_law K) := by
  have G_bag : FnOk P w K mg base CX0 1 f3 fd3 P_bag sp_bag := ok_bag D_bag T
  have G_seed : FnOk P w K mg base CX0 1 f4 fd4 P_seed (sp_seed K) := ok_seed D_seed T
  refine okG0 D sc_law (fun vs H Q E h => ?_) (fun cdv A outer s H vs Q E hG hr h => ?_)
  · obtain ⟨a, ns, rfl, _⟩ := h
    rfl
  · obtain ⟨a, ns, rfl, hS, hlen, bits, ret⟩ := h
    refine ⟨_, (pss_cons (ps_asg (pe_call0 G_bounds (hr.mono (by decide)) rfl D_bounds.mg D_bounds.fn.kp D_bounds.bd .nil pass0) (pg_name (i := 1) sc_law.nd rfl (.inr rfl)))
      (pss_cons (ps_asg (pe_lst (pa_cons (pe_call G_meets (hr.mono (by decide)) rfl D_meets.mg D_meets.fn.kp D_meets.bd .nil pass0 (pa_cons pe_str (pa_cons pe_int (pa_cons pe_int pa_nil)))) (pa_cons (pe_call G_meets (hr.mono (by decide)) rfl D_meets.mg D_meets.fn.kp D_meets.bd .nil pass0 (pa_cons pe_str (pa_cons pe_int (pa_cons pe_int pa_nil)))) (pa_cons (pe_call G_meets (hr.mono (by decide)) rfl D_meets.mg D_meets.fn.kp D_meets.bd .nil pass0 (pa_cons pe_str (pa_cons pe_int (pa_cons pe_int pa_nil)))) (pa_cons (pe_call G_meets (hr.mono (by decide)) rfl D_meets.mg D_meets.fn.kp D_meets.bd .nil pass0 (pa_cons pe_str (pa_cons pe_int (pa_cons pe_int pa_nil)))) pa_nil))))) (pg_name (i := 2) sc_law.nd rfl (.inl rfl)))
      (pss_cons (ps_if (pt_cmpR op_ne (pe_callB (cr_repr hG hr.units) (by rfl) T.repr (by decide +kernel) (pa_cons (pe_op op_cat (pv 2) (pe_lst (pa_cons (pe_call G_meets (hr.mono (by decide)) rfl D_meets.mg D_meets.fn.kp D_meets.bd .nil pass0 (pa_cons pe_str (pa_cons pe_int (pa_cons pe_int pa_nil)))) (pa_cons (pe_call G_meets (hr.mono (by decide)) rfl D_meets.mg D_meets.fn.kp D_meets.bd .nil pass0 (pa_cons pe_str (pa_cons pe_int (pa_cons pe_int pa_nil)))) pa_nil)))) pa_nil)) pe_str (nomark _))
      (pss_one (ps_ret pe_bl))
      pss_nil)
      (pss_cons (ps_for PassesOwn.never rfl (pi_range1 (by rfl) T.range (pa_cons (pe_callB (call_max2 rfl) (by rfl) T.max (by decide +kernel) (pa_cons pe_int (pa_cons (pe_callB (call_min2 rfl) (by rfl) T.min (by decide +kernel) (pa_cons (pe_callB call_len_seq (by rfl) T.len (by decide +kernel) (pa_cons (pv 0) pa_nil)) (pa_cons pe_int pa_nil))) pa_nil))) pa_nil)) (pg_name (i := 3) sc_law.nd rfl (.inl rfl))
      (pss_cons (ps_asg (pe_call G_bag (hr.mono (by decide)) rfl D_bag.mg D_bag.fn.kp D_bag.bd .nil pass0 (pa_cons (pe_call G_seed (hr.mono (by decide)) rfl D_seed.mg D_seed.fn.kp D_seed.bd .nil pass0 (pa_cons (pv 0) (pa_cons (pv 3) pa_nil))) pa_nil)) (pg_name (i := 4) sc_law.nd rfl (.inr rfl)))
      (pss_one (ps_if (pt_not (pt_val (pe_callB (cr_all rfl) (by rfl) T.all (by decide +kernel) (pa_cons (pe_lc (own := [("_law_turn", 5)]) (g := gName 5) rfl sc_law.nd (pi_range1 (by rfl) T.range (pa_cons pe_int pa_nil)) (blkOk_by (own := [("_law_turn", 5)]) (N := N_law) (sc := defScope s_law) (by decide +kernel)) (fun _ _ _ _ _ => (pg_name (i := 5) sc_law.nd rfl (.inl rfl))) (fun _ _ _ _ _ => pts_nil) (fun _ _ _ _ _ => (pe_call G_right (hr.mono (by decide)) rfl D_right.mg D_right.fn.kp D_right.bd .nil pass0 (pa_cons (pv 4) (pa_cons (pv 1) pa_nil))))) pa_nil))))
      (pss_one (ps_ret pe_bl))
      pss_nil))))
      (pss_one (ps_ret pe_bl)))))), ?_⟩
    refine ⟨rfl, fun bl H1 nb s1 hB => ?_⟩
    have t1 : TextOk (Str.ofString "0/1") := lit_ok (by decide +kernel)
    have t2 : TextOk (Str.ofString "1/1") := lit_ok (by decide +kernel)
    have t3 : TextOk (Str.ofString "over 0/1") := lit_ok (by decide +kernel)
    have t4 : TextOk (Str.ofString "11/12") := lit_ok (by decide +kernel)
    have t5 : TextOk (Str.ofString "over 11/12") := lit_ok (by decide +kernel)
    have m1 : met (Str.ofString "0/1") 0 1 0 1 = true := by decide +kernel
    have m2 : met (Str.ofString "1/1") 1 1 0 1 = false := by decide +kernel
    have m3 : met (Str.ofString "1/1") 1 1 1 1 = true := by decide +kernel
    have m4 : met (Str.ofString "over 0/1") 0 1 0 3 = false := by decide +kernel
    have m5 : met (Str.ofString "11/12") 11 12 11 12 = true := by decide +kernel
    have m6 : met (Str.ofString "over 11/12") 11 12 11 12 = false := by decide +kernel
    refine ⟨_, 0, 1, 0, 1, rfl, t1, by decide +kernel, by decide, by decide, by decide, fun H2 s2 => ?_⟩
    rw [m1]
    refine ⟨_, 1, 1, 0, 1, rfl, t2, by decide +kernel, by decide, by decide, by decide, fun H3 s3 => ?_⟩
    rw [m2]
    refine ⟨_, 1, 1, 1, 1, rfl, t2, by decide +kernel, by decide, by decide, by decide, fun H4 s4 => ?_⟩
    rw [m3]
    refine ⟨_, 0, 1, 0, 3, rfl, t3, by decide +kernel, by decide, by decide, by decide, fun H5 s5 => ?_⟩
    rw [m4]
    refine ⟨by decide, fun L1 n1 => ?_⟩
    have sH5 : Same H H5 := (((s1.trans s2).trans s3).trans s4).trans s5
    have sB5 : Same H1 H5 := ((s2.trans s3).trans s4).trans s5
    refine ⟨_, rfl, _, 11, 12, 11, 12, rfl, t4, by decide +kernel, by decide, by decide, by decide, fun H6 s6 => ?_⟩
    rw [m5]
    refine ⟨_, 11, 12, 11, 12, rfl, t5, by decide +kernel, by decide, by decide, by decide, fun H7 s7 => ?_⟩
    rw [m6]
    have hL1 : H7 L1 = some (.lst [.bl true, .bl false, .bl true, .bl false]) := s7 _ _ (s6 _ _ upd_same)
    have s57 : Same H5 H7 := ((same_new n1).trans s6).trans s7
    refine ⟨by decide, fun L2' n2 => ?_⟩
    have ne12 : L1 ≠ L2' := ne_of_none hL1 n2
    refine ⟨_, _, _, _, rfl, rfl, (upd_ne ne12).trans hL1, upd_same, by decide, fun L3 n3 => ?_⟩
    refine ⟨_, PyData.list [.bool true, .bool false, .bool true, .bool false, .bool true, .bool false], rfl, .lst (SqL.of upd_same) (.cons (.bl _) (.cons (.bl _) (.cons (.bl _) (.cons (.bl _) (.cons (.bl _) (.cons (.bl _) .nil)))))), by decide, by decide, by decide, by decide +kernel, rfl, _, rfl, ?_⟩
    refine ifNF (by decide +kernel) ?_
    have sC : Same H7 (upd (upd H7 L2' (.lst [.bl true, .bl false])) L3 (.lst ([.bl true, .bl false, .bl true, .bl false] ++ [.bl true, .bl false]))) := (same_new n2).trans (same_new n3)
    have hS' := (sH5.trans (s57.trans sC)).seq hS
    have hB' := (sB5.trans (s57.trans sC)) _ _ hB
    generalize upd (upd H7 L2' (.lst [.bl true, .bl false])) L3 (.lst ([.bl true, .bl false, .bl true, .bl false] ++ [.bl true, .bl false])) = H8 at hS' hB'
    clear s1 s2 s3 s4 s5 s6 s7 s57 n1 n2 n3 sC sH5 sB5 hL1
    refine ⟨_, rfl, _, _, rfl, .inl hS', _, _, rfl, _, _, rfl, _, rfl, ?_, ?_, for_range (lo := 0) (fun i σ' H' => ∃ v3 v4 v5, σ' = [some (.ref a), some (.ref bl), some (.ref L1), v3, v4, v5] ∧
      SqL K H' a (ns.map V.int) ∧ H' bl = some (.lst (BL.map V.str))) ⟨none, none, none, rfl, hS', hB'⟩ ?_ ?_⟩
    · split <;> split <;> omega
    · split <;> split <;> omega
    · rintro i σ' H' hi ⟨v3, v4, v5, rfl, hS1, hB1⟩
      have hi' : i < 1000 := by
        refine Nat.lt_of_lt_of_le hi ?_
        split <;> split <;> omega
      refine ⟨_, rfl, _, rfl, a, ns, _, rfl, hS1, bits, by omega, by omega, fun n H2 s2 nb2 => ⟨n, rfl, nb2, fun p H3 np s3 bg => ?_⟩⟩
      have hB3 := s3 _ _ (s2 _ _ hB1)
      have hS3 := s3.seq (s2.seq hS1)
      have ne : bl ≠ p := ne_of_none (s2 _ _ hB1) np
      refine ⟨8, rfl, by decide, by decide, fun L hL => ?_⟩
      have nLp : L ≠ p := bg.ne_none hL
      have nLb : bl ≠ L := ne_of_none hB3 hL
      have nL2 : H2 L = none := s3.free hL
      refine lc_range (lo := 0) (n := 8) (fun j H' => Same H2 H' ∧ Bag H' p (10 * j) ∧ H' L = some (.lst (List.replicate j (.bl true))))
        ⟨s3.trans (same_new hL), bg.same (same_new hL), upd_same⟩ ?_ ?_
      · rintro j H4 hj ⟨h1, h3, h4⟩
        refine ⟨rfl, _, rfl, _, rfl, p, bl, 10 * j, rfl, h3, by omega, SqL.of (h1 _ _ (s2 _ _ hB1)), ne, fun H5 e5 b5 => ⟨_, e5 _ _ nLp h4, ?_, ?_⟩⟩
        · rw [List.length_replicate]
          exact Nat.lt_trans hj (by decide)
        · refine ⟨same_put (same_but h1 np e5) nL2, b5.put nLp, ?_⟩
          rw [upd_same, List.replicate_succ']
      · rintro H4 ⟨h1, h3, h4⟩
        refine ⟨L, List.replicate 8 true, rfl, SqL.of h4, _, rfl, ?_⟩
        exact ⟨_, _, _, rfl, h1.seq (s2.seq hS1), h1 _ _ (s2 _ _ hB1)⟩
    · rintro σ' H' ⟨v3, v4, v5, rfl, hS1, hB1⟩
      exact ret _
theorem walk {l : PySem.W.OpenLaw} {q : Program} {loose : List Str} {XP : (Str → Option Value) → Heap → Prop} {YP : World → Heap → Prop} {d : DefRec} {K : Params → PySem.W.Frag} (hn : l.most = some 63) (hdf : d.params.defaults = [])
    (hY : ∀ (w : World) (h : Heap), YP w h → (K w.params).In h)
    (F : ∀ (w : World) (mg : Str → Option Value) (fa : Addr) (h : Heap), (K w.params).In h → h.Ns mainGlobals mg → mg d.name = some (.ref fa) →
      ∃ fd : FuncData, (∀ (s : Shared) (u : Value), BindsTo s fd ⟨[u], []⟩ [("_law_script", u)]) ∧ ∀ base : Heap, (K w.params).In base → base.Ns mainGlobals mg → OkG l.prog w (K w.params) mg base CX0 7 fa fd ["_law_script"] (sp_law (K w.params))) :
    PySem.W.WalkO q loose XP YP l.row.toRowW d [] (fun f vs => PySem.call f vs) :=
  walkG (n := 63) (k := 7) (x := "_law_script") (CX := fun _ => CX0) (sp := fun w => sp_law (K w.params)) hn (by decide) hdf ⟨rfl, by decide, by decide⟩ hY F (fun _ _ a ns hl hb hS => ⟨a, ns, rfl, hS, hl, hb, fun _ => rfl⟩) fun _ _ _ _ _ z => z
theorem all_mk {l : PySem.W.OpenLaw} {w : World} {K : PySem.W.Frag} {h : Heap} {mg : Str → Option Value} {fa : Addr} (X : K.In h) (G : h.Ns mainGlobals mg) (hfa : mg "law" = some (.ref fa))
    (d_is_integer : DefIn K "is_integer" s_is_integer)
    (d_common_divisor : DefIn K "common_divisor" s_common_divisor)
    (d_number_of : DefIn K "number_of" s_number_of)
    (d_fraction_of : DefIn K "fraction_of" s_fraction_of)
    (d_is_bound : DefIn K "is_bound" s_is_bound)
    (d_bound_met : DefIn K "bound_met" s_bound_met)
    (d_meets : DefIn K "meets" s_meets)
    (d_seed : DefIn K "_law_seed" s_seed)
    (d_bag : DefIn K "_law_bag" s_bag)
    (d_take : DefIn K "_law_take" s_take)
    (d_common : DefIn K "_law_common" s_common)
    (d_bounds : DefIn K "_law_bounds" s_bounds)
    (d_many : DefIn K "_law_many" s_many)
    (d_told : DefIn K "_law_told" s_told)
    (d_right : DefIn K "_law_right" s_right)
    (d_law : DefIn K "law" s_law)
    (b_ValueError : PySem.W.nsIn K mainGlobals "ValueError" = some none)
    (b_abs : PySem.W.nsIn K mainGlobals "abs" = some none)
    (b_all : PySem.W.nsIn K mainGlobals "all" = some none)
    (b_any : PySem.W.nsIn K mainGlobals "any" = some none)
    (b_bool : PySem.W.nsIn K mainGlobals "bool" = some none)
    (b_divmod : PySem.W.nsIn K mainGlobals "divmod" = some none)
    (b_int : PySem.W.nsIn K mainGlobals "int" = some none)
    (b_isinstance : PySem.W.nsIn K mainGlobals "isinstance" = some none)
    (b_len : PySem.W.nsIn K mainGlobals "len" = some none)
    (b_max : PySem.W.nsIn K mainGlobals "max" = some none)
    (b_min : PySem.W.nsIn K mainGlobals "min" = some none)
    (b_range : PySem.W.nsIn K mainGlobals "range" = some none)
    (b_repr : PySem.W.nsIn K mainGlobals "repr" = some none)
    (b_str : PySem.W.nsIn K mainGlobals "str" = some none)
    (c_MOST_PART : ∃ v, PySem.W.nsIn K mainGlobals "MOST_PART" = some (some v) ∧ ∃ t, v = (.int (12) t))
    (c_DIGITS : ∃ v, PySem.W.nsIn K mainGlobals "DIGITS" = some (some v) ∧ ∃ t, v = (.str "0123456789" t))
    (c_MARK : ∃ v, PySem.W.nsIn K mainGlobals "MARK" = some (some v) ∧ ∃ t, v = (.str "over " t))
    : ∃ fd : FuncData, (∀ (s : Shared) (v : Value), BindsTo s fd ⟨[v], []⟩ [("_law_script", v)]) ∧ ∀ base : Heap, K.In base → base.Ns mainGlobals mg → OkG l.prog w K mg base CX0 7 fa fd ["_law_script"] (sp_law K) := by
  have T : Txt K mg := ⟨PySem.W.mg_none_of X G b_ValueError, PySem.W.mg_none_of X G b_abs, PySem.W.mg_none_of X G b_all, PySem.W.mg_none_of X G b_any, PySem.W.mg_none_of X G b_bool, PySem.W.mg_none_of X G b_divmod, PySem.W.mg_none_of X G b_int, PySem.W.mg_none_of X G b_isinstance, PySem.W.mg_none_of X G b_len, PySem.W.mg_none_of X G b_max, PySem.W.mg_none_of X G b_min, PySem.W.mg_none_of X G b_range, PySem.W.mg_none_of X G b_repr, PySem.W.mg_none_of X G b_str, (by obtain ⟨v, e, t, rfl⟩ := c_MOST_PART; exact ⟨t, PySem.W.mg_of X G e⟩), (by obtain ⟨v, e, t, rfl⟩ := c_DIGITS; exact ⟨t, PySem.W.mg_of X G e⟩), (by obtain ⟨v, e, t, rfl⟩ := c_MARK; exact ⟨t, PySem.W.mg_of X G e⟩)⟩
  obtain ⟨f_is_integer, fd_is_integer, D_is_integer⟩ := d_is_integer.at X G (ps := P_is_integer) (fun _ _ _ _ _ _ us hl => match us, hl with | [_], _ => rfl)
  obtain ⟨f_common_divisor, fd_common_divisor, D_common_divisor⟩ := d_common_divisor.at X G (ps := P_common_divisor) (fun _ _ _ _ _ _ us hl => match us, hl with | [_, _], _ => rfl)
  obtain ⟨f_number_of, fd_number_of, D_number_of⟩ := d_number_of.at X G (ps := P_number_of) (fun _ _ _ _ _ _ us hl => match us, hl with | [_, _], _ => rfl)
  obtain ⟨f_fraction_of, fd_fraction_of, D_fraction_of⟩ := d_fraction_of.at X G (ps := P_fraction_of) (fun _ _ _ _ _ _ us hl => match us, hl with | [_], _ => rfl)
  obtain ⟨f_is_bound, fd_is_bound, D_is_bound⟩ := d_is_bound.at X G (ps := P_is_bound) (fun _ _ _ _ _ _ us hl => match us, hl with | [_], _ => rfl)
  obtain ⟨f_bound_met, fd_bound_met, D_bound_met⟩ := d_bound_met.at X G (ps := P_bound_met) (fun _ _ _ _ _ _ us hl => match us, hl with | [_, _, _], _ => rfl)
  obtain ⟨f_meets, fd_meets, D_meets⟩ := d_meets.at X G (ps := P_meets) (fun _ _ _ _ _ _ us hl => match us, hl with | [_, _, _], _ => rfl)
  obtain ⟨f_seed, fd_seed, D_seed⟩ := d_seed.at X G (ps := P_seed) (fun _ _ _ _ _ _ us hl => match us, hl with | [_, _], _ => rfl)
  obtain ⟨f_bag, fd_bag, D_bag⟩ := d_bag.at X G (ps := P_bag) (fun _ _ _ _ _ _ us hl => match us, hl with | [_], _ => rfl)
  obtain ⟨f_take, fd_take, D_take⟩ := d_take.at X G (ps := P_take) (fun _ _ _ _ _ _ us hl => match us, hl with | [_, _], _ => rfl)
  obtain ⟨f_common, fd_common, D_common⟩ := d_common.at X G (ps := P_common) (fun _ _ _ _ _ _ us hl => match us, hl with | [_, _], _ => rfl)
  obtain ⟨f_bounds, fd_bounds, D_bounds⟩ := d_bounds.at X G (ps := P_bounds) (fun _ _ _ _ _ _ us hl => match us, hl with | [], _ => rfl)
  obtain ⟨f_many, fd_many, D_many⟩ := d_many.at X G (ps := P_many) (fun _ _ _ _ _ _ us hl => match us, hl with | [_], _ => rfl)
  obtain ⟨f_told, fd_told, D_told⟩ := d_told.at X G (ps := P_told) (fun _ _ _ _ _ _ us hl => match us, hl with | [_, _, _], _ => rfl)
  obtain ⟨f_right, fd_right, D_right⟩ := d_right.at X G (ps := P_right) (fun _ _ _ _ _ _ us hl => match us, hl with | [_, _], _ => rfl)
  obtain ⟨f_law, oc, od, kV, doc, pm, an, cd, ct, sl, e_law, l_law, c_law, k_law⟩ := d_law
  have e := hfa.symm.trans (PySem.W.mg_of X G e_law)
  cases e
  refine ⟨PySem.W.fnOf "law" "law" (defArgs s_law) (defBody s_law) (defScope s_law) .none kV doc pm an cd ct, fun s v => .of_eq rfl, fun base _ _ => ?_⟩
  have G_fraction_of : FnOk l.prog w K mg base CX0 2 f_fraction_of fd_fraction_of P_fraction_of (sp_fraction_of K) := ok_fraction_of D_fraction_of T D_number_of D_common_divisor
  have G_meets : FnOk l.prog w K mg base CX0 4 f_meets fd_meets P_meets sp_meets :=
    ok_meets D_meets D_is_bound (ok_is_bound D_is_bound D_fraction_of G_fraction_of) D_is_integer (ok_is_integer D_is_integer T) D_bound_met (ok_bound_met D_bound_met T D_fraction_of G_fraction_of)
  exact ok_law (fun_mk (st := s_law) l_law c_law k_law) T D_bounds (ok_bounds D_bounds T D_common) D_meets G_meets D_bag D_seed D_right
    (ok_right D_right T D_take D_many D_told (ok_told D_told T D_meets G_meets))
end L

open PySem PySem.W PyProof.Rows in
set_option maxRecDepth 100000 in
set_option maxHeartbeats 0 in
theorem PySem.Challenge.cw_heldvotes_k02_bounds_met_holds : PySem.Challenge.rw_heldvotes_k02_bounds_met.Holds := by
  w_on; o_law; k_head; (case hw => w_witness2)
  k_fill
  refine L.walk (l := PySem.Challenge.rw_heldvotes_k02_bounds_met) rfl rfl (fun w h Y => PySem.W.kIn_of Y) ?F
  case F =>
    intro w mg fa h KX G hmg
    refine' L.all_mk KX G hmg ?d_is_integer ?d_common_divisor ?d_number_of ?d_fraction_of ?d_is_bound ?d_bound_met ?d_meets ?d_seed ?d_bag ?d_take ?d_common ?d_bounds ?d_many ?d_told ?d_right ?d_law ?b_ValueError ?b_abs ?b_all ?b_any ?b_bool ?b_divmod ?b_int ?b_isinstance ?b_len ?b_max ?b_min ?b_range ?b_repr ?b_str ?c_MOST_PART ?c_DIGITS ?c_MARK
    (case d_is_integer => refine' Hv.defIn_mk ?a ?l ?c ?k; (case a => k_is); (case l => k_is); (case c => k_is); (case k => k_is))
    (case d_common_divisor => refine' Hv.defIn_mk ?a ?l ?c ?k; (case a => k_is); (case l => k_is); (case c => k_is); (case k => k_is))
    (case d_number_of => refine' Hv.defIn_mk ?a ?l ?c ?k; (case a => k_is); (case l => k_is); (case c => k_is); (case k => k_is))
    (case d_fraction_of => refine' Hv.defIn_mk ?a ?l ?c ?k; (case a => k_is); (case l => k_is); (case c => k_is); (case k => k_is))
    (case d_is_bound => refine' Hv.defIn_mk ?a ?l ?c ?k; (case a => k_is); (case l => k_is); (case c => k_is); (case k => k_is))
    (case d_bound_met => refine' Hv.defIn_mk ?a ?l ?c ?k; (case a => k_is); (case l => k_is); (case c => k_is); (case k => k_is))
    (case d_meets => refine' Hv.defIn_mk ?a ?l ?c ?k; (case a => k_is); (case l => k_is); (case c => k_is); (case k => k_is))
    (case d_seed => refine' Hv.defIn_mk ?a ?l ?c ?k; (case a => k_is); (case l => k_is); (case c => k_is); (case k => k_is))
    (case d_bag => refine' Hv.defIn_mk ?a ?l ?c ?k; (case a => k_is); (case l => k_is); (case c => k_is); (case k => k_is))
    (case d_take => refine' Hv.defIn_mk ?a ?l ?c ?k; (case a => k_is); (case l => k_is); (case c => k_is); (case k => k_is))
    (case d_common => refine' Hv.defIn_mk ?a ?l ?c ?k; (case a => k_is); (case l => k_is); (case c => k_is); (case k => k_is))
    (case d_bounds => refine' Hv.defIn_mk ?a ?l ?c ?k; (case a => k_is); (case l => k_is); (case c => k_is); (case k => k_is))
    (case d_many => refine' Hv.defIn_mk ?a ?l ?c ?k; (case a => k_is); (case l => k_is); (case c => k_is); (case k => k_is))
    (case d_told => refine' Hv.defIn_mk ?a ?l ?c ?k; (case a => k_is); (case l => k_is); (case c => k_is); (case k => k_is))
    (case d_right => refine' Hv.defIn_mk ?a ?l ?c ?k; (case a => k_is); (case l => k_is); (case c => k_is); (case k => k_is))
    (case d_law => refine' Hv.defIn_mk ?a ?l ?c ?k; (case a => k_is); (case l => k_is); (case c => k_is); (case k => k_is))
    (case b_ValueError => k_is)
    (case b_abs => k_is)
    (case b_all => k_is)
    (case b_any => k_is)
    (case b_bool => k_is)
    (case b_divmod => k_is)
    (case b_int => k_is)
    (case b_isinstance => k_is)
    (case b_len => k_is)
    (case b_max => k_is)
    (case b_min => k_is)
    (case b_range => k_is)
    (case b_repr => k_is)
    (case b_str => k_is)
    (case c_MOST_PART => refine' Hv.constIn_mk ?cq ?cr; (case cq => k_is); (case cr => exact ⟨_, rfl⟩))
    (case c_DIGITS => refine' Hv.constIn_mk ?cq ?cr; (case cq => k_is); (case cr => exact ⟨_, rfl⟩))
    (case c_MARK => refine' Hv.constIn_mk ?cq ?cr; (case cq => k_is); (case cr => exact ⟨_, rfl⟩))

