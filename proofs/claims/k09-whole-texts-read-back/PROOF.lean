import PyProof.Rows.All
import Wide.All
import OpenK.AllK
import Wide.FinOn
import HandS.ForMost
import HandS.ForExc
import HandS.EndBits
import HandS.Wide
import HandS.WideBits
import HandS.IsInst
import HandS.StrMore
import HandS.Style
import HandS.Evl
import PyProof.ReprRoads
import HandS.ReplaceDef
import HandS.ReplaceLit
import HandS.NoneIn
import HandS.Walk
import HandS.Codes
import HandS.EndTab
import HandS.Head0
import HandS.Head1
import HandS.Head2
import HandS.HeadEnd
import HandS.HeadHook1
import HandS.HeadHook2
import HandS.HeadHook4
import HandS.HeadNt
import HandS.SlotsOwn
import HandS.FStr
import HandS.StrSplit
import HandS.Zip0
import PyProof.Draws
import HandS.Property
import HandS.Records
import HandS.Deep
import KE.DataCmp
import HandS.Star
import HandS.Comp
import HandS.Text
import HandS.TupAny
import HandS.SortInts
import HandS.SetFor
import HandS.Flow
import HandS.Zip
import HandS.Defaults
import HandS.ClsMeth
import HandS.MakeKwOnly
import HandS.Exc
import KE.KTupSum
import HandS.Strs
import PyProof.Rows.SeqItemCall
import KE.KRevSl
import PyProof.FactsAll.object_2
import PyProof.FactsAll.str_1
import PyProof.FactsAll.str_2
import PyProof.FactsAll.tuple_1
import PyProof.FactsAll.tuple_2
import PyProof.FactsAll.list_1
import PyProof.FactsAll.list_2
import PyProof.FactsAll.int_1
import PyProof.FactsAll.int_2
import PyProof.FactsAll.int_3
import PyProof.FactsAll.NoneType_1
import PyProof.FactsAll.bool_1
import PyProof.FactsAll.bool_2
import PyProof.StrReplace2
import HandS.OwnEq
import HandS.ForSpec
import HandS.More
import HandS.Conv
import PyProof.ReprBulk
import PyProof.Rows.RegStrFacts
import KE.KOpsOwn
import KE.KCallOwn
import HandS.RaiseMore
import PyProof.Rows.CallKw2
import PySem.Challenge.RW_heldvotes_k09_whole_texts_read_back
set_option Elab.async false
set_option linter.all false
set_option maxRecDepth 100000
set_option maxHeartbeats 4000000
namespace L
end L
namespace Hv
open PySem PySem.Spec PyProof.Rows L2
/-- a promise that is kept wherever no repr is under way -/
structure OkG (P : Program) (w : World) (K : PySem.W.Frag) (mg : Str → Option Value) (base : Heap) (CX : CXT) (k : Nat)
    (f : Addr) (fd : FuncData) (ps : List Str) (sp : Sp) : Prop where
  len : ∀ vs H Q E, sp vs H Q E → vs.length = ps.length
  run : ∀ (A : Around) (outer : List Env) (s : Shared) (H : Hp) (args : Args) (us : List Value) (vs : List V) (Q : VK) (E : XK),
    A.guards = some [] → Room k A → Env0 P w K mg base A outer s H → BindsTo s fd args (ps.zip us) → Vals vs us →
    sp vs H Q E → codeAny (model P w) A (.call (.ref f) args) (CR CX outer P w H s Q E) s
section
variable {P : Program} {w : World} {K : PySem.W.Frag} {mg : Str → Option Value} {base : Heap} {CX : CXT} {k : Nat}
  {f : Addr} {fd : FuncData} {ps : List Str} {sp : Sp}
theorem OkG.of (F : FnOk P w K mg base CX k f fd ps sp) : OkG P w K mg base CX k f fd ps sp :=
  ⟨F.len, fun A outer s H args us vs Q E _ => F.run A outer s H args us vs Q E⟩
theorem OkG.mono {j : Nat} (F : OkG P w K mg base CX j f fd ps sp) (h : j ≤ k) : OkG P w K mg base CX k f fd ps sp :=
  ⟨F.len, fun A outer s H args us vs Q E hg hr => F.run A outer s H args us vs Q E hg (hr.mono h)⟩
/-- the rule for a def, where no repr is under way -/
theorem okG {x qual : Str} {st : Stmt} {N : List Str} (F : Fun K x qual st f fd) (S : FnScope N ps (defScope st))
    (len : ∀ vs H Q E, sp vs H Q E → vs.length = ps.length)
    (body : ∀ (cdv : Value) (A : Around) (outer : List Env) (s : Shared) (H : Hp) (vs : List V) (Q : VK) (E : XK),
      A.guards = some [] → Room k (A.deeper (envOfC qual (defScope st) s.heap.objs.size f cdv)) → sp vs H Q E →
      ∃ t, PSs (cxOf CX P w K mg base N qual (defScope st) f cdv A outer s H E) (defBody st) t ∧
        t { nx := fun _ H' => Q .non H', rt := Q } (start N vs) H) :
    OkG P w K mg base CX (k + 1) f fd ps sp := by
  obtain ⟨oc, od, kV, doc, pm, an, cdv, ct, osl, rfl, lk, hcd⟩ := F.ex
  constructor
  · exact len
  intro A outer s H args us vs Q E hg hr e0 hb r hsp
  have KX : K.In s.heap := e0.mod.kin.keeps (fun b o e => (e0.bs b o e).1)
  have lim := e0.mod.nolimit.keeps (fun b o e => (e0.bs b o e).1)
  have kinds : ∀ y ∈ ps.zip us, (defScope st).names.lookup y.1 = some .local ∨
      ((defScope st).names.lookup y.1 = some .cell ∧
        ((cellsFrom (s.heap.objs.size + 1) (defScope st).names []).lookup y.1).isSome = true) := by
    rintro ⟨n, v⟩ hy
    cases S.par n (List.of_mem_zip hy).1 with
    | inl q => exact Or.inl q
    | inr q => exact Or.inr ⟨q, PySem.W.cellsFrom_some _ _ _ (Or.inl q)⟩
  apply codeAny_call_function hr.depth (KX _ _ lk) rfl S.co S.gen rfl (PySem.W.codeRec_of KX hcd)
  apply hb
  refine wpAny_newFunctionEnv_cells S.kind kinds ?_
  rintro env rfl s1 x
  refine ⟨lim.keeps x.toInCall.keep, codeAny_func ?_⟩
  obtain ⟨t, ht, hq⟩ := body cdv A outer s H vs Q E hg (hr.deeper _) hsp
  have I := inv_start (CX := CX) (E := E) S hr.hd e0 (len _ _ _ _ hsp) r x
  apply wpAny_mono (ht.run [] s1 (start N vs) H _ I hq)
  · intro fl s' hs
    cases fl with
    | ret u =>
      obtain ⟨v, σ', H', J, rv, q⟩ := hs
      exact ⟨v, H', J.os, J.bare, J.base, J.hok, rv, q⟩
    | next =>
      obtain ⟨σ', H', J, q⟩ := hs
      exact ⟨V.non, H', J.os, J.bare, J.base, J.hok, rfl, q⟩
    | brk =>
      obtain ⟨_, _, _, q⟩ := hs
      exact q.elim
    | cont =>
      obtain ⟨_, _, _, q⟩ := hs
      exact q.elim
  · intro e s' hs
    exact hs
end
theorem okG0 {P : Program} {w : World} {K : PySem.W.Frag} {mg : Str → Option Value} {base : Heap} {k : Nat} {f : Addr} {fd : FuncData} {ps : List Str} {sp : Sp}
    {x qual : Str} {st : Stmt} {N : List Str} (F : Fun K x qual st f fd) (S : FnScope N ps (defScope st)) (len : ∀ vs H Q E, sp vs H Q E → vs.length = ps.length)
    (body : ∀ (cdv : Value) (A : Around) (outer : List Env) (s : Shared) (H : Hp) (vs : List V) (Q : VK) (E : XK),
      A.guards = some [] → Room k (A.deeper (envOfC qual (defScope st) s.heap.objs.size f cdv)) → sp vs H Q E →
      ∃ t, PSs (cxOf CX0 P w K mg base N qual (defScope st) f cdv A outer s H E).nox (defBody st) t ∧
        t { nx := fun _ H' => Q .non H', rt := Q } (start N vs) H) : OkG P w K mg base CX0 (k + 1) f fd ps sp :=
  okG F S len fun cdv A outer s H vs Q E hg hr hsp =>
    let ⟨t, h, q⟩ := body cdv A outer s H vs Q E hg hr hsp
    ⟨t, h.nox, q⟩
section
variable {X : Cx} {CX : CXT} {k : Nat} {f : Addr} {fd : FuncData} {ps : List Str} {sp : Sp} {dvs : List V} {ds : List Value}
  {E : XK} {x : Str} {p pos : Pos} {e : Expr} {es : List Expr} {t : TA}
theorem runG {pins : List (Addr × Obj)} {σ : L2.St} {H : Hp} {s : Shared} {Q : VK} {us : List Value} {vs : List V}
    (F : OkG X.prog X.w X.K X.mg X.base CX k f fd ps sp) (hG : X.A.guards = some []) (hr : Room k X.A)
    (hb : Binds X.K fd ps ds) (hd : Vals dvs ds) (hx : Passes CX X E) (I : Inv X pins σ H s) (r : Vals vs us)
    (h : sp (vs ++ dvs) H Q E) : wpAny (model X.prog X.w) X.A (call (.ref f) us) (EP X pins σ Q) X.xe s := by
  have r2 : Vals (vs ++ dvs) (us ++ ds) := r.append hd
  have hl : (us ++ ds).length = ps.length := r2.length.symm.trans (F.len _ _ _ _ h)
  have go := F.run X.A X.stack s H ⟨us, []⟩ (us ++ ds) (vs ++ dvs) Q E hG hr I.env0 (hb s us I.kIn hl) r2 h
  refine wpAny_call (codeAny_mono go ?_)
  intro r s' hq
  match r, hq with
  | .error e, hq => exact hx pins σ H s e s' I hq
  | .ok (.ret u), hq => exact I.after hq
  | .ok .next, hq => exact hq.elim
  | .ok .brk, hq => exact hq.elim
  | .ok .cont, hq => exact hq.elim
/-- f(e, ..) for such a def -/
theorem pe_callG (F : OkG X.prog X.w X.K X.mg X.base CX k f fd ps sp) (hG : X.A.guards = some []) (hr : Room k X.A) (hg : Gl X x)
    (hm : X.mg x = some (.ref f)) (hk : PySem.W.keepIn X.K (.ref f) = true) (hb : Binds X.K fd ps ds) (hd : Vals dvs ds)
    (hx : Passes CX X E) (ha : PA X (e :: es) t) (hdb : (x == ("__debug__" : Str)) = false := by decide)
    (he : starEach (e :: es) X.env = (false, eval e X.env) :: starEach es X.env := by rfl)
    (hpl : (backTo pos (starEach es X.env)).any (·.1) = false := by rfl) :
    PE X (.Call (.Name x p) (e :: es) [] pos) (tCall sp dvs E t) := by
  constructor
  intro pins s σ H Q I h
  apply wpAny_Call_Name_kw
  refine ld_glob I hg hm ?_ hdb
  refine PySem.W.callWith_K (h₀ := X.base) I.ok.mod.kin hk (thn (ha.run pos pins s σ H _ I h) ?_) he hpl
  rintro us s1 ⟨vs, H1, I1, r, q⟩
  exact ⟨I1.kIn, runG F hG hr hb hd hx I1 r q⟩
theorem pe_call0G (F : OkG X.prog X.w X.K X.mg X.base CX k f fd ps sp) (hG : X.A.guards = some []) (hr : Room k X.A) (hg : Gl X x)
    (hm : X.mg x = some (.ref f)) (hk : PySem.W.keepIn X.K (.ref f) = true) (hb : Binds X.K fd ps ds) (hd : Vals dvs ds)
    (hx : Passes CX X E) (hdb : (x == ("__debug__" : Str)) = false := by decide) :
    PE X (.Call (.Name x p) [] [] pos) (tCall sp dvs E tNil) := by
  constructor
  intro pins s σ H Q I h
  apply wpAny_Call_Name_kw
  refine ld_glob I hg hm ?_ hdb
  exact PySem.W.callWith_K0 I.kIn hk (runG (us := []) F hG hr hb hd hx I .nil h)
/-- repr of data -/
@[irreducible] def rRepr (K : PySem.W.Frag) : List V → Hp → VK → Prop := fun xs H Q => ∃ v d, xs = [v] ∧ Dp K H v d ∧ d.showable = true ∧ d.hasDict = false ∧ d.depth ≤ 60 ∧ d.shown.length ≤ sizeLine ∧ Q (.str d.shown) H
theorem rd_repr {K : PySem.W.Frag} {H : Hp} {v : V} {d : PyData} {Q : VK} (hv : Dp K H v d) (h1 : d.showable = true) (h2 : d.hasDict = false) (h3 : d.depth ≤ 60) (h4 : d.shown.length ≤ sizeLine) (q : Q (.str d.shown) H) : rRepr K [v] H Q := by
  unfold rRepr
  exact ⟨v, d, rfl, hv, h1, h2, h3, h4, q⟩
theorem cr_repr (hG : X.A.guards = some []) (hu : X.A.units + 64 < cLine) : CallR X (.builtin "repr") (rRepr X.K) := by
  intro pins s σ H xs us Q I r h
  unfold rRepr at h
  obtain ⟨v, d, rfl, hd, hs, hn, hdep, hz, q⟩ := h
  obtain ⟨u, rfl, ru⟩ : ∃ u, us = [u] ∧ RelV v u := by
    cases r with
    | cons a b => cases b with | nil => exact ⟨_, rfl, a⟩
  obtain ⟨as, rd⟩ := Dp.reads I d v u hd ru
  cases hd with
  | non => cases ru; exact PySem.P.repr_of_none ⟨.str _, H, I.tok _, ⟨_, rfl⟩, q⟩
  | bl b => cases ru; exact PySem.P.repr_of_bool ⟨.str _, H, I.tok _, ⟨_, rfl⟩, q⟩
  | int i =>
    obtain ⟨t, rfl⟩ := ru
    refine PySem.P.repr_of_int ?_ ⟨.str _, H, I.tok _, ⟨_, rfl⟩, q⟩
    simpa [PyData.showable] using hs
  | str z =>
    obtain ⟨t, rfl⟩ := ru
    exact PySem.P.repr_of_str ⟨.str _, H, I.tok _, ⟨_, rfl⟩, q⟩ hz
  | lst h1 h2 =>
    cases ru
    refine repr_of_reads' rd hs (by rw [hn]; intro z; cases z) hG (by omega) (fun _ _ e => e) ?_ hz
    intro h' u' tk hk
    exact ⟨.str _, H, I.kept hk, ⟨_, rfl⟩, q⟩
  | tup h1 h2 =>
    cases ru
    refine repr_of_reads' rd hs (by rw [hn]; intro z; cases z) hG (by omega) (fun _ _ e => e) ?_ hz
    intro h' u' tk hk
    exact ⟨.str _, H, I.kept hk, ⟨_, rfl⟩, q⟩
end
/-! ### the end: the law's call, where no repr is under way -/
end Hv
namespace Hv
open PySem PySem.Spec PyProof.Rows L2
abbrev tab0 : Obj := { cls := .none, data := .fields #[] }
end Hv
namespace Hv
open PySem PySem.Spec PyProof.Rows L2
/-! ### the part of the heap that is told -/
abbrev Look := Addr → Option Obj
def names1 (g : Look) (x : Str) : Addr := He.ga (He.frG g [mainGlobals]) x
def next1 (g : Look) (a : Addr) : List Addr := match g a with
  | some o => He.refsD o
  | none => []
/-- a function: what it names; another object: what that names, and so on -/
def next2 (g : Look) (a : Addr) : List Addr := match g a with
  | some ⟨_, _, .func fd, _⟩ => He.refV fd.code ++ (He.refV fd.defaults ++ (He.refV fd.defaults).flatMap (next1 g)) ++ He.refV fd.kwdefaults
  | some o => He.refsD o ++ (He.refsD o).flatMap (next1 g)
  | none => []
def ofCls (g : Look) (C : Addr) : List Addr := C :: match g C with
  | some ⟨_, _, .cls cd, _⟩ => cd.ns :: (next1 g cd.ns).flatMap fun a => a :: next2 g a
  | _ => []
/-- the defs fs, the classes cs with all their methods, the classes ds without -/
def asO (g : Look) (fs cs ds : List Str) : List Addr := mainGlobals :: cStatics :: ((fs.flatMap fun x => names1 g x :: next1 g (names1 g x)) ++ ((cs.flatMap fun x => ofCls g (names1 g x)) ++ ds.flatMap fun x => names1 g x :: match g (names1 g x) with
  | some ⟨_, _, .cls cd, _⟩ => [cd.ns]
  | _ => []))
/-! ### a def at a place -/
structure DefQ where
  at_ : PySem.W.Frag → Addr
  name : Str
  qual : Str
  st : Stmt
  dfl : List He.Dv := []
def DefQ.val (d : DefQ) : He.FnW := some (d.name, d.qual, defArgs d.st, .stmts (defBody d.st), defScope d.st, mainGlobals, [], builtinsNs)
def DefQ.obs (K : PySem.W.Frag) (d : DefQ) : He.FnW := match K.lookup (d.at_ K) with
  | some ⟨_, _, .func fd, _⟩ => some (fd.name, fd.qualname, fd.params, fd.body, fd.scope, fd.globals, fd.closure, fd.builtins)
  | _ => none
def DefQ.dvs (K : PySem.W.Frag) (d : DefQ) : List V := d.dfl.map (He.Dv.v K)
def DefQ.ok (K : PySem.W.Frag) (d : DefQ) : Bool := PySem.W.keepIn K (.ref (d.at_ K)) && (match K.lookup (d.at_ K) with
  | some ⟨_, _, .func fd, _⟩ => PySem.W.codeIn K fd.code d.qual && He.dflB K fd.defaults (d.dvs K)
  | _ => false)
/-- what is known of it -/
def DefO (K : PySem.W.Frag) (d : DefQ) : Prop := ∃ (oc : Value) (od : Option Addr) (dV kV doc pm : Value) (an : Option Addr) (cd ct : Value) (sl : Array (Option Value)),
  K.lookup (d.at_ K) = some ⟨oc, od, .func (PySem.W.fnOf d.name d.qual (defArgs d.st) (defBody d.st) (defScope d.st) dV kV doc pm an cd ct), sl⟩ ∧ PySem.W.codeIn K cd d.qual = true ∧ DflV K dV (d.dvs K) ∧ PySem.W.keepIn K (.ref (d.at_ K)) = true
theorem DefQ.out {K : PySem.W.Frag} {d : DefQ} (e : d.obs K = d.val) (c : d.ok K = true) : DefO K d := by
  obtain ⟨kp, c2⟩ := He.ba c
  unfold DefQ.obs at e
  cases q : K.lookup (d.at_ K) with
  | none =>
    rw [q] at c2
    cases c2
  | some o =>
    obtain ⟨oc, od, dt, osl⟩ := o
    rw [q] at c2 e
    cases dt with
    | func fd =>
      obtain ⟨n1, n2, n3, n4, n5, n6, n7, n8, n9, n10, n11, n12, n13, n14, n15⟩ := fd
      have e2 : (some (n1, n2, n3, n4, n5, n6, n7, n15) : He.FnW) = some (d.name, d.qual, defArgs d.st, .stmts (defBody d.st), defScope d.st, mainGlobals, [], builtinsNs) := e
      simp only [Option.some.injEq, Prod.mk.injEq] at e2
      obtain ⟨h1, h2, h3, h4, h5, h6, h7, h8⟩ := e2
      subst h1 h2 h3 h4 h5 h6 h7 h8
      obtain ⟨k1, k2⟩ := He.ba (show (PySem.W.codeIn K n13 d.qual && He.dflB K n8 (d.dvs K)) = true from c2)
      exact ⟨oc, od, n8, n9, n10, n11, n12, n13, n14, osl, q, k1, He.dflB_ok k2, kp⟩
    | _ => cases c2
/-! ### the Hook -/
abbrev Fb := PySem.W.Frag → Bool
def tabB (g : Look) (K : PySem.W.Frag) (x : Str) : Bool := PySem.W.codeHdIn K (He.cT K (x, none)).1 (He.cT K (x, none)).2 && (match g (He.cT K (x, none)).2 with
  | some o => He.emptyTab o
  | none => false)
abbrev Ob := Bool × List He.FnW
def obO (fb : List Fb) (fn : List DefQ) (tf : List Str) (g : Look) (K : PySem.W.Frag) : Ob := ((fb.all fun b => b K) && (fn.all (fun d => d.ok K) && tf.all (fun x => tabB g K x)), fn.map fun d => d.obs K)
structure Says (fb : List Fb) (fn : List DefQ) (tf : List Str) (h : Heap) (K : PySem.W.Frag) : Prop where
  kin : K.In h
  bs : ∀ b ∈ fb, b K = true
  df : ∀ d ∈ fn, DefO K d
  hd : ∀ x ∈ tf, PySem.W.codeHdIn K (He.cT K (x, none)).1 (He.cT K (x, none)).2 = true
  no : ∀ x ∈ tf, K.lookup (He.cT K (x, none)).2 = none
  em : ∀ x ∈ tf, h.get? (He.cT K (x, none)).2 = some tab0
theorem says_of {fb : List Fb} {fn : List DefQ} {tf : List Str} {h : Heap} {as : List Addr} (e : obO fb fn tf h.get? (He.frT h.get? as) = (true, fn.map DefQ.val)) : Says fb fn tf h (He.frT h.get? as) := by
  obtain ⟨e1, e2⟩ := Prod.mk.inj e
  obtain ⟨h1, h2⟩ := He.ba e1
  obtain ⟨h3, h4⟩ := He.ba h2
  have key : ∀ x ∈ tf, PySem.W.codeHdIn (He.frT h.get? as) (He.cT (He.frT h.get? as) (x, none)).1 (He.cT (He.frT h.get? as) (x, none)).2 = true ∧ ∃ o, h.get? (He.cT (He.frT h.get? as) (x, none)).2 = some o ∧ He.emptyTab o = true := fun x hx => by
    obtain ⟨k1, k2⟩ := He.ba (List.all_eq_true.mp h4 x hx)
    refine ⟨k1, ?_⟩
    cases q : h.get? (He.cT (He.frT h.get? as) (x, none)).2 with
    | none =>
      rw [q] at k2
      cases k2
    | some o =>
      rw [q] at k2
      exact ⟨o, rfl, k2⟩
  refine ⟨He.frT_in, fun b hb => List.all_eq_true.mp h1 b hb, fun d hd => ?_, fun x hx => (key x hx).1, fun x hx => ?_, fun x hx => ?_⟩
  · refine DefQ.out ?_ (List.all_eq_true.mp h3 d hd)
    exact List.map_inj_left.mp e2 d hd
  · obtain ⟨_, o, q, z⟩ := key x hx
    exact He.frT_none q z
  · obtain ⟨_, o, q, z⟩ := key x hx
    rw [q, He.emptyTab_eq z]
def hookO (fs cs ds : List Str) (fb : List Fb) (fn : List DefQ) (tf : List Str) : PySem.W.Hook where
  α := Ob
  obs := fun s => obO fb fn tf s.heap.get? (He.frT s.heap.get? (asO s.heap.get? fs cs ds))
  val := fun _ => (true, fn.map DefQ.val)
  says := fun _ h => ∃ K : PySem.W.Frag, Says fb fn tf h K
  of := fun _ _ e => ⟨_, says_of e⟩
  keeps := fun _ _ _ ⟨K, c⟩ k => ⟨K, PySem.W.Frag.In.keeps c.kin k, c.bs, c.df, c.hd, c.no, fun x hx => k _ _ (c.em x hx)⟩
def obT (fs cs ds : List Str) (fb : List Fb) (fn : List DefQ) (tf : List Str) (s : PySem.W.SharedT) : Ob := obO fb fn tf (HandSHeadRun.getT s) (He.frT (HandSHeadRun.getT s) (asO (HandSHeadRun.getT s) fs cs ds))
theorem obT_eq {fs cs ds : List Str} {fb : List Fb} {fn : List DefQ} {tf : List Str} (s : PySem.W.SharedT) : obT fs cs ds fb fn tf s = (hookO fs cs ds fb fn tf).obs s.abs := by
  have e : HandSHeadRun.getT s = s.abs.heap.get? := funext (HandSHeadRun.getT_eq s)
  unfold obT
  rw [e]
  rfl
/-! ### the run told in parts: each takes less memory -/
noncomputable abbrev EF (r : PySem.W.OpenRow) (M : Nat) (w : World) (os : OsState) : Option PySem.W.SharedT := HandSHeadRun.endF (HandSHeadRun.stepQ (HandSHeadRun.denQ HandSHeadRun.tabQ) r.prog w) M r.prog w os
theorem map2 {α β γ : Type} {x : Option α} {f : α → β} {g : α → γ} {b : β} {c : γ} (h1 : x.map f = some b) (h2 : x.map g = some c) : x.map (fun s => (f s, g s)) = some (b, c) := by
  obtain ⟨s, rfl, e1⟩ := Option.map_eq_some_iff.mp h1
  obtain ⟨s', e0, e2⟩ := Option.map_eq_some_iff.mp h2
  cases e0
  rw [Option.map_some, e1, e2]
theorem run_join {r : PySem.W.OpenRow} {q : Program} {fs cs ds : List Str} {fb : List Fb} {fn : List DefQ} {tf : List Str} {M : Nat} {loose : List Str} {w : World} {os : OsState}
    (h1 : (EF r M w os).map (fun s => HandSHeadRun.looksF r.prog (PySem.W.boot_heap w.params) s.abs) = some true)
    (h2 : (EF r M w os).map (fun s => HandSHeadRun.seenQ q loose (PySem.importedModules r.prog.main.body) (fun s => PySem.W.xlAt q [] s && PySem.W.recOk r.toRowW.records s) s.abs) = some (PySem.W.openGood q loose))
    (h3 : (EF r M w os).map (fun s => obT fs cs ds [] fn tf s) = some (true, fn.map DefQ.val))
    (h4 : (EF r M w os).map (fun s => obT fs cs ds fb [] [] s) = some (true, [])) :
    (EF r M w os).map (fun s => (HandSHeadRun.looksF r.prog (PySem.W.boot_heap w.params) s.abs, HandSHeadRun.seenQ q loose (PySem.importedModules r.prog.main.body) (fun s => PySem.W.xlAt q [] s && PySem.W.recOk r.toRowW.records s) s.abs, obT fs cs ds fb fn tf s)) = some (true, PySem.W.openGood q loose, (hookO fs cs ds fb fn tf).val w) := by
  refine map2 h1 (map2 h2 ?_)
  obtain ⟨s, e0, e3⟩ := Option.map_eq_some_iff.mp h3
  obtain ⟨s', e0', e4⟩ := Option.map_eq_some_iff.mp h4
  rw [e0] at e0'
  cases e0'
  rw [e0, Option.map_some]
  refine congrArg some ?_
  have a := (Prod.mk.inj e3).1
  have b := (Prod.mk.inj e4).1
  refine Prod.ext ?_ (Prod.mk.inj e3).2
  simp only [List.all_nil, Bool.true_and, Bool.and_true] at a b
  show (fb.all _ && (fn.all _ && tf.all _)) = true
  rw [a, b]
  rfl
section
variable {fb : List Fb} {fn : List DefQ} {tf : List Str} {h : Heap} {K : PySem.W.Frag}
theorem Says.b (c : Says fb fn tf h K) (i : Nat) {f : Fb} (hf : fb[i]? = some f := by rfl) : f K = true := c.bs f (List.mem_of_getElem? hf)
theorem Says.d (c : Says fb fn tf h K) (i : Nat) {f : DefQ} (hf : fn[i]? = some f := by rfl) : DefO K f := c.df f (List.mem_of_getElem? hf)
theorem dfl_none {dV : Value} (h : DflV K dV []) : dV = .none := by
  rcases h with ⟨_, h⟩ | ⟨h, _⟩
  · exact h
  · exact absurd rfl h
/-- a def of the module -/
abbrev defG (x : Str) (st : Stmt) : DefQ := ⟨fun K => He.ga K x, x, x, st, []⟩
end
abbrev defM (C m q : Str) (st : Stmt) (dfl : List He.Dv := []) : DefQ := ⟨fun K => He.ma K (He.ga K C) m, m, q, st, dfl⟩
/-! ### a method, a property -/
def methB (C m : Str) : Fb := fun K => decide (PySem.W.findIn K (.ref (He.ga K C)) m = some (some (.ref (He.ma K (He.ga K C) m)))) && PySem.W.isFn K (.ref (He.ma K (He.ga K C) m))
def pg (C m : Str) (K : PySem.W.Frag) : Addr := match PySem.W.recIn K (He.ma K (He.ga K C) m) "property" with
  | some (.ref g :: _) => g
  | _ => 0
def propB (C m : Str) : Fb := fun K => decide (PySem.W.findIn K (.ref (He.ga K C)) m = some (some (.ref (He.ma K (He.ga K C) m)))) && (decide (PySem.W.specialIn K (.ref (He.ma K (He.ga K C) m)) "__get__" = some (some (.builtin "property.__get__"))) && (decide (PySem.W.takesIn K (.ref (He.ma K (He.ga K C) m)) = some true) &&
  (match PySem.W.recIn K (He.ma K (He.ga K C) m) "property" with
  | some (.ref _ :: _) => true
  | _ => false)))
abbrev defP (C m q : Str) (st : Stmt) : DefQ := ⟨pg C m, m, q, st, []⟩
/-! ### constants -/
def intB (x : Str) (i : Int) : Fb := fun K => match PySem.W.nsIn K mainGlobals x with
  | some (some (.int j _)) => decide (j = i)
  | _ => false
theorem intIn_of {K : PySem.W.Frag} {x : Str} {i : Int} (h : intB x i K = true) : ∃ v, PySem.W.nsIn K mainGlobals x = some (some v) ∧ ∃ t, v = .int i t := by
  unfold intB at h
  split at h
  · rename_i j t e
    cases of_decide_eq_true h
    exact ⟨_, e, _, rfl⟩
  · cases h
def strB (x z : Str) : Fb := fun K => match PySem.W.nsIn K mainGlobals x with
  | some (some (.str y _)) => decide (y = z)
  | _ => false
theorem strIn_of {K : PySem.W.Frag} {x z : Str} (h : strB x z K = true) : ∃ v, PySem.W.nsIn K mainGlobals x = some (some v) ∧ ∃ t, v = .str z t := by
  unfold strB at h
  split at h
  · rename_i y t e
    cases of_decide_eq_true h
    exact ⟨_, e, _, rfl⟩
  · cases h
end Hv
namespace L
open PySem L2 Hv
def top (i : Nat) : Stmt := PySem.Challenge.pw_heldvotes_k09_whole_texts_read_back.main.body.getD i (.Pass ⟨0, 0, 0, 0⟩)
end L
namespace L
open PySem L2 Hv
def isInt (i : Int) : Option (Option Value) → Bool
  | some (some (.int j _)) => decide (j = i)
  | _ => false
def isNone : Option (Option Value) → Bool
  | some (some .none) => true
  | _ => false
def kindKwB : Hv.Fb := fun K => match K.lookup (He.ma K (He.ga K "Kind") "__init__") with
  | some ⟨_, _, .func fd, _⟩ => (match fd.kwdefaults with
    | .ref DD => isInt 0 (PySem.W.nsIn K DD "talks") && (isInt 1 (PySem.W.nsIn K DD "needs") && (isNone (PySem.W.nsIn K DD "closing") && isNone (PySem.W.nsIn K DD "ends")))
    | _ => false)
  | _ => false
end L
namespace Ev
open PySem L2 Hv SlX
set_option autoImplicit false
def clsB (c : Str) : Hv.Fb := fun K => decide (PySem.W.nsIn K mainGlobals c = some (some (.ref (He.ga K c)))) && (PySem.W.plainGet K (He.ga K c) Str.empty && (PySem.W.hasDictIn K (He.ga K c) && (PySem.W.plainOver K (He.ga K c) &&
  (decide (PySem.W.findIn K (.ref (He.ga K c)) "__setattr__" = some (some (.builtin "object.__setattr__"))) && (PySem.W.keepIn K (.ref (He.ga K c)) && PySem.W.makesIn K (He.ga K c))))))
def isB (c : Str) : Hv.Fb := fun K => decide (PySem.W.findIn K (.ref (He.ga K c)) "__class__" = some (some (.builtin "object.__class__"))) && (decide (PySem.W.specialIn K (.builtin "object.__class__") "__get__" = some (some (.builtin "getset_descriptor.__get__"))) &&
  (decide (PySem.W.takesIn K (.builtin "object.__class__") = some true) && (decide (PySem.W.mroIn K (He.ga K c) (.type "object") = some true) && decide (PySem.W.kitOne K (.ref (He.ga K c)) (.ref (He.ga K c)) = some true))))
def naB (c x : Str) : Hv.Fb := fun K => decide (PySem.W.findIn K (.ref (He.ga K c)) x = some none)
def rowsTa (c : Str) (K : PySem.W.Frag) : Addr := match K.lookup (He.ma K (He.ga K c) "__init__") with
  | some ⟨_, _, .func fd, _⟩ => (match fd.defaults with
    | .ref T => (match K.lookup T with
      | some ⟨_, _, .seq its _, _⟩ => (match its.toList[0]? with
        | some (Value.ref a) => a
        | _ => 0)
      | _ => 0)
    | _ => 0)
  | _ => 0
def ktB (c : Str) : Hv.Fb := fun K => match K.lookup (rowsTa c K) with
  | some ⟨.type n, _, .seq its _, _⟩ => n == "tuple" && its.size == 0
  | _ => false
abbrev defR (c q : Str) (st : Stmt) : Hv.DefQ := Hv.defM c "__init__" q st [.adr (rowsTa c)]
def cmB (c m : Str) : Hv.Fb := fun K => He5.wrapB K (He.ga K c) "classmethod" "classmethod.__get__" m && PySem.W.fnIn K (He5.wf K (He.ga K c) "classmethod" m)
def cmB2 (c : Str) : Hv.Fb := fun K => PySem.W.readsIn K (He.ga K c) (.type "type") && decide (PySem.W.specialIn K (.ref (He.ga K c)) "__getattribute__" = some (some (.builtin "type.__getattribute__")))
abbrev defCM (c m q : Str) (st : Stmt) : Hv.DefQ := ⟨fun K => He5.wf K (He.ga K c) "classmethod" m, m, q, st, []⟩
def eqfB1 (c : Str) : Hv.Fb := fun K => decide (PySem.W.findIn K (.ref (He.ga K c)) "__ne__" = some (some (.builtin "object.__ne__"))) && (decide (PySem.W.mroIn K (He.ga K c) (.type "object") = some true) && PySem.W.notFirst K (He.ga K c) (.ref (He.ga K c)))
def eqfB2 (c : Str) : Hv.Fb := fun K => decide (PySem.W.subIn K (.ref (He.ga K c)) (.type "NoneType") = some false) && (decide (PySem.W.subIn K (.ref (He.ga K c)) (.type "int") = some false) && (decide (PySem.W.subIn K (.ref (He.ga K c)) (.type "bool") = some false) && (decide (PySem.W.subIn K (.ref (He.ga K c)) (.type "str") = some false) && (decide (PySem.W.subIn K (.ref (He.ga K c)) (.type "list") = some false) && decide (PySem.W.subIn K (.ref (He.ga K c)) (.type "tuple") = some false)))))
def eqfB3 (c : Str) : Hv.Fb := fun K => decide (PySem.W.subIn K (.type "NoneType") (.ref (He.ga K c)) = some false) && (decide (PySem.W.subIn K (.type "int") (.ref (He.ga K c)) = some false) && (decide (PySem.W.subIn K (.type "bool") (.ref (He.ga K c)) = some false) && (decide (PySem.W.subIn K (.type "str") (.ref (He.ga K c)) = some false) && (decide (PySem.W.subIn K (.type "list") (.ref (He.ga K c)) = some false) && decide (PySem.W.subIn K (.type "tuple") (.ref (He.ga K c)) = some false)))))
end Ev
namespace L
open PySem L2 Hv
abbrev s_is_integer : Stmt := top 21
abbrev s_is_name : Stmt := top 22
abbrev s_common_divisor : Stmt := top 23
abbrev s_number_of : Stmt := top 24
abbrev s_fraction_of : Stmt := top 27
abbrev s_is_bound : Stmt := top 28
abbrev s_is_needs : Stmt := top 30
abbrev s_is_closing : Stmt := top 31
abbrev s_sort_of : Stmt := top 32
abbrev s_Kind_name : Stmt := inClass (top 33) 1
abbrev s_Kind_talks : Stmt := inClass (top 33) 2
abbrev s_Kind_needs : Stmt := inClass (top 33) 3
abbrev s_Kind_closing : Stmt := inClass (top 33) 4
abbrev s_Kind_ends : Stmt := inClass (top 33) 5
abbrev s_Row_outer : Stmt := inClass (top 34) 1
abbrev s_Row_inner : Stmt := inClass (top 34) 2
abbrev s_Row_amount : Stmt := inClass (top 34) 3
abbrev s_line_of_kind : Stmt := top 35
abbrev s_line_of_row : Stmt := top 36
abbrev s_after_number : Stmt := top 37
abbrev s_after_bound : Stmt := top 38
abbrev s_Rules_kinds : Stmt := inClass (top 43) 2
abbrev s_Rules_rows : Stmt := inClass (top 43) 3
abbrev s_check_kinds : Stmt := top 41
abbrev s_check_rows : Stmt := top 42
abbrev s_Kind_init : Stmt := inClass (top 33) 0
abbrev s_Row_init : Stmt := inClass (top 34) 0
abbrev s_Rules_init : Stmt := inClass (top 43) 0
abbrev s_read_kind : Stmt := top 39
abbrev s_read_row : Stmt := top 40
abbrev s_Rules_read : Stmt := inClass (top 43) 1
abbrev s_take : Stmt := top 47
abbrev s_common : Stmt := top 48
abbrev s_bounds : Stmt := top 49
abbrev s_tag : Stmt := top 50
abbrev s_tags : Stmt := top 51
abbrev s_kind : Stmt := top 52
abbrev s_amounts : Stmt := top 53
abbrev s_links : Stmt := top 54
abbrev s_book : Stmt := top 55
abbrev s_kind_line : Stmt := top 56
abbrev s_lines : Stmt := top 57
abbrev s_rules : Stmt := top 58
abbrev s_seen : Stmt := top 59
abbrev s_other : Stmt := top 60
abbrev s_Rules_eq : Stmt := inClass (top 43) 8
abbrev s_Rules_str : Stmt := inClass (top 43) 10
abbrev s_back : Stmt := top 61
abbrev s_right : Stmt := top 62
abbrev s_longest_right : Stmt := top 63
end L
namespace L
open PySem L2 Hv Ev
/-! ### the head -/
abbrev R : PySem.W.OpenRow := PySem.W.OpenLaw.row PySem.Challenge.rw_heldvotes_k09_whole_texts_read_back
def fb_0 : Hv.Fb := fun K => Ev.clsB "Kind" K
def fb_1 : Hv.Fb := fun K => Ev.clsB "Row" K
def fb_2 : Hv.Fb := fun K => Ev.clsB "Rules" K
def fb_3 : Hv.Fb := fun K => decide (PySem.W.nsIn K mainGlobals "ValueError" = some none)
def fb_4 : Hv.Fb := fun K => decide (PySem.W.nsIn K mainGlobals "abs" = some none)
def fb_5 : Hv.Fb := fun K => decide (PySem.W.nsIn K mainGlobals "all" = some none)
def fb_6 : Hv.Fb := fun K => decide (PySem.W.nsIn K mainGlobals "any" = some none)
def fb_7 : Hv.Fb := fun K => decide (PySem.W.nsIn K mainGlobals "bool" = some none)
def fb_8 : Hv.Fb := fun K => decide (PySem.W.nsIn K mainGlobals "classmethod" = some none)
def fb_9 : Hv.Fb := fun K => decide (PySem.W.nsIn K mainGlobals "divmod" = some none)
def fb_10 : Hv.Fb := fun K => decide (PySem.W.nsIn K mainGlobals "enumerate" = some none)
def fb_11 : Hv.Fb := fun K => decide (PySem.W.nsIn K mainGlobals "int" = some none)
def fb_12 : Hv.Fb := fun K => decide (PySem.W.nsIn K mainGlobals "isinstance" = some none)
def fb_13 : Hv.Fb := fun K => decide (PySem.W.nsIn K mainGlobals "len" = some none)
def fb_14 : Hv.Fb := fun K => decide (PySem.W.nsIn K mainGlobals "list" = some none)
def fb_15 : Hv.Fb := fun K => decide (PySem.W.nsIn K mainGlobals "max" = some none)
def fb_16 : Hv.Fb := fun K => decide (PySem.W.nsIn K mainGlobals "min" = some none)
def fb_17 : Hv.Fb := fun K => decide (PySem.W.nsIn K mainGlobals "property" = some none)
def fb_18 : Hv.Fb := fun K => decide (PySem.W.nsIn K mainGlobals "range" = some none)
def fb_19 : Hv.Fb := fun K => decide (PySem.W.nsIn K mainGlobals "repr" = some none)
def fb_20 : Hv.Fb := fun K => decide (PySem.W.nsIn K mainGlobals "str" = some none)
def fb_21 : Hv.Fb := fun K => decide (PySem.W.nsIn K mainGlobals "tuple" = some none)
def fb_22 : Hv.Fb := fun K => Hv.intB "MOST_KINDS" (6) K
def fb_23 : Hv.Fb := fun K => Hv.intB "MOST_TALKS" (3) K
def fb_24 : Hv.Fb := fun K => Hv.intB "MOST_TIMES" (3) K
def fb_25 : Hv.Fb := fun K => Hv.intB "MOST_AFTER" (3) K
def fb_26 : Hv.Fb := fun K => Hv.intB "MOST_NEEDS" (9) K
def fb_27 : Hv.Fb := fun K => Hv.intB "MOST_PART" (12) K
def fb_28 : Hv.Fb := fun K => Hv.strB "DIGITS" "0123456789" K
def fb_29 : Hv.Fb := fun K => Hv.strB "LETTERS" "abcdefghijklmnopqrstuvwxyz" K
def fb_30 : Hv.Fb := fun K => Hv.strB "MARK" "over " K
def fb_31 : Hv.Fb := fun K => Ev.isB "Kind" K
def fb_32 : Hv.Fb := fun K => Ev.naB "Kind" "parts" K
def fb_33 : Hv.Fb := fun K => Ev.isB "Row" K
def fb_34 : Hv.Fb := fun K => Ev.naB "Row" "parts" K
def fb_35 : Hv.Fb := fun K => Ev.isB "Rules" K
def fb_36 : Hv.Fb := fun K => Ev.naB "Rules" "made" K
def fb_37 : Hv.Fb := fun K => Ev.naB "Rules" "lines" K
def fb_38 : Hv.Fb := fun K => Ev.naB "Rules" "text" K
def fb_39 : Hv.Fb := fun K => Ev.eqfB1 "Rules" K
def fb_40 : Hv.Fb := fun K => Ev.eqfB2 "Rules" K
def fb_41 : Hv.Fb := fun K => Ev.eqfB3 "Rules" K
def fb_42 : Hv.Fb := fun K => decide (PySem.W.nsIn K mainGlobals "is_integer" = some (some (.ref (He.ga K "is_integer"))))
def fb_43 : Hv.Fb := fun K => decide (PySem.W.nsIn K mainGlobals "is_name" = some (some (.ref (He.ga K "is_name"))))
def fb_44 : Hv.Fb := fun K => decide (PySem.W.nsIn K mainGlobals "common_divisor" = some (some (.ref (He.ga K "common_divisor"))))
def fb_45 : Hv.Fb := fun K => decide (PySem.W.nsIn K mainGlobals "number_of" = some (some (.ref (He.ga K "number_of"))))
def fb_46 : Hv.Fb := fun K => decide (PySem.W.nsIn K mainGlobals "fraction_of" = some (some (.ref (He.ga K "fraction_of"))))
def fb_47 : Hv.Fb := fun K => decide (PySem.W.nsIn K mainGlobals "is_bound" = some (some (.ref (He.ga K "is_bound"))))
def fb_48 : Hv.Fb := fun K => decide (PySem.W.nsIn K mainGlobals "is_needs" = some (some (.ref (He.ga K "is_needs"))))
def fb_49 : Hv.Fb := fun K => decide (PySem.W.nsIn K mainGlobals "is_closing" = some (some (.ref (He.ga K "is_closing"))))
def fb_50 : Hv.Fb := fun K => decide (PySem.W.nsIn K mainGlobals "sort_of" = some (some (.ref (He.ga K "sort_of"))))
def fb_51 : Hv.Fb := fun K => Hv.propB "Kind" "name" K
def fb_52 : Hv.Fb := fun K => Hv.propB "Kind" "talks" K
def fb_53 : Hv.Fb := fun K => Hv.propB "Kind" "needs" K
def fb_54 : Hv.Fb := fun K => Hv.propB "Kind" "closing" K
def fb_55 : Hv.Fb := fun K => Hv.propB "Kind" "ends" K
def fb_56 : Hv.Fb := fun K => Hv.propB "Row" "outer" K
def fb_57 : Hv.Fb := fun K => Hv.propB "Row" "inner" K
def fb_58 : Hv.Fb := fun K => Hv.propB "Row" "amount" K
def fb_59 : Hv.Fb := fun K => decide (PySem.W.nsIn K mainGlobals "line_of_kind" = some (some (.ref (He.ga K "line_of_kind"))))
def fb_60 : Hv.Fb := fun K => decide (PySem.W.nsIn K mainGlobals "line_of_row" = some (some (.ref (He.ga K "line_of_row"))))
def fb_61 : Hv.Fb := fun K => decide (PySem.W.nsIn K mainGlobals "after_number" = some (some (.ref (He.ga K "after_number"))))
def fb_62 : Hv.Fb := fun K => decide (PySem.W.nsIn K mainGlobals "after_bound" = some (some (.ref (He.ga K "after_bound"))))
def fb_63 : Hv.Fb := fun K => Hv.propB "Rules" "kinds" K
def fb_64 : Hv.Fb := fun K => Hv.propB "Rules" "rows" K
def fb_65 : Hv.Fb := fun K => decide (PySem.W.nsIn K mainGlobals "check_kinds" = some (some (.ref (He.ga K "check_kinds"))))
def fb_66 : Hv.Fb := fun K => decide (PySem.W.nsIn K mainGlobals "check_rows" = some (some (.ref (He.ga K "check_rows"))))
def fb_67 : Hv.Fb := fun K => Hv.methB "Kind" "__init__" K
def fb_68 : Hv.Fb := fun K => kindKwB K
def fb_69 : Hv.Fb := fun K => Hv.methB "Row" "__init__" K
def fb_70 : Hv.Fb := fun K => Hv.methB "Rules" "__init__" K
def fb_71 : Hv.Fb := fun K => Ev.ktB "Rules" K
def fb_72 : Hv.Fb := fun K => decide (PySem.W.nsIn K mainGlobals "read_kind" = some (some (.ref (He.ga K "read_kind"))))
def fb_73 : Hv.Fb := fun K => decide (PySem.W.nsIn K mainGlobals "read_row" = some (some (.ref (He.ga K "read_row"))))
def fb_74 : Hv.Fb := fun K => Ev.cmB "Rules" "read" K
def fb_75 : Hv.Fb := fun K => Ev.cmB2 "Rules" K
def fb_76 : Hv.Fb := fun K => decide (PySem.W.nsIn K mainGlobals "_law_take" = some (some (.ref (He.ga K "_law_take"))))
def fb_77 : Hv.Fb := fun K => decide (PySem.W.nsIn K mainGlobals "_law_common" = some (some (.ref (He.ga K "_law_common"))))
def fb_78 : Hv.Fb := fun K => decide (PySem.W.nsIn K mainGlobals "_law_bounds" = some (some (.ref (He.ga K "_law_bounds"))))
def fb_79 : Hv.Fb := fun K => decide (PySem.W.nsIn K mainGlobals "_law_tag" = some (some (.ref (He.ga K "_law_tag"))))
def fb_80 : Hv.Fb := fun K => decide (PySem.W.nsIn K mainGlobals "_law_tags" = some (some (.ref (He.ga K "_law_tags"))))
def fb_81 : Hv.Fb := fun K => decide (PySem.W.nsIn K mainGlobals "_law_kind" = some (some (.ref (He.ga K "_law_kind"))))
def fb_82 : Hv.Fb := fun K => decide (PySem.W.nsIn K mainGlobals "_law_amounts" = some (some (.ref (He.ga K "_law_amounts"))))
def fb_83 : Hv.Fb := fun K => decide (PySem.W.nsIn K mainGlobals "_law_links" = some (some (.ref (He.ga K "_law_links"))))
def fb_84 : Hv.Fb := fun K => decide (PySem.W.nsIn K mainGlobals "_law_book" = some (some (.ref (He.ga K "_law_book"))))
def fb_85 : Hv.Fb := fun K => decide (PySem.W.nsIn K mainGlobals "_law_kind_line" = some (some (.ref (He.ga K "_law_kind_line"))))
def fb_86 : Hv.Fb := fun K => decide (PySem.W.nsIn K mainGlobals "_law_lines" = some (some (.ref (He.ga K "_law_lines"))))
def fb_87 : Hv.Fb := fun K => decide (PySem.W.nsIn K mainGlobals "_law_rules" = some (some (.ref (He.ga K "_law_rules"))))
def fb_88 : Hv.Fb := fun K => decide (PySem.W.nsIn K mainGlobals "_law_seen" = some (some (.ref (He.ga K "_law_seen"))))
def fb_89 : Hv.Fb := fun K => decide (PySem.W.nsIn K mainGlobals "_law_other" = some (some (.ref (He.ga K "_law_other"))))
def fb_90 : Hv.Fb := fun K => Hv.methB "Rules" "__eq__" K
def fb_91 : Hv.Fb := fun K => Hv.methB "Rules" "__str__" K
def fb_92 : Hv.Fb := fun K => decide (PySem.W.nsIn K mainGlobals "_law_back" = some (some (.ref (He.ga K "_law_back"))))
def fb_93 : Hv.Fb := fun K => decide (PySem.W.nsIn K mainGlobals "_law_right" = some (some (.ref (He.ga K "_law_right"))))
def fb_94 : Hv.Fb := fun K => decide (PySem.W.nsIn K mainGlobals "_law_longest_right" = some (some (.ref (He.ga K "_law_longest_right"))))
def fb_95 : Hv.Fb := fun K => decide (PySem.W.nsIn K mainGlobals "_law_seed" = some (some (.ref (He.ga K "_law_seed"))))
def fb_96 : Hv.Fb := fun K => decide (PySem.W.nsIn K mainGlobals "_law_bag" = some (some (.ref (He.ga K "_law_bag"))))
def fb_97 : Hv.Fb := fun K => decide (PySem.W.nsIn K mainGlobals "law" = some (some (.ref (He.ga K "law"))))
def fbs_0 : List Hv.Fb := [fb_0, fb_1, fb_2, fb_3, fb_4, fb_5, fb_6, fb_7, fb_8, fb_9, fb_10, fb_11, fb_12, fb_13, fb_14, fb_15, fb_16, fb_17, fb_18, fb_19, fb_20, fb_21, fb_22, fb_23, fb_24, fb_25, fb_26, fb_27, fb_28, fb_29]
def fbs_1 : List Hv.Fb := [fb_30, fb_31, fb_32, fb_33, fb_34, fb_35, fb_36, fb_37, fb_38, fb_39, fb_40, fb_41, fb_42, fb_43, fb_44, fb_45, fb_46, fb_47, fb_48, fb_49, fb_50, fb_51, fb_52, fb_53, fb_54, fb_55, fb_56, fb_57, fb_58, fb_59]
def fbs_2 : List Hv.Fb := [fb_60, fb_61, fb_62, fb_63, fb_64, fb_65, fb_66, fb_67, fb_68, fb_69, fb_70, fb_71, fb_72, fb_73, fb_74, fb_75, fb_76, fb_77, fb_78, fb_79, fb_80, fb_81, fb_82, fb_83, fb_84, fb_85, fb_86, fb_87, fb_88, fb_89]
def fbs_3 : List Hv.Fb := [fb_90, fb_91, fb_92, fb_93, fb_94, fb_95, fb_96, fb_97]
def fbs : List Hv.Fb := fbs_0 ++ (fbs_1 ++ (fbs_2 ++ (fbs_3)))
def fns_0 : List Hv.DefQ := [Hv.defG "is_integer" s_is_integer, Hv.defG "is_name" s_is_name, Hv.defG "common_divisor" s_common_divisor, Hv.defG "number_of" s_number_of, Hv.defG "fraction_of" s_fraction_of, Hv.defG "is_bound" s_is_bound, Hv.defG "is_needs" s_is_needs, Hv.defG "is_closing" s_is_closing, Hv.defG "sort_of" s_sort_of, Hv.defP "Kind" "name" "Kind.name" s_Kind_name, Hv.defP "Kind" "talks" "Kind.talks" s_Kind_talks, Hv.defP "Kind" "needs" "Kind.needs" s_Kind_needs, Hv.defP "Kind" "closing" "Kind.closing" s_Kind_closing, Hv.defP "Kind" "ends" "Kind.ends" s_Kind_ends, Hv.defP "Row" "outer" "Row.outer" s_Row_outer, Hv.defP "Row" "inner" "Row.inner" s_Row_inner, Hv.defP "Row" "amount" "Row.amount" s_Row_amount, Hv.defG "line_of_kind" s_line_of_kind, Hv.defG "line_of_row" s_line_of_row, Hv.defG "after_number" s_after_number, Hv.defG "after_bound" s_after_bound, Hv.defP "Rules" "kinds" "Rules.kinds" s_Rules_kinds, Hv.defP "Rules" "rows" "Rules.rows" s_Rules_rows, Hv.defG "check_kinds" s_check_kinds, Hv.defG "check_rows" s_check_rows, Hv.defM "Kind" "__init__" "Kind.__init__" s_Kind_init, Hv.defM "Row" "__init__" "Row.__init__" s_Row_init, Ev.defR "Rules" "Rules.__init__" s_Rules_init, Hv.defG "read_kind" s_read_kind, Hv.defG "read_row" s_read_row]
def fns_1 : List Hv.DefQ := [Ev.defCM "Rules" "read" "Rules.read" s_Rules_read, Hv.defG "_law_take" s_take, Hv.defG "_law_common" s_common, Hv.defG "_law_bounds" s_bounds, Hv.defG "_law_tag" s_tag, Hv.defG "_law_tags" s_tags, Hv.defG "_law_kind" s_kind, Hv.defG "_law_amounts" s_amounts, Hv.defG "_law_links" s_links, Hv.defG "_law_book" s_book, Hv.defG "_law_kind_line" s_kind_line, Hv.defG "_law_lines" s_lines, Hv.defG "_law_rules" s_rules, Hv.defG "_law_seen" s_seen, Hv.defG "_law_other" s_other, Hv.defM "Rules" "__eq__" "Rules.__eq__" s_Rules_eq, Hv.defM "Rules" "__str__" "Rules.__str__" s_Rules_str, Hv.defG "_law_back" s_back, Hv.defG "_law_right" s_right, Hv.defG "_law_longest_right" s_longest_right, Hv.defG "_law_seed" (top 45), Hv.defG "_law_bag" (top 46), Hv.defG "law" (top 64)]
def fns : List Hv.DefQ := fns_0 ++ (fns_1)
def hfs_0 : List Str := ["is_integer", "is_name", "common_divisor", "number_of", "fraction_of", "is_bound", "is_needs", "is_closing", "sort_of", "line_of_kind", "line_of_row", "after_number", "after_bound", "check_kinds", "check_rows", "read_kind", "read_row", "_law_take", "_law_common", "_law_bounds", "_law_tag", "_law_tags", "_law_kind", "_law_amounts", "_law_links", "_law_book", "_law_kind_line", "_law_lines", "_law_rules", "_law_seen"]
def hfs_1 : List Str := ["_law_other", "_law_back", "_law_right", "_law_longest_right", "_law_seed", "_law_bag", "law"]
def hfs : List Str := hfs_0 ++ (hfs_1)
def hcs_0 : List Str := ["Kind", "Row", "Rules"]
def hcs : List Str := hcs_0
def hds : List Str := []
def htf : List Str := []
def loose_0 : List Str := ["_wall", "__name__", "WrongValue", "InvalidName", "InvalidNumber", "InvalidNeeds", "InvalidClosing", "InvalidEnds", "InvalidAmount", "InvalidText", "InvalidKinds", "InvalidRows", "MOST_KINDS", "MOST_TALKS", "MOST_TIMES", "MOST_AFTER", "MOST_NEEDS", "MOST_PART", "DIGITS", "LETTERS", "is_integer", "is_name", "common_divisor", "number_of", "MARK", "fraction_of", "is_bound", "is_needs", "is_closing", "sort_of"]
def loose_1 : List Str := ["Kind", "Row", "line_of_kind", "line_of_row", "after_number", "after_bound", "read_kind", "read_row", "check_kinds", "check_rows", "Rules", "_law_seed", "_law_bag", "_law_take", "_law_common", "_law_bounds", "_law_tag", "_law_tags", "_law_kind", "_law_amounts", "_law_links", "_law_book", "_law_kind_line", "_law_lines", "_law_rules", "_law_seen", "_law_other", "_law_back", "_law_right", "_law_longest_right"]
def loose : List Str := loose_0 ++ (loose_1)
abbrev hk : PySem.W.Hook := Hv.hookO hfs hcs hds fbs fns htf
def ob (s : PySem.W.SharedT) : Hv.Ob := Hv.obT hfs hcs hds fbs fns htf s
theorem ob_eq (s : PySem.W.SharedT) : ob s = hk.obs s.abs := Hv.obT_eq s
theorem run_1 (w : World) (os : OsState) : (Hv.EF R 60000 w os).map (fun s => HandSHeadRun.looksF R.prog (PySem.W.boot_heap w.params) s.abs) = some true := by
  kernel_rfl
theorem run_2 (w : World) (os : OsState) : (Hv.EF R 60000 w os).map (fun s => HandSHeadRun.seenQ (PySem.W.view R.prog [64]) loose (PySem.importedModules R.prog.main.body) (fun s => PySem.W.xlAt (PySem.W.view R.prog [64]) [] s && PySem.W.recOk R.toRowW.records s) s.abs) = some (PySem.W.openGood (PySem.W.view R.prog [64]) loose) := by
  kernel_rfl
theorem run_3 (w : World) (os : OsState) : (Hv.EF R 60000 w os).map (fun s => Hv.obT hfs hcs hds [] fns htf s) = some (true, fns.map Hv.DefQ.val) := by
  kernel_rfl
theorem run_4 (w : World) (os : OsState) : (Hv.EF R 60000 w os).map (fun s => Hv.obT hfs hcs hds fbs [] [] s) = some (true, []) := by
  kernel_rfl
theorem run (w : World) : HandSHeadRun.RunEq R (PySem.W.view R.prog [64]) hk ob 60000 loose w := fun os => Hv.run_join (run_1 w os) (run_2 w os) (run_3 w os) (run_4 w os)
end L
namespace Hv
open PySem PySem.Spec PyProof.Rows L2
/-- == of a list with [], of a tuple with (), whatever is in it -/
def rEqE (K : PySem.W.Frag) : V → V → Hp → VK → Prop := fun x y H Q => ∃ (p q : Addr) (xs : List V), x = .ref p ∧ y = .ref q ∧ ((SqL K H p xs ∧ SqL K H q []) ∨ (SqT K H p xs ∧ SqT K H q [])) ∧ Q (.bl xs.isEmpty) H
theorem op_eqE {X : Cx} (hu : X.A.units + 64 < cLine) : OpR X (compareOp .Eq) (rEqE X.K) := by
  intro pins s σ H x y v u Q I rx ry h
  obtain ⟨p, q, xs, rfl, rfl, hs, k⟩ := h
  cases rx
  cases ry
  rcases hs with ⟨h1, h2⟩ | ⟨h1, h2⟩
  · obtain ⟨its, rv, ⟨o, n, ho, hc, hdn, hd⟩, _⟩ := I.list h1
    obtain ⟨jts, rw_, ⟨o2, n2, ho2, hc2, hdn2, hd2⟩, _⟩ := I.list h2
    cases rw_
    cases its with
    | nil =>
      cases rv
      refine SeqAt.eq_listAt (items := #[]) (items2 := #[]) (e := fun _ => true) ⟨o, ho, hc, n, hd⟩ ⟨o2, ho2, hc2, n2, hd2⟩ rfl (by omega) (fun j h1 h2 => absurd h1 (by simp)) ?_
      exact ⟨.bl true, H, I, rfl, k⟩
    | cons a t =>
      cases rv
      refine SeqAt.eq_list_lengthsAt (items := (a :: t).toArray) (items2 := #[]) ⟨o, ho, hc, n, hd⟩ ⟨o2, ho2, hc2, n2, hd2⟩ (by simp) (by omega) ?_
      exact ⟨.bl false, H, I, rfl, k⟩
  · obtain ⟨its, rv, ⟨o, ho, hc, n, hd⟩, _⟩ := I.tuple h1
    obtain ⟨jts, rw_, ⟨o2, ho2, hc2, n2, hd2⟩, _⟩ := I.tuple h2
    cases rw_
    refine SeqAt.eq_tupleAt (items := its.toArray) (items2 := #[]) (e := fun _ => true) ⟨o, ho, hc, n, hd⟩ ⟨o2, ho2, hc2, n2, hd2⟩ (by omega) (fun j h1 h2 => absurd h2 (by simp)) ?_
    refine ⟨.bl xs.isEmpty, H, I, ?_, k⟩
    cases rv with
    | nil => rfl
    | cons a t => simp [L2.RelV]
end Hv
namespace Hv
open PySem L2
/-- a promise that is not looked into -/
@[irreducible] def lk (sp : Sp) : Sp := sp
end Hv
namespace Hv
open PySem L2
theorem nT {p : Prop} [Decidable p] (h : (!decide p) = true) : ¬ p := fun q => by
  rw [decide_eq_true q] at h
  cases h
theorem nF {p : Prop} [Decidable p] (h : ¬ (!decide p) = true) : p := by
  by_cases q : p
  · exact q
  · exact absurd (by rw [decide_eq_false q]; rfl) h
structure DefAt (K : PySem.W.Frag) (mg : Str → Option Value) (x : Str) (st : Stmt) (ps : List Str) (f : Addr) (fd : FuncData) : Prop where
  fn : Fun K x x st f fd
  mg : mg x = some (.ref f)
  bd : Binds K fd ps []
/-- what the top has left of a def -/
def DefIn (K : PySem.W.Frag) (x : Str) (st : Stmt) : Prop :=
  ∃ (f : Addr) (oc : Value) (od : Option Addr) (kV doc pm : Value) (an : Option Addr) (cd ct : Value) (sl : Array (Option Value)),
    PySem.W.nsIn K mainGlobals x = some (some (.ref f)) ∧
    K.lookup f = some ⟨oc, od, .func (PySem.W.fnOf x x (defArgs st) (defBody st) (defScope st) .none kV doc pm an cd ct), sl⟩ ∧
    PySem.W.codeIn K cd x = true ∧ PySem.W.keepIn K (.ref f) = true
theorem DefIn.at {K : PySem.W.Frag} {mg : Str → Option Value} {h : Heap} {x : Str} {st : Stmt} {ps : List Str} (d : DefIn K x st) (X : K.In h) (G : h.Ns mainGlobals mg)
    (hb : ∀ (kV doc pm : Value) (an : Option Addr) (cdv ct : Value) (us : List Value), us.length = ps.length →
      bindArgs (PySem.W.fnOf x x (defArgs st) (defBody st) (defScope st) .none kV doc pm an cdv ct) ⟨us, []⟩ = pure (ps.zip us)) :
    ∃ f fd, DefAt K mg x st ps f fd := by
  obtain ⟨f, oc, od, kV, doc, pm, an, cd, ct, sl, a, l, c, k⟩ := d
  have F := fun_mk (st := st) l c k
  exact ⟨f, _, F, PySem.W.mg_of X G a, F.binds hb⟩
/-- the draws' bag: three ints, the second one from 0 on and not beyond the script's bits, the third at most k -/
def Bag (H : Hp) (b : Addr) (k : Nat) : Prop :=
  ∃ s d n : Int, H b = some (.lst [.int s, .int d, .int n]) ∧ 0 ≤ d ∧ Builtin.Int.intBits d ≤ 1048576 ∧ 0 ≤ n ∧ n ≤ k
theorem Bag.mono {H : Hp} {b : Addr} {j k : Nat} (h : Bag H b j) (le : j ≤ k) : Bag H b k := by
  obtain ⟨s, d, n, h1, h2, h3, h4, h5⟩ := h
  exact ⟨s, d, n, h1, h2, h3, h4, by omega⟩
theorem Bag.same {H H' : Hp} {b : Addr} {k : Nat} (h : Bag H b k) (e : Same H H') : Bag H' b k := by
  obtain ⟨s, d, n, h1, h2⟩ := h
  exact ⟨s, d, n, e _ _ h1, h2⟩
/-- all that is tracked but b stays -/
def But (b : Addr) (H H' : Hp) : Prop := ∀ a o, a ≠ b → H a = some o → H' a = some o
theorem But.refl {b : Addr} {H : Hp} : But b H H := fun _ _ _ h => h
theorem But.trans {b : Addr} {H H1 H2 : Hp} (x : But b H H1) (y : But b H1 H2) : But b H H2 := fun a o n h => y a o n (x a o n h)
theorem But.new {b p : Addr} {H H1 : Hp} {o : HO} (x : But b H H1) (hp : H1 p = none) : But b H (upd H1 p o) := fun a u n h => by
  have q := x a u n h
  rw [upd_ne (ne_of_none q hp)]; exact q
theorem But.of {b : Addr} {H H' : Hp} (e : Same H H') : But b H H' := fun a o _ h => e a o h
theorem But.seq {b a : Addr} {K : PySem.W.Frag} {H H' : Hp} {xs : List V} (e : But b H H') (n : a ≠ b) (h : SqL K H a xs) : SqL K H' a xs := by
  rcases h with (h | ⟨o, h⟩) | h
  · exact .inl (.inl (e _ _ n h))
  · exact .inl (.inr ⟨o, e _ _ n h⟩)
  · exact .inr h
theorem same_new {H : Hp} {p : Addr} {o : HO} (hp : H p = none) : Same H (upd H p o) := fun a u e => by
  rw [upd_ne (ne_of_none e hp)]; exact e
theorem But.free {b p : Addr} {H H' : Hp} (e : But b H H') (n : p ≠ b) (h : H' p = none) : H p = none := by
  cases q : H p with
  | none => rfl
  | some o =>
    rw [e p o n q] at h
    cases h
/-- changes at places that H did not know -/
theorem same_but {H H1 H2 : Hp} {b : Addr} (s : Same H H1) (hb : H b = none) (e : But b H1 H2) : Same H H2 := fun a o h =>
  e a o (ne_of_none h hb) (s a o h)
theorem log2_mono {a b : Nat} (h : a ≤ b) : a.log2 ≤ b.log2 := by
  by_cases h0 : a = 0
  · subst h0
    rw [Nat.log2_zero]
    exact Nat.zero_le _
  · have h1 := Nat.log2_self_le h0
    exact (Nat.le_log2 (by omega)).mpr (Nat.le_trans h1 h)
theorem bits_mono {a b : Int} (h : a.natAbs ≤ b.natAbs) : Builtin.Int.intBits a ≤ Builtin.Int.intBits b := by
  unfold Builtin.Int.intBits
  have := log2_mono h
  by_cases h0 : a = 0
  · rw [if_pos (by rw [h0]; rfl)]
    exact Nat.zero_le _
  · by_cases h1 : b = 0
    · subst h1
      simp at h
      exact absurd h h0
    · rw [if_neg (by simpa using h0), if_neg (by simpa using h1)]
      omega
theorem bits_div {d m : Int} (h0 : 0 ≤ d) (hm : 0 < m) (h : Builtin.Int.intBits d ≤ 1048576) : Builtin.Int.intBits (d / m) ≤ 1048576 := by
  refine Nat.le_trans (bits_mono ?_) h
  have h1 : 0 ≤ d / m := Int.ediv_nonneg h0 (by omega)
  have h2 : d / m ≤ d := Int.ediv_le_self _ h0
  omega
theorem bits_small {n : Int} (h : n.natAbs < 2 ^ 1000) : Builtin.Int.intBits n ≤ 1048576 := by
  unfold Builtin.Int.intBits
  split
  · decide
  · by_cases h0 : n.natAbs = 0
    · rw [h0]
      decide
    · have := (Nat.log2_lt h0).mpr h
      omega
theorem pylong_no {d m : Int} (h : m.natAbs < 2 ^ 1000) : Builtin.divisionGoesByPylong d m = false := by
  unfold Builtin.divisionGoesByPylong
  rw [Bool.and_eq_false_iff]
  left
  rw [decide_eq_false_iff_not]
  dsimp only
  split
  · decide
  · rename_i hz
    have h0 : m.natAbs ≠ 0 := by
      intro q
      apply hz
      rw [beq_iff_eq]
      omega
    have := (Nat.log2_lt h0).mpr h
    omega
/-- a number of the script, or one mixed of its first ones -/
def sp_seed (K : PySem.W.Frag) : Sp := fun vs H Q _ => ∃ (a : Addr) (ns : List Int) (k : Int), vs = [.ref a, .int k] ∧ SqL K H a (ns.map V.int) ∧
  (∀ z ∈ ns, Builtin.Int.intBits z ≤ 1048576) ∧ 0 ≤ k ∧ k < 1000 ∧ ∀ (n : Int) (H' : Hp), Same H H' → Builtin.Int.intBits n ≤ 1048576 → Q (.int n) H'
end Hv
namespace Hv
open PySem PySem.Spec PyProof.Rows L2
set_option maxRecDepth 100000
/-! enumerate(tuple) -/
theorem draws_tuple {prog : Program} {w : World} {A : Around} {it t : Addr} {items : Array Value} (hh : A.handled = none) (ne : it ≠ t) :
    Draws prog w A it [it, t] items.size (fun i x => items[i]? = some x) (fun i h => h.IsTupleIter it t i ∧ h.IsTuple t items) where
  live := fun i h st => let ⟨o, ho, _⟩ := st.1; ⟨o, ho⟩
  frame := fun i h h' st k => ⟨st.1.at fun o q => k it (by simp) o q, st.2.at fun o q => k t (by simp) o q⟩
  item := fun i s Q E hi st hQ => by
    refine RZ.nextOf_tuple_item st.1 st.2 (x := items[i]) (by simp [hi]) fun h' hit' hs' => ?_
    exact hQ _ h' s.toks (by simp [hi]) ⟨hit', st.2.at fun o q => (hs'.2 t ne.symm).trans q⟩ hs'
  done := fun s Q E st hE => RZ.nextOf_tuple_end hh st.1 st.2 (by simp) hE
open AutoSeq1 (wpAny_loadPart') in
theorem meets_enumerate_newT (l : Addr) (items : Array Value) (n : Nat) (dct : Option Addr) (sl : Array (Option Value)) :
    Meets (Builtin.«enumerate.__new__» ⟨[.type "enumerate", .ref l], []⟩) (fun _ R s => s.heap.get? l = some { cls := .type "tuple", dict := dct, data := .seq items n, slots := sl } ∧
      R (.ok (.ret (.ref (s.heap.push { cls := .type "tuple_iterator", data := .fields #[.ref l, .int 0 0] }).objs.size)))
        { s with heap := (s.heap.push { cls := .type "tuple_iterator", data := .fields #[.ref l, .int 0 0] }).push { cls := .type "enumerate", data := .fields #[.none, .bool false, .ref s.heap.objs.size, rawInt 0, .none, .none] } }) :=
  .of_wp fun prog w A R s h => by
    obtain ⟨hp, g, d, tk, os⟩ := s; obtain ⟨hl, h⟩ := h
    have hsub := sub_enumerate
    have hL : Heap.IsTuple (Shared.heap ⟨hp, g, d, tk, os⟩) l items := ⟨_, hl, rfl, n, rfl⟩
    wp_walk using wpAny_loadPart' hl
    refine wpAny_stack_any fun st => wpAny_pure ?_
    split
    · rename_i c _ _ _ _ _
      cases (c == Value.type "enumerate")
      · wp_walk using wpAny_loadPart' hl, wpAny_pyIter_tuple hL
        exact ⟨_, rfl, h⟩
      · wp_walk using wpAny_loadPart' hl, wpAny_pyIter_tuple hL
        exact ⟨_, rfl, h⟩
    · wp_walk using wpAny_loadPart' hl, wpAny_pyIter_tuple hL
      exact ⟨_, rfl, h⟩
theorem call_enumerate_tup {prog : Program} {w : World} {A : Around} {E : Value → Shared → Prop} {s : Shared} {l : Addr} {items : Array Value} {Q : Value → Shared → Prop} (hL : s.heap.IsTuple l items)
    (h : ∀ h', IsEnum h' (s.heap.objs.size + 1) s.heap.objs.size 0 .none → h'.IsTupleIter s.heap.objs.size l 0 → h'.objs.size = s.heap.objs.size + 2 →
      (∀ b o, s.heap.get? b = some o → h'.get? b = some o) → Q (.ref (s.heap.objs.size + 1)) { s with heap := h' }) :
    wpAny (model prog w) A (call (.type "enumerate") [.ref l]) Q E s := by
  obtain ⟨⟨c, dct, dt, sl⟩, hl, hc, n, hd⟩ := hL
  replace hc : c = .type "tuple" := hc
  replace hd : dt = .seq items n := hd
  subst hc hd
  refine callType_new F.called_enumerate (by decide) (F.typeCall_enumerate_1 _) (F.newCall_enumerate_1 _) (fun obj => F.args_object_init_2 obj _) F.entry_enumerate_new
    (meets_enumerate_newT l items n dct sl) ⟨hl, ?_⟩
  have hz : (s.heap.push { cls := .type "tuple_iterator", data := .fields #[.ref l, .int 0 0] }).objs.size = s.heap.objs.size + 1 := Heap.size_push ..
  show _ ∧ _
  rw [hz]
  have he : IsEnum ((s.heap.push { cls := .type "tuple_iterator", data := .fields #[.ref l, .int 0 0] }).push
      { cls := .type "enumerate", data := .fields #[.none, .bool false, .ref s.heap.objs.size, rawInt 0, .none, .none] }) (s.heap.objs.size + 1) s.heap.objs.size 0 .none := by
    have := Heap.get?_push_size (s.heap.push { cls := .type "tuple_iterator", data := .fields #[.ref l, .int 0 0] })
      (o := { cls := .type "enumerate", data := .fields #[.none, .bool false, .ref s.heap.objs.size, rawInt 0, .none, .none] }) rfl
    rw [hz] at this; exact this
  refine ⟨⟨_, he, rfl⟩, h _ he ⟨_, Heap.get?_push_of_some _ (Heap.get?_push_size _ rfl), rfl, rfl⟩ (by rw [Heap.size_push, hz]) fun b o x => Heap.get?_push_of_some _ (Heap.get?_push_of_some _ x)⟩
/-- the tuple at a, each item in a new pair -/
def IteT (K : PySem.W.Frag) (a : Addr) : It :=
  ⟨fun i H => ∃ (xs : List V) (x : V), SqT K H a xs ∧ xs[i]? = some x, fun i H v H' => ∃ T x, v = .ref T ∧ H T = none ∧ H' = upd H T (.tup [.int (i : Nat), x]) ∧ ∀ xs, SqT K H a xs → xs[i]? = some x, fun i H => ∃ xs : List V, SqT K H a xs ∧ xs.length = i⟩
theorem walk_enumT {K : PySem.W.Frag} {a : Addr} {xs : List V} : Walk (IteT K a) xs.length (fun H => SqT K H a xs) (YPair (fun i => some (.int (i : Nat))) (fun i => xs[i]?)) := by
  refine ⟨fun i _ hi q => ⟨xs, xs[i], q, by simp [hi]⟩, fun _ q => ⟨xs, q, rfl⟩, fun i H v H' _ q y => ?_⟩
  obtain ⟨T, x, h1, h2, h3, h4⟩ := y
  exact ⟨T, .int (i : Nat), x, h1, h2, h3, rfl, h4 xs q⟩
theorem turn_enumT {P : Program} {w : World} {K : PySem.W.Frag} {elts : List Expr} {kk : Nat} {tpos : Pos} (a e it : Addr) :
    Turn P w K (.Tuple elts kk tpos) (IteT K a) [e, it] e (fun i h => (∃ old, IsEnum h e it ((i : Nat) : Int) old) ∧ h.IsTupleIter it a i ∧ e ≠ it ∧ e ≠ a ∧ it ≠ a) where
  mem := by simp
  obj := fun i h st b hb => by
    obtain ⟨⟨old, he⟩, ⟨o, ho, hc, hd⟩, _⟩ := st
    have e' : b = e ∨ b = it := by simpa using hb
    rcases e' with z | z
    · rw [z]; exact ⟨_, he, fun v q => nomatch q⟩
    · rw [z]; exact ⟨o, ho, fun v q => by rw [hd] at q; cases q⟩
  keep := fun i h h' st k => let ⟨⟨old, he⟩, hi, hne⟩ := st; ⟨⟨old, k e (by simp) _ he⟩, hi.at fun o q => k it (by simp) o q, hne⟩
  item := by
    intro X hP hw hK hc i pins s σ H E I hf st hg
    subst hP hw hK
    obtain ⟨⟨old, he⟩, hit, hne, hea, hia⟩ := st
    obtain ⟨xs, x, hq, hx⟩ := hg
    obtain ⟨its, rv, p, hz⟩ := I.tuple hq
    obtain ⟨u, hu, ru⟩ := rv.get hx
    have hel : e < s.heap.objs.size := Heap.lt_size he
    have hil : it < s.heap.objs.size := by obtain ⟨_, q, _⟩ := hit; exact Heap.lt_size q
    have hlt : i < its.toArray.size := by
      have := (List.getElem?_eq_some_iff.mp hu).1
      simpa using this
    refine wpAny_pyNext_enum_itemD (draws_tuple (items := its.toArray) (I.ok.hd hc) hia) he ⟨hit, p⟩ hlt hne (by simp [hne, hea]) fun u' h' tk hP ho hit' hT hsz hk => ?_
    have eu : u' = u := by
      have q : its.toArray[i]? = some u := by simpa using hu
      rw [q] at hP
      exact (Option.some.inj hP).symm
    subst eu
    refine ⟨_, rfl, wpAny_letOwnedTupleGo_enum (s := { s with heap := h', toks := tk + 1 }) ho fun h'' he' sb => ?_⟩
    have hT2 : h''.get? s.heap.objs.size = some { cls := .type "tuple", data := .seq #[.int i tk, u'] } := (sb.2 _ (Nat.ne_of_gt hel)).trans hT
    have new : ObjOk X.prog X.w (upd H s.heap.objs.size (.tup [.int (i : Nat), x])) h'' s.heap.objs.size (.tup [.int (i : Nat), x]) :=
      ⟨by show 2 ≤ sizeLine; decide, [.int i tk, u'], .cons ⟨_, rfl⟩ (.cons ru .nil), ⟨_, hT2, rfl, _, rfl⟩⟩
    have I1 : Inv X pins σ (upd H s.heap.objs.size (.tup [.int (i : Nat), x])) { s with heap := h'', toks := tk + 1 } :=
      I.turnedNew (ch := [e, it]) (fun b ob hb q => (sb.2 b (fun z => hb (by simp [z]))).trans (hk b ob (fun z => hb (by simp [z])) (fun z => hb (by simp [z])) q)) hf (Nat.le_refl _) new
    refine ⟨.ref s.heap.objs.size, _, I1, rfl, ⟨_, x, rfl, I.hok.fresh (Nat.le_refl _), rfl, fun ys hy => ?_⟩, ⟨⟨u', ?_⟩, hit'.1.at fun o q => (sb.2 it (Ne.symm hne)).trans q, hne, hea, hia⟩, fun b hb => ?_⟩
    · rw [I.tuple_inj hy hq]; exact hx
    · have e1 : ((i + 1 : Nat) : Int) = (i : Int) + 1 := by omega
      rw [e1]; exact he'
    · have hb' : b < s.heap.objs.size := by
        have e' : b = e ∨ b = it := by simpa using hb
        rcases e' with z | z
        · rw [z]; exact hel
        · rw [z]; exact hil
      rw [upd_ne (Nat.ne_of_lt hb')]
      exact (hf b hb).1
  done := by
    intro X hP hw hK hc i pins s σ H E I hf st hg
    subst hP hw hK
    obtain ⟨⟨old, he⟩, hit, hne, hea, hia⟩ := st
    obtain ⟨xs, hq, hx⟩ := hg
    obtain ⟨its, rv, p, hz⟩ := I.tuple hq
    obtain ⟨f0, f1, f2, f3, f4, f5⟩ := hf it (by simp)
    have hl := rv.length
    have hi : i = its.toArray.size := by
      rw [List.size_toArray, ← hl, hx]
    subst hi
    exact wpAny_pyNext_enum_endD (draws_tuple (items := its.toArray) (I.ok.hd hc) hia) he ⟨hit, p⟩ fun h' eb => ⟨rfl, I.turned (t' := s.toks) (fun b o hb q => eb b o hb q) f0 f1 f3 f4 f5⟩
  self := fun A i s Q E st h => let ⟨⟨_, he⟩, _⟩ := st; wpAny_pyIter_enum he h
def iEnumT (K : PySem.W.Frag) (ta : TA) : TI := fun σ H R => ta σ H fun vs H1 => ∃ a xs, vs = [.ref a] ∧ SqT K H1 a xs ∧ R (IteT K a) H1
theorem pi_enumT {X : Cx} {e : Expr} {ta : TA} {p pos tpos : Pos} {elts : List Expr} {kk : Nat} (hg : Gl X "enumerate") (hm : X.mg "enumerate" = none) (ha : PA X [e] ta) (hs : starEach [e] X.env = [(false, eval e X.env)] := by rfl) :
    PI X (.Tuple elts kk tpos) (.Call (.Name "enumerate" p) [e] [] pos) (iEnumT X.K ta) := by
  refine ⟨fun pins s σ H R I h => ?_⟩
  refine Call_ (ld_blt I hg hm boot_enumerate (PyProof.Rows.callWith_type1 (thn (ha.run pos pins s σ H _ I h) fun us s1 ⟨vs, H1, I1, r1, q1⟩ => ?_) hs rfl))
  obtain ⟨a, xs, ex, hq, q⟩ := q1
  subst ex
  cases r1 with
  | cons r rr =>
    cases rr
    cases r
    obtain ⟨its, rv, p', hz⟩ := I1.tuple hq
    have hal : a < s1.heap.objs.size := by obtain ⟨o, ho, _⟩ := id p'; exact Heap.lt_size ho
    refine call_enumerate_tup (items := its.toArray) p' fun h' he hit hsz hk => wpAny_pyIter_enum he ?_
    have I2 : Inv X pins σ H1 { s1 with heap := h' } := I1.kept (t' := s1.toks) hk
    refine ⟨s1.heap.objs.size + 1, [s1.heap.objs.size + 1, s1.heap.objs.size], _, _, H1, rfl, I2, turn_enumT a (s1.heap.objs.size + 1) s1.heap.objs.size, ⟨⟨.none, he⟩, hit, Nat.succ_ne_self _, Nat.ne_of_gt (Nat.lt_succ_of_lt hal), Nat.ne_of_gt hal⟩, fun b hb => ?_, q⟩
    have e' : b = s1.heap.objs.size + 1 ∨ b = s1.heap.objs.size := by simpa using hb
    have hle : s1.heap.objs.size ≤ b := by
      rcases e' with z | z
      · rw [z]; exact Nat.le_add_right _ _
      · rw [z]; exact Nat.le_refl _
    exact I1.fpOk hle (I1.hok.fresh hle)
end Hv
namespace Hv
open PySem L2 SlX
/-- a def of a class as the top has left it -/
def MethIn (K : PySem.W.Frag) (C : Addr) (x qual : Str) (st : Stmt) : Prop :=
  ∃ (f : Addr) (oc : Value) (od : Option Addr) (kV doc pm : Value) (an : Option Addr) (cd ct : Value) (sl : Array (Option Value)),
    PySem.W.findIn K (.ref C) x = some (some (.ref f)) ∧ PySem.W.isFn K (.ref f) = true ∧
    K.lookup f = some ⟨oc, od, .func (PySem.W.fnOf x qual (defArgs st) (defBody st) (defScope st) .none kV doc pm an cd ct), sl⟩ ∧
    PySem.W.codeIn K cd qual = true ∧ PySem.W.keepIn K (.ref f) = true
structure MethAt (K : PySem.W.Frag) (C : Addr) (x qual : Str) (st : Stmt) (ps : List Str) (f : Addr) (fd : FuncData) : Prop where
  at_ : PySem.W.findIn K (.ref C) x = some (some (.ref f))
  isf : PySem.W.isFn K (.ref f) = true
  fn : Fun K x qual st f fd
  bd : Binds K fd ps []
theorem MethIn.at {K : PySem.W.Frag} {C : Addr} {x qual : Str} {st : Stmt} {ps : List Str} (d : MethIn K C x qual st)
    (hb : ∀ (kV doc pm : Value) (an : Option Addr) (cdv ct : Value) (us : List Value), us.length = ps.length →
      bindArgs (PySem.W.fnOf x qual (defArgs st) (defBody st) (defScope st) .none kV doc pm an cdv ct) ⟨us, []⟩ = pure (ps.zip us)) :
    ∃ f fd, MethAt K C x qual st ps f fd := by
  obtain ⟨f, oc, od, kV, doc, pm, an, cd, ct, sl, a, i, l, c, k⟩ := d
  have F := fun_mk (st := st) l c k
  exact ⟨f, _, a, i, F, F.binds hb⟩
/-- a property of a class, its getter at g -/
structure PropK (K : PySem.W.Frag) (C : Addr) (x : Str) (g : Addr) : Prop where
  ex : ∃ p, PySem.W.findIn K (.ref C) x = some (some (.ref p)) ∧ PySem.W.specialIn K (.ref p) "__get__" = some (some (.builtin "property.__get__")) ∧
    PySem.W.takesIn K (.ref p) = some true ∧ ∃ rest, PySem.W.recIn K p "property" = some (.ref g :: rest)
def PropIn (K : PySem.W.Frag) (C : Addr) (x qual : Str) (st : Stmt) : Prop :=
  ∃ (g : Addr) (oc : Value) (od : Option Addr) (kV doc pm : Value) (an : Option Addr) (cd ct : Value) (sl : Array (Option Value)), PropK K C x g ∧
    K.lookup g = some ⟨oc, od, .func (PySem.W.fnOf x qual (defArgs st) (defBody st) (defScope st) .none kV doc pm an cd ct), sl⟩ ∧
    PySem.W.codeIn K cd qual = true ∧ PySem.W.keepIn K (.ref g) = true
structure PropAt (K : PySem.W.Frag) (C : Addr) (x qual : Str) (st : Stmt) (ps : List Str) (f : Addr) (fd : FuncData) : Prop where
  pr : PropK K C x f
  fn : Fun K x qual st f fd
  bd : Binds K fd ps []
theorem PropIn.at {K : PySem.W.Frag} {C : Addr} {x qual : Str} {st : Stmt} {ps : List Str} (d : PropIn K C x qual st)
    (hb : ∀ (kV doc pm : Value) (an : Option Addr) (cdv ct : Value) (us : List Value), us.length = ps.length →
      bindArgs (PySem.W.fnOf x qual (defArgs st) (defBody st) (defScope st) .none kV doc pm an cdv ct) ⟨us, []⟩ = pure (ps.zip us)) :
    ∃ f fd, PropAt K C x qual st ps f fd := by
  obtain ⟨f, oc, od, kV, doc, pm, an, cd, ct, sl, pr, l, c, k⟩ := d
  have F := fun_mk (st := st) l c k
  exact ⟨f, _, pr, F, F.binds hb⟩
theorem raw_ok {P : Program} {w : World} {K : PySem.W.Frag} {mg : Str → Option Value} {base : Heap} {CX : CXT} {k : Nat} {f : Addr} {fd : FuncData} {ps : List Str} {sp : Sp} (F : FnOk P w K mg base CX k f fd ps sp) (hb : Binds K fd ps []) :
    FnR P w K mg base CX k f sp := (FnOk.raw F hb .nil).imp fun vs H Q E h => by
  rw [List.append_nil]
  exact h
end Hv
namespace Hv
open PySem L2
section
variable {X : Cx} {e : Expr} {ta : TE} {C g : Addr} {f : Str} {pos : Pos} {n : Nat} {sp : Sp} {fd : FuncData} {ps : List Str}
theorem units65 {k : Nat} {A : Around} (r : Room k A) : A.units + 65 < cLine := by have := r.un; omega
theorem pe_propD (he : PE X e ta) (c : Cls X.K C) (p : PropK X.K C f g) (F : FnOk X.prog X.w X.K X.mg X.base CX0 n g fd ps sp) (hb : Binds X.K fd ps []) (hr : Room (n + 1) X.A)
    (hab : attributeBase e f X.env (eval e X.env) = eval e X.env := by rfl) : PE X (.Attribute e f pos) (tProp C sp [] E0 ta) := by
  obtain ⟨p, h1, h2, h3, h4⟩ := p.ex
  exact pe_prop he c ⟨h1, h2, h3, h4⟩ F hr hb .nil pass0 hab
end
end Hv
namespace Ev
open PySem L2 Hv
set_option autoImplicit false
/-- an empty tuple that the module's top has left -/
def KEmp (K : PySem.W.Frag) (a : Addr) : Prop := ∃ (o : Obj) (its : Array Value) (n : Nat), K.lookup a = some o ∧ o.cls = .type "tuple" ∧ o.data = .seq its n ∧ its.size ≤ sizeLine ∧ Vals [] its.toList
/-- what a value is -/
inductive D where
  | non | bl (b : Bool) | int (i : Int) | str (z : Str) | tup (xs : List D) | lst (xs : List D) | ins (c : Str) (fs : List (Str × D)) | dct (kvs : List (Key × D)) | cls (c : Str) | slo (c : Str) (xs : List D) | tupF (xs : List D)
/-- where a class of the module stands -/
def cA (K : PySem.W.Frag) (c : Str) : Addr := match PySem.W.nsIn K mainGlobals c with
  | some (some (.ref a)) => a
  | _ => 0
section
variable (K : PySem.W.Frag)
mutual
inductive Rep (F : Hp) : V → D → Prop
  | non : Rep F .non .non
  | bl (b : Bool) : Rep F (.bl b) (.bl b)
  | int (i : Int) : Rep F (.int i) (.int i)
  | str (z : Str) : Rep F (.str z) (.str z)
  | cls (c : Str) : Rep F (.ref (cA K c)) (.cls c)
  | ref {a : Addr} {o : HO} {x : D} (h : F a = some o) (r : RepO F o x) : Rep F (.ref a) x
  | slo {a dx : Addr} {c : Str} {vs : List V} {xs : List D} (h : F a = some (SlX.SlO a (cA K c) dx (vs.map some))) (h2 : F dx = some (.xd [])) (t : Reps F vs xs) : Rep F (.ref a) (.slo c xs)
  | kt {a : Addr} (h : KEmp K a) : Rep F (.ref a) (.tup [])
  | fz {a : Addr} {o : Obj} {vs : List V} {xs : List D} (h : F a = some (.frz o (.tup vs))) (t : Reps F vs xs) : Rep F (.ref a) (.tup xs)
  | fzF {a : Addr} {o : Obj} {vs : List V} {xs : List D} (h : F a = some (.frz o (.tup vs))) (c : o.cls = .type "tuple") (d : o.dict = none) (t : Reps F vs xs) : Rep F (.ref a) (.tupF xs)
inductive RepO (F : Hp) : HO → D → Prop
  | tup {vs : List V} {xs : List D} (t : Reps F vs xs) : RepO F (.tup vs) (.tup xs)
  | lst {vs : List V} {xs : List D} (t : Reps F vs xs) : RepO F (.lst vs) (.lst xs)
  | ins {c : Str} {dx : Addr} {fs : List (Str × V)} {gs : List (Str × D)} (e : fs.map Prod.fst = gs.map Prod.fst) (t : Reps F (fs.map Prod.snd) (gs.map Prod.snd)) : RepO F (.ins (cA K c) dx fs) (.ins c gs)
  | dct {fs : List (Key × V)} {gs : List (Key × D)} (e : fs.map Prod.fst = gs.map Prod.fst) (t : Reps F (fs.map Prod.snd) (gs.map Prod.snd)) : RepO F (.dK fs) (.dct gs)
inductive Reps (F : Hp) : List V → List D → Prop
  | nil : Reps F [] []
  | cons {v : V} {x : D} {vs : List V} {xs : List D} (h : Rep F v x) (t : Reps F vs xs) : Reps F (v :: vs) (x :: xs)
end
end
section
variable {K : PySem.W.Frag}
mutual
theorem Rep.same {F F' : Hp} (s : Same F F') : ∀ {v : V} {x : D}, Rep K F v x → Rep K F' v x
  | _, _, .non => .non
  | _, _, .bl b => .bl b
  | _, _, .int b => .int b
  | _, _, .str b => .str b
  | _, _, .cls c => .cls c
  | _, _, .ref h t => .ref (s _ _ h) (RepO.same s t)
  | _, _, .slo h h2 t => .slo (s _ _ h) (s _ _ h2) (Reps.same s t)
  | _, _, .kt h => .kt h
  | _, _, .fz h t => .fz (s _ _ h) (Reps.same s t)
  | _, _, .fzF h c d t => .fzF (s _ _ h) c d (Reps.same s t)
theorem RepO.same {F F' : Hp} (s : Same F F') : ∀ {v : HO} {x : D}, RepO K F v x → RepO K F' v x
  | _, _, .tup t => .tup (Reps.same s t)
  | _, _, .lst t => .lst (Reps.same s t)
  | _, _, .ins e t => .ins e (Reps.same s t)
  | _, _, .dct e t => .dct e (Reps.same s t)
theorem Reps.same {F F' : Hp} (s : Same F F') : ∀ {vs : List V} {xs : List D}, Reps K F vs xs → Reps K F' vs xs
  | _, _, .nil => .nil
  | _, _, .cons h t => .cons (Rep.same s h) (Reps.same s t)
end
variable {F : Hp}
theorem Rep.int_ {v : V} {i : Int} (h : Rep K F v (.int i)) : v = .int i := by
  cases h with
  | int => rfl
  | ref h r => cases r
theorem Rep.bl_ {v : V} {i : Bool} (h : Rep K F v (.bl i)) : v = .bl i := by
  cases h with
  | bl => rfl
  | ref h r => cases r
theorem Rep.str_ {v : V} {i : Str} (h : Rep K F v (.str i)) : v = .str i := by
  cases h with
  | str => rfl
  | ref h r => cases r
theorem Rep.non_ {v : V} (h : Rep K F v .non) : v = .non := by
  cases h with
  | non => rfl
  | ref h r => cases r
theorem Rep.tup_ {v : V} {xs : List D} (h : Rep K F v (.tup xs)) : ∃ a vs, v = .ref a ∧ (∀ H, Same F H → SqT K H a vs) ∧ Reps K F vs xs := by
  cases h with
  | ref h r =>
    cases r with
    | tup t => exact ⟨_, _, rfl, fun H s => SqT.of (s _ _ h), t⟩
  | kt h => exact ⟨_, _, rfl, fun H _ => .inr h, .nil⟩
  | fz h t => exact ⟨_, _, rfl, fun H s => .inl (.inr ⟨_, s _ _ h⟩), t⟩
theorem Rep.lst_ {v : V} {xs : List D} (h : Rep K F v (.lst xs)) : ∃ a vs, v = .ref a ∧ F a = some (.lst vs) ∧ Reps K F vs xs := by
  cases h with
  | ref h r =>
    cases r with
    | lst t => exact ⟨_, _, rfl, h, t⟩
theorem Rep.ins_ {v : V} {c : Str} {gs : List (Str × D)} (h : Rep K F v (.ins c gs)) : ∃ a dx fs, v = .ref a ∧ F a = some (.ins (cA K c) dx fs) ∧ fs.map Prod.fst = gs.map Prod.fst ∧ Reps K F (fs.map Prod.snd) (gs.map Prod.snd) := by
  cases h with
  | ref h r =>
    cases r with
    | ins e t => exact ⟨_, _, _, rfl, h, e, t⟩
theorem Reps.len : ∀ {vs : List V} {xs : List D}, Reps K F vs xs → vs.length = xs.length
  | _, _, .nil => rfl
  | _, _, .cons _ t => by rw [List.length_cons, List.length_cons, Reps.len t]
theorem Reps.get : ∀ {vs : List V} {xs : List D}, Reps K F vs xs → ∀ {i : Nat} {v : V}, vs[i]? = some v → ∃ x, xs[i]? = some x ∧ Rep K F v x
  | _, _, .cons (x := x) h t, 0, v, e => by
    cases e
    exact ⟨x, rfl, h⟩
  | _, _, .cons h t, i + 1, v, e => Reps.get t (i := i) (v := v) (by simpa using e)
theorem Reps.get' : ∀ {vs : List V} {xs : List D}, Reps K F vs xs → ∀ {i : Nat} {x : D}, xs[i]? = some x → ∃ v, vs[i]? = some v ∧ Rep K F v x
  | _, _, .cons (v := v) h t, 0, x, e => by
    cases e
    exact ⟨v, rfl, h⟩
  | _, _, .cons h t, i + 1, x, e => Reps.get' t (i := i) (x := x) (by simpa using e)
theorem Reps.snoc {v : V} {x : D} (h : Rep K F v x) : ∀ {vs : List V} {xs : List D}, Reps K F vs xs → Reps K F (vs ++ [v]) (xs ++ [x])
  | _, _, .nil => .cons h .nil
  | _, _, .cons q t => .cons q (Reps.snoc h t)
theorem Reps.append : ∀ {vs : List V} {xs : List D} {us : List V} {ys : List D}, Reps K F vs xs → Reps K F us ys → Reps K F (vs ++ us) (xs ++ ys)
  | _, _, _, _, .nil, s => s
  | _, _, _, _, .cons q t, s => .cons q (Reps.append t s)
theorem Reps.take : ∀ (n : Nat) {vs : List V} {xs : List D}, Reps K F vs xs → Reps K F (vs.take n) (xs.take n)
  | 0, _, _, _ => by simpa using Reps.nil
  | n + 1, _, _, .nil => by simpa using Reps.nil
  | n + 1, _, _, .cons h t => by simpa using Reps.cons h (Reps.take n t)
theorem Reps.drop : ∀ (n : Nat) {vs : List V} {xs : List D}, Reps K F vs xs → Reps K F (vs.drop n) (xs.drop n)
  | 0, _, _, h => by simpa using h
  | n + 1, _, _, .nil => by simpa using Reps.nil
  | n + 1, _, _, .cons h t => by simpa using Reps.drop n t
theorem Reps.set {v : V} {x : D} (h : Rep K F v x) : ∀ (n : Nat) {vs : List V} {xs : List D}, Reps K F vs xs → Reps K F (vs.set n v) (xs.set n x)
  | _, _, _, .nil => .nil
  | 0, _, _, .cons _ t => .cons h t
  | n + 1, _, _, .cons q t => .cons q (Reps.set h n t)
theorem Reps.strs : ∀ {ns : List Str} {vs : List V}, Reps K F vs (ns.map D.str) → vs = ns.map V.str
  | [], _, .nil => rfl
  | _ :: _, _, .cons h t => by
    rw [Reps.strs t, h.str_]
    rfl
theorem Reps.bls : ∀ {ns : List Bool} {vs : List V}, Reps K F vs (ns.map D.bl) → vs = ns.map V.bl
  | [], _, .nil => rfl
  | _ :: _, _, .cons h t => by
    rw [Reps.bls t, h.bl_]
    rfl
theorem Reps.ofStrs : ∀ (ns : List Str), Reps K F (ns.map V.str) (ns.map D.str)
  | [] => .nil
  | n :: ns => .cons (.str n) (Reps.ofStrs ns)
theorem at_len {α : Type} {xs : List α} {i : Int} {x : α} (h : atI xs i = some x) : ∃ j, ixN xs.length i = some j ∧ xs[j]? = some x := by
  unfold atI at h
  cases e : ixN xs.length i with
  | none => rw [e] at h; cases h
  | some j =>
    rw [e] at h
    exact ⟨j, rfl, h⟩
theorem Reps.at_ {vs : List V} {xs : List D} (h : Reps K F vs xs) {i : Int} {x : D} (e : atI xs i = some x) : ∃ v, atI vs i = some v ∧ Rep K F v x := by
  obtain ⟨j, h1, h2⟩ := at_len e
  obtain ⟨v, h3, h4⟩ := h.get' h2
  refine ⟨v, ?_, h4⟩
  unfold atI
  rw [h.len, h1]
  exact h3
theorem sameN {H : Hp} {p : Addr} {o : HO} (hp : H p = none) : Same H (upd H p o) := fun a u e => by
  rw [upd_ne (ne_of_none e hp)]
  exact e
theorem same_upd {F H : Hp} {p : Addr} {o : HO} (i : Same F H) : Same (upd F p o) (upd H p o) := fun a u e => by
  by_cases q : a = p
  · subst q
    rw [upd_same] at e ⊢
    exact e
  · rw [upd_ne q] at e ⊢
    exact i _ _ e
end
/-! ### where one stands -/
structure Bs where
  H0 : Hp
  F0 : Hp
  Mp : Nat → Addr → Prop
/-- what was passed to be changed -/
def Bs.M (B : Bs) (a : Addr) : Prop := ∃ p, B.Mp p a
/-- what a slot holds: nothing that is known, a value that stands still, an object of one's own (one that was passed to be changed), one that is lent -/
inductive En where
  | u | d (x : D) | own (p : Nat) (x : D) | bor (x : D)
section
variable (K : PySem.W.Frag)
def Slot (B : Bs) (H F : Hp) : En → Option V → Prop
  | .u, _ => True
  | .d x, o => ∃ v, o = some v ∧ Rep K F v x
  | .own p x, o => ∃ a h, o = some (.ref a) ∧ F a = none ∧ (if p = 0 then B.H0 a = none ∧ ¬ B.M a else B.Mp p a) ∧ H a = some h ∧ RepO K F h x
  | .bor x, o => ∃ a h, o = some (.ref a) ∧ B.H0 a = some h ∧ ¬ B.M a ∧ RepO K F h x
structure Env (B : Bs) (Γ : List En) (σ : L2.St) (H F : Hp) : Prop where
  s : ∀ (a : Addr) (o : HO), ¬ B.M a → B.H0 a = some o → H a = some o
  m : ∀ (a : Addr), B.M a → F a = none ∧ H a ≠ none
  f : Same B.F0 F
  i : Same F H
  n : ∀ (a : Addr), B.F0 a = none → F a ≠ none → B.H0 a = none
  len : σ.length = Γ.length
  sl : ∀ (i : Nat) (e : En), Γ[i]? = some e → ∃ o, σ[i]? = some o ∧ Slot K B H F e o
  ne : ∀ (i j : Nat) (p q : Nat) (x y : D) (a : Addr), i ≠ j → Γ[i]? = some (.own p x) → Γ[j]? = some (.own q y) → σ[i]? = some (some (.ref a)) → σ[j]? = some (some (.ref a)) → False
end
section
variable {K : PySem.W.Frag} {B : Bs} {Γ : List En} {σ : L2.St} {H F H' F' : Hp}
/-- the heap grows, the frozen part by new objects alone -/
structure Grow (H F H' F' : Hp) : Prop where
  h : Same H H'
  f : Same F F'
  i : Same F' H'
  n : ∀ a, F a = none → F' a ≠ none → H a = none
theorem Grow.refl (i : Same F H) : Grow H F H F := ⟨Same.refl _, Same.refl _, i, fun _ a b => absurd a b⟩
theorem Grow.new {p : Addr} {o : HO} (i : Same F H) (hp : H p = none) : Grow H F (upd H p o) (upd F p o) :=
  ⟨sameN hp, sameN (i.free hp), same_upd i, fun a e n => by
    by_cases q : a = p
    · subst q; exact hp
    · rw [upd_ne q] at n
      exact absurd e n⟩
theorem Grow.newO {p : Addr} {o : HO} (i : Same F H) (hp : H p = none) : Grow H F (upd H p o) F :=
  ⟨sameN hp, Same.refl _, i.trans (sameN hp), fun _ a b => absurd a b⟩
theorem Env.grow (E : Env K B Γ σ H F) (x : Grow H F H' F') : Env K B Γ σ H' F' := by
  have fr : ∀ a o, F a = none → H a = some o → F' a = none := fun a o f h => by
    by_cases q : F' a = none
    · exact q
    · have := x.n a f q
      rw [this] at h
      cases h
  refine ⟨fun a o m h => x.h _ _ (E.s a o m h), fun a m => ?_, E.f.trans x.f, x.i, fun a f0 f' => ?_, E.len, fun i e h => ?_, E.ne⟩
  · obtain ⟨h1, h2⟩ := E.m a m
    cases h3 : H a with
    | none => exact absurd h3 h2
    | some o =>
      refine ⟨fr a o h1 h3, ?_⟩
      rw [x.h _ _ h3]
      intro z
      cases z
  · by_cases q : F a = none
    · have hn := x.n a q f'
      cases h0 : B.H0 a with
      | none => rfl
      | some o =>
        by_cases mm : B.M a
        · exact absurd hn (E.m a mm).2
        · rw [E.s a o mm h0] at hn
          cases hn
    · exact E.n a f0 q
  · obtain ⟨o, h1, h2⟩ := E.sl i e h
    refine ⟨o, h1, ?_⟩
    cases e with
    | u => trivial
    | d y => obtain ⟨v, k1, k2⟩ := h2; exact ⟨v, k1, k2.same x.f⟩
    | own p y =>
      obtain ⟨a, ho, k1, k2, k3, k4, k5⟩ := h2
      exact ⟨a, ho, k1, fr a ho k2 k4, k3, x.h _ _ k4, k5.same x.f⟩
    | bor y =>
      obtain ⟨a, ho, k1, k2, k3, k4⟩ := h2
      exact ⟨a, ho, k1, k2, k3, k4.same x.f⟩
theorem Env.d (E : Env K B Γ σ H F) {i : Nat} {x : D} (h : Γ[i]? = some (.d x)) : ∃ v, σ[i]? = some (some v) ∧ Rep K F v x := by
  obtain ⟨o, h1, v, rfl, h2⟩ := E.sl i _ h
  exact ⟨v, h1, h2⟩
theorem Env.own (E : Env K B Γ σ H F) {i : Nat} {p : Nat} {x : D} (h : Γ[i]? = some (.own p x)) : ∃ a o, σ[i]? = some (some (.ref a)) ∧ F a = none ∧ (if p = 0 then B.H0 a = none ∧ ¬ B.M a else B.Mp p a) ∧ H a = some o ∧ RepO K F o x := by
  obtain ⟨o, h1, a, ho, rfl, h2⟩ := E.sl i _ h
  exact ⟨a, ho, h1, h2⟩
theorem Env.bor (E : Env K B Γ σ H F) {i : Nat} {x : D} (h : Γ[i]? = some (.bor x)) : ∃ a o, σ[i]? = some (some (.ref a)) ∧ H a = some o ∧ RepO K F o x := by
  obtain ⟨o, h1, a, ho, rfl, h2, h3, h4⟩ := E.sl i _ h
  exact ⟨a, ho, h1, E.s _ _ h3 h2, h4⟩
/-- a new address is nobody's -/
theorem Env.fresh (E : Env K B Γ σ H F) {a : Addr} (h : H a = none) : B.H0 a = none ∧ ¬ B.M a ∧ F a = none := by
  have m : ¬ B.M a := fun m => (E.m a m).2 h
  refine ⟨?_, m, E.i.free h⟩
  cases h0 : B.H0 a with
  | none => rfl
  | some o =>
    rw [E.s a o m h0] at h
    cases h
theorem Env.set (E : Env K B Γ σ H F) {i : Nat} {e : En} {v : Option V} (h : Slot K B H F e v) (ne : ∀ p x, e = .own p x → ∀ j q y a, j ≠ i → Γ[j]? = some (.own q y) → v = some (.ref a) → σ[j]? = some (some (.ref a)) → False) : Env K B (Γ.set i e) (σ.set i v) H F := by
  refine ⟨E.s, E.m, E.f, E.i, E.n, by rw [List.length_set, List.length_set, E.len], fun j e' hj => ?_, fun j k p q x y a njk hj hk sj sk => ?_⟩
  · by_cases q : j = i
    · subst q
      have lt : j < Γ.length := by
        by_cases z : j < Γ.length
        · exact z
        · rw [List.getElem?_eq_none (by rw [List.length_set]; omega)] at hj
          cases hj
      rw [List.getElem?_set_self lt] at hj
      cases hj
      exact ⟨v, List.getElem?_set_self (by rw [E.len]; exact lt), h⟩
    · rw [List.getElem?_set_ne (fun z => q z.symm)] at hj ⊢
      exact E.sl j _ hj
  · have inb : ∀ (e0 : En), (Γ.set i e)[i]? = some e0 → i < Γ.length := fun _ z => by
      by_cases w : i < Γ.length
      · exact w
      · rw [List.getElem?_eq_none (by rw [List.length_set]; omega)] at z
        cases z
    by_cases qj : j = i
    · subst qj
      have lt := inb _ hj
      rw [List.getElem?_set_self lt] at hj
      rw [List.getElem?_set_self (by rw [E.len]; exact lt)] at sj
      rw [List.getElem?_set_ne njk] at hk sk
      exact ne _ _ (Option.some.inj hj) k _ _ a (fun z => njk z.symm) hk (Option.some.inj sj) sk
    · by_cases qk : k = i
      · subst qk
        have lt := inb _ hk
        rw [List.getElem?_set_self lt] at hk
        rw [List.getElem?_set_self (by rw [E.len]; exact lt)] at sk
        rw [List.getElem?_set_ne (fun z => njk z.symm)] at hj sj
        exact ne _ _ (Option.some.inj hk) j _ _ a njk hj (Option.some.inj sk) sj
      · rw [List.getElem?_set_ne (fun z => qj z.symm)] at hj sj
        rw [List.getElem?_set_ne (fun z => qk z.symm)] at hk sk
        exact E.ne j k _ _ _ _ a njk hj hk sj sk
theorem Env.setD (E : Env K B Γ σ H F) {i : Nat} {x : D} {v : V} (h : Rep K F v x) : Env K B (Γ.set i (.d x)) (σ.set i (some v)) H F := E.set ⟨v, rfl, h⟩ (fun _ _ z => nomatch z)
theorem Env.setU (E : Env K B Γ σ H F) {i : Nat} {v : Option V} : Env K B (Γ.set i .u) (σ.set i v) H F := E.set trivial (fun _ _ z => nomatch z)
/-- forgetting -/
inductive Wk : List En → List En → Prop
  | nil : Wk [] []
  | keep {e : En} {Γ Γ' : List En} (h : Wk Γ Γ') : Wk (e :: Γ) (e :: Γ')
  | drop {e : En} {Γ Γ' : List En} (h : Wk Γ Γ') : Wk (e :: Γ) (.u :: Γ')
theorem Wk.refl : ∀ (Γ : List En), Wk Γ Γ
  | [] => .nil
  | _ :: Γ => .keep (Wk.refl Γ)
theorem Wk.len : ∀ {Γ Γ' : List En}, Wk Γ Γ' → Γ.length = Γ'.length
  | _, _, .nil => rfl
  | _, _, .keep h => by rw [List.length_cons, List.length_cons, h.len]
  | _, _, .drop h => by rw [List.length_cons, List.length_cons, h.len]
theorem Wk.get : ∀ {Γ Γ' : List En}, Wk Γ Γ' → ∀ {i : Nat} {e : En}, Γ'[i]? = some e → ∃ e0, Γ[i]? = some e0 ∧ (e = .u ∨ e0 = e)
  | _, _, .keep (e := e0) h, 0, e, q => ⟨e0, rfl, .inr (Option.some.inj q)⟩
  | _, _, .drop (e := e0) h, 0, e, q => ⟨e0, rfl, .inl (Option.some.inj q).symm⟩
  | _, _, .keep h, i + 1, e, q => Wk.get h (i := i) (by simpa using q)
  | _, _, .drop h, i + 1, e, q => Wk.get h (i := i) (by simpa using q)
theorem Env.weak {Γ' : List En} (E : Env K B Γ σ H F) (k : Wk Γ Γ') : Env K B Γ' σ H F := by
  refine ⟨E.s, E.m, E.f, E.i, E.n, E.len.trans k.len, fun i e h => ?_, fun i j p q x y a n h1 h2 s1 s2 => ?_⟩
  · obtain ⟨e0, h0, q⟩ := k.get h
    obtain ⟨o, h1, h2⟩ := E.sl i e0 h0
    rcases q with rfl | rfl
    · exact ⟨o, h1, trivial⟩
    · exact ⟨o, h1, h2⟩
  · obtain ⟨_, k1, q1⟩ := k.get h1
    obtain ⟨_, k2, q2⟩ := k.get h2
    rcases q1 with q1 | rfl
    · cases q1
    rcases q2 with q2 | rfl
    · cases q2
    exact E.ne i j _ _ _ _ a n k1 k2 s1 s2
/-- freezing an object that no slot owns -/
theorem Env.frz (E : Env K B Γ σ H F) {a : Addr} {o : HO} (hf : F a = none) (h0 : B.H0 a = none) (hm : ¬ B.M a) (ha : H a = some o) (no : ∀ (j : Nat) (p : Nat) (y : D), Γ[j]? = some (.own p y) → σ[j]? = some (some (.ref a)) → False) : Env K B Γ σ H (upd F a o) := by
  have sf : Same F (upd F a o) := sameN hf
  refine ⟨E.s, fun b m => ?_, E.f.trans sf, fun b u e => ?_, fun b f0 f1 => ?_, E.len, fun j e hj => ?_, E.ne⟩
  · have : b ≠ a := fun z => hm (z ▸ m)
    rw [upd_ne this]
    exact E.m b m
  · by_cases q : b = a
    · subst q
      rw [upd_same] at e
      rw [ha]
      exact e
    · rw [upd_ne q] at e
      exact E.i _ _ e
  · by_cases q : b = a
    · subst q; exact h0
    · rw [upd_ne q] at f1
      exact E.n b f0 f1
  · obtain ⟨u, k1, k2⟩ := E.sl j _ hj
    refine ⟨u, k1, ?_⟩
    cases e with
    | u => trivial
    | d y => obtain ⟨v, m1, m2⟩ := k2; exact ⟨v, m1, m2.same sf⟩
    | own p y =>
      obtain ⟨b, us, rfl, m2, m3, m4, m5⟩ := k2
      refine ⟨b, us, rfl, ?_, m3, m4, m5.same sf⟩
      rw [upd_ne]
      · exact m2
      · rintro rfl
        exact no j p y hj k1
    | bor y =>
      obtain ⟨b, us, rfl, m2, m3, m4⟩ := k2
      exact ⟨b, us, rfl, m2, m3, m4.same sf⟩
/-- an object of one's own is frozen -/
theorem Env.freeze (E : Env K B Γ σ H F) {i : Nat} {x : D} (h : Γ[i]? = some (.own 0 x)) : ∃ F', Env K B (Γ.set i (.d x)) σ H F' ∧ Same F F' := by
  obtain ⟨a, o, h1, h2, h3, h4, h5⟩ := E.own h
  have h3 : B.H0 a = none ∧ ¬ B.M a := h3
  have lt : i < Γ.length := (List.getElem?_eq_some_iff.mp h).1
  have sf : Same F (upd F a o) := sameN h2
  have E1 : Env K B (Γ.set i .u) σ H F := by
    have := E.setU (i := i) (v := some (.ref a))
    rw [show σ.set i (some (.ref a)) = σ from ?_] at this
    · exact this
    · refine List.ext_getElem? fun j => ?_
      by_cases q : i = j
      · subst q
        rw [List.getElem?_set_self (by rw [E.len]; exact lt), h1]
      · rw [List.getElem?_set_ne q]
  have E2 : Env K B (Γ.set i .u) σ H (upd F a o) := E1.frz h2 h3.1 h3.2 h4 (fun j p y hj sj => by
    by_cases q : i = j
    · subst q
      rw [List.getElem?_set_self lt] at hj
      cases hj
    · rw [List.getElem?_set_ne q] at hj
      exact E.ne j i _ _ _ _ a (fun z => q z.symm) hj h sj h1)
  have E3 := E2.setD (i := i) (x := x) (v := .ref a) (.ref upd_same (h5.same sf))
  rw [List.set_set] at E3
  refine ⟨upd F a o, ?_, sf⟩
  rw [show σ.set i (some (.ref a)) = σ from ?_] at E3
  · exact E3
  · refine List.ext_getElem? fun j => ?_
    by_cases q : i = j
    · subst q
      rw [List.getElem?_set_self (by rw [E.len]; exact lt), h1]
    · rw [List.getElem?_set_ne q]
/-- an object of one's own is changed -/
theorem Env.chg (E : Env K B Γ σ H F) {i : Nat} {p : Nat} {x y : D} {a : Addr} {o' : HO} (h : Γ[i]? = some (.own p x)) (hs : σ[i]? = some (some (.ref a))) (hr : RepO K F o' y) : Env K B (Γ.set i (.own p y)) σ (upd H a o') F := by
  obtain ⟨a', o1, h1, h2, h3, h4, h5⟩ := E.own h
  rw [hs] at h1
  cases h1
  have lt : i < Γ.length := (List.getElem?_eq_some_iff.mp h).1
  refine ⟨fun b u m e => ?_, fun b m => ⟨(E.m b m).1, ?_⟩, E.f, fun b u e => ?_, E.n, by rw [List.length_set]; exact E.len, fun j e hj => ?_, fun j k p' q' x' y' b n hj hk sj sk => ?_⟩
  · rw [upd_ne]
    · exact E.s b u m e
    · rintro rfl
      by_cases hp : p = 0
      · rw [if_pos hp] at h3
        rw [h3.1] at e
        cases e
      · rw [if_neg hp] at h3
        exact m ⟨p, h3⟩
  · by_cases q : b = a
    · subst q
      rw [upd_same]
      intro z
      cases z
    · rw [upd_ne q]
      exact (E.m b m).2
  · rw [upd_ne (ne_of_none e h2)]
    exact E.i _ _ e
  · by_cases z : j = i
    · subst z
      rw [List.getElem?_set_self lt] at hj
      cases hj
      exact ⟨_, hs, a, _, rfl, h2, h3, upd_same, hr⟩
    · rw [List.getElem?_set_ne (fun w => z w.symm)] at hj
      obtain ⟨u, m1, m2⟩ := E.sl j e hj
      refine ⟨u, m1, ?_⟩
      cases e with
      | u => trivial
      | d y => exact m2
      | own p' y' =>
        obtain ⟨b, us, rfl, n2, n3, n4, n5⟩ := m2
        refine ⟨b, us, rfl, n2, n3, ?_, n5⟩
        rw [upd_ne]
        · exact n4
        · rintro rfl
          exact E.ne j i _ _ _ _ b z hj h m1 hs
      | bor y' => exact m2
  · have old : ∀ (m : Nat) (p' : Nat) (ws : D), (Γ.set i (.own p y))[m]? = some (.own p' ws) → ∃ p'' ws', Γ[m]? = some (.own p'' ws') := fun m p' ws hm => by
      by_cases z : m = i
      · subst z
        exact ⟨_, _, h⟩
      · rw [List.getElem?_set_ne (fun w => z w.symm)] at hm
        exact ⟨_, _, hm⟩
    obtain ⟨_, _, o1⟩ := old _ _ _ hj
    obtain ⟨_, _, o2⟩ := old _ _ _ hk
    exact E.ne j k _ _ _ _ b n o1 o2 sj sk
end
end Ev
namespace Ev
open PySem L2 Hv
set_option autoImplicit false
/-! ### values of Lean as values of Python -/
class Rp (α : Type) where
  d : α → D
@[reducible] def toD {α : Type} [Rp α] (x : α) : D := Rp.d x
instance : Rp Int := ⟨D.int⟩
instance : Rp Bool := ⟨D.bl⟩
instance : Rp Str := ⟨D.str⟩
instance : Rp D := ⟨id⟩
instance : Rp Unit := ⟨fun _ => .non⟩
instance {α : Type} [Rp α] : Rp (List α) := ⟨fun l => .lst (l.map toD)⟩
structure Tp (α : Type) where
  l : List α
deriving DecidableEq
instance {α : Type} [Rp α] : Rp (Tp α) := ⟨fun l => .tup (l.l.map toD)⟩
structure P2 (α β : Type) where
  a : α
  b : β
deriving DecidableEq
structure P3 (α β γ : Type) where
  a : α
  b : β
  c : γ
deriving DecidableEq
structure P4 (α β γ δ : Type) where
  a : α
  b : β
  c : γ
  d : δ
deriving DecidableEq
structure P5 (α β γ δ ε : Type) where
  a : α
  b : β
  c : γ
  d : δ
  e : ε
deriving DecidableEq
structure Q2 (α β : Type) where
  a : α
  b : β
structure Q3 (α β γ : Type) where
  a : α
  b : β
  c : γ
structure Q4 (α β γ δ : Type) where
  a : α
  b : β
  c : γ
  d : δ
structure Q5 (α β γ δ ε : Type) where
  a : α
  b : β
  c : γ
  d : δ
  e : ε
section
variable {α β γ δ ε : Type} [Rp α] [Rp β] [Rp γ] [Rp δ] [Rp ε]
instance : Rp (P2 α β) := ⟨fun p => .tup [toD p.a, toD p.b]⟩
instance : Rp (P3 α β γ) := ⟨fun p => .tup [toD p.a, toD p.b, toD p.c]⟩
instance : Rp (P4 α β γ δ) := ⟨fun p => .tup [toD p.a, toD p.b, toD p.c, toD p.d]⟩
instance : Rp (P5 α β γ δ ε) := ⟨fun p => .tup [toD p.a, toD p.b, toD p.c, toD p.d, toD p.e]⟩
instance : Rp (Q2 α β) := ⟨fun p => .lst [toD p.a, toD p.b]⟩
instance : Rp (Q3 α β γ) := ⟨fun p => .lst [toD p.a, toD p.b, toD p.c]⟩
instance : Rp (Q4 α β γ δ) := ⟨fun p => .lst [toD p.a, toD p.b, toD p.c, toD p.d]⟩
instance : Rp (Q5 α β γ δ ε) := ⟨fun p => .lst [toD p.a, toD p.b, toD p.c, toD p.d, toD p.e]⟩
instance : Rp (Option α) := ⟨fun o => match o with
  | none => .non
  | some x => toD x⟩
instance : Rp (α ⊕ β) := ⟨fun o => match o with
  | .inl x => toD x
  | .inr x => toD x⟩
structure Dc (α : Type) where
  kvs : List (Str × α)
instance : Rp (Dc α) := ⟨fun d => .dct (d.kvs.map fun p => (.inr p.1, toD p.2))⟩
/-- values that are never None -/
class NN (α : Type) [Rp α] : Prop where
  nn : ∀ x : α, toD x ≠ .non
instance : NN Int := ⟨fun _ h => D.noConfusion h⟩
instance : NN Bool := ⟨fun _ h => D.noConfusion h⟩
instance : NN Str := ⟨fun _ h => D.noConfusion h⟩
instance : NN (List α) := ⟨fun _ h => D.noConfusion h⟩
instance : NN (Tp α) := ⟨fun _ h => D.noConfusion h⟩
instance : NN (P2 α β) := ⟨fun _ h => D.noConfusion h⟩
instance : NN (P3 α β γ) := ⟨fun _ h => D.noConfusion h⟩
instance : NN (P4 α β γ δ) := ⟨fun _ h => D.noConfusion h⟩
instance : NN (P5 α β γ δ ε) := ⟨fun _ h => D.noConfusion h⟩
instance [NN α] [NN β] : NN (α ⊕ β) := ⟨fun x h => match x, h with
  | .inl x, h => NN.nn x h
  | .inr x, h => NN.nn x h⟩
end
def D.isN : D → Bool
  | .non => true
  | _ => false
theorem isN_opt {α : Type} [Rp α] [NN α] (o : Option α) : (toD o).isN = o.isNone := by
  cases o with
  | none => rfl
  | some x =>
    show (toD x).isN = false
    have := NN.nn x
    cases h : toD x with
    | non => exact absurd h this
    | _ => rfl
/-! ### judgements -/
section
variable (K : PySem.W.Frag) (B : Bs) (Γ : List En)
def EvE (t : TE) (x : D) (Γ' : List En) : Prop := ∀ σ H F, Env K B Γ σ H F → ∀ Q : VK, (∀ v H' F', Env K B Γ' σ H' F' → Same F F' → Rep K F' v x → Q v H') → t σ H Q
def EvT (t : TT) (b : Bool) (Γ' : List En) : Prop := ∀ σ H F, Env K B Γ σ H F → ∀ Q : Bool → Hp → Prop, (∀ H' F', Env K B Γ' σ H' F' → Same F F' → Q b H') → t σ H Q
def EvA (t : TA) (xs : List D) (Γ' : List En) : Prop := ∀ σ H F, Env K B Γ σ H F → ∀ Q : List V → Hp → Prop, (∀ vs H' F', Env K B Γ' σ H' F' → Same F F' → Reps K F' vs xs → Q vs H') → t σ H Q
/-- an object that is read at once -/
def EvR (t : TE) (x : D) (Γ' : List En) : Prop := ∀ σ H F, Env K B Γ σ H F → ∀ Q : VK, (∀ a o H' F', Env K B Γ' σ H' F' → Same F F' → H' a = some o → RepO K F' o x → Q (.ref a) H') → t σ H Q
/-- a tuple that is read at once -/
def EvRT (t : TE) (xs : List D) (Γ' : List En) : Prop := ∀ σ H F, Env K B Γ σ H F → ∀ Q : VK, (∀ a vs H' F', Env K B Γ' σ H' F' → Same F F' → SqT K H' a vs → Reps K F' vs xs → Q (.ref a) H') → t σ H Q
/-- a new object that nobody owns yet -/
def EvO (t : TE) (x : D) (Γ' : List En) : Prop := ∀ σ H F, Env K B Γ σ H F → ∀ Q : VK, (∀ a o H' F', Env K B Γ' σ H' F' → Same F F' → F' a = none → B.H0 a = none → ¬ B.M a → (∀ (j : Nat) (p : Nat) (y : D), Γ'[j]? = some (.own p y) → σ[j]? = some (some (.ref a)) → False) → H' a = some o → RepO K F' o x → Q (.ref a) H') → t σ H Q
/-- what a slot has, however it holds it -/
inductive Has (i : Nat) (x : D) : Prop
  | d (h : Γ[i]? = some (.d x))
  | o (p : Nat) (h : Γ[i]? = some (.own p x))
  | b (h : Γ[i]? = some (.bor x))
end
inductive Obj : D → Prop
  | lst (xs : List D) : Obj (.lst xs)
  | dct (xs : List (Key × D)) : Obj (.dct xs)
  | ins (c : Str) (xs : List (Str × D)) : Obj (.ins c xs)
section
variable {K : PySem.W.Frag} {B : Bs} {Γ Γ1 Γ2 Γ3 Γ4 : List En}
theorem Rep.obj {F : Hp} {v : V} {x : D} (h : Rep K F v x) (o : Obj x) : ∃ a u, v = .ref a ∧ F a = some u ∧ RepO K F u x := by
  cases h with
  | ref h r => exact ⟨_, _, rfl, h, r⟩
  | _ => cases o
theorem Env.has {σ : L2.St} {H F : Hp} (E : Env K B Γ σ H F) {i : Nat} {x : D} (h : Has Γ i x) (o : Obj x) : ∃ a u, σ[i]? = some (some (.ref a)) ∧ H a = some u ∧ RepO K F u x := by
  cases h with
  | d h =>
    obtain ⟨v, h1, h2⟩ := E.d h
    obtain ⟨a, u, rfl, h3, h4⟩ := h2.obj o
    exact ⟨a, u, h1, E.i _ _ h3, h4⟩
  | o p h =>
    obtain ⟨a, u, h1, _, _, h2, h3⟩ := E.own h
    exact ⟨a, u, h1, h2, h3⟩
  | b h =>
    obtain ⟨a, u, h1, h2, h3⟩ := E.bor h
    exact ⟨a, u, h1, h2, h3⟩
theorem EvO.e {t : TE} {x : D} (h : EvO K B Γ t x Γ1) : EvE K B Γ t x Γ1 := fun σ H F E Q q => h σ H F E _ fun a o H' F' E' s hf h0 hm no ha hr =>
  q _ H' _ (E'.frz hf h0 hm ha no) (s.trans (sameN hf)) (.ref upd_same (hr.same (sameN hf)))
theorem EvE.r {t : TE} {x : D} (h : EvE K B Γ t x Γ1) (o : Obj x := by constructor) : EvR K B Γ t x Γ1 := fun σ H F E Q q => h σ H F E _ fun v H' F' E' s r => by
  obtain ⟨a, u, rfl, h1, h2⟩ := r.obj o
  exact q a u H' F' E' s (E'.i _ _ h1) h2
theorem EvE.rt {t : TE} {xs : List D} (h : EvE K B Γ t (.tup xs) Γ1) : EvRT K B Γ t xs Γ1 := fun σ H F E Q q => h σ H F E _ fun v H' F' E' s r => by
  obtain ⟨a, vs, rfl, h1, h2⟩ := r.tup_
  exact q a vs H' F' E' s (h1 _ E'.i) h2
theorem evr_var {i : Nat} {x : D} (h : Has Γ i x) (o : Obj x := by constructor) : EvR K B Γ (tVar i) x Γ := fun σ H F E Q q => by
  obtain ⟨a, u, h1, h2, h3⟩ := E.has h o
  exact ⟨_, h1, q a u H F E (Same.refl _) h2 h3⟩
theorem EvE.cast {t : TE} {x y : D} (h : EvE K B Γ t x Γ1) (e : x = y) : EvE K B Γ t y Γ1 := e ▸ h
theorem EvR.cast {t : TE} {x y : D} (h : EvR K B Γ t x Γ1) (e : x = y) : EvR K B Γ t y Γ1 := e ▸ h
theorem EvO.cast {t : TE} {x y : D} (h : EvO K B Γ t x Γ1) (e : x = y) : EvO K B Γ t y Γ1 := e ▸ h
theorem EvT.cast {t : TT} {x y : Bool} (h : EvT K B Γ t x Γ1) (e : x = y) : EvT K B Γ t y Γ1 := e ▸ h
theorem EvA.cast {t : TA} {x y : List D} (h : EvA K B Γ t x Γ1) (e : x = y) : EvA K B Γ t y Γ1 := e ▸ h
/-! ### names, constants, operators -/
theorem ev_var {i : Nat} {x : D} (h : Γ[i]? = some (.d x)) : EvE K B Γ (tVar i) x Γ := fun σ H F E Q q => by
  obtain ⟨v, h1, h2⟩ := E.d h
  exact ⟨v, h1, q v H F E (Same.refl _) h2⟩
theorem ev_int {i : Int} : EvE K B Γ (tC (.int i)) (.int i) Γ := fun σ H F E Q q => q _ H F E (Same.refl _) (.int i)
theorem ev_str {i : Str} : EvE K B Γ (tC (.str i)) (.str i) Γ := fun σ H F E Q q => q _ H F E (Same.refl _) (.str i)
theorem ev_bl {i : Bool} : EvE K B Γ (tC (.bl i)) (.bl i) Γ := fun σ H F E Q q => q _ H F E (Same.refl _) (.bl i)
theorem ev_non : EvE K B Γ (tC .non) .non Γ := fun σ H F E Q q => q _ H F E (Same.refl _) .non
/-- a two-place rule on two values -/
def R2v (K : PySem.W.Frag) (r : R2) (x y z : D) : Prop := ∀ H F u v, Same F H → Rep K F u x → Rep K F v y → ∀ Q : VK, (∀ w H' F', Grow H F H' F' → Rep K F' w z → Q w H') → r u v H Q
theorem ev_op {r : R2} {ta tb : TE} {x y z : D} (ha : EvE K B Γ ta x Γ1) (hb : EvE K B Γ1 tb y Γ2) (hr : R2v K r x y z) : EvE K B Γ (tOp r ta tb) z Γ2 := fun σ H F E Q q =>
  ha σ H F E _ fun u H1 F1 E1 s1 r1 => hb σ H1 F1 E1 _ fun v H2 F2 E2 s2 r2 => hr H2 F2 u v E2.i (r1.same s2) r2 _ fun w H3 F3 g r3 => q w H3 F3 (E2.grow g) ((s1.trans s2).trans g.f) r3
section
variable {i j : Int} {a b : Str}
theorem rv_I0 {f : Int → Int → Int} : R2v K (rI0 fun i j => .int (f i j)) (.int i) (.int j) (.int (f i j)) := fun H F u v s ru rv Q q => by
  cases ru.int_
  cases rv.int_
  exact ⟨i, j, rfl, rfl, q _ H F (.refl s) (.int _)⟩
theorem rv_B0 {f : Int → Int → Bool} : R2v K (rI0 fun i j => .bl (f i j)) (.int i) (.int j) (.bl (f i j)) := fun H F u v s ru rv Q q => by
  cases ru.int_
  cases rv.int_
  exact ⟨i, j, rfl, rfl, q _ H F (.refl s) (.bl _)⟩
theorem rv_I {C : Int → Int → Prop} {f : Int → Int → Int} (c : C i j) : R2v K (rI C fun i j => .int (f i j)) (.int i) (.int j) (.int (f i j)) := fun H F u v s ru rv Q q => by
  cases ru.int_
  cases rv.int_
  exact ⟨i, j, rfl, rfl, c, q _ H F (.refl s) (.int _)⟩
theorem rv_mul (c : CMulW i j) : R2v K (rI CMulW fun i j => .int (i * j)) (.int i) (.int j) (.int (i * j)) := rv_I c
theorem rv_mod (c : 0 < j) : R2v K (rI (fun _ j => 0 < j) fun i j => .int (i % j)) (.int i) (.int j) (.int (i % j)) := rv_I (C := fun _ j => 0 < j) c
theorem rv_div (c : CDivW i j) : R2v K (rI CDivW fun i j => .int (i / j)) (.int i) (.int j) (.int (i / j)) := rv_I c
theorem rv_scal {x y : D} {f : Bool → Bool} {r : R2} (hr : ∀ u v H Q, scal u v = true → Q (V.bl (f (decide (u = v)))) H → r u v H Q) {c : Bool} (sc : ∀ F u v, Rep K F u x → Rep K F v y → scal u v = true ∧ decide (u = v) = c) : R2v K r x y (.bl (f c)) := fun H F u v s ru rv Q q => by
  obtain ⟨h1, h2⟩ := sc F u v ru rv
  refine hr u v H Q h1 ?_
  rw [h2]
  exact q _ H F (.refl s) (.bl _)
theorem sc_II : ∀ F u v, Rep K F u (.int i) → Rep K F v (.int j) → scal u v = true ∧ decide (u = v) = decide (i = j) := fun F u v ru rv => by
  cases ru.int_
  cases rv.int_
  exact ⟨rfl, by simp⟩
theorem sc_SS : ∀ F u v, Rep K F u (.str a) → Rep K F v (.str b) → scal u v = true ∧ decide (u = v) = decide (a = b) := fun F u v ru rv => by
  cases ru.str_
  cases rv.str_
  exact ⟨rfl, by simp⟩
theorem sc_BB {a b : Bool} : ∀ F u v, Rep K F u (.bl a) → Rep K F v (.bl b) → scal u v = true ∧ decide (u = v) = decide (a = b) := fun F u v ru rv => by
  cases ru.bl_
  cases rv.bl_
  exact ⟨rfl, by simp⟩
theorem rv_eqI : R2v K rEq (.int i) (.int j) (.bl (decide (i = j))) := rv_scal (f := id) (fun _ _ _ _ h q => ⟨h, q⟩) sc_II
theorem rv_eqS : R2v K rEq (.str a) (.str b) (.bl (decide (a = b))) := rv_scal (f := id) (fun _ _ _ _ h q => ⟨h, q⟩) sc_SS
theorem rv_eqB {a b : Bool} : R2v K rEq (.bl a) (.bl b) (.bl (decide (a = b))) := rv_scal (f := id) (fun _ _ _ _ h q => ⟨h, q⟩) sc_BB
theorem rv_neI : R2v K rNe (.int i) (.int j) (.bl (!decide (i = j))) := rv_scal (f := not) (fun _ _ _ _ h q => ⟨h, q⟩) sc_II
theorem rv_neS : R2v K rNe (.str a) (.str b) (.bl (!decide (a = b))) := rv_scal (f := not) (fun _ _ _ _ h q => ⟨h, q⟩) sc_SS
theorem rep_non {F : Hp} {u : V} {x : D} (h : Rep K F u x) : decide (u = .non) = x.isN := by
  cases h with
  | ref h r =>
    cases r <;> rfl
  | _ => rfl
theorem rv_isN {x : D} : R2v K (fun x y H Q => y = .non ∧ Q (.bl (decide (x = .non))) H) x .non (.bl x.isN) := fun H F u v s ru rv Q q => by
  cases rv.non_
  refine ⟨rfl, ?_⟩
  rw [rep_non ru]
  exact q _ H F (.refl s) (.bl _)
theorem rv_notN {x : D} : R2v K (fun x y H Q => y = .non ∧ Q (.bl (!decide (x = .non))) H) x .non (.bl (!x.isN)) := fun H F u v s ru rv Q q => by
  cases rv.non_
  refine ⟨rfl, ?_⟩
  rw [rep_non ru]
  exact q _ H F (.refl s) (.bl _)
theorem rv_addS (h : a.length + b.length ≤ sizeLine) : R2v K (fun x y H Q => ∃ i j, x = .str i ∧ y = .str j ∧ i.length + j.length ≤ sizeLine ∧ Q (.str (i ++ j)) H) (.str a) (.str b) (.str (a ++ b)) := fun H F u v s ru rv Q q => by
  cases ru.str_
  cases rv.str_
  exact ⟨a, b, rfl, rfl, h, q _ H F (.refl s) (.str _)⟩
end
theorem ev_isN {α : Type} [Rp α] [NN α] {o : Option α} {ta : TE} (ha : EvE K B Γ ta (toD o) Γ1) : EvE K B Γ (tOp (fun x y H Q => y = .non ∧ Q (.bl (decide (x = .non))) H) ta (tC .non)) (.bl o.isNone) Γ1 := ev_op ha ev_non (by rw [← isN_opt]; exact rv_isN)
theorem ev_notN {α : Type} [Rp α] [NN α] {o : Option α} {ta : TE} (ha : EvE K B Γ ta (toD o) Γ1) : EvE K B Γ (tOp (fun x y H Q => y = .non ∧ Q (.bl (!decide (x = .non))) H) ta (tC .non)) (.bl (!o.isNone)) Γ1 := ev_op ha ev_non (by rw [← isN_opt]; exact rv_notN)
/-! items -/
theorem at_map {α β : Type} (f : α → β) {l : List α} {i : Int} {y : α} (h : atI l i = some y) : atI (l.map f) i = some (f y) := by
  unfold atI at h ⊢
  rw [List.length_map]
  cases e : ixN l.length i with
  | none => rw [e] at h; cases h
  | some j =>
    rw [e] at h
    show (l.map f)[j]? = _
    have h : l[j]? = some y := h
    rw [List.getElem?_map, h]
    rfl
theorem rv_ixT {xs : List D} {i : Int} {x : D} (e : atI xs i = some x) : R2v K (rIxT K) (.tup xs) (.int i) x := fun H F u v s ru rv Q q => by
  cases rv.int_
  obtain ⟨a, vs, rfl, h1, h2⟩ := ru.tup_
  obtain ⟨w, h3, h4⟩ := h2.at_ e
  exact ⟨_, _, i, w, rfl, rfl, h1 _ s, h3, q _ H F (.refl s) h4⟩
theorem rv_ixL {xs : List D} {i : Int} {x : D} (e : atI xs i = some x) : R2v K (rIxL K) (.lst xs) (.int i) x := fun H F u v s ru rv Q q => by
  cases rv.int_
  obtain ⟨a, vs, rfl, h1, h2⟩ := ru.lst_
  obtain ⟨w, h3, h4⟩ := h2.at_ e
  exact ⟨_, _, i, w, rfl, rfl, SqL.of (s _ _ h1), h3, q _ H F (.refl s) h4⟩
/-- an item of a list that a slot has -/
theorem ev_ixV {tb : TE} {i : Nat} {x0 : D} {xs : List D} {j : Int} {x : D} (h0 : Has Γ i x0) (hb : EvE K B Γ tb (.int j) Γ1) (h1 : Has Γ1 i (.lst xs)) (e : atI xs j = some x) (o : Obj x0 := by constructor) : EvE K B Γ (tOp (rIxL K) (tVar i) tb) x Γ1 := fun σ H F E Q q => by
  obtain ⟨a, u, k1, _, _⟩ := E.has h0 o
  refine ⟨_, k1, hb σ H F E _ fun v H1 F1 E1 s1 r1 => ?_⟩
  cases r1.int_
  obtain ⟨a', u', m1, m2, m3⟩ := E1.has h1 (.lst _)
  rw [k1] at m1
  cases m1
  cases m3 with
  | lst t =>
    obtain ⟨w, h3, h4⟩ := t.at_ e
    exact ⟨_, _, j, w, rfl, rfl, SqL.of m2, h3, q _ H1 F1 E1 s1 h4⟩
/-! arguments -/
theorem ea_nil : EvA K B Γ tNil [] Γ := fun σ H F E Q q => q [] H F E (Same.refl _) .nil
theorem ea_cons {ta : TE} {t : TA} {x : D} {xs : List D} (ha : EvE K B Γ ta x Γ1) (ht : EvA K B Γ1 t xs Γ2) : EvA K B Γ (tCons ta t) (x :: xs) Γ2 := fun σ H F E Q q =>
  ha σ H F E _ fun u H1 F1 E1 s1 r1 => ht σ H1 F1 E1 _ fun vs H2 F2 E2 s2 r2 => q _ H2 F2 E2 (s1.trans s2) (.cons (r1.same s2) r2)
theorem ev_tup {t : TA} {xs : List D} (h : EvA K B Γ t xs Γ1) (l : xs.length ≤ sizeLine) : EvE K B Γ (tTup t) (.tup xs) Γ1 := fun σ H F E Q q =>
  h σ H F E _ fun vs H1 F1 E1 s1 r1 => ⟨by rw [r1.len]; exact l, fun p hp => q _ _ _ (E1.grow (.new E1.i hp)) (s1.trans (sameN (E1.i.free hp))) (.ref upd_same (.tup (r1.same (sameN (E1.i.free hp)))))⟩
/-- a new object is nobody's -/
theorem Env.newO {σ : L2.St} {H F : Hp} (E : Env K B Γ σ H F) {p : Addr} (hp : H p = none) (j : Nat) (b : Nat) (y : D) (h : Γ[j]? = some (.own b y)) (hs : σ[j]? = some (some (.ref p))) : False := by
  obtain ⟨a, o, h1, _, _, h2, _⟩ := E.own h
  rw [hs] at h1
  cases h1
  rw [hp] at h2
  cases h2
theorem evo_new {t : TE} {x : D} (h : ∀ σ H F, Env K B Γ σ H F → ∀ Q : VK, (∀ p o H' F', Env K B Γ1 σ H' F' → Same F F' → H' p = none → RepO K F' o x → Q (.ref p) (upd H' p o)) → t σ H Q) : EvO K B Γ t x Γ1 := fun σ H F E Q q =>
  h σ H F E _ fun p o H' F' E' s hp r => q p o _ F' (E'.grow (.newO E'.i hp)) s (E'.i.free hp) (E'.fresh hp).1 (E'.fresh hp).2.1 (E'.newO hp) upd_same r
theorem evo_lst {t : TA} {xs : List D} (h : EvA K B Γ t xs Γ1) (l : xs.length ≤ sizeLine) : EvO K B Γ (tLst t) (.lst xs) Γ1 := evo_new fun σ H F E Q q =>
  h σ H F E _ fun vs H1 F1 E1 s1 r1 => ⟨by rw [r1.len]; exact l, fun p hp => q p _ H1 F1 E1 s1 hp (.lst r1)⟩
/-- lists put together -/
theorem evo_cat {ta tb : TE} {xs ys : List D} (ha : EvE K B Γ ta (.lst xs) Γ1) (hb : EvR K B Γ1 tb (.lst ys) Γ2) (l : xs.length + ys.length ≤ sizeLine) : EvO K B Γ (tOp rCat ta tb) (.lst (xs ++ ys)) Γ2 := evo_new fun σ H F E Q q =>
  ha σ H F E _ fun u H1 F1 E1 s1 r1 => hb σ H1 F1 E1 _ fun b o2 H2 F2 E2 s2 h2 r2 => by
    obtain ⟨a, vs, rfl, k1, k2⟩ := (r1.same s2).lst_
    cases r2 with
    | lst t2 => exact ⟨a, b, _, _, rfl, rfl, E2.i _ _ k1, h2, by rw [k2.len, t2.len]; exact l, fun p hp => q p _ H2 F2 E2 (s1.trans s2) hp (.lst (k2.append t2))⟩
/-! tests -/
theorem et_b {t : TE} {b : Bool} (h : EvE K B Γ t (.bl b) Γ1) : EvT K B Γ (tB t) b Γ1 := fun σ H F E Q q => h σ H F E _ fun v H1 F1 E1 s1 r1 => by
  cases r1.bl_
  exact ⟨b, rfl, q H1 F1 E1 s1⟩
theorem et_test {t : TE} {b : Bool} (h : EvE K B Γ t (.bl b) Γ1) : EvT K B Γ (tTest t) b Γ1 := fun σ H F E Q q => h σ H F E _ fun v H1 F1 E1 s1 r1 => by
  cases r1.bl_
  exact ⟨b, rfl, q H1 F1 E1 s1⟩
theorem et_and {s t : TT} {b c : Bool} (h : EvT K B Γ s b Γ1) (k : b = true → EvT K B Γ1 t c Γ1) : EvT K B Γ (tAnd s t) (b && c) Γ1 := fun σ H F E Q q => h σ H F E _ fun H1 F1 E1 s1 => by
  cases b with
  | true => exact iteT (k rfl σ H1 F1 E1 _ fun H2 F2 E2 s2 => q H2 F2 E2 (s1.trans s2))
  | false => exact iteF (q H1 F1 E1 s1)
theorem et_or {s t : TT} {b c : Bool} (h : EvT K B Γ s b Γ1) (k : b = false → EvT K B Γ1 t c Γ1) : EvT K B Γ (tOr s t) (b || c) Γ1 := fun σ H F E Q q => h σ H F E _ fun H1 F1 E1 s1 => by
  cases b with
  | true => exact iteT (q H1 F1 E1 s1)
  | false => exact iteF (k rfl σ H1 F1 E1 _ fun H2 F2 E2 s2 => q H2 F2 E2 (s1.trans s2))
theorem et_not {s : TT} {b : Bool} (h : EvT K B Γ s b Γ1) : EvT K B Γ (tNot s) (!b) Γ1 := fun σ H F E Q q => h σ H F E _ fun H1 F1 E1 s1 => q H1 F1 E1 s1
theorem et_yes : EvT K B Γ tYes true Γ := fun σ H F E Q q => q H F E (Same.refl _)
theorem ev_andB {s t : TE} {b c : Bool} (h : EvE K B Γ s (.bl b) Γ1) (k : b = true → EvE K B Γ1 t (.bl c) Γ1) : EvE K B Γ (tAndV s t) (.bl (b && c)) Γ1 := fun σ H F E Q q => h σ H F E _ fun v H1 F1 E1 s1 r1 => by
  cases r1.bl_
  refine ⟨b, rfl, ?_⟩
  cases b with
  | true => exact iteT (k rfl σ H1 F1 E1 _ fun w H2 F2 E2 s2 r2 => q w H2 F2 E2 (s1.trans s2) r2)
  | false => exact iteF (q _ H1 F1 E1 s1 (.bl false))
theorem ev_orB {s t : TE} {b c : Bool} (h : EvE K B Γ s (.bl b) Γ1) (k : b = false → EvE K B Γ1 t (.bl c) Γ1) : EvE K B Γ (tOrV s t) (.bl (b || c)) Γ1 := fun σ H F E Q q => h σ H F E _ fun v H1 F1 E1 s1 r1 => by
  cases r1.bl_
  refine ⟨b, rfl, ?_⟩
  cases b with
  | true => exact iteT (q _ H1 F1 E1 s1 (.bl true))
  | false => exact iteF (k rfl σ H1 F1 E1 _ fun w H2 F2 E2 s2 r2 => q w H2 F2 E2 (s1.trans s2) r2)
theorem ev_notV {s : TE} {b : Bool} (h : EvE K B Γ s (.bl b) Γ1) : EvE K B Γ (tNotV s) (.bl (!b)) Γ1 := fun σ H F E Q q => h σ H F E _ fun v H1 F1 E1 s1 r1 => by
  cases r1.bl_
  exact ⟨b, rfl, q _ H1 F1 E1 s1 (.bl _)⟩
theorem ev_if {c : TT} {s t : TE} {b : Bool} {x : D} (h : EvT K B Γ c b Γ1) (k1 : b = true → EvE K B Γ1 s x Γ2) (k2 : b = false → EvE K B Γ1 t x Γ2) : EvE K B Γ (tIf c s t) x Γ2 := fun σ H F E Q q => h σ H F E _ fun H1 F1 E1 s1 => by
  cases b with
  | true => exact iteT (k1 rfl σ H1 F1 E1 _ fun w H2 F2 E2 s2 r2 => q w H2 F2 E2 (s1.trans s2) r2)
  | false => exact iteF (k2 rfl σ H1 F1 E1 _ fun w H2 F2 E2 s2 r2 => q w H2 F2 E2 (s1.trans s2) r2)
theorem ev_ifP {c : TT} {s t : TE} {b : Bool} {α : Type} [Rp α] {x y : α} (h : EvT K B Γ c b Γ1) (k1 : b = true → EvE K B Γ1 s (toD x) Γ1) (k2 : b = false → EvE K B Γ1 t (toD y) Γ1) : EvE K B Γ (tIf c s t) (toD (if b = true then x else y)) Γ1 := by
  refine ev_if h (fun e => ?_) (fun e => ?_)
  · rw [if_pos e]; exact k1 e
  · rw [if_neg (by rw [e]; decide)]; exact k2 e
theorem ev_ifM {c : TT} {s t : TE} {b : Bool} {κ : Type} {m1 m2 : Option κ} {k : κ} {φ : κ → D} {ψ : κ → List En} (e : (if b = true then m1 else m2) = some k) (h : EvT K B Γ c b Γ1) (k1 : b = true → ∀ k, m1 = some k → EvE K B Γ1 s (φ k) (ψ k)) (k2 : b = false → ∀ k, m2 = some k → EvE K B Γ1 t (φ k) (ψ k)) : EvE K B Γ (tIf c s t) (φ k) (ψ k) := by
  refine ev_if h (fun z => ?_) (fun z => ?_)
  · rw [if_pos z] at e; exact k1 z k e
  · rw [if_neg (by rw [z]; decide)] at e; exact k2 z k e
/-! builtin calls -/
theorem ev_lenL {t : TE} {xs : List D} (h : EvR K B Γ t (.lst xs) Γ1) : EvE K B Γ (tCB (fun xs H Q => ∃ p ys, xs = [.ref p] ∧ (SqL K H p ys ∨ SqT K H p ys) ∧ Q (.int (ys.length : Nat)) H) (tCons t tNil)) (.int (xs.length : Nat)) Γ1 := fun σ H F E Q q =>
  h σ H F E _ fun a o H1 F1 E1 s1 h1 r1 => by
    cases r1 with
    | lst t1 => exact ⟨a, _, rfl, .inl (SqL.of h1), by rw [t1.len]; exact q _ H1 F1 E1 s1 (.int _)⟩
theorem ev_lenT {t : TE} {xs : List D} (h : EvRT K B Γ t xs Γ1) : EvE K B Γ (tCB (fun xs H Q => ∃ p ys, xs = [.ref p] ∧ (SqL K H p ys ∨ SqT K H p ys) ∧ Q (.int (ys.length : Nat)) H) (tCons t tNil)) (.int (xs.length : Nat)) Γ1 := fun σ H F E Q q =>
  h σ H F E _ fun a vs H1 F1 E1 s1 h1 r1 => ⟨a, _, rfl, .inr h1, by rw [r1.len]; exact q _ H1 F1 E1 s1 (.int _)⟩
theorem ev_any {t : TE} {ns : List Bool} (h : EvR K B Γ t (.lst (ns.map D.bl)) Γ1) : EvE K B Γ (tCB (rAny K) (tCons t tNil)) (.bl (ns.any id)) Γ1 := fun σ H F E Q q =>
  h σ H F E _ fun a o H1 F1 E1 s1 h1 r1 => by
    cases r1 with
    | lst t1 => exact ⟨a, ns, rfl, by rw [← t1.bls]; exact SqL.of h1, q _ H1 F1 E1 s1 (.bl _)⟩
theorem ev_all {t : TE} {ns : List Bool} (h : EvR K B Γ t (.lst (ns.map D.bl)) Γ1) : EvE K B Γ (tCB (rAll K) (tCons t tNil)) (.bl (ns.all id)) Γ1 := fun σ H F E Q q =>
  h σ H F E _ fun a o H1 F1 E1 s1 h1 r1 => by
    cases r1 with
    | lst t1 => exact ⟨a, ns, rfl, by rw [← t1.bls]; exact SqL.of h1, q _ H1 F1 E1 s1 (.bl _)⟩
theorem ev_cb1 {r : List V → Hp → VK → Prop} {t : TE} {x y : D} (h : EvE K B Γ t x Γ1) (hr : ∀ H F u, Same F H → Rep K F u x → ∀ Q : VK, (∀ w H' F', Grow H F H' F' → Rep K F' w y → Q w H') → r [u] H Q) : EvE K B Γ (tCB r (tCons t tNil)) y Γ1 := fun σ H F E Q q =>
  h σ H F E _ fun u H1 F1 E1 s1 r1 => hr H1 F1 u E1.i r1 _ fun w H2 F2 g r2 => q w H2 F2 (E1.grow g) (s1.trans g.f) r2
theorem ev_cb2 {r : List V → Hp → VK → Prop} {t t' : TE} {x x' y : D} (h : EvE K B Γ t x Γ1) (h' : EvE K B Γ1 t' x' Γ2) (hr : ∀ H F u v, Same F H → Rep K F u x → Rep K F v x' → ∀ Q : VK, (∀ w H' F', Grow H F H' F' → Rep K F' w y → Q w H') → r [u, v] H Q) : EvE K B Γ (tCB r (tCons t (tCons t' tNil))) y Γ2 := fun σ H F E Q q =>
  h σ H F E _ fun u H1 F1 E1 s1 r1 => h' σ H1 F1 E1 _ fun v H2 F2 E2 s2 r2 => hr H2 F2 u v E2.i (r1.same s2) r2 _ fun w H3 F3 g r3 => q w H3 F3 (E2.grow g) ((s1.trans s2).trans g.f) r3
theorem ev_lenS {t : TE} {z : Str} (h : EvE K B Γ t (.str z) Γ1) (l : z.length ≤ sizeLine) : EvE K B Γ (tCB (fun xs H Q => ∃ z, xs = [.str z] ∧ z.length ≤ sizeLine ∧ Q (.int (z.length : Nat)) H) (tCons t tNil)) (.int (z.length : Nat)) Γ1 := ev_cb1 h fun H F u s r Q q => by
  cases r.str_
  exact ⟨z, rfl, l, q _ H F (.refl s) (.int _)⟩
theorem ev_int1 {t : TE} {i : Int} (h : EvE K B Γ t (.int i) Γ1) : EvE K B Γ (tCB (fun xs H Q => (∃ i, xs = [.int i] ∧ Q (.int i) H) ∨ ∃ k, xs = [.bl k] ∧ Q (.int (if k = true then 1 else 0)) H) (tCons t tNil)) (.int i) Γ1 := ev_cb1 h fun H F u s r Q q => by
  cases r.int_
  exact .inl ⟨i, rfl, q _ H F (.refl s) (.int _)⟩
theorem ev_strI {t : TE} {i : Int} (h : EvE K B Γ t (.int i) Γ1) (l : i.natAbs.log2 < 1920) : EvE K B Γ (tCB (fun xs H Q => ∃ i, xs = [.int i] ∧ i.natAbs.log2 < 1920 ∧ Q (.str (Str.ofString (toString i))) H) (tCons t tNil)) (.str (Str.ofString (toString i))) Γ1 := ev_cb1 h fun H F u s r Q q => by
  cases r.int_
  exact ⟨i, rfl, l, q _ H F (.refl s) (.str _)⟩
theorem ev_divmod {t t' : TE} {i j : Int} (h : EvE K B Γ t (.int i) Γ1) (h' : EvE K B Γ1 t' (.int j) Γ2) (c : CDivP i j) : EvE K B Γ (tCB (fun xs H Q => ∃ i j, xs = [.int i, .int j] ∧ CDivP i j ∧ ∀ p, H p = none → Q (.ref p) (upd H p (.tup [.int (i / j), .int (i % j)]))) (tCons t (tCons t' tNil))) (.tup [.int (i / j), .int (i % j)]) Γ2 := ev_cb2 h h' fun H F u v s r r' Q q => by
  cases r.int_
  cases r'.int_
  exact ⟨i, j, rfl, c, fun p hp => q _ _ _ (.new s hp) (.ref upd_same (.tup (.cons (.int _) (.cons (.int _) .nil))))⟩
theorem ev_tuple {t : TE} {xs : List D} (h : EvR K B Γ t (.lst xs) Γ1) : EvE K B Γ (tCB (fun xs H Q => ∃ p ys, xs = [.ref p] ∧ ((SqL K H p ys ∧ ∀ l, H l = none → Q (.ref l) (upd H l (.tup ys))) ∨ (SqT K H p ys ∧ Q (.ref p) H))) (tCons t tNil)) (.tup xs) Γ1 := fun σ H F E Q q =>
  h σ H F E _ fun a o H1 F1 E1 s1 h1 r1 => by
    cases r1 with
    | lst t1 => exact ⟨a, _, rfl, .inl ⟨SqL.of h1, fun l hl => q _ _ _ (E1.grow (.new E1.i hl)) (s1.trans (sameN (E1.i.free hl))) (.ref upd_same (.tup (t1.same (sameN (E1.i.free hl)))))⟩⟩
theorem evo_list {t : TE} {xs : List D} (h : EvR K B Γ t (.lst xs) Γ1) : EvO K B Γ (tCB (fun xs H Q => ∃ p ys, xs = [.ref p] ∧ (SqL K H p ys ∨ SqT K H p ys) ∧ ∀ l, H l = none → Q (.ref l) (upd H l (.lst ys))) (tCons t tNil)) (.lst xs) Γ1 := evo_new fun σ H F E Q q =>
  h σ H F E _ fun a o H1 F1 E1 s1 h1 r1 => by
    cases r1 with
    | lst t1 => exact ⟨a, _, rfl, .inl (SqL.of h1), fun l hl => q l _ H1 F1 E1 s1 hl (.lst t1)⟩
/-! isinstance of a builtin class -/
def D.ty : D → Option String
  | .non => some "NoneType"
  | .bl _ => some "bool"
  | .int _ => some "int"
  | .str _ => some "str"
  | .tup _ => some "tuple"
  | .tupF _ => some "tuple"
  | .lst _ => some "list"
  | _ => none
theorem Rep.ty {F H : Hp} {v : V} {x : D} {n : String} (s : Same F H) (h : Rep K F v x) (e : x.ty = some n) : TyX K H v (.type n) := by
  cases h with
  | non => cases e; exact .base .non
  | bl b => cases e; exact .base (.bl _)
  | int b => cases e; exact .base (.int _)
  | str b => cases e; exact .base (.str _)
  | cls c => cases e
  | slo h h2 t => cases e
  | kt h =>
    cases e
    obtain ⟨o, its, m, h1, h2, _⟩ := h
    exact .kTuple h1 h2
  | fz h t => cases e; exact .fTuple (s _ _ h)
  | fzF h c d t => cases e; exact .fTuple (s _ _ h)
  | ref h t =>
    cases t with
    | tup t => cases e; exact .base (.tup (s _ _ h))
    | lst t => cases e; exact .base (.lst (s _ _ h))
    | _ => cases e
theorem ev_isi {t : TE} {x : D} {n m : String} {b : Bool} (h : EvE K B Γ t x Γ1) (e : x.ty = some n) (k : PySem.W.kitOne K (.type n) (.type m) = some b) : EvE K B Γ (tCB (rIsi K) (tCons t (tCons (tC (.ty m)) tNil))) (.bl b) Γ1 := fun σ H F E Q q =>
  h σ H F E _ fun v H1 F1 E1 s1 r1 => ⟨_, _, _, _, b, rfl, .ty m, r1.ty E1.i e, k, q _ H1 F1 E1 s1 (.bl b)⟩
end
end Ev
namespace Ev
open PySem L2 Hv
set_option autoImplicit false
/-! ### how a statement ends -/
inductive Out where
  | nx (Γ : List En) | nc (Γ : List En) | bk (Γ : List En) | rt (y : D) (w : List (Nat × D)) | ro (y : D)
def WOk (w : List (Nat × D)) (Γ : List En) : Prop := ∀ q ∈ w, ∃ i : Nat, Γ[i]? = some (.own (q.1 + 1) q.2)
section
variable (K : PySem.W.Frag) (B : Bs)
def Out.k (Dn : Ends) (F : Hp) : Out → Prop
  | .nx Γ => ∀ σ H F', Env K B Γ σ H F' → Same F F' → Dn.nx σ H
  | .nc Γ => (∀ σ H F', Env K B Γ σ H F' → Same F F' → Dn.nx σ H) ∧ ∀ σ H F', Env K B Γ σ H F' → Same F F' → Dn.ct σ H
  | .bk Γ => ∀ σ H F', Env K B Γ σ H F' → Same F F' → Dn.bk σ H
  | .rt y w => ∀ v σ H F Γ, Env K B Γ σ H F → WOk w Γ → Rep K F v y → Dn.rt v H
  | .ro y => ∀ a o σ H F Γ, Env K B Γ σ H F → F a = none → B.H0 a = none → H a = some o → RepO K F o y → Dn.rt (.ref a) H
def EvS1 (Γ : List En) (t : TS) (o : Out) : Prop := ∀ Dn σ H F, Env K B Γ σ H F → o.k K B Dn F → t Dn σ H
def EvS (Γ : List En) (t : TS) {κ : Type} (Kn : κ → Out) (m : Option κ) : Prop := ∀ k, m = some k → EvS1 K B Γ t (Kn k)
/-- a target -/
def EvG (Γ : List En) (g : TG) (x : D) (Γ' : List En) : Prop := ∀ σ H F v, Env K B Γ σ H F → Rep K F v x → ∀ Q : L2.St → Hp → Prop, (∀ σ' H' F', Env K B Γ' σ' H' F' → Same F F' → Q σ' H') → g v σ H Q
def EvGs (Γ : List En) (g : TGs) (xs : List D) (Γ' : List En) : Prop := ∀ σ H F vs, Env K B Γ σ H F → Reps K F vs xs → ∀ Q : L2.St → Hp → Prop, (∀ σ' H' F', Env K B Γ' σ' H' F' → Same F F' → Q σ' H') → g vs σ H Q
/-- what a for walks -/
def EvI (Γ : List En) (wi : TI) (xs : List D) (Γ1 : List En) : Prop := ∀ σ H F, Env K B Γ σ H F → ∀ R : It → Hp → Prop,
  (∀ J H1 F1 (G : Hp → Prop) (Y : Nat → Hp → V → Hp → Prop), Env K B Γ1 σ H1 F1 → Same F F1 → Walk J xs.length G Y → (∀ F' H', Same F1 F' → Same F' H' → G H') →
    (∀ i H' F' v H'', Same F1 F' → Same F' H' → Y i H' v H'' → ∃ F'' x, Grow H' F' H'' F'' ∧ xs[i]? = some x ∧ Rep K F'' v x) → R J H1) → wi σ H R
end
/-! loops, in Lean -/
inductive Lp (ρ σ : Type) where
  | go (s : σ) | stop (s : σ) | ret (y : ρ)
inductive Ex (ρ σ : Type) where
  | done (s : σ) | ret (y : ρ)
/-- at most n turns -/
def itR {ρ σ : Type} (f : σ → Option (Lp ρ σ)) : Nat → σ → Option (Ex ρ σ)
  | 0, _ => none
  | n + 1, s => match f s with
    | none => none
    | some (.go s') => itR f n s'
    | some (.stop s') => some (.done s')
    | some (.ret y) => some (.ret y)
theorem itR_mono {ρ σ : Type} {f : σ → Option (Lp ρ σ)} : ∀ {n m : Nat} {s : σ} {r : Ex ρ σ}, n ≤ m → itR f n s = some r → itR f m s = some r
  | 0, _, _, _, _, h => by cases h
  | n + 1, 0, _, _, l, _ => by omega
  | n + 1, m + 1, s, r, l, h => by
    unfold itR at h ⊢
    cases e : f s with
    | none => rw [e] at h; cases h
    | some p =>
      rw [e] at h
      cases p with
      | go s' => exact itR_mono (by omega) h
      | stop s' => exact h
      | ret y => exact h
open Classical in
/-- a while -/
noncomputable def whR {ρ σ : Type} (f : σ → Option (Lp ρ σ)) (s : σ) : Option (Ex ρ σ) := if h : ∃ n r, itR f n s = some r then some (Classical.choose (Classical.choose_spec h)) else none
theorem whR_of {ρ σ : Type} {f : σ → Option (Lp ρ σ)} {n : Nat} {s : σ} {r : Ex ρ σ} (h : itR f n s = some r) : whR f s = some r := by
  have e : ∃ n r, itR f n s = some r := ⟨n, r, h⟩
  unfold whR
  rw [dif_pos e]
  have k := Classical.choose_spec (Classical.choose_spec e)
  generalize Classical.choose (Classical.choose_spec e) = r' at k
  generalize Classical.choose e = n' at k
  have a := itR_mono (Nat.le_max_left n n') h
  have b := itR_mono (Nat.le_max_right n n') k
  rw [a] at b
  rw [Option.some.inj b]
theorem whR_out {ρ σ : Type} {f : σ → Option (Lp ρ σ)} {s : σ} {r : Ex ρ σ} (h : whR f s = some r) : ∃ n, itR f n s = some r := by
  unfold whR at h
  split at h
  · rename_i e
    have k := Classical.choose_spec (Classical.choose_spec e)
    rw [Option.some.inj h] at k
    exact ⟨_, k⟩
  · cases h
/-- what follows a loop that may return -/
def exB {ρ τ κ : Type} (p : Option (Ex ρ τ)) (k1 : τ → Option κ) (k2 : ρ → Option κ) : Option κ := p.bind fun
    | .done v => k1 v
    | .ret y => k2 y
/-- without a return inside -/
def forS {α σ : Type} (f : σ → α → Option σ) : σ → List α → Option σ
  | s, [] => some s
  | s, x :: xs => (f s x).bind fun s' => forS f s' xs
/-- a comprehension -/
def lcS {α β σ : Type} (f : σ → α → Option (Option β × σ)) : σ → List α → Option (List β × σ)
  | s, [] => some ([], s)
  | s, x :: xs => (f s x).bind fun p => (lcS f p.2 xs).bind fun q => some (p.1.toList ++ q.1, q.2)
section
variable {K : PySem.W.Frag} {B : Bs} {Γ Γ1 Γ2 Γ3 Γ4 : List En} {κ : Type} {Kn : κ → Out} {m : Option κ}
theorem Out.k.mono {o : Out} {Dn : Ends} {F F1 : Hp} (h : o.k K B Dn F) (s : Same F F1) : o.k K B Dn F1 := by
  cases o with
  | nx Γ => exact fun σ H F' E s' => h σ H F' E (s.trans s')
  | nc Γ => exact ⟨fun σ H F' E s' => h.1 σ H F' E (s.trans s'), fun σ H F' E s' => h.2 σ H F' E (s.trans s')⟩
  | bk Γ => exact fun σ H F' E s' => h σ H F' E (s.trans s')
  | rt y w => exact h
  | ro y => exact h
/-! ### binding -/
theorem bnd {α : Type} {t : TS} {p : Option α} {f : α → Option κ} (h : ∀ v, p = some v → EvS K B Γ t Kn (f v)) : EvS K B Γ t Kn (p.bind f) := fun k e => by
  cases q : p with
  | none => rw [q] at e; cases e
  | some v =>
    rw [q] at e
    exact h v q k e
theorem grd {t : TS} {p : Prop} [Decidable p] (h : p → EvS K B Γ t Kn m) : EvS K B Γ t Kn (if p then m else none) := fun k e => by
  by_cases q : p
  · rw [if_pos q] at e
    exact h q k e
  · rw [if_neg q] at e
    cases e
theorem out_none {t : TS} : EvS K B Γ t Kn none := fun _ e => nomatch e
theorem one {t : TS} {k : κ} (h : EvS1 K B Γ t (Kn k)) : EvS K B Γ t Kn (some k) := fun k' e => by
  cases e
  exact h
theorem EvS.weak {t : TS} (w : Wk Γ Γ1) (h : EvS K B Γ1 t Kn m) : EvS K B Γ t Kn m := fun k e Dn σ H F E q => h k e Dn σ H F (E.weak w) q
theorem EvS.freeze {t : TS} (i : Nat) {x : D} (hi : Γ[i]? = some (.own 0 x)) (h : EvS K B (Γ.set i (.d x)) t Kn m) : EvS K B Γ t Kn m := fun k e Dn σ H F E q => by
  obtain ⟨F', E', s⟩ := E.freeze hi
  exact h k e Dn σ H F' E' (q.mono s)
theorem EvS1.freeze {t : TS} {o : Out} (i : Nat) {x : D} (hi : Γ[i]? = some (.own 0 x)) (h : EvS1 K B (Γ.set i (.d x)) t o) : EvS1 K B Γ t o := fun Dn σ H F E q => by
  obtain ⟨F', E', s⟩ := E.freeze hi
  exact h Dn σ H F' E' (q.mono s)
/-- the slots seen as others of the same kind -/
theorem EvS.env {t : TS} (e : Γ = Γ1) (h : EvS K B Γ1 t Kn m) : EvS K B Γ t Kn m := e ▸ h
theorem EvS1.env {t : TS} {o : Out} (e : Γ = Γ1) (h : EvS1 K B Γ1 t o) : EvS1 K B Γ t o := e ▸ h
/-! ### targets -/
theorem eg_name {i : Nat} {x : D} : EvG K B Γ (gName i) x (Γ.set i (.d x)) := fun σ H F v E r Q q => q _ _ _ (E.setD r) (Same.refl _)
theorem egs_nil : EvGs K B Γ gNil [] Γ := fun σ H F vs E r Q q => by
  cases r
  exact ⟨rfl, q σ H F E (Same.refl _)⟩
theorem egs_cons {g : TG} {gs : TGs} {x : D} {xs : List D} (h : EvG K B Γ g x Γ1) (k : EvGs K B Γ1 gs xs Γ2) : EvGs K B Γ (gCons g gs) (x :: xs) Γ2 := fun σ H F vs E r Q q => by
  cases r with
  | cons r1 r2 => exact ⟨_, _, rfl, h σ H F _ E r1 _ fun σ1 H1 F1 E1 s1 => k σ1 H1 F1 _ E1 (r2.same s1) _ fun σ2 H2 F2 E2 s2 => q σ2 H2 F2 E2 (s1.trans s2)⟩
theorem eg_tup {n : Nat} {gs : TGs} {xs : List D} (h : EvGs K B Γ gs xs Γ1) (l : xs.length = n) : EvG K B Γ (gTup K n gs) (.tup xs) Γ1 := fun σ H F v E r Q q => by
  obtain ⟨a, vs, rfl, h1, h2⟩ := r.tup_
  exact ⟨_, _, rfl, (h1 _ E.i), by rw [h2.len]; exact l, h σ H F _ E h2 Q q⟩
/-- an item of a list of one's own -/
theorem eg_sub {i : Nat} {ti : TE} {p : Nat} {xs : List D} {x : D} {j : Int} {n : Nat} (hi : Γ[i]? = some (.own p (.lst xs))) (h : EvE K B Γ ti (.int j) Γ) (e : ixN xs.length j = some n) : EvG K B Γ (gSub (tVar i) ti rSetL) x (Γ.set i (.own p (.lst (xs.set n x)))) := fun σ H F v E r Q q => by
  obtain ⟨a, o, h1, _⟩ := E.own hi
  refine ⟨_, h1, h σ H F E _ fun w H1 F1 E1 s1 r1 => ?_⟩
  cases r1.int_
  obtain ⟨a', o', k1, k2, k3, k4, k5⟩ := E1.own hi
  rw [h1] at k1
  cases k1
  cases k5 with
  | lst t => exact ⟨_, _, j, n, rfl, rfl, k4, by rw [t.len]; exact e, q σ _ F1 (E1.chg (o' := .lst _) hi h1 (.lst (t.set (r.same s1) n))) s1⟩
/-! ### statements -/
theorem es_endN (w : Wk Γ Γ1 := by repeat first | exact .nil | apply Wk.keep | apply Wk.drop) : EvS1 K B Γ tNext (.nx Γ1) := fun Dn σ H F E k => k σ H F (E.weak w) (Same.refl _)
theorem es_end (w : Wk Γ Γ1 := by repeat first | exact .nil | apply Wk.keep | apply Wk.drop) : EvS1 K B Γ tNext (.nc Γ1) := fun Dn σ H F E k => k.1 σ H F (E.weak w) (Same.refl _)
theorem es_ret {t : TE} {u : TS} {x : D} {w : List (Nat × D)} (h : EvE K B Γ t x Γ1) (hw : WOk w Γ1) : EvS1 K B Γ (tSeq (tRet t) u) (.rt x w) := fun Dn σ H F E q => h σ H F E _ fun v H1 F1 E1 s1 r1 => q v σ H1 F1 _ E1 hw r1
theorem wok0 : WOk [] Γ := fun _ h => nomatch h
theorem wok1 {x : D} (h : Γ[0]? = some (.own 1 x)) : WOk [(0, x)] Γ := fun q e => by
  cases List.mem_singleton.mp e
  exact ⟨0, h⟩
/-- a statement that falls through, then the rest -/
theorem es_seq {s t : TS} (h : EvS1 K B Γ s (.nx Γ1)) (k : EvS K B Γ1 t Kn m) : EvS K B Γ (tSeq s t) Kn m := fun v e Dn σ H F E q => h _ σ H F E fun σ1 H1 F1 E1 s1 => k v e Dn σ1 H1 F1 E1 (q.mono s1)
theorem es_asg {t : TE} {g : TG} {x : D} (h : EvE K B Γ t x Γ1) (k : EvG K B Γ1 g x Γ2) : EvS1 K B Γ (tAsg t g) (.nx Γ2) := fun Dn σ H F E q => h σ H F E _ fun v H1 F1 E1 s1 r1 => k σ H1 F1 v E1 r1 _ fun σ1 H2 F2 E2 s2 => q σ1 H2 F2 E2 (s1.trans s2)
theorem es_asgO {t : TE} {i : Nat} {x : D} (h : EvO K B Γ t x Γ1) : EvS1 K B Γ (tAsg t (gName i)) (.nx (Γ1.set i (.own 0 x))) := fun Dn σ H F E q => h σ H F E _ fun a o H1 F1 E1 s1 hf h0 hm no ha hr =>
  q _ H1 F1 (E1.set (i := i) (e := .own 0 x) ⟨a, o, rfl, hf, ⟨h0, hm⟩, ha, hr⟩ (fun p y e j q' y' b hj hb1 hb2 hb3 => by
    cases hb2
    exact no j q' y' hb1 hb3)) s1
theorem es_par {i j : Nat} {ta : TA} {x y : D} (h : EvA K B Γ ta [x, y] Γ1) : EvS1 K B Γ (tPar i j ta) (.nx ((Γ1.set i (.d x)).set j (.d y))) := fun Dn σ H F E q => h σ H F E _ fun vs H1 F1 E1 s1 r1 => by
  cases r1 with
  | cons r1 r2 =>
    cases r2 with
    | cons r2 r3 =>
      cases r3
      exact ⟨_, _, rfl, q _ H1 F1 ((E1.setD r1).setD r2) s1⟩
theorem es_expr {t : TE} {x : D} (h : EvE K B Γ t x Γ1) : EvS1 K B Γ (tDrop t) (.nx Γ1) := fun Dn σ H F E q => h σ H F E _ fun v H1 F1 E1 s1 _ => q σ H1 F1 E1 s1
/-- an if whose ways join -/
theorem es_if {c : TT} {s t : TS} {b : Bool} {m1 m2 : Option κ} (h : EvT K B Γ c b Γ1) (k1 : b = true → EvS K B Γ1 s Kn m1) (k2 : b = false → EvS K B Γ1 t Kn m2) : EvS K B Γ (tIfS c s t) Kn (if b = true then m1 else m2) := fun v e Dn σ H F E q => h σ H F E _ fun H1 F1 E1 s1 => by
  cases b with
  | true => exact iteT (k1 rfl v (by simpa using e) Dn σ H1 F1 E1 (q.mono s1))
  | false => exact iteF (k2 rfl v (by simpa using e) Dn σ H1 F1 E1 (q.mono s1))
/-- the rest of a block goes into the ways of an if -/
theorem es_ifq {c : TT} {s t u : TS} {b : Bool} {m1 m2 : Option κ} (h : EvT K B Γ c b Γ1) (k1 : b = true → EvS K B Γ1 (tSeq s u) Kn m1) (k2 : b = false → EvS K B Γ1 (tSeq t u) Kn m2) : EvS K B Γ (tSeq (tIfS c s t) u) Kn (if b = true then m1 else m2) := fun v e Dn σ H F E q => h σ H F E _ fun H1 F1 E1 s1 => by
  cases b with
  | true => exact iteT (k1 rfl v (by simpa using e) Dn σ H1 F1 E1 (q.mono s1))
  | false => exact iteF (k2 rfl v (by simpa using e) Dn σ H1 F1 E1 (q.mono s1))
/-- a compound statement that falls through with a state, then the rest -/
theorem es_join {s t : TS} {τ : Type} {G : τ → List En} {p : Option τ} {f : τ → Option κ} (h : EvS K B Γ s (fun v => .nx (G v)) p) (k : ∀ v, p = some v → EvS K B (G v) t Kn (f v)) : EvS K B Γ (tSeq s t) Kn (p.bind f) := bnd fun v e => es_seq (h v e) (k v e)
/-- blocks one behind another are one block -/
theorem es_assoc {s t u : TS} (h : EvS K B Γ (tSeq s (tSeq t u)) Kn m) : EvS K B Γ (tSeq (tSeq s t) u) Kn m := fun v e Dn σ H F E q => h v e Dn σ H F E q
theorem es_skip {u : TS} (h : EvS K B Γ u Kn m) : EvS K B Γ (tSeq tNext u) Kn m := fun v e Dn σ H F E q => h v e Dn σ H F E q
/-! ### for -/
section
variable {α ρ τ : Type} {G : τ → List En} {fr : ρ → D} {fw : ρ → List (Nat × D)}
def Kx (G : τ → List En) (fr : ρ → D) (fw : ρ → List (Nat × D)) : Ex ρ τ → Out
  | .done s => .nx (G s)
  | .ret y => .rt (fr y) (fw y)
def Kl (G : τ → List En) (fr : ρ → D) (fw : ρ → List (Nat × D)) : Lp ρ τ → Out
  | .go s => .nc (G s)
  | .stop s => .bk (G s)
  | .ret y => .rt (fr y) (fw y)
theorem es_forS {wi : TI} {g : TG} {tb : TS} {f : τ → α → Option τ} {fD : α → D} {xs : List α} {s0 : τ} {G' : τ → α → List En} (hi : EvI K B Γ wi (xs.map fD) Γ1) (h0 : Wk Γ1 (G s0)) (hg : ∀ s x, EvG K B (G s) g (fD x) (G' s x)) (hb : ∀ s x, EvS K B (G' s x) tb (fun s => .nc (G s)) (f s x)) :
    EvS K B Γ (tFor wi g tb) (fun s => .nx (G s)) (forS f s0 xs) := fun r er Dn σ H F E q => hi σ H F E _ fun J H1 F1 Gw Y E1 s1 wk hG hY => by
  refine for_it (n := (xs.map fD).length) wk (fun i σ' H' => ∃ F' s, Env K B (G s) σ' H' F' ∧ Same F1 F' ∧ forS f s (xs.drop i) = some r) ⟨F1, s0, E1.weak h0, Same.refl _, er⟩ ?_ ?_ ?_
  · rintro i σ' H' _ ⟨F', s, E', s', _⟩
    exact hG F' H' s' E'.i
  · rintro i v σ' H' H'' hlt ⟨F', s, E', s', e'⟩ y
    obtain ⟨F'', x, gr, hx, rx⟩ := hY i H' F' v H'' s' E'.i y
    rw [List.getElem?_map] at hx
    have il : i < xs.length := by simpa using hlt
    rw [List.getElem?_eq_getElem il] at hx
    cases hx
    rw [List.drop_eq_getElem_cons il] at e'
    refine hg s xs[i] σ' H'' F'' v (E'.grow gr) rx _ fun σ2 H2 F2 E2 s2 => ?_
    have s2 := gr.f.trans s2
    unfold forS at e'
    cases ef : f s xs[i] with
    | none => rw [ef] at e'; cases e'
    | some st' =>
      rw [ef] at e'
      exact hb s xs[i] st' ef _ σ2 H2 F2 E2 ⟨fun σ3 H3 F3 E3 s3 => ⟨F3, st', E3, s'.trans (s2.trans s3), e'⟩, fun σ3 H3 F3 E3 s3 => ⟨F3, st', E3, s'.trans (s2.trans s3), e'⟩⟩
  · rintro σ' H' ⟨F', s, E', s', e'⟩
    rw [List.drop_of_length_le (by simp)] at e'
    cases e'
    exact q σ' H' F' E' (s1.trans s')
/-! while -/
theorem es_whR {c : TT} {tb : TS} {f : τ → Option (Lp ρ τ)} {s0 : τ} {bf : τ → Option Bool} {ff : τ → Option (Lp ρ τ)} (h0 : Wk Γ (G s0)) (hc : ∀ s b, bf s = some b → EvT K B (G s) c b (G s)) (hb : ∀ s, bf s = some true → EvS K B (G s) tb (Kl G fr fw) (ff s)) (hf : ∀ s, f s = (bf s).bind fun b => if b = true then ff s else some (.stop s)) :
    EvS K B Γ (tWhile c tb) (Kx G fr fw) (whR f s0) := fun r er Dn σ H F E q => by
  obtain ⟨n, en⟩ := whR_out er
  refine ⟨fun m σ' H' => ∃ F' s, Env K B (G s) σ' H' F' ∧ Same F F' ∧ itR f m s = some r, ⟨n, F, s0, E.weak h0, Same.refl _, en⟩, ?_⟩
  rintro m σ' H' ⟨F', s, E', s', e'⟩
  cases m with
  | zero => cases e'
  | succ m =>
    unfold itR at e'
    rw [hf] at e'
    cases eb : bf s with
    | none => rw [eb] at e'; cases e'
    | some b =>
      rw [eb] at e'
      refine hc s b eb σ' H' F' E' _ fun H1 F1 E1 s1 => ?_
      cases b with
      | false =>
        cases e'
        exact iteF (q σ' H1 F1 E1 (s'.trans s1))
      | true =>
        have e' : (match ff s with
          | none => none
          | some (.go s') => itR f m s'
          | some (.stop s') => some (.done s')
          | some (.ret y) => some (.ret y)) = some r := e'
        refine iteT ⟨fun σ2 H2 => ∃ F2 s2, Env K B (G s2) σ2 H2 F2 ∧ Same F F2 ∧ itR f m s2 = some r, fun σ2 H2 w => ⟨m, Nat.lt_succ_self m, w⟩, ?_⟩
        cases ef : ff s with
        | none => rw [ef] at e'; cases e'
        | some lp =>
          rw [ef] at e'
          refine hb s eb lp ef _ σ' H1 F1 E1 ?_
          cases lp with
          | go s2 => exact ⟨fun σ3 H3 F3 E3 s3 => ⟨F3, s2, E3, s'.trans (s1.trans s3), e'⟩, fun σ3 H3 F3 E3 s3 => ⟨F3, s2, E3, s'.trans (s1.trans s3), e'⟩⟩
          | stop s2 =>
            cases e'
            exact fun σ3 H3 F3 E3 s3 => q σ3 H3 F3 E3 (s'.trans (s1.trans s3))
          | ret y =>
            cases e'
            exact q
end
end
end Ev
namespace Ev
open PySem L2 Hv
set_option autoImplicit false
/-! ### arguments, promises -/
inductive Ar where
  | k (x : D) | b (x : D)
section
variable (K : PySem.W.Frag)
def ArR (H F : Hp) (v : V) : Ar → Prop
  | .k x => Rep K F v x
  | .b x => ∃ a o, v = .ref a ∧ H a = some o ∧ RepO K F o x
inductive Ars (H F : Hp) : List V → List Ar → Prop
  | nil : Ars H F [] []
  | cons {v : V} {x : Ar} {vs : List V} {xs : List Ar} (h : ArR K H F v x) (t : Ars H F vs xs) : Ars H F (v :: vs) (x :: xs)
def spE (pre : List Ar → D → Prop) : Sp := fun vs H Q _ => ∃ F xs y, Same F H ∧ Ars K H F vs xs ∧ pre xs y ∧ ∀ v H' F', Grow H F H' F' → Rep K F' v y → Q v H'
def spW (pre : D → List D → D → D → Prop) : Sp := fun vs H Q _ => ∃ F a o x xs vs' y x', vs = .ref a :: vs' ∧ Same F H ∧ F a = none ∧ H a = some o ∧ RepO K F o x ∧ Reps K F vs' xs ∧ pre x xs y x' ∧
  ∀ v H' F' o', (∀ c u, c ≠ a → H c = some u → H' c = some u) → Same F F' → Same F' H' → (∀ c, F c = none → F' c ≠ none → H c = none) → H' a = some o' → RepO K F' o' x' → Rep K F' v y → Q v H'
variable (B : Bs) (Γ : List En)
def EvP (t : TA) (xs : List Ar) (Γ' : List En) : Prop := ∀ σ H F, Env K B Γ σ H F → ∀ Q : List V → Hp → Prop, (∀ vs H' F', Env K B Γ' σ H' F' → Same F F' → Ars K H' F' vs xs → Q vs H') → t σ H Q
end
section
variable {K : PySem.W.Frag} {B : Bs} {Γ Γ1 Γ2 Γ3 Γ4 : List En} {X : XK}
theorem Ars.len {H F : Hp} : ∀ {vs : List V} {xs : List Ar}, Ars K H F vs xs → vs.length = xs.length
  | _, _, .nil => rfl
  | _, _, .cons _ t => by rw [List.length_cons, List.length_cons, Ars.len t]
theorem ap_nil : EvP K B Γ tNil [] Γ := fun σ H F E Q q => q [] H F E (Same.refl _) .nil
theorem ap_k {ta : TE} {t : TA} {x : D} {xs : List Ar} (ha : EvE K B Γ ta x Γ1) (ht : EvP K B Γ1 t xs Γ2) : EvP K B Γ (tCons ta t) (.k x :: xs) Γ2 := fun σ H F E Q q =>
  ha σ H F E _ fun u H1 F1 E1 s1 r1 => ht σ H1 F1 E1 _ fun vs H2 F2 E2 s2 r2 => q _ H2 F2 E2 (s1.trans s2) (.cons (r1.same s2) r2)
theorem ev_call {pre : List Ar → D → Prop} {t : TA} {xs : List Ar} {y : D} (h : EvP K B Γ t xs Γ1) (p : pre xs y) : EvE K B Γ (tCall (spE K pre) [] X t) y Γ1 := fun σ H F E Q q =>
  h σ H F E _ fun vs H1 F1 E1 s1 r1 => by
    refine ⟨F1, xs, y, E1.i, ?_, p, fun v H2 F2 g r2 => q v H2 F2 (E1.grow g) (s1.trans g.f) r2⟩
    rw [List.append_nil]
    exact r1
/-- a call that changes the object in a slot -/
theorem ev_callW {pre : D → List D → D → D → Prop} {i : Nat} {p p0 : Nat} {t : TA} {x0 x x' y : D} {xs : List D} (h0 : Γ[i]? = some (.own p0 x0)) (h : EvA K B Γ t xs Γ1) (h1 : Γ1[i]? = some (.own p x)) (q : pre x xs y x') :
    EvE K B Γ (tCall (spW K pre) [] X (tCons (tVar i) t)) y (Γ1.set i (.own p x')) := fun σ H F E Q k => by
  obtain ⟨a, o, k1, _⟩ := E.own h0
  refine ⟨_, k1, h σ H F E _ fun vs H1 F1 E1 s1 r1 => ?_⟩
  obtain ⟨a', o', m1, m2, m3, m4, m5⟩ := E1.own h1
  rw [k1] at m1
  cases m1
  have lt : i < Γ1.length := (List.getElem?_eq_some_iff.mp h1).1
  refine ⟨F1, a, o', x, xs, vs, y, x', by rw [List.append_nil], E1.i, m2, m4, m5, r1, q, fun v H2 F2 o2 hH sF i2 nF ha hr rv => ?_⟩
  have fa : F2 a = none := by
    by_cases z : F2 a = none
    · exact z
    · have := nF a m2 z
      rw [this] at m4
      cases m4
  have fr : ∀ c u, F1 c = none → H1 c = some u → F2 c = none := fun c u f hc => by
    by_cases z : F2 c = none
    · exact z
    · have := nF c f z
      rw [this] at hc
      cases hc
  refine k v H2 F2 ⟨fun c u m e => ?_, fun c m => ?_, E1.f.trans sF, i2, fun c f0 f1 => ?_, by rw [List.length_set]; exact E1.len, fun j e hj => ?_, fun j l p' q' x1 y1 b n hj hl sj sl => ?_⟩ (s1.trans sF) rv
  · by_cases z : c = a
    · subst z
      by_cases hp : p = 0
      · rw [if_pos hp] at m3
        rw [m3.1] at e
        cases e
      · rw [if_neg hp] at m3
        exact absurd ⟨p, m3⟩ m
    · exact hH c u z (E1.s c u m e)
  · obtain ⟨n1, n2⟩ := E1.m c m
    by_cases z : c = a
    · subst z
      exact ⟨fa, by rw [ha]; intro w; cases w⟩
    · cases hc : H1 c with
      | none => exact absurd hc n2
      | some u =>
        refine ⟨fr c u n1 hc, ?_⟩
        rw [hH c u z hc]
        intro w
        cases w
  · by_cases z : F1 c = none
    · have hc := nF c z f1
      exact (E1.fresh hc).1
    · exact E1.n c f0 z
  · by_cases z : j = i
    · subst z
      rw [List.getElem?_set_self lt] at hj
      cases hj
      exact ⟨_, k1, a, o2, rfl, fa, m3, ha, hr⟩
    · rw [List.getElem?_set_ne (fun w => z w.symm)] at hj
      obtain ⟨u, n1, n2⟩ := E1.sl j e hj
      refine ⟨u, n1, ?_⟩
      cases e with
      | u => trivial
      | d y' => obtain ⟨w, w1, w2⟩ := n2; exact ⟨w, w1, w2.same sF⟩
      | own p' y' =>
        obtain ⟨b, us, rfl, w2, w3, w4, w5⟩ := n2
        have ne : b ≠ a := by
          rintro rfl
          exact E1.ne j i _ _ _ _ b z hj h1 n1 k1
        exact ⟨b, us, rfl, fr b us w2 w4, w3, hH b us ne w4, w5.same sF⟩
      | bor y' =>
        obtain ⟨b, us, rfl, w2, w3, w4⟩ := n2
        exact ⟨b, us, rfl, w2, w3, w4.same sF⟩
  · have old : ∀ (m : Nat) (p' : Nat) (ws : D), (Γ1.set i (.own p x'))[m]? = some (.own p' ws) → ∃ p'' ws', Γ1[m]? = some (.own p'' ws') := fun m p' ws hm => by
      by_cases z : m = i
      · subst z
        exact ⟨_, _, h1⟩
      · rw [List.getElem?_set_ne (fun w => z w.symm)] at hm
        exact ⟨_, _, hm⟩
    obtain ⟨_, _, o1⟩ := old _ _ _ hj
    obtain ⟨_, _, o2⟩ := old _ _ _ hl
    exact E1.ne j l _ _ _ _ b n o1 o2 sj sl
/-! ### the start of a body -/
def enA : Ar → En
  | .k x => .d x
  | .b x => .bor x
def inits (es : List En) (n : Nat) : List En := es ++ List.replicate (n - es.length) En.u
theorem start_sl {H F : Hp} {vs : List V} {es : List En} {N : List Str} (l : vs.length = es.length) (h : ∀ (i : Nat) (e : En), es[i]? = some e → ∃ v, vs[i]? = some v ∧ Slot K B H F e (some v)) : ∀ (i : Nat) (e : En), (inits es N.length)[i]? = some e → ∃ o, (L2.start N vs)[i]? = some o ∧ Slot K B H F e o := fun i e hi => by
  unfold inits at hi
  unfold L2.start
  by_cases q : i < es.length
  · rw [List.getElem?_append_left q] at hi
    obtain ⟨v, h1, h2⟩ := h i e hi
    rw [List.getElem?_append_left (by simpa [l] using q), List.getElem?_map, h1]
    exact ⟨_, rfl, h2⟩
  · rw [List.getElem?_append_right (by simpa using q), List.getElem?_replicate] at hi
    rw [List.getElem?_append_right (by simpa [l] using q), List.getElem?_replicate]
    split at hi
    · cases hi
      rw [if_pos (by rw [List.length_map] at *; omega)]
      exact ⟨_, rfl, trivial⟩
    · cases hi
theorem start_len {vs : List V} {es : List En} {N : List Str} (l : vs.length = es.length) : (L2.start N vs).length = (inits es N.length).length := by
  unfold L2.start inits
  rw [List.length_append, List.length_append, List.length_map, List.length_replicate, List.length_replicate, l]
theorem Ars.get {H F : Hp} : ∀ {vs : List V} {xs : List Ar}, Ars K H F vs xs → ∀ {i : Nat} {x : Ar}, xs[i]? = some x → ∃ v, vs[i]? = some v ∧ ArR K H F v x
  | _, _, .cons (v := v) h t, 0, x, e => by
    cases e
    exact ⟨v, rfl, h⟩
  | _, _, .cons h t, i + 1, x, e => Ars.get t (i := i) (x := x) (by simpa using e)
theorem env_startE {H F : Hp} {vs : List V} {xs : List Ar} {N : List Str} (s : Same F H) (r : Ars K H F vs xs) : Env K ⟨H, F, fun _ _ => False⟩ (inits (xs.map enA) N.length) (L2.start N vs) H F := by
  have l := r.len
  refine ⟨fun _ _ _ h => h, fun _ ⟨_, m⟩ => m.elim, Same.refl _, s, fun a f0 f1 => absurd f0 f1, start_len (by rw [List.length_map]; exact l), start_sl (by rw [List.length_map]; exact l) (fun i e h => ?_), fun i j p q x y a _ h1 => ?_⟩
  · rw [List.getElem?_map] at h
    cases e1 : xs[i]? with
    | none => rw [e1] at h; cases h
    | some x =>
      rw [e1] at h
      cases h
      obtain ⟨v, e2, rv⟩ := r.get e1
      refine ⟨v, e2, ?_⟩
      cases x with
      | k x => exact ⟨v, rfl, rv⟩
      | b x =>
        obtain ⟨a, o, rfl, h2, h3⟩ := rv
        exact ⟨a, o, rfl, h2, (fun ⟨_, z⟩ => z), h3⟩
  · unfold inits at h1
    by_cases z : i < xs.length
    · rw [List.getElem?_append_left (by simpa using z), List.getElem?_map] at h1
      cases e1 : xs[i]? with
      | none => rw [e1] at h1; cases h1
      | some x =>
        rw [e1] at h1
        cases x <;> cases h1
    · rw [List.getElem?_append_right (by simpa using z), List.getElem?_replicate] at h1
      split at h1 <;> cases h1
theorem env_startW {H F : Hp} {a : Addr} {o : HO} {x : D} {vs : List V} {xs : List D} {N : List Str} (s : Same F H) (fa : F a = none) (ha : H a = some o) (ro : RepO K F o x) (r : Reps K F vs xs) : Env K ⟨H, F, fun p c => p = 1 ∧ c = a⟩ (inits (.own 1 x :: xs.map En.d) N.length) (L2.start N (.ref a :: vs)) H F := by
  have l := r.len
  have only : ∀ (j : Nat) (p : Nat) (y : D), (inits (.own 1 x :: xs.map En.d) N.length)[j]? = some (.own p y) → j = 0 := fun j p y h1 => by
    cases j with
    | zero => rfl
    | succ j =>
      exfalso
      unfold inits at h1
      by_cases z : j < xs.length
      · rw [List.getElem?_append_left (by simpa using z), List.getElem?_cons_succ, List.getElem?_map] at h1
        cases e1 : xs[j]? with
        | none => rw [e1] at h1; cases h1
        | some x => rw [e1] at h1; cases h1
      · rw [List.getElem?_append_right (by simpa using z), List.getElem?_replicate] at h1
        split at h1 <;> cases h1
  refine ⟨fun _ _ _ h => h, fun c m => ?_, Same.refl _, s, fun a f0 f1 => absurd f0 f1, start_len (by simpa using l), start_sl (by simpa using l) (fun i e h => ?_), fun i j p q x1 y1 b n h1 h2 => ?_⟩
  · obtain ⟨_, _, rfl⟩ := m
    exact ⟨fa, by rw [ha]; intro z; cases z⟩
  · cases i with
    | zero =>
      cases h
      exact ⟨_, rfl, a, o, rfl, fa, (⟨rfl, rfl⟩ : (1 : Nat) = 1 ∧ a = a), ha, ro⟩
    | succ i =>
      rw [List.getElem?_cons_succ, List.getElem?_map] at h
      cases e1 : xs[i]? with
      | none => rw [e1] at h; cases h
      | some x =>
        rw [e1] at h
        cases h
        obtain ⟨v, e2, rv⟩ := r.get' e1
        exact ⟨v, by simpa using e2, v, rfl, rv⟩
  · exact absurd ((only _ _ _ h1).trans (only _ _ _ h2).symm) n
/-! ### the end of a body -/
section
variable {H F : Hp} {vs : List V} {xs : List Ar} {y : D} {N : List Str} {t : TS} {Q : VK} {κ : Type} {Kn : κ → Out} {m : Option κ} {k : κ}
theorem Env.grown {σ : L2.St} {Γ : List En} {H' F' : Hp} (E : Env K ⟨H, F, fun _ _ => False⟩ Γ σ H' F') : Grow H F H' F' := ⟨fun a o h => E.s a o (fun ⟨_, z⟩ => z) h, E.f, E.i, E.n⟩
theorem run_rt (s : Same F H) (r : Ars K H F vs xs) (ret : ∀ v H' F', Grow H F H' F' → Rep K F' v y → Q v H') (h : EvS K ⟨H, F, fun _ _ => False⟩ (inits (xs.map enA) N.length) t Kn m) (e : m = some k) (ek : Kn k = .rt y []) :
    t { nx := fun _ H' => Q .non H', rt := Q } (L2.start N vs) H := h k e _ _ _ _ (env_startE s r) (by
      rw [ek]
      exact fun v σ H' F' Γ E _ rv => ret v H' F' E.grown rv)
theorem run_fl (s : Same F H) (r : Ars K H F vs xs) (ret : ∀ v H' F', Grow H F H' F' → Rep K F' v .non → Q v H') {Γe : List En} (h : EvS K ⟨H, F, fun _ _ => False⟩ (inits (xs.map enA) N.length) t Kn m) (e : m = some k) (ek : Kn k = .nx Γe) :
    t { nx := fun _ H' => Q .non H', rt := Q } (L2.start N vs) H := h k e _ _ _ _ (env_startE s r) (by
      rw [ek]
      exact fun σ H' F' E _ => ret .non H' F' E.grown .non)
variable {a : Addr} {o : HO} {x x' : D} {ws : List D}
theorem run_W (s : Same F H) (fa : F a = none) (ha : H a = some o) (ro : RepO K F o x) (r : Reps K F vs ws)
    (ret : ∀ v H' F' o', (∀ c u, c ≠ a → H c = some u → H' c = some u) → Same F F' → Same F' H' → (∀ c, F c = none → F' c ≠ none → H c = none) → H' a = some o' → RepO K F' o' x' → Rep K F' v y → Q v H')
    (h : EvS K ⟨H, F, fun p c => p = 1 ∧ c = a⟩ (inits (.own 1 x :: ws.map En.d) N.length) t Kn m) (e : m = some k) (ek : Kn k = .rt y [(0, x')]) :
    t { nx := fun _ H' => Q .non H', rt := Q } (L2.start N (.ref a :: vs)) H := h k e _ _ _ _ (env_startW s fa ha ro r) (by
      rw [ek]
      intro v σ H' F' Γ E w rv
      obtain ⟨i0, w0⟩ := w (0, x') List.mem_cons_self
      obtain ⟨b, u, h1, h2, h3, h4, h5⟩ := E.own w0
      obtain ⟨_, h3⟩ := (show (1 : Nat) = 1 ∧ b = a from h3)
      subst h3
      exact ret v H' F' u (fun c u' n hc => E.s c u' (fun ⟨_, q⟩ => n q.2) hc) E.f E.i E.n h4 h5 rv)
theorem run_Wfl (s : Same F H) (fa : F a = none) (ha : H a = some o) (ro : RepO K F o x) (r : Reps K F vs ws)
    (ret : ∀ v H' F' o', (∀ c u, c ≠ a → H c = some u → H' c = some u) → Same F F' → Same F' H' → (∀ c, F c = none → F' c ≠ none → H c = none) → H' a = some o' → RepO K F' o' x' → Rep K F' v .non → Q v H')
    {Γe : List En} (h : EvS K ⟨H, F, fun p c => p = 1 ∧ c = a⟩ (inits (.own 1 x :: ws.map En.d) N.length) t Kn m) (e : m = some k) (ek : Kn k = .nx Γe) (hw : WOk [(0, x')] Γe) :
    t { nx := fun _ H' => Q .non H', rt := Q } (L2.start N (.ref a :: vs)) H := h k e _ _ _ _ (env_startW s fa ha ro r) (by
      rw [ek]
      intro σ H' F' E _
      obtain ⟨i0, w0⟩ := hw (0, x') List.mem_cons_self
      obtain ⟨b, u, h1, h2, h3, h4, h5⟩ := E.own w0
      obtain ⟨_, h3⟩ := (show (1 : Nat) = 1 ∧ b = a from h3)
      subst h3
      exact ret .non H' F' u (fun c u' n hc => E.s c u' (fun ⟨_, q⟩ => n q.2) hc) E.f E.i E.n h4 h5 .non)
end
/-! ### methods of a list of one's own -/
theorem es_append {i : Nat} {p : Nat} {te : TE} {xs : List D} {x : D} {p1 : Nat} {xs1 : List D} (h0 : Γ[i]? = some (.own p1 (.lst xs1))) (h : EvE K B Γ te x Γ1) (h1 : Γ1[i]? = some (.own p (.lst xs))) (l : xs.length < sizeLine) : EvS1 K B Γ (tDrop (tBM K "list" rAppend (tVar i) (tCons te tNil))) (.nx (Γ1.set i (.own p (.lst (xs ++ [x]))))) := fun Dn σ H F E q => by
  obtain ⟨a, o, k1, k2, k3, k4, k5⟩ := E.own h0
  cases k5 with
  | lst t0 =>
    refine ⟨_, k1, .inl ⟨rfl, _, SqL.of k4⟩, h σ H F E _ fun v H1 F1 E1 s1 r1 => ?_⟩
    obtain ⟨a', o', m1, m2, m3, m4, m5⟩ := E1.own h1
    rw [k1] at m1
    cases m1
    cases m5 with
    | lst t =>
      refine ⟨a, _, v, rfl, rfl, m4, by rw [t.len]; exact l, ?_⟩
      exact q σ _ F1 (E1.chg (o' := .lst _) h1 k1 (.lst (t.snoc r1))) s1
end
/-! ### what is walked -/
section
variable {K : PySem.W.Frag} {B : Bs} {Γ Γ1 Γ2 Γ3 Γ4 : List En}
theorem ei_list {t : TE} {xs : List D} (h : EvE K B Γ t (.lst xs) Γ1) : EvI K B Γ (iList K t) xs Γ1 := fun σ H F E R q => h σ H F E _ fun v H1 F1 E1 s1 r1 => by
  obtain ⟨a, vs, rfl, k1, k2⟩ := r1.lst_
  refine ⟨a, rfl, ⟨vs, SqL.of (E1.i _ _ k1)⟩, q _ H1 F1 _ _ E1 s1 (by rw [← k2.len]; exact walk_list (xs := vs)) (fun F' H' s i => SqL.of (i _ _ (s _ _ k1))) fun i H' F' v H'' s i' y => ?_⟩
  obtain ⟨rfl, hv⟩ := y
  obtain ⟨x, hx, rx⟩ := k2.get hv
  exact ⟨F', x, .refl i', hx, rx.same s⟩
theorem ei_tup {t : TE} {xs : List D} (h : EvE K B Γ t (.tup xs) Γ1) : EvI K B Γ (iTup K t) xs Γ1 := fun σ H F E R q => h σ H F E _ fun v H1 F1 E1 s1 r1 => by
  obtain ⟨a, vs, rfl, k1, k2⟩ := r1.tup_
  refine ⟨a, rfl, ⟨vs, (k1 _ E1.i)⟩, q _ H1 F1 _ _ E1 s1 (by rw [← k2.len]; exact walk_tup (xs := vs)) (fun F' H' s i => (k1 _ (s.trans i))) fun i H' F' v H'' s i' y => ?_⟩
  obtain ⟨rfl, hv⟩ := y
  obtain ⟨x, hx, rx⟩ := k2.get hv
  exact ⟨F', x, .refl i', hx, rx.same s⟩
def rng (lo hi : Int) : List Int := (List.range (hi - lo).toNat).map fun i => lo + (i : Nat)
theorem ei_range {lo hi : Int} {J : It} {n : Nat} (hJ : J = Itr lo n) (hn : n = (hi - lo).toNat) : Walk J ((rng lo hi).map D.int).length (fun _ => True) (YFn fun i => .int (lo + (i : Nat))) := by
  subst hJ hn
  have : ((rng lo hi).map D.int).length = (hi - lo).toNat := by
    unfold rng
    simp
  rw [this]
  exact walk_range
theorem rng_get {lo hi : Int} {i : Nat} (h : i < (hi - lo).toNat) : ((rng lo hi).map D.int)[i]? = some (.int (lo + (i : Nat))) := by
  unfold rng
  simp [h]
theorem ei_range1 {t : TE} {n : Int} (h : EvE K B Γ t (.int n) Γ1) (l : -(2 ^ 62) ≤ n ∧ n < 2 ^ 62) : EvI K B Γ (iRng1 (tCons t tNil)) ((rng 0 n).map D.int) Γ1 := fun σ H F E R q => h σ H F E _ fun v H1 F1 E1 s1 r1 => by
  cases r1.int_
  refine ⟨n, rfl, l.1, l.2, q _ H1 F1 (fun _ => True) (fun i H' v H'' => i < n.toNat ∧ YFn (fun i => .int (0 + (i : Nat))) i H' v H'') E1 s1 ?_ (fun _ _ _ _ => trivial) fun i H' F' v H'' s i' y => ?_⟩
  · have w := ei_range (lo := 0) (hi := n) (J := Itr 0 n.toNat) rfl (by rw [Int.sub_zero])
    have ln : ((rng 0 n).map D.int).length = n.toNat := by unfold rng; simp
    exact ⟨w.goes, w.stops, fun i H x H' hi g y => ⟨by rw [ln] at hi; exact hi, w.yields i H x H' hi g y⟩⟩
  · obtain ⟨hi, rfl, rfl⟩ := y
    exact ⟨F', _, .refl i', rng_get (by rw [Int.sub_zero]; exact hi), .int _⟩
theorem ei_range2 {t t' : TE} {m n : Int} (h : EvE K B Γ t (.int m) Γ1) (h' : EvE K B Γ1 t' (.int n) Γ2) (l : -(2 ^ 62) ≤ m ∧ m < 2 ^ 62 ∧ -(2 ^ 62) ≤ n ∧ n < 2 ^ 62) : EvI K B Γ (iRng2 (tCons t (tCons t' tNil))) ((rng m n).map D.int) Γ2 := fun σ H F E R q => h σ H F E _ fun v H1 F1 E1 s1 r1 => h' σ H1 F1 E1 _ fun v' H2 F2 E2 s2 r2 => by
  cases r1.int_
  cases r2.int_
  refine ⟨m, n, rfl, l, q _ H2 F2 (fun _ => True) (fun i H' v H'' => i < (n - m).toNat ∧ YFn (fun i => .int (m + (i : Nat))) i H' v H'') E2 (s1.trans s2) ?_ (fun _ _ _ _ => trivial) fun i H' F' v H'' s i' y => ?_⟩
  · have w := ei_range (lo := m) (hi := n) (J := Itr m (n - m).toNat) rfl rfl
    have ln : ((rng m n).map D.int).length = (n - m).toNat := by unfold rng; simp
    exact ⟨w.goes, w.stops, fun i H x H' hi g y => ⟨by rw [ln] at hi; exact hi, w.yields i H x H' hi g y⟩⟩
  · obtain ⟨hi, rfl, rfl⟩ := y
    exact ⟨F', _, .refl i', rng_get hi, .int _⟩
/-- what a slot has stands still while it is walked, if it is frozen before: ei_list (ev_var ..) -/
def enP {α : Type} (l : List α) : List (P2 Int α) := l.zipIdx.map fun p => ⟨(p.2 : Nat), p.1⟩
theorem enP_get {α : Type} [Rp α] {l : List α} {i : Nat} {x : α} (h : l[i]? = some x) : ((enP l).map toD)[i]? = some (.tup [.int (i : Nat), toD x]) := by
  unfold enP
  rw [List.getElem?_map, List.getElem?_map, List.getElem?_zipIdx, h]
  simp only [Option.map_some, Nat.zero_add]
  rfl
theorem enP_len {α : Type} [Rp α] {l : List α} : ((enP l).map toD).length = l.length := by
  unfold enP
  simp
end
end Ev
namespace Ev
open PySem L2 Hv
set_option autoImplicit false
/-! ### comprehensions -/
section
variable {K : PySem.W.Frag} {B : Bs} {Γ Γ1 Γ2 Γ3 Γ4 : List En} {X : XK}
theorem wipe_cons (σ : L2.St) (i : Nat) (vs : List Nat) : wipe σ (i :: vs) = (wipe σ vs).set i none := rfl
theorem wipe_len (σ : L2.St) : ∀ vs : List Nat, (wipe σ vs).length = σ.length
  | [] => rfl
  | i :: vs => by rw [wipe_cons, List.length_set, wipe_len σ vs]
theorem wipe_get {σ : L2.St} {j : Nat} : ∀ {vs : List Nat}, j ∉ vs → (wipe σ vs)[j]? = σ[j]?
  | [], _ => rfl
  | i :: vs, h => by
    rw [wipe_cons, List.getElem?_set_ne (fun e => h (by rw [e]; exact List.mem_cons_self)), wipe_get (fun z => h (List.mem_cons_of_mem _ z))]
theorem wipe_set {σ : L2.St} {i : Nat} {v : Option V} : ∀ {vs : List Nat}, i ∈ vs → wipe (σ.set i v) vs = wipe σ vs
  | j :: vs, h => by
    rw [wipe_cons, wipe_cons]
    by_cases q : i ∈ vs
    · rw [wipe_set q]
    · have e : i = j := by
        rcases List.mem_cons.mp h with h | h
        · exact h
        · exact absurd h q
      subst e
      refine List.ext_getElem? fun k => ?_
      by_cases z : i = k
      · subst z
        by_cases w : i < σ.length
        · rw [List.getElem?_set_self (by rw [wipe_len, List.length_set]; exact w), List.getElem?_set_self (by rw [wipe_len]; exact w)]
        · rw [List.getElem?_eq_none (by rw [List.length_set, wipe_len, List.length_set]; omega), List.getElem?_eq_none (by rw [List.length_set, wipe_len]; omega)]
      · rw [List.getElem?_set_ne z, List.getElem?_set_ne z]
        by_cases y : k ∈ vs
        · have : ∀ (σ τ : L2.St) (vs : List Nat), σ.length = τ.length → k ∈ vs → (wipe σ vs)[k]? = (wipe τ vs)[k]? := by
            intro σ τ vs l
            induction vs with
            | nil => intro h; cases h
            | cons j vs ih =>
              intro h
              rw [wipe_cons, wipe_cons]
              by_cases u : j = k
              · subst u
                by_cases w : j < σ.length
                · rw [List.getElem?_set_self (by rw [wipe_len]; exact w), List.getElem?_set_self (by rw [wipe_len, ← l]; exact w)]
                · rw [List.getElem?_eq_none (by rw [List.length_set, wipe_len]; omega), List.getElem?_eq_none (by rw [List.length_set, wipe_len]; omega)]
              · rw [List.getElem?_set_ne u, List.getElem?_set_ne u]
                rcases List.mem_cons.mp h with h | h
                · exact absurd h.symm u
                · exact ih h
          exact this _ _ vs (by rw [List.length_set]) y
        · rw [wipe_get y, wipe_get y, List.getElem?_set_ne z]
/-- the slots vs are of no use -/
def Off (Γ : List En) (vs : List Nat) : Prop := ∀ i ∈ vs, ∀ e, Γ[i]? = some e → e = .u
theorem off_of {Γ : List En} {vs : List Nat} (h : vs.all (fun i => match Γ[i]? with
  | some .u => true
  | none => true
  | _ => false) = true) : Off Γ vs := fun i hi e he => by
  have := List.all_eq_true.mp h i hi
  rw [he] at this
  cases e with
  | u => rfl
  | _ => cases this
theorem Env.swap {σ σ' : L2.St} {H F : Hp} {vs : List Nat} (E : Env K B Γ σ H F) (o : Off Γ vs) (e : wipe σ' vs = wipe σ vs) : Env K B Γ σ' H F := by
  have l : σ'.length = σ.length := by
    have := congrArg List.length e
    rwa [wipe_len, wipe_len] at this
  have g : ∀ i, i ∉ vs → σ'[i]? = σ[i]? := fun i hi => by rw [← wipe_get hi, ← wipe_get (σ := σ) hi, e]
  refine ⟨E.s, E.m, E.f, E.i, E.n, by rw [l]; exact E.len, fun i e' h => ?_, fun i j p q x y a n h1 h2 s1 s2 => ?_⟩
  · by_cases hi : i ∈ vs
    · have := o i hi e' h
      subst this
      have lt : i < σ'.length := by rw [l, E.len]; exact (List.getElem?_eq_some_iff.mp h).1
      exact ⟨σ'[i], List.getElem?_eq_getElem lt, trivial⟩
    · obtain ⟨u, h1, h2⟩ := E.sl i e' h
      exact ⟨u, by rw [g i hi]; exact h1, h2⟩
  · have n1 : i ∉ vs := fun z => nomatch o i z _ h1
    have n2 : j ∉ vs := fun z => nomatch o j z _ h2
    exact E.ne i j p q x y a n h1 h2 (by rw [← g i n1]; exact s1) (by rw [← g j n2]; exact s2)
theorem wipe_wipe (σ : L2.St) : ∀ vs : List Nat, wipe (wipe σ vs) vs = wipe σ vs := fun vs => by
  refine List.ext_getElem? fun k => ?_
  by_cases y : k ∈ vs
  · have : ∀ (σ τ : L2.St) (vs : List Nat), σ.length = τ.length → k ∈ vs → (wipe σ vs)[k]? = (wipe τ vs)[k]? := by
      intro σ τ vs l
      induction vs with
      | nil => intro h; cases h
      | cons j vs ih =>
        intro h
        rw [wipe_cons, wipe_cons]
        by_cases u : j = k
        · subst u
          by_cases w : j < σ.length
          · rw [List.getElem?_set_self (by rw [wipe_len]; exact w), List.getElem?_set_self (by rw [wipe_len, ← l]; exact w)]
          · rw [List.getElem?_eq_none (by rw [List.length_set, wipe_len]; omega), List.getElem?_eq_none (by rw [List.length_set, wipe_len]; omega)]
        · rw [List.getElem?_set_ne u, List.getElem?_set_ne u]
          rcases List.mem_cons.mp h with h | h
          · exact absurd h.symm u
          · exact ih h
    exact this _ _ vs (wipe_len _ _) y
  · rw [wipe_get y]
/-- a target of a comprehension -/
def EvGw (K : PySem.W.Frag) (B : Bs) (vs : List Nat) (Γ : List En) (g : TG) (x : D) (Γ' : List En) : Prop := ∀ σ H F v, Env K B Γ σ H F → Rep K F v x → ∀ Q : L2.St → Hp → Prop, (∀ σ', Env K B Γ' σ' H F → wipe σ' vs = wipe σ vs → Q σ' H) → g v σ H Q
section
variable {vs : List Nat}
theorem egw_name {i : Nat} {x : D} (h : i ∈ vs) : EvGw K B vs Γ (gName i) x (Γ.set i (.d x)) := fun σ H F v E r Q q => q _ (E.setD r) (wipe_set h)
end
/-- the slots that are lent -/
def lent (Γ : List En) : List (Option D) := Γ.map fun e => match e with
  | .bor x => some x
  | _ => none
theorem lent_get {Γ Γ' : List En} (e : lent Γ' = lent Γ) {i : Nat} {x : D} (h : Γ'[i]? = some (.bor x)) : Γ[i]? = some (.bor x) := by
  have h1 : (lent Γ')[i]? = some (some x) := by
    unfold lent
    rw [List.getElem?_map, h]
    rfl
  rw [e] at h1
  unfold lent at h1
  rw [List.getElem?_map] at h1
  cases h2 : Γ[i]? with
  | none => rw [h2] at h1; cases h1
  | some u =>
    rw [h2] at h1
    cases u with
    | bor y =>
      have h1 : some (some y) = some (some x) := h1
      cases h1
      rfl
    | _ => cases h1
/-- one more object to be kept -/
def Bs.keep (B : Bs) (L : Addr) (o : HO) : Bs := ⟨upd B.H0 L o, B.F0, B.Mp⟩
structure NotIn (B : Bs) (Γ : List En) (σ : L2.St) (F : Hp) (L : Addr) : Prop where
  h0 : B.H0 L = none
  m : ¬ B.M L
  f : F L = none
  o : ∀ (j : Nat) (p : Nat) (y : D), Γ[j]? = some (.own p y) → σ[j]? = some (some (.ref L)) → False
theorem Env.keep {σ : L2.St} {H F : Hp} {L : Addr} {o : HO} (E : Env K B Γ σ H F) (n : NotIn B Γ σ F L) (h : H L = some o) : Env K (B.keep L o) Γ σ H F := by
  have ne : ∀ a, B.H0 a ≠ none → a ≠ L := fun a q z => q (z ▸ n.h0)
  refine ⟨fun a u m e => ?_, E.m, E.f, E.i, fun a f0 f1 => ?_, E.len, fun i e hi => ?_, E.ne⟩
  · by_cases z : a = L
    · subst z
      have e : upd B.H0 a o a = some u := e
      rw [upd_same] at e
      rw [h]
      exact e
    · have e : upd B.H0 L o a = some u := e
      rw [upd_ne z] at e
      exact E.s a u m e
  · have z : a ≠ L := fun z => f1 (z ▸ n.f)
    show upd B.H0 L o a = none
    rw [upd_ne z]
    exact E.n a f0 f1
  · obtain ⟨u, h1, h2⟩ := E.sl i e hi
    refine ⟨u, h1, ?_⟩
    cases e with
    | u => trivial
    | d y => exact h2
    | own p y =>
      obtain ⟨a, ho, rfl, k2, k3, k4, k5⟩ := h2
      refine ⟨a, ho, rfl, k2, ?_, k4, k5⟩
      by_cases hp : p = 0
      · rw [if_pos hp] at k3 ⊢
        have z : a ≠ L := fun z => n.o i _ _ hi (z ▸ h1)
        refine ⟨?_, k3.2⟩
        show upd B.H0 L o a = none
        rw [upd_ne z]
        exact k3.1
      · rw [if_neg hp] at k3 ⊢
        exact k3
    | bor y =>
      obtain ⟨a, ho, rfl, k2, k3, k4⟩ := h2
      refine ⟨a, ho, rfl, ?_, k3, k4⟩
      show upd B.H0 L o a = some ho
      rw [upd_ne (ne a (by rw [k2]; intro w; cases w))]
      exact k2
theorem Env.unkeep {σ σ0 : L2.St} {H F H0 F0 : Hp} {L : Addr} {o : HO} (E : Env K (B.keep L o) Γ σ H F) (h0 : B.H0 L = none) (hm : ¬ B.M L) {Γ0 : List En} (E0 : Env K B Γ0 σ0 H0 F0) (f0 : F0 L = none) (sF : Same F0 F) (eb : lent Γ = lent Γ0) (es : ∀ (i : Nat) (x : D), Γ0[i]? = some (.bor x) → σ[i]? = σ0[i]?) : Env K B Γ σ H F ∧ NotIn B Γ σ F L ∧ H L = some o := by
  have key : (B.keep L o).H0 L = some o := upd_same
  have back : ∀ a u, B.H0 a = some u → (B.keep L o).H0 a = some u := fun a u e => by
    show upd B.H0 L o a = some u
    rw [upd_ne (fun z => by rw [z, h0] at e; cases e)]
    exact e
  have backN : ∀ a, (B.keep L o).H0 a = none → B.H0 a = none := fun a e => by
    have z : a ≠ L := fun z => by rw [z, key] at e; cases e
    have e : upd B.H0 L o a = none := e
    rwa [upd_ne z] at e
  have hD := E.s L o hm key
  have fD : F L = none := by
    by_cases z : F L = none
    · exact z
    · have w : B.F0 L = none := by
        cases q : B.F0 L with
        | none => rfl
        | some u =>
          rw [E0.f L u q] at f0
          cases f0
      have := E.n L w z
      rw [key] at this
      cases this
  refine ⟨⟨fun a u m e => E.s a u m (back a u e), E.m, E.f, E.i, fun a f0 f1 => backN a (E.n a f0 f1), E.len, fun i e hi => ?_, E.ne⟩, ⟨h0, hm, fD, fun j p y hj hs => ?_⟩, hD⟩
  · obtain ⟨u, h1, h2⟩ := E.sl i e hi
    cases e with
    | u => exact ⟨u, h1, trivial⟩
    | d y => exact ⟨u, h1, h2⟩
    | own p y =>
      obtain ⟨a, ho, rfl, k2, k3, k4, k5⟩ := h2
      refine ⟨_, h1, a, ho, rfl, k2, ?_, k4, k5⟩
      by_cases hp : p = 0
      · rw [if_pos hp] at k3 ⊢
        exact ⟨backN a k3.1, k3.2⟩
      · rw [if_neg hp] at k3 ⊢
        exact k3
    | bor y =>
      have hi0 := lent_get eb hi
      obtain ⟨u0, k1, a, ho, rfl, k2, k3, k4⟩ := E0.sl i _ hi0
      exact ⟨_, (es i y hi0).trans k1, a, ho, rfl, k2, k3, k4.same sF⟩
  · obtain ⟨a, ho, k1, k2, k3, k4, k5⟩ := E.own hj
    rw [hs] at k1
    cases k1
    by_cases hp : p = 0
    · rw [if_pos hp] at k3
      have := k3.1
      rw [key] at this
      cases this
    · rw [if_neg hp] at k3
      exact hm ⟨p, k3⟩
theorem Env.updOut {σ : L2.St} {H F : Hp} {L : Addr} {o : HO} (E : Env K B Γ σ H F) (n : NotIn B Γ σ F L) : Env K B Γ σ (upd H L o) F := by
  refine ⟨fun a u m e => ?_, fun a m => ⟨(E.m a m).1, ?_⟩, E.f, fun a u e => ?_, E.n, E.len, fun i e hi => ?_, E.ne⟩
  · rw [upd_ne (fun z => by rw [z, n.h0] at e; cases e)]
    exact E.s a u m e
  · rw [upd_ne (by rintro rfl; exact n.m m)]
    exact (E.m a m).2
  · rw [upd_ne (ne_of_none e n.f)]
    exact E.i a u e
  · obtain ⟨u, h1, h2⟩ := E.sl i e hi
    refine ⟨u, h1, ?_⟩
    cases e with
    | u => trivial
    | d y => exact h2
    | own p y =>
      obtain ⟨a, ho, rfl, k2, k3, k4, k5⟩ := h2
      refine ⟨a, ho, rfl, k2, k3, ?_, k5⟩
      rw [upd_ne (by rintro rfl; exact n.o i _ _ hi h1)]
      exact k4
    | bor y => exact h2
theorem evo_lcS {α β τ : Type} {wi : TI} {g : TG} {tt : TT} {te : TE} {vs : List Nat} {f : τ → α → Option (Option β × τ)} {xs : List α} {fD : α → D} {gD : β → D} {s0 : τ} {r : List β × τ} {G : τ → List En} {G1 : τ → α → List En}
    (e : lcS f s0 xs = some r) (l : xs.length ≤ sizeLine) (hi : EvI K B Γ wi (xs.map fD) Γ1) (h0 : Wk Γ1 (G s0)) (off : ∀ s, Off (G s) vs) (eb : ∀ s, lent (G s) = lent (G s0))
    (hg : ∀ B s x, EvGw K B vs (G s) g (fD x) (G1 s x))
    (hb : ∀ B s x q, f s x = some q → ∃ Γ2, EvT K B (G1 s x) tt q.1.isSome Γ2 ∧ (q.1 = none → Wk Γ2 (G q.2)) ∧ ∀ y, q.1 = some y → ∃ Γ3, EvE K B Γ2 te (gD y) Γ3 ∧ Wk Γ3 (G q.2)) :
    EvO K B Γ (tLc wi g tt te vs) (.lst (r.1.map gD)) (G r.2) := fun σ H F E Q q => hi σ H F E _ fun J H1 F1 Gw Y E1 s1 wk hG hY D hD => by
  have E1 := E1.weak h0
  have NI : NotIn B (G s0) σ F1 D := ⟨(E1.fresh hD).1, (E1.fresh hD).2.1, (E1.fresh hD).2.2, E1.newO hD⟩
  have EV : ∀ s, Off (G s) vs := off
  refine lc_it (n := (xs.map fD).length) wk (fun i H' => ∃ F' s acc us, Env K B (G s) σ H' F' ∧ NotIn B (G s) σ F' D ∧ Same F1 F' ∧ H' D = some (.lst us) ∧ Reps K F' us (acc.map gD) ∧ acc.length ≤ i ∧ ∃ rest, lcS f s (xs.drop i) = some (rest, r.2) ∧ acc ++ rest = r.1) ⟨F1, s0, [], [], E1.updOut NI, NI, Same.refl _, upd_same, .nil, Nat.le_refl _, r.1, e, rfl⟩ ?_ ?_ ?_
  · rintro i H' _ ⟨F', s, acc, us, E', _, s', _⟩
    exact hG F' H' s' E'.i
  · rintro i v H' H'' hlt ⟨F', s, acc, us, E', N', s', hl, ra, la, rest, er, ea⟩ y
    obtain ⟨F'', x, gr, hx, rx⟩ := hY i H' F' v H'' s' E'.i y
    rw [List.getElem?_map] at hx
    have il : i < xs.length := by simpa using hlt
    rw [List.getElem?_eq_getElem il] at hx
    cases hx
    rw [List.drop_eq_getElem_cons il] at er
    unfold lcS at er
    cases ef : f s xs[i] with
    | none => rw [ef] at er; cases er
    | some p =>
    rw [ef] at er
    have er : ((lcS f p.2 (xs.drop (i + 1))).bind fun q => some (p.1.toList ++ q.1, q.2)) = some (rest, r.2) := er
    cases en : lcS f p.2 (xs.drop (i + 1)) with
    | none => rw [en] at er; cases er
    | some q2 =>
    rw [en] at er
    obtain ⟨rest2, st2⟩ := q2
    have er : (some (p.1.toList ++ rest2, st2) : Option (List β × τ)) = some (rest, r.2) := er
    cases er
    have Ek := (E'.keep N' hl).grow gr
    have Ew := Ek.swap (off s) (wipe_wipe σ vs)
    refine hg _ s xs[i] (wipe σ vs) H'' F'' v Ew rx _ fun σ2 E2 w2 => ?_
    have w2 : wipe σ2 vs = wipe σ vs := w2.trans (wipe_wipe σ vs)
    obtain ⟨Γ2, ht, hn, hs⟩ := hb (B.keep D (.lst us)) s xs[i] p ef
    refine ⟨w2, ht σ2 H'' F'' E2 _ fun H3 F3 E3 s3 => ?_⟩
    have fin : ∀ {H4 F4 : Hp} {Γ3 : List En}, Env K (B.keep D (.lst us)) Γ3 σ2 H4 F4 → Same F'' F4 → Wk Γ3 (G p.2) → Env K B (G p.2) σ H4 F4 ∧ NotIn B (G p.2) σ F4 D ∧ H4 D = some (.lst us) ∧ Same F' F4 := fun E4 s4 w => by
      have E5 := (E4.weak w).swap (off p.2) w2.symm
      have sF : Same F' _ := gr.f.trans s4
      obtain ⟨a, b, c⟩ := E5.unkeep N'.h0 N'.m E' N'.f sF ((eb _).trans (eb _).symm) (fun _ _ _ => rfl)
      exact ⟨a, b, c, sF⟩
    cases ep : p.1 with
    | none =>
      obtain ⟨a, b, c, d⟩ := fin E3 s3 (hn ep)
      refine iteF ⟨F3, p.2, acc, us, a, b, s'.trans d, c, ra.same d, by omega, rest2, en, ?_⟩
      rw [ep] at ea
      exact ea
    | some y =>
      obtain ⟨Γ3, he, w3⟩ := hs y ep
      refine iteT (he σ2 H3 F3 E3 _ fun u H4 F4 E4 s4 ru => ?_)
      obtain ⟨a, b, c, d⟩ := fin E4 (s3.trans s4) w3
      refine ⟨us, c, by rw [ra.len, List.length_map]; omega, F4, p.2, acc ++ [y], us ++ [u], a.updOut b, b, s'.trans d, upd_same, ?_, by rw [List.length_append]; show acc.length + 1 ≤ i + 1; omega, rest2, en, ?_⟩
      · rw [List.map_append]
        exact (ra.same d).append (.cons ru .nil)
      · rw [ep] at ea
        rw [List.append_assoc]
        exact ea
  · rintro H' ⟨F', s, acc, us, E', N', s', hl, ra, la, rest, er, ea⟩
    rw [List.drop_of_length_le (by simp)] at er
    have er : (some ([], s) : Option (List β × τ)) = some (rest, r.2) := er
    cases er
    rw [List.append_nil] at ea
    exact q D _ H' F' E' (s1.trans s') N'.f N'.h0 N'.m N'.o hl (by rw [← ea]; exact .lst ra)
/-- without a state -/
def lcO {α β : Type} (f : α → Option (Option β)) : List α → Option (List β)
  | [] => some []
  | x :: xs => (f x).bind fun p => (lcO f xs).bind fun q => some (p.toList ++ q)
theorem lcO_S {α β : Type} (f : α → Option (Option β)) : ∀ xs, lcS (fun (_ : Unit) x => (f x).map fun p => (p, ())) () xs = (lcO f xs).map fun r => (r, ())
  | [] => rfl
  | x :: xs => by
    unfold lcS lcO
    cases f x with
    | none => rfl
    | some p =>
      show ((lcS _ () xs).bind _) = _
      rw [lcO_S f xs]
      show _ = ((lcO f xs).bind _).map _
      cases lcO f xs <;> rfl
theorem lcO_pure {α β : Type} {f : α → Option (Option β)} {c : α → Bool} {e : α → β} : ∀ {xs : List α}, (∀ x ∈ xs, f x = some (if c x = true then some (e x) else none)) → lcO f xs = some ((xs.filter c).map e)
  | [], _ => rfl
  | x :: xs, h => by
    unfold lcO
    rw [h x List.mem_cons_self, lcO_pure fun y hy => h y (List.mem_cons_of_mem _ hy), List.filter_cons]
    cases c x <;> rfl
theorem evo_lcO {α β : Type} {wi : TI} {g : TG} {tt : TT} {te : TE} {vs : List Nat} {f : α → Option (Option β)} {xs : List α} {fD : α → D} {gD : β → D} {r : List β} {G1 : α → List En}
    (e : lcO f xs = some r) (l : xs.length ≤ sizeLine) (hi : EvI K B Γ wi (xs.map fD) Γ1) (h0 : Wk Γ1 Γ2) (off : Off Γ2 vs)
    (hg : ∀ B x, EvGw K B vs Γ2 g (fD x) (G1 x))
    (hb : ∀ B x q, f x = some q → EvT K B (G1 x) tt q.isSome (G1 x) ∧ ∀ y, q = some y → EvE K B (G1 x) te (gD y) (G1 x)) (hk : ∀ x, Wk (G1 x) Γ2) :
    EvO K B Γ (tLc wi g tt te vs) (.lst (r.map gD)) Γ2 :=
  evo_lcS (f := fun (_ : Unit) x => (f x).map fun p => (p, ())) (s0 := ()) (r := (r, ())) (G := fun _ => Γ2) (G1 := fun _ x => G1 x) (by rw [lcO_S, e]; rfl) l hi h0 (fun _ => off) (fun _ => rfl) (fun B _ x => hg B x) (fun B _ x q eq => by
    cases ef : f x with
    | none => rw [ef] at eq; cases eq
    | some p =>
      rw [ef] at eq
      cases eq
      obtain ⟨h1, h2⟩ := hb B x p ef
      exact ⟨_, h1, fun _ => hk x, fun y ey => ⟨_, h2 y ey, hk x⟩⟩)
/-- all is plain -/
theorem evo_lcP {α β : Type} {wi : TI} {g : TG} {tt : TT} {te : TE} {vs : List Nat} {c : α → Bool} {f : α → β} {xs : List α} {fD : α → D} {gD : β → D} {G1 : α → List En}
    (l : xs.length ≤ sizeLine) (hi : EvI K B Γ wi (xs.map fD) Γ1) (h0 : Wk Γ1 Γ2) (off : Off Γ2 vs) (hg : ∀ B x, EvGw K B vs Γ2 g (fD x) (G1 x))
    (ht : ∀ B x, EvT K B (G1 x) tt (c x) (G1 x)) (he : ∀ B x, c x = true → EvE K B (G1 x) te (gD (f x)) (G1 x)) (hk : ∀ x, Wk (G1 x) Γ2) :
    EvO K B Γ (tLc wi g tt te vs) (.lst (((xs.filter c).map f).map gD)) Γ2 :=
  evo_lcO (f := fun x => some (if c x = true then some (f x) else none)) (lcO_pure fun _ _ => rfl) l hi h0 off hg (fun B x q eq => by
    cases eq
    cases h : c x with
    | true =>
      refine ⟨by rw [if_pos rfl]; exact (ht B x).cast h, fun y ey => ?_⟩
      rw [if_pos rfl] at ey
      cases ey
      exact he B x h
    | false => exact ⟨by rw [if_neg (by decide)]; exact (ht B x).cast h, fun y ey => by rw [if_neg (by decide)] at ey; cases ey⟩) hk
end
end Ev
namespace Ev
open PySem L2 Hv
set_option autoImplicit false
section
variable {K : PySem.W.Frag} {B : Bs} {Γ Γ1 Γ2 Γ3 Γ4 : List En} {X : XK}
/-! ### instances -/
theorem look_rep {F : Hp} {f : Str} {x : D} : ∀ {fs : List (Str × V)} {gs : List (Str × D)}, fs.map Prod.fst = gs.map Prod.fst → Reps K F (fs.map Prod.snd) (gs.map Prod.snd) → gs.lookup f = some x → ∃ v, fs.lookup f = some v ∧ Rep K F v x
  | [], [], _, _, h => nomatch h
  | (a, v) :: fs, (b, y) :: gs, e, t, h => by
    obtain ⟨e1, e2⟩ := List.cons.inj (show a :: fs.map Prod.fst = b :: gs.map Prod.fst from e)
    subst e1
    cases t with
    | cons h1 t =>
      rw [List.lookup_cons] at h ⊢
      cases q : f == a with
      | true =>
        rw [q] at h
        cases h
        exact ⟨v, rfl, h1⟩
      | false =>
        rw [q] at h
        exact look_rep e2 t h
theorem ev_fld {t : TE} {c f : Str} {gs : List (Str × D)} {x : D} (h : EvE K B Γ t (.ins c gs) Γ1) (cl : Cls K (cA K c)) (na : NoAttr K (cA K c) f) (e : gs.lookup f = some x) : EvE K B Γ (tFld K t f) x Γ1 := fun σ H F E Q q => h σ H F E _ fun v H1 F1 E1 s1 r1 => by
  obtain ⟨a, dx, fs, rfl, h1, h2, h3⟩ := r1.ins_
  obtain ⟨w, h4, h5⟩ := look_rep h2 h3 e
  exact ⟨a, _, dx, fs, w, rfl, E1.i _ _ h1, cl, na, h4, q w H1 F1 E1 s1 h5⟩
theorem ev_prop {t : TE} {c : Str} {gs : List (Str × D)} {y : D} {pre : List Ar → D → Prop} (h : EvE K B Γ t (.ins c gs) Γ1) (p : pre [.k (.ins c gs)] y) : EvE K B Γ (tProp (cA K c) (spE K pre) [] X t) y Γ1 := fun σ H F E Q q => h σ H F E _ fun v H1 F1 E1 s1 r1 => by
  obtain ⟨a, dx, fs, rfl, h1, _⟩ := id r1.ins_
  exact ⟨a, dx, fs, rfl, E1.i _ _ h1, F1, _, y, E1.i, .cons (x := .k _) r1 .nil, p, fun v H2 F2 g r2 => q v H2 F2 (E1.grow g) (s1.trans g.f) r2⟩
/-! ### texts -/
theorem ev_m1 {r : V → List V → Hp → VK → Prop} {t t' : TE} {a : Str} {x y : D} (h : EvE K B Γ t (.str a) Γ1) (h' : EvE K B Γ1 t' x Γ2) (hr : ∀ H F u, Same F H → Rep K F u x → ∀ Q : VK, (∀ w H' F', Grow H F H' F' → Rep K F' w y → Q w H') → r (.str a) [u] H Q) : EvE K B Γ (tM1 r t t') y Γ2 := fun σ H F E Q q =>
  h σ H F E _ fun v H1 F1 E1 s1 r1 => by
    cases r1.str_
    exact ⟨⟨a, rfl⟩, h' σ H1 F1 E1 _ fun u H2 F2 E2 s2 r2 => hr H2 F2 u E2.i r2 _ fun w H3 F3 g r3 => q w H3 F3 (E2.grow g) ((s1.trans s2).trans g.f) r3⟩
theorem ev_startswith {t t' : TE} {a b : Str} (h : EvE K B Γ t (.str a) Γ1) (h' : EvE K B Γ1 t' (.str b) Γ2) : EvE K B Γ (tM1 (fun x xs H Q => ∃ a b, x = .str a ∧ xs = [.str b] ∧ Q (.bl (PySem.Txt.startswith a b)) H) t t') (.bl (PySem.Txt.startswith a b)) Γ2 := ev_m1 h h' fun H F u s r Q q => by
  cases r.str_
  exact ⟨a, b, rfl, rfl, q _ H F (.refl s) (.bl _)⟩
theorem ev_split {t t' : TE} {a b : Str} (h : EvE K B Γ t (.str a) Γ1) (h' : EvE K B Γ1 t' (.str b) Γ2) (l : (b.length == 0) = false ∧ a.length + 2 ≤ sizeLine) : EvE K B Γ (tM1 (fun x xs H Q => ∃ a b, x = .str a ∧ xs = [.str b] ∧ (b.length == 0) = false ∧ a.length + 2 ≤ sizeLine ∧ rNewStrs (PySem.Txt.split a b) H Q) t t') (.lst ((PySem.Txt.split a b).map D.str)) Γ2 := ev_m1 h h' fun H F u s r Q q => by
  cases r.str_
  exact ⟨a, b, rfl, rfl, l.1, l.2, fun p hp => q _ _ _ (.new s hp) (.ref upd_same (.lst (Reps.ofStrs _)))⟩
theorem ev_partition {t t' : TE} {a b : Str} (h : EvE K B Γ t (.str a) Γ1) (h' : EvE K B Γ1 t' (.str b) Γ2) (l : (b.length == 0) = false ∧ a.length ≤ sizeLine) : EvE K B Γ (tM1 (fun x xs H Q => ∃ a b, x = .str a ∧ xs = [.str b] ∧ (b.length == 0) = false ∧ a.length ≤ sizeLine ∧ ∀ p, H p = none → Q (.ref p) (upd H p (.tup [.str (PySem.Txt.partition a b).1, .str (PySem.Txt.partition a b).2.1, .str (PySem.Txt.partition a b).2.2]))) t t')
    (.tup [.str (PySem.Txt.partition a b).1, .str (PySem.Txt.partition a b).2.1, .str (PySem.Txt.partition a b).2.2]) Γ2 := ev_m1 h h' fun H F u s r Q q => by
  cases r.str_
  exact ⟨a, b, rfl, rfl, l.1, l.2, fun p hp => q _ _ _ (.new s hp) (.ref upd_same (.tup (.cons (.str _) (.cons (.str _) (.cons (.str _) .nil)))))⟩
theorem ev_join {t t' : TE} {a : Str} {ys : List Str} (h : EvE K B Γ t (.str a) Γ1) (h' : EvR K B Γ1 t' (.lst (ys.map D.str)) Γ2) (l : (ys.map fun x => x.length).sum + ys.length * a.length ≤ 16777216) : EvE K B Γ (tM1 (fun x xs H Q => ∃ a p ys, x = .str a ∧ xs = [.ref p] ∧ (SqL K H p (ys.map V.str) ∨ SqT K H p (ys.map V.str)) ∧ (ys.map fun x => x.length).sum + ys.length * a.length ≤ 16777216 ∧ Q (.str (PySem.Txt.join a ys)) H) t t') (.str (PySem.Txt.join a ys)) Γ2 := fun σ H F E Q q =>
  h σ H F E _ fun v H1 F1 E1 s1 r1 => by
    cases r1.str_
    refine ⟨⟨a, rfl⟩, h' σ H1 F1 E1 _ fun p o H2 F2 E2 s2 h2 r2 => ?_⟩
    cases r2 with
    | lst t2 =>
      refine ⟨a, p, ys, rfl, rfl, .inl ?_, l, q _ H2 F2 E2 (s1.trans s2) (.str _)⟩
      rw [← t2.strs]
      exact SqL.of h2
theorem ev_removeprefix {t t' : TE} {a b : Str} (h : EvE K B Γ t (.str a) Γ1) (h' : EvE K B Γ1 t' (.str b) Γ2) (l : a.length ≤ sizeLine) : EvE K B Γ (tBM K "str" (fun x xs H Q => ∃ a b, x = .str a ∧ xs = [.str b] ∧ a.length ≤ sizeLine ∧ Q (.str (PySem.Txt.removeprefix a b)) H) t (tCons t' tNil)) (.str (PySem.Txt.removeprefix a b)) Γ2 := fun σ H F E Q q =>
  h σ H F E _ fun v H1 F1 E1 s1 r1 => by
    cases r1.str_
    refine ⟨rfl, h' σ H1 F1 E1 _ fun u H2 F2 E2 s2 r2 => ?_⟩
    cases r2.str_
    exact ⟨a, b, rfl, rfl, l, q _ H2 F2 E2 (s1.trans s2) (.str _)⟩
theorem ev_splitMax {t t' t2 : TE} {a b : Str} {k : Int} (h : EvE K B Γ t (.str a) Γ1) (h' : EvE K B Γ1 t' (.str b) Γ2) (h2 : EvE K B Γ2 t2 (.int k) Γ3) (l : (b.length == 0) = false ∧ -(2 ^ 63) ≤ k ∧ k < 2 ^ 63 ∧ a.length + 2 ≤ sizeLine) :
    EvE K B Γ (tBM K "str" (fun x xs H Q => ∃ a b k, x = .str a ∧ xs = [.str b, .int k] ∧ (b.length == 0) = false ∧ -(2 ^ 63) ≤ k ∧ k < 2 ^ 63 ∧ a.length + 2 ≤ sizeLine ∧ rNewStrs (PySem.Txt.splitMax a b k) H Q) t (tCons t' (tCons t2 tNil))) (.lst ((PySem.Txt.splitMax a b k).map D.str)) Γ3 := fun σ H F E Q q =>
  h σ H F E _ fun v H1 F1 E1 s1 r1 => by
    cases r1.str_
    refine ⟨rfl, h' σ H1 F1 E1 _ fun u H2 F2 E2 s2 r2 => h2 σ H2 F2 E2 _ fun w H3 F3 E3 s3 r3 => ?_⟩
    cases r2.str_
    cases r3.int_
    exact ⟨a, b, k, rfl, rfl, l.1, l.2.1, l.2.2.1, l.2.2.2, fun p hp => q _ _ _ (E3.grow (.new E3.i hp)) (((s1.trans s2).trans s3).trans (sameN (E3.i.free hp))) (.ref upd_same (.lst (Reps.ofStrs _)))⟩
theorem ev_intS {t : TE} {a : Str} {n : Int} (h : EvE K B Γ t (.str a) Γ1) (l : PySem.intText? a = some n ∧ a.length ≤ 640) : EvE K B Γ (tCB (fun xs H Q => ∃ a n, xs = [.str a] ∧ PySem.intText? a = some n ∧ a.length ≤ 640 ∧ Q (.int n) H) (tCons t tNil)) (.int n) Γ1 := ev_cb1 h fun H F u s r Q q => by
  cases r.str_
  exact ⟨a, n, rfl, l.1, l.2, q _ H F (.refl s) (.int _)⟩
theorem rv_ixS {z : Str} {i : Int} {c : Nat} (e : z.length ≤ sizeLine ∧ atI z.cps.toList i = some c) : R2v K rIxS (.str z) (.int i) (.str ⟨#[c]⟩) := fun H F u v s ru rv Q q => by
  cases ru.str_
  cases rv.int_
  exact ⟨z, i, c, rfl, rfl, e.1, e.2, q _ H F (.refl s) (.str _)⟩
theorem rv_inSign {c : Nat} {z : Str} : R2v K (fun x y H Q => ∃ c z, x = .str ⟨#[c]⟩ ∧ y = .str z ∧ Q (.bl (decide (c ∈ z.cps.toList))) H) (.str ⟨#[c]⟩) (.str z) (.bl (decide (c ∈ z.cps.toList))) := fun H F u v s ru rv Q q => by
  cases ru.str_
  cases rv.str_
  exact ⟨c, z, rfl, rfl, q _ H F (.refl s) (.bl _)⟩
theorem rv_notInSign {c : Nat} {z : Str} : R2v K (fun x y H Q => ∃ c z, x = .str ⟨#[c]⟩ ∧ y = .str z ∧ Q (.bl (!decide (c ∈ z.cps.toList))) H) (.str ⟨#[c]⟩) (.str z) (.bl (!decide (c ∈ z.cps.toList))) := fun H F u v s ru rv Q q => by
  cases ru.str_
  cases rv.str_
  exact ⟨c, z, rfl, rfl, q _ H F (.refl s) (.bl _)⟩
/-! ### in, for flat things -/
inductive Flat : D → V → Prop
  | non : Flat .non .non
  | bl (b : Bool) : Flat (.bl b) (.bl b)
  | int (i : Int) : Flat (.int i) (.int i)
  | str (z : Str) : Flat (.str z) (.str z)
/-- types whose values are flat -/
class Fl (α : Type) [Rp α] [DecidableEq α] where
  v : α → V
  f : ∀ x, Flat (toD x) (v x)
  e : ∀ x y : α, eqV (v y) (v x) = decide (x = y)
theorem Flat.rep {x : D} {v u : V} {F : Hp} (h : Flat x v) (r : Rep K F u x) : u = v := by
  cases h with
  | non => exact r.non_
  | bl b => exact r.bl_
  | int i => exact r.int_
  | str z => exact r.str_
theorem Flat.flat {x : D} {v : V} (h : Flat x v) : flatV v = true := by cases h <;> rfl
instance : Fl Int := ⟨V.int, .int, fun x y => by
  show (y == x) = _
  by_cases h : x = y
  · simp [h]
  · have : y ≠ x := fun e => h e.symm
    simp [h, this]⟩
instance : Fl Str := ⟨V.str, .str, fun x y => by
  show (y == x) = _
  by_cases h : x = y
  · simp [h]
  · have : y ≠ x := fun e => h e.symm
    simp [h, this]⟩
instance : Fl Bool := ⟨V.bl, .bl, fun x y => by cases x <;> cases y <;> rfl⟩
instance : Fl (Option Int) := ⟨fun o => match o with
  | none => .non
  | some i => .int i, fun o => match o with
  | none => .non
  | some i => .int i, fun x y => by
    cases x <;> cases y
    · rfl
    · rfl
    · rfl
    · rename_i a b
      show (b == a) = _
      by_cases h : a = b
      · simp [h]
      · have : b ≠ a := fun e => h e.symm
        simp [h, this]⟩
section
variable {α : Type} [Rp α] [DecidableEq α] [Fl α]
theorem Reps.flat {F : Hp} : ∀ {xs : List α} {vs : List V}, Reps K F vs (xs.map toD) → vs = xs.map Fl.v
  | [], _, .nil => rfl
  | x :: _, _, .cons h t => by
    rw [Reps.flat t, (Fl.f x).rep h]
    rfl
theorem all_flat : ∀ xs : List α, (xs.map Fl.v).all flatV = true
  | [] => rfl
  | x :: xs => by
    rw [List.map_cons, List.all_cons, all_flat xs, (Fl.f x).flat]
    rfl
theorem inV_flat (x : α) : ∀ xs : List α, inV (Fl.v x) (xs.map Fl.v) = decide (x ∈ xs)
  | [] => rfl
  | y :: xs => by
    have ih := inV_flat x xs
    unfold inV at ih ⊢
    rw [List.map_cons, List.any_cons, ih, Fl.e]
    by_cases h1 : x = y <;> by_cases h2 : x ∈ xs <;> simp [h1, h2]
theorem ev_in {t t' : TE} {x : α} {xs : List α} {neg : Bool} (h : EvE K B Γ t (toD x) Γ1) (h' : EvR K B Γ1 t' (.lst (xs.map toD)) Γ2) : EvE K B Γ (tOp (rIn K neg) t t') (.bl (if neg = true then !decide (x ∈ xs) else decide (x ∈ xs))) Γ2 := fun σ H F E Q q => h σ H F E _ fun u H1 F1 E1 s1 r1 => h' σ H1 F1 E1 _ fun a o H2 F2 E2 s2 h2 r2 => by
  cases r2 with
  | lst t2 =>
    have e1 := (Fl.f x).rep r1
    have e2 := t2.flat
    subst e1 e2
    refine ⟨a, _, rfl, .inl (SqL.of h2), (Fl.f x).flat, all_flat xs, ?_⟩
    rw [inV_flat]
    exact q _ H2 F2 E2 (s1.trans s2) (.bl _)
theorem ev_inT {t t' : TE} {x : α} {xs : List α} {neg : Bool} (h : EvE K B Γ t (toD x) Γ1) (h' : EvRT K B Γ1 t' (xs.map toD) Γ2) : EvE K B Γ (tOp (rIn K neg) t t') (.bl (if neg = true then !decide (x ∈ xs) else decide (x ∈ xs))) Γ2 := fun σ H F E Q q => h σ H F E _ fun u H1 F1 E1 s1 r1 => h' σ H1 F1 E1 _ fun a vs H2 F2 E2 s2 h2 t2 => by
  have e1 := (Fl.f x).rep r1
  have e2 := t2.flat
  subst e1 e2
  refine ⟨a, _, rfl, .inr h2, (Fl.f x).flat, all_flat xs, ?_⟩
  rw [inV_flat]
  exact q _ H2 F2 E2 (s1.trans s2) (.bl _)
end
def isIn {α : Type} [DecidableEq α] (x : α) (xs : List α) : Bool := decide (x ∈ xs)
section
variable {α : Type} [Rp α] [DecidableEq α] [Fl α]
theorem ev_inL0 {t t' : TE} {x : α} {xs : List α} (h : EvE K B Γ t (toD x) Γ1) (h' : EvR K B Γ1 t' (.lst (xs.map toD)) Γ2) : EvE K B Γ (tOp (rIn K false) t t') (.bl (isIn x xs)) Γ2 := ev_in (neg := false) h h'
theorem ev_inL1 {t t' : TE} {x : α} {xs : List α} (h : EvE K B Γ t (toD x) Γ1) (h' : EvR K B Γ1 t' (.lst (xs.map toD)) Γ2) : EvE K B Γ (tOp (rIn K true) t t') (.bl (!isIn x xs)) Γ2 := ev_in (neg := true) h h'
theorem ev_inT0 {t t' : TE} {x : α} {xs : List α} (h : EvE K B Γ t (toD x) Γ1) (h' : EvRT K B Γ1 t' (xs.map toD) Γ2) : EvE K B Γ (tOp (rIn K false) t t') (.bl (isIn x xs)) Γ2 := ev_inT (neg := false) h h'
theorem ev_inT1 {t t' : TE} {x : α} {xs : List α} (h : EvE K B Γ t (toD x) Γ1) (h' : EvRT K B Γ1 t' (xs.map toD) Γ2) : EvE K B Γ (tOp (rIn K true) t t') (.bl (!isIn x xs)) Γ2 := ev_inT (neg := true) h h'
end
/-! ### slices -/
def cutL {α : Type} (xs : List α) (lo hi : Option Int) : List α := (xs.drop (HT.sIx xs.length 0 lo)).take (HT.sIx xs.length xs.length hi - HT.sIx xs.length 0 lo)
theorem cutL_map {α β : Type} (f : α → β) (xs : List α) (lo hi : Option Int) : cutL (xs.map f) lo hi = (cutL xs lo hi).map f := by
  unfold cutL
  rw [List.length_map, List.map_take, List.map_drop]
def EvO' (K : PySem.W.Frag) (B : Bs) (Γ : List En) (t : TO) (x : Option Int) (Γ' : List En) : Prop := ∀ σ H F, Env K B Γ σ H F → ∀ Q : Option Int → Hp → Prop, (∀ H' F', Env K B Γ' σ H' F' → Same F F' → Q x H') → t σ H Q
theorem Reps.cut {F : Hp} {vs : List V} {xs : List D} (h : Reps K F vs xs) (lo hi : Option Int) : Reps K F (cutV vs lo hi) (cutL xs lo hi) := by
  unfold cutV cutL
  rw [h.len]
  exact (h.drop _).take _
theorem evo_slL {t : TE} {tl th : TO} {xs : List D} {lo hi : Option Int} (h : EvE K B Γ t (.lst xs) Γ1) (h1 : EvO' K B Γ1 tl lo Γ2) (h2 : EvO' K B Γ2 th hi Γ3) : EvO K B Γ (tSl (rSlL K) t tl th) (.lst (cutL xs lo hi)) Γ3 := evo_new fun σ H F E Q q =>
  h σ H F E _ fun v H1 F1 E1 s1 r1 => h1 σ H1 F1 E1 _ fun H2 F2 E2 s2 => h2 σ H2 F2 E2 _ fun H3 F3 E3 s3 => by
    obtain ⟨a, vs, rfl, k1, k2⟩ := (r1.same (s2.trans s3)).lst_
    exact ⟨a, vs, rfl, SqL.of (E3.i _ _ k1), fun p hp => q p _ H3 F3 E3 ((s1.trans s2).trans s3) hp (.lst (k2.cut _ _))⟩
end
end Ev
namespace Ev
open PySem L2 Hv
set_option autoImplicit false
theorem bind_some {α β : Type} {p : Option α} {f : α → Option β} {r : β} (h : p.bind f = some r) : ∃ v, p = some v ∧ f v = some r := by
  cases e : p with
  | none => rw [e] at h; cases h
  | some v =>
    rw [e] at h
    exact ⟨v, rfl, h⟩
theorem ite_some {α : Type} {p : Prop} [Decidable p] {m : Option α} {r : α} (h : (if p then m else none) = some r) : p ∧ m = some r := by
  by_cases q : p
  · rw [if_pos q] at h; exact ⟨q, h⟩
  · rw [if_neg q] at h; cases h
theorem filter_true {α β : Type} (f : α → β) (xs : List α) : (xs.filter fun _ => true).map f = xs.map f := by rw [List.filter_eq_self.mpr fun _ _ => rfl]
def getL {α β : Type} : α ⊕ β → Option α
  | .inl x => some x
  | .inr _ => none
theorem getL_toD {α β : Type} [Rp α] [Rp β] {x : α ⊕ β} {y : α} (h : getL x = some y) : toD x = toD y := by
  cases x with
  | inl x => cases h; rfl
  | inr x => cases h
instance (i j : Int) : Decidable (CMulW i j) := by unfold CMulW; infer_instance
instance (i j : Int) : Decidable (CPow i j) := by unfold CPow; infer_instance
instance (i j : Int) : Decidable (CDivW i j) := by unfold CDivW; infer_instance
instance (i j : Int) : Decidable (CDivP i j) := by unfold CDivP; infer_instance
def rLen1 (K : PySem.W.Frag) : List V → Hp → VK → Prop := fun xs H Q => ∃ (p : Addr) (ys : List V), xs = [V.ref p] ∧ (SqL K H p ys ∨ SqT K H p ys) ∧ Q (V.int (ys.length : Nat)) H
def rTup1 (K : PySem.W.Frag) : List V → Hp → VK → Prop := fun xs H Q => ∃ (p : Addr) (ys : List V), xs = [V.ref p] ∧ ((SqL K H p ys ∧ ∀ l : Addr, H l = none → Q (V.ref l) (upd H l (.tup ys))) ∨ (SqT K H p ys ∧ Q (V.ref p) H))
def strI (i : Int) : Str := Str.ofString (toString i)
def intS (a : Str) : Option Int := if a.length ≤ 640 then PySem.intText? a else none
theorem intS_ok {a : Str} {n : Int} (h : intS a = some n) : PySem.intText? a = some n ∧ a.length ≤ 640 := by
  unfold intS at h
  obtain ⟨h1, h2⟩ := ite_some h
  exact ⟨h2, h1⟩
/-- dicts -/
def Dc.get {α : Type} (d : Dc α) (k : Str) : Option α := (d.kvs.find? fun p => decide (p.1 = k)).map Prod.snd
def Dc.has {α : Type} (d : Dc α) (k : Str) : Bool := (d.get k).isSome
section
variable {K : PySem.W.Frag} {B : Bs} {Γ Γ1 Γ2 Γ3 Γ4 : List En} {X : XK}
theorem _root_.L2.FnOk.pre {P : Program} {w : World} {mg : Str → Option Value} {base : Heap} {CX : CXT} {k : Nat} {f : Addr} {fd : FuncData} {ps : List Str} {p q : List Ar → D → Prop} (F : FnOk P w K mg base CX k f fd ps (spE K p)) (h : ∀ xs y, q xs y → p xs y) : FnOk P w K mg base CX k f fd ps (spE K q) :=
  ⟨fun vs H Q E ⟨F1, xs, y, h1, h2, h3, h4⟩ => F.len vs H Q E ⟨F1, xs, y, h1, h2, h _ _ h3, h4⟩,
   fun A outer s H args us vs Q E r e b v ⟨F1, xs, y, h1, h2, h3, h4⟩ => F.run A outer s H args us vs Q E r e b v ⟨F1, xs, y, h1, h2, h _ _ h3, h4⟩⟩
/-! ### and, or with parts that may be missing -/
theorem ev_andM {s t : TE} {b : Bool} {m : Option Bool} {c : Bool} (e : (if b = true then m else some false) = some c) (h : EvE K B Γ s (.bl b) Γ1) (k : b = true → ∀ c, m = some c → EvE K B Γ1 t (.bl c) Γ1) : EvE K B Γ (tAndV s t) (.bl c) Γ1 := fun σ H F E Q q => h σ H F E _ fun v H1 F1 E1 s1 r1 => by
  cases r1.bl_
  refine ⟨b, rfl, ?_⟩
  cases b with
  | true => exact iteT (k rfl c e σ H1 F1 E1 _ fun w H2 F2 E2 s2 r2 => q w H2 F2 E2 (s1.trans s2) r2)
  | false => cases e; exact iteF (q _ H1 F1 E1 s1 (.bl false))
theorem ev_orM {s t : TE} {b : Bool} {m : Option Bool} {c : Bool} (e : (if b = true then some true else m) = some c) (h : EvE K B Γ s (.bl b) Γ1) (k : b = false → ∀ c, m = some c → EvE K B Γ1 t (.bl c) Γ1) : EvE K B Γ (tOrV s t) (.bl c) Γ1 := fun σ H F E Q q => h σ H F E _ fun v H1 F1 E1 s1 r1 => by
  cases r1.bl_
  refine ⟨b, rfl, ?_⟩
  cases b with
  | true => cases e; exact iteT (q _ H1 F1 E1 s1 (.bl true))
  | false => exact iteF (k rfl c e σ H1 F1 E1 _ fun w H2 F2 E2 s2 r2 => q w H2 F2 E2 (s1.trans s2) r2)
theorem et_andM {s t : TT} {b : Bool} {m : Option Bool} {c : Bool} (e : (if b = true then m else some false) = some c) (h : EvT K B Γ s b Γ1) (k : b = true → ∀ c, m = some c → EvT K B Γ1 t c Γ1) : EvT K B Γ (tAnd s t) c Γ1 := fun σ H F E Q q => h σ H F E _ fun H1 F1 E1 s1 => by
  cases b with
  | true => exact iteT (k rfl c e σ H1 F1 E1 _ fun H2 F2 E2 s2 => q H2 F2 E2 (s1.trans s2))
  | false => cases e; exact iteF (q H1 F1 E1 s1)
theorem et_orM {s t : TT} {b : Bool} {m : Option Bool} {c : Bool} (e : (if b = true then some true else m) = some c) (h : EvT K B Γ s b Γ1) (k : b = false → ∀ c, m = some c → EvT K B Γ1 t c Γ1) : EvT K B Γ (tOr s t) c Γ1 := fun σ H F E Q q => h σ H F E _ fun H1 F1 E1 s1 => by
  cases b with
  | true => cases e; exact iteT (q H1 F1 E1 s1)
  | false => exact iteF (k rfl c e σ H1 F1 E1 _ fun H2 F2 E2 s2 => q H2 F2 E2 (s1.trans s2))
theorem ev_ifM1 {c : TT} {s t : TE} {b : Bool} {α : Type} [Rp α] {m1 m2 : Option α} {k : α} (e : (if b = true then m1 else m2) = some k) (h : EvT K B Γ c b Γ1) (k1 : b = true → ∀ k, m1 = some k → EvE K B Γ1 s (toD k) Γ1) (k2 : b = false → ∀ k, m2 = some k → EvE K B Γ1 t (toD k) Γ1) : EvE K B Γ (tIf c s t) (toD k) Γ1 := ev_ifM (φ := toD) (ψ := fun _ => Γ1) e h k1 k2
theorem ev_chain {r r' : R2} {ta tb tc : TE} {x y z : D} {b c : Bool} (ha : EvE K B Γ ta x Γ1) (hb : EvE K B Γ1 tb y Γ2) (h1 : R2v K r x y (.bl b)) (hc : EvE K B Γ2 tc z Γ2) (h2 : R2v K r' y z (.bl c)) : EvE K B Γ (tChain r r' ta tb tc) (.bl (b && c)) Γ2 := fun σ H F E Q q =>
  ha σ H F E _ fun u H1 F1 E1 s1 r1 => hb σ H1 F1 E1 _ fun v H2 F2 E2 s2 r2 => h1 H2 F2 u v E2.i (r1.same s2) r2 _ fun w H3 F3 g r3 => by
    cases r3.bl_
    refine ⟨b, rfl, ?_⟩
    have s3 := (s1.trans s2).trans g.f
    cases b with
    | true => exact iteT (hc σ H3 F3 (E2.grow g) _ fun w H4 F4 E4 s4 r4 => h2 H4 F4 v w E4.i (r2.same (g.f.trans s4)) r4 _ fun w' H5 F5 g5 r5 => q w' H5 F5 (E4.grow g5) ((s3.trans s4).trans g5.f) r5)
    | false => exact iteF (q _ H3 F3 (E2.grow g) s3 (.bl false))
theorem et_truthL {α : Type} [Rp α] {t : TE} {l : List α} (h : EvR K B Γ t (toD l) Γ1) : EvT K B Γ (fun σ H Q => t σ H fun x H' => ∃ k, TruV K x H' k ∧ Q k H') (!l.isEmpty) Γ1 := fun σ H F E Q q => h σ H F E _ fun a o H1 F1 E1 s1 h1 r1 => by
  cases r1 with
  | lst t1 =>
    refine ⟨_, .inl ⟨_, SqL.of h1, rfl⟩, ?_⟩
    have e : ∀ {vs : List V}, Reps K F1 vs (l.map toD) → (!vs.isEmpty) = (!l.isEmpty) := fun t1 => by
      have := t1.len
      rw [List.length_map] at this
      cases l with
      | nil => cases t1; rfl
      | cons x l => cases t1; rfl
    rw [e t1]
    exact q H1 F1 E1 s1
/-! ### more statements -/
theorem es_augS {i : Nat} {te : TE} {x y : Str} (hx : Γ[i]? = some (.d (.str x))) (h : EvE K B Γ te (.str y) Γ1) (l : x.length + y.length ≤ sizeLine) : EvS1 K B Γ (tAug i te fun x y H Q => ∃ i j, x = V.str i ∧ y = V.str j ∧ i.length + j.length ≤ sizeLine ∧ Q (V.str (i ++ j)) H) (.nx (Γ1.set i (.d (.str (x ++ y))))) := fun Dn σ H F E q => by
  obtain ⟨v, h1, r⟩ := E.d hx
  cases r.str_
  refine ⟨_, h1, h σ H F E _ fun w H1 F1 E1 s1 r1 => ?_⟩
  cases r1.str_
  exact ⟨x, y, rfl, rfl, l, q _ H1 F1 (E1.setD (.str _)) s1⟩
theorem EvS1.cast {t : TS} {o o' : Out} (h : EvS1 K B Γ t o) (e : o = o') : EvS1 K B Γ t o' := e ▸ h
/-- a while with its test -/
noncomputable def whB {ρ σ : Type} (bf : σ → Option Bool) (ff : σ → Option (Lp ρ σ)) (s : σ) : Option (Ex ρ σ) := whR (fun s => (bf s).bind fun b => if b = true then ff s else some (.stop s)) s
theorem es_whB {ρ τ : Type} {G : τ → List En} {fr : ρ → D} {fw : ρ → List (Nat × D)} {c : TT} {tb : TS} {s0 : τ} {bf : τ → Option Bool} {ff : τ → Option (Lp ρ τ)} (h0 : Wk Γ (G s0)) (hc : ∀ s b, bf s = some b → EvT K B (G s) c b (G s)) (hb : ∀ s, EvS K B (G s) tb (Kl G fr fw) (ff s)) :
    EvS K B Γ (tWhile c tb) (Kx G fr fw) (whB bf ff s0) := es_whR h0 hc (fun s _ => hb s) (fun _ => rfl)
/-- a while without a return -/
noncomputable def whS {σ : Type} (bf : σ → Option Bool) (ff : σ → Option (Lp Empty σ)) (s : σ) : Option σ := exB (whB bf ff s) some (fun y => nomatch y)
theorem es_whS {τ : Type} {G : τ → List En} {c : TT} {tb : TS} {s0 : τ} {bf : τ → Option Bool} {ff : τ → Option (Lp Empty τ)} (h0 : Wk Γ (G s0)) (hc : ∀ s b, bf s = some b → EvT K B (G s) c b (G s)) (hb : ∀ s, EvS K B (G s) tb (Kl G (fun (y : Empty) => nomatch y) (fun (y : Empty) => nomatch y)) (ff s)) :
    EvS K B Γ (tWhile c tb) (fun s => .nx (G s)) (whS bf ff s0) := fun r er => by
  unfold whS exB at er
  obtain ⟨v, e1, e2⟩ := bind_some er
  cases v with
  | done v =>
    cases e2
    exact es_whB (fr := (fun (y : Empty) => nomatch y)) (fw := (fun (y : Empty) => nomatch y)) h0 hc hb _ e1
  | ret y => exact nomatch y
/-! ### slices, stars -/
theorem eo_none : EvO' K B Γ tNoPart none Γ := fun σ H F E Q q => q H F E (Same.refl _)
theorem eo_some {t : TE} {i : Int} (h : EvE K B Γ t (.int i) Γ1) : EvO' K B Γ (tPart t) (some i) Γ1 := fun σ H F E Q q => h σ H F E _ fun v H1 F1 E1 s1 r1 => by
  cases r1.int_
  exact ⟨i, rfl, q H1 F1 E1 s1⟩
/-! ### zip -/
/-! ### isinstance -/
theorem ev_isiC {t : TE} {c : Str} {gs : List (Str × D)} {b : Bool} (h : EvE K B Γ t (.ins c gs) Γ1) (k : ∀ H a dx fs, H a = some (.ins (cA K c) dx fs) → TyX K H (.ref a) (.ref (cA K c)) ∧ PySem.W.kitOne K (.ref (cA K c)) (.ref (cA K c)) = some b) : EvE K B Γ (tCB (rIsi K) (tCons t (tCons (tC (.ref (cA K c))) tNil))) (.bl b) Γ1 := fun σ H F E Q q =>
  h σ H F E _ fun v H1 F1 E1 s1 r1 => by
    obtain ⟨a, dx, fs, rfl, h1, _⟩ := r1.ins_
    obtain ⟨k1, k2⟩ := k H1 a dx fs (E1.i _ _ h1)
    exact ⟨_, _, _, _, b, rfl, .own _, k1, k2, q _ H1 F1 E1 s1 (.bl b)⟩
/-! ### dicts -/
/-! ### == at any depth -/
mutual
def D.py : D → PyData
  | .non => .none
  | .bl b => .bool b
  | .int i => .int i
  | .str z => .str z
  | .tup xs => .tuple (pys xs)
  | .tupF xs => .tuple (pys xs)
  | .lst xs => .list (pys xs)
  | .ins _ _ => .none
  | .dct _ => .none
  | .cls _ => .none
  | .slo _ _ => .none
def pys : List D → List PyData
  | [] => []
  | x :: xs => x.py :: pys xs
end
mutual
def D.isData : D → Bool
  | .tup xs => allData xs
  | .tupF xs => allData xs
  | .lst xs => allData xs
  | .ins _ _ => false
  | .dct _ => false
  | .cls _ => false
  | .slo _ _ => false
  | _ => true
def allData : List D → Bool
  | [] => true
  | x :: xs => x.isData && allData xs
end
mutual
theorem Rep.dp {F H : Hp} (s : Same F H) : ∀ {v : V} {x : D}, Rep K F v x → x.isData = true → Dp K H v x.py
  | _, _, .non, _ => .non
  | _, _, .bl b, _ => .bl b
  | _, _, .int b, _ => .int b
  | _, _, .str b, _ => .str b
  | _, _, .cls c, d => Bool.noConfusion d
  | _, _, .slo _ _ _, d => Bool.noConfusion d
  | _, _, .kt h, _ => .tup (.inr h) .nil
  | _, _, .fz h t, d => .tup (.inl (.inr ⟨_, s _ _ h⟩)) (Reps.dp s t d)
  | _, _, .fzF h _ _ t, d => .tup (.inl (.inr ⟨_, s _ _ h⟩)) (Reps.dp s t d)
  | _, _, .ref h t, d => RepO.dp s t d _ h
theorem RepO.dp {F H : Hp} (s : Same F H) : ∀ {o : HO} {x : D}, RepO K F o x → x.isData = true → ∀ a : Addr, F a = some o → Dp K H (.ref a) x.py
  | _, _, .tup t, d, _, h => .tup (SqT.of (s _ _ h)) (Reps.dp s t d)
  | _, _, .lst t, d, _, h => .lst (SqL.of (s _ _ h)) (Reps.dp s t d)
  | _, _, .ins e t, d, _, _ => Bool.noConfusion d
  | _, _, .dct e t, d, _, _ => Bool.noConfusion d
theorem Reps.dp {F H : Hp} (s : Same F H) : ∀ {vs : List V} {xs : List D}, Reps K F vs xs → allData xs = true → DpAll K H vs (pys xs)
  | _, _, .nil, _ => .nil
  | _, _, .cons h t, d => .cons (Rep.dp s h (by unfold allData at d; rw [Bool.and_eq_true] at d; exact d.1)) (Reps.dp s t (by unfold allData at d; rw [Bool.and_eq_true] at d; exact d.2))
end
def EqOk (x y : D) : Prop := (x.isData && y.isData && SeqAt.shaped x.py && SeqAt.shaped y.py) = true
instance (x y : D) : Decidable (EqOk x y) := by unfold EqOk; infer_instance
def dEq (x y : D) : Bool := PyData.eqv x.py y.py
theorem rv_eqD {x y : D} (h : EqOk x y) : R2v K (rEqD K) x y (.bl (dEq x y)) := fun H F u v s ru rv Q q => by
  unfold EqOk at h
  simp only [Bool.and_eq_true] at h
  obtain ⟨⟨⟨h1, h2⟩, h3⟩, h4⟩ := h
  exact ⟨_, _, ru.dp s h1, rv.dp s h2, h3, h4, q _ H F (.refl s) (.bl _)⟩
theorem rv_neD {x y : D} (h : EqOk x y) : R2v K (rNeD K) x y (.bl (!dEq x y)) := fun H F u v s ru rv Q q => by
  unfold EqOk at h
  simp only [Bool.and_eq_true] at h
  obtain ⟨⟨⟨h1, h2⟩, h3⟩, h4⟩ := h
  exact ⟨_, _, ru.dp s h1, rv.dp s h2, h3, h4, q _ H F (.refl s) (.bl _)⟩
/-! ### f-strings -/
def js : Str → List Str → Str
  | acc, [] => acc
  | acc, x :: xs => js (acc ++ x) xs
def jsOkB : Str → List Str → Bool
  | _, [] => true
  | acc, x :: xs => decide ((acc ++ x).length ≤ sizeLine) && jsOkB (acc ++ x) xs
abbrev JsOk (acc : Str) (xs : List Str) : Prop := jsOkB acc xs = true
inductive EvJ (K : PySem.W.Frag) (B : Bs) (Γ : List En) : List TE → List Str → Prop
  | nil : EvJ K B Γ [] []
  | cons {t : TE} {ts : List TE} {x : Str} {xs : List Str} (h : EvE K B Γ t (.str x) Γ) (k : EvJ K B Γ ts xs) : EvJ K B Γ (t :: ts) (x :: xs)
theorem ej_nil : EvJ K B Γ [] [] := .nil
theorem ej_cons {t : TE} {ts : List TE} {x : Str} {xs : List Str} (h : EvE K B Γ t (.str x) Γ) (k : EvJ K B Γ ts xs) : EvJ K B Γ (t :: ts) (x :: xs) := .cons h k
theorem ev_joined {ts : List TE} {xs : List Str} (h : EvJ K B Γ ts xs) (o : JsOk Str.empty xs) : EvE K B Γ (fun σ H Q => tJs ts Str.empty σ H fun out H1 => Q (.str out) H1) (.str (js Str.empty xs)) Γ := by
  have key : ∀ {ts : List TE} {xs : List Str}, EvJ K B Γ ts xs → ∀ acc, jsOkB acc xs = true → ∀ σ H F, Env K B Γ σ H F → ∀ Q : Str → Hp → Prop, (∀ H' F', Env K B Γ σ H' F' → Same F F' → Q (js acc xs) H') → tJs ts acc σ H Q := by
    intro ts xs h
    induction h with
    | nil => exact fun acc _ σ H F E Q q => q H F E (Same.refl _)
    | cons h k ih =>
      rename_i t ts x xs
      intro acc o σ H F E Q q
      unfold jsOkB at o
      rw [Bool.and_eq_true] at o
      show t σ H fun x H1 => ∃ y : Str, x = .str y ∧ (acc ++ y).length ≤ sizeLine ∧ tJs ts (acc ++ y) σ H1 Q
      refine h σ H F E _ fun v H1 F1 E1 s1 r1 => ?_
      cases r1.str_
      exact ⟨x, rfl, of_decide_eq_true o.1, ih _ o.2 σ H1 F1 E1 Q fun H2 F2 E2 s2 => q H2 F2 E2 (s1.trans s2)⟩
  exact fun σ H F E Q q => key h _ o σ H F E _ fun H1 F1 E1 s1 => q _ H1 F1 E1 s1 (.str _)
theorem ev_fmtI {t : TE} {i : Int} (h : EvE K B Γ t (.int i) Γ1) (l : i.natAbs.log2 < 1920) : EvE K B Γ (tFmt t) (.str (strI i)) Γ1 := fun σ H F E Q q => h σ H F E _ fun v H1 F1 E1 s1 r1 => by
  cases r1.int_
  exact .inr ⟨i, rfl, l, q _ H1 F1 E1 s1 (.str _)⟩
theorem ev_fmtS {t : TE} {z : Str} (h : EvE K B Γ t (.str z) Γ1) (l : z.length ≤ sizeLine) : EvE K B Γ (tFmt t) (.str z) Γ1 := fun σ H F E Q q => h σ H F E _ fun v H1 F1 E1 s1 r1 => by
  cases r1.str_
  exact .inl ⟨z, rfl, l, q _ H1 F1 E1 s1 (.str _)⟩
theorem ev_fmt1S {t : TE} {z : Str} (h : EvE K B Γ t (.str z) Γ1) (l : z.length ≤ sizeLine) : EvE K B Γ (tFmt t) (.str z) Γ1 := ev_fmtS h l
def fmtE : Int ⊕ Str → Option Str
  | .inl i => if i.natAbs.log2 < 1920 then some (strI i) else none
  | .inr z => if z.length ≤ sizeLine then some z else none
theorem ev_fmtE {t : TE} {x : Int ⊕ Str} {z : Str} (h : EvE K B Γ t (toD x) Γ1) (e : fmtE x = some z) : EvE K B Γ (tFmt t) (.str z) Γ1 := by
  cases x with
  | inl i =>
    obtain ⟨e1, e2⟩ := ite_some (show (if _ then some _ else none) = some z from e)
    cases e2
    exact ev_fmtI h e1
  | inr y =>
    obtain ⟨e1, e2⟩ := ite_some (show (if _ then some _ else none) = some z from e)
    cases e2
    exact ev_fmtS h e1
end
end Ev
namespace Ev
open PySem L2 Hv
set_option autoImplicit false
/-- one sign of a text -/
structure Sg where
  c : Nat
deriving DecidableEq
instance : Rp Sg := ⟨fun s => .str ⟨#[s.c]⟩⟩
structure Kind where
  parts : P5 Str Int (Int ⊕ Str) (Option (P2 Int Str)) (Option Str)
deriving DecidableEq
structure Row where
  parts : P3 Str Str Str
deriving DecidableEq
structure Rules where
  made : P2 (Tp Kind) (Tp Row)
  lines : List Str
  text : Str
deriving DecidableEq
structure Ground where
  rules : Rules
  part : Int
  whole : Int
  many : Option Int
instance : Rp Kind := ⟨fun k => .ins "Kind" [("parts", toD k.parts)]⟩
instance : Rp Row := ⟨fun k => .ins "Row" [("parts", toD k.parts)]⟩
instance : Rp Rules := ⟨fun k => .ins "Rules" [("made", toD k.made), ("lines", toD k.lines), ("text", toD k.text)]⟩
instance : Rp Ground := ⟨fun k => .ins "Ground" [("rules", toD k.rules), ("part", toD k.part), ("whole", toD k.whole), ("many", toD k.many)]⟩
instance : NN Kind := ⟨fun _ h => D.noConfusion h⟩
instance : NN Row := ⟨fun _ h => D.noConfusion h⟩
instance : NN Rules := ⟨fun _ h => D.noConfusion h⟩
instance : NN Sg := ⟨fun _ h => D.noConfusion h⟩
def Kind.name (k : Kind) : Str := k.parts.a
def Kind.talks (k : Kind) : Int := k.parts.b
def Kind.needs (k : Kind) : Int ⊕ Str := k.parts.c
def Kind.closing (k : Kind) : Option (P2 Int Str) := k.parts.d
def Kind.ends (k : Kind) : Option Str := k.parts.e
def Row.outer (k : Row) : Str := k.parts.a
def Row.inner (k : Row) : Str := k.parts.b
def Row.amount (k : Row) : Str := k.parts.c
def Rules.kinds (r : Rules) : Tp Kind := r.made.a
def Rules.rows (r : Rules) : Tp Row := r.made.b
def getS : D → Option Str
  | .str z => some z
  | _ => none
theorem getS_toD {x : D} {z : Str} (h : getS x = some z) : toD x = toD z := by
  cases x with
  | str y => cases h; rfl
  | _ => cases h
/-- what isinstance says of data; other things are not asked -/
def isTy (x : D) (c : String) : Option Bool := x.ty.map fun n => n == c || (n == "bool" && c == "int")
section
variable {K : PySem.W.Frag} {B : Bs} {Γ Γ1 Γ2 Γ3 Γ4 : List En} {X : XK}
theorem ev_isiD {t : TE} {x : D} {m : String} {b : Bool} (h : EvE K B Γ t (toD x) Γ1) (e : isTy x m = some b) (k : ∀ n ∈ ["NoneType", "bool", "int", "str", "tuple", "list"], PySem.W.kitOne K (.type n) (.type m) = some (n == m || (n == "bool" && m == "int"))) : EvE K B Γ (tCB (rIsi K) (tCons t (tCons (tC (.ty m)) tNil))) (.bl b) Γ1 := by
  unfold isTy at e
  cases q : x.ty with
  | none => rw [q] at e; cases e
  | some n =>
    rw [q] at e
    cases e
    refine ev_isi h q (k n ?_)
    cases x <;> (try cases q) <;> simp [List.mem_cons]
/-- signs -/
def sgAt (z : Str) (i : Int) : Option Sg := if z.length ≤ sizeLine then (atI z.cps.toList i).map Sg.mk else none
theorem sgAt_ok {z : Str} {i : Int} {s : Sg} (h : sgAt z i = some s) : z.length ≤ sizeLine ∧ atI z.cps.toList i = some s.c := by
  unfold sgAt at h
  obtain ⟨h1, h2⟩ := ite_some h
  refine ⟨h1, ?_⟩
  cases e : atI z.cps.toList i with
  | none => rw [e] at h2; cases h2
  | some c => rw [e] at h2; cases h2; rfl
theorem kit_str : ∀ n ∈ ["NoneType", "bool", "int", "str", "tuple", "list"], PySem.W.kitOne K (.type n) (.type "str") = some (n == "str" || (n == "bool" && "str" == "int")) := by
  intro n hn
  simp only [List.mem_cons, List.not_mem_nil, or_false] at hn
  rcases hn with rfl | rfl | rfl | rfl | rfl | rfl <;> exact kit_ty (by decide +kernel)
theorem kit_int : ∀ n ∈ ["NoneType", "bool", "int", "str", "tuple", "list"], PySem.W.kitOne K (.type n) (.type "int") = some (n == "int" || (n == "bool" && "int" == "int")) := by
  intro n hn
  simp only [List.mem_cons, List.not_mem_nil, or_false] at hn
  rcases hn with rfl | rfl | rfl | rfl | rfl | rfl <;> exact kit_ty (by decide +kernel)
theorem kit_bool : ∀ n ∈ ["NoneType", "bool", "int", "str", "tuple", "list"], PySem.W.kitOne K (.type n) (.type "bool") = some (n == "bool" || (n == "bool" && "bool" == "int")) := by
  intro n hn
  simp only [List.mem_cons, List.not_mem_nil, or_false] at hn
  rcases hn with rfl | rfl | rfl | rfl | rfl | rfl <;> exact kit_ty (by decide +kernel)
theorem rv_ixG {z : Str} {i : Int} {s : Sg} (e : z.length ≤ sizeLine ∧ atI z.cps.toList i = some s.c) : R2v K rIxS (.str z) (.int i) (toD s) := rv_ixS e
def isSign (s : Sg) (z : Str) : Bool := decide (s.c ∈ z.cps.toList)
theorem rv_inG {s : Sg} {z : Str} : R2v K (fun x y H Q => ∃ c z, x = .str ⟨#[c]⟩ ∧ y = .str z ∧ Q (.bl (decide (c ∈ z.cps.toList))) H) (toD s) (.str z) (.bl (isSign s z)) := rv_inSign
theorem rv_notInG {s : Sg} {z : Str} : R2v K (fun x y H Q => ∃ c z, x = .str ⟨#[c]⟩ ∧ y = .str z ∧ Q (.bl (!decide (c ∈ z.cps.toList))) H) (toD s) (.str z) (.bl (!isSign s z)) := rv_notInSign
def signs (z : Str) : List Sg := z.cps.toList.map Sg.mk
theorem ei_str {t : TE} {z : Str} (h : EvE K B Γ t (.str z) Γ1) : EvI K B Γ (iStr t) ((signs z).map toD) Γ1 := fun σ H F E R q => h σ H F E _ fun v H1 F1 E1 s1 r1 => by
  cases r1.str_
  refine ⟨z, rfl, q _ H1 F1 (fun _ => True) (fun i H v H' => H' = H ∧ ∃ c, z.cps[i]? = some c ∧ v = .str ⟨#[c]⟩) E1 s1 ?_ (fun _ _ _ _ => trivial) fun i H' F' v H'' s i' y => ?_⟩
  · rw [show ((signs z).map toD).length = z.cps.size from by unfold signs; simp]
    exact walk_str
  · obtain ⟨rfl, c, hc, rfl⟩ := y
    refine ⟨F', .str ⟨#[c]⟩, .refl i', ?_, .str _⟩
    unfold signs
    rw [List.map_map, List.getElem?_map, Array.getElem?_toList, hc]
    rfl
theorem ei_enumT {α : Type} [Rp α] {t : TE} {l : Tp α} (h : EvE K B Γ t (toD l) Γ1) : EvI K B Γ (iEnumT K (tCons t tNil)) ((enP l.l).map toD) Γ1 := fun σ H F E R q => h σ H F E _ fun v H1 F1 E1 s1 r1 => by
  obtain ⟨a, vs, rfl, k1, k2⟩ := Rep.tup_ (xs := l.l.map toD) r1
  refine ⟨a, vs, rfl, k1 _ E1.i, q _ H1 F1 _ _ E1 s1 (by rw [enP_len, ← List.length_map (f := toD), ← k2.len]; exact walk_enumT (xs := vs)) (fun F' H' s i => k1 _ (s.trans i)) fun i H' F' v H'' s i' y => ?_⟩
  obtain ⟨T, x, y, rfl, hT, rfl, hx, hy⟩ := y
  cases hx
  obtain ⟨z, hz, rz⟩ := k2.get hy
  rw [List.getElem?_map] at hz
  cases e : l.l[i]? with
  | none => rw [e] at hz; cases hz
  | some w =>
    rw [e] at hz
    cases hz
    have sn := sameN (o := .tup [.int (i : Nat), y]) (i'.free hT)
    exact ⟨_, _, .new i' hT, enP_get e, .ref upd_same (.tup (.cons (.int _) (.cons ((rz.same s).same sn) .nil)))⟩
/-- x or y, of an int that may be missing -/
def orI (o : Option Int) (y : Int) : Int := match o with
  | none => y
  | some i => if i = 0 then y else i
theorem ev_orI {t t' : TE} {o : Option Int} {y : Int} (h : EvE K B Γ t (toD o) Γ1) (h' : EvE K B Γ1 t' (.int y) Γ1) : EvE K B Γ (tOrT K t t') (.int (orI o y)) Γ1 := fun σ H F E Q q => h σ H F E _ fun v H1 F1 E1 s1 r1 => by
  cases o with
  | none =>
    cases Rep.non_ r1
    exact ⟨false, rfl, iteF (h' σ H1 F1 E1 _ fun w H2 F2 E2 s2 r2 => q w H2 F2 E2 (s1.trans s2) r2)⟩
  | some i =>
    cases Rep.int_ r1
    refine ⟨i != 0, rfl, ?_⟩
    by_cases z : i = 0
    · subst z
      refine iteF (h' σ H1 F1 E1 _ fun w H2 F2 E2 s2 r2 => q w H2 F2 E2 (s1.trans s2) ?_)
      exact r2
    · have e : (i != 0) = true := by simp [z]
      rw [e]
      refine iteT (q _ H1 F1 E1 s1 ?_)
      show Rep K F1 (.int i) (.int (if i = 0 then y else i))
      rw [if_neg z]
      exact .int i
/-- == [], == () -/
theorem ev_isNil {t : TE} {x0 : D} {α : Type} [Rp α] {l : List α} (h : EvR K B Γ t (.lst (l.map toD)) Γ1) : EvE K B Γ (tOp (rEqE K) t (tLst tNil)) (.bl l.isEmpty) Γ1 := fun σ H F E Q q => h σ H F E _ fun a o H1 F1 E1 s1 h1 r1 => by
  cases r1 with
  | lst t1 =>
    refine ⟨by show 0 ≤ sizeLine; decide, fun p hp => ⟨a, p, _, rfl, rfl, .inl ⟨SqL.of (by rw [upd_ne (ne_of_none h1 hp)]; exact h1), SqL.of upd_same⟩, ?_⟩⟩
    have e : ∀ {vs : List V}, Reps K F1 vs (l.map toD) → vs.isEmpty = l.isEmpty := fun t1 => by
      cases l with
      | nil => cases t1; rfl
      | cons x l => cases t1; rfl
    rw [e t1]
    exact q _ _ F1 (E1.grow (.newO E1.i hp)) s1 (.bl _)
theorem ev_isNilT {t : TE} {α : Type} [Rp α] {l : Tp α} (h : EvE K B Γ t (toD l) Γ1) : EvE K B Γ (tOp (rEqE K) t (tTup tNil)) (.bl l.l.isEmpty) Γ1 := fun σ H F E Q q => h σ H F E _ fun v H1 F1 E1 s1 r1 => by
  obtain ⟨a, vs, rfl, k1, k2⟩ := Rep.tup_ (xs := l.l.map toD) r1
  refine ⟨by show 0 ≤ sizeLine; decide, fun p hp => ⟨a, p, _, rfl, rfl, .inr ⟨k1 _ (E1.i.trans (sameN hp)), SqT.of upd_same⟩, ?_⟩⟩
  have e : ∀ {vs : List V} {l : List α}, Reps K F1 vs (l.map toD) → vs.isEmpty = l.isEmpty := fun {_ l} t1 => by
    cases l with
    | nil => cases t1; rfl
    | cons x l => cases t1; rfl
  rw [e k2]
  exact q _ _ F1 (E1.grow (.newO E1.i hp)) s1 (.bl _)
/-- in, for data of any depth -/
def inD (x : D) (xs : List D) : Bool := (pys xs).any fun z => PyData.eqv z x.py
theorem ev_inD {t t' : TE} {x : D} {xs : List D} (h : EvE K B Γ t x Γ1) (h' : EvR K B Γ1 t' (.lst xs) Γ2) (e : EqOk x (.lst xs)) : EvE K B Γ (tOp (rInD K) t t') (.bl (inD x xs)) Γ2 := fun σ H F E Q q => h σ H F E _ fun u H1 F1 E1 s1 r1 => h' σ H1 F1 E1 _ fun a o H2 F2 E2 s2 h2 r2 => by
  unfold EqOk at e
  simp only [Bool.and_eq_true] at e
  obtain ⟨⟨⟨e1, e2⟩, e3⟩, e4⟩ := e
  cases r2 with
  | lst t2 => exact ⟨_, _, (r1.same s2).dp E2.i e1, .lst (SqL.of h2) (t2.dp E2.i e2), e3, e4, q _ H2 F2 E2 (s1.trans s2) (.bl _)⟩
end
end Ev
namespace Ev
open PySem L2 Hv
set_option autoImplicit false
section
variable {K : PySem.W.Frag} {B : Bs} {Γ Γ1 Γ2 Γ3 Γ4 : List En} {X : XK}
/-! ### two new objects at once -/
theorem EvO.kept {t : TE} {y : D} (h : ∀ B, EvO K B Γ t y Γ1) (eb : lent Γ1 = lent Γ) {σ : L2.St} {H F : Hp} {L : Addr} {o : HO} (E : Env K B Γ σ H F) (n : NotIn B Γ σ F L) (hl : H L = some o) {Q : VK} (q : ∀ a o' H' F', Env K B Γ1 σ H' F' → NotIn B Γ1 σ F' L → H' L = some o → a ≠ L → Same F F' → F' a = none → B.H0 a = none → ¬ B.M a → (∀ (j : Nat) (p : Nat) (y : D), Γ1[j]? = some (.own p y) → σ[j]? = some (some (.ref a)) → False) → H' a = some o' → RepO K F' o' y → Q (.ref a) H') : t σ H Q :=
  h (B.keep L o) σ H F (E.keep n hl) _ fun a o' H' F' E' s hf h0 hm no ha hr => by
    obtain ⟨E2, n2, hl2⟩ := E'.unkeep n.h0 n.m E n.f s eb (fun _ _ _ => rfl)
    have ne : a ≠ L := by
      rintro rfl
      have : (B.keep a o).H0 a = some o := upd_same
      rw [this] at h0
      cases h0
    refine q a o' H' F' E2 n2 hl2 ne s hf ?_ hm no ha hr
    have h0 : upd B.H0 L o a = none := h0
    rwa [upd_ne ne] at h0
theorem EvE.kept {t : TE} {y : D} (h : ∀ B, EvE K B Γ t y Γ1) (eb : lent Γ1 = lent Γ) {σ : L2.St} {H F : Hp} {L : Addr} {o : HO} (E : Env K B Γ σ H F) (n : NotIn B Γ σ F L) (hl : H L = some o) {Q : VK} (q : ∀ v H' F', Env K B Γ1 σ H' F' → NotIn B Γ1 σ F' L → H' L = some o → Same F F' → Rep K F' v y → Q v H') : t σ H Q :=
  h (B.keep L o) σ H F (E.keep n hl) _ fun v H' F' E' s r => by
    obtain ⟨E2, n2, hl2⟩ := E'.unkeep n.h0 n.m E n.f s eb (fun _ _ _ => rfl)
    exact q v H' F' E2 n2 hl2 s r
theorem es_parEO {i j : Nat} {ta tb : TE} {x y : D} (ha : EvE K B Γ ta x Γ1) (hb : EvO K B Γ1 tb y Γ2) : EvS1 K B Γ (tPar i j (tCons ta (tCons tb tNil))) (.nx ((Γ2.set i (.d x)).set j (.own 0 y))) := fun Dn σ H F E q => ha σ H F E _ fun v H1 F1 E1 s1 r1 => hb σ H1 F1 E1 _ fun a o H2 F2 E2 s2 hf h0 hm no hl hr =>
  ⟨_, _, rfl, q _ H2 F2 ((E2.setD (r1.same s2)).set (i := j) (e := .own 0 y) ⟨a, o, rfl, hf, ⟨h0, hm⟩, hl, hr⟩ (fun p y e k q' y' b hk hb1 hb2 hb3 => by
    cases hb2
    by_cases z : k = i
    · subst z
      by_cases w : k < Γ2.length
      · rw [List.getElem?_set_self w] at hb1
        cases hb1
      · rw [List.getElem?_eq_none (by rw [List.length_set]; omega)] at hb1
        cases hb1
    · rw [List.getElem?_set_ne (fun u => z u.symm)] at hb1 hb3
      exact no k q' y' hb1 hb3)) (s1.trans s2)⟩
theorem es_parOE {i j : Nat} {ta tb : TE} {x y : D} (ne : i ≠ j) (ha : EvO K B Γ ta x Γ1) (hb : ∀ B, EvE K B Γ1 tb y Γ2) (eb : lent Γ2 = lent Γ1) : EvS1 K B Γ (tPar i j (tCons ta (tCons tb tNil))) (.nx ((Γ2.set i (.own 0 x)).set j (.d y))) := fun Dn σ H F E q => ha σ H F E _ fun a o H1 F1 E1 s1 hf h0 hm no hl hr => EvE.kept hb eb E1 ⟨h0, hm, hf, no⟩ hl fun v H2 F2 E2 n2 hl2 s2 r2 =>
  ⟨_, _, rfl, q _ H2 F2 ((E2.set (i := i) (e := .own 0 x) ⟨a, o, rfl, n2.f, ⟨h0, hm⟩, hl2, hr.same s2⟩ (fun p y e k q' y' b hk hb1 hb2 hb3 => by
    cases hb2
    exact n2.o k q' y' hb1 hb3)).setD r2) (s1.trans s2)⟩
theorem es_parOO {i j : Nat} {ta tb : TE} {x y : D} (ne : i ≠ j) (ha : EvO K B Γ ta x Γ1) (hb : ∀ B, EvO K B Γ1 tb y Γ2) (eb : lent Γ2 = lent Γ1) : EvS1 K B Γ (tPar i j (tCons ta (tCons tb tNil))) (.nx ((Γ2.set i (.own 0 x)).set j (.own 0 y))) := fun Dn σ H F E q => ha σ H F E _ fun a o H1 F1 E1 s1 hf h0 hm no hl hr => EvO.kept hb eb E1 ⟨h0, hm, hf, no⟩ hl fun b o2 H2 F2 E2 n2 hl2 nab s2 hf2 h02 hm2 no2 hb2 hr2 => by
  refine ⟨_, _, rfl, q _ H2 F2 ((E2.set (i := i) (e := .own 0 x) ⟨a, o, rfl, n2.f, ⟨h0, hm⟩, hl2, hr.same s2⟩ (fun p y e k q' y' c hk hc1 hc2 hc3 => by
    cases hc2
    exact n2.o k q' y' hc1 hc3)).set (i := j) (e := .own 0 y) ⟨b, o2, rfl, hf2, ⟨h02, hm2⟩, hb2, hr2⟩ (fun p y e k q' y' c hk hc1 hc2 hc3 => ?_)) (s1.trans s2)⟩
  cases hc2
  by_cases z : k = i
  · subst z
    by_cases w : k < σ.length
    · rw [List.getElem?_set_self w] at hc3
      cases hc3
      exact nab rfl
    · rw [List.getElem?_eq_none (by rw [List.length_set]; omega)] at hc3
      cases hc3
  · rw [List.getElem?_set_ne (fun u => z u.symm)] at hc1 hc3
    exact no2 k q' y' hc1 hc3
/-! ### sums of tuples -/
/-! ### the greatest of a list -/
end
end Ev
namespace Ev
open PySem L2 Hv
set_option autoImplicit false
def putD (f : Str) (x : D) : List (Str × D) → List (Str × D)
  | [] => [(f, x)]
  | (g, y) :: r => if g = f then (g, x) :: r else (g, y) :: putD f x r
section
variable {K : PySem.W.Frag} {B : Bs} {Γ Γ1 Γ2 Γ3 Γ4 : List En} {X : XK}
theorem put_rep {F : Hp} {f : Str} {v : V} {x : D} (h : Rep K F v x) : ∀ {fs : List (Str × V)} {gs : List (Str × D)}, fs.map Prod.fst = gs.map Prod.fst → Reps K F (fs.map Prod.snd) (gs.map Prod.snd) → (putF f v fs).map Prod.fst = (putD f x gs).map Prod.fst ∧ Reps K F ((putF f v fs).map Prod.snd) ((putD f x gs).map Prod.snd)
  | [], [], _, _ => ⟨rfl, .cons h .nil⟩
  | (a, u) :: fs, (b, y) :: gs, e, t => by
    obtain ⟨e1, e2⟩ := List.cons.inj (show a :: fs.map Prod.fst = b :: gs.map Prod.fst from e)
    subst e1
    cases t with
    | cons h1 t =>
      obtain ⟨i1, i2⟩ := put_rep (f := f) h e2 t
      show ((if a = f then (a, v) :: fs else (a, u) :: putF f v fs).map Prod.fst = (if a = f then (a, x) :: gs else (a, y) :: putD f x gs).map Prod.fst) ∧ Reps K F ((if a = f then (a, v) :: fs else (a, u) :: putF f v fs).map Prod.snd) ((if a = f then (a, x) :: gs else (a, y) :: putD f x gs).map Prod.snd)
      by_cases q : a = f
      · rw [if_pos q, if_pos q]
        exact ⟨congrArg _ e2, .cons h t⟩
      · rw [if_neg q, if_neg q]
        exact ⟨congrArg _ i1, .cons h1 i2⟩
theorem ins_len {F : Hp} {fs : List (Str × V)} {gs : List (Str × D)} (e : fs.map Prod.fst = gs.map Prod.fst) : fs.length = gs.length := by
  have := congrArg List.length e
  rwa [List.length_map, List.length_map] at this
theorem es_fld {i : Nat} {p : Nat} {c f : Str} {gs : List (Str × D)} {x : D} {tv : TE} (h : EvE K B Γ tv x Γ1) (hi : Γ1[i]? = some (.own p (.ins c gs))) (cl : Cls K (cA K c)) (na : NoAttr K (cA K c) f) (l : gs.length < 1000) : EvS1 K B Γ (sFld K (tVar i) tv f) (.nx (Γ1.set i (.own p (.ins c (putD f x gs))))) := fun Dn σ H F E q => h σ H F E _ fun v H1 F1 E1 s1 r1 => by
  obtain ⟨a, o, h1, h2, h3, h4, h5⟩ := E1.own hi
  cases h5 with
  | @ins _ dx fs _ e t =>
    refine ⟨_, h1, a, _, dx, fs, rfl, h4, cl, na, by rw [ins_len (F := F) e]; exact l, ?_⟩
    obtain ⟨i1, i2⟩ := put_rep (f := f) r1 e t
    exact q σ _ F1 (E1.chg (o' := .ins _ dx _) hi h1 (.ins i1 i2)) s1
/-- a new instance -/
theorem make_core {σ : L2.St} {H F : Hp} {c : Str} {gs : List (Str × D)} {pre : D → List D → D → D → Prop} {vs : List V} {xs : List D} {Q : VK} {E0 : XK} (E : Env K B Γ σ H F) (r : Reps K F vs xs) (p : pre (.ins c []) xs .non (.ins c gs)) (q : ∀ v H' F', Env K B Γ σ H' F' → Same F F' → Rep K F' v (.ins c gs) → Q v H') {x dx : Addr} (hx : H x = none) (hd : H dx = none) (ne : dx ≠ x) :
    spW K pre (.ref x :: vs) (upd (upd H dx (.own x)) x (.ins (cA K c) dx [])) (fun v H2 => v = .non ∧ Q (.ref x) H2) E0 := by
  have fx : F x = none := E.i.free hx
  have s2 : Same H (upd (upd H dx (.own x)) x (.ins (cA K c) dx [])) := fun a u e => by
    rw [upd_ne (ne_of_none e hx), upd_ne (ne_of_none e hd)]
    exact e
  refine ⟨F, x, .ins (cA K c) dx [], .ins c [], xs, vs, .non, .ins c gs, rfl, E.i.trans s2, fx, upd_same, .ins rfl .nil, r, p, fun v H' F' o' hH sF i' nF ha hr rv => ⟨rv.non_, ?_⟩⟩
  have fx' : F' x = none := by
    by_cases z : F' x = none
    · exact z
    · have := nF x fx z
      rw [upd_same] at this
      cases this
  have g : Grow H F H' (upd F' x o') := ⟨fun a u e => hH a u (ne_of_none e hx) (s2 a u e), sF.trans (sameN fx'), fun a u e => by
    by_cases z : a = x
    · subst z
      rw [upd_same] at e
      rw [ha]
      exact e
    · rw [upd_ne z] at e
      exact i' a u e, fun a f0 f1 => by
    by_cases z : a = x
    · subst z
      exact hx
    · rw [upd_ne z] at f1
      have := nF a f0 f1
      cases h : H a with
      | none => rfl
      | some u =>
        rw [s2 a u h] at this
        cases this⟩
  exact q _ _ _ (E.grow g) g.f (.ref upd_same (hr.same (sameN fx')))
theorem ev_make {c : Str} {gs : List (Str × D)} {pre : D → List D → D → D → Prop} {t : TA} {xs : List D} (h : EvA K B Γ t xs Γ1) (p : pre (.ins c []) xs .non (.ins c gs)) : EvE K B Γ (tMake (cA K c) (spW K pre) [] X t) (.ins c gs) Γ1 := fun σ H F E Q q =>
  h σ H F E _ fun vs H1 F1 E1 s1 r1 => fun x dx hx hd ne => by
    rw [List.append_nil]
    exact make_core E1 r1 p (fun v H' F' E' s' r' => q v H' F' E' (s1.trans s') r') hx hd ne
end
section
variable {K : PySem.W.Frag} {B : Bs} {Γ Γ1 Γ2 Γ3 Γ4 : List En} {X : XK}
theorem ev_fldV {i : Nat} {p : Nat} {c f : Str} {gs : List (Str × D)} {x : D} (h : Γ[i]? = some (.own p (.ins c gs))) (cl : Cls K (cA K c)) (na : NoAttr K (cA K c) f) (e : gs.lookup f = some x) : EvE K B Γ (tFld K (tVar i) f) x Γ := fun σ H F E Q q => by
  obtain ⟨a, o, h1, h2, h3, h4, h5⟩ := E.own h
  cases h5 with
  | @ins _ dx fs _ e1 t =>
    obtain ⟨w, h6, h7⟩ := look_rep e1 t e
    exact ⟨_, h1, a, _, dx, fs, w, rfl, h4, cl, na, h6, q w H F E (Same.refl _) h7⟩
theorem P2_optL {α β γ : Type} [Rp α] [Rp β] [Rp γ] (x : P2 (Option α) γ) : toD x = toD (⟨x.a.map Sum.inl, x.b⟩ : P2 (Option (α ⊕ β)) γ) := by
  obtain ⟨a, b⟩ := x
  cases a <;> rfl
theorem P2_optR {α β γ : Type} [Rp α] [Rp β] [Rp γ] (x : P2 (Option β) γ) : toD x = toD (⟨x.a.map Sum.inr, x.b⟩ : P2 (Option (α ⊕ β)) γ) := by
  obtain ⟨a, b⟩ := x
  cases a <;> rfl
def eqOEI (x : Option (Int ⊕ Str)) (z : Int) : Bool := match x with
  | some (.inl i) => decide (i = z)
  | _ => false
theorem sc_OEI {x : Option (Int ⊕ Str)} {z : Int} : ∀ F u v, Rep K F u (toD x) → Rep K F v (.int z) → scal u v = true ∧ decide (u = v) = eqOEI x z := fun F u v ru rv => by
  cases rv.int_
  match x with
  | none =>
    cases Rep.non_ ru
    exact ⟨rfl, by show decide (V.non = V.int z) = false; simp⟩
  | some (.inl i) =>
    cases Rep.int_ ru
    exact ⟨rfl, by show decide (V.int i = V.int z) = decide (i = z); simp⟩
  | some (.inr s) =>
    cases Rep.str_ ru
    exact ⟨rfl, by show decide (V.str s = V.int z) = false; simp⟩
theorem rv_eqOEI {x : Option (Int ⊕ Str)} {z : Int} : R2v K rEq (toD x) (.int z) (.bl (eqOEI x z)) := rv_scal (f := id) (fun _ _ _ _ h q => ⟨h, q⟩) sc_OEI
end
/-- an __init__ -/
structure InitAt (K : PySem.W.Frag) (C : Addr) (qual : Str) (st : Stmt) (ps : List Str) (f : Addr) (fd : FuncData) : Prop where
  fn : Fun K "__init__" qual st f fd
  make : Mk K C f
  bd : Binds K fd ps []
/-- an __init__ with keywords alone -/
structure InitAtK (K : PySem.W.Frag) (C : Addr) (qual : Str) (st : Stmt) (kws : List (Str × V)) (f : Addr) (fd : FuncData) : Prop where
  fn : FunD K "__init__" qual (defArgs st) (defBody st) (defScope st) [] kws f fd
  make : Mk K C f
/-- an __init__ with one default, an empty tuple -/
structure InitAtR (K : PySem.W.Frag) (C : Addr) (qual : Str) (st : Stmt) (ps : List Str) (ta f : Addr) (fd : FuncData) : Prop where
  fn : FunD K "__init__" qual (defArgs st) (defBody st) (defScope st) [.ref ta] [] f fd
  make : Mk K C f
  bd : Binds K fd ps []
  b1 : Binds K fd ps [.ref ta]
  kt : KEmp K ta
end Ev
namespace Ev
open PySem PySem.Spec PyProof.Rows L2 Hv
set_option autoImplicit false
/-- try: body / except ..: where the body lets nothing out -/
theorem ps_tryC {X : Cx} {body : List Stmt} {h₀ : ExceptHandler} {hs : List ExceptHandler} {pos : Pos} {tb : TS} (hb : ∀ pn : List (Addr × PySem.Obj), PSs (X.tr pn (fun _ _ => False)) body tb) : PS X (.Try body (h₀ :: hs) [] [] pos) tb := by
  refine ⟨fun pins s σ H D I h => ?_⟩
  have xok := I.ok
  refine wpAny_Try_except ?_
  refine wpAny_mono ((hb (X.pn ++ pins)).run [] s σ H D (I.toTry _) h) (fun fl s1 hsp => ?_) fun e s1 he => he.elim
  cases fl with
  | next => obtain ⟨σ', H', J', q⟩ := hsp; exact wpAny_execs_nil ⟨σ', H', J'.ofTry xok, q⟩
  | brk => obtain ⟨σ', H', J', q⟩ := hsp; exact ⟨σ', H', J'.ofTry xok, q⟩
  | cont => obtain ⟨σ', H', J', q⟩ := hsp; exact ⟨σ', H', J'.ofTry xok, q⟩
  | ret u => obtain ⟨v, σ', H', J', r, q⟩ := hsp; exact ⟨v, σ', H', J'.ofTry xok, r, q⟩
/-- c(e, ..), the class in a local name -/
def tMkL (i : Nat) (C : Addr) (sp : Sp) (dvs : List V) (E : XK) (t : TA) : TE := fun σ H Q => σ[i]? = some (some (.ref C)) ∧ tMake C sp dvs E t σ H Q
theorem pe_mkL {X : Cx} {CX : CXT} {k i : Nat} {C f : Addr} {fd : FuncData} {ps : List Str} {sp : Sp} {dvs : List V} {ds : List Value} {E : XK} {x : Str} {p pos : Pos} {e : Expr} {es : List Expr} {t : TA}
    (M : Mk X.K C f) (F : FnOk X.prog X.w X.K X.mg X.base CX k f fd ps sp) (hr : Room (k + 1) X.A) (hN : X.N[i]? = some x) (hv : Vis X.env.scope x) (hb : Binds X.K fd ps ds) (hd : Vals dvs ds) (hx : Passes CX X E)
    (ha : PA X (e :: es) t) (hdb : (x == ("__debug__" : Str)) = false := by decide) (hcd : (x == ("__classdict__" : Str)) = false := by decide)
    (he : starEach (e :: es) X.env = (false, eval e X.env) :: starEach es X.env := by rfl) (hpl : (backTo pos (starEach es X.env)).any (·.1) = false := by rfl) :
    PE X (.Call (.Name x p) (e :: es) [] pos) (tMkL i C sp dvs E t) := by
  refine ⟨fun pins s σ H Q I h => ?_⟩
  obtain ⟨hs, ht⟩ := h
  refine wpAny_Call_Name_kw (thn ((pe_var (pos := p) hN hv hdb hcd).run pins s σ H (fun v H1 => v = .ref C ∧ H1 = H) I ⟨.ref C, hs, rfl, rfl⟩) fun u s1 ⟨v, H1, I1, r1, q1⟩ => ?_)
  obtain ⟨rfl, rfl⟩ := q1
  cases r1
  refine PySem.W.callWith_K (h₀ := X.base) I.ok.mod.kin M.kp (thn (ha.run pos pins s1 σ _ _ I1 ht) fun us s2 ⟨vs, H2, I2, r, q⟩ => ⟨I2.kIn, ?_⟩) he hpl
  exact run_make M F hr hb hd hx I2 r q
/-- the class Rules as a value -/
structure CRules where
deriving DecidableEq
instance : Rp CRules := ⟨fun _ => .cls "Rules"⟩
section
variable {K : PySem.W.Frag} {B : Bs} {Γ Γ1 Γ2 Γ3 Γ4 : List En} {X : XK}
theorem ev_mkL {i : Nat} {c : Str} {gs : List (Str × D)} {pre : D → List D → D → D → Prop} {t : TA} {xs : List D} (hi : Γ[i]? = some (.d (.cls c))) (h : EvA K B Γ t xs Γ1) (p : pre (.ins c []) xs .non (.ins c gs)) : EvE K B Γ (tMkL i (cA K c) (spW K pre) [] X t) (.ins c gs) Γ1 := fun σ H F E Q q => by
  obtain ⟨v, h1, h2⟩ := E.d hi
  have : v = .ref (cA K c) := by
    cases h2 with
    | cls => rfl
    | ref h r => cases r
  subst this
  exact ⟨h1, ev_make h p σ H F E Q q⟩
theorem ev_cmeth {c : Str} {pre : List Ar → D → Prop} {t : TA} {xs : List Ar} {y : D} (h : EvP K B Γ t xs Γ1) (p : pre (.k (.cls c) :: xs) y) : EvE K B Γ (ClX.tCMeth (cA K c) (spE K pre) X (tC (.ref (cA K c))) t) y Γ1 := fun σ H F E Q q =>
  ⟨rfl, h σ H F E _ fun vs H1 F1 E1 s1 r1 => ⟨F1, _, y, E1.i, .cons (x := .k _) (.cls c) r1, p, fun v H2 F2 g r2 => q v H2 F2 (E1.grow g) (s1.trans g.f) r2⟩⟩
end
/-- a classmethod -/
structure CMetAt (K : PySem.W.Frag) (C : Addr) (m qual : Str) (st : Stmt) (ps : List Str) (f : Addr) (fd : FuncData) : Prop where
  fn : Fun K m qual st f fd
  met : ∃ p, ClX.CMet K C (.type "type") m p f
  rd : ClX.CRead K C (.type "type")
  bd : Binds K fd ps []
end Ev
namespace Ev
open PySem L2 Hv SlX
set_option autoImplicit false
/-- what a length is made of -/
inductive Length where
  | num (n : Nat) | endless | dead
deriving DecidableEq
namespace Length
def v : Length → V
  | .num n => .int (n : Int)
  | .endless => .str "endless"
  | .dead => .str "dead"
def rank : Length → Int
  | .num _ => 0
  | .endless => 1
  | .dead => 2
def cnt : Length → Int
  | .num n => n
  | _ => 0
def word : Length → Str
  | .num _ => "steps"
  | .endless => "endless"
  | .dead => "dead"
end Length
instance : Rp Length := ⟨fun w => .slo "Length" [.tup [.int w.rank, .int w.cnt]]⟩
instance : NN Length := ⟨fun _ h => D.noConfusion h⟩
/-- an instance of Length at a, made of w -/
def LenAt (K : PySem.W.Frag) (C : Addr) (H : Hp) (a : Addr) (w : Length) : Prop := ∃ dx pt, Slt H a C dx [some (.ref pt)] ∧ SqT K H pt [.int w.rank, .int w.cnt]
section
variable {K : PySem.W.Frag} {B : Bs} {Γ Γ1 Γ2 Γ3 Γ4 : List En} {X : XK}
/-! keywords, some left out -/
theorem ev_makeK2 {c : Str} {gs : List (Str × D)} {pre : D → List D → D → D → Prop} {n m : Nat} {gV : List V → List V → List V} {t tk : TA} {xs ys ws : List D} (h : EvA K B Γ t xs Γ1) (hk : EvA K B Γ1 tk ys Γ2) (ln : xs.length = n) (lm : ys.length = m)
    (hg : ∀ (F : Hp) (vs zs : List V), vs.length = n + 1 → Reps K F zs ys → ∃ us, gV vs zs = vs ++ us ∧ Reps K F us ws) (p : pre (.ins c []) (xs ++ ws) .non (.ins c gs)) : EvE K B Γ (tMakeK (cA K c) n m (spW K pre) gV X t tk) (.ins c gs) Γ2 := fun σ H F E Q q =>
  h σ H F E _ fun vs H1 F1 E1 s1 r1 => hk σ H1 F1 E1 _ fun zs H2 F2 E2 s2 r2 => by
    have e1 : vs.length = n := by rw [r1.len, ln]
    have e2 : zs.length = m := by rw [r2.len, lm]
    refine ⟨e1, e2, fun x dx hx hd ne => ?_⟩
    obtain ⟨us, eu, ru⟩ := hg F2 (.ref x :: vs) zs (by rw [List.length_cons, e1]) r2
    rw [eu]
    exact make_core E2 ((r1.same s2).append ru) p (fun v H' F' E' s' r' => q v H' F' E' ((s1.trans s2).trans s') r') hx hd ne
end
end Ev
namespace Hv
open PySem PySem.Spec PyProof.Rows L2
set_option maxRecDepth 100000
/-! ### zip(a tuple, a list) -/
/-! the call -/
/-! ### list.count of flat things -/
/-! ### sum of a tuple -/
end Hv
namespace Ev
open PySem L2 Hv
set_option autoImplicit false
end Ev
namespace Ev
open PySem L2 Hv
set_option autoImplicit false
/-! ### calls by keywords -/
end Ev
namespace Ev
open PySem L2 Hv
set_option autoImplicit false
/-! ### objects kept besides the slots: a list of rows that hold lists -/
def Bs.over (B : Bs) (T : Hp) : Bs := ⟨fun a => match T a with
  | some o => some o
  | none => B.H0 a, B.F0, B.Mp⟩
/-- nothing is owned or lent -/
def Still (Γ : List En) : Prop := ∀ (i : Nat) (e : En), Γ[i]? = some e → e = .u ∨ ∃ x, e = .d x
section
variable {K : PySem.W.Frag} {B : Bs} {Γ : List En} {σ : L2.St} {H F T : Hp} {l : Addr} {o : HO} {F' : Hp}
theorem over_some {a : Addr} {u : HO} (h : T a = some u) : (B.over T).H0 a = some u := by
  show (match T a with
    | some u => some u
    | none => B.H0 a) = some u
  rw [h]
/-- what is kept stands in the heap -/
theorem Env.kept (E : Env K (B.over T) Γ σ H F) {a : Addr} {u : HO} (h : T a = some u) (m : ¬ B.M a) : H a = some u := E.s a u m (over_some h)
/-- what is kept is never frozen -/
theorem Env.keptF (E : Env K (B.over T) Γ σ H F) {a : Addr} {u : HO} (h : T a = some u) (f : B.F0 a = none) : F a = none := by
  cases q : F a with
  | none => rfl
  | some w =>
    have := E.n a f (by rw [q]; intro z; cases z)
    rw [over_some h] at this
    cases this
/-- what is kept lies outside -/
def Apart (B : Bs) (T : Hp) : Prop := ∀ (a : Addr) (u : HO), T a = some u → B.H0 a = none ∧ ¬ B.M a ∧ B.F0 a = none
/-- the end: what is kept is frozen -/
theorem Env.done (E : Env K (B.over T) Γ σ H F) (h : Apart B T) (i0 : ∀ a, B.M a → False) : Same F (fun a => match T a with
    | some u => some u
    | none => F a) ∧ Same (fun a => match T a with
    | some u => some u
    | none => F a) H := by
  refine ⟨fun a u e => ?_, fun a u e => ?_⟩
  · cases q : T a with
    | none =>
      show (match T a with
        | some u => some u
        | none => F a) = some u
      rw [q]
      exact e
    | some w =>
      rw [E.keptF q (h a w q).2.2] at e
      cases e
  · have e : (match T a with
      | some u => some u
      | none => F a) = some u := e
    cases q : T a with
    | none =>
      rw [q] at e
      exact E.i a u e
    | some w =>
      rw [q] at e
      cases e
      exact E.kept q (h a _ q).2.1
/-- a row: what stands before the inner list, what is in it, what stands behind -/
abbrev TR : Type := List D × List D × List D
/-- the shape, by places -/
structure Tree (K : PySem.W.Frag) (F T : Hp) (a : Addr) (ps : List (Addr × Addr)) (rows : List TR) : Prop where
  top : T a = some (.lst (ps.map fun p => V.ref p.1))
  len : ps.length = rows.length
  row : ∀ (i : Nat) (p : Addr × Addr) (r : TR), ps[i]? = some p → rows[i]? = some r → ∃ us ws vs, T p.1 = some (.lst (us ++ V.ref p.2 :: vs)) ∧ T p.2 = some (.lst ws) ∧ Reps K F us r.1 ∧ Reps K F ws r.2.1 ∧ Reps K F vs r.2.2
  n1 : ∀ (i : Nat) (p : Addr × Addr), ps[i]? = some p → p.1 ≠ a ∧ p.2 ≠ a ∧ p.1 ≠ p.2
  n2 : ∀ (i j : Nat) (p q : Addr × Addr), i ≠ j → ps[i]? = some p → ps[j]? = some q → p.1 ≠ q.1 ∧ p.2 ≠ q.2 ∧ p.1 ≠ q.2 ∧ p.2 ≠ q.1
/-- the frozen part grows -/
theorem Tree.same {a : Addr} {ps : List (Addr × Addr)} {rows : List TR} (t : Tree K F T a ps rows) (s : Same F F') : Tree K F' T a ps rows :=
  ⟨t.top, t.len, fun i p r hp hr => by
    obtain ⟨us, ws, vs, h1, h2, h3, h4, h5⟩ := t.row i p r hp hr
    exact ⟨us, ws, vs, h1, h2, h3.same s, h4.same s, h5.same s⟩, t.n1, t.n2⟩
/-- the whole tree as a value -/
def treeD (rows : List TR) : D := .lst (rows.map fun r => .lst (r.1 ++ .lst r.2.1 :: r.2.2))
theorem Tree.rep {a : Addr} {ps : List (Addr × Addr)} {rows : List TR} (t : Tree K F T a ps rows) (s : Same F F') (sT : ∀ (b : Addr) (u : HO), T b = some u → F' b = some u) : Rep K F' (.ref a) (treeD rows) := by
  refine .ref (sT _ _ t.top) (.lst ?_)
  have go : ∀ (qs : List (Addr × Addr)) (rs : List TR), qs.length = rs.length → (∀ (i : Nat) (p : Addr × Addr) (r : TR), qs[i]? = some p → rs[i]? = some r → ∃ us ws vs, T p.1 = some (.lst (us ++ V.ref p.2 :: vs)) ∧ T p.2 = some (.lst ws) ∧ Reps K F us r.1 ∧ Reps K F ws r.2.1 ∧ Reps K F vs r.2.2) → Reps K F' (qs.map fun p => V.ref p.1) (rs.map fun r => .lst (r.1 ++ .lst r.2.1 :: r.2.2)) := by
    intro qs
    induction qs with
    | nil =>
      intro rs l _
      have : rs = [] := List.length_eq_zero_iff.mp l.symm
      subst this
      exact .nil
    | cons q qs ih =>
      intro rs l h
      cases rs with
      | nil => cases l
      | cons r rs =>
        obtain ⟨us, ws, vs, h1, h2, h3, h4, h5⟩ := h 0 q r rfl rfl
        refine .cons (.ref (sT _ _ h1) (.lst ((h3.same s).append (.cons (.ref (sT _ _ h2) (.lst (h4.same s))) (h5.same s))))) (ih rs (by simpa using l) fun i p r' e1 e2 => h (i + 1) p r' (by simpa using e1) (by simpa using e2))
  exact go ps rows t.len t.row
/-- one row more, of two new objects -/
theorem Tree.grow {a l r : Addr} {ps : List (Addr × Addr)} {rows : List TR} (t : Tree K F T a ps rows) (hl : T l = none) (hr : T r = none) (ne : r ≠ l) {us vs : List V} {xs zs : List D} (ru : Reps K F us xs) (rv : Reps K F vs zs) :
    Tree K F (upd (upd (upd T l (.lst [])) r (.lst (us ++ V.ref l :: vs))) a (.lst ((ps ++ [(r, l)]).map fun p => V.ref p.1))) a (ps ++ [(r, l)]) (rows ++ [(xs, [], zs)]) := by
  have al : a ≠ l := fun z => by rw [← z, t.top] at hl; cases hl
  have ar : a ≠ r := fun z => by rw [← z, t.top] at hr; cases hr
  have old : ∀ (i : Nat) (p : Addr × Addr), ps[i]? = some p → p.1 ≠ l ∧ p.1 ≠ r ∧ p.2 ≠ l ∧ p.2 ≠ r := fun i p hp => by
    have lt : i < rows.length := by rw [← t.len]; exact (List.getElem?_eq_some_iff.mp hp).1
    obtain ⟨us', ws', vs', h1, h2, _⟩ := t.row i p rows[i] hp (List.getElem?_eq_getElem lt)
    exact ⟨(fun z => by rw [z, hl] at h1; cases h1), (fun z => by rw [z, hr] at h1; cases h1), (fun z => by rw [z, hl] at h2; cases h2), (fun z => by rw [z, hr] at h2; cases h2)⟩
  have get : ∀ (i : Nat) (p : Addr × Addr), (ps ++ [(r, l)])[i]? = some p → ps[i]? = some p ∨ (i = ps.length ∧ p = (r, l)) := fun i p hp => by
    by_cases z : i < ps.length
    · rw [List.getElem?_append_left z] at hp
      exact .inl hp
    · rw [List.getElem?_append_right (by omega)] at hp
      by_cases w : i - ps.length = 0
      · rw [w] at hp
        cases hp
        exact .inr ⟨by omega, rfl⟩
      · rw [List.getElem?_eq_none (by simp; omega)] at hp
        cases hp
  refine ⟨upd_same, by rw [List.length_append, List.length_append, t.len]; rfl, fun i p q hp hq => ?_, fun i p hp => ?_, fun i j p q n hp hq => ?_⟩
  · rcases get i p hp with hp | ⟨e, rfl⟩
    · have lt : i < rows.length := by rw [← t.len]; exact (List.getElem?_eq_some_iff.mp hp).1
      rw [List.getElem?_append_left lt] at hq
      obtain ⟨us', ws', vs', h1, h2, h3, h4, h5⟩ := t.row i p q hp hq
      obtain ⟨n1, n2, _⟩ := t.n1 i p hp
      obtain ⟨m1, m2, m3, m4⟩ := old i p hp
      refine ⟨us', ws', vs', ?_, ?_, h3, h4, h5⟩
      · rw [upd_ne n1, upd_ne m2, upd_ne m1]
        exact h1
      · rw [upd_ne n2, upd_ne m4, upd_ne m3]
        exact h2
    · rw [List.getElem?_append_right (by rw [e, t.len]; exact Nat.le_refl _), e, t.len, Nat.sub_self] at hq
      cases hq
      refine ⟨us, [], vs, ?_, ?_, ru, .nil, rv⟩
      · rw [upd_ne ar.symm, upd_same]
      · rw [upd_ne al.symm, upd_ne ne.symm, upd_same]
  · rcases get i p hp with hp | ⟨_, rfl⟩
    · exact t.n1 i p hp
    · exact ⟨ar.symm, al.symm, ne⟩
  · rcases get i p hp with hp | ⟨e1, rfl⟩ <;> rcases get j q hq with hq | ⟨e2, rfl⟩
    · exact t.n2 i j p q n hp hq
    · obtain ⟨m1, m2, m3, m4⟩ := old i p hp
      exact ⟨m2, m3, m1, m4⟩
    · obtain ⟨m1, m2, m3, m4⟩ := old j q hq
      exact ⟨m2.symm, m3.symm, m4.symm, m1.symm⟩
    · exact absurd (e1.trans e2.symm) n
end
end Ev
namespace Ev
open PySem L2 Hv
set_option autoImplicit false
section
variable {K : PySem.W.Frag} {B : Bs} {Γ Γ1 Γ2 : List En} {j : Nat} {S S2 : Type} {tr : S → List TR}
/-- one stands with a tree in slot j -/
def Stn (K : PySem.W.Frag) (B : Bs) (j : Nat) (Γ : List En) (rows : List TR) (σ : L2.St) (H F : Hp) : Prop :=
  Γ[j]? = some .u ∧ Still Γ ∧ ∃ (T : Hp) (a : Addr) (ps : List (Addr × Addr)), Env K (B.over T) Γ σ H F ∧ Apart B T ∧ σ[j]? = some (some (.ref a)) ∧ Tree K F T a ps rows
/-- a statement that turns a tree into another one -/
def EvX (K : PySem.W.Frag) (B : Bs) (j : Nat) (Γ : List En) (rows : List TR) (t : TS) (Γ' : List En) (tr : S → List TR) (m : Option S) : Prop :=
  ∀ s, m = some s → ∀ Dn σ H F, Stn K B j Γ rows σ H F → (∀ σ' H' F', Stn K B j Γ' (tr s) σ' H' F' → Same F F' → Dn.nx σ' H') → t Dn σ H
theorem Still.set (h : Still Γ) {i : Nat} {e : En} (he : e = .u ∨ ∃ x, e = .d x) : Still (Γ.set i e) := fun k e' hk => by
  by_cases z : i = k
  · subst z
    by_cases lt : i < Γ.length
    · rw [List.getElem?_set_self lt] at hk
      cases hk
      exact he
    · rw [List.getElem?_eq_none (by rw [List.length_set]; omega)] at hk
      cases hk
  · rw [List.getElem?_set_ne z] at hk
    exact h k e' hk
/-- forgetting -/
theorem Stn.weak {rows : List TR} {σ : L2.St} {H F : Hp} {Γ' : List En} (t : Stn K B j Γ rows σ H F) (k : Wk Γ Γ') (hj : Γ'[j]? = some .u) (st : Still Γ') : Stn K B j Γ' rows σ H F := by
  obtain ⟨_, _, T, a, ps, E, ap, sj, tt⟩ := t
  exact ⟨hj, st, T, a, ps, E.weak k, ap, sj, tt⟩
/-! small rules -/
theorem EvX.cast {rows : List TR} {t : TS} {m m' : Option S} (h : EvX K B j Γ rows t Γ1 tr m) (e : m = m') : EvX K B j Γ rows t Γ1 tr m' := e ▸ h
theorem Still.nil : Still [] := fun _ _ h => nomatch h
theorem Still.cons {e : En} {Γ : List En} (h : Still Γ) (he : e = .u ∨ ∃ x, e = .d x) : Still (e :: Γ) := fun i e' hi => by
  cases i with
  | zero =>
    cases hi
    exact he
  | succ i => exact h i e' hi
theorem Still.u {Γ : List En} (h : Still Γ) : Still (.u :: Γ) := h.cons (.inl rfl)
theorem Still.d {Γ : List En} {x : D} (h : Still Γ) : Still (.d x :: Γ) := h.cons (.inr ⟨_, rfl⟩)
end
end Ev
namespace L2
open PySem PySem.Spec PyProof.Rows
/-! sorted(set(xs)), xs a list of whole numbers -/
end L2
namespace Ev
open PySem L2 Hv
set_option autoImplicit false
/-! the members of a list, rising -/
end Ev
namespace Hv
open PySem PySem.Spec PyProof.Rows L2 HT
set_option maxRecDepth 100000
/-! ### a tuple turned: t[::-1] -/
/-! ### a < b < c <= d -/
end Hv
namespace Ev
open PySem L2 Hv PyProof.Rows
set_option autoImplicit false
/-! ### xs[i] += e; tuple(a tuple); values under another type -/
end Ev
namespace Hv
open PySem PySem.Spec PyProof.Rows L2 SlX
/-! ### == and != of instances with slots -/
end Hv
namespace Ev
open PySem L2 Hv SlX
set_option autoImplicit false
/-! ### lengths and pairs of numbers, compared -/
def Length.ds (w : Length) : List PyData := [.int w.rank, .int w.cnt]
theorem LenAt.dp {K : PySem.W.Frag} {C : Addr} {H : Hp} {a : Addr} {w : Length} (h : LenAt K C H a w) : ∃ dx pt, Slt H a C dx [some (.ref pt)] ∧ Dp K H (.ref pt) (.tuple w.ds) := by
  obtain ⟨dx, pt, h1, h2⟩ := h
  exact ⟨dx, pt, h1, .tup h2 (.cons (.int _) (.cons (.int _) .nil))⟩
end Ev
namespace Ev
open PySem L2 Hv
set_option autoImplicit false
section
variable {K : PySem.W.Frag} {B : Bs} {Γ Γ1 Γ2 Γ3 : List En} {X : XK}
/-! ### a list that a def has made and gives away -/
theorem es_retV {u : TS} {i : Nat} {x : D} (h : Γ[i]? = some (.own 0 x)) : EvS1 K B Γ (tSeq (tRet (tVar i)) u) (.ro x) := fun Dn σ H F E q => by
  obtain ⟨a, o, k1, k2, k3, k4, k5⟩ := E.own h
  exact ⟨_, k1, q a o σ H F _ E k2 k3.1 k4 k5⟩
def spO (K : PySem.W.Frag) (pre : List Ar → D → Prop) : Sp := fun vs H Q _ => ∃ F xs y, Same F H ∧ Ars K H F vs xs ∧ pre xs y ∧ ∀ a o H' F', Grow H F H' F' → F' a = none → H a = none → H' a = some o → RepO K F' o y → Q (.ref a) H'
theorem run_ro {H F : Hp} {vs : List V} {xs : List Ar} {y : D} {N : List Str} {t : TS} {Q : VK} {κ : Type} {Kn : κ → Out} {m : Option κ} {k : κ} (s : Same F H) (r : Ars K H F vs xs) (ret : ∀ a o H' F', Grow H F H' F' → F' a = none → H a = none → H' a = some o → RepO K F' o y → Q (.ref a) H') (h : EvS K ⟨H, F, fun _ _ => False⟩ (inits (xs.map enA) N.length) t Kn m) (e : m = some k) (ek : Kn k = .ro y) :
    t { nx := fun _ H' => Q .non H', rt := Q } (L2.start N vs) H := h k e _ _ _ _ (env_startE s r) (by
      rw [ek]
      exact fun a o σ H' F' Γ E h1 h2 h3 h4 => ret a o H' F' E.grown h1 h2 h3 h4)
/-! ### a star in a list -/
/-! ### is True, is False -/
/-! ### index of a text in a tuple of texts -/
end
/-! ### a list of two that is unpacked -/
end Ev
namespace L2
open PySem PySem.Spec PyProof.Rows
end L2
namespace Ev
open PySem L2 Hv
set_option autoImplicit false
end Ev
namespace Ev
open PySem L2 Hv
set_option autoImplicit false
/-! ### an own list that is walked, without lists in the outcome -/
mutual
def noL : D → Bool
  | .tup xs => noLs xs
  | .tupF xs => noLs xs
  | .lst _ => false
  | .ins _ _ => false
  | .dct _ => false
  | .slo _ _ => false
  | _ => true
def noLs : List D → Bool
  | [] => true
  | x :: xs => noL x && noLs xs
end
class NoL (α : Type) [Rp α] : Prop where
  nl : ∀ x : α, noL (toD x) = true
instance : NoL Int := ⟨fun _ => rfl⟩
instance : NoL Bool := ⟨fun _ => rfl⟩
instance : NoL Str := ⟨fun _ => rfl⟩
section
variable {α β γ δ ε : Type} [Rp α] [Rp β] [Rp γ] [Rp δ] [Rp ε] [NoL α] [NoL β] [NoL γ] [NoL δ] [NoL ε]
instance : NoL (P2 α β) := ⟨fun x => by show (noL (toD x.a) && (noL (toD x.b) && true)) = true; rw [NoL.nl, NoL.nl]; rfl⟩
instance : NoL (P3 α β γ) := ⟨fun x => by show (noL (toD x.a) && (noL (toD x.b) && (noL (toD x.c) && true))) = true; rw [NoL.nl, NoL.nl, NoL.nl]; rfl⟩
instance : NoL (P4 α β γ δ) := ⟨fun x => by show (noL (toD x.a) && (noL (toD x.b) && (noL (toD x.c) && (noL (toD x.d) && true)))) = true; rw [NoL.nl, NoL.nl, NoL.nl, NoL.nl]; rfl⟩
instance : NoL (P5 α β γ δ ε) := ⟨fun x => by show (noL (toD x.a) && (noL (toD x.b) && (noL (toD x.c) && (noL (toD x.d) && (noL (toD x.e) && true))))) = true; rw [NoL.nl, NoL.nl, NoL.nl, NoL.nl, NoL.nl]; rfl⟩
instance : NoL (Option α) := ⟨fun x => by cases x with
  | none => rfl
  | some x => exact NoL.nl x⟩
instance : NoL (α ⊕ β) := ⟨fun x => by cases x with
  | inl x => exact NoL.nl x
  | inr x => exact NoL.nl x⟩
end
end Ev
namespace Ev
open PySem L2 Hv PyProof.Rows
set_option autoImplicit false
/-! ### a comprehension of two -/
end Ev
namespace Ev
open PySem L2 Hv PyProof.Rows
set_option autoImplicit false
/-! ### list.index of flat things -/
end Ev
namespace Ev
open PySem PySem.Spec PyProof.Rows L2 Hv
set_option autoImplicit false
end Ev
namespace Ev
open PySem L2 Hv
set_option autoImplicit false
section
variable {K : PySem.W.Frag} {B : Bs} {Γ Γ1 Γ2 Γ3 : List En}
/-- a part of a text -/
theorem ev_slS {t : TE} {tl th : TO} {z : Str} {lo hi : Option Int} (h : EvE K B Γ t (.str z) Γ1) (h1 : EvO' K B Γ1 tl lo Γ2) (h2 : EvO' K B Γ2 th hi Γ3) (l : z.length ≤ sizeLine) : EvE K B Γ (tSl rSlS t tl th) (.str (cutS z lo hi)) Γ3 := fun σ H F E Q q =>
  h σ H F E _ fun v H1 F1 E1 s1 r1 => h1 σ H1 F1 E1 _ fun H2 F2 E2 s2 => h2 σ H2 F2 E2 _ fun H3 F3 E3 s3 => by
    cases r1.str_
    exact ⟨z, rfl, l, q _ H3 F3 E3 ((s1.trans s2).trans s3) (.str _)⟩
end
end Ev
namespace Hv
open PySem PySem.Spec PyProof.Rows L2
end Hv
namespace Ev
open PySem L2 Hv PyProof.Rows
set_option autoImplicit false
/-! ### and, or whose second part changes an object -/
end Ev
namespace Hv
open PySem PySem.Spec PyProof.Rows
section
variable {prog : Program} {w : World} {A : Around} {E : Value → Shared → Prop} {s : Shared} {K : PySem.W.Frag} {x C f L : Addr} {h₀ : Heap} {m : Str → Option Value} {ox : Obj} {od : Option Obj}
/-- x.__eq__(b) by the class's own def -/
theorem try_eq {b : Value} {Q : Value → Shared → Prop} (X : K.In s.heap) (I : PySem.W.InstAt s.heap x ox C od) (hs : PySem.W.findIn K (.ref C) "__eq__" = some (some (.ref f))) (hf : PySem.W.isFn K (.ref f) = true)
    (h : wpAny (model prog w) A (call (.ref f) [.ref x, b]) (fun v s' => ∃ k, v = .bool k ∧ Q (.bool k) s') E s) :
    wpAny (model prog w) A (tryCompare (.ref x) "__eq__" b) (fun r s' => ∃ u, r = some u ∧ Q u s') E s := by
  unfold tryCompare
  refine wpAny_bind (PySem.W.ifBound_K X I hs hf (wpAny_mono h ?_ fun _ _ e => e))
  rintro v s' ⟨k, rfl, q⟩
  exact wpAny_pure ⟨_, rfl, q⟩
/-- x != b of an instance whose class has __eq__ alone -/
theorem try_ne {b : Value} {Q : Value → Shared → Prop} (hu : A.in1.units < cLine) (X : K.In s.heap) (I : PySem.W.InstAt s.heap x ox C od) (hn : PySem.W.findIn K (.ref C) "__ne__" = some (some (.builtin "object.__ne__")))
    (hm : PySem.W.mroIn K C (.type "object") = some true) (hs : PySem.W.findIn K (.ref C) "__eq__" = some (some (.ref f))) (hf : PySem.W.isFn K (.ref f) = true)
    (h : wpAny (model prog w) A.in1 (call (.ref f) [.ref x, b]) (fun v s' => ∃ k, v = .bool k ∧ Q (.bool (!k)) s') E s) :
    wpAny (model prog w) A (tryCompare (.ref x) "__ne__" b) (fun r s' => ∃ u, r = some u ∧ Q u s') E s := by
  have call_ne : wpAny (model prog w) A (call (.builtin "object.__ne__") [.ref x, b]) (fun v s' => ∃ k, v = .bool k ∧ Q (.bool k) s') E s := by
    refine wpAny_call (codeAny_call_builtin PySem.F.slot_object_ne.plain PySem.F.entry_object_ne (PySem.W.check_slot (i := "object.__ne__") (owner := "object") (n := "__ne__") (by decide +kernel) (by decide +kernel)
      (I.type.andThen (PySem.W.looks_mroIn X hm)) (PySem.F.args_object_ne_2 _ _) ?_))
    unfold Builtin.«object.__ne__»
    refine wpAny_bind (wpAny_pure ?_)
    refine wpAny_bind (m := cRoomFor _ _) (wpAny_cRoomFor hu ?_)
    refine wpAny_bind (m := callSpecialIfBound? (.ref x) (Str.ofString "__eq__") _) (PySem.W.ifBound_K X I hs hf (wpAny_mono h ?_ fun _ _ e => e))
    rintro v s' ⟨k, rfl, q⟩
    exact wpAny_bind (wpAny_pure (wpAny_pure ⟨_, rfl, q⟩))
  unfold tryCompare
  refine wpAny_bind ?_
  simp only [callSpecialIfBound?, bindSpecialIfBound?]
  refine wpAny_holding (wpAny_bind (wpAny_bind (wpAny_bind (I.type.here ((PySem.W.looks_findIn X hn).here ?_)))))
  simp only [PySem.F.slot_object_ne.bind]
  refine wpAny_bind (wpAny_askSetting (wpAny_ite ?_))
  have fin : wpAny (model prog w) A (call (.builtin "object.__ne__") ([.ref x] ++ [b]) >>= fun v => pure (some v))
      (fun a s' => wpAny (model prog w) A (match a with | some Value.notImplemented => pure none | none => pure none | some v => pure (some v)) (fun r s' => ∃ u, r = some u ∧ Q u s') E s') E s := by
    refine wpAny_bind (wpAny_mono call_ne ?_ fun _ _ e => e)
    rintro v s' ⟨k, rfl, q⟩
    exact wpAny_pure (wpAny_pure ⟨_, rfl, q⟩)
  split
  · exact wpAny_bind (wpAny_pure (wpAny_pure fin))
  · exact wpAny_tryCatch (wpAny_bind (wpAny_pure (wpAny_pure fin)))
/-- x op b, the instance on the left, by what tryCompare gives -/
theorem cmp_left {op : CmpOp} {b tb : Value} {Q : Value → Shared → Prop} (hu : A.units < cLine) (X : K.In s.heap) (I : PySem.W.InstAt s.heap x ox C od) (hb : PySem.W.Looks (model prog w) s.heap (typeOf b) tb) (hn : PySem.W.notFirst K C tb = true)
    (one : wpAny (model prog w) A (tryCompare (.ref x) (cmpInfo op).2.1 b) (fun r s' => ∃ u, r = some u ∧ Q u s') E s) : wpAny (model prog w) A (richCompare op (.ref x) b) Q E s := by
  unfold richCompare
  simp only [oneThing_ref]
  refine wpAny_holding (wpAny_bind (wpAny_cRoomFor hu ?_))
  refine wpAny_bind (I.type.here (wpAny_bind (hb.here ?_)))
  have last : ∀ r s', (∃ u, r = some u ∧ Q u s') → wpAny (model prog w) A (match r with | some v => pure v | none => (pure Value.none : Sem Value)) Q E s' := by
    rintro r s' ⟨u, rfl, q⟩
    exact wpAny_pure q
  split
  · rename_i q
    have e : PySem.W.subIn K tb (.ref C) = some false := by
      unfold PySem.W.notFirst at hn
      rcases Bool.or_eq_true_iff.mp hn with e | e
      · rw [beq_iff_eq.mp e] at q
        simp at q
      · exact beq_iff_eq.mp e
    refine wpAny_bind ((PySem.W.looks_subIn X e).here ?_)
    simp only [Bool.false_eq_true, if_false]
    refine wpAny_bind (wpAny_mono one ?_ fun _ _ e => e)
    rintro r s' ⟨u, rfl, hq⟩
    exact wpAny_pure hq
  · refine wpAny_bind (wpAny_pure ?_)
    simp only [Bool.false_eq_true, if_false]
    refine wpAny_bind (wpAny_mono one ?_ fun _ _ e => e)
    rintro r s' ⟨u, rfl, hq⟩
    exact wpAny_pure hq
/-! who declines an instance -/
/-- the values that decline an instance of the class at C -/
inductive NoEq (K : PySem.W.Frag) (C : Addr) (s : Shared) : Value → String → Prop
  | none : NoEq K C s .none "NoneType"
  | int (i : Int) (t : Tok) : NoEq K C s (.int i t) "int"
  | bool (b : Bool) : NoEq K C s (.bool b) "bool"
  | str (a : Str) (t : Tok) : NoEq K C s (.str a t) "str"
  | list (l : Addr) (h : s.TypeIs (.ref l) "list") : NoEq K C s (.ref l) "list"
  | tuple (l : Addr) (h : s.TypeIs (.ref l) "tuple") : NoEq K C s (.ref l) "tuple"
structure NoSub (K : PySem.W.Frag) (C : Addr) : Prop where
  none : PySem.W.subIn K (.ref C) (.type "NoneType") = some false
  int : PySem.W.subIn K (.ref C) (.type "int") = some false
  bool : PySem.W.subIn K (.ref C) (.type "bool") = some false
  str : PySem.W.subIn K (.ref C) (.type "str") = some false
  list : PySem.W.subIn K (.ref C) (.type "list") = some false
  tuple : PySem.W.subIn K (.ref C) (.type "tuple") = some false
theorem NoSub.at (c : NoSub K C) {v : Value} {T : String} (hv : NoEq K C s v T) : PySem.W.subIn K (.ref C) (.type T) = some false := by
  cases hv
  · exact c.none
  · exact c.int
  · exact c.bool
  · exact c.str
  · exact c.list
  · exact c.tuple
end
end Hv
namespace Hv
open PySem PySem.Spec PyProof.Rows L2
/-- what == and != ask of the class at C whose own __eq__ is at f -/
structure EqO (K : PySem.W.Frag) (C f : Addr) : Prop where
  eq : PySem.W.findIn K (.ref C) "__eq__" = some (some (.ref f))
  fn : PySem.W.isFn K (.ref f) = true
  ne : PySem.W.findIn K (.ref C) "__ne__" = some (some (.builtin "object.__ne__"))
  ob : PySem.W.mroIn K C (.type "object") = some true
  no : NoSub K C
  u1 : PySem.W.subIn K (.type "NoneType") (.ref C) = some false
  u2 : PySem.W.subIn K (.type "int") (.ref C) = some false
  u3 : PySem.W.subIn K (.type "bool") (.ref C) = some false
  u4 : PySem.W.subIn K (.type "str") (.ref C) = some false
  u5 : PySem.W.subIn K (.type "list") (.ref C) = some false
  u6 : PySem.W.subIn K (.type "tuple") (.ref C) = some false
/-- values of built-in types that stand in H -/
inductive Oth (K : PySem.W.Frag) (H : Hp) : V → Prop
  | non : Oth K H .non
  | int (i : Int) : Oth K H (.int i)
  | bl (b : Bool) : Oth K H (.bl b)
  | str (z : Str) : Oth K H (.str z)
  | lst (a : Addr) (xs : List V) (h : H a = some (.lst xs)) : Oth K H (.ref a)
  | tup (a : Addr) (xs : List V) (h : SqT K H a xs) : Oth K H (.ref a)
section
variable {X : Cx} {CX : CXT} {n : Nat} {C f : Addr} {sp : Sp} {E : XK} {pins : List (Addr × Obj)} {σ : L2.St} {H : Hp} {s : Shared}
theorem run_below {k : Nat} {A : Around} {Q : VK} {us : List Value} {vs : List V} (sb : Sub X k A) (F : FnR X.prog X.w X.K X.mg X.base CX k f sp) (hx : Passes CX X E) (I : Inv X pins σ H s) (r : Vals vs us) (h : sp vs H Q E) :
    wpAny (model X.prog X.w) A (call (.ref f) us) (EP X pins σ Q) X.xe s := by
  have e0 : Env0 X.prog X.w X.K X.mg X.base A X.stack s H := by
    have e := I.env0
    exact ⟨by rw [sb.fr]; exact e.frames, e.mod, e.bs, e.bsz, e.funs, e.frf, e.hok, e.bare⟩
  refine wpAny_call (codeAny_mono (F A X.stack s H us vs Q E sb.room e0 r h) fun r s' hq => ?_)
  cases r with
  | error e => exact hx pins σ H s e s' I hq
  | ok fl =>
    cases fl with
    | ret u => exact I.after hq
    | next => exact False.elim hq
    | brk => exact False.elim hq
    | cont => exact False.elim hq
theorem oth_no {y : V} {u : Value} (I : Inv X pins σ H s) (o : Oth X.K H y) (r : RelV y u) : ∃ T, NoEq X.K C s u T := by
  cases o with
  | non => cases (show u = Value.none from r); exact ⟨_, .none⟩
  | int i => obtain ⟨t, rfl⟩ := (show ∃ t, u = Value.int i t from r); exact ⟨_, .int i t⟩
  | bl b => cases (show u = Value.bool b from r); exact ⟨_, .bool b⟩
  | str z => obtain ⟨t, rfl⟩ := (show ∃ t, u = Value.str z t from r); exact ⟨_, .str z t⟩
  | lst a xs h =>
    cases (show u = Value.ref a from r)
    obtain ⟨z, its, k, r, e⟩ := I.hok a _ h
    exact ⟨_, .list a ⟨_, e, rfl⟩⟩
  | tup a xs h =>
    cases (show u = Value.ref a from r)
    obtain ⟨its, r, ⟨o, ho, hc, n, hd⟩, hz⟩ := I.tuple h
    exact ⟨_, .tuple a ⟨o, ho, hc⟩⟩
theorem EqO.first (c : EqO X.K C f) {u : Value} {T : String} (h : NoEq X.K C s u T) : PySem.W.notFirst X.K C (.type T) = true := by
  unfold PySem.W.notFirst
  cases h
  · rw [c.u1]; simp
  · rw [c.u2]; simp
  · rw [c.u3]; simp
  · rw [c.u4]; simp
  · rw [c.u5]; simp
  · rw [c.u6]; simp
/-- the other side of an instance of C -/
def Mate (K : PySem.W.Frag) (C : Addr) (H : Hp) (y : V) : Prop := Oth K H y ∨ ∃ b D dy gs, y = .ref b ∧ H b = some (.ins D dy gs) ∧ PySem.W.notFirst K C (.ref D) = true
/-- x == y, x != y with an instance of C on the left -/
def rOwnL (K : PySem.W.Frag) (C : Addr) (g : Bool → Bool) (sp : Sp) (E : XK) : R2 := fun x y H Q => ∃ a dx fs, x = .ref a ∧ H a = some (.ins C dx fs) ∧ Mate K C H y ∧ sp [x, y] H (fun v H' => ∃ k, v = .bl k ∧ Q (.bl (g k)) H') E
theorem run_bool {g : Bool → Bool} {k : Nat} {A : Around} {Q : VK} {us : List Value} {vs : List V} (sb : Sub X k A) (F : FnR X.prog X.w X.K X.mg X.base CX k f sp) (hx : Passes CX X E) (I : Inv X pins σ H s) (r : Vals vs us)
    (h : sp vs H (fun v H' => ∃ k, v = .bl k ∧ Q (.bl (g k)) H') E) :
    wpAny (model X.prog X.w) A (call (.ref f) us) (fun v s' => ∃ k, v = .bool k ∧ EP X pins σ Q (.bool (g k)) s') X.xe s := by
  refine wpAny_mono (run_below sb F hx I r h) ?_ fun _ _ z => z
  rintro v s' ⟨z, H', I', rz, k, rfl, q⟩
  cases (show v = Value.bool k from rz)
  exact ⟨k, rfl, .bl (g k), H', I', rfl, q⟩
theorem looks_ty {M : Model} {l : Addr} {T : String} (h : s.TypeIs (.ref l) T) : PySem.W.Looks M s.heap (typeOf (.ref l)) (.type T) := by
  obtain ⟨o, ho, hc⟩ := h
  exact fun A Q E s' k q => wpAny_typeOf ⟨o, k _ _ ho, hc⟩ q
theorem mate_type {y : V} {u : Value} (c : EqO X.K C f) (I : Inv X pins σ H s) (h : Mate X.K C H y) (r : RelV y u) : ∃ tb, PySem.W.Looks (model X.prog X.w) s.heap (typeOf u) tb ∧ PySem.W.notFirst X.K C tb = true := by
  rcases h with h | ⟨b, D, dy, gs, rfl, hb, hn⟩
  · obtain ⟨T, h⟩ := oth_no (C := C) I h r
    refine ⟨.type T, ?_, c.first h⟩
    cases h with
    | none => exact PySem.W.Looks.now
    | int i t => exact PySem.W.Looks.now
    | bool b => exact PySem.W.Looks.now
    | str a t => exact PySem.W.Looks.now
    | list l h => exact looks_ty h
    | tuple l h => exact looks_ty h
  · cases (show u = Value.ref b from r)
    obtain ⟨mB, J', _⟩ := ins_get I.hok hb
    obtain ⟨od', J', _⟩ := J'.look
    exact ⟨_, J'.type, hn⟩
theorem op_eqOwnL (c : EqO X.K C f) (F : FnR X.prog X.w X.K X.mg X.base CX n f sp) (hr : Room n X.A) (hx : Passes CX X E) : OpR X (compareOp .Eq) (rOwnL X.K C id sp E) := by
  intro pins s σ H x y v u Q I rx ry h
  obtain ⟨a, dx, fs, rfl, ha, hm, q⟩ := h
  cases (show v = Value.ref a from rx)
  obtain ⟨mA, J, _⟩ := ins_get I.hok ha
  obtain ⟨od, J, _⟩ := J.look
  obtain ⟨tb, L, hn⟩ := mate_type c I hm ry
  show wpAny (model X.prog X.w) X.A (richCompare .Eq (.ref a) u) (EP X pins σ Q) X.xe s
  exact cmp_left (op := .Eq) hr.units0 I.kIn J L hn (try_eq I.kIn J c.eq c.fn (run_bool (g := id) ⟨hr, rfl⟩ F hx I (vs := [.ref a, y]) (.cons rfl (.cons ry .nil)) q))
theorem op_neOwnL (c : EqO X.K C f) (F : FnR X.prog X.w X.K X.mg X.base CX n f sp) (hr : Room (n + 1) X.A) (hx : Passes CX X E) : OpR X (compareOp .NotEq) (rOwnL X.K C (!·) sp E) := by
  intro pins s σ H x y v u Q I rx ry h
  obtain ⟨a, dx, fs, rfl, ha, hm, q⟩ := h
  cases (show v = Value.ref a from rx)
  obtain ⟨mA, J, _⟩ := ins_get I.hok ha
  obtain ⟨od, J, _⟩ := J.look
  obtain ⟨tb, L, hn⟩ := mate_type c I hm ry
  have sb : Sub X (n + 1) X.A := ⟨hr, rfl⟩
  show wpAny (model X.prog X.w) X.A (richCompare .NotEq (.ref a) u) (EP X pins σ Q) X.xe s
  exact cmp_left (op := .NotEq) hr.units0 I.kIn J L hn (try_ne sb.in1.room.units0 I.kIn J c.ne c.ob c.eq c.fn (run_bool (g := (!·)) sb.in1 F hx I (vs := [.ref a, y]) (.cons rfl (.cons ry .nil)) q))
end
end Hv
namespace Ev
open PySem L2 Hv
set_option autoImplicit false
/-! ### == of instances of a class with an own __eq__ -/
/-- what == asks of a class, but for its __eq__ -/
structure EqF (K : PySem.W.Frag) (C : Addr) : Prop where
  ne : PySem.W.findIn K (.ref C) "__ne__" = some (some (.builtin "object.__ne__"))
  ob : PySem.W.mroIn K C (.type "object") = some true
  no : NoSub K C
  u1 : PySem.W.subIn K (.type "NoneType") (.ref C) = some false
  u2 : PySem.W.subIn K (.type "int") (.ref C) = some false
  u3 : PySem.W.subIn K (.type "bool") (.ref C) = some false
  u4 : PySem.W.subIn K (.type "str") (.ref C) = some false
  u5 : PySem.W.subIn K (.type "list") (.ref C) = some false
  u6 : PySem.W.subIn K (.type "tuple") (.ref C) = some false
  nf : PySem.W.notFirst K C (.ref C) = true
theorem EqF.eqO {K : PySem.W.Frag} {C f : Addr} (e : EqF K C) (h1 : PySem.W.findIn K (.ref C) "__eq__" = some (some (.ref f))) (h2 : PySem.W.isFn K (.ref f) = true) : EqO K C f := ⟨h1, h2, e.ne, e.ob, e.no, e.u1, e.u2, e.u3, e.u4, e.u5, e.u6⟩
section
variable {K : PySem.W.Frag} {B : Bs} {Γ Γ1 Γ2 : List En} {X : XK}
theorem ev_eqOwn {ta tb : TE} {c : Str} {gs hs : List (Str × D)} {b : Bool} {pre : List Ar → D → Prop} (ha : EvE K B Γ ta (.ins c gs) Γ1) (hb : EvE K B Γ1 tb (.ins c hs) Γ2) (e : EqF K (cA K c)) (p : pre [.k (.ins c gs), .k (.ins c hs)] (.bl b)) : EvE K B Γ (tOp (rOwnL K (cA K c) id (spE K pre) X) ta tb) (.bl b) Γ2 := fun σ H F E Q q => ha σ H F E _ fun v H1 F1 E1 s1 r1 => hb σ H1 F1 E1 _ fun u H2 F2 E2 s2 r2 => by
  obtain ⟨a, dx, fs, rfl, h1, _⟩ := id r1.ins_
  obtain ⟨a', dy, fs', rfl, h2, _⟩ := id r2.ins_
  refine ⟨a, dx, fs, rfl, E2.i _ _ (s2 _ _ h1), .inr ⟨a', _, dy, fs', rfl, E2.i _ _ h2, e.nf⟩, F2, [.k (.ins c gs), .k (.ins c hs)], .bl b, E2.i, .cons (r1.same s2) (.cons r2 .nil), p, fun w H3 F3 g r3 => ?_⟩
  cases r3.bl_
  exact ⟨b, rfl, q _ H3 F3 (E2.grow g) ((s1.trans s2).trans g.f) (.bl b)⟩
end
end Ev
namespace Hv
open PySem L2
/-- data of depth m and bulk n at most, that can be compared and shown -/
structure Fit (d : PyData) (m n : Nat) : Prop where
  lay : d.canLay0 = true
  sh : d.showable = true
  dp : d.depth ≤ m
  lv : d.leavesShort 2000 = true
  bk : d.bulk ≤ n
structure FitAll (ds : List PyData) (m n : Nat) : Prop where
  lay : PyData.canLayAll0 ds = true
  sh : PyData.showableAll ds = true
  dp : PyData.depthAll ds ≤ m
  lv : PyData.leavesShortAll 2000 ds = true
  bk : PyData.bulkAll ds ≤ n
theorem Fit.none {m n : Nat} : Fit .none m n := ⟨rfl, rfl, Nat.zero_le _, rfl, Nat.zero_le _⟩
theorem Fit.bool {b : Bool} {m n : Nat} : Fit (.bool b) m n := ⟨rfl, rfl, Nat.zero_le _, rfl, Nat.zero_le _⟩
theorem Fit.int {i : Int} {m n : Nat} (h : i.natAbs.log2 < 1920) : Fit (.int i) m n := by
  refine ⟨rfl, decide_eq_true h, Nat.zero_le _, decide_eq_true ?_, Nat.zero_le _⟩
  have := PyProof.Rows.int_text_len_1921 h
  show (PySem.Str.ofString (toString i)).length ≤ 2000
  omega
theorem small_log {i : Int} (h0 : -1000000 ≤ i) (h1 : i ≤ 1000000) : i.natAbs.log2 < 1920 := by
  by_cases h : i.natAbs = 0
  · rw [h]
    decide
  · refine Nat.lt_of_lt_of_le ((Nat.log2_lt h).mpr (show i.natAbs < 2 ^ 20 by omega)) (by decide)
theorem Fit.str {z : Str} {m n : Nat} (h : PyData.strOk z = true) (hl : z.length ≤ n) : Fit (.str z) m n := by
  refine ⟨h, rfl, Nat.zero_le _, ?_, hl⟩
  show (z.cps.toList.all fun c => decide (c < 16 ^ 8)) = true
  rw [List.all_eq_true]
  intro c hc
  unfold PyData.strOk at h
  rw [Array.all_eq_true'] at h
  have := of_decide_eq_true (h c (by simpa using hc))
  exact decide_eq_true (by omega)
theorem FitAll.nil {m n : Nat} : FitAll [] m n := ⟨rfl, rfl, Nat.zero_le _, rfl, Nat.zero_le _⟩
theorem FitAll.cons {d : PyData} {ds : List PyData} {m a b : Nat} (h : Fit d m a) (t : FitAll ds m b) : FitAll (d :: ds) m (a + 1 + b) := by
  have h1 := h.dp
  have h2 := t.dp
  have h3 := h.bk
  have h4 := t.bk
  refine ⟨?_, ?_, ?_, ?_, ?_⟩
  · show (PyData.canLay0 d && PyData.canLayAll0 ds) = true
    rw [h.lay, t.lay]; rfl
  · show (PyData.showable d && PyData.showableAll ds) = true
    rw [h.sh, t.sh]; rfl
  · show max (PyData.depth d) (PyData.depthAll ds) ≤ m
    omega
  · show (PyData.leavesShort 2000 d && PyData.leavesShortAll 2000 ds) = true
    rw [h.lv, t.lv]; rfl
  · show PyData.bulk d + 1 + PyData.bulkAll ds ≤ a + 1 + b
    omega
theorem Fit.list {ds : List PyData} {m n : Nat} (h : FitAll ds m n) : Fit (.list ds) (m + 1) n := by
  refine ⟨h.lay, h.sh, ?_, h.lv, h.bk⟩
  have := h.dp
  show PyData.depthAll ds + 1 ≤ m + 1
  omega
theorem Fit.tuple {ds : List PyData} {m n : Nat} (h : FitAll ds m n) : Fit (.tuple ds) (m + 1) n := by
  refine ⟨h.lay, h.sh, ?_, h.lv, h.bk⟩
  have := h.dp
  show PyData.depthAll ds + 1 ≤ m + 1
  omega
theorem Fit.mono {d : PyData} {m n m' n' : Nat} (h : Fit d m n) (a : m ≤ m') (b : n ≤ n') : Fit d m' n' := ⟨h.lay, h.sh, Nat.le_trans h.dp a, h.lv, Nat.le_trans h.bk b⟩
theorem Fit.shaped {d : PyData} {m n : Nat} (h : Fit d m n) (hm : m ≤ 60) : SeqAt.shaped d = true := by
  unfold SeqAt.shaped
  rw [h.lay, decide_eq_true (show d.depth ≤ 64 by have := h.dp; omega)]
  rfl
theorem Fit.noDict {d : PyData} {m n : Nat} (h : Fit d m n) : d.hasDict = false := PyData.hasDict_of_canLay d h.lay
theorem Fit.line {d : PyData} {m n : Nat} (h : Fit d m n) (hn : n ≤ 5000) : d.shown.length ≤ sizeLine := by
  have h1 := PyData.shown_le_bulk 2000 (by decide) d h.lv
  have h2 : 2002 * d.bulk ≤ 2002 * 5000 := Nat.mul_le_mul_left _ (Nat.le_trans h.bk hn)
  have h3 : 2002 * 5000 + 2000 ≤ sizeLine := by decide
  omega
theorem Fit.eqv {d : PyData} {m n : Nat} (h : Fit d m n) : PyData.eqv d d = true := SeqAt.eqv_refl d h.lay
/-- what repr asks -/
theorem Fit.repr {d : PyData} {m n : Nat} {K : PySem.W.Frag} {H : Hp} {v : V} {Q : VK} (h : Fit d m n) (hv : Dp K H v d) (hm : m ≤ 60) (hn : n ≤ 5000) (q : Q (.str d.shown) H) : rRepr K [v] H Q :=
  rd_repr hv h.sh h.noDict (Nat.le_trans h.dp hm) (h.line hn) q
end Hv
namespace Ev
open PySem L2 Hv SlX
set_option autoImplicit false
/-- what join asks, told without the place -/
abbrev jnR (K : PySem.W.Frag) : V → List V → Hp → VK → Prop := fun x xs H Q => ∃ a p, ∃ ys : List Str, x = .str a ∧ xs = [.ref p] ∧ (SqL K H p (ys.map V.str) ∨ SqT K H p (ys.map V.str)) ∧ (ys.map (·.length)).sum + ys.length * a.length ≤ 16777216 ∧ Q (.str (PySem.Txt.join a ys)) H
/-! ### repr of data; defs that are called where no repr is under way -/
def ShOk (x : D) : Prop := (x.isData && (PyData.showable x.py && (!PyData.hasDict x.py && (decide (PyData.depth x.py ≤ 60) && decide ((PyData.shown x.py).length ≤ sizeLine))))) = true
instance (x : D) : Decidable (ShOk x) := by unfold ShOk; infer_instance
def shD (x : D) : Str := PyData.shown x.py
theorem shOk_of {x : D} {m n : Nat} (d : x.isData = true) (h : Fit x.py m n) (hm : m ≤ 60) (hn : n ≤ 5000) : ShOk x := by
  unfold ShOk
  rw [d, h.sh, h.noDict, decide_eq_true (Nat.le_trans h.dp hm), decide_eq_true (h.line hn)]
  rfl
section
variable {K : PySem.W.Frag} {B : Bs} {Γ Γ1 Γ2 : List En} {t : TE}
theorem ev_notInD {t t' : TE} {x : D} {xs : List D} (h : EvE K B Γ t x Γ1) (h' : EvR K B Γ1 t' (.lst xs) Γ2) (e : EqOk x (.lst xs)) : EvE K B Γ (tOp (rNotInD K) t t') (.bl (!inD x xs)) Γ2 := fun σ H F E Q q => h σ H F E _ fun u H1 F1 E1 s1 r1 => h' σ H1 F1 E1 _ fun a o H2 F2 E2 s2 h2 r2 => by
  unfold EqOk at e
  simp only [Bool.and_eq_true] at e
  obtain ⟨⟨⟨e1, e2⟩, e3⟩, e4⟩ := e
  cases r2 with
  | lst t2 => exact ⟨_, _, (r1.same s2).dp E2.i e1, .lst (SqL.of h2) (t2.dp E2.i e2), e3, e4, q _ H2 F2 E2 (s1.trans s2) (.bl _)⟩
theorem ev_reprD {x : D} (h : EvE K B Γ t x Γ1) (l : ShOk x) : EvE K B Γ (tCB (rRepr K) (tCons t tNil)) (.str (shD x)) Γ1 := fun σ H F E Q q =>
  h σ H F E _ fun u H1 F1 E1 s1 r1 => by
    unfold ShOk at l
    simp only [Bool.and_eq_true, Bool.not_eq_true', decide_eq_true_eq] at l
    obtain ⟨l1, l2, l3, l4, l5⟩ := l
    exact rd_repr (r1.dp E1.i l1) l2 l3 l4 l5 (q _ H1 F1 E1 s1 (.str _))
end
end Ev
namespace Hv
open PySem PySem.Spec PyProof.Rows L2 SlX
set_option autoImplicit false
section
variable {X : Cx} {CX : CXT} {n : Nat} {f C : Addr} {sp : Sp} {E : XK}
/-- str(x), x an instance with a dict of the class at C whose __str__ is at f -/
def rStrI (C : Addr) (sp : Sp) (E : XK) : List V → Hp → VK → Prop := fun xs H Q => ∃ a dx fs, xs = [.ref a] ∧ H a = some (.ins C dx fs) ∧ sp [.ref a] H (fun z H' => ∃ y, z = .str y ∧ Q z H') E
theorem call_strI (hs : PySem.W.findIn X.K (.ref C) "__str__" = some (some (.ref f))) (hf : PySem.W.isFn X.K (.ref f) = true) (F : FnR X.prog X.w X.K X.mg X.base CX n f sp) (hr : Room (n + 2) X.A)
    (hx : Passes CX X E) : CallR X (.type "str") (rStrI C sp E) := by
  intro pins s σ H xs us Q I r h
  obtain ⟨a, dx, fs, rfl, ha, q⟩ := h
  obtain ⟨mA, O, _, _, _, _⟩ := ins_get I.hok ha
  obtain ⟨od, J, _⟩ := O.look
  cases r with
  | cons ra rt =>
    cases rt
    cases ra
    refine PySem.W.kso_call (by have := hr.un; show X.A.units + 1 + 1 < cLine; omega) I.kIn J hs hf ?_
    refine wpAny_mono (wpAny_call (run_at (us := [.ref a]) (ws := [.ref a]) F hr.in1.in1 I.env0.in1.in1 hx I (.cons rfl .nil) q)) ?_ fun _ _ z => z
    rintro w s' ⟨z', H', I', rz, y, rfl, qz⟩
    obtain ⟨t, rfl⟩ := (show ∃ t, w = Value.str y t from rz)
    exact ⟨.str y, H', I', ⟨t, rfl⟩, qz⟩
/-- str of a number or of a text -/
def rStrA : List V → Hp → VK → Prop := fun xs H Q => (∃ i, xs = [.int i] ∧ i.natAbs.log2 < 1920 ∧ Q (.str (toString i)) H) ∨ ∃ a, xs = [.str a] ∧ Q (.str a) H
theorem call_strA : CallR X (.type "str") rStrA := by
  intro pins s σ H xs us Q I r h
  rcases h with h | h
  · exact call_str_int pins s σ H xs us Q I r h
  · exact SkE.call_str_str pins s σ H xs us Q I r h
end
end Hv
namespace Ev
open PySem L2 Hv SlX
set_option autoImplicit false
def strE (e : Int ⊕ Str) : Str := match e with
  | .inl i => strI i
  | .inr z => z
section
variable {K : PySem.W.Frag} {B : Bs} {Γ Γ1 : List En} {t : TE} {X : XK}
theorem ev_strO {c : Str} {gs : List (Str × D)} {z : Str} {pre : List Ar → D → Prop} (h : EvE K B Γ t (.ins c gs) Γ1) (p : pre [.k (.ins c gs)] (.str z)) : EvE K B Γ (tCB (Hv.rStrI (cA K c) (spE K pre) X) (tCons t tNil)) (.str z) Γ1 := fun σ H F E Q q =>
  h σ H F E _ fun u H1 F1 E1 s1 r1 => by
    obtain ⟨a, dx, fs, rfl, h1, _⟩ := id r1.ins_
    refine ⟨a, dx, fs, rfl, E1.i _ _ h1, F1, [.k (.ins c gs)], .str z, E1.i, .cons r1 .nil, p, fun w H3 F3 g r3 => ?_⟩
    cases r3.str_
    exact ⟨z, rfl, q _ H3 F3 (E1.grow g) (s1.trans g.f) (.str z)⟩
theorem ev_strE {e : Int ⊕ Str} (h : EvE K B Γ t (toD e) Γ1) (l : ((getL e).getD 0).natAbs.log2 < 1920) : EvE K B Γ (tCB Hv.rStrA (tCons t tNil)) (.str (strE e)) Γ1 := fun σ H F E Q q =>
  h σ H F E _ fun u H1 F1 E1 s1 r1 => by
    cases e with
    | inl i =>
      cases r1.int_
      exact .inl ⟨i, rfl, l, q _ H1 F1 E1 s1 (.str _)⟩
    | inr z =>
      cases r1.str_
      exact .inr ⟨z, rfl, q _ H1 F1 E1 s1 (.str _)⟩
end
end Ev
namespace Ev
open PySem L2 Hv SlX
set_option autoImplicit false
section
variable {K : PySem.W.Frag} {B : Bs} {Γ Γ1 Γ2 Γ3 : List En}
theorem EvE.kept2 {t : TE} {y : D} (h : ∀ B, EvE K B Γ t y Γ1) (eb : lent Γ1 = lent Γ) {σ : L2.St} {H F : Hp} {a b : Addr} {oa ob : HO} (E : Env K B Γ σ H F) (na : NotIn B Γ σ F a) (ha : H a = some oa) (nb : NotIn B Γ σ F b) (hb : H b = some ob) (ne : b ≠ a) {Q : VK}
    (q : ∀ v H' F', Env K B Γ1 σ H' F' → NotIn B Γ1 σ F' a → H' a = some oa → NotIn B Γ1 σ F' b → H' b = some ob → Same F F' → Rep K F' v y → Q v H') : t σ H Q :=
  EvE.kept (B := B.keep a oa) h eb (E.keep na ha) ⟨(upd_ne ne).trans nb.h0, nb.m, nb.f, nb.o⟩ hb fun v H' F' E' n' hb' s r => by
    obtain ⟨E2, n2, hl2⟩ := E'.unkeep na.h0 na.m E na.f s eb (fun _ _ _ => rfl)
    exact q v H' F' E2 n2 hl2 ⟨nb.h0, nb.m, n'.f, n'.o⟩ hb' s r
theorem es_par3OOE {i j l : Nat} {ta tb tc : TE} {x y z : D} (ne : i ≠ j) (ha : EvO K B Γ ta x Γ1) (hb : ∀ B, EvO K B Γ1 tb y Γ2) (eb : lent Γ2 = lent Γ1) (hc : ∀ B, EvE K B Γ2 tc z Γ3) (ec : lent Γ3 = lent Γ2) : EvS1 K B Γ (tPar3 i j l (tCons ta (tCons tb (tCons tc tNil)))) (.nx (((Γ3.set i (.own 0 x)).set j (.own 0 y)).set l (.d z))) := fun Dn σ H F E q => ha σ H F E _ fun a o H1 F1 E1 s1 hf h0 hm no hl hr => EvO.kept hb eb E1 ⟨h0, hm, hf, no⟩ hl fun b o2 H2 F2 E2 n2 hl2 nab s2 hf2 h02 hm2 no2 hb2 hr2 => EvE.kept2 hc ec E2 n2 hl2 ⟨h02, hm2, hf2, no2⟩ hb2 nab fun v H3 F3 E3 na3 ha3 nb3 hb3 s3 r3 => by
  refine ⟨_, _, _, rfl, q _ H3 F3 (((E3.set (i := i) (e := .own 0 x) ⟨a, o, rfl, na3.f, ⟨h0, hm⟩, ha3, hr.same (s2.trans s3)⟩ (fun p y e k q' y' c hk hc1 hc2 hc3 => by
    cases hc2
    exact na3.o k q' y' hc1 hc3)).set (i := j) (e := .own 0 y) ⟨b, o2, rfl, nb3.f, ⟨h02, hm2⟩, hb3, hr2.same s3⟩ (fun p y e k q' y' c hk hc1 hc2 hc3 => ?_)).setD r3) ((s1.trans s2).trans s3)⟩
  cases hc2
  by_cases z : k = i
  · subst z
    by_cases w : k < σ.length
    · rw [List.getElem?_set_self w] at hc3
      cases hc3
      exact nab rfl
    · rw [List.getElem?_eq_none (by rw [List.length_set]; omega)] at hc3
      cases hc3
  · rw [List.getElem?_set_ne (fun u => z u.symm)] at hc1 hc3
    exact nb3.o k q' y' hc1 hc3
end
end Ev
namespace Hv
open PySem PySem.Spec PyProof.Rows L2 ClX
set_option autoImplicit false
section
variable {X : Cx} {CX : CXT} {k : Nat} {C p g : Addr} {mc : Value} {sp : Sp} {E : XK} {o : Expr} {kws : List Keyword} {m : Str} {pos apos : Pos} {ta : TE} {tk : TA} {pl : Sem Bool} {fd : FuncData} {ps ks : List Str} {gg : List Value → List Value → List Value} {gV : List V → List V → List V}
/-- e.m(k = v, ..), e the class at C, m a classmethod -/
def tCMethK (C : Addr) (sp : Sp) (gV : List V → List V → List V) (E : XK) (ta : TE) (tk : TA) : TE := fun σ H Q => ta σ H fun x H1 => x = .ref C ∧ tk σ H1 fun zs H2 => sp (gV [.ref C] zs) H2 Q E
theorem pe_cmethK (he : PE X o ta) (r : CRead X.K C mc) (c : CMet X.K C mc m p g) (F : FnOk X.prog X.w X.K X.mg X.base CX k g fd ps sp) (hb : KBinds X.K fd ps ks gg gV) (hr : Room k X.A) (hx : Passes CX X E) (hkw : PK X kws tk)
    (hall : (backToKw pos (keywordEach kws X.env)).all (·.1.isSome) = true := by rfl) (hks : (backToKw pos (keywordEach kws X.env)).filterMap (·.1) = ks := by rfl)
    (hpl : ((backTo pos (starEach [] X.env)).any (·.1) || (backToKw pos (keywordEach kws X.env)).any (·.1.isNone)) = false := by rfl)
    (ht : eval (.Call (.Attribute o m apos) [] kws pos) X.env = (do
      let ov ← eval o X.env
      standAt apos.atName
      let (f, first) ← holding [ov] (getMethod ov m pl)
      callWith pos f first (backTo pos (starEach [] X.env)) (backToKw pos (keywordEach kws X.env))) := by rfl) :
    PE X (.Call (.Attribute o m apos) [] kws pos) (tCMethK C sp gV E ta tk) := by
  refine ⟨fun pins s σ H Q I h => ?_⟩
  refine PySem.W.methodCall_KW (pl := pl) (thn (he.run pins s σ H _ I h) fun u s1 ⟨x, H1, I1, rx, ex, q⟩ => ?_) ht
  subst ex
  obtain rfl : u = Value.ref C := rx
  refine getmethcm_ok I1 r c fun s2 I2 => ?_
  refine PySem.W.callWith_of hpl (PySem.W.keeps_M (self := .ref C) c.fi) (evalArgs_kw2_nil hall ?_)
  apply thn (hkw.run pos _ s2 σ H1 _ I2 q)
  rintro zs' s3 ⟨zs, H2, I3, rz, q2⟩
  rw [hks]
  refine ⟨⟨pin_at I3, I3.kIn⟩, ?_⟩
  have r2 := hb.rel (vs := [.ref C]) (us := [.ref C]) (.cons rfl .nil) rz
  have hl : (gg [.ref C] zs').length = ps.length := by
    rw [← r2.length]
    exact F.len _ _ _ _ q2
  have z : wpAny (model X.prog X.w) X.A (call (.ref s1.heap.objs.size) [] (ks.zip zs')) (EP X ((s1.heap.objs.size, PySem.W.methodObj (.ref g) (.ref C)) :: pins) σ Q) X.xe s3 := by
    refine wpAny_call (PySem.W.method_call (pin_at I3) (codeAny_mono (F.run X.A X.stack s3 H2 ⟨[.ref C], ks.zip zs'⟩ (gg [.ref C] zs') (gV [.ref C] zs) Q E hr I3.env0 (hb.to s3 [.ref C] zs' I3.kIn hl) r2 q2) fun r s' hq => ?_))
    cases r with
    | error e => exact hx _ σ H2 s3 e s' I3 hq
    | ok fl =>
      cases fl with
      | ret u => exact I3.after hq
      | next => exact False.elim hq
      | brk => exact False.elim hq
      | cont => exact False.elim hq
  exact thn z fun _ _ y => unpinE y
end
end Hv
namespace Ev
open PySem L2 Hv SlX
set_option autoImplicit false
section
variable {K : PySem.W.Frag} {B : Bs} {Γ Γ1 : List En} {X : XK}
theorem ev_neOwn {ta tb : TE} {Γ2 : List En} {c : Str} {gs hs : List (Str × D)} {b : Bool} {pre : List Ar → D → Prop} (ha : EvE K B Γ ta (.ins c gs) Γ1) (hb : EvE K B Γ1 tb (.ins c hs) Γ2) (e : EqF K (cA K c)) (p : pre [.k (.ins c gs), .k (.ins c hs)] (.bl b)) : EvE K B Γ (tOp (rOwnL K (cA K c) (!·) (spE K pre) X) ta tb) (.bl (!b)) Γ2 := fun σ H F E Q q => ha σ H F E _ fun v H1 F1 E1 s1 r1 => hb σ H1 F1 E1 _ fun u H2 F2 E2 s2 r2 => by
  obtain ⟨a, dx, fs, rfl, h1, _⟩ := id r1.ins_
  obtain ⟨a', dy, fs', rfl, h2, _⟩ := id r2.ins_
  refine ⟨a, dx, fs, rfl, E2.i _ _ (s2 _ _ h1), .inr ⟨a', _, dy, fs', rfl, E2.i _ _ h2, e.nf⟩, F2, [.k (.ins c gs), .k (.ins c hs)], .bl b, E2.i, .cons (r1.same s2) (.cons r2 .nil), p, fun w H3 F3 g r3 => ?_⟩
  cases r3.bl_
  exact ⟨b, rfl, q _ H3 F3 (E2.grow g) ((s1.trans s2).trans g.f) (.bl (!b))⟩
theorem ev_cmethK {c : Str} {pre : List Ar → D → Prop} {gV : List V → List V → List V} {tk : TA} {ys : List D} {zs : List Ar} {y : D} (h : EvA K B Γ tk ys Γ1) (hg : ∀ (H F : Hp) (us : List V), Reps K F us ys → Ars K H F (gV [.ref (cA K c)] us) zs) (p : pre zs y) : EvE K B Γ (Hv.tCMethK (cA K c) (spE K pre) gV X (tC (.ref (cA K c))) tk) y Γ1 := fun σ H F E Q q =>
  ⟨rfl, h σ H F E _ fun us H1 F1 E1 s1 r1 => ⟨F1, zs, y, E1.i, hg H1 F1 us r1, p, fun v H2 F2 g r2 => q v H2 F2 (E1.grow g) (s1.trans g.f) r2⟩⟩
end
end Ev
namespace L
open PySem L2 Hv
structure Txt (K : PySem.W.Frag) (mg : Str → Option Value) : Prop where
  ValueError : mg "ValueError" = none
  abs : mg "abs" = none
  all : mg "all" = none
  any : mg "any" = none
  bool : mg "bool" = none
  classmethod : mg "classmethod" = none
  divmod : mg "divmod" = none
  enumerate : mg "enumerate" = none
  int : mg "int" = none
  isinstance : mg "isinstance" = none
  len : mg "len" = none
  list : mg "list" = none
  max : mg "max" = none
  min : mg "min" = none
  property : mg "property" = none
  range : mg "range" = none
  repr : mg "repr" = none
  str : mg "str" = none
  tuple : mg "tuple" = none
  cMOST_KINDS : ∃ t, mg "MOST_KINDS" = some (.int (6) t)
  cMOST_TALKS : ∃ t, mg "MOST_TALKS" = some (.int (3) t)
  cMOST_TIMES : ∃ t, mg "MOST_TIMES" = some (.int (3) t)
  cMOST_AFTER : ∃ t, mg "MOST_AFTER" = some (.int (3) t)
  cMOST_NEEDS : ∃ t, mg "MOST_NEEDS" = some (.int (9) t)
  cMOST_PART : ∃ t, mg "MOST_PART" = some (.int (12) t)
  cDIGITS : ∃ t, mg "DIGITS" = some (.str "0123456789" t)
  cLETTERS : ∃ t, mg "LETTERS" = some (.str "abcdefghijklmnopqrstuvwxyz" t)
  cMARK : ∃ t, mg "MARK" = some (.str "over " t)
  cl_Kind : Cls K (Ev.cA K "Kind")
  mg_Kind : mg "Kind" = some (.ref (Ev.cA K "Kind"))
  is_Kind : ∀ (H : Hp) (a dx : Addr) (fs : List (Str × V)), H a = some (.ins (Ev.cA K "Kind") dx fs) → TyX K H (.ref a) (.ref (Ev.cA K "Kind")) ∧ PySem.W.kitOne K (.ref (Ev.cA K "Kind")) (.ref (Ev.cA K "Kind")) = some true
  na_Kind_parts : NoAttr K (Ev.cA K "Kind") "parts"
  cl_Row : Cls K (Ev.cA K "Row")
  mg_Row : mg "Row" = some (.ref (Ev.cA K "Row"))
  is_Row : ∀ (H : Hp) (a dx : Addr) (fs : List (Str × V)), H a = some (.ins (Ev.cA K "Row") dx fs) → TyX K H (.ref a) (.ref (Ev.cA K "Row")) ∧ PySem.W.kitOne K (.ref (Ev.cA K "Row")) (.ref (Ev.cA K "Row")) = some true
  na_Row_parts : NoAttr K (Ev.cA K "Row") "parts"
  cl_Rules : Cls K (Ev.cA K "Rules")
  mg_Rules : mg "Rules" = some (.ref (Ev.cA K "Rules"))
  is_Rules : ∀ (H : Hp) (a dx : Addr) (fs : List (Str × V)), H a = some (.ins (Ev.cA K "Rules") dx fs) → TyX K H (.ref a) (.ref (Ev.cA K "Rules")) ∧ PySem.W.kitOne K (.ref (Ev.cA K "Rules")) (.ref (Ev.cA K "Rules")) = some true
  na_Rules_made : NoAttr K (Ev.cA K "Rules") "made"
  na_Rules_lines : NoAttr K (Ev.cA K "Rules") "lines"
  na_Rules_text : NoAttr K (Ev.cA K "Rules") "text"
  eq_Rules : Ev.EqF K (Ev.cA K "Rules")
end L
namespace L
open PySem L2 Hv Ev
abbrev N_is_integer : List Str := ["value"]
abbrev P_is_integer : List Str := ["value"]
theorem sc_is_integer : FnScope N_is_integer P_is_integer (defScope s_is_integer) := ⟨rfl, rfl, rfl, by decide +kernel, rfl, by decide +kernel, by decide +kernel⟩
abbrev N_is_name : List Str := ["value", "sign"]
abbrev P_is_name : List Str := ["value"]
theorem sc_is_name : FnScope N_is_name P_is_name (defScope s_is_name) := ⟨rfl, rfl, rfl, by decide +kernel, rfl, by decide +kernel, by decide +kernel⟩
abbrev N_common_divisor : List Str := ["one", "other"]
abbrev P_common_divisor : List Str := ["one", "other"]
theorem sc_common_divisor : FnScope N_common_divisor P_common_divisor (defScope s_common_divisor) := ⟨rfl, rfl, rfl, by decide +kernel, rfl, by decide +kernel, by decide +kernel⟩
abbrev N_number_of : List Str := ["word", "most", "number", "sign"]
abbrev P_number_of : List Str := ["word", "most"]
theorem sc_number_of : FnScope N_number_of P_number_of (defScope s_number_of) := ⟨rfl, rfl, rfl, by decide +kernel, rfl, by decide +kernel, by decide +kernel⟩
abbrev N_fraction_of : List Str := ["bound", "words", "part", "whole"]
abbrev P_fraction_of : List Str := ["bound"]
theorem sc_fraction_of : FnScope N_fraction_of P_fraction_of (defScope s_fraction_of) := ⟨rfl, rfl, rfl, by decide +kernel, rfl, by decide +kernel, by decide +kernel⟩
abbrev N_is_bound : List Str := ["value"]
abbrev P_is_bound : List Str := ["value"]
theorem sc_is_bound : FnScope N_is_bound P_is_bound (defScope s_is_bound) := ⟨rfl, rfl, rfl, by decide +kernel, rfl, by decide +kernel, by decide +kernel⟩
abbrev N_is_needs : List Str := ["value"]
abbrev P_is_needs : List Str := ["value"]
theorem sc_is_needs : FnScope N_is_needs P_is_needs (defScope s_is_needs) := ⟨rfl, rfl, rfl, by decide +kernel, rfl, by decide +kernel, by decide +kernel⟩
abbrev N_is_closing : List Str := ["value"]
abbrev P_is_closing : List Str := ["value"]
theorem sc_is_closing : FnScope N_is_closing P_is_closing (defScope s_is_closing) := ⟨rfl, rfl, rfl, by decide +kernel, rfl, by decide +kernel, by decide +kernel⟩
abbrev N_sort_of : List Str := ["amount", "word", "mark", "digits", "number"]
abbrev P_sort_of : List Str := ["amount"]
theorem sc_sort_of : FnScope N_sort_of P_sort_of (defScope s_sort_of) := ⟨rfl, rfl, rfl, by decide +kernel, rfl, by decide +kernel, by decide +kernel⟩
abbrev N_Kind_name : List Str := ["self"]
abbrev P_Kind_name : List Str := ["self"]
theorem sc_Kind_name : FnScope N_Kind_name P_Kind_name (defScope s_Kind_name) := ⟨rfl, rfl, rfl, by decide +kernel, rfl, by decide +kernel, by decide +kernel⟩
abbrev N_Kind_talks : List Str := ["self"]
abbrev P_Kind_talks : List Str := ["self"]
theorem sc_Kind_talks : FnScope N_Kind_talks P_Kind_talks (defScope s_Kind_talks) := ⟨rfl, rfl, rfl, by decide +kernel, rfl, by decide +kernel, by decide +kernel⟩
abbrev N_Kind_needs : List Str := ["self"]
abbrev P_Kind_needs : List Str := ["self"]
theorem sc_Kind_needs : FnScope N_Kind_needs P_Kind_needs (defScope s_Kind_needs) := ⟨rfl, rfl, rfl, by decide +kernel, rfl, by decide +kernel, by decide +kernel⟩
abbrev N_Kind_closing : List Str := ["self"]
abbrev P_Kind_closing : List Str := ["self"]
theorem sc_Kind_closing : FnScope N_Kind_closing P_Kind_closing (defScope s_Kind_closing) := ⟨rfl, rfl, rfl, by decide +kernel, rfl, by decide +kernel, by decide +kernel⟩
abbrev N_Kind_ends : List Str := ["self"]
abbrev P_Kind_ends : List Str := ["self"]
theorem sc_Kind_ends : FnScope N_Kind_ends P_Kind_ends (defScope s_Kind_ends) := ⟨rfl, rfl, rfl, by decide +kernel, rfl, by decide +kernel, by decide +kernel⟩
abbrev N_Row_outer : List Str := ["self"]
abbrev P_Row_outer : List Str := ["self"]
theorem sc_Row_outer : FnScope N_Row_outer P_Row_outer (defScope s_Row_outer) := ⟨rfl, rfl, rfl, by decide +kernel, rfl, by decide +kernel, by decide +kernel⟩
abbrev N_Row_inner : List Str := ["self"]
abbrev P_Row_inner : List Str := ["self"]
theorem sc_Row_inner : FnScope N_Row_inner P_Row_inner (defScope s_Row_inner) := ⟨rfl, rfl, rfl, by decide +kernel, rfl, by decide +kernel, by decide +kernel⟩
abbrev N_Row_amount : List Str := ["self"]
abbrev P_Row_amount : List Str := ["self"]
theorem sc_Row_amount : FnScope N_Row_amount P_Row_amount (defScope s_Row_amount) := ⟨rfl, rfl, rfl, by decide +kernel, rfl, by decide +kernel, by decide +kernel⟩
abbrev N_line_of_kind : List Str := ["kind", "line", "after", "bound"]
abbrev P_line_of_kind : List Str := ["kind"]
theorem sc_line_of_kind : FnScope N_line_of_kind P_line_of_kind (defScope s_line_of_kind) := ⟨rfl, rfl, rfl, by decide +kernel, rfl, by decide +kernel, by decide +kernel⟩
abbrev N_line_of_row : List Str := ["row"]
abbrev P_line_of_row : List Str := ["row"]
theorem sc_line_of_row : FnScope N_line_of_row P_line_of_row (defScope s_line_of_row) := ⟨rfl, rfl, rfl, by decide +kernel, rfl, by decide +kernel, by decide +kernel⟩
abbrev N_after_number : List Str := ["words", "marks", "most", "size", "number"]
abbrev P_after_number : List Str := ["words", "marks", "most"]
theorem sc_after_number : FnScope N_after_number P_after_number (defScope s_after_number) := ⟨rfl, rfl, rfl, by decide +kernel, rfl, by decide +kernel, by decide +kernel⟩
abbrev N_after_bound : List Str := ["words", "marks", "size", "more", "bound"]
abbrev P_after_bound : List Str := ["words", "marks"]
theorem sc_after_bound : FnScope N_after_bound P_after_bound (defScope s_after_bound) := ⟨rfl, rfl, rfl, by decide +kernel, rfl, by decide +kernel, by decide +kernel⟩
abbrev N_Rules_kinds : List Str := ["self"]
abbrev P_Rules_kinds : List Str := ["self"]
theorem sc_Rules_kinds : FnScope N_Rules_kinds P_Rules_kinds (defScope s_Rules_kinds) := ⟨rfl, rfl, rfl, by decide +kernel, rfl, by decide +kernel, by decide +kernel⟩
abbrev N_Rules_rows : List Str := ["self"]
abbrev P_Rules_rows : List Str := ["self"]
theorem sc_Rules_rows : FnScope N_Rules_rows P_Rules_rows (defScope s_Rules_rows) := ⟨rfl, rfl, rfl, by decide +kernel, rfl, by decide +kernel, by decide +kernel⟩
abbrev N_check_kinds : List Str := ["kinds", "names", "index", "kind"]
abbrev P_check_kinds : List Str := ["kinds"]
theorem sc_check_kinds : FnScope N_check_kinds P_check_kinds (defScope s_check_kinds) := ⟨rfl, rfl, rfl, by decide +kernel, rfl, by decide +kernel, by decide +kernel⟩
abbrev N_check_rows : List Str := ["rows", "names", "pairs", "index", "row"]
abbrev P_check_rows : List Str := ["rows", "names"]
theorem sc_check_rows : FnScope N_check_rows P_check_rows (defScope s_check_rows) := ⟨rfl, rfl, rfl, by decide +kernel, rfl, by decide +kernel, by decide +kernel⟩
abbrev N_Kind_init : List Str := ["self", "name", "talks", "needs", "closing", "ends"]
abbrev P_Kind_init : List Str := ["self", "name", "talks", "needs", "closing", "ends"]
theorem sc_Kind_init : FnScope N_Kind_init P_Kind_init (defScope s_Kind_init) := ⟨rfl, rfl, rfl, by decide +kernel, rfl, by decide +kernel, by decide +kernel⟩
abbrev N_Row_init : List Str := ["self", "outer", "inner", "amount"]
abbrev P_Row_init : List Str := ["self", "outer", "inner", "amount"]
theorem sc_Row_init : FnScope N_Row_init P_Row_init (defScope s_Row_init) := ⟨rfl, rfl, rfl, by decide +kernel, rfl, by decide +kernel, by decide +kernel⟩
abbrev N_Rules_init : List Str := ["self", "kinds", "rows", "kind", "row"]
abbrev P_Rules_init : List Str := ["self", "kinds", "rows"]
theorem sc_Rules_init : FnScope N_Rules_init P_Rules_init (defScope s_Rules_init) := ⟨rfl, rfl, rfl, by decide +kernel, rfl, by decide +kernel, by decide +kernel⟩
abbrev N_read_kind : List Str := ["line", "words", "name", "left", "talks", "needs", "after", "behind", "bound", "closing", "ends", "kind"]
abbrev P_read_kind : List Str := ["line"]
theorem sc_read_kind : FnScope N_read_kind P_read_kind (defScope s_read_kind) := ⟨rfl, rfl, rfl, by decide +kernel, rfl, by decide +kernel, by decide +kernel⟩
abbrev N_read_row : List Str := ["line", "words"]
abbrev P_read_row : List Str := ["line"]
theorem sc_read_row : FnScope N_read_row P_read_row (defScope s_read_row) := ⟨rfl, rfl, rfl, by decide +kernel, rfl, by decide +kernel, by decide +kernel⟩
abbrev N_Rules_read : List Str := ["cls", "text", "kinds", "rows", "line", "kind", "row"]
abbrev P_Rules_read : List Str := ["cls", "text"]
theorem sc_Rules_read : FnScope N_Rules_read P_Rules_read (defScope s_Rules_read) := ⟨rfl, rfl, rfl, by decide +kernel, rfl, by decide +kernel, by decide +kernel⟩
abbrev N_take : List Str := ["_law_bag_here", "_law_many", "_law_digit"]
abbrev P_take : List Str := ["_law_bag_here", "_law_many"]
theorem sc_take : FnScope N_take P_take (defScope s_take) := ⟨rfl, rfl, rfl, by decide +kernel, rfl, by decide +kernel, by decide +kernel⟩
abbrev N_common : List Str := ["_law_one", "_law_two"]
abbrev P_common : List Str := ["_law_one", "_law_two"]
theorem sc_common : FnScope N_common P_common (defScope s_common) := ⟨rfl, rfl, rfl, by decide +kernel, rfl, by decide +kernel, by decide +kernel⟩
abbrev N_bounds : List Str := ["_law_found", "_law_below", "_law_above"]
abbrev P_bounds : List Str := []
theorem sc_bounds : FnScope N_bounds P_bounds (defScope s_bounds) := ⟨rfl, rfl, rfl, by decide +kernel, rfl, by decide +kernel, by decide +kernel⟩
abbrev N_tag : List Str := ["_law_bag_here", "_law_signs", "_law_made", "_law_k"]
abbrev P_tag : List Str := ["_law_bag_here"]
theorem sc_tag : FnScope N_tag P_tag (defScope s_tag) := ⟨rfl, rfl, rfl, by decide +kernel, rfl, by decide +kernel, by decide +kernel⟩
abbrev N_tags : List Str := ["_law_bag_here", "_law_many", "_law_found", "_law_k", "_law_made", "_law_way", "_law_old", "_law_at", "_law_spare", "_law_tag_here"]
abbrev P_tags : List Str := ["_law_bag_here", "_law_many"]
theorem sc_tags : FnScope N_tags P_tags (defScope s_tags) := ⟨rfl, rfl, rfl, by decide +kernel, rfl, by decide +kernel, by decide +kernel⟩
abbrev N_kind : List Str := ["_law_bag_here", "_law_tag_here", "_law_bounds_here", "_law_made", "_law_way"]
abbrev P_kind : List Str := ["_law_bag_here", "_law_tag_here", "_law_bounds_here"]
theorem sc_kind : FnScope N_kind P_kind (defScope s_kind) := ⟨rfl, rfl, rfl, by decide +kernel, rfl, by decide +kernel, by decide +kernel⟩
abbrev N_amounts : List Str := []
abbrev P_amounts : List Str := []
theorem sc_amounts : FnScope N_amounts P_amounts (defScope s_amounts) := ⟨rfl, rfl, rfl, by decide +kernel, rfl, by decide +kernel, by decide +kernel⟩
abbrev N_links : List Str := ["_law_bag_here", "_law_tags_here", "_law_found", "_law_pairs", "_law_many", "_law_full", "_law_by", "_law_k", "_law_pair"]
abbrev P_links : List Str := ["_law_bag_here", "_law_tags_here"]
theorem sc_links : FnScope N_links P_links (defScope s_links) := ⟨rfl, rfl, rfl, by decide +kernel, rfl, by decide +kernel, by decide +kernel⟩
abbrev N_book : List Str := ["_law_bag_here", "_law_bounds_here", "_law_tags_here", "_law_tag_here"]
abbrev P_book : List Str := ["_law_bag_here", "_law_bounds_here"]
theorem sc_book : FnScope N_book P_book (defScope s_book) := ⟨rfl, rfl, rfl, by decide +kernel, rfl, by decide +kernel, by decide +kernel⟩
abbrev N_kind_line : List Str := ["_law_made", "_law_line"]
abbrev P_kind_line : List Str := ["_law_made"]
theorem sc_kind_line : FnScope N_kind_line P_kind_line (defScope s_kind_line) := ⟨rfl, rfl, rfl, by decide +kernel, rfl, by decide +kernel, by decide +kernel⟩
abbrev N_lines : List Str := ["_law_book_here", "_law_made", "_law_link"]
abbrev P_lines : List Str := ["_law_book_here"]
theorem sc_lines : FnScope N_lines P_lines (defScope s_lines) := ⟨rfl, rfl, rfl, by decide +kernel, rfl, by decide +kernel, by decide +kernel⟩
abbrev N_rules : List Str := ["_law_book_here", "_law_some", "_law_made", "_law_link"]
abbrev P_rules : List Str := ["_law_book_here"]
theorem sc_rules : FnScope N_rules P_rules (defScope s_rules) := ⟨rfl, rfl, rfl, by decide +kernel, rfl, by decide +kernel, by decide +kernel⟩
abbrev N_seen : List Str := ["_law_mine", "_law_some", "_law_links_here", "_law_one"]
abbrev P_seen : List Str := ["_law_mine"]
theorem sc_seen : FnScope N_seen P_seen (defScope s_seen) := ⟨rfl, rfl, rfl, by decide +kernel, rfl, by decide +kernel, by decide +kernel⟩
abbrev N_other : List Str := ["_law_bag_here", "_law_book_here", "_law_bounds_here", "_law_way", "_law_some", "_law_links_here", "_law_at"]
abbrev P_other : List Str := ["_law_bag_here", "_law_book_here", "_law_bounds_here"]
theorem sc_other : FnScope N_other P_other (defScope s_other) := ⟨rfl, rfl, rfl, by decide +kernel, rfl, by decide +kernel, by decide +kernel⟩
abbrev N_Rules_eq : List Str := ["self", "other"]
abbrev P_Rules_eq : List Str := ["self", "other"]
theorem sc_Rules_eq : FnScope N_Rules_eq P_Rules_eq (defScope s_Rules_eq) := ⟨rfl, rfl, rfl, by decide +kernel, rfl, by decide +kernel, by decide +kernel⟩
abbrev N_Rules_str : List Str := ["self"]
abbrev P_Rules_str : List Str := ["self"]
theorem sc_Rules_str : FnScope N_Rules_str P_Rules_str (defScope s_Rules_str) := ⟨rfl, rfl, rfl, by decide +kernel, rfl, by decide +kernel, by decide +kernel⟩
abbrev N_back : List Str := ["_law_book_here", "_law_line", "_law_mine"]
abbrev P_back : List Str := ["_law_book_here"]
theorem sc_back : FnScope N_back P_back (defScope s_back) := ⟨rfl, rfl, rfl, by decide +kernel, rfl, by decide +kernel, by decide +kernel⟩
abbrev N_right : List Str := ["_law_bag_here", "_law_bounds_here", "_law_book_here", "_law_other_here", "_law_mine", "_law_mate"]
abbrev P_right : List Str := ["_law_bag_here", "_law_bounds_here"]
theorem sc_right : FnScope N_right P_right (defScope s_right) := ⟨rfl, rfl, rfl, by decide +kernel, rfl, by decide +kernel, by decide +kernel⟩
abbrev N_longest_right : List Str := ["_law_tags_here", "_law_some", "_law_links_here", "_law_sign", "_law_tag_here", "_law_k"]
abbrev P_longest_right : List Str := []
theorem sc_longest_right : FnScope N_longest_right P_longest_right (defScope s_longest_right) := ⟨rfl, rfl, rfl, by decide +kernel, rfl, by decide +kernel, by decide +kernel⟩
structure Ds (K : PySem.W.Frag) (mg : Str → Option Value) where
  {f_is_integer : Addr} {fd_is_integer : FuncData} (D_is_integer : DefAt K mg "is_integer" s_is_integer P_is_integer f_is_integer fd_is_integer)
  {f_is_name : Addr} {fd_is_name : FuncData} (D_is_name : DefAt K mg "is_name" s_is_name P_is_name f_is_name fd_is_name)
  {f_common_divisor : Addr} {fd_common_divisor : FuncData} (D_common_divisor : DefAt K mg "common_divisor" s_common_divisor P_common_divisor f_common_divisor fd_common_divisor)
  {f_number_of : Addr} {fd_number_of : FuncData} (D_number_of : DefAt K mg "number_of" s_number_of P_number_of f_number_of fd_number_of)
  {f_fraction_of : Addr} {fd_fraction_of : FuncData} (D_fraction_of : DefAt K mg "fraction_of" s_fraction_of P_fraction_of f_fraction_of fd_fraction_of)
  {f_is_bound : Addr} {fd_is_bound : FuncData} (D_is_bound : DefAt K mg "is_bound" s_is_bound P_is_bound f_is_bound fd_is_bound)
  {f_is_needs : Addr} {fd_is_needs : FuncData} (D_is_needs : DefAt K mg "is_needs" s_is_needs P_is_needs f_is_needs fd_is_needs)
  {f_is_closing : Addr} {fd_is_closing : FuncData} (D_is_closing : DefAt K mg "is_closing" s_is_closing P_is_closing f_is_closing fd_is_closing)
  {f_sort_of : Addr} {fd_sort_of : FuncData} (D_sort_of : DefAt K mg "sort_of" s_sort_of P_sort_of f_sort_of fd_sort_of)
  {f_Kind_name : Addr} {fd_Kind_name : FuncData} (D_Kind_name : PropAt K (cA K "Kind") "name" "Kind.name" s_Kind_name P_Kind_name f_Kind_name fd_Kind_name)
  {f_Kind_talks : Addr} {fd_Kind_talks : FuncData} (D_Kind_talks : PropAt K (cA K "Kind") "talks" "Kind.talks" s_Kind_talks P_Kind_talks f_Kind_talks fd_Kind_talks)
  {f_Kind_needs : Addr} {fd_Kind_needs : FuncData} (D_Kind_needs : PropAt K (cA K "Kind") "needs" "Kind.needs" s_Kind_needs P_Kind_needs f_Kind_needs fd_Kind_needs)
  {f_Kind_closing : Addr} {fd_Kind_closing : FuncData} (D_Kind_closing : PropAt K (cA K "Kind") "closing" "Kind.closing" s_Kind_closing P_Kind_closing f_Kind_closing fd_Kind_closing)
  {f_Kind_ends : Addr} {fd_Kind_ends : FuncData} (D_Kind_ends : PropAt K (cA K "Kind") "ends" "Kind.ends" s_Kind_ends P_Kind_ends f_Kind_ends fd_Kind_ends)
  {f_Row_outer : Addr} {fd_Row_outer : FuncData} (D_Row_outer : PropAt K (cA K "Row") "outer" "Row.outer" s_Row_outer P_Row_outer f_Row_outer fd_Row_outer)
  {f_Row_inner : Addr} {fd_Row_inner : FuncData} (D_Row_inner : PropAt K (cA K "Row") "inner" "Row.inner" s_Row_inner P_Row_inner f_Row_inner fd_Row_inner)
  {f_Row_amount : Addr} {fd_Row_amount : FuncData} (D_Row_amount : PropAt K (cA K "Row") "amount" "Row.amount" s_Row_amount P_Row_amount f_Row_amount fd_Row_amount)
  {f_line_of_kind : Addr} {fd_line_of_kind : FuncData} (D_line_of_kind : DefAt K mg "line_of_kind" s_line_of_kind P_line_of_kind f_line_of_kind fd_line_of_kind)
  {f_line_of_row : Addr} {fd_line_of_row : FuncData} (D_line_of_row : DefAt K mg "line_of_row" s_line_of_row P_line_of_row f_line_of_row fd_line_of_row)
  {f_after_number : Addr} {fd_after_number : FuncData} (D_after_number : DefAt K mg "after_number" s_after_number P_after_number f_after_number fd_after_number)
  {f_after_bound : Addr} {fd_after_bound : FuncData} (D_after_bound : DefAt K mg "after_bound" s_after_bound P_after_bound f_after_bound fd_after_bound)
  {f_Rules_kinds : Addr} {fd_Rules_kinds : FuncData} (D_Rules_kinds : PropAt K (cA K "Rules") "kinds" "Rules.kinds" s_Rules_kinds P_Rules_kinds f_Rules_kinds fd_Rules_kinds)
  {f_Rules_rows : Addr} {fd_Rules_rows : FuncData} (D_Rules_rows : PropAt K (cA K "Rules") "rows" "Rules.rows" s_Rules_rows P_Rules_rows f_Rules_rows fd_Rules_rows)
  {f_check_kinds : Addr} {fd_check_kinds : FuncData} (D_check_kinds : DefAt K mg "check_kinds" s_check_kinds P_check_kinds f_check_kinds fd_check_kinds)
  {f_check_rows : Addr} {fd_check_rows : FuncData} (D_check_rows : DefAt K mg "check_rows" s_check_rows P_check_rows f_check_rows fd_check_rows)
  {f_Kind_init : Addr} {fd_Kind_init : FuncData} (D_Kind_init : InitAtK K (cA K "Kind") "Kind.__init__" s_Kind_init [("talks", .int 0), ("needs", .int 1), ("closing", .non), ("ends", .non)] f_Kind_init fd_Kind_init)
  {f_Row_init : Addr} {fd_Row_init : FuncData} (D_Row_init : InitAt K (cA K "Row") "Row.__init__" s_Row_init P_Row_init f_Row_init fd_Row_init)
  {ta_Rules_init f_Rules_init : Addr} {fd_Rules_init : FuncData} (D_Rules_init : InitAtR K (cA K "Rules") "Rules.__init__" s_Rules_init P_Rules_init ta_Rules_init f_Rules_init fd_Rules_init)
  {f_read_kind : Addr} {fd_read_kind : FuncData} (D_read_kind : DefAt K mg "read_kind" s_read_kind P_read_kind f_read_kind fd_read_kind)
  {f_read_row : Addr} {fd_read_row : FuncData} (D_read_row : DefAt K mg "read_row" s_read_row P_read_row f_read_row fd_read_row)
  {f_Rules_read : Addr} {fd_Rules_read : FuncData} (D_Rules_read : CMetAt K (cA K "Rules") "read" "Rules.read" s_Rules_read P_Rules_read f_Rules_read fd_Rules_read)
  {f_take : Addr} {fd_take : FuncData} (D_take : DefAt K mg "_law_take" s_take P_take f_take fd_take)
  {f_common : Addr} {fd_common : FuncData} (D_common : DefAt K mg "_law_common" s_common P_common f_common fd_common)
  {f_bounds : Addr} {fd_bounds : FuncData} (D_bounds : DefAt K mg "_law_bounds" s_bounds P_bounds f_bounds fd_bounds)
  {f_tag : Addr} {fd_tag : FuncData} (D_tag : DefAt K mg "_law_tag" s_tag P_tag f_tag fd_tag)
  {f_tags : Addr} {fd_tags : FuncData} (D_tags : DefAt K mg "_law_tags" s_tags P_tags f_tags fd_tags)
  {f_kind : Addr} {fd_kind : FuncData} (D_kind : DefAt K mg "_law_kind" s_kind P_kind f_kind fd_kind)
  {f_amounts : Addr} {fd_amounts : FuncData} (D_amounts : DefAt K mg "_law_amounts" s_amounts P_amounts f_amounts fd_amounts)
  {f_links : Addr} {fd_links : FuncData} (D_links : DefAt K mg "_law_links" s_links P_links f_links fd_links)
  {f_book : Addr} {fd_book : FuncData} (D_book : DefAt K mg "_law_book" s_book P_book f_book fd_book)
  {f_kind_line : Addr} {fd_kind_line : FuncData} (D_kind_line : DefAt K mg "_law_kind_line" s_kind_line P_kind_line f_kind_line fd_kind_line)
  {f_lines : Addr} {fd_lines : FuncData} (D_lines : DefAt K mg "_law_lines" s_lines P_lines f_lines fd_lines)
  {f_rules : Addr} {fd_rules : FuncData} (D_rules : DefAt K mg "_law_rules" s_rules P_rules f_rules fd_rules)
  {f_seen : Addr} {fd_seen : FuncData} (D_seen : DefAt K mg "_law_seen" s_seen P_seen f_seen fd_seen)
  {f_other : Addr} {fd_other : FuncData} (D_other : DefAt K mg "_law_other" s_other P_other f_other fd_other)
  {f_Rules_eq : Addr} {fd_Rules_eq : FuncData} (D_Rules_eq : MethAt K (cA K "Rules") "__eq__" "Rules.__eq__" s_Rules_eq P_Rules_eq f_Rules_eq fd_Rules_eq)
  {f_Rules_str : Addr} {fd_Rules_str : FuncData} (D_Rules_str : MethAt K (cA K "Rules") "__str__" "Rules.__str__" s_Rules_str P_Rules_str f_Rules_str fd_Rules_str)
  {f_back : Addr} {fd_back : FuncData} (D_back : DefAt K mg "_law_back" s_back P_back f_back fd_back)
  {f_right : Addr} {fd_right : FuncData} (D_right : DefAt K mg "_law_right" s_right P_right f_right fd_right)
  {f_longest_right : Addr} {fd_longest_right : FuncData} (D_longest_right : DefAt K mg "_law_longest_right" s_longest_right P_longest_right f_longest_right fd_longest_right)
end L
namespace L
open PySem L2 Hv
variable {K : PySem.W.Frag}
def kwsK : List (Str × V) := [("talks", .int 0), ("needs", .int 1), ("closing", .non), ("ends", .non)]
abbrev FunK (K : PySem.W.Frag) (f : Addr) (fd : FuncData) : Prop := FunD K "__init__" "Kind.__init__" (defArgs s_Kind_init) (defBody s_Kind_init) (defScope s_Kind_init) [] kwsK f fd
end L
namespace Hv
open PySem PySem.Spec PyProof.Rows L2
/-- what may be tracked where the law begins -/
def Kept (K : PySem.W.Frag) (a : Addr) (cs : List (Addr × Addr)) (H : Hp) : Prop := ∀ b u, H b = some u → K.lookup b = none ∧ ((b ∈ cs.map (·.2) ∧ u = .tbl #[]) ∨ (b = a ∧ ∃ o xs, u = .frz o (.lst xs)))
theorem call_lawT {P : Program} {w : World} {K : PySem.W.Frag} {mg mb : Str → Option Value} {k : Nat} {fa a : Addr} {cs : List (Addr × Addr)} {fd : FuncData} {x : Str} {sp : Sp} {s : Shared} {vs : List Value} {ns : List Int}
    (KX : K.In s.heap) (gl : s.heap.Ns mainGlobals mg) (bl : s.heap.Ns builtinsNs mb) (hbb : ∀ x : Str, x ≠ "__name__" → mb x = bootBuiltins x) (lim : s.heap.NoLimit) (gens : s.gens = #[])
    (hT : ∀ p ∈ cs, s.heap.get? p.2 = some tab0) (nT : ∀ p ∈ cs, K.lookup p.2 = none) (cT : ∀ p ∈ cs, PySem.W.CodeHd s.heap p.1 p.2)
    (hbm : ∃ (bm : Addr) (ob : Obj), mg "__builtins__" = some (.ref bm) ∧ bm ≠ builtinsNs ∧ s.heap.get? bm = some ob ∧ ob.cls = .type "module" ∧ ob.dict = some builtinsNs ∧ ob.data = .plain)
    (ha : s.heap.get? a = some { cls := .type "list", data := .seq vs.toArray }) (hi : IntsAre vs ns) (hl : ns.length ≤ sizeLine) (hr : Room k callerA)
    (F : ∀ base : Heap, K.In base → base.Ns mainGlobals mg → (∀ p ∈ cs, LamX.TabB base mg p.1 p.2) → OkG P w K mg base CX0 k fa fd [x] sp) (bind : ∀ (s : Shared) (u : Value), BindsTo s fd ⟨[u], []⟩ [(x, u)])
    (hsp : ∀ H : Hp, (∀ p ∈ cs, H p.2 = some (.tbl #[])) → SqL K H a (ns.map V.int) → sp [.ref a] H (fun v _ => v = .bl true) fun _ _ _ => False) :
    codeAny (model P w) callerA (.call (.ref fa) ⟨[.ref a], []⟩) (fun r s' => r = .ok (.ret (.bool true)) ∧ OldK s.heap s'.heap ∧ s'.os = s.os ∧ AllBare s'.gens) s := by
  have rv := vals_ints hi
  have lenV := hi.length
  have isT : ∀ b ∈ cs.map (·.2), s.heap.get? b = some tab0 := fun b hb => by
    obtain ⟨p, hp, rfl⟩ := List.mem_map.mp hb
    exact hT p hp
  have isK : ∀ b ∈ cs.map (·.2), K.lookup b = none := fun b hb => by
    obtain ⟨p, hp, rfl⟩ := List.mem_map.mp hb
    exact nT p hp
  have inT : ∀ p ∈ cs, p.2 ∈ cs.map (·.2) := fun p hp => List.mem_map.mpr ⟨p, hp, rfl⟩
  have apart : a ∉ cs.map (·.2) := fun z => by
    have q := isT a z
    rw [ha] at q
    cases q
  have core : ∀ H : Hp, Kept K a cs H → (∀ p ∈ cs, H p.2 = some (.tbl #[])) → SqL K H a (ns.map V.int) → HOk P w H s.heap →
      codeAny (model P w) callerA (.call (.ref fa) ⟨[.ref a], []⟩) (fun r s' => r = .ok (.ret (.bool true)) ∧ OldK s.heap s'.heap ∧ s'.os = s.os ∧ AllBare s'.gens) s := by
    intro H kept hC hS ok
    have out : ∀ {b : Addr} {o : Obj}, s.heap.get? b = some o → (∀ vs n, o.data ≠ .seq vs n) → o.data ≠ .fields #[] → H b = none := by
      intro b o e n2 n3
      cases q : H b with
      | none => rfl
      | some u =>
        rcases (kept b u q).2 with ⟨z, _⟩ | ⟨rfl, _⟩
        · rw [isT b z] at e
          cases e
          exact absurd rfl n3
        · rw [ha] at e
          cases e
          exact absurd rfl (n2 _ _)
    have nsOut : ∀ {b : Addr} {m : Str → Option Value}, s.heap.Ns b m → (hidT s.heap H).Ns b m := by
      rintro b m ⟨o, es, ep, e, d, r⟩
      exact ⟨o, es, ep, hidT_get e (out e (fun _ _ z => by rw [d] at z; cases z) fun z => by rw [d] at z; cases z), d, r⟩
    have hKb : K.In (hidT s.heap H) := fun b o e => hidT_get (KX b o e) (by
      cases q : H b with
      | none => rfl
      | some u => rw [(kept b u q).1] at e; cases e)
    have hM : Mod K mg (hidT s.heap H) := by
      obtain ⟨mc, h1, h2⟩ := lim
      exact ⟨hKb, nsOut gl, ⟨mb, nsOut bl, hbb⟩, ⟨mc, nsOut h1, h2⟩⟩
    have TB : ∀ p ∈ cs, LamX.TabB (hidT s.heap H) mg p.1 p.2 := by
      intro p hp
      have e := hT p hp
      refine ⟨?_, ?_, ?_⟩
      · obtain ⟨o, us, file, tf, flags, tg, inF, text, tt, e1, r1, r2, r3, r4⟩ := cT p hp
        refine ⟨o, us, file, tf, flags, tg, inF, text, tt, hidT_get e1 (out e1 (fun _ _ z => by rw [r2] at z; cases z) fun z => ?_), r1, r2, r3, r4⟩
        rw [r2] at z
        cases z
        simp at r3
      · obtain ⟨bm, ob, b1, b2, b3, b4, b5, b6⟩ := hbm
        refine ⟨bm, ob, b1, b2, ?_, ?_, hidT_get b3 (out b3 (fun _ _ z => by rw [b6] at z; cases z) fun z => by rw [b6] at z; cases z), b4, b5, b6⟩
        · rintro rfl
          obtain ⟨o, es, ep, e', hd, _⟩ := gl
          rw [e'] at b3
          cases b3
          rw [hd] at b6
          cases b6
        · rintro rfl
          rw [e] at b3
          cases b3
          cases b6
      · intro z
        obtain ⟨o, es, ep, e', hd, _⟩ := gl
        rw [z, e] at e'
        cases e'
        cases hd
    have e0 : Env0 P w K mg (hidT s.heap H) callerA [] s H := by
      refine ⟨rfl, hM, fun b o e => of_hidT e, Nat.le_of_eq (hidT_size _ _), trivial, ?_, ok, .of_eq gens⟩
      intro b hb
      cases (show b ∈ ([] : List Addr) from hb)
    have go := (F _ hKb (nsOut gl) TB).run callerA [] s H ⟨[.ref a], []⟩ [.ref a] [.ref a] (fun v _ => v = .bl true) (fun _ _ _ => False) rfl hr e0 (bind s (.ref a)) (.cons rfl .nil) (hsp H hC hS)
    refine codeAny_mono go ?_
    intro r s' h
    match r, h with
    | .error e, h => exact (show False from h).elim
    | .ok .next, h => exact h.elim
    | .ok .brk, h => exact h.elim
    | .ok .cont, h => exact h.elim
    | .ok (.ret u), h =>
      obtain ⟨v, H', os, bare, un, ok', r', q⟩ := h
      cases (show v = .bl true from q)
      cases (show u = Value.bool true from r')
      have keep : ∀ b o, b ∉ cs.map (·.2) → s.heap.get? b = some o → s'.heap.get? b = some o := by
        intro b o nb e
        cases q : H b with
        | none => exact un.keep b o e q (by intro z; cases z) (by intro z; cases z)
        | some u =>
          rcases (kept b u q).2 with ⟨z, _⟩ | ⟨_, ob, xs, rfl⟩
          · exact absurd z nb
          · have k1 := (ok b _ q).1
            have k2 := (ok' b _ (un.frzs b ob _ q)).1
            rw [e] at k1
            cases k1
            exact k2
      have grown : ∀ p ∈ cs, ∃ more : Array Value, s'.heap.get? p.2 = some { cls := .none, data := .fields more } := by
        intro p hp
        obtain ⟨more, z⟩ := un.tbls p.2 #[] (hC p hp)
        exact ⟨_, ok' p.2 _ z⟩
      refine ⟨rfl, ⟨fun b o e => ?_, fun b o e => ?_⟩, os, bare⟩
      · by_cases hb : b ∈ cs.map (·.2)
        · obtain ⟨p, hp, rfl⟩ := List.mem_map.mp hb
          obtain ⟨more, hm⟩ := grown p hp
          rw [hT p hp] at e
          cases e
          refine .inr (.inl ⟨((cT p hp).tab (hT p hp)).isCodeTable, rfl, #[], more, rfl, ?_⟩)
          rw [Array.empty_append]
          exact hm
        · exact .inl (keep b o hb e)
      · by_cases hb : b ∈ cs.map (·.2)
        · obtain ⟨p, hp, rfl⟩ := List.mem_map.mp hb
          obtain ⟨more, hm⟩ := grown p hp
          exact ⟨_, hm⟩
        · exact ⟨o, keep b o hb e⟩
  let T0 : Hp := fun b => if b ∈ cs.map (·.2) then some (.tbl #[]) else none
  have t0 : ∀ b u, T0 b = some u → b ∈ cs.map (·.2) ∧ u = .tbl #[] := fun b u z => by
    by_cases hb : b ∈ cs.map (·.2)
    · exact ⟨hb, (Option.some.inj ((if_pos hb).symm.trans z)).symm⟩
    · have := (if_neg hb).symm.trans z
      cases this
  by_cases hk : K.lookup a = none
  · refine core (upd T0 a (.frz { cls := .type "list", data := .seq vs.toArray } (.lst (ns.map V.int)))) ?_ ?_ (.inl (.inr ⟨_, upd_same⟩)) ?_
    · intro b u z
      by_cases hb : b = a
      · subst hb
        rw [upd_same] at z
        cases z
        exact ⟨hk, .inr ⟨rfl, _, _, rfl⟩⟩
      · rw [upd_ne hb] at z
        obtain ⟨h1, h2⟩ := t0 b u z
        exact ⟨isK b h1, .inl ⟨h1, h2⟩⟩
    · intro p hp
      rw [upd_ne (fun z => apart (by rw [← z]; exact inT p hp))]
      exact if_pos (inT p hp)
    · intro b u z
      by_cases hb : b = a
      · subst hb
        rw [upd_same] at z
        cases z
        exact ⟨ha, by rw [List.length_map]; exact hl, vs, _, rv, ha⟩
      · rw [upd_ne hb] at z
        obtain ⟨h1, rfl⟩ := t0 b u z
        exact isT b h1
  · obtain ⟨o, ho⟩ := Option.ne_none_iff_exists'.mp hk
    have e := KX a o ho
    rw [ha] at e
    cases e
    refine core T0 (fun b u z => ⟨isK b (t0 b u z).1, .inl (t0 b u z)⟩) (fun p hp => if_pos (inT p hp)) (.inr ⟨_, vs.toArray, _, ho, rfl, rfl, rfl, ?_, ?_⟩) ?_
    · rw [List.size_toArray, lenV]
      exact hl
    · simpa using rv
    · intro b u z
      obtain ⟨h1, rfl⟩ := t0 b u z
      exact isT b h1
/-- what the top has left of a def that makes lambdas -/
def TabIn (K : PySem.W.Frag) (x : Str) (c P : Addr) : Prop := ∃ (f : Addr) (o : Obj) (fd : FuncData) (e : Value) (dd : Option Addr) (vs : Array Value) (sl : Array (Option Value)), PySem.W.nsIn K mainGlobals x = some (some (.ref f)) ∧ K.lookup f = some o ∧ o.data = .func fd ∧ fd.code = .ref c ∧
  K.lookup c = some ⟨e, dd, .fields vs, sl⟩ ∧ vs[11]? = some (.ref P) ∧ K.lookup P = none
theorem TabIn.at {K : PySem.W.Frag} {x : Str} {c P : Addr} {q : Program} {loose : List Str} {mean : ExcName → Option Value} {mg mb : Str → Option Value} {h : Heap} (t : TabIn K x c P) (X : K.In h) (T : Top q loose mean mg mb h) (hrec : ((recsOf q).any fun e => e.name == x) = true) :
    h.get? P = some tab0 ∧ PySem.W.CodeHd h c P := by
  obtain ⟨f, o, fd, e, dd, vs, sl, k1, k2, k3, k4, k5, k6, _⟩ := t
  obtain ⟨d, hm, hn⟩ := List.any_eq_true.mp hrec
  obtain ⟨a', o', fd', c', P', h1, h2, h3, h4, h5, h6⟩ := T.tab d hm
  rw [beq_iff_eq.mp hn, PySem.W.mg_of X T.g k1] at h1
  cases h1
  have g1 := X _ _ k2
  rw [g1] at h2
  cases h2
  rw [k3] at h3
  cases h3
  rw [k4] at h4
  cases h4
  have hh := PySem.W.CodeHd.of h5 h6
  obtain ⟨⟨oc, vc, e1, _, e3, e4⟩, hP⟩ := h6
  have g2 := X _ _ k5
  rw [g2] at e1
  cases e1
  cases e3
  rw [k6] at e4
  cases e4
  exact ⟨hP, hh⟩
/-- the law's promise, with the tables cs of the defs xs -/
def LawT (l : PySem.W.OpenLaw) (w : World) (K : PySem.W.Frag) (k n : Nat) (x : Str) (mg : Str → Option Value) (fa : Addr) (xs : List Str) : Prop :=
  ∃ (fd : FuncData) (cs : List (Addr × Addr)) (sp : Sp), (∀ p ∈ cs, ∃ y ∈ xs, TabIn K y p.1 p.2) ∧ (∀ (s : Shared) (u : Value), BindsTo s fd ⟨[u], []⟩ [(x, u)]) ∧
    (∀ (H : Hp) (a : Addr) (ns : List Int), ns.length ≤ n → (∀ z ∈ ns, Builtin.Int.intBits z ≤ 1048576) → (∀ p ∈ cs, H p.2 = some (.tbl #[])) → SqL K H a (ns.map V.int) → sp [.ref a] H (fun v _ => v = .bl true) fun _ _ _ => False) ∧
    ∀ base : Heap, K.In base → base.Ns mainGlobals mg → (∀ p ∈ cs, LamX.TabB base mg p.1 p.2) → OkG l.prog w K mg base CX0 k fa fd [x] sp
end Hv
namespace Hv
open PySem PySem.Spec PyProof.Rows L2
section
variable {fb : List Fb} {fn : List DefQ} {tf : List Str} {h : Heap} {K : PySem.W.Frag}
theorem defIn_of {x : Str} {st : Stmt} (h : DefO K (defG x st)) (hg : PySem.W.nsIn K mainGlobals x = some (some (.ref (He.ga K x)))) : DefIn K x st := by
  obtain ⟨oc, od, dV, kV, doc, pm, an, cd, ct, sl, h1, h2, h3, h4⟩ := h
  cases dfl_none h3
  exact ⟨_, oc, od, kV, doc, pm, an, cd, ct, sl, hg, h1, h2, h4⟩
theorem methIn_of {K : PySem.W.Frag} {C m q : Str} {st : Stmt} (h : methB C m K = true) (d : DefO K (defM C m q st)) : MethIn K (He.ga K C) m q st := by
  unfold methB at h
  simp only [Bool.and_eq_true, decide_eq_true_eq] at h
  obtain ⟨oc, od, dV, kV, doc, pm, an, cd, ct, sl, d1, d2, d3, d4⟩ := d
  cases dfl_none d3
  exact ⟨_, oc, od, kV, doc, pm, an, cd, ct, sl, h.1, h.2, d1, d2, d4⟩
theorem propIn_of {K : PySem.W.Frag} {C m q : Str} {st : Stmt} (h : propB C m K = true) (d : DefO K (defP C m q st)) : PropIn K (He.ga K C) m q st := by
  unfold propB at h
  simp only [Bool.and_eq_true, decide_eq_true_eq] at h
  obtain ⟨h1, h2, h3, h4⟩ := h
  obtain ⟨oc, od, dV, kV, doc, pm, an, cd, ct, sl, d1, d2, d3, d4⟩ := d
  cases dfl_none d3
  split at h4
  · rename_i g rest e
    have eg : pg C m K = g := by
      unfold pg
      rw [e]
    rw [show (defP C m q st).at_ K = g from eg] at d1 d4
    exact ⟨g, oc, od, kV, doc, pm, an, cd, ct, sl, ⟨_, h1, h2, h3, rest, e⟩, d1, d2, d4⟩
  · cases h4
end
/-! ### the end -/
theorem walkTE {l : PySem.W.OpenLaw} {n k : Nat} {q : Program} {loose : List Str} {XP : (Str → Option Value) → Heap → Prop} {YP : World → Heap → Prop} {d : DefRec} {x : Str} {fb : List Fb} {fn : List DefQ} (xs : List Str)
    (hn : l.most = some n) (hn2 : n ≤ sizeLine) (hdf : d.params.defaults = []) (hr : Room k callerA) (hY : ∀ (w : World) (h : Heap), YP w h → ∃ K, Says fb fn xs h K)
    (F : ∀ (w : World) (mg : Str → Option Value) (fa : Addr) (h : Heap) (K : PySem.W.Frag), Says fb fn xs h K → h.Ns mainGlobals mg → mg d.name = some (.ref fa) → LawT l w K k n x mg fa xs) :
    PySem.W.WalkO q loose XP YP l.row.toRowW d [] (fun f vs => PySem.call f vs) := by
  refine Att.attach_callB hn hdf ?_
  intro w s₀ s₁ mg mb fa o pm cd doc a vs ns G Y ho hd hcd hmg hobj hints hlen hbits hg
  obtain ⟨K, c⟩ := hY w _ Y
  have X := c.kin
  obtain ⟨fd, cs, sp, ht, hb, hsp, hF⟩ := F w mg fa _ K c G.T.g hmg
  have key : ∀ p ∈ cs, ∃ y ∈ xs, p = He.cT K (y, none) := fun p hp => by
    obtain ⟨y, hy, f, o, fd, e, dd, us, sl, k1, k2, k3, k4, k5, k6, _⟩ := ht p hp
    refine ⟨y, hy, ?_⟩
    have eg : He.fAd K (y, none) = f := by
      show He.ga K y = f
      unfold He.ga
      rw [k1]
    obtain ⟨oc, od, dt, osl⟩ := o
    cases k3
    have e1 : He.codeOf K (y, none) = p.1 := He.codeOf_eq (by rw [eg]; exact k2) k4
    have e2 : He.tabOf K p.1 = p.2 := by
      unfold He.tabOf
      rw [k5]
      show (match us.getD 11 .none with | .ref P => P | _ => 0) = p.2
      rw [Array.getD_eq_getD_getElem?, k6]
      rfl
    unfold He.cT
    rw [e1, e2]
  refine call_lawT X G.T.g G.T.b G.T.builtins G.T.nolimit hg (fun p hp => ?_) (fun p hp => ?_) (fun p hp => ?_) G.T.bmain hobj hints (Nat.le_trans hlen hn2) hr hF hb fun H hC hS => hsp H a ns hlen hbits hC hS
  · obtain ⟨y, hy, rfl⟩ := key p hp
    exact c.em y hy
  · obtain ⟨y, hy, rfl⟩ := key p hp
    exact c.no y hy
  · obtain ⟨y, hy, rfl⟩ := key p hp
    exact PySem.W.codeHd_of_K X (c.hd y hy)
end Hv
namespace L
open PySem L2 Hv
/-- Kind.__init__ as the top has left it -/
def KindInitIn (K : PySem.W.Frag) (C : Addr) : Prop := ∃ (f : Addr) (fd : FuncData), FunK K f fd ∧ PySem.W.findIn K (.ref C) "__init__" = some (some (.ref f)) ∧ PySem.W.isFn K (.ref f) = true
theorem isInt_ok {i : Int} {o : Option (Option Value)} (h : isInt i o = true) : ∃ v, o = some (some v) ∧ ∃ t, v = .int i t := by
  unfold isInt at h
  split at h
  · cases of_decide_eq_true h
    exact ⟨_, rfl, _, rfl⟩
  · cases h
theorem isNone_ok {o : Option (Option Value)} (h : isNone o = true) : o = some (some .none) := by
  unfold isNone at h
  split at h
  · rfl
  · cases h
theorem kindInit_of {K : PySem.W.Frag} (h : Hv.methB "Kind" "__init__" K = true) (kw : kindKwB K = true) (d : Hv.DefO K (Hv.defM "Kind" "__init__" "Kind.__init__" s_Kind_init)) : KindInitIn K (He.ga K "Kind") := by
  unfold Hv.methB at h
  simp only [Bool.and_eq_true, decide_eq_true_eq] at h
  obtain ⟨oc, od, dV, kV, doc, pm, an, cd, ct, sl, d1, d2, d3, d4⟩ := d
  cases Hv.dfl_none d3
  unfold kindKwB at kw
  rw [show K.lookup (He.ma K (He.ga K "Kind") "__init__") = _ from d1] at kw
  cases kV with
  | ref DD =>
    have kw : (isInt 0 (PySem.W.nsIn K DD "talks") && (isInt 1 (PySem.W.nsIn K DD "needs") && (isNone (PySem.W.nsIn K DD "closing") && isNone (PySem.W.nsIn K DD "ends")))) = true := kw
    simp only [Bool.and_eq_true] at kw
    obtain ⟨k1, k2, k3, k4⟩ := kw
    obtain ⟨u1, n1, r1⟩ := isInt_ok k1
    obtain ⟨u2, n2, r2⟩ := isInt_ok k2
    have n3 := isNone_ok k3
    have n4 := isNone_ok k4
    refine ⟨_, _, ⟨⟨oc, od, .none, .ref DD, doc, pm, an, cd, ct, sl, rfl, d1, d2, .inl ⟨rfl, rfl⟩, .inr ⟨DD, rfl, ?_⟩⟩, d4⟩, h.1, h.2⟩
    intro q hq
    simp only [kwsK, List.mem_cons, List.not_mem_nil, or_false] at hq
    rcases hq with rfl | rfl | rfl | rfl
    · exact ⟨u1, n1, r1⟩
    · exact ⟨u2, n2, r2⟩
    · exact ⟨.none, n3, rfl⟩
    · exact ⟨.none, n4, rfl⟩
  | _ => exact absurd kw (by intro z; cases z)
end L
namespace Ev
open PySem L2 Hv SlX
set_option autoImplicit false
variable {K : PySem.W.Frag}
/-! ### a class with a dict -/
structure ClsF (K : PySem.W.Frag) (c : Str) : Prop where
  ns : PySem.W.nsIn K mainGlobals c = some (some (.ref (cA K c)))
  cl : Cls K (cA K c)
  kp : PySem.W.keepIn K (.ref (cA K c)) = true
  ms : PySem.W.makesIn K (cA K c) = true
theorem cls_of {c : Str} (h : clsB c K = true) : ClsF K c := by
  unfold clsB at h
  simp only [Bool.and_eq_true, decide_eq_true_eq] at h
  obtain ⟨h1, h2, h3, h4, h5, h6, h7⟩ := h
  exact ⟨h1, ⟨h2, h3, h4, h5⟩, h6, h7⟩
theorem is_of {c : Str} (h : isB c K = true) (f : ClsF K c) : ∀ (H : Hp) (a dx : Addr) (fs : List (Str × V)), H a = some (.ins (cA K c) dx fs) → TyX K H (.ref a) (.ref (cA K c)) ∧ PySem.W.kitOne K (.ref (cA K c)) (.ref (cA K c)) = some true := fun H a dx fs e => by
  unfold isB at h
  simp only [Bool.and_eq_true, decide_eq_true_eq] at h
  obtain ⟨h1, h2, h3, h4, h5⟩ := h
  exact ⟨.base (.ins e f.cl h1 h2 h3 h4), h5⟩
theorem na_of {c x : Str} (h : naB c x K = true) : NoAttr K (cA K c) x := by
  unfold naB at h
  rw [decide_eq_true_eq] at h
  exact h
/-! ### Length -/
/-! ### defs with a default -/
/-! ### an __init__ with one default, an empty tuple -/
theorem kt_of {c : Str} (h : ktB c K = true) : KEmp K (rowsTa c K) := by
  unfold ktB at h
  split at h
  · rename_i n dd its m sl e
    simp only [Bool.and_eq_true, beq_iff_eq] at h
    obtain ⟨rfl, h2⟩ := h
    refine ⟨_, its, m, e, rfl, rfl, by rw [h2]; exact Nat.zero_le _, ?_⟩
    have : its = #[] := Array.eq_empty_of_size_eq_zero h2
    subst this
    exact .nil
  · cases h
theorem initR_of {c q : Str} {st : Stmt} {ps : List Str} (h : Hv.methB c "__init__" K = true) (kt : ktB c K = true) (cf : ClsF K c) (d : Hv.DefO K (defR c q st))
    (hb : ∀ f fd, FunD K "__init__" q (defArgs st) (defBody st) (defScope st) [.ref (rowsTa c K)] [] f fd → Binds K fd ps [] ∧ Binds K fd ps [.ref (rowsTa c K)]) : ∃ ta f fd, InitAtR K (cA K c) q st ps ta f fd := by
  unfold Hv.methB at h
  simp only [Bool.and_eq_true, decide_eq_true_eq] at h
  obtain ⟨oc, od, dV, kV, doc, pm, an, cd, ct, sl, d1, d2, d3, d4⟩ := d
  have F : FunD K "__init__" q (defArgs st) (defBody st) (defScope st) [.ref (rowsTa c K)] [] (He.ma K (He.ga K c) "__init__") _ := ⟨⟨oc, od, dV, kV, doc, pm, an, cd, ct, sl, rfl, d1, d2, d3, .inl rfl⟩, d4⟩
  obtain ⟨b1, b2⟩ := hb _ _ F
  exact ⟨_, _, _, F, ⟨cf.ms, h.1, h.2, cf.kp⟩, b1, b2, kt_of kt⟩
theorem init_of {c q : Str} {st : Stmt} {ps : List Str} (mk : PySem.W.makesIn K (cA K c) = true) (kp : PySem.W.keepIn K (.ref (cA K c)) = true) (m : ∃ f fd, MethAt K (He.ga K c) "__init__" q st ps f fd) : ∃ f fd, InitAt K (cA K c) q st ps f fd := by
  obtain ⟨f, fd, m⟩ := m
  exact ⟨f, fd, m.fn, ⟨mk, m.at_, m.isf, kp⟩, m.bd⟩
/-! ### a classmethod -/
theorem cmeth_of {c m q : Str} {st : Stmt} {ps : List Str} (h : cmB c m K = true) (h2 : cmB2 c K = true) (d : Hv.DefO K (defCM c m q st)) (hb : ∀ f fd, Fun K m q st f fd → Binds K fd ps []) : ∃ f fd, CMetAt K (cA K c) m q st ps f fd := by
  unfold cmB at h
  unfold cmB2 at h2
  simp only [Bool.and_eq_true, decide_eq_true_eq] at h h2
  obtain ⟨oc, od, dV, kV, doc, pm, an, cd, ct, sl, d1, d2, d3, d4⟩ := d
  cases Hv.dfl_none d3
  have F := fun_mk (st := st) d1 d2 d4
  exact ⟨_, _, F, ⟨_, He5.cmet_of h.1 h.2⟩, ⟨h2.1, h2.2⟩, hb _ _ F⟩
end Ev
namespace Ev
open PySem L2 Hv
set_option autoImplicit false
theorem eqf_of {K : PySem.W.Frag} {c : Str} (h1 : eqfB1 c K = true) (h2 : eqfB2 c K = true) (h3 : eqfB3 c K = true) : EqF K (He.ga K c) := by
  unfold eqfB1 at h1
  unfold eqfB2 at h2
  unfold eqfB3 at h3
  simp only [Bool.and_eq_true, decide_eq_true_iff] at h1 h2 h3
  obtain ⟨a1, a2, a3⟩ := h1
  obtain ⟨b1, b2, b3, b4, b5, b6⟩ := h2
  obtain ⟨c1, c2, c3, c4, c5, c6⟩ := h3
  exact ⟨a1, a2, ⟨b1, b2, b3, b4, b5, b6⟩, c1, c2, c3, c4, c5, c6, a3⟩
end Ev
namespace Ev
open PySem L2 Hv L
set_option autoImplicit false
theorem kindK_of {K : PySem.W.Frag} (h : Hv.methB "Kind" "__init__" K = true) (kw : L.kindKwB K = true) (cf : ClsF K "Kind") (d : Hv.DefO K (Hv.defM "Kind" "__init__" "Kind.__init__" L.s_Kind_init)) : ∃ f fd, InitAtK K (cA K "Kind") "Kind.__init__" L.s_Kind_init [("talks", .int 0), ("needs", .int 1), ("closing", .non), ("ends", .non)] f fd := by
  obtain ⟨f, fd, F, a, i⟩ := L.kindInit_of h kw d
  exact ⟨f, fd, F, ⟨cf.ms, a, i, cf.kp⟩⟩
end Ev
namespace L
open PySem L2 Hv Ev
variable {P : Program} {w : World} {K : PySem.W.Frag} {mg : Str → Option Value} {base : Heap}
noncomputable def fn_is_integer (v_value : D) : Option (Bool) :=
  ((isTy v_value "int").bind fun r1 =>
     ((if r1 = true then ((isTy v_value "bool").bind fun r3 => some (!r3)) else some false).bind fun r4 =>
     some r4))
def pre_is_integer : List Ar → D → Prop := fun xs y => ∃ (v_value : D) (r : Bool), xs = [.k (toD v_value)] ∧ fn_is_integer v_value = some r ∧ y = toD r
theorem ok_is_integer (M : Ds K mg) (T : Txt K mg) : FnOk P w K mg base CX0 1 M.f_is_integer M.fd_is_integer P_is_integer (spE K pre_is_integer) := by
  refine M.D_is_integer.fn.ok sc_is_integer (fun vs H Q E h => ?_) (fun cdv A outer s H vs Q E hr h => ?_)
  · obtain ⟨F, xs, y, _, ar, pr, _⟩ := h
    obtain ⟨v_value, r, rfl, _⟩ := pr
    exact ar.len
  · obtain ⟨F, xs, y, sF, ar, pr, ret⟩ := h
    obtain ⟨v_value, r, rfl, hf, rfl⟩ := pr
    refine ⟨_, (pss_cons (ps_ret (pe_and (pe_callB (show CallR _ (.builtin "isinstance") (rIsi K) from call_isi) (by rfl) T.isinstance (by decide +kernel) (pa_cons (pv 0) (pa_cons (pe_bltn (v := .ty "int") (u := .type "int") (by rfl) T.int (by decide +kernel) rfl) pa_nil))) (pe_one (pe_not (pe_callB (show CallR _ (.builtin "isinstance") (rIsi K) from call_isi) (by rfl) T.isinstance (by decide +kernel) (pa_cons (pv 0) (pa_cons (pe_bltn (v := .ty "bool") (u := .type "bool") (by rfl) T.bool (by decide +kernel) rfl) pa_nil)))))))
     pss_nil), ?_⟩
    unfold fn_is_integer at hf
    refine run_rt (Kn := fun y => .rt (toD y) []) sF ar ret ?_ hf rfl
    exact (bnd fun r1 hr1 =>
     (bnd fun r4 hr4 =>
     (one (es_ret (EvE.cast (y := toD r4) (ev_andM hr4 (ev_isiD (ev_var rfl) hr1 kit_int) fun b2 => (fun _ e0 => by obtain ⟨r3, hr3, e0⟩ := bind_some e0; exact (by have e0 := Option.some.inj e0; subst e0; exact (ev_notV (ev_isiD (ev_var rfl) hr3 kit_bool))))) rfl) wok0))))
noncomputable def fn_is_name (v_value : Str) : Option (Bool) :=
  ((if (!true) = true then some true else (if Str.length v_value ≤ sizeLine then ((if (!((decide ((1 : Int) ≤ ((Str.length v_value : Nat) : Int))) && (decide (((Str.length v_value : Nat) : Int) ≤ (8 : Int))))) = true then some true else ((sgAt v_value (0 : Int)).bind fun r4 => some (!isSign r4 ("abcdefghijklmnopqrstuvwxyz" : Str)))).bind fun r5 => some r5) else none)).bind fun r6 =>
     (if r6 = true then
     some false else
     (if List.length (signs v_value) ≤ sizeLine then
     some (List.all (List.map (fun (x9 : Sg) => ((isSign x9 ("abcdefghijklmnopqrstuvwxyz" : Str)) || (isSign x9 ("0123456789" : Str)))) (signs v_value)) id) else none)))
def pre_is_name : List Ar → D → Prop := fun xs y => ∃ (v_value : Str) (r : Bool), xs = [.k (toD v_value)] ∧ fn_is_name v_value = some r ∧ y = toD r
theorem ok_is_name (M : Ds K mg) (T : Txt K mg) : FnOk P w K mg base CX0 1 M.f_is_name M.fd_is_name P_is_name (spE K pre_is_name) := by
  refine M.D_is_name.fn.ok sc_is_name (fun vs H Q E h => ?_) (fun cdv A outer s H vs Q E hr h => ?_)
  · obtain ⟨F, xs, y, _, ar, pr, _⟩ := h
    obtain ⟨v_value, r, rfl, _⟩ := pr
    exact ar.len
  · obtain ⟨F, xs, y, sF, ar, pr, ret⟩ := h
    obtain ⟨v_value, r, rfl, hf, rfl⟩ := pr
    refine ⟨_, (pss_cons (ps_if (PW.pt (pw_or (pt_not (pt_val (pe_callB (show CallR _ (.builtin "isinstance") (rIsi K) from call_isi) (by rfl) T.isinstance (by decide +kernel) (pa_cons (pv 0) (pa_cons (pe_bltn (v := .ty "str") (u := .type "str") (by rfl) T.str (by decide +kernel) rfl) pa_nil))))) (pw_or (pt_not (pt_chain op_le op_le pe_int (pe_callB call_len_str (by rfl) T.len (by decide +kernel) (pa_cons (pv 0) pa_nil)) pe_int)) (pw_or1 (pt_cmpR op_notIn_sign (pe_ix ix_str (pv 0) pe_int (fun _ _ => rfl)) (pe_glob (v := .str "abcdefghijklmnopqrstuvwxyz") rfl T.cLETTERS.choose_spec ⟨_, rfl⟩) (by rfl))))))
     (pss_cons (ps_ret pe_bl)
     pss_nil)
     pss_nil)
     (pss_cons (ps_ret (pe_callB (show CallR _ (.builtin "all") (rAll K) from cr_all rfl) (by rfl) T.all (by decide +kernel) (pa_cons (pe_lc (own := [("sign", 1)]) (g := gName 1) rfl sc_is_name.nd (pi_str (pv 0)) (blkOk_by (own := [("sign", 1)]) (N := N_is_name) (sc := defScope s_is_name) (by decide +kernel)) (fun _ _ _ _ _ => (pg_name (i := 1) sc_is_name.nd rfl (.inl rfl))) (fun _ _ _ _ _ => pts_nil) (fun _ _ _ _ _ => (pe_or (pe_cmpR op_in_sign (pv 1) (pe_glob (v := .str "abcdefghijklmnopqrstuvwxyz") rfl T.cLETTERS.choose_spec ⟨_, rfl⟩) (by rfl)) (pe_one (pe_cmpR op_in_sign (pv 1) (pe_glob (v := .str "0123456789") rfl T.cDIGITS.choose_spec ⟨_, rfl⟩) (by rfl)))))) pa_nil)))
     pss_nil)), ?_⟩
    unfold fn_is_name at hf
    refine run_rt (Kn := fun y => .rt (toD y) []) sF ar ret ?_ hf rfl
    exact (bnd fun r6 hr6 =>
     (es_ifq (Γ1 := [.d (toD v_value), .u]) (et_orM hr6 (et_not (et_b (ev_isi (n := "str") (ev_var rfl) rfl (kit_ty (by decide +kernel))))) fun b1 => (fun _ e0 => by obtain ⟨h2, e0⟩ := ite_some e0; exact (by obtain ⟨r5, hr5, e0⟩ := bind_some e0; exact (by have e0 := Option.some.inj e0; subst e0; exact (et_orM hr5 (et_not (et_test (ev_chain ev_int (ev_lenS (ev_var rfl) h2) rv_B0 ev_int rv_B0))) fun b3 => (fun _ e0 => by obtain ⟨r4, hr4, e0⟩ := bind_some e0; exact (by have e0 := Option.some.inj e0; subst e0; exact (et_test (ev_op (EvE.cast (y := toD r4) (ev_op (ev_var rfl) ev_int (rv_ixG (sgAt_ok hr4))) rfl) ev_str rv_notInG)))))))))
     (fun b7 => (es_assoc
     (one (es_ret (EvE.cast (y := toD false) ev_bl rfl) wok0))))
     (fun b7 => (es_skip
     (grd fun h8 =>
     (one (es_ret (EvE.cast (y := toD ((List.all (List.map (fun (x9 : Sg) => ((isSign x9 ("abcdefghijklmnopqrstuvwxyz" : Str)) || (isSign x9 ("0123456789" : Str)))) (signs v_value)) id) : Bool)) (ev_all (EvE.r (EvE.cast (y := toD ((List.map (fun (x9 : Sg) => ((isSign x9 ("abcdefghijklmnopqrstuvwxyz" : Str)) || (isSign x9 ("0123456789" : Str)))) (signs v_value)) : (List Bool))) (EvO.e (EvO.cast (y := toD ((List.map (fun (x9 : Sg) => ((isSign x9 ("abcdefghijklmnopqrstuvwxyz" : Str)) || (isSign x9 ("0123456789" : Str)))) (signs v_value)) : (List Bool))) (evo_lcP (fD := toD) (gD := toD) (c := (fun (x9 : Sg) => true)) (f := (fun (x9 : Sg) => ((isSign x9 ("abcdefghijklmnopqrstuvwxyz" : Str)) || (isSign x9 ("0123456789" : Str))))) (Γ2 := [.d (toD v_value), .u]) (G1 := fun (x9 : Sg) => [.d (toD v_value), .d (toD x9)]) h8 (ei_str (ev_var rfl)) (by repeat first | exact .nil | apply Wk.keep | apply Wk.drop) (off_of rfl) (fun _ x9 => (egw_name (by decide))) (fun _ x9 => et_yes) (fun _ x9 b11 => (EvE.cast (y := toD (((isSign x9 ("abcdefghijklmnopqrstuvwxyz" : Str)) || (isSign x9 ("0123456789" : Str))) : Bool)) (ev_orB (ev_op (ev_var rfl) ev_str rv_inG) fun b10 => (ev_op (ev_var rfl) ev_str rv_inG)) rfl)) (fun x9 => by repeat first | exact .nil | apply Wk.keep | apply Wk.drop)) (by rw [filter_true] <;> rfl))) rfl) (.lst _))) rfl) wok0)))))))
noncomputable def fn_common_divisor (v_one : Int) (v_other : Int) : Option (Int) :=
  ((whS (fun (s1 : Int × Int) => (some (decide ((0 : Int) < s1.2)) : Option Bool)) (fun (s1 : Int × Int) => ((if 0 < s1.2 then
     some (.go (s1.2, (s1.1 % s1.2))) else none) : Option (Lp (Empty) (Int × Int)))) (v_one, v_other)).bind fun (s1 : Int × Int) =>
     some s1.1)
def pre_common_divisor : List Ar → D → Prop := fun xs y => ∃ (v_one : Int) (v_other : Int) (r : Int), xs = [.k (toD v_one), .k (toD v_other)] ∧ fn_common_divisor v_one v_other = some r ∧ y = toD r
theorem ok_common_divisor (M : Ds K mg) (T : Txt K mg) : FnOk P w K mg base CX0 1 M.f_common_divisor M.fd_common_divisor P_common_divisor (spE K pre_common_divisor) := by
  refine M.D_common_divisor.fn.ok sc_common_divisor (fun vs H Q E h => ?_) (fun cdv A outer s H vs Q E hr h => ?_)
  · obtain ⟨F, xs, y, _, ar, pr, _⟩ := h
    obtain ⟨v_one, v_other, r, rfl, _⟩ := pr
    exact ar.len
  · obtain ⟨F, xs, y, sF, ar, pr, ret⟩ := h
    obtain ⟨v_one, v_other, r, rfl, hf, rfl⟩ := pr
    refine ⟨_, (pss_cons (ps_while PassesOwn.never (pt_cmpR op_gt (pv 1) pe_int (nomark _))
     (pss_cons (ps_par (i := 0) (j := 1) (by rfl) sc_common_divisor.nd rfl rfl (by decide) rfl rfl (pa_cons (pv 1) (pa_cons (pe_op op_mod (pe_callTy call_int1 (by rfl) T.int (by decide +kernel) (pa_cons (pv 0) pa_nil)) (pv 1)) pa_nil)) (by rfl))
     pss_nil))
     (pss_cons (ps_ret (pv 0))
     pss_nil)), ?_⟩
    unfold fn_common_divisor at hf
    refine run_rt (Kn := fun y => .rt (toD y) []) sF ar ret ?_ hf rfl
    exact (es_join (G := fun (s1 : Int × Int) => [.d (toD s1.1), .d (toD s1.2)]) (es_whS (G := fun (s1 : Int × Int) => [.d (toD s1.1), .d (toD s1.2)]) (by repeat first | exact .nil | apply Wk.keep | apply Wk.drop) (fun s1 => (fun _ e0 => by have e0 := Option.some.inj e0; subst e0; exact (et_test (ev_op (ev_var rfl) (EvE.cast (y := toD ((0 : Int) : Int)) ev_int rfl) rv_B0)))) (fun s1 =>
     (grd fun h2 =>
     (es_seq (Γ1 := [.d (toD s1.2), .d (toD ((s1.1 % s1.2) : Int))]) (es_par (ea_cons (ev_var rfl) (ea_cons (EvE.cast (y := toD ((s1.1 % s1.2) : Int)) (ev_op (ev_int1 (ev_var rfl)) (ev_var rfl) (rv_mod h2)) rfl) ea_nil)))
     (one (es_end (by repeat first | exact .nil | apply Wk.keep | apply Wk.drop))))))) fun s1 _ =>
     (one (es_ret (ev_var rfl) wok0)))
noncomputable def fn_number_of (v_word : Str) (v_most : Int) : Option ((Option Int)) :=
  (if Str.length v_word ≤ sizeLine then
     (if (v_most).natAbs.log2 < 1920 then
     (if Str.length (strI v_most) ≤ sizeLine then
     ((if (!((decide ((1 : Int) ≤ ((Str.length v_word : Nat) : Int))) && (decide (((Str.length v_word : Nat) : Int) ≤ ((Str.length (strI v_most) : Nat) : Int))))) = true then some true else (if List.length (signs v_word) ≤ sizeLine then some (List.any (List.map (fun (x6 : Sg) => (!isSign x6 ("0123456789" : Str))) (signs v_word)) id) else none)).bind fun r8 =>
     (if r8 = true then
     some (none : (Option Int)) else
     ((intS v_word).bind fun r10 =>
     ((if (decide (r10 ≤ v_most)) = true then (if (r10).natAbs.log2 < 1920 then some (decide ((strI r10) = v_word)) else none) else some false).bind fun r13 =>
     some (if r13 = true then (some r10 : (Option Int)) else (none : (Option Int))))))) else none) else none) else none)
def pre_number_of : List Ar → D → Prop := fun xs y => ∃ (v_word : Str) (v_most : Int) (r : (Option Int)), xs = [.k (toD v_word), .k (toD v_most)] ∧ fn_number_of v_word v_most = some r ∧ y = toD r
theorem ok_number_of (M : Ds K mg) (T : Txt K mg) : FnOk P w K mg base CX0 1 M.f_number_of M.fd_number_of P_number_of (spE K pre_number_of) := by
  refine M.D_number_of.fn.ok sc_number_of (fun vs H Q E h => ?_) (fun cdv A outer s H vs Q E hr h => ?_)
  · obtain ⟨F, xs, y, _, ar, pr, _⟩ := h
    obtain ⟨v_word, v_most, r, rfl, _⟩ := pr
    exact ar.len
  · obtain ⟨F, xs, y, sF, ar, pr, ret⟩ := h
    obtain ⟨v_word, v_most, r, rfl, hf, rfl⟩ := pr
    refine ⟨_, (pss_cons (ps_if (PW.pt (pw_or (pt_not (pt_chain op_le op_le pe_int (pe_callB call_len_str (by rfl) T.len (by decide +kernel) (pa_cons (pv 0) pa_nil)) (pe_callB call_len_str (by rfl) T.len (by decide +kernel) (pa_cons (pe_callTy call_str_int (by rfl) T.str (by decide +kernel) (pa_cons (pv 1) pa_nil)) pa_nil)))) (pw_or1 (pt_val (pe_callB (show CallR _ (.builtin "any") (rAny K) from cr_any rfl) (by rfl) T.any (by decide +kernel) (pa_cons (pe_lc (own := [("sign", 3)]) (g := gName 3) rfl sc_number_of.nd (pi_str (pv 0)) (blkOk_by (own := [("sign", 3)]) (N := N_number_of) (sc := defScope s_number_of) (by decide +kernel)) (fun _ _ _ _ _ => (pg_name (i := 3) sc_number_of.nd rfl (.inl rfl))) (fun _ _ _ _ _ => pts_nil) (fun _ _ _ _ _ => (pe_cmpR op_notIn_sign (pv 3) (pe_glob (v := .str "0123456789") rfl T.cDIGITS.choose_spec ⟨_, rfl⟩) (by rfl)))) pa_nil))))))
     (pss_cons (ps_ret pe_non)
     pss_nil)
     pss_nil)
     (pss_cons (ps_asg (pe_callTy call_int_str (by rfl) T.int (by decide +kernel) (pa_cons (pv 0) pa_nil)) (pg_name (i := 2) sc_number_of.nd rfl (.inl rfl)))
     (pss_cons (ps_ret (pe_ifExp (PW.pt (pw_and (pt_cmpR op_le (pv 2) (pv 1) (nomark _)) (pw_and1 (pt_cmpR op_eq (pe_callTy call_str_int (by rfl) T.str (by decide +kernel) (pa_cons (pv 2) pa_nil)) (pv 0) (nomark _))))) (pv 2) pe_non))
     pss_nil))), ?_⟩
    unfold fn_number_of at hf
    refine run_rt (Kn := fun y => .rt (toD y) []) sF ar ret ?_ hf rfl
    exact (grd fun h1 =>
     (grd fun h2 =>
     (grd fun h3 =>
     (bnd fun r8 hr8 =>
     (es_ifq (Γ1 := [.d (toD v_word), .d (toD v_most), .u, .u]) (et_orM hr8 (et_not (et_test (ev_chain ev_int (ev_lenS (ev_var rfl) h1) rv_B0 (ev_lenS (EvE.cast (y := toD (strI v_most)) (ev_strI (ev_var rfl) h2) rfl) h3) rv_B0))) fun b4 => (fun _ e0 => by obtain ⟨h5, e0⟩ := ite_some e0; exact (by have e0 := Option.some.inj e0; subst e0; exact (et_b (ev_any (EvE.r (EvE.cast (y := toD ((List.map (fun (x6 : Sg) => (!isSign x6 ("0123456789" : Str))) (signs v_word)) : (List Bool))) (EvO.e (EvO.cast (y := toD ((List.map (fun (x6 : Sg) => (!isSign x6 ("0123456789" : Str))) (signs v_word)) : (List Bool))) (evo_lcP (fD := toD) (gD := toD) (c := (fun (x6 : Sg) => true)) (f := (fun (x6 : Sg) => (!isSign x6 ("0123456789" : Str)))) (Γ2 := [.d (toD v_word), .d (toD v_most), .u, .u]) (G1 := fun (x6 : Sg) => [.d (toD v_word), .d (toD v_most), .u, .d (toD x6)]) h5 (ei_str (ev_var rfl)) (by repeat first | exact .nil | apply Wk.keep | apply Wk.drop) (off_of rfl) (fun _ x6 => (egw_name (by decide))) (fun _ x6 => et_yes) (fun _ x6 b7 => (EvE.cast (y := toD ((!isSign x6 ("0123456789" : Str)) : Bool)) (ev_op (ev_var rfl) ev_str rv_notInG) rfl)) (fun x6 => by repeat first | exact .nil | apply Wk.keep | apply Wk.drop)) (by rw [filter_true] <;> rfl))) rfl) (.lst _)))))))
     (fun b9 => (es_assoc
     (one (es_ret (EvE.cast (y := toD ((none : (Option Int)) : (Option Int))) (EvE.cast (y := toD none) ev_non rfl) rfl) wok0))))
     (fun b9 => (es_skip
     (bnd fun r10 hr10 =>
     (es_seq (Γ1 := [.d (toD v_word), .d (toD v_most), .d (toD r10), .u]) (es_asg (EvE.cast (y := toD r10) (ev_intS (ev_var rfl) (intS_ok hr10)) rfl) eg_name)
     (bnd fun r13 hr13 =>
     (one (es_ret (EvE.cast (y := toD ((if r13 = true then (some r10 : (Option Int)) else (none : (Option Int))) : (Option Int))) (ev_ifP (et_andM hr13 (et_test (ev_op (ev_var rfl) (ev_var rfl) rv_B0)) fun b11 => (fun _ e0 => by obtain ⟨h12, e0⟩ := ite_some e0; exact (by have e0 := Option.some.inj e0; subst e0; exact (et_test (ev_op (EvE.cast (y := toD ((strI r10) : Str)) (EvE.cast (y := toD (strI r10)) (ev_strI (ev_var rfl) h12) rfl) rfl) (ev_var rfl) rv_eqS))))) (fun b14 => (EvE.cast (y := toD ((some r10 : (Option Int)) : (Option Int))) (EvE.cast (y := toD (some r10 : (Option Int))) (ev_var rfl) rfl) rfl)) (fun b14 => (EvE.cast (y := toD ((none : (Option Int)) : (Option Int))) (EvE.cast (y := toD none) ev_non rfl) rfl))) rfl) wok0))))))))))))
noncomputable def fn_fraction_of (v_bound : D) : Option ((Option (P2 Int Int))) :=
  ((isTy v_bound "str").bind fun r1 =>
     (if (!r1) = true then
     some (none : (Option (P2 Int Int))) else
     ((getS v_bound).bind fun r3 =>
     (if Str.length r3 ≤ sizeLine then
     (if (Str.length ("/" : Str) == 0) = false ∧ Str.length (PySem.Txt.removeprefix r3 ("over " : Str)) + 2 ≤ sizeLine then
     (if (!decide ((((PySem.Txt.split (PySem.Txt.removeprefix r3 ("over " : Str)) ("/" : Str)).length : Nat) : Int) = (2 : Int))) = true then
     some (none : (Option (P2 Int Int))) else
     ((atI (PySem.Txt.split (PySem.Txt.removeprefix r3 ("over " : Str)) ("/" : Str)) (0 : Int)).bind fun r7 =>
     ((fn_number_of (r7) ((12 : Int))).bind fun r8 =>
     ((atI (PySem.Txt.split (PySem.Txt.removeprefix r3 ("over " : Str)) ("/" : Str)) (1 : Int)).bind fun r9 =>
     ((fn_number_of (r9) ((12 : Int))).bind fun r10 =>
     ((if ((r8).isNone) = true then some true else ((if ((r10).isNone) = true then some true else ((r10).bind fun r13 => ((if (decide (r13 < (1 : Int))) = true then some true else ((r8).bind fun r15 => ((r10).bind fun r16 => ((fn_common_divisor (r15) (r16)).bind fun r17 => some (decide ((1 : Int) < r17)))))).bind fun r18 => some r18))).bind fun r19 => some r19)).bind fun r20 =>
     (if r20 = true then
     some (none : (Option (P2 Int Int))) else
     ((r8).bind fun r22 =>
     ((getS v_bound).bind fun r23 =>
     ((r10).bind fun r25 =>
     ((if (decide ((r22 + (if (PySem.Txt.startswith r23 ("over " : Str)) = true then (1 : Int) else (0 : Int))) ≤ r25)) = true then ((r8).bind fun r26 => ((r10).bind fun r27 => some (some (⟨r26, r27⟩ : (P2 Int Int)) : (Option (P2 Int Int))))) else some (none : (Option (P2 Int Int)))).bind fun r29 =>
     some r29))))))))))) else none) else none))))
def pre_fraction_of : List Ar → D → Prop := fun xs y => ∃ (v_bound : D) (r : (Option (P2 Int Int))), xs = [.k (toD v_bound)] ∧ fn_fraction_of v_bound = some r ∧ y = toD r
theorem ok_fraction_of (M : Ds K mg) (T : Txt K mg) : FnOk P w K mg base CX0 2 M.f_fraction_of M.fd_fraction_of P_fraction_of (spE K pre_fraction_of) := by
  refine M.D_fraction_of.fn.ok sc_fraction_of (fun vs H Q E h => ?_) (fun cdv A outer s H vs Q E hr h => ?_)
  · obtain ⟨F, xs, y, _, ar, pr, _⟩ := h
    obtain ⟨v_bound, r, rfl, _⟩ := pr
    exact ar.len
  · obtain ⟨F, xs, y, sF, ar, pr, ret⟩ := h
    obtain ⟨v_bound, r, rfl, hf, rfl⟩ := pr
    refine ⟨_, (pss_cons (ps_if (pt_not (pt_val (pe_callB (show CallR _ (.builtin "isinstance") (rIsi K) from call_isi) (by rfl) T.isinstance (by decide +kernel) (pa_cons (pv 0) (pa_cons (pe_bltn (v := .ty "str") (u := .type "str") (by rfl) T.str (by decide +kernel) rfl) pa_nil)))))
     (pss_cons (ps_ret pe_non)
     pss_nil)
     pss_nil)
     (pss_cons (ps_asg (pe_split (pe_bm PySem.F.plainAttrs_str PySem.F.slot_str_removeprefix PySem.F.type_str_removeprefix mt_removeprefix (pv 0) (pa_cons (pe_glob (v := .str "over ") rfl T.cMARK.choose_spec ⟨_, rfl⟩) pa_nil)) pe_str) (pg_name (i := 1) sc_fraction_of.nd rfl (.inl rfl)))
     (pss_cons (ps_if (pt_cmpR op_ne (pe_callB (show CallR _ (.builtin "len") (rLen1 K) from call_len_seq) (by rfl) T.len (by decide +kernel) (pa_cons (pv 1) pa_nil)) pe_int (nomark _))
     (pss_cons (ps_ret pe_non)
     pss_nil)
     pss_nil)
     (pss_cons (ps_par (i := 2) (j := 3) (by rfl) sc_fraction_of.nd rfl rfl (by decide) rfl rfl (pa_cons (pe_call (ok_number_of M T) (hr.mono (by decide)) rfl M.D_number_of.mg M.D_number_of.fn.kp M.D_number_of.bd .nil pass0 (pa_cons (pe_ix (show IxR _ (rIxL K) from ix_list) (pv 1) pe_int (fun _ _ => rfl)) (pa_cons (pe_glob (v := .int 12) rfl T.cMOST_PART.choose_spec ⟨_, rfl⟩) pa_nil))) (pa_cons (pe_call (ok_number_of M T) (hr.mono (by decide)) rfl M.D_number_of.mg M.D_number_of.fn.kp M.D_number_of.bd .nil pass0 (pa_cons (pe_ix (show IxR _ (rIxL K) from ix_list) (pv 1) pe_int (fun _ _ => rfl)) (pa_cons (pe_glob (v := .int 12) rfl T.cMOST_PART.choose_spec ⟨_, rfl⟩) pa_nil))) pa_nil)) (by rfl))
     (pss_cons (ps_if (PW.pt (pw_or (pt_cmpR op_isN (pv 2) pe_non (nomark _)) (pw_or (pt_cmpR op_isN (pv 3) pe_non (nomark _)) (pw_or (pt_cmpR op_lt (pv 3) pe_int (nomark _)) (pw_or1 (pt_cmpR op_gt (pe_call (ok_common_divisor M T) (hr.mono (by decide)) rfl M.D_common_divisor.mg M.D_common_divisor.fn.kp M.D_common_divisor.bd .nil pass0 (pa_cons (pv 2) (pa_cons (pv 3) pa_nil))) pe_int (nomark _)))))))
     (pss_cons (ps_ret pe_non)
     pss_nil)
     pss_nil)
     (pss_cons (ps_ret (pe_ifExp (pt_cmpR op_le (pe_op op_add (pv 2) (pe_ifExp (pt_val (pe_m1 PySem.F.slot_str_startswith PySem.F.type_str_startswith mt_startswith (pv 0) (pe_glob (v := .str "over ") rfl T.cMARK.choose_spec ⟨_, rfl⟩))) pe_int pe_int)) (pv 3) (nomark _)) (pe_tup (pa_cons (pv 2) (pa_cons (pv 3) pa_nil))) pe_non))
     pss_nil)))))), ?_⟩
    unfold fn_fraction_of at hf
    refine run_rt (Kn := fun y => .rt (toD y) []) sF ar ret ?_ hf rfl
    exact (bnd fun r1 hr1 =>
     (es_ifq (Γ1 := [.d (toD v_bound), .u, .u, .u]) (et_not (et_b (ev_isiD (ev_var rfl) hr1 kit_str)))
     (fun b2 => (es_assoc
     (one (es_ret (EvE.cast (y := toD ((none : (Option (P2 Int Int))) : (Option (P2 Int Int)))) (EvE.cast (y := toD none) ev_non rfl) rfl) wok0))))
     (fun b2 => (es_skip
     (bnd fun r3 hr3 =>
     (grd fun h4 =>
     (grd fun h5 =>
     (es_seq (Γ1 := [.d (toD v_bound), .d (toD ((PySem.Txt.split (PySem.Txt.removeprefix r3 ("over " : Str)) ("/" : Str)) : (List Str))), .u, .u]) (es_asg (EvE.cast (y := toD ((PySem.Txt.split (PySem.Txt.removeprefix r3 ("over " : Str)) ("/" : Str)) : (List Str))) (ev_split (ev_removeprefix (EvE.cast (y := toD r3) (ev_var rfl) (getS_toD hr3)) ev_str h4) ev_str h5) rfl) eg_name)
     (es_ifq (Γ1 := [.d (toD v_bound), .d (toD ((PySem.Txt.split (PySem.Txt.removeprefix r3 ("over " : Str)) ("/" : Str)) : (List Str))), .u, .u]) (et_test (ev_op (EvE.cast (y := toD ((((PySem.Txt.split (PySem.Txt.removeprefix r3 ("over " : Str)) ("/" : Str)).length : Nat) : Int) : Int)) (EvE.cast (y := toD ((((PySem.Txt.split (PySem.Txt.removeprefix r3 ("over " : Str)) ("/" : Str)).length : Nat) : Int) : Int)) (ev_lenL (EvE.r (EvE.cast (y := toD ((PySem.Txt.split (PySem.Txt.removeprefix r3 ("over " : Str)) ("/" : Str)) : (List Str))) (ev_var rfl) rfl) (.lst _))) (by simp [toD, Rp.d])) rfl) (EvE.cast (y := toD ((2 : Int) : Int)) ev_int rfl) rv_neI))
     (fun b6 => (es_assoc
     (one (es_ret (EvE.cast (y := toD ((none : (Option (P2 Int Int))) : (Option (P2 Int Int)))) (EvE.cast (y := toD none) ev_non rfl) rfl) wok0))))
     (fun b6 => (es_skip
     (bnd fun r7 hr7 =>
     (bnd fun r8 hr8 =>
     (bnd fun r9 hr9 =>
     (bnd fun r10 hr10 =>
     (es_seq (Γ1 := [.d (toD v_bound), .d (toD ((PySem.Txt.split (PySem.Txt.removeprefix r3 ("over " : Str)) ("/" : Str)) : (List Str))), .d (toD r8), .d (toD r10)]) (es_par (ea_cons (EvE.cast (y := toD r8) (ev_call (ap_k (EvE.cast (y := toD r7) (ev_op (EvE.cast (y := toD ((PySem.Txt.split (PySem.Txt.removeprefix r3 ("over " : Str)) ("/" : Str)) : (List Str))) (ev_var rfl) rfl) ev_int (rv_ixL (at_map toD hr7))) rfl) (ap_k (EvE.cast (y := toD ((12 : Int) : Int)) ev_int rfl) ap_nil)) ⟨_, _, _, rfl, hr8, rfl⟩) rfl) (ea_cons (EvE.cast (y := toD r10) (ev_call (ap_k (EvE.cast (y := toD r9) (ev_op (EvE.cast (y := toD ((PySem.Txt.split (PySem.Txt.removeprefix r3 ("over " : Str)) ("/" : Str)) : (List Str))) (ev_var rfl) rfl) ev_int (rv_ixL (at_map toD hr9))) rfl) (ap_k (EvE.cast (y := toD ((12 : Int) : Int)) ev_int rfl) ap_nil)) ⟨_, _, _, rfl, hr10, rfl⟩) rfl) ea_nil)))
     (bnd fun r20 hr20 =>
     (es_ifq (Γ1 := [.d (toD v_bound), .d (toD ((PySem.Txt.split (PySem.Txt.removeprefix r3 ("over " : Str)) ("/" : Str)) : (List Str))), .d (toD r8), .d (toD r10)]) (et_orM hr20 (et_test (ev_isN (ev_var rfl))) fun b11 => (fun _ e0 => by obtain ⟨r19, hr19, e0⟩ := bind_some e0; exact (by have e0 := Option.some.inj e0; subst e0; exact (et_orM hr19 (et_test (ev_isN (ev_var rfl))) fun b12 => (fun _ e0 => by obtain ⟨r13, hr13, e0⟩ := bind_some e0; exact (by obtain ⟨r18, hr18, e0⟩ := bind_some e0; exact (by have e0 := Option.some.inj e0; subst e0; exact (et_orM hr18 (et_test (ev_op (EvE.cast (y := toD r13) (EvE.cast (y := toD r13) (ev_var rfl) (by rw [hr13]; rfl)) rfl) (EvE.cast (y := toD ((1 : Int) : Int)) ev_int rfl) rv_B0)) fun b14 => (fun _ e0 => by obtain ⟨r15, hr15, e0⟩ := bind_some e0; exact (by obtain ⟨r16, hr16, e0⟩ := bind_some e0; exact (by obtain ⟨r17, hr17, e0⟩ := bind_some e0; exact (by have e0 := Option.some.inj e0; subst e0; exact (et_test (ev_op (EvE.cast (y := toD r17) (ev_call (ap_k (EvE.cast (y := toD r15) (EvE.cast (y := toD r15) (ev_var rfl) (by rw [hr15]; rfl)) rfl) (ap_k (EvE.cast (y := toD r16) (EvE.cast (y := toD r16) (ev_var rfl) (by rw [hr16]; rfl)) rfl) ap_nil)) ⟨_, _, _, rfl, hr17, rfl⟩) rfl) (EvE.cast (y := toD ((1 : Int) : Int)) ev_int rfl) rv_B0))))))))))))))
     (fun b21 => (es_assoc
     (one (es_ret (EvE.cast (y := toD ((none : (Option (P2 Int Int))) : (Option (P2 Int Int)))) (EvE.cast (y := toD none) ev_non rfl) rfl) wok0))))
     (fun b21 => (es_skip
     (bnd fun r22 hr22 =>
     (bnd fun r23 hr23 =>
     (bnd fun r25 hr25 =>
     (bnd fun r29 hr29 =>
     (one (es_ret (EvE.cast (y := toD r29) (ev_ifM1 hr29 (et_test (ev_op (EvE.cast (y := toD ((r22 + (if (PySem.Txt.startswith r23 ("over " : Str)) = true then (1 : Int) else (0 : Int))) : Int)) (ev_op (EvE.cast (y := toD r22) (ev_var rfl) (by rw [hr22]; rfl)) (ev_ifP (et_b (ev_startswith (EvE.cast (y := toD r23) (ev_var rfl) (getS_toD hr23)) ev_str)) (fun b24 => (EvE.cast (y := toD ((1 : Int) : Int)) ev_int rfl)) (fun b24 => (EvE.cast (y := toD ((0 : Int) : Int)) ev_int rfl))) rv_I0) rfl) (EvE.cast (y := toD r25) (EvE.cast (y := toD r25) (ev_var rfl) (by rw [hr25]; rfl)) rfl) rv_B0)) (fun b28 => (fun _ e0 => by obtain ⟨r26, hr26, e0⟩ := bind_some e0; exact (by obtain ⟨r27, hr27, e0⟩ := bind_some e0; exact (by have e0 := Option.some.inj e0; subst e0; exact (EvE.cast (y := toD ((some (⟨r26, r27⟩ : (P2 Int Int)) : (Option (P2 Int Int))) : (Option (P2 Int Int)))) (EvE.cast (y := toD (some (⟨r26, r27⟩ : (P2 Int Int)) : (Option (P2 Int Int)))) (EvE.cast (y := toD (⟨r26, r27⟩ : (P2 Int Int))) (ev_tup (ea_cons (EvE.cast (y := toD r26) (EvE.cast (y := toD r26) (ev_var rfl) (by rw [hr26]; rfl)) rfl) (ea_cons (EvE.cast (y := toD r27) (EvE.cast (y := toD r27) (ev_var rfl) (by rw [hr27]; rfl)) rfl) ea_nil)) (by show 2 ≤ sizeLine; decide)) rfl) rfl) rfl))))) (fun b28 => (fun _ e0 => by have e0 := Option.some.inj e0; subst e0; exact (EvE.cast (y := toD ((none : (Option (P2 Int Int))) : (Option (P2 Int Int)))) (EvE.cast (y := toD none) ev_non rfl) rfl)))) rfl) wok0))))))))))))))))))))))))))
noncomputable def fn_is_bound (v_value : D) : Option (Bool) :=
  ((fn_fraction_of (v_value)).bind fun r1 =>
     some (!(r1).isNone))
def pre_is_bound : List Ar → D → Prop := fun xs y => ∃ (v_value : D) (r : Bool), xs = [.k (toD v_value)] ∧ fn_is_bound v_value = some r ∧ y = toD r
theorem ok_is_bound (M : Ds K mg) (T : Txt K mg) : FnOk P w K mg base CX0 3 M.f_is_bound M.fd_is_bound P_is_bound (spE K pre_is_bound) := by
  refine M.D_is_bound.fn.ok sc_is_bound (fun vs H Q E h => ?_) (fun cdv A outer s H vs Q E hr h => ?_)
  · obtain ⟨F, xs, y, _, ar, pr, _⟩ := h
    obtain ⟨v_value, r, rfl, _⟩ := pr
    exact ar.len
  · obtain ⟨F, xs, y, sF, ar, pr, ret⟩ := h
    obtain ⟨v_value, r, rfl, hf, rfl⟩ := pr
    refine ⟨_, (pss_cons (ps_ret (pe_cmpR op_notN (pe_call (ok_fraction_of M T) (hr.mono (by decide)) rfl M.D_fraction_of.mg M.D_fraction_of.fn.kp M.D_fraction_of.bd .nil pass0 (pa_cons (pv 0) pa_nil)) pe_non (nomark _)))
     pss_nil), ?_⟩
    unfold fn_is_bound at hf
    refine run_rt (Kn := fun y => .rt (toD y) []) sF ar ret ?_ hf rfl
    exact (bnd fun r1 hr1 =>
     (one (es_ret (EvE.cast (y := toD ((!(r1).isNone) : Bool)) (ev_notN (EvE.cast (y := toD r1) (ev_call (ap_k (ev_var rfl) ap_nil) ⟨_, _, rfl, hr1, rfl⟩) rfl)) rfl) wok0)))
noncomputable def fn_is_needs (v_value : (Int ⊕ Str)) : Option (Bool) :=
  ((fn_is_bound ((toD v_value))).bind fun r1 =>
     ((if r1 = true then some true else ((fn_is_integer ((toD v_value))).bind fun r3 => ((if r3 = true then ((getL (v_value : (Int ⊕ Str))).bind fun r5 => some ((decide ((1 : Int) ≤ r5)) && (decide (r5 ≤ (9 : Int))))) else some false).bind fun r6 => some r6))).bind fun r7 =>
     some r7))
def pre_is_needs : List Ar → D → Prop := fun xs y => ∃ (v_value : (Int ⊕ Str)) (r : Bool), xs = [.k (toD v_value)] ∧ fn_is_needs v_value = some r ∧ y = toD r
theorem ok_is_needs (M : Ds K mg) (T : Txt K mg) : FnOk P w K mg base CX0 4 M.f_is_needs M.fd_is_needs P_is_needs (spE K pre_is_needs) := by
  refine M.D_is_needs.fn.ok sc_is_needs (fun vs H Q E h => ?_) (fun cdv A outer s H vs Q E hr h => ?_)
  · obtain ⟨F, xs, y, _, ar, pr, _⟩ := h
    obtain ⟨v_value, r, rfl, _⟩ := pr
    exact ar.len
  · obtain ⟨F, xs, y, sF, ar, pr, ret⟩ := h
    obtain ⟨v_value, r, rfl, hf, rfl⟩ := pr
    refine ⟨_, (pss_cons (ps_ret (pe_or (pe_call (ok_is_bound M T) (hr.mono (by decide)) rfl M.D_is_bound.mg M.D_is_bound.fn.kp M.D_is_bound.bd .nil pass0 (pa_cons (pv 0) pa_nil)) (pe_one (pe_and (pe_call (ok_is_integer M T) (hr.mono (by decide)) rfl M.D_is_integer.mg M.D_is_integer.fn.kp M.D_is_integer.bd .nil pass0 (pa_cons (pv 0) pa_nil)) (pe_one (pe_chain op_le op_le pe_int (pv 0) (pe_glob (v := .int 9) rfl T.cMOST_NEEDS.choose_spec ⟨_, rfl⟩)))))))
     pss_nil), ?_⟩
    unfold fn_is_needs at hf
    refine run_rt (Kn := fun y => .rt (toD y) []) sF ar ret ?_ hf rfl
    exact (bnd fun r1 hr1 =>
     (bnd fun r7 hr7 =>
     (one (es_ret (EvE.cast (y := toD r7) (ev_orM hr7 (ev_call (ap_k (EvE.cast (y := toD ((toD v_value) : D)) (ev_var rfl) rfl) ap_nil) ⟨_, _, rfl, hr1, rfl⟩) fun b2 => (fun _ e0 => by obtain ⟨r3, hr3, e0⟩ := bind_some e0; exact (by obtain ⟨r6, hr6, e0⟩ := bind_some e0; exact (by have e0 := Option.some.inj e0; subst e0; exact (ev_andM hr6 (ev_call (ap_k (EvE.cast (y := toD ((toD v_value) : D)) (ev_var rfl) rfl) ap_nil) ⟨_, _, rfl, hr3, rfl⟩) fun b4 => (fun _ e0 => by obtain ⟨r5, hr5, e0⟩ := bind_some e0; exact (by have e0 := Option.some.inj e0; subst e0; exact (ev_chain ev_int (EvE.cast (y := toD r5) (ev_var rfl) (getL_toD hr5)) rv_B0 ev_int rv_B0)))))))) rfl) wok0))))
noncomputable def fn_is_closing (v_value : (Option (P2 Int Str))) : Option (Bool) :=
  (if ((v_value).isNone) = true then
     some true else
     ((v_value).bind fun r2 =>
     ((if (!true) = true then some true else ((v_value).bind fun r4 => some (!decide ((2 : Int) = (2 : Int))))).bind fun r5 =>
     (if r5 = true then
     some false else
     ((v_value).bind fun r7 =>
     ((fn_is_integer ((toD ((r7).a : Int)))).bind fun r8 =>
     ((if r8 = true then ((v_value).bind fun r10 => ((if ((decide ((0 : Int) ≤ (r10).a)) && (decide ((r10).a ≤ (3 : Int)))) = true then ((v_value).bind fun r12 => ((fn_is_bound ((toD ((r12).b : Str)))).bind fun r13 => some r13)) else some false).bind fun r14 => some r14)) else some false).bind fun r15 =>
     some r15)))))))
def pre_is_closing : List Ar → D → Prop := fun xs y => ∃ (v_value : (Option (P2 Int Str))) (r : Bool), xs = [.k (toD v_value)] ∧ fn_is_closing v_value = some r ∧ y = toD r
theorem ok_is_closing (M : Ds K mg) (T : Txt K mg) : FnOk P w K mg base CX0 4 M.f_is_closing M.fd_is_closing P_is_closing (spE K pre_is_closing) := by
  refine M.D_is_closing.fn.ok sc_is_closing (fun vs H Q E h => ?_) (fun cdv A outer s H vs Q E hr h => ?_)
  · obtain ⟨F, xs, y, _, ar, pr, _⟩ := h
    obtain ⟨v_value, r, rfl, _⟩ := pr
    exact ar.len
  · obtain ⟨F, xs, y, sF, ar, pr, ret⟩ := h
    obtain ⟨v_value, r, rfl, hf, rfl⟩ := pr
    refine ⟨_, (pss_cons (ps_if (pt_cmpR op_isN (pv 0) pe_non (nomark _))
     (pss_cons (ps_ret pe_bl)
     pss_nil)
     pss_nil)
     (pss_cons (ps_if (PW.pt (pw_or (pt_not (pt_val (pe_callB (show CallR _ (.builtin "isinstance") (rIsi K) from call_isi) (by rfl) T.isinstance (by decide +kernel) (pa_cons (pv 0) (pa_cons (pe_bltn (v := .ty "tuple") (u := .type "tuple") (by rfl) T.tuple (by decide +kernel) rfl) pa_nil))))) (pw_or1 (pt_cmpR op_ne (pe_callB (show CallR _ (.builtin "len") (rLen1 K) from call_len_seq) (by rfl) T.len (by decide +kernel) (pa_cons (pv 0) pa_nil)) pe_int (nomark _)))))
     (pss_cons (ps_ret pe_bl)
     pss_nil)
     pss_nil)
     (pss_cons (ps_ret (pe_and (pe_call (ok_is_integer M T) (hr.mono (by decide)) rfl M.D_is_integer.mg M.D_is_integer.fn.kp M.D_is_integer.bd .nil pass0 (pa_cons (pe_ix (show IxR _ (rIxT K) from ix_tup) (pv 0) pe_int (fun _ _ => rfl)) pa_nil)) (pe_and (pe_chain op_le op_le pe_int (pe_ix (show IxR _ (rIxT K) from ix_tup) (pv 0) pe_int (fun _ _ => rfl)) (pe_glob (v := .int 3) rfl T.cMOST_AFTER.choose_spec ⟨_, rfl⟩)) (pe_one (pe_call (ok_is_bound M T) (hr.mono (by decide)) rfl M.D_is_bound.mg M.D_is_bound.fn.kp M.D_is_bound.bd .nil pass0 (pa_cons (pe_ix (show IxR _ (rIxT K) from ix_tup) (pv 0) pe_int (fun _ _ => rfl)) pa_nil))))))
     pss_nil))), ?_⟩
    unfold fn_is_closing at hf
    refine run_rt (Kn := fun y => .rt (toD y) []) sF ar ret ?_ hf rfl
    exact (es_ifq (Γ1 := [.d (toD v_value)]) (et_test (ev_isN (ev_var rfl)))
     (fun b1 => (es_assoc
     (one (es_ret (EvE.cast (y := toD true) ev_bl rfl) wok0))))
     (fun b1 => (es_skip
     (bnd fun r2 hr2 =>
     (bnd fun r5 hr5 =>
     (es_ifq (Γ1 := [.d (toD v_value)]) (et_orM hr5 (et_not (et_b (ev_isi (n := "tuple") (EvE.cast (y := toD r2) (EvE.cast (y := toD r2) (ev_var rfl) (by rw [hr2]; rfl)) rfl) rfl (kit_ty (by decide +kernel))))) fun b3 => (fun _ e0 => by obtain ⟨r4, hr4, e0⟩ := bind_some e0; exact (by have e0 := Option.some.inj e0; subst e0; exact (et_test (ev_op (EvE.cast (y := toD ((2 : Int) : Int)) (ev_lenT (EvE.rt (EvE.cast (y := toD r4) (EvE.cast (y := toD r4) (ev_var rfl) (by rw [hr4]; rfl)) rfl))) rfl) (EvE.cast (y := toD ((2 : Int) : Int)) ev_int rfl) rv_neI)))))
     (fun b6 => (es_assoc
     (one (es_ret (EvE.cast (y := toD false) ev_bl rfl) wok0))))
     (fun b6 => (es_skip
     (bnd fun r7 hr7 =>
     (bnd fun r8 hr8 =>
     (bnd fun r15 hr15 =>
     (one (es_ret (EvE.cast (y := toD r15) (ev_andM hr15 (ev_call (ap_k (EvE.cast (y := toD ((toD ((r7).a : Int)) : D)) (EvE.cast (y := toD ((r7).a : Int)) (EvE.cast (y := toD ((r7).a : Int)) (ev_op (EvE.cast (y := toD r7) (EvE.cast (y := toD r7) (ev_var rfl) (by rw [hr7]; rfl)) rfl) ev_int (rv_ixT rfl)) rfl) rfl) rfl) ap_nil) ⟨_, _, rfl, hr8, rfl⟩) fun b9 => (fun _ e0 => by obtain ⟨r10, hr10, e0⟩ := bind_some e0; exact (by obtain ⟨r14, hr14, e0⟩ := bind_some e0; exact (by have e0 := Option.some.inj e0; subst e0; exact (ev_andM hr14 (ev_chain ev_int (EvE.cast (y := toD ((r10).a : Int)) (ev_op (EvE.cast (y := toD r10) (EvE.cast (y := toD r10) (ev_var rfl) (by rw [hr10]; rfl)) rfl) ev_int (rv_ixT rfl)) rfl) rv_B0 ev_int rv_B0) fun b11 => (fun _ e0 => by obtain ⟨r12, hr12, e0⟩ := bind_some e0; exact (by obtain ⟨r13, hr13, e0⟩ := bind_some e0; exact (by have e0 := Option.some.inj e0; subst e0; exact (ev_call (ap_k (EvE.cast (y := toD ((toD ((r12).b : Str)) : D)) (EvE.cast (y := toD ((r12).b : Str)) (EvE.cast (y := toD ((r12).b : Str)) (ev_op (EvE.cast (y := toD r12) (EvE.cast (y := toD r12) (ev_var rfl) (by rw [hr12]; rfl)) rfl) ev_int (rv_ixT rfl)) rfl) rfl) rfl) ap_nil) ⟨_, _, rfl, hr13, rfl⟩))))))))) rfl) wok0)))))))))))))
noncomputable def fn_sort_of (v_amount : Str) : Option ((Option (P2 Str Int))) :=
  (if (!true) = true then
     some (none : (Option (P2 Str Int))) else
     (if ((isIn v_amount (⟨[("free" : Str), ("again" : Str)]⟩ : (Tp Str)).l)) = true then
     some (some (⟨v_amount, (0 : Int)⟩ : (P2 Str Int)) : (Option (P2 Str Int))) else
     (if (Str.length (" " : Str) == 0) = false ∧ Str.length v_amount ≤ sizeLine then
     ((fn_number_of (((⟨(PySem.Txt.partition v_amount (" " : Str)).1, (PySem.Txt.partition v_amount (" " : Str)).2.1, (PySem.Txt.partition v_amount (" " : Str)).2.2⟩ : (P3 Str Str Str))).c) ((3 : Int))).bind fun r4 =>
     ((if (!(isIn ((⟨(PySem.Txt.partition v_amount (" " : Str)).1, (PySem.Txt.partition v_amount (" " : Str)).2.1, (PySem.Txt.partition v_amount (" " : Str)).2.2⟩ : (P3 Str Str Str))).a (⟨[("each" : Str), ("all" : Str)]⟩ : (Tp Str)).l)) = true then some true else ((if ((r4).isNone) = true then some true else ((r4).bind fun r7 => some (decide (r7 < (1 : Int))))).bind fun r8 => some r8)).bind fun r9 =>
     ((if r9 = true then some (none : (Option (P2 Str Int))) else ((r4).bind fun r10 => some (some (⟨((⟨(PySem.Txt.partition v_amount (" " : Str)).1, (PySem.Txt.partition v_amount (" " : Str)).2.1, (PySem.Txt.partition v_amount (" " : Str)).2.2⟩ : (P3 Str Str Str))).a, r10⟩ : (P2 Str Int)) : (Option (P2 Str Int))))).bind fun r12 =>
     some r12))) else none)))
def pre_sort_of : List Ar → D → Prop := fun xs y => ∃ (v_amount : Str) (r : (Option (P2 Str Int))), xs = [.k (toD v_amount)] ∧ fn_sort_of v_amount = some r ∧ y = toD r
theorem ok_sort_of (M : Ds K mg) (T : Txt K mg) : FnOk P w K mg base CX0 2 M.f_sort_of M.fd_sort_of P_sort_of (spE K pre_sort_of) := by
  refine M.D_sort_of.fn.ok sc_sort_of (fun vs H Q E h => ?_) (fun cdv A outer s H vs Q E hr h => ?_)
  · obtain ⟨F, xs, y, _, ar, pr, _⟩ := h
    obtain ⟨v_amount, r, rfl, _⟩ := pr
    exact ar.len
  · obtain ⟨F, xs, y, sF, ar, pr, ret⟩ := h
    obtain ⟨v_amount, r, rfl, hf, rfl⟩ := pr
    refine ⟨_, (pss_cons (ps_if (pt_not (pt_val (pe_callB (show CallR _ (.builtin "isinstance") (rIsi K) from call_isi) (by rfl) T.isinstance (by decide +kernel) (pa_cons (pv 0) (pa_cons (pe_bltn (v := .ty "str") (u := .type "str") (by rfl) T.str (by decide +kernel) rfl) pa_nil)))))
     (pss_cons (ps_ret pe_non)
     pss_nil)
     pss_nil)
     (pss_cons (ps_if (pt_cmpR (show OpR _ (compareOp .In) (rIn K false) from op_in_seq) (pv 0) (pe_tup (pa_cons pe_str (pa_cons pe_str pa_nil))) (by rfl))
     (pss_cons (ps_ret (pe_tup (pa_cons (pv 0) (pa_cons pe_int pa_nil))))
     pss_nil)
     pss_nil)
     (pss_cons (ps_asg (pe_partition (pv 0) pe_str) (pg_tup (by rfl) (pgs_cons (pg_name (i := 1) sc_sort_of.nd rfl (.inl rfl)) (pgs_cons (pg_name (i := 2) sc_sort_of.nd rfl (.inl rfl)) (pgs_cons (pg_name (i := 3) sc_sort_of.nd rfl (.inl rfl)) pgs_nil)))))
     (pss_cons (ps_asg (pe_call (ok_number_of M T) (hr.mono (by decide)) rfl M.D_number_of.mg M.D_number_of.fn.kp M.D_number_of.bd .nil pass0 (pa_cons (pv 3) (pa_cons (pe_glob (v := .int 3) rfl T.cMOST_TIMES.choose_spec ⟨_, rfl⟩) pa_nil))) (pg_name (i := 4) sc_sort_of.nd rfl (.inl rfl)))
     (pss_cons (ps_ret (pe_ifExp (PW.pt (pw_or (pt_cmpR (show OpR _ (compareOp .NotIn) (rIn K true) from op_notIn_seq) (pv 1) (pe_tup (pa_cons pe_str (pa_cons pe_str pa_nil))) (by rfl)) (pw_or (pt_cmpR op_isN (pv 4) pe_non (nomark _)) (pw_or1 (pt_cmpR op_lt (pv 4) pe_int (nomark _)))))) pe_non (pe_tup (pa_cons (pv 1) (pa_cons (pv 4) pa_nil)))))
     pss_nil))))), ?_⟩
    unfold fn_sort_of at hf
    refine run_rt (Kn := fun y => .rt (toD y) []) sF ar ret ?_ hf rfl
    exact (es_ifq (Γ1 := [.d (toD v_amount), .u, .u, .u, .u]) (et_not (et_b (ev_isi (n := "str") (ev_var rfl) rfl (kit_ty (by decide +kernel)))))
     (fun b1 => (es_assoc
     (one (es_ret (EvE.cast (y := toD ((none : (Option (P2 Str Int))) : (Option (P2 Str Int)))) (EvE.cast (y := toD none) ev_non rfl) rfl) wok0))))
     (fun b1 => (es_skip
     (es_ifq (Γ1 := [.d (toD v_amount), .u, .u, .u, .u]) (et_test (ev_inT0 (ev_var rfl) (EvE.rt (EvE.cast (y := toD ((⟨[("free" : Str), ("again" : Str)]⟩ : (Tp Str)) : (Tp Str))) (EvE.cast (y := toD (⟨[("free" : Str), ("again" : Str)]⟩ : (Tp Str))) (ev_tup (ea_cons (EvE.cast (y := toD (("free" : Str) : Str)) ev_str rfl) (ea_cons (EvE.cast (y := toD (("again" : Str) : Str)) ev_str rfl) ea_nil)) (by show 2 ≤ sizeLine; decide)) rfl) rfl))))
     (fun b2 => (es_assoc
     (one (es_ret (EvE.cast (y := toD ((some (⟨v_amount, (0 : Int)⟩ : (P2 Str Int)) : (Option (P2 Str Int))) : (Option (P2 Str Int)))) (EvE.cast (y := toD (some (⟨v_amount, (0 : Int)⟩ : (P2 Str Int)) : (Option (P2 Str Int)))) (EvE.cast (y := toD (⟨v_amount, (0 : Int)⟩ : (P2 Str Int))) (ev_tup (ea_cons (ev_var rfl) (ea_cons (EvE.cast (y := toD ((0 : Int) : Int)) ev_int rfl) ea_nil)) (by show 2 ≤ sizeLine; decide)) rfl) rfl) rfl) wok0))))
     (fun b2 => (es_skip
     (grd fun h3 =>
     (es_seq (Γ1 := [.d (toD v_amount), .d (toD (((⟨(PySem.Txt.partition v_amount (" " : Str)).1, (PySem.Txt.partition v_amount (" " : Str)).2.1, (PySem.Txt.partition v_amount (" " : Str)).2.2⟩ : (P3 Str Str Str))).a : Str)), .d (toD (((⟨(PySem.Txt.partition v_amount (" " : Str)).1, (PySem.Txt.partition v_amount (" " : Str)).2.1, (PySem.Txt.partition v_amount (" " : Str)).2.2⟩ : (P3 Str Str Str))).b : Str)), .d (toD (((⟨(PySem.Txt.partition v_amount (" " : Str)).1, (PySem.Txt.partition v_amount (" " : Str)).2.1, (PySem.Txt.partition v_amount (" " : Str)).2.2⟩ : (P3 Str Str Str))).c : Str)), .u]) (es_asg (EvE.cast (y := toD ((⟨(PySem.Txt.partition v_amount (" " : Str)).1, (PySem.Txt.partition v_amount (" " : Str)).2.1, (PySem.Txt.partition v_amount (" " : Str)).2.2⟩ : (P3 Str Str Str)) : (P3 Str Str Str))) (EvE.cast (y := toD (⟨(PySem.Txt.partition v_amount (" " : Str)).1, (PySem.Txt.partition v_amount (" " : Str)).2.1, (PySem.Txt.partition v_amount (" " : Str)).2.2⟩ : (P3 Str Str Str))) (ev_partition (ev_var rfl) ev_str h3) rfl) rfl) (eg_tup (egs_cons eg_name (egs_cons eg_name (egs_cons eg_name egs_nil))) rfl))
     (bnd fun r4 hr4 =>
     (es_seq (Γ1 := [.d (toD v_amount), .d (toD (((⟨(PySem.Txt.partition v_amount (" " : Str)).1, (PySem.Txt.partition v_amount (" " : Str)).2.1, (PySem.Txt.partition v_amount (" " : Str)).2.2⟩ : (P3 Str Str Str))).a : Str)), .d (toD (((⟨(PySem.Txt.partition v_amount (" " : Str)).1, (PySem.Txt.partition v_amount (" " : Str)).2.1, (PySem.Txt.partition v_amount (" " : Str)).2.2⟩ : (P3 Str Str Str))).b : Str)), .d (toD (((⟨(PySem.Txt.partition v_amount (" " : Str)).1, (PySem.Txt.partition v_amount (" " : Str)).2.1, (PySem.Txt.partition v_amount (" " : Str)).2.2⟩ : (P3 Str Str Str))).c : Str)), .d (toD r4)]) (es_asg (EvE.cast (y := toD r4) (ev_call (ap_k (EvE.cast (y := toD (((⟨(PySem.Txt.partition v_amount (" " : Str)).1, (PySem.Txt.partition v_amount (" " : Str)).2.1, (PySem.Txt.partition v_amount (" " : Str)).2.2⟩ : (P3 Str Str Str))).c : Str)) (ev_var rfl) rfl) (ap_k (EvE.cast (y := toD ((3 : Int) : Int)) ev_int rfl) ap_nil)) ⟨_, _, _, rfl, hr4, rfl⟩) rfl) eg_name)
     (bnd fun r9 hr9 =>
     (bnd fun r12 hr12 =>
     (one (es_ret (EvE.cast (y := toD r12) (ev_ifM1 hr12 (et_orM hr9 (et_test (ev_inT1 (EvE.cast (y := toD (((⟨(PySem.Txt.partition v_amount (" " : Str)).1, (PySem.Txt.partition v_amount (" " : Str)).2.1, (PySem.Txt.partition v_amount (" " : Str)).2.2⟩ : (P3 Str Str Str))).a : Str)) (ev_var rfl) rfl) (EvE.rt (EvE.cast (y := toD ((⟨[("each" : Str), ("all" : Str)]⟩ : (Tp Str)) : (Tp Str))) (EvE.cast (y := toD (⟨[("each" : Str), ("all" : Str)]⟩ : (Tp Str))) (ev_tup (ea_cons (EvE.cast (y := toD (("each" : Str) : Str)) ev_str rfl) (ea_cons (EvE.cast (y := toD (("all" : Str) : Str)) ev_str rfl) ea_nil)) (by show 2 ≤ sizeLine; decide)) rfl) rfl)))) fun b5 => (fun _ e0 => by obtain ⟨r8, hr8, e0⟩ := bind_some e0; exact (by have e0 := Option.some.inj e0; subst e0; exact (et_orM hr8 (et_test (ev_isN (ev_var rfl))) fun b6 => (fun _ e0 => by obtain ⟨r7, hr7, e0⟩ := bind_some e0; exact (by have e0 := Option.some.inj e0; subst e0; exact (et_test (ev_op (EvE.cast (y := toD r7) (EvE.cast (y := toD r7) (ev_var rfl) (by rw [hr7]; rfl)) rfl) (EvE.cast (y := toD ((1 : Int) : Int)) ev_int rfl) rv_B0)))))))) (fun b11 => (fun _ e0 => by have e0 := Option.some.inj e0; subst e0; exact (EvE.cast (y := toD ((none : (Option (P2 Str Int))) : (Option (P2 Str Int)))) (EvE.cast (y := toD none) ev_non rfl) rfl))) (fun b11 => (fun _ e0 => by obtain ⟨r10, hr10, e0⟩ := bind_some e0; exact (by have e0 := Option.some.inj e0; subst e0; exact (EvE.cast (y := toD ((some (⟨((⟨(PySem.Txt.partition v_amount (" " : Str)).1, (PySem.Txt.partition v_amount (" " : Str)).2.1, (PySem.Txt.partition v_amount (" " : Str)).2.2⟩ : (P3 Str Str Str))).a, r10⟩ : (P2 Str Int)) : (Option (P2 Str Int))) : (Option (P2 Str Int)))) (EvE.cast (y := toD (some (⟨((⟨(PySem.Txt.partition v_amount (" " : Str)).1, (PySem.Txt.partition v_amount (" " : Str)).2.1, (PySem.Txt.partition v_amount (" " : Str)).2.2⟩ : (P3 Str Str Str))).a, r10⟩ : (P2 Str Int)) : (Option (P2 Str Int)))) (EvE.cast (y := toD (⟨((⟨(PySem.Txt.partition v_amount (" " : Str)).1, (PySem.Txt.partition v_amount (" " : Str)).2.1, (PySem.Txt.partition v_amount (" " : Str)).2.2⟩ : (P3 Str Str Str))).a, r10⟩ : (P2 Str Int))) (ev_tup (ea_cons (EvE.cast (y := toD (((⟨(PySem.Txt.partition v_amount (" " : Str)).1, (PySem.Txt.partition v_amount (" " : Str)).2.1, (PySem.Txt.partition v_amount (" " : Str)).2.2⟩ : (P3 Str Str Str))).a : Str)) (ev_var rfl) rfl) (ea_cons (EvE.cast (y := toD r10) (EvE.cast (y := toD r10) (ev_var rfl) (by rw [hr10]; rfl)) rfl) ea_nil)) (by show 2 ≤ sizeLine; decide)) rfl) rfl) rfl))))) rfl) wok0))))))))))))))
end L
namespace L
open PySem L2 Hv Ev
variable {P : Program} {w : World} {K : PySem.W.Frag} {mg : Str → Option Value} {base : Heap}
noncomputable def fn_Kind_name (v_self : Ev.Kind) : Option (Str) :=
  some ((v_self).parts).a
def pre_Kind_name : List Ar → D → Prop := fun xs y => ∃ (v_self : Ev.Kind) (r : Str), xs = [.k (toD v_self)] ∧ fn_Kind_name v_self = some r ∧ y = toD r
theorem ok_Kind_name' (M : Ds K mg) (T : Txt K mg) : FnOk P w K mg base CX0 1 M.f_Kind_name M.fd_Kind_name P_Kind_name (spE K pre_Kind_name) := by
  refine M.D_Kind_name.fn.ok sc_Kind_name (fun vs H Q E h => ?_) (fun cdv A outer s H vs Q E hr h => ?_)
  · obtain ⟨F, xs, y, _, ar, pr, _⟩ := h
    obtain ⟨v_self, r, rfl, _⟩ := pr
    exact ar.len
  · obtain ⟨F, xs, y, sF, ar, pr, ret⟩ := h
    obtain ⟨v_self, r, rfl, hf, rfl⟩ := pr
    refine ⟨_, (pss_cons (ps_ret (pe_ix (show IxR _ (rIxT K) from ix_tup) (show PE _ _ (tFld K _ _) from pe_fld (pv 0) rfl) pe_int (fun _ _ => rfl)))
     pss_nil), ?_⟩
    unfold fn_Kind_name at hf
    refine run_rt (Kn := fun y => .rt (toD y) []) sF ar ret ?_ hf rfl
    exact (one (es_ret (EvE.cast (y := toD (((v_self).parts).a : Str)) (EvE.cast (y := toD (((v_self).parts).a : Str)) (ev_op (EvE.cast (y := toD ((v_self).parts : (P5 Str Int (Int ⊕ Str) (Option (P2 Int Str)) (Option Str)))) (EvE.cast (y := toD ((v_self).parts : (P5 Str Int (Int ⊕ Str) (Option (P2 Int Str)) (Option Str)))) (ev_fld (c := "Kind") (ev_var rfl) T.cl_Kind T.na_Kind_parts rfl) rfl) rfl) ev_int (rv_ixT rfl)) rfl) rfl) wok0))
def pret_Kind_name : List Ar → D → Prop := fun xs y => ∃ (v_self : Ev.Kind), xs = [.k (toD v_self)] ∧ y = toD (Ev.Kind.name v_self)
theorem tot_Kind_name (x0 : Ev.Kind) : fn_Kind_name x0 = some (Ev.Kind.name x0) := rfl
theorem ok_Kind_name (M : Ds K mg) (T : Txt K mg) : FnOk P w K mg base CX0 1 M.f_Kind_name M.fd_Kind_name P_Kind_name (spE K pret_Kind_name) := (ok_Kind_name' M T).pre fun xs y h => by
  obtain ⟨v_self, rfl, rfl⟩ := h
  exact ⟨_, _, rfl, tot_Kind_name _, rfl⟩
noncomputable def fn_Kind_talks (v_self : Ev.Kind) : Option (Int) :=
  some ((v_self).parts).b
def pre_Kind_talks : List Ar → D → Prop := fun xs y => ∃ (v_self : Ev.Kind) (r : Int), xs = [.k (toD v_self)] ∧ fn_Kind_talks v_self = some r ∧ y = toD r
theorem ok_Kind_talks' (M : Ds K mg) (T : Txt K mg) : FnOk P w K mg base CX0 1 M.f_Kind_talks M.fd_Kind_talks P_Kind_talks (spE K pre_Kind_talks) := by
  refine M.D_Kind_talks.fn.ok sc_Kind_talks (fun vs H Q E h => ?_) (fun cdv A outer s H vs Q E hr h => ?_)
  · obtain ⟨F, xs, y, _, ar, pr, _⟩ := h
    obtain ⟨v_self, r, rfl, _⟩ := pr
    exact ar.len
  · obtain ⟨F, xs, y, sF, ar, pr, ret⟩ := h
    obtain ⟨v_self, r, rfl, hf, rfl⟩ := pr
    refine ⟨_, (pss_cons (ps_ret (pe_ix (show IxR _ (rIxT K) from ix_tup) (show PE _ _ (tFld K _ _) from pe_fld (pv 0) rfl) pe_int (fun _ _ => rfl)))
     pss_nil), ?_⟩
    unfold fn_Kind_talks at hf
    refine run_rt (Kn := fun y => .rt (toD y) []) sF ar ret ?_ hf rfl
    exact (one (es_ret (EvE.cast (y := toD (((v_self).parts).b : Int)) (EvE.cast (y := toD (((v_self).parts).b : Int)) (ev_op (EvE.cast (y := toD ((v_self).parts : (P5 Str Int (Int ⊕ Str) (Option (P2 Int Str)) (Option Str)))) (EvE.cast (y := toD ((v_self).parts : (P5 Str Int (Int ⊕ Str) (Option (P2 Int Str)) (Option Str)))) (ev_fld (c := "Kind") (ev_var rfl) T.cl_Kind T.na_Kind_parts rfl) rfl) rfl) ev_int (rv_ixT rfl)) rfl) rfl) wok0))
def pret_Kind_talks : List Ar → D → Prop := fun xs y => ∃ (v_self : Ev.Kind), xs = [.k (toD v_self)] ∧ y = toD (Ev.Kind.talks v_self)
theorem tot_Kind_talks (x0 : Ev.Kind) : fn_Kind_talks x0 = some (Ev.Kind.talks x0) := rfl
theorem ok_Kind_talks (M : Ds K mg) (T : Txt K mg) : FnOk P w K mg base CX0 1 M.f_Kind_talks M.fd_Kind_talks P_Kind_talks (spE K pret_Kind_talks) := (ok_Kind_talks' M T).pre fun xs y h => by
  obtain ⟨v_self, rfl, rfl⟩ := h
  exact ⟨_, _, rfl, tot_Kind_talks _, rfl⟩
noncomputable def fn_Kind_needs (v_self : Ev.Kind) : Option ((Int ⊕ Str)) :=
  some ((v_self).parts).c
def pre_Kind_needs : List Ar → D → Prop := fun xs y => ∃ (v_self : Ev.Kind) (r : (Int ⊕ Str)), xs = [.k (toD v_self)] ∧ fn_Kind_needs v_self = some r ∧ y = toD r
theorem ok_Kind_needs' (M : Ds K mg) (T : Txt K mg) : FnOk P w K mg base CX0 1 M.f_Kind_needs M.fd_Kind_needs P_Kind_needs (spE K pre_Kind_needs) := by
  refine M.D_Kind_needs.fn.ok sc_Kind_needs (fun vs H Q E h => ?_) (fun cdv A outer s H vs Q E hr h => ?_)
  · obtain ⟨F, xs, y, _, ar, pr, _⟩ := h
    obtain ⟨v_self, r, rfl, _⟩ := pr
    exact ar.len
  · obtain ⟨F, xs, y, sF, ar, pr, ret⟩ := h
    obtain ⟨v_self, r, rfl, hf, rfl⟩ := pr
    refine ⟨_, (pss_cons (ps_ret (pe_ix (show IxR _ (rIxT K) from ix_tup) (show PE _ _ (tFld K _ _) from pe_fld (pv 0) rfl) pe_int (fun _ _ => rfl)))
     pss_nil), ?_⟩
    unfold fn_Kind_needs at hf
    refine run_rt (Kn := fun y => .rt (toD y) []) sF ar ret ?_ hf rfl
    exact (one (es_ret (EvE.cast (y := toD (((v_self).parts).c : (Int ⊕ Str))) (EvE.cast (y := toD (((v_self).parts).c : (Int ⊕ Str))) (ev_op (EvE.cast (y := toD ((v_self).parts : (P5 Str Int (Int ⊕ Str) (Option (P2 Int Str)) (Option Str)))) (EvE.cast (y := toD ((v_self).parts : (P5 Str Int (Int ⊕ Str) (Option (P2 Int Str)) (Option Str)))) (ev_fld (c := "Kind") (ev_var rfl) T.cl_Kind T.na_Kind_parts rfl) rfl) rfl) ev_int (rv_ixT rfl)) rfl) rfl) wok0))
def pret_Kind_needs : List Ar → D → Prop := fun xs y => ∃ (v_self : Ev.Kind), xs = [.k (toD v_self)] ∧ y = toD (Ev.Kind.needs v_self)
theorem tot_Kind_needs (x0 : Ev.Kind) : fn_Kind_needs x0 = some (Ev.Kind.needs x0) := rfl
theorem ok_Kind_needs (M : Ds K mg) (T : Txt K mg) : FnOk P w K mg base CX0 1 M.f_Kind_needs M.fd_Kind_needs P_Kind_needs (spE K pret_Kind_needs) := (ok_Kind_needs' M T).pre fun xs y h => by
  obtain ⟨v_self, rfl, rfl⟩ := h
  exact ⟨_, _, rfl, tot_Kind_needs _, rfl⟩
noncomputable def fn_Kind_closing (v_self : Ev.Kind) : Option ((Option (P2 Int Str))) :=
  some ((v_self).parts).d
def pre_Kind_closing : List Ar → D → Prop := fun xs y => ∃ (v_self : Ev.Kind) (r : (Option (P2 Int Str))), xs = [.k (toD v_self)] ∧ fn_Kind_closing v_self = some r ∧ y = toD r
theorem ok_Kind_closing' (M : Ds K mg) (T : Txt K mg) : FnOk P w K mg base CX0 1 M.f_Kind_closing M.fd_Kind_closing P_Kind_closing (spE K pre_Kind_closing) := by
  refine M.D_Kind_closing.fn.ok sc_Kind_closing (fun vs H Q E h => ?_) (fun cdv A outer s H vs Q E hr h => ?_)
  · obtain ⟨F, xs, y, _, ar, pr, _⟩ := h
    obtain ⟨v_self, r, rfl, _⟩ := pr
    exact ar.len
  · obtain ⟨F, xs, y, sF, ar, pr, ret⟩ := h
    obtain ⟨v_self, r, rfl, hf, rfl⟩ := pr
    refine ⟨_, (pss_cons (ps_ret (pe_ix (show IxR _ (rIxT K) from ix_tup) (show PE _ _ (tFld K _ _) from pe_fld (pv 0) rfl) pe_int (fun _ _ => rfl)))
     pss_nil), ?_⟩
    unfold fn_Kind_closing at hf
    refine run_rt (Kn := fun y => .rt (toD y) []) sF ar ret ?_ hf rfl
    exact (one (es_ret (EvE.cast (y := toD (((v_self).parts).d : (Option (P2 Int Str)))) (EvE.cast (y := toD (((v_self).parts).d : (Option (P2 Int Str)))) (ev_op (EvE.cast (y := toD ((v_self).parts : (P5 Str Int (Int ⊕ Str) (Option (P2 Int Str)) (Option Str)))) (EvE.cast (y := toD ((v_self).parts : (P5 Str Int (Int ⊕ Str) (Option (P2 Int Str)) (Option Str)))) (ev_fld (c := "Kind") (ev_var rfl) T.cl_Kind T.na_Kind_parts rfl) rfl) rfl) ev_int (rv_ixT rfl)) rfl) rfl) wok0))
def pret_Kind_closing : List Ar → D → Prop := fun xs y => ∃ (v_self : Ev.Kind), xs = [.k (toD v_self)] ∧ y = toD (Ev.Kind.closing v_self)
theorem tot_Kind_closing (x0 : Ev.Kind) : fn_Kind_closing x0 = some (Ev.Kind.closing x0) := rfl
theorem ok_Kind_closing (M : Ds K mg) (T : Txt K mg) : FnOk P w K mg base CX0 1 M.f_Kind_closing M.fd_Kind_closing P_Kind_closing (spE K pret_Kind_closing) := (ok_Kind_closing' M T).pre fun xs y h => by
  obtain ⟨v_self, rfl, rfl⟩ := h
  exact ⟨_, _, rfl, tot_Kind_closing _, rfl⟩
noncomputable def fn_Kind_ends (v_self : Ev.Kind) : Option ((Option Str)) :=
  some ((v_self).parts).e
def pre_Kind_ends : List Ar → D → Prop := fun xs y => ∃ (v_self : Ev.Kind) (r : (Option Str)), xs = [.k (toD v_self)] ∧ fn_Kind_ends v_self = some r ∧ y = toD r
theorem ok_Kind_ends' (M : Ds K mg) (T : Txt K mg) : FnOk P w K mg base CX0 1 M.f_Kind_ends M.fd_Kind_ends P_Kind_ends (spE K pre_Kind_ends) := by
  refine M.D_Kind_ends.fn.ok sc_Kind_ends (fun vs H Q E h => ?_) (fun cdv A outer s H vs Q E hr h => ?_)
  · obtain ⟨F, xs, y, _, ar, pr, _⟩ := h
    obtain ⟨v_self, r, rfl, _⟩ := pr
    exact ar.len
  · obtain ⟨F, xs, y, sF, ar, pr, ret⟩ := h
    obtain ⟨v_self, r, rfl, hf, rfl⟩ := pr
    refine ⟨_, (pss_cons (ps_ret (pe_ix (show IxR _ (rIxT K) from ix_tup) (show PE _ _ (tFld K _ _) from pe_fld (pv 0) rfl) pe_int (fun _ _ => rfl)))
     pss_nil), ?_⟩
    unfold fn_Kind_ends at hf
    refine run_rt (Kn := fun y => .rt (toD y) []) sF ar ret ?_ hf rfl
    exact (one (es_ret (EvE.cast (y := toD (((v_self).parts).e : (Option Str))) (EvE.cast (y := toD (((v_self).parts).e : (Option Str))) (ev_op (EvE.cast (y := toD ((v_self).parts : (P5 Str Int (Int ⊕ Str) (Option (P2 Int Str)) (Option Str)))) (EvE.cast (y := toD ((v_self).parts : (P5 Str Int (Int ⊕ Str) (Option (P2 Int Str)) (Option Str)))) (ev_fld (c := "Kind") (ev_var rfl) T.cl_Kind T.na_Kind_parts rfl) rfl) rfl) ev_int (rv_ixT rfl)) rfl) rfl) wok0))
def pret_Kind_ends : List Ar → D → Prop := fun xs y => ∃ (v_self : Ev.Kind), xs = [.k (toD v_self)] ∧ y = toD (Ev.Kind.ends v_self)
theorem tot_Kind_ends (x0 : Ev.Kind) : fn_Kind_ends x0 = some (Ev.Kind.ends x0) := rfl
theorem ok_Kind_ends (M : Ds K mg) (T : Txt K mg) : FnOk P w K mg base CX0 1 M.f_Kind_ends M.fd_Kind_ends P_Kind_ends (spE K pret_Kind_ends) := (ok_Kind_ends' M T).pre fun xs y h => by
  obtain ⟨v_self, rfl, rfl⟩ := h
  exact ⟨_, _, rfl, tot_Kind_ends _, rfl⟩
noncomputable def fn_Row_outer (v_self : Ev.Row) : Option (Str) :=
  some ((v_self).parts).a
def pre_Row_outer : List Ar → D → Prop := fun xs y => ∃ (v_self : Ev.Row) (r : Str), xs = [.k (toD v_self)] ∧ fn_Row_outer v_self = some r ∧ y = toD r
theorem ok_Row_outer' (M : Ds K mg) (T : Txt K mg) : FnOk P w K mg base CX0 1 M.f_Row_outer M.fd_Row_outer P_Row_outer (spE K pre_Row_outer) := by
  refine M.D_Row_outer.fn.ok sc_Row_outer (fun vs H Q E h => ?_) (fun cdv A outer s H vs Q E hr h => ?_)
  · obtain ⟨F, xs, y, _, ar, pr, _⟩ := h
    obtain ⟨v_self, r, rfl, _⟩ := pr
    exact ar.len
  · obtain ⟨F, xs, y, sF, ar, pr, ret⟩ := h
    obtain ⟨v_self, r, rfl, hf, rfl⟩ := pr
    refine ⟨_, (pss_cons (ps_ret (pe_ix (show IxR _ (rIxT K) from ix_tup) (show PE _ _ (tFld K _ _) from pe_fld (pv 0) rfl) pe_int (fun _ _ => rfl)))
     pss_nil), ?_⟩
    unfold fn_Row_outer at hf
    refine run_rt (Kn := fun y => .rt (toD y) []) sF ar ret ?_ hf rfl
    exact (one (es_ret (EvE.cast (y := toD (((v_self).parts).a : Str)) (EvE.cast (y := toD (((v_self).parts).a : Str)) (ev_op (EvE.cast (y := toD ((v_self).parts : (P3 Str Str Str))) (EvE.cast (y := toD ((v_self).parts : (P3 Str Str Str))) (ev_fld (c := "Row") (ev_var rfl) T.cl_Row T.na_Row_parts rfl) rfl) rfl) ev_int (rv_ixT rfl)) rfl) rfl) wok0))
def pret_Row_outer : List Ar → D → Prop := fun xs y => ∃ (v_self : Ev.Row), xs = [.k (toD v_self)] ∧ y = toD (Ev.Row.outer v_self)
theorem tot_Row_outer (x0 : Ev.Row) : fn_Row_outer x0 = some (Ev.Row.outer x0) := rfl
theorem ok_Row_outer (M : Ds K mg) (T : Txt K mg) : FnOk P w K mg base CX0 1 M.f_Row_outer M.fd_Row_outer P_Row_outer (spE K pret_Row_outer) := (ok_Row_outer' M T).pre fun xs y h => by
  obtain ⟨v_self, rfl, rfl⟩ := h
  exact ⟨_, _, rfl, tot_Row_outer _, rfl⟩
noncomputable def fn_Row_inner (v_self : Ev.Row) : Option (Str) :=
  some ((v_self).parts).b
def pre_Row_inner : List Ar → D → Prop := fun xs y => ∃ (v_self : Ev.Row) (r : Str), xs = [.k (toD v_self)] ∧ fn_Row_inner v_self = some r ∧ y = toD r
theorem ok_Row_inner' (M : Ds K mg) (T : Txt K mg) : FnOk P w K mg base CX0 1 M.f_Row_inner M.fd_Row_inner P_Row_inner (spE K pre_Row_inner) := by
  refine M.D_Row_inner.fn.ok sc_Row_inner (fun vs H Q E h => ?_) (fun cdv A outer s H vs Q E hr h => ?_)
  · obtain ⟨F, xs, y, _, ar, pr, _⟩ := h
    obtain ⟨v_self, r, rfl, _⟩ := pr
    exact ar.len
  · obtain ⟨F, xs, y, sF, ar, pr, ret⟩ := h
    obtain ⟨v_self, r, rfl, hf, rfl⟩ := pr
    refine ⟨_, (pss_cons (ps_ret (pe_ix (show IxR _ (rIxT K) from ix_tup) (show PE _ _ (tFld K _ _) from pe_fld (pv 0) rfl) pe_int (fun _ _ => rfl)))
     pss_nil), ?_⟩
    unfold fn_Row_inner at hf
    refine run_rt (Kn := fun y => .rt (toD y) []) sF ar ret ?_ hf rfl
    exact (one (es_ret (EvE.cast (y := toD (((v_self).parts).b : Str)) (EvE.cast (y := toD (((v_self).parts).b : Str)) (ev_op (EvE.cast (y := toD ((v_self).parts : (P3 Str Str Str))) (EvE.cast (y := toD ((v_self).parts : (P3 Str Str Str))) (ev_fld (c := "Row") (ev_var rfl) T.cl_Row T.na_Row_parts rfl) rfl) rfl) ev_int (rv_ixT rfl)) rfl) rfl) wok0))
def pret_Row_inner : List Ar → D → Prop := fun xs y => ∃ (v_self : Ev.Row), xs = [.k (toD v_self)] ∧ y = toD (Ev.Row.inner v_self)
theorem tot_Row_inner (x0 : Ev.Row) : fn_Row_inner x0 = some (Ev.Row.inner x0) := rfl
theorem ok_Row_inner (M : Ds K mg) (T : Txt K mg) : FnOk P w K mg base CX0 1 M.f_Row_inner M.fd_Row_inner P_Row_inner (spE K pret_Row_inner) := (ok_Row_inner' M T).pre fun xs y h => by
  obtain ⟨v_self, rfl, rfl⟩ := h
  exact ⟨_, _, rfl, tot_Row_inner _, rfl⟩
noncomputable def fn_Row_amount (v_self : Ev.Row) : Option (Str) :=
  some ((v_self).parts).c
def pre_Row_amount : List Ar → D → Prop := fun xs y => ∃ (v_self : Ev.Row) (r : Str), xs = [.k (toD v_self)] ∧ fn_Row_amount v_self = some r ∧ y = toD r
theorem ok_Row_amount' (M : Ds K mg) (T : Txt K mg) : FnOk P w K mg base CX0 1 M.f_Row_amount M.fd_Row_amount P_Row_amount (spE K pre_Row_amount) := by
  refine M.D_Row_amount.fn.ok sc_Row_amount (fun vs H Q E h => ?_) (fun cdv A outer s H vs Q E hr h => ?_)
  · obtain ⟨F, xs, y, _, ar, pr, _⟩ := h
    obtain ⟨v_self, r, rfl, _⟩ := pr
    exact ar.len
  · obtain ⟨F, xs, y, sF, ar, pr, ret⟩ := h
    obtain ⟨v_self, r, rfl, hf, rfl⟩ := pr
    refine ⟨_, (pss_cons (ps_ret (pe_ix (show IxR _ (rIxT K) from ix_tup) (show PE _ _ (tFld K _ _) from pe_fld (pv 0) rfl) pe_int (fun _ _ => rfl)))
     pss_nil), ?_⟩
    unfold fn_Row_amount at hf
    refine run_rt (Kn := fun y => .rt (toD y) []) sF ar ret ?_ hf rfl
    exact (one (es_ret (EvE.cast (y := toD (((v_self).parts).c : Str)) (EvE.cast (y := toD (((v_self).parts).c : Str)) (ev_op (EvE.cast (y := toD ((v_self).parts : (P3 Str Str Str))) (EvE.cast (y := toD ((v_self).parts : (P3 Str Str Str))) (ev_fld (c := "Row") (ev_var rfl) T.cl_Row T.na_Row_parts rfl) rfl) rfl) ev_int (rv_ixT rfl)) rfl) rfl) wok0))
def pret_Row_amount : List Ar → D → Prop := fun xs y => ∃ (v_self : Ev.Row), xs = [.k (toD v_self)] ∧ y = toD (Ev.Row.amount v_self)
theorem tot_Row_amount (x0 : Ev.Row) : fn_Row_amount x0 = some (Ev.Row.amount x0) := rfl
theorem ok_Row_amount (M : Ds K mg) (T : Txt K mg) : FnOk P w K mg base CX0 1 M.f_Row_amount M.fd_Row_amount P_Row_amount (spE K pret_Row_amount) := (ok_Row_amount' M T).pre fun xs y h => by
  obtain ⟨v_self, rfl, rfl⟩ := h
  exact ⟨_, _, rfl, tot_Row_amount _, rfl⟩
noncomputable def fn_Rules_kinds (v_self : Ev.Rules) : Option ((Tp Ev.Kind)) :=
  some ((v_self).made).a
def pre_Rules_kinds : List Ar → D → Prop := fun xs y => ∃ (v_self : Ev.Rules) (r : (Tp Ev.Kind)), xs = [.k (toD v_self)] ∧ fn_Rules_kinds v_self = some r ∧ y = toD r
theorem ok_Rules_kinds' (M : Ds K mg) (T : Txt K mg) : FnOk P w K mg base CX0 1 M.f_Rules_kinds M.fd_Rules_kinds P_Rules_kinds (spE K pre_Rules_kinds) := by
  refine M.D_Rules_kinds.fn.ok sc_Rules_kinds (fun vs H Q E h => ?_) (fun cdv A outer s H vs Q E hr h => ?_)
  · obtain ⟨F, xs, y, _, ar, pr, _⟩ := h
    obtain ⟨v_self, r, rfl, _⟩ := pr
    exact ar.len
  · obtain ⟨F, xs, y, sF, ar, pr, ret⟩ := h
    obtain ⟨v_self, r, rfl, hf, rfl⟩ := pr
    refine ⟨_, (pss_cons (ps_ret (pe_ix (show IxR _ (rIxT K) from ix_tup) (show PE _ _ (tFld K _ _) from pe_fld (pv 0) rfl) pe_int (fun _ _ => rfl)))
     pss_nil), ?_⟩
    unfold fn_Rules_kinds at hf
    refine run_rt (Kn := fun y => .rt (toD y) []) sF ar ret ?_ hf rfl
    exact (one (es_ret (EvE.cast (y := toD (((v_self).made).a : (Tp Ev.Kind))) (EvE.cast (y := toD (((v_self).made).a : (Tp Ev.Kind))) (ev_op (EvE.cast (y := toD ((v_self).made : (P2 (Tp Ev.Kind) (Tp Ev.Row)))) (EvE.cast (y := toD ((v_self).made : (P2 (Tp Ev.Kind) (Tp Ev.Row)))) (ev_fld (c := "Rules") (ev_var rfl) T.cl_Rules T.na_Rules_made rfl) rfl) rfl) ev_int (rv_ixT rfl)) rfl) rfl) wok0))
def pret_Rules_kinds : List Ar → D → Prop := fun xs y => ∃ (v_self : Ev.Rules), xs = [.k (toD v_self)] ∧ y = toD (Ev.Rules.kinds v_self)
theorem tot_Rules_kinds (x0 : Ev.Rules) : fn_Rules_kinds x0 = some (Ev.Rules.kinds x0) := rfl
theorem ok_Rules_kinds (M : Ds K mg) (T : Txt K mg) : FnOk P w K mg base CX0 1 M.f_Rules_kinds M.fd_Rules_kinds P_Rules_kinds (spE K pret_Rules_kinds) := (ok_Rules_kinds' M T).pre fun xs y h => by
  obtain ⟨v_self, rfl, rfl⟩ := h
  exact ⟨_, _, rfl, tot_Rules_kinds _, rfl⟩
noncomputable def fn_Rules_rows (v_self : Ev.Rules) : Option ((Tp Ev.Row)) :=
  some ((v_self).made).b
def pre_Rules_rows : List Ar → D → Prop := fun xs y => ∃ (v_self : Ev.Rules) (r : (Tp Ev.Row)), xs = [.k (toD v_self)] ∧ fn_Rules_rows v_self = some r ∧ y = toD r
theorem ok_Rules_rows' (M : Ds K mg) (T : Txt K mg) : FnOk P w K mg base CX0 1 M.f_Rules_rows M.fd_Rules_rows P_Rules_rows (spE K pre_Rules_rows) := by
  refine M.D_Rules_rows.fn.ok sc_Rules_rows (fun vs H Q E h => ?_) (fun cdv A outer s H vs Q E hr h => ?_)
  · obtain ⟨F, xs, y, _, ar, pr, _⟩ := h
    obtain ⟨v_self, r, rfl, _⟩ := pr
    exact ar.len
  · obtain ⟨F, xs, y, sF, ar, pr, ret⟩ := h
    obtain ⟨v_self, r, rfl, hf, rfl⟩ := pr
    refine ⟨_, (pss_cons (ps_ret (pe_ix (show IxR _ (rIxT K) from ix_tup) (show PE _ _ (tFld K _ _) from pe_fld (pv 0) rfl) pe_int (fun _ _ => rfl)))
     pss_nil), ?_⟩
    unfold fn_Rules_rows at hf
    refine run_rt (Kn := fun y => .rt (toD y) []) sF ar ret ?_ hf rfl
    exact (one (es_ret (EvE.cast (y := toD (((v_self).made).b : (Tp Ev.Row))) (EvE.cast (y := toD (((v_self).made).b : (Tp Ev.Row))) (ev_op (EvE.cast (y := toD ((v_self).made : (P2 (Tp Ev.Kind) (Tp Ev.Row)))) (EvE.cast (y := toD ((v_self).made : (P2 (Tp Ev.Kind) (Tp Ev.Row)))) (ev_fld (c := "Rules") (ev_var rfl) T.cl_Rules T.na_Rules_made rfl) rfl) rfl) ev_int (rv_ixT rfl)) rfl) rfl) wok0))
def pret_Rules_rows : List Ar → D → Prop := fun xs y => ∃ (v_self : Ev.Rules), xs = [.k (toD v_self)] ∧ y = toD (Ev.Rules.rows v_self)
theorem tot_Rules_rows (x0 : Ev.Rules) : fn_Rules_rows x0 = some (Ev.Rules.rows x0) := rfl
theorem ok_Rules_rows (M : Ds K mg) (T : Txt K mg) : FnOk P w K mg base CX0 1 M.f_Rules_rows M.fd_Rules_rows P_Rules_rows (spE K pret_Rules_rows) := (ok_Rules_rows' M T).pre fun xs y h => by
  obtain ⟨v_self, rfl, rfl⟩ := h
  exact ⟨_, _, rfl, tot_Rules_rows _, rfl⟩
noncomputable def fn_line_of_kind (v_kind : Ev.Kind) : Option (Str) :=
  (if Str.length (Ev.Kind.name (v_kind)) ≤ sizeLine then
     (if JsOk Str.empty [("motion " : Str), (Ev.Kind.name (v_kind))] then
     (((if (decide ((0 : Int) < (Ev.Kind.talks (v_kind)))) = true then
     (if ((Ev.Kind.talks (v_kind))).natAbs.log2 < 1920 then
     (if JsOk Str.empty [(" talks " : Str), (strI (Ev.Kind.talks (v_kind)))] then
     (if Str.length (js Str.empty [("motion " : Str), (Ev.Kind.name (v_kind))]) + Str.length (js Str.empty [(" talks " : Str), (strI (Ev.Kind.talks (v_kind)))]) ≤ sizeLine then
     some ((js Str.empty [("motion " : Str), (Ev.Kind.name (v_kind))]) ++ (js Str.empty [(" talks " : Str), (strI (Ev.Kind.talks (v_kind)))])) else none) else none) else none) else
     some (js Str.empty [("motion " : Str), (Ev.Kind.name (v_kind))])) : Option (Str)).bind fun (s3 : Str) =>
     ((fn_is_integer ((toD ((Ev.Kind.needs (v_kind)) : (Int ⊕ Str))))).bind fun r8 =>
     ((if (!r8) = true then some true else ((getL ((Ev.Kind.needs (v_kind)) : (Int ⊕ Str))).bind fun r10 => some (decide ((1 : Int) < r10)))).bind fun r11 =>
     (((if r11 = true then
     ((fmtE (Ev.Kind.needs (v_kind))).bind fun r13 =>
     (if JsOk Str.empty [(" needs " : Str), r13] then
     (if Str.length s3 + Str.length (js Str.empty [(" needs " : Str), r13]) ≤ sizeLine then
     some (s3 ++ (js Str.empty [(" needs " : Str), r13])) else none) else none)) else
     some s3) : Option (Str)).bind fun (s12 : Str) =>
     (((if (!((Ev.Kind.closing (v_kind))).isNone) = true then
     ((((Ev.Kind.closing (v_kind)) : (Option (P2 Int Str)))).bind fun r18 =>
     (if (r18.a).natAbs.log2 < 1920 then
     (if Str.length r18.b ≤ sizeLine then
     (if JsOk Str.empty [(" closed after " : Str), (strI r18.a), (" by " : Str), r18.b] then
     (if Str.length s12 + Str.length (js Str.empty [(" closed after " : Str), (strI r18.a), (" by " : Str), r18.b]) ≤ sizeLine then
     some (s12 ++ (js Str.empty [(" closed after " : Str), (strI r18.a), (" by " : Str), r18.b])) else none) else none) else none) else none)) else
     some s12) : Option (Str)).bind fun (s17 : Str) =>
     ((if (((Ev.Kind.ends (v_kind))).isNone) = true then some s17 else ((((Ev.Kind.ends (v_kind)) : (Option Str))).bind fun r24 => (if Str.length r24 ≤ sizeLine then (if JsOk Str.empty [(" ends by " : Str), r24] then (if Str.length s17 + Str.length (js Str.empty [(" ends by " : Str), r24]) ≤ sizeLine then some (s17 ++ (js Str.empty [(" ends by " : Str), r24])) else none) else none) else none))).bind fun r29 =>
     some r29)))))) else none) else none)
def pre_line_of_kind : List Ar → D → Prop := fun xs y => ∃ (v_kind : Ev.Kind) (r : Str), xs = [.k (toD v_kind)] ∧ fn_line_of_kind v_kind = some r ∧ y = toD r
theorem ok_line_of_kind (M : Ds K mg) (T : Txt K mg) : FnOk P w K mg base CX0 3 M.f_line_of_kind M.fd_line_of_kind P_line_of_kind (spE K pre_line_of_kind) := by
  refine M.D_line_of_kind.fn.ok sc_line_of_kind (fun vs H Q E h => ?_) (fun cdv A outer s H vs Q E hr h => ?_)
  · obtain ⟨F, xs, y, _, ar, pr, _⟩ := h
    obtain ⟨v_kind, r, rfl, _⟩ := pr
    exact ar.len
  · obtain ⟨F, xs, y, sF, ar, pr, ret⟩ := h
    obtain ⟨v_kind, r, rfl, hf, rfl⟩ := pr
    refine ⟨_, (pss_cons (ps_asg (pe_joined (.cons pe_str (.cons (pe_fmt (pe_propD (pv 0) T.cl_Kind M.D_Kind_name.pr (ok_Kind_name M T) M.D_Kind_name.bd (hr.mono (by decide)))) .nil))) (pg_name (i := 1) sc_line_of_kind.nd rfl (.inl rfl)))
     (pss_cons (ps_if (pt_cmpR op_gt (pe_propD (pv 0) T.cl_Kind M.D_Kind_talks.pr (ok_Kind_talks M T) M.D_Kind_talks.bd (hr.mono (by decide))) pe_int (nomark _))
     (pss_cons (ps_aug (i := 1) sc_line_of_kind.nd rfl (.inl rfl) (pe_joined (.cons pe_str (.cons (pe_fmt (pe_propD (pv 0) T.cl_Kind M.D_Kind_talks.pr (ok_Kind_talks M T) M.D_Kind_talks.bd (hr.mono (by decide)))) .nil))) iop_add_str)
     pss_nil)
     pss_nil)
     (pss_cons (ps_if (PW.pt (pw_or (pt_not (pt_val (pe_call (ok_is_integer M T) (hr.mono (by decide)) rfl M.D_is_integer.mg M.D_is_integer.fn.kp M.D_is_integer.bd .nil pass0 (pa_cons (pe_propD (pv 0) T.cl_Kind M.D_Kind_needs.pr (ok_Kind_needs M T) M.D_Kind_needs.bd (hr.mono (by decide))) pa_nil)))) (pw_or1 (pt_cmpR op_gt (pe_propD (pv 0) T.cl_Kind M.D_Kind_needs.pr (ok_Kind_needs M T) M.D_Kind_needs.bd (hr.mono (by decide))) pe_int (nomark _)))))
     (pss_cons (ps_aug (i := 1) sc_line_of_kind.nd rfl (.inl rfl) (pe_joined (.cons pe_str (.cons (pe_fmt (pe_propD (pv 0) T.cl_Kind M.D_Kind_needs.pr (ok_Kind_needs M T) M.D_Kind_needs.bd (hr.mono (by decide)))) .nil))) iop_add_str)
     pss_nil)
     pss_nil)
     (pss_cons (ps_if (pt_cmpR op_notN (pe_propD (pv 0) T.cl_Kind M.D_Kind_closing.pr (ok_Kind_closing M T) M.D_Kind_closing.bd (hr.mono (by decide))) pe_non (nomark _))
     (pss_cons (ps_asg (pe_propD (pv 0) T.cl_Kind M.D_Kind_closing.pr (ok_Kind_closing M T) M.D_Kind_closing.bd (hr.mono (by decide))) (pg_tup (by rfl) (pgs_cons (pg_name (i := 2) sc_line_of_kind.nd rfl (.inl rfl)) (pgs_cons (pg_name (i := 3) sc_line_of_kind.nd rfl (.inl rfl)) pgs_nil))))
     (pss_cons (ps_aug (i := 1) sc_line_of_kind.nd rfl (.inl rfl) (pe_joined (.cons pe_str (.cons (pe_fmt (pv 2)) (.cons pe_str (.cons (pe_fmt (pv 3)) .nil))))) iop_add_str)
     pss_nil))
     pss_nil)
     (pss_cons (ps_ret (pe_ifExp (pt_cmpR op_isN (pe_propD (pv 0) T.cl_Kind M.D_Kind_ends.pr (ok_Kind_ends M T) M.D_Kind_ends.bd (hr.mono (by decide))) pe_non (nomark _)) (pv 1) (pe_op op_add_str (pv 1) (pe_joined (.cons pe_str (.cons (pe_fmt (pe_propD (pv 0) T.cl_Kind M.D_Kind_ends.pr (ok_Kind_ends M T) M.D_Kind_ends.bd (hr.mono (by decide)))) .nil))))))
     pss_nil))))), ?_⟩
    unfold fn_line_of_kind at hf
    refine run_rt (Kn := fun y => .rt (toD y) []) sF ar ret ?_ hf rfl
    exact (grd fun h1 =>
     (grd fun h2 =>
     (es_seq (Γ1 := [.d (toD v_kind), .d (toD ((js Str.empty [("motion " : Str), (Ev.Kind.name (v_kind))]) : Str)), .u, .u]) (es_asg (EvE.cast (y := toD ((js Str.empty [("motion " : Str), (Ev.Kind.name (v_kind))]) : Str)) (ev_joined (ej_cons (EvE.cast (y := toD (("motion " : Str) : Str)) ev_str rfl) (ej_cons (ev_fmtS (EvE.cast (y := toD ((Ev.Kind.name (v_kind)) : Str)) (ev_prop (c := "Kind") (ev_var rfl) ⟨_, rfl, rfl⟩) rfl) h1) ej_nil)) h2) rfl) eg_name)
     (es_join (G := fun (s3 : Str) => [.d (toD v_kind), .d (toD s3), .u, .u]) (es_if (Γ1 := [.d (toD v_kind), .d (toD ((js Str.empty [("motion " : Str), (Ev.Kind.name (v_kind))]) : Str)), .u, .u]) (et_test (ev_op (EvE.cast (y := toD ((Ev.Kind.talks (v_kind)) : Int)) (ev_prop (c := "Kind") (ev_var rfl) ⟨_, rfl, rfl⟩) rfl) (EvE.cast (y := toD ((0 : Int) : Int)) ev_int rfl) rv_B0)) (fun b7 => (grd fun h4 =>
     (grd fun h5 =>
     (grd fun h6 =>
     (es_seq (Γ1 := [.d (toD v_kind), .d (toD (((js Str.empty [("motion " : Str), (Ev.Kind.name (v_kind))]) ++ (js Str.empty [(" talks " : Str), (strI (Ev.Kind.talks (v_kind)))])) : Str)), .u, .u]) (es_augS (x := (js Str.empty [("motion " : Str), (Ev.Kind.name (v_kind))])) (y := (js Str.empty [(" talks " : Str), (strI (Ev.Kind.talks (v_kind)))])) rfl (ev_joined (ej_cons (EvE.cast (y := toD ((" talks " : Str) : Str)) ev_str rfl) (ej_cons (ev_fmtI (EvE.cast (y := toD ((Ev.Kind.talks (v_kind)) : Int)) (ev_prop (c := "Kind") (ev_var rfl) ⟨_, rfl, rfl⟩) rfl) h4) ej_nil)) h5) h6)
     (one (es_endN (by repeat first | exact .nil | apply Wk.keep | apply Wk.drop)))))))) (fun b7 => (one (es_endN (by repeat first | exact .nil | apply Wk.keep | apply Wk.drop))))) fun s3 _ =>
     (bnd fun r8 hr8 =>
     (bnd fun r11 hr11 =>
     (es_join (G := fun (s12 : Str) => [.d (toD v_kind), .d (toD s12), .u, .u]) (es_if (Γ1 := [.d (toD v_kind), .d (toD s3), .u, .u]) (et_orM hr11 (et_not (et_b (ev_call (ap_k (EvE.cast (y := toD ((toD ((Ev.Kind.needs (v_kind)) : (Int ⊕ Str))) : D)) (EvE.cast (y := toD ((Ev.Kind.needs (v_kind)) : (Int ⊕ Str))) (ev_prop (c := "Kind") (ev_var rfl) ⟨_, rfl, rfl⟩) rfl) rfl) ap_nil) ⟨_, _, rfl, hr8, rfl⟩))) fun b9 => (fun _ e0 => by obtain ⟨r10, hr10, e0⟩ := bind_some e0; exact (by have e0 := Option.some.inj e0; subst e0; exact (et_test (ev_op (EvE.cast (y := toD r10) (EvE.cast (y := toD r10) (EvE.cast (y := toD ((Ev.Kind.needs (v_kind)) : (Int ⊕ Str))) (ev_prop (c := "Kind") (ev_var rfl) ⟨_, rfl, rfl⟩) rfl) (getL_toD hr10)) rfl) (EvE.cast (y := toD ((1 : Int) : Int)) ev_int rfl) rv_B0))))) (fun b16 => (bnd fun r13 hr13 =>
     (grd fun h14 =>
     (grd fun h15 =>
     (es_seq (Γ1 := [.d (toD v_kind), .d (toD ((s3 ++ (js Str.empty [(" needs " : Str), r13])) : Str)), .u, .u]) (es_augS (x := s3) (y := (js Str.empty [(" needs " : Str), r13])) rfl (ev_joined (ej_cons (EvE.cast (y := toD ((" needs " : Str) : Str)) ev_str rfl) (ej_cons (ev_fmtE (EvE.cast (y := toD ((Ev.Kind.needs (v_kind)) : (Int ⊕ Str))) (ev_prop (c := "Kind") (ev_var rfl) ⟨_, rfl, rfl⟩) rfl) hr13) ej_nil)) h14) h15)
     (one (es_endN (by repeat first | exact .nil | apply Wk.keep | apply Wk.drop)))))))) (fun b16 => (one (es_endN (by repeat first | exact .nil | apply Wk.keep | apply Wk.drop))))) fun s12 _ =>
     (es_join (G := fun (s17 : Str) => [.d (toD v_kind), .d (toD s17), .u, .u]) (es_if (Γ1 := [.d (toD v_kind), .d (toD s12), .u, .u]) (et_test (ev_notN (EvE.cast (y := toD ((Ev.Kind.closing (v_kind)) : (Option (P2 Int Str)))) (ev_prop (c := "Kind") (ev_var rfl) ⟨_, rfl, rfl⟩) rfl))) (fun b23 => (bnd fun r18 hr18 =>
     (es_seq (Γ1 := [.d (toD v_kind), .d (toD s12), .d (toD r18.a), .d (toD r18.b)]) (es_asg (EvE.cast (y := toD r18) (EvE.cast (y := toD r18) (EvE.cast (y := toD ((Ev.Kind.closing (v_kind)) : (Option (P2 Int Str)))) (ev_prop (c := "Kind") (ev_var rfl) ⟨_, rfl, rfl⟩) rfl) (by rw [hr18]; rfl)) rfl) (eg_tup (egs_cons eg_name (egs_cons eg_name egs_nil)) rfl))
     (grd fun h19 =>
     (grd fun h20 =>
     (grd fun h21 =>
     (grd fun h22 =>
     (es_seq (Γ1 := [.d (toD v_kind), .d (toD ((s12 ++ (js Str.empty [(" closed after " : Str), (strI r18.a), (" by " : Str), r18.b])) : Str)), .d (toD r18.a), .d (toD r18.b)]) (es_augS (x := s12) (y := (js Str.empty [(" closed after " : Str), (strI r18.a), (" by " : Str), r18.b])) rfl (ev_joined (ej_cons (EvE.cast (y := toD ((" closed after " : Str) : Str)) ev_str rfl) (ej_cons (ev_fmtI (ev_var rfl) h19) (ej_cons (EvE.cast (y := toD ((" by " : Str) : Str)) ev_str rfl) (ej_cons (ev_fmtS (ev_var rfl) h20) ej_nil)))) h21) h22)
     (one (es_endN (by repeat first | exact .nil | apply Wk.keep | apply Wk.drop))))))))))) (fun b23 => (one (es_endN (by repeat first | exact .nil | apply Wk.keep | apply Wk.drop))))) fun s17 _ =>
     (bnd fun r29 hr29 =>
     (one (es_ret (EvE.cast (y := toD r29) (ev_ifM1 hr29 (et_test (ev_isN (EvE.cast (y := toD ((Ev.Kind.ends (v_kind)) : (Option Str))) (ev_prop (c := "Kind") (ev_var rfl) ⟨_, rfl, rfl⟩) rfl))) (fun b28 => (fun _ e0 => by have e0 := Option.some.inj e0; subst e0; exact (ev_var rfl))) (fun b28 => (fun _ e0 => by obtain ⟨r24, hr24, e0⟩ := bind_some e0; exact (by obtain ⟨h25, e0⟩ := ite_some e0; exact (by obtain ⟨h26, e0⟩ := ite_some e0; exact (by obtain ⟨h27, e0⟩ := ite_some e0; exact (by have e0 := Option.some.inj e0; subst e0; exact (EvE.cast (y := toD ((s17 ++ (js Str.empty [(" ends by " : Str), r24])) : Str)) (ev_op (ev_var rfl) (ev_joined (ej_cons (EvE.cast (y := toD ((" ends by " : Str) : Str)) ev_str rfl) (ej_cons (ev_fmtS (EvE.cast (y := toD r24) (EvE.cast (y := toD r24) (EvE.cast (y := toD ((Ev.Kind.ends (v_kind)) : (Option Str))) (ev_prop (c := "Kind") (ev_var rfl) ⟨_, rfl, rfl⟩) rfl) (by rw [hr24]; rfl)) rfl) h25) ej_nil)) h26) (rv_addS h27)) rfl)))))))) rfl) wok0)))))))))))
noncomputable def fn_line_of_row (v_row : Ev.Row) : Option (Str) :=
  (if Str.length (Ev.Row.outer (v_row)) ≤ sizeLine then
     (if Str.length (Ev.Row.inner (v_row)) ≤ sizeLine then
     (if Str.length (Ev.Row.amount (v_row)) ≤ sizeLine then
     (if JsOk Str.empty [("under " : Str), (Ev.Row.outer (v_row)), (" " : Str), (Ev.Row.inner (v_row)), (" " : Str), (Ev.Row.amount (v_row))] then
     some (js Str.empty [("under " : Str), (Ev.Row.outer (v_row)), (" " : Str), (Ev.Row.inner (v_row)), (" " : Str), (Ev.Row.amount (v_row))]) else none) else none) else none) else none)
def pre_line_of_row : List Ar → D → Prop := fun xs y => ∃ (v_row : Ev.Row) (r : Str), xs = [.k (toD v_row)] ∧ fn_line_of_row v_row = some r ∧ y = toD r
theorem ok_line_of_row (M : Ds K mg) (T : Txt K mg) : FnOk P w K mg base CX0 3 M.f_line_of_row M.fd_line_of_row P_line_of_row (spE K pre_line_of_row) := by
  refine M.D_line_of_row.fn.ok sc_line_of_row (fun vs H Q E h => ?_) (fun cdv A outer s H vs Q E hr h => ?_)
  · obtain ⟨F, xs, y, _, ar, pr, _⟩ := h
    obtain ⟨v_row, r, rfl, _⟩ := pr
    exact ar.len
  · obtain ⟨F, xs, y, sF, ar, pr, ret⟩ := h
    obtain ⟨v_row, r, rfl, hf, rfl⟩ := pr
    refine ⟨_, (pss_cons (ps_ret (pe_joined (.cons pe_str (.cons (pe_fmt (pe_propD (pv 0) T.cl_Row M.D_Row_outer.pr (ok_Row_outer M T) M.D_Row_outer.bd (hr.mono (by decide)))) (.cons pe_str (.cons (pe_fmt (pe_propD (pv 0) T.cl_Row M.D_Row_inner.pr (ok_Row_inner M T) M.D_Row_inner.bd (hr.mono (by decide)))) (.cons pe_str (.cons (pe_fmt (pe_propD (pv 0) T.cl_Row M.D_Row_amount.pr (ok_Row_amount M T) M.D_Row_amount.bd (hr.mono (by decide)))) .nil))))))))
     pss_nil), ?_⟩
    unfold fn_line_of_row at hf
    refine run_rt (Kn := fun y => .rt (toD y) []) sF ar ret ?_ hf rfl
    exact (grd fun h1 =>
     (grd fun h2 =>
     (grd fun h3 =>
     (grd fun h4 =>
     (one (es_ret (EvE.cast (y := toD ((js Str.empty [("under " : Str), (Ev.Row.outer (v_row)), (" " : Str), (Ev.Row.inner (v_row)), (" " : Str), (Ev.Row.amount (v_row))]) : Str)) (ev_joined (ej_cons (EvE.cast (y := toD (("under " : Str) : Str)) ev_str rfl) (ej_cons (ev_fmtS (EvE.cast (y := toD ((Ev.Row.outer (v_row)) : Str)) (ev_prop (c := "Row") (ev_var rfl) ⟨_, rfl, rfl⟩) rfl) h1) (ej_cons (EvE.cast (y := toD ((" " : Str) : Str)) ev_str rfl) (ej_cons (ev_fmtS (EvE.cast (y := toD ((Ev.Row.inner (v_row)) : Str)) (ev_prop (c := "Row") (ev_var rfl) ⟨_, rfl, rfl⟩) rfl) h2) (ej_cons (EvE.cast (y := toD ((" " : Str) : Str)) ev_str rfl) (ej_cons (ev_fmtS (EvE.cast (y := toD ((Ev.Row.amount (v_row)) : Str)) (ev_prop (c := "Row") (ev_var rfl) ⟨_, rfl, rfl⟩) rfl) h3) ej_nil)))))) h4) rfl) wok0))))))
noncomputable def fn_after_number (v_words : (List Str)) (v_marks : (List Str)) (v_most : Int) : Option ((P2 (Option Int) (List Str))) :=
  (if EqOk (toD ((cutL v_words none (some ((v_marks.length : Nat) : Int))) : (List Str))) (toD v_marks) then
     (if ((!dEq (toD ((cutL v_words none (some ((v_marks.length : Nat) : Int))) : (List Str))) (toD v_marks)) || (decide (((v_words.length : Nat) : Int) ≤ ((v_marks.length : Nat) : Int)))) = true then
     some (⟨(none : (Option Int)), v_words⟩ : (P2 (Option Int) (List Str))) else
     ((atI v_words ((v_marks.length : Nat) : Int)).bind fun r4 =>
     ((fn_number_of (r4) (v_most)).bind fun r5 =>
     some (if ((r5).isNone) = true then (⟨(none : (Option Int)), v_words⟩ : (P2 (Option Int) (List Str))) else (⟨r5, (cutL v_words (some (((v_marks.length : Nat) : Int) + (1 : Int))) none)⟩ : (P2 (Option Int) (List Str))))))) else none)
def pre_after_number : List Ar → D → Prop := fun xs y => ∃ (v_words : (List Str)) (v_marks : (List Str)) (v_most : Int) (r : (P2 (Option Int) (List Str))), xs = [.k (toD v_words), .k (toD v_marks), .k (toD v_most)] ∧ fn_after_number v_words v_marks v_most = some r ∧ y = toD r
theorem ok_after_number (M : Ds K mg) (T : Txt K mg) : FnOk P w K mg base CX0 2 M.f_after_number M.fd_after_number P_after_number (spE K pre_after_number) := by
  refine M.D_after_number.fn.ok sc_after_number (fun vs H Q E h => ?_) (fun cdv A outer s H vs Q E hr h => ?_)
  · obtain ⟨F, xs, y, _, ar, pr, _⟩ := h
    obtain ⟨v_words, v_marks, v_most, r, rfl, _⟩ := pr
    exact ar.len
  · obtain ⟨F, xs, y, sF, ar, pr, ret⟩ := h
    obtain ⟨v_words, v_marks, v_most, r, rfl, hf, rfl⟩ := pr
    refine ⟨_, (pss_cons (ps_asg (pe_callB (show CallR _ (.builtin "len") (rLen1 K) from call_len_seq) (by rfl) T.len (by decide +kernel) (pa_cons (pv 1) pa_nil)) (pg_name (i := 3) sc_after_number.nd rfl (.inl rfl)))
     (pss_cons (ps_if (PW.pt (pw_or (pt_cmpR (op_neD hr.units) (pe_slice (r := rSlL K) sl_list (pv 0) po_none (po_some (pv 3))) (pv 1) (nomark _)) (pw_or1 (pt_cmpR op_le (pe_callB (show CallR _ (.builtin "len") (rLen1 K) from call_len_seq) (by rfl) T.len (by decide +kernel) (pa_cons (pv 0) pa_nil)) (pv 3) (nomark _)))))
     (pss_cons (ps_ret (pe_tup (pa_cons pe_non (pa_cons (pv 0) pa_nil))))
     pss_nil)
     pss_nil)
     (pss_cons (ps_asg (pe_call (ok_number_of M T) (hr.mono (by decide)) rfl M.D_number_of.mg M.D_number_of.fn.kp M.D_number_of.bd .nil pass0 (pa_cons (pe_ix (show IxR _ (rIxL K) from ix_list) (pv 0) (pv 3) (fun _ _ => rfl)) (pa_cons (pv 2) pa_nil))) (pg_name (i := 4) sc_after_number.nd rfl (.inl rfl)))
     (pss_cons (ps_ret (pe_ifExp (pt_cmpR op_isN (pv 4) pe_non (nomark _)) (pe_tup (pa_cons pe_non (pa_cons (pv 0) pa_nil))) (pe_tup (pa_cons (pv 4) (pa_cons (pe_slice (r := rSlL K) sl_list (pv 0) (po_some (pe_op op_add (pv 3) pe_int)) po_none) pa_nil)))))
     pss_nil)))), ?_⟩
    unfold fn_after_number at hf
    refine run_rt (Kn := fun y => .rt (toD y) []) sF ar ret ?_ hf rfl
    exact (es_seq (Γ1 := [.d (toD v_words), .d (toD v_marks), .d (toD v_most), .d (toD (((v_marks.length : Nat) : Int) : Int)), .u]) (es_asg (EvE.cast (y := toD (((v_marks.length : Nat) : Int) : Int)) (EvE.cast (y := toD (((v_marks.length : Nat) : Int) : Int)) (ev_lenL (EvE.r (ev_var rfl) (.lst _))) (by simp [toD, Rp.d])) rfl) eg_name)
     (grd fun h1 =>
     (es_ifq (Γ1 := [.d (toD v_words), .d (toD v_marks), .d (toD v_most), .d (toD (((v_marks.length : Nat) : Int) : Int)), .u]) (et_or (et_test (ev_op (EvE.cast (y := toD ((cutL v_words none (some ((v_marks.length : Nat) : Int))) : (List Str))) (EvO.e (EvO.cast (y := toD ((cutL v_words none (some ((v_marks.length : Nat) : Int))) : (List Str))) (evo_slL (ev_var rfl) eo_none (eo_some (ev_var rfl))) (congrArg D.lst (cutL_map toD _ _ _)))) rfl) (ev_var rfl) (rv_neD h1))) fun b2 => (et_test (ev_op (EvE.cast (y := toD (((v_words.length : Nat) : Int) : Int)) (EvE.cast (y := toD (((v_words.length : Nat) : Int) : Int)) (ev_lenL (EvE.r (ev_var rfl) (.lst _))) (by simp [toD, Rp.d])) rfl) (EvE.cast (y := toD (((v_marks.length : Nat) : Int) : Int)) (ev_var rfl) rfl) rv_B0)))
     (fun b3 => (es_assoc
     (one (es_ret (EvE.cast (y := toD ((⟨(none : (Option Int)), v_words⟩ : (P2 (Option Int) (List Str))) : (P2 (Option Int) (List Str)))) (EvE.cast (y := toD (⟨(none : (Option Int)), v_words⟩ : (P2 (Option Int) (List Str)))) (ev_tup (ea_cons (EvE.cast (y := toD ((none : (Option Int)) : (Option Int))) (EvE.cast (y := toD none) ev_non rfl) rfl) (ea_cons (ev_var rfl) ea_nil)) (by show 2 ≤ sizeLine; decide)) rfl) rfl) wok0))))
     (fun b3 => (es_skip
     (bnd fun r4 hr4 =>
     (bnd fun r5 hr5 =>
     (es_seq (Γ1 := [.d (toD v_words), .d (toD v_marks), .d (toD v_most), .d (toD (((v_marks.length : Nat) : Int) : Int)), .d (toD r5)]) (es_asg (EvE.cast (y := toD r5) (ev_call (ap_k (EvE.cast (y := toD r4) (ev_op (ev_var rfl) (ev_var rfl) (rv_ixL (at_map toD hr4))) rfl) (ap_k (ev_var rfl) ap_nil)) ⟨_, _, _, rfl, hr5, rfl⟩) rfl) eg_name)
     (one (es_ret (EvE.cast (y := toD ((if ((r5).isNone) = true then (⟨(none : (Option Int)), v_words⟩ : (P2 (Option Int) (List Str))) else (⟨r5, (cutL v_words (some (((v_marks.length : Nat) : Int) + (1 : Int))) none)⟩ : (P2 (Option Int) (List Str)))) : (P2 (Option Int) (List Str)))) (ev_ifP (et_test (ev_isN (ev_var rfl))) (fun b6 => (EvE.cast (y := toD ((⟨(none : (Option Int)), v_words⟩ : (P2 (Option Int) (List Str))) : (P2 (Option Int) (List Str)))) (EvE.cast (y := toD (⟨(none : (Option Int)), v_words⟩ : (P2 (Option Int) (List Str)))) (ev_tup (ea_cons (EvE.cast (y := toD ((none : (Option Int)) : (Option Int))) (EvE.cast (y := toD none) ev_non rfl) rfl) (ea_cons (ev_var rfl) ea_nil)) (by show 2 ≤ sizeLine; decide)) rfl) rfl)) (fun b6 => (EvE.cast (y := toD ((⟨r5, (cutL v_words (some (((v_marks.length : Nat) : Int) + (1 : Int))) none)⟩ : (P2 (Option Int) (List Str))) : (P2 (Option Int) (List Str)))) (EvE.cast (y := toD (⟨r5, (cutL v_words (some (((v_marks.length : Nat) : Int) + (1 : Int))) none)⟩ : (P2 (Option Int) (List Str)))) (ev_tup (ea_cons (ev_var rfl) (ea_cons (EvE.cast (y := toD ((cutL v_words (some (((v_marks.length : Nat) : Int) + (1 : Int))) none) : (List Str))) (EvO.e (EvO.cast (y := toD ((cutL v_words (some (((v_marks.length : Nat) : Int) + (1 : Int))) none) : (List Str))) (evo_slL (ev_var rfl) (eo_some (ev_op (ev_var rfl) ev_int rv_I0)) eo_none) (congrArg D.lst (cutL_map toD _ _ _)))) rfl) ea_nil)) (by show 2 ≤ sizeLine; decide)) rfl) rfl))) rfl) wok0))))))))))
noncomputable def fn_after_bound (v_words : (List Str)) (v_marks : (List Str)) : Option ((P2 (Option Str) (List Str))) :=
  (if EqOk (toD ((cutL v_words (some ((v_marks.length : Nat) : Int)) (some (((v_marks.length : Nat) : Int) + (1 : Int)))) : (List Str))) (toD (([("over" : Str)] : (List Str)) : (List Str))) then
     (if (List.map (fun x => Str.length x) (cutL v_words (some ((v_marks.length : Nat) : Int)) (some (((v_marks.length : Nat) : Int) + (if (dEq (toD ((cutL v_words (some ((v_marks.length : Nat) : Int)) (some (((v_marks.length : Nat) : Int) + (1 : Int)))) : (List Str))) (toD (([("over" : Str)] : (List Str)) : (List Str)))) = true then (2 : Int) else (1 : Int)))))).sum + List.length (cutL v_words (some ((v_marks.length : Nat) : Int)) (some (((v_marks.length : Nat) : Int) + (if (dEq (toD ((cutL v_words (some ((v_marks.length : Nat) : Int)) (some (((v_marks.length : Nat) : Int) + (1 : Int)))) : (List Str))) (toD (([("over" : Str)] : (List Str)) : (List Str)))) = true then (2 : Int) else (1 : Int))))) * Str.length (" " : Str) ≤ 16777216 then
     (if EqOk (toD ((cutL v_words none (some ((v_marks.length : Nat) : Int))) : (List Str))) (toD v_marks) then
     ((if (dEq (toD ((cutL v_words none (some ((v_marks.length : Nat) : Int))) : (List Str))) (toD v_marks)) = true then ((fn_is_bound ((toD ((PySem.Txt.join (" " : Str) (cutL v_words (some ((v_marks.length : Nat) : Int)) (some (((v_marks.length : Nat) : Int) + (if (dEq (toD ((cutL v_words (some ((v_marks.length : Nat) : Int)) (some (((v_marks.length : Nat) : Int) + (1 : Int)))) : (List Str))) (toD (([("over" : Str)] : (List Str)) : (List Str)))) = true then (2 : Int) else (1 : Int)))))) : Str)))).bind fun r6 => some r6) else some false).bind fun r7 =>
     some (if r7 = true then (⟨(some (PySem.Txt.join (" " : Str) (cutL v_words (some ((v_marks.length : Nat) : Int)) (some (((v_marks.length : Nat) : Int) + (if (dEq (toD ((cutL v_words (some ((v_marks.length : Nat) : Int)) (some (((v_marks.length : Nat) : Int) + (1 : Int)))) : (List Str))) (toD (([("over" : Str)] : (List Str)) : (List Str)))) = true then (2 : Int) else (1 : Int)))))) : (Option Str)), (cutL v_words (some (((v_marks.length : Nat) : Int) + (if (dEq (toD ((cutL v_words (some ((v_marks.length : Nat) : Int)) (some (((v_marks.length : Nat) : Int) + (1 : Int)))) : (List Str))) (toD (([("over" : Str)] : (List Str)) : (List Str)))) = true then (2 : Int) else (1 : Int)))) none)⟩ : (P2 (Option Str) (List Str))) else (⟨(none : (Option Str)), v_words⟩ : (P2 (Option Str) (List Str))))) else none) else none) else none)
def pre_after_bound : List Ar → D → Prop := fun xs y => ∃ (v_words : (List Str)) (v_marks : (List Str)) (r : (P2 (Option Str) (List Str))), xs = [.k (toD v_words), .k (toD v_marks)] ∧ fn_after_bound v_words v_marks = some r ∧ y = toD r
theorem ok_after_bound (M : Ds K mg) (T : Txt K mg) : FnOk P w K mg base CX0 4 M.f_after_bound M.fd_after_bound P_after_bound (spE K pre_after_bound) := by
  refine M.D_after_bound.fn.ok sc_after_bound (fun vs H Q E h => ?_) (fun cdv A outer s H vs Q E hr h => ?_)
  · obtain ⟨F, xs, y, _, ar, pr, _⟩ := h
    obtain ⟨v_words, v_marks, r, rfl, _⟩ := pr
    exact ar.len
  · obtain ⟨F, xs, y, sF, ar, pr, ret⟩ := h
    obtain ⟨v_words, v_marks, r, rfl, hf, rfl⟩ := pr
    refine ⟨_, (pss_cons (ps_asg (pe_callB (show CallR _ (.builtin "len") (rLen1 K) from call_len_seq) (by rfl) T.len (by decide +kernel) (pa_cons (pv 1) pa_nil)) (pg_name (i := 2) sc_after_bound.nd rfl (.inl rfl)))
     (pss_cons (ps_asg (pe_ifExp (pt_cmpR (op_eqD hr.units) (pe_slice (r := rSlL K) sl_list (pv 0) (po_some (pv 2)) (po_some (pe_op op_add (pv 2) pe_int))) (pe_lst (pa_cons pe_str pa_nil)) (nomark _)) pe_int pe_int) (pg_name (i := 3) sc_after_bound.nd rfl (.inl rfl)))
     (pss_cons (ps_asg (pe_join pe_str (pe_slice (r := rSlL K) sl_list (pv 0) (po_some (pv 2)) (po_some (pe_op op_add (pv 2) (pv 3))))) (pg_name (i := 4) sc_after_bound.nd rfl (.inl rfl)))
     (pss_cons (ps_ret (pe_ifExp (PW.pt (pw_and (pt_cmpR (op_eqD hr.units) (pe_slice (r := rSlL K) sl_list (pv 0) po_none (po_some (pv 2))) (pv 1) (nomark _)) (pw_and1 (pt_val (pe_call (ok_is_bound M T) (hr.mono (by decide)) rfl M.D_is_bound.mg M.D_is_bound.fn.kp M.D_is_bound.bd .nil pass0 (pa_cons (pv 4) pa_nil)))))) (pe_tup (pa_cons (pv 4) (pa_cons (pe_slice (r := rSlL K) sl_list (pv 0) (po_some (pe_op op_add (pv 2) (pv 3))) po_none) pa_nil))) (pe_tup (pa_cons pe_non (pa_cons (pv 0) pa_nil)))))
     pss_nil)))), ?_⟩
    unfold fn_after_bound at hf
    refine run_rt (Kn := fun y => .rt (toD y) []) sF ar ret ?_ hf rfl
    exact (es_seq (Γ1 := [.d (toD v_words), .d (toD v_marks), .d (toD (((v_marks.length : Nat) : Int) : Int)), .u, .u]) (es_asg (EvE.cast (y := toD (((v_marks.length : Nat) : Int) : Int)) (EvE.cast (y := toD (((v_marks.length : Nat) : Int) : Int)) (ev_lenL (EvE.r (ev_var rfl) (.lst _))) (by simp [toD, Rp.d])) rfl) eg_name)
     (grd fun h1 =>
     (es_seq (Γ1 := [.d (toD v_words), .d (toD v_marks), .d (toD (((v_marks.length : Nat) : Int) : Int)), .d (toD ((if (dEq (toD ((cutL v_words (some ((v_marks.length : Nat) : Int)) (some (((v_marks.length : Nat) : Int) + (1 : Int)))) : (List Str))) (toD (([("over" : Str)] : (List Str)) : (List Str)))) = true then (2 : Int) else (1 : Int)) : Int)), .u]) (es_asg (EvE.cast (y := toD ((if (dEq (toD ((cutL v_words (some ((v_marks.length : Nat) : Int)) (some (((v_marks.length : Nat) : Int) + (1 : Int)))) : (List Str))) (toD (([("over" : Str)] : (List Str)) : (List Str)))) = true then (2 : Int) else (1 : Int)) : Int)) (ev_ifP (et_test (ev_op (EvE.cast (y := toD ((cutL v_words (some ((v_marks.length : Nat) : Int)) (some (((v_marks.length : Nat) : Int) + (1 : Int)))) : (List Str))) (EvO.e (EvO.cast (y := toD ((cutL v_words (some ((v_marks.length : Nat) : Int)) (some (((v_marks.length : Nat) : Int) + (1 : Int)))) : (List Str))) (evo_slL (ev_var rfl) (eo_some (ev_var rfl)) (eo_some (ev_op (ev_var rfl) ev_int rv_I0))) (congrArg D.lst (cutL_map toD _ _ _)))) rfl) (EvE.cast (y := toD (([("over" : Str)] : (List Str)) : (List Str))) (EvO.e (EvO.cast (y := toD ([("over" : Str)] : (List Str))) (evo_lst (ea_cons (EvE.cast (y := toD (("over" : Str) : Str)) ev_str rfl) ea_nil) (by show 1 ≤ sizeLine; decide)) rfl)) rfl) (rv_eqD h1))) (fun b2 => (EvE.cast (y := toD ((2 : Int) : Int)) ev_int rfl)) (fun b2 => (EvE.cast (y := toD ((1 : Int) : Int)) ev_int rfl))) rfl) eg_name)
     (grd fun h3 =>
     (es_seq (Γ1 := [.d (toD v_words), .d (toD v_marks), .d (toD (((v_marks.length : Nat) : Int) : Int)), .d (toD ((if (dEq (toD ((cutL v_words (some ((v_marks.length : Nat) : Int)) (some (((v_marks.length : Nat) : Int) + (1 : Int)))) : (List Str))) (toD (([("over" : Str)] : (List Str)) : (List Str)))) = true then (2 : Int) else (1 : Int)) : Int)), .d (toD ((PySem.Txt.join (" " : Str) (cutL v_words (some ((v_marks.length : Nat) : Int)) (some (((v_marks.length : Nat) : Int) + (if (dEq (toD ((cutL v_words (some ((v_marks.length : Nat) : Int)) (some (((v_marks.length : Nat) : Int) + (1 : Int)))) : (List Str))) (toD (([("over" : Str)] : (List Str)) : (List Str)))) = true then (2 : Int) else (1 : Int)))))) : Str))]) (es_asg (EvE.cast (y := toD ((PySem.Txt.join (" " : Str) (cutL v_words (some ((v_marks.length : Nat) : Int)) (some (((v_marks.length : Nat) : Int) + (if (dEq (toD ((cutL v_words (some ((v_marks.length : Nat) : Int)) (some (((v_marks.length : Nat) : Int) + (1 : Int)))) : (List Str))) (toD (([("over" : Str)] : (List Str)) : (List Str)))) = true then (2 : Int) else (1 : Int)))))) : Str)) (ev_join (ys := (cutL v_words (some ((v_marks.length : Nat) : Int)) (some (((v_marks.length : Nat) : Int) + (if (dEq (toD ((cutL v_words (some ((v_marks.length : Nat) : Int)) (some (((v_marks.length : Nat) : Int) + (1 : Int)))) : (List Str))) (toD (([("over" : Str)] : (List Str)) : (List Str)))) = true then (2 : Int) else (1 : Int)))))) ev_str (EvE.r (EvE.cast (y := toD ((cutL v_words (some ((v_marks.length : Nat) : Int)) (some (((v_marks.length : Nat) : Int) + (if (dEq (toD ((cutL v_words (some ((v_marks.length : Nat) : Int)) (some (((v_marks.length : Nat) : Int) + (1 : Int)))) : (List Str))) (toD (([("over" : Str)] : (List Str)) : (List Str)))) = true then (2 : Int) else (1 : Int))))) : (List Str))) (EvO.e (EvO.cast (y := toD ((cutL v_words (some ((v_marks.length : Nat) : Int)) (some (((v_marks.length : Nat) : Int) + (if (dEq (toD ((cutL v_words (some ((v_marks.length : Nat) : Int)) (some (((v_marks.length : Nat) : Int) + (1 : Int)))) : (List Str))) (toD (([("over" : Str)] : (List Str)) : (List Str)))) = true then (2 : Int) else (1 : Int))))) : (List Str))) (evo_slL (ev_var rfl) (eo_some (ev_var rfl)) (eo_some (ev_op (ev_var rfl) (ev_var rfl) rv_I0))) (congrArg D.lst (cutL_map toD _ _ _)))) rfl) (.lst _)) h3) rfl) eg_name)
     (grd fun h4 =>
     (bnd fun r7 hr7 =>
     (one (es_ret (EvE.cast (y := toD ((if r7 = true then (⟨(some (PySem.Txt.join (" " : Str) (cutL v_words (some ((v_marks.length : Nat) : Int)) (some (((v_marks.length : Nat) : Int) + (if (dEq (toD ((cutL v_words (some ((v_marks.length : Nat) : Int)) (some (((v_marks.length : Nat) : Int) + (1 : Int)))) : (List Str))) (toD (([("over" : Str)] : (List Str)) : (List Str)))) = true then (2 : Int) else (1 : Int)))))) : (Option Str)), (cutL v_words (some (((v_marks.length : Nat) : Int) + (if (dEq (toD ((cutL v_words (some ((v_marks.length : Nat) : Int)) (some (((v_marks.length : Nat) : Int) + (1 : Int)))) : (List Str))) (toD (([("over" : Str)] : (List Str)) : (List Str)))) = true then (2 : Int) else (1 : Int)))) none)⟩ : (P2 (Option Str) (List Str))) else (⟨(none : (Option Str)), v_words⟩ : (P2 (Option Str) (List Str)))) : (P2 (Option Str) (List Str)))) (ev_ifP (et_andM hr7 (et_test (ev_op (EvE.cast (y := toD ((cutL v_words none (some ((v_marks.length : Nat) : Int))) : (List Str))) (EvO.e (EvO.cast (y := toD ((cutL v_words none (some ((v_marks.length : Nat) : Int))) : (List Str))) (evo_slL (ev_var rfl) eo_none (eo_some (ev_var rfl))) (congrArg D.lst (cutL_map toD _ _ _)))) rfl) (ev_var rfl) (rv_eqD h4))) fun b5 => (fun _ e0 => by obtain ⟨r6, hr6, e0⟩ := bind_some e0; exact (by have e0 := Option.some.inj e0; subst e0; exact (et_b (ev_call (ap_k (EvE.cast (y := toD ((toD ((PySem.Txt.join (" " : Str) (cutL v_words (some ((v_marks.length : Nat) : Int)) (some (((v_marks.length : Nat) : Int) + (if (dEq (toD ((cutL v_words (some ((v_marks.length : Nat) : Int)) (some (((v_marks.length : Nat) : Int) + (1 : Int)))) : (List Str))) (toD (([("over" : Str)] : (List Str)) : (List Str)))) = true then (2 : Int) else (1 : Int)))))) : Str)) : D)) (EvE.cast (y := toD ((PySem.Txt.join (" " : Str) (cutL v_words (some ((v_marks.length : Nat) : Int)) (some (((v_marks.length : Nat) : Int) + (if (dEq (toD ((cutL v_words (some ((v_marks.length : Nat) : Int)) (some (((v_marks.length : Nat) : Int) + (1 : Int)))) : (List Str))) (toD (([("over" : Str)] : (List Str)) : (List Str)))) = true then (2 : Int) else (1 : Int)))))) : Str)) (ev_var rfl) rfl) rfl) ap_nil) ⟨_, _, rfl, hr6, rfl⟩))))) (fun b8 => (EvE.cast (y := toD ((⟨(some (PySem.Txt.join (" " : Str) (cutL v_words (some ((v_marks.length : Nat) : Int)) (some (((v_marks.length : Nat) : Int) + (if (dEq (toD ((cutL v_words (some ((v_marks.length : Nat) : Int)) (some (((v_marks.length : Nat) : Int) + (1 : Int)))) : (List Str))) (toD (([("over" : Str)] : (List Str)) : (List Str)))) = true then (2 : Int) else (1 : Int)))))) : (Option Str)), (cutL v_words (some (((v_marks.length : Nat) : Int) + (if (dEq (toD ((cutL v_words (some ((v_marks.length : Nat) : Int)) (some (((v_marks.length : Nat) : Int) + (1 : Int)))) : (List Str))) (toD (([("over" : Str)] : (List Str)) : (List Str)))) = true then (2 : Int) else (1 : Int)))) none)⟩ : (P2 (Option Str) (List Str))) : (P2 (Option Str) (List Str)))) (EvE.cast (y := toD (⟨(some (PySem.Txt.join (" " : Str) (cutL v_words (some ((v_marks.length : Nat) : Int)) (some (((v_marks.length : Nat) : Int) + (if (dEq (toD ((cutL v_words (some ((v_marks.length : Nat) : Int)) (some (((v_marks.length : Nat) : Int) + (1 : Int)))) : (List Str))) (toD (([("over" : Str)] : (List Str)) : (List Str)))) = true then (2 : Int) else (1 : Int)))))) : (Option Str)), (cutL v_words (some (((v_marks.length : Nat) : Int) + (if (dEq (toD ((cutL v_words (some ((v_marks.length : Nat) : Int)) (some (((v_marks.length : Nat) : Int) + (1 : Int)))) : (List Str))) (toD (([("over" : Str)] : (List Str)) : (List Str)))) = true then (2 : Int) else (1 : Int)))) none)⟩ : (P2 (Option Str) (List Str)))) (ev_tup (ea_cons (EvE.cast (y := toD ((some (PySem.Txt.join (" " : Str) (cutL v_words (some ((v_marks.length : Nat) : Int)) (some (((v_marks.length : Nat) : Int) + (if (dEq (toD ((cutL v_words (some ((v_marks.length : Nat) : Int)) (some (((v_marks.length : Nat) : Int) + (1 : Int)))) : (List Str))) (toD (([("over" : Str)] : (List Str)) : (List Str)))) = true then (2 : Int) else (1 : Int)))))) : (Option Str)) : (Option Str))) (EvE.cast (y := toD (some (PySem.Txt.join (" " : Str) (cutL v_words (some ((v_marks.length : Nat) : Int)) (some (((v_marks.length : Nat) : Int) + (if (dEq (toD ((cutL v_words (some ((v_marks.length : Nat) : Int)) (some (((v_marks.length : Nat) : Int) + (1 : Int)))) : (List Str))) (toD (([("over" : Str)] : (List Str)) : (List Str)))) = true then (2 : Int) else (1 : Int)))))) : (Option Str))) (ev_var rfl) rfl) rfl) (ea_cons (EvE.cast (y := toD ((cutL v_words (some (((v_marks.length : Nat) : Int) + (if (dEq (toD ((cutL v_words (some ((v_marks.length : Nat) : Int)) (some (((v_marks.length : Nat) : Int) + (1 : Int)))) : (List Str))) (toD (([("over" : Str)] : (List Str)) : (List Str)))) = true then (2 : Int) else (1 : Int)))) none) : (List Str))) (EvO.e (EvO.cast (y := toD ((cutL v_words (some (((v_marks.length : Nat) : Int) + (if (dEq (toD ((cutL v_words (some ((v_marks.length : Nat) : Int)) (some (((v_marks.length : Nat) : Int) + (1 : Int)))) : (List Str))) (toD (([("over" : Str)] : (List Str)) : (List Str)))) = true then (2 : Int) else (1 : Int)))) none) : (List Str))) (evo_slL (ev_var rfl) (eo_some (ev_op (ev_var rfl) (ev_var rfl) rv_I0)) eo_none) (congrArg D.lst (cutL_map toD _ _ _)))) rfl) ea_nil)) (by show 2 ≤ sizeLine; decide)) rfl) rfl)) (fun b8 => (EvE.cast (y := toD ((⟨(none : (Option Str)), v_words⟩ : (P2 (Option Str) (List Str))) : (P2 (Option Str) (List Str)))) (EvE.cast (y := toD (⟨(none : (Option Str)), v_words⟩ : (P2 (Option Str) (List Str)))) (ev_tup (ea_cons (EvE.cast (y := toD ((none : (Option Str)) : (Option Str))) (EvE.cast (y := toD none) ev_non rfl) rfl) (ea_cons (ev_var rfl) ea_nil)) (by show 2 ≤ sizeLine; decide)) rfl) rfl))) rfl) wok0)))))))))
end L
namespace L
open PySem L2 Hv Ev
variable {P : Program} {w : World} {K : PySem.W.Frag} {mg : Str → Option Value} {base : Heap}
noncomputable def fn_check_kinds (v_kinds : (Tp Ev.Kind)) : Option ((List Str)) :=
  (if ((!true) || (List.isEmpty (v_kinds).l)) = true then
     none else
     ((forS (fun (s3 : (List Str)) (x4 : (P2 Int Ev.Kind)) =>
     (if ((!true) || (((isIn (Ev.Kind.name (x4.b)) s3)) || (decide (x4.a = (6 : Int))))) = true then
     none else
     (if List.length s3 < sizeLine then
     some (s3 ++ [(Ev.Kind.name (x4.b))]) else none))) ([] : (List Str)) (enP v_kinds.l)).bind fun (s3 : (List Str)) =>
     some s3))
def pre_check_kinds : List Ar → D → Prop := fun xs y => ∃ (v_kinds : (Tp Ev.Kind)) (r : (List Str)), xs = [.k (toD v_kinds)] ∧ fn_check_kinds v_kinds = some r ∧ y = toD r
theorem ok_check_kinds (M : Ds K mg) (T : Txt K mg) : FnOk P w K mg base CX0 3 M.f_check_kinds M.fd_check_kinds P_check_kinds (spE K pre_check_kinds) := by
  refine M.D_check_kinds.fn.ok sc_check_kinds (fun vs H Q E h => ?_) (fun cdv A outer s H vs Q E hr h => ?_)
  · obtain ⟨F, xs, y, _, ar, pr, _⟩ := h
    obtain ⟨v_kinds, r, rfl, _⟩ := pr
    exact ar.len
  · obtain ⟨F, xs, y, sF, ar, pr, ret⟩ := h
    obtain ⟨v_kinds, r, rfl, hf, rfl⟩ := pr
    refine ⟨_, (pss_cons (ps_if (PW.pt (pw_or (pt_not (pt_val (pe_callB (show CallR _ (.builtin "isinstance") (rIsi K) from call_isi) (by rfl) T.isinstance (by decide +kernel) (pa_cons (pv 0) (pa_cons (pe_bltn (v := .ty "tuple") (u := .type "tuple") (by rfl) T.tuple (by decide +kernel) rfl) pa_nil))))) (pw_or1 (pt_cmpR (op_eqE hr.units) (pv 0) (pe_tup pa_nil) (nomark _)))))
     (pss_cons ps_never
     pss_nil)
     pss_nil)
     (pss_cons (ps_asg (pe_lst pa_nil) (pg_name (i := 1) sc_check_kinds.nd rfl (.inl rfl)))
     (pss_cons (ps_for PassesOwn.never rfl (pi_enumT (by rfl) T.enumerate (pa_cons (pv 0) pa_nil)) (pg_tup (by rfl) (pgs_cons (pg_name (i := 2) sc_check_kinds.nd rfl (.inl rfl)) (pgs_cons (pg_name (i := 3) sc_check_kinds.nd rfl (.inl rfl)) pgs_nil)))
     (pss_cons (ps_if (PW.pt (pw_or (pt_not (pt_val (pe_callB (show CallR _ (.builtin "isinstance") (rIsi K) from call_isi) (by rfl) T.isinstance (by decide +kernel) (pa_cons (pv 3) (pa_cons (pe_glob (v := .ref (cA K "Kind")) rfl T.mg_Kind rfl) pa_nil))))) (pw_or (pt_cmpR (show OpR _ (compareOp .In) (rIn K false) from op_in_seq) (pe_propD (pv 3) T.cl_Kind M.D_Kind_name.pr (ok_Kind_name M T) M.D_Kind_name.bd (hr.mono (by decide))) (pv 1) (by rfl)) (pw_or1 (pt_cmpR op_eq (pv 2) (pe_glob (v := .int 6) rfl T.cMOST_KINDS.choose_spec ⟨_, rfl⟩) (nomark _))))))
     (pss_cons ps_never
     pss_nil)
     pss_nil)
     (pss_cons (ps_expr (pe_bm PySem.F.plainAttrs_list PySem.F.slot_list_append PySem.F.type_list_append mt_append (pv 1) (pa_cons (pe_propD (pv 3) T.cl_Kind M.D_Kind_name.pr (ok_Kind_name M T) M.D_Kind_name.bd (hr.mono (by decide))) pa_nil)))
     pss_nil)))
     (pss_cons (ps_ret (pv 1))
     pss_nil)))), ?_⟩
    unfold fn_check_kinds at hf
    refine run_rt (Kn := fun y => .rt (toD y) []) sF ar ret ?_ hf rfl
    exact (es_ifq (Γ1 := [.d (toD v_kinds), .u, .u, .u]) (et_or (et_not (et_b (ev_isi (n := "tuple") (ev_var rfl) rfl (kit_ty (by decide +kernel))))) fun b1 => (et_test (ev_isNilT (ev_var rfl))))
     (fun b2 => (es_assoc
     out_none))
     (fun b2 => (es_skip
     (es_seq (Γ1 := [.d (toD v_kinds), .own 0 (toD (([] : (List Str)) : (List Str))), .u, .u]) (es_asgO (EvO.cast (y := toD ([] : (List Str))) (evo_lst ea_nil (by show 0 ≤ sizeLine; decide)) rfl))
     (es_join (G := fun (s3 : (List Str)) => [.d (toD v_kinds), .own 0 (toD s3), .u, .u]) (es_forS (fD := toD) (G := fun (s3 : (List Str)) => [.d (toD v_kinds), .own 0 (toD s3), .u, .u]) (G' := fun (s3 : (List Str)) (x4 : (P2 Int Ev.Kind)) => [.d (toD v_kinds), .own 0 (toD s3), .d (toD x4.a), .d (toD x4.b)]) (ei_enumT (ev_var rfl)) (by repeat first | exact .nil | apply Wk.keep | apply Wk.drop) (fun s3 x4 => (eg_tup (egs_cons eg_name (egs_cons eg_name egs_nil)) rfl)) (fun s3 x4 =>
     (es_ifq (Γ1 := [.d (toD v_kinds), .own 0 (toD s3), .d (toD x4.a), .d (toD x4.b)]) (et_or (et_not (et_b (ev_isiC (c := "Kind") (ev_var rfl) T.is_Kind))) fun b5 => (et_or (et_test (ev_inL0 (EvE.cast (y := toD ((Ev.Kind.name (x4.b)) : Str)) (ev_prop (c := "Kind") (ev_var rfl) ⟨_, rfl, rfl⟩) rfl) (evr_var (x := toD s3) (by first | exact .o 0 rfl | exact .d rfl) (.lst _)))) fun b6 => (et_test (ev_op (ev_var rfl) (EvE.cast (y := toD ((6 : Int) : Int)) ev_int rfl) rv_eqI))))
     (fun b7 => (es_assoc
     out_none))
     (fun b7 => (es_skip
     (grd fun h8 =>
     (es_seq (Γ1 := [.d (toD v_kinds), .own 0 (toD ((s3 ++ [(Ev.Kind.name (x4.b))]) : (List Str))), .d (toD x4.a), .d (toD x4.b)]) (EvS1.cast (es_append (i := 1) (xs := List.map toD s3) rfl (EvE.cast (y := toD ((Ev.Kind.name (x4.b)) : Str)) (ev_prop (c := "Kind") (ev_var rfl) ⟨_, rfl, rfl⟩) rfl) rfl (by simpa using h8)) (by simp [toD, Rp.d]))
     (one (es_end (by repeat first | exact .nil | apply Wk.keep | apply Wk.drop)))))))))) fun s3 _ =>
     (EvS.freeze 1 rfl
     (one (es_ret (ev_var rfl) wok0))))))))
noncomputable def fn_check_rows (v_rows : (Tp Ev.Row)) (v_names : (List Str)) : Option (Unit) :=
  (if (!true) = true then
     none else
     ((forS (fun (s2 : (List (P2 Str Str))) (x3 : (P2 Int Ev.Row)) =>
     (if ((!true) || ((!(isIn (Ev.Row.outer (x3.b)) v_names)) || (!(isIn (Ev.Row.inner (x3.b)) v_names)))) = true then
     none else
     (if EqOk (toD ((⟨(Ev.Row.outer (x3.b)), (Ev.Row.inner (x3.b))⟩ : (P2 Str Str)) : (P2 Str Str))) (.lst (List.map toD s2)) then
     (if (inD (toD ((⟨(Ev.Row.outer (x3.b)), (Ev.Row.inner (x3.b))⟩ : (P2 Str Str)) : (P2 Str Str))) (List.map toD s2)) = true then
     none else
     (if List.length s2 < sizeLine then
     some (s2 ++ [(⟨(Ev.Row.outer (x3.b)), (Ev.Row.inner (x3.b))⟩ : (P2 Str Str))]) else none)) else none))) ([] : (List (P2 Str Str))) (enP v_rows.l)).bind fun (s2 : (List (P2 Str Str))) =>
     some ()))
def pre_check_rows : List Ar → D → Prop := fun xs y => ∃ (v_rows : (Tp Ev.Row)) (v_names : (List Str)) (r : Unit), xs = [.k (toD v_rows), .k (toD v_names)] ∧ fn_check_rows v_rows v_names = some r ∧ y = toD r
theorem ok_check_rows (M : Ds K mg) (T : Txt K mg) : FnOk P w K mg base CX0 3 M.f_check_rows M.fd_check_rows P_check_rows (spE K pre_check_rows) := by
  refine M.D_check_rows.fn.ok sc_check_rows (fun vs H Q E h => ?_) (fun cdv A outer s H vs Q E hr h => ?_)
  · obtain ⟨F, xs, y, _, ar, pr, _⟩ := h
    obtain ⟨v_rows, v_names, r, rfl, _⟩ := pr
    exact ar.len
  · obtain ⟨F, xs, y, sF, ar, pr, ret⟩ := h
    obtain ⟨v_rows, v_names, r, rfl, hf, rfl⟩ := pr
    refine ⟨_, (pss_cons (ps_if (pt_not (pt_val (pe_callB (show CallR _ (.builtin "isinstance") (rIsi K) from call_isi) (by rfl) T.isinstance (by decide +kernel) (pa_cons (pv 0) (pa_cons (pe_bltn (v := .ty "tuple") (u := .type "tuple") (by rfl) T.tuple (by decide +kernel) rfl) pa_nil)))))
     (pss_cons ps_never
     pss_nil)
     pss_nil)
     (pss_cons (ps_asg (pe_lst pa_nil) (pg_name (i := 2) sc_check_rows.nd rfl (.inl rfl)))
     (pss_cons (ps_for PassesOwn.never rfl (pi_enumT (by rfl) T.enumerate (pa_cons (pv 0) pa_nil)) (pg_tup (by rfl) (pgs_cons (pg_name (i := 3) sc_check_rows.nd rfl (.inl rfl)) (pgs_cons (pg_name (i := 4) sc_check_rows.nd rfl (.inl rfl)) pgs_nil)))
     (pss_cons (ps_if (PW.pt (pw_or (pt_not (pt_val (pe_callB (show CallR _ (.builtin "isinstance") (rIsi K) from call_isi) (by rfl) T.isinstance (by decide +kernel) (pa_cons (pv 4) (pa_cons (pe_glob (v := .ref (cA K "Row")) rfl T.mg_Row rfl) pa_nil))))) (pw_or (pt_cmpR (show OpR _ (compareOp .NotIn) (rIn K true) from op_notIn_seq) (pe_propD (pv 4) T.cl_Row M.D_Row_outer.pr (ok_Row_outer M T) M.D_Row_outer.bd (hr.mono (by decide))) (pv 1) (by rfl)) (pw_or1 (pt_cmpR (show OpR _ (compareOp .NotIn) (rIn K true) from op_notIn_seq) (pe_propD (pv 4) T.cl_Row M.D_Row_inner.pr (ok_Row_inner M T) M.D_Row_inner.bd (hr.mono (by decide))) (pv 1) (by rfl))))))
     (pss_cons ps_never
     pss_nil)
     pss_nil)
     (pss_cons (ps_if (pt_cmpR (op_inD (units65 hr)) (pe_tup (pa_cons (pe_propD (pv 4) T.cl_Row M.D_Row_outer.pr (ok_Row_outer M T) M.D_Row_outer.bd (hr.mono (by decide))) (pa_cons (pe_propD (pv 4) T.cl_Row M.D_Row_inner.pr (ok_Row_inner M T) M.D_Row_inner.bd (hr.mono (by decide))) pa_nil))) (pv 2) (by rfl))
     (pss_cons ps_never
     pss_nil)
     pss_nil)
     (pss_cons (ps_expr (pe_bm PySem.F.plainAttrs_list PySem.F.slot_list_append PySem.F.type_list_append mt_append (pv 2) (pa_cons (pe_tup (pa_cons (pe_propD (pv 4) T.cl_Row M.D_Row_outer.pr (ok_Row_outer M T) M.D_Row_outer.bd (hr.mono (by decide))) (pa_cons (pe_propD (pv 4) T.cl_Row M.D_Row_inner.pr (ok_Row_inner M T) M.D_Row_inner.bd (hr.mono (by decide))) pa_nil))) pa_nil)))
     pss_nil))))
     pss_nil))), ?_⟩
    unfold fn_check_rows at hf
    refine run_fl (Kn := fun _ => .nx [.u, .u, .u, .u, .u]) sF ar ret ?_ hf rfl
    exact (es_ifq (Γ1 := [.d (toD v_rows), .d (toD v_names), .u, .u, .u]) (et_not (et_b (ev_isi (n := "tuple") (ev_var rfl) rfl (kit_ty (by decide +kernel)))))
     (fun b1 => (es_assoc
     out_none))
     (fun b1 => (es_skip
     (es_seq (Γ1 := [.d (toD v_rows), .d (toD v_names), .own 0 (toD (([] : (List (P2 Str Str))) : (List (P2 Str Str)))), .u, .u]) (es_asgO (EvO.cast (y := toD ([] : (List (P2 Str Str)))) (evo_lst ea_nil (by show 0 ≤ sizeLine; decide)) rfl))
     (es_join (G := fun (s2 : (List (P2 Str Str))) => [.d (toD v_rows), .d (toD v_names), .own 0 (toD s2), .u, .u]) (es_forS (fD := toD) (G := fun (s2 : (List (P2 Str Str))) => [.d (toD v_rows), .d (toD v_names), .own 0 (toD s2), .u, .u]) (G' := fun (s2 : (List (P2 Str Str))) (x3 : (P2 Int Ev.Row)) => [.d (toD v_rows), .d (toD v_names), .own 0 (toD s2), .d (toD x3.a), .d (toD x3.b)]) (ei_enumT (ev_var rfl)) (by repeat first | exact .nil | apply Wk.keep | apply Wk.drop) (fun s2 x3 => (eg_tup (egs_cons eg_name (egs_cons eg_name egs_nil)) rfl)) (fun s2 x3 =>
     (es_ifq (Γ1 := [.d (toD v_rows), .d (toD v_names), .own 0 (toD s2), .d (toD x3.a), .d (toD x3.b)]) (et_or (et_not (et_b (ev_isiC (c := "Row") (ev_var rfl) T.is_Row))) fun b4 => (et_or (et_test (ev_inL1 (EvE.cast (y := toD ((Ev.Row.outer (x3.b)) : Str)) (ev_prop (c := "Row") (ev_var rfl) ⟨_, rfl, rfl⟩) rfl) (EvE.r (ev_var rfl) (.lst _)))) fun b5 => (et_test (ev_inL1 (EvE.cast (y := toD ((Ev.Row.inner (x3.b)) : Str)) (ev_prop (c := "Row") (ev_var rfl) ⟨_, rfl, rfl⟩) rfl) (EvE.r (ev_var rfl) (.lst _))))))
     (fun b6 => (es_assoc
     out_none))
     (fun b6 => (es_skip
     (grd fun h7 =>
     (es_ifq (Γ1 := [.d (toD v_rows), .d (toD v_names), .own 0 (toD s2), .d (toD x3.a), .d (toD x3.b)]) (et_test (ev_inD (EvE.cast (y := toD ((⟨(Ev.Row.outer (x3.b)), (Ev.Row.inner (x3.b))⟩ : (P2 Str Str)) : (P2 Str Str))) (EvE.cast (y := toD (⟨(Ev.Row.outer (x3.b)), (Ev.Row.inner (x3.b))⟩ : (P2 Str Str))) (ev_tup (ea_cons (EvE.cast (y := toD ((Ev.Row.outer (x3.b)) : Str)) (ev_prop (c := "Row") (ev_var rfl) ⟨_, rfl, rfl⟩) rfl) (ea_cons (EvE.cast (y := toD ((Ev.Row.inner (x3.b)) : Str)) (ev_prop (c := "Row") (ev_var rfl) ⟨_, rfl, rfl⟩) rfl) ea_nil)) (by show 2 ≤ sizeLine; decide)) rfl) rfl) (evr_var (x := toD s2) (by first | exact .o 0 rfl | exact .d rfl) (.lst _)) h7))
     (fun b8 => (es_assoc
     out_none))
     (fun b8 => (es_skip
     (grd fun h9 =>
     (es_seq (Γ1 := [.d (toD v_rows), .d (toD v_names), .own 0 (toD ((s2 ++ [(⟨(Ev.Row.outer (x3.b)), (Ev.Row.inner (x3.b))⟩ : (P2 Str Str))]) : (List (P2 Str Str)))), .d (toD x3.a), .d (toD x3.b)]) (EvS1.cast (es_append (i := 2) (xs := List.map toD s2) rfl (EvE.cast (y := toD ((⟨(Ev.Row.outer (x3.b)), (Ev.Row.inner (x3.b))⟩ : (P2 Str Str)) : (P2 Str Str))) (EvE.cast (y := toD (⟨(Ev.Row.outer (x3.b)), (Ev.Row.inner (x3.b))⟩ : (P2 Str Str))) (ev_tup (ea_cons (EvE.cast (y := toD ((Ev.Row.outer (x3.b)) : Str)) (ev_prop (c := "Row") (ev_var rfl) ⟨_, rfl, rfl⟩) rfl) (ea_cons (EvE.cast (y := toD ((Ev.Row.inner (x3.b)) : Str)) (ev_prop (c := "Row") (ev_var rfl) ⟨_, rfl, rfl⟩) rfl) ea_nil)) (by show 2 ≤ sizeLine; decide)) rfl) rfl) rfl (by simpa using h9)) (by simp [toD, Rp.d]))
     (one (es_end (by repeat first | exact .nil | apply Wk.keep | apply Wk.drop)))))))))))))) fun s2 _ =>
     (one (es_endN (by repeat first | exact .nil | apply Wk.keep | apply Wk.drop))))))))
end L
namespace L
open PySem L2 Hv Ev
variable {P : Program} {w : World} {K : PySem.W.Frag} {mg : Str → Option Value} {base : Heap}
noncomputable def fn_Row_init (v_outer : Str) (v_inner : Str) (v_amount : Str) : Option (Ev.Row) :=
  ((fn_is_name (v_outer)).bind fun r1 =>
     (if (!r1) = true then
     none else
     ((fn_is_name (v_inner)).bind fun r3 =>
     (if (!r3) = true then
     none else
     ((fn_sort_of (v_amount)).bind fun r5 =>
     (if ((r5).isNone) = true then
     none else
     some (⟨(⟨v_outer, v_inner, v_amount⟩ : (P3 Str Str Str))⟩ : Ev.Row)))))))
def pre_Row_init : D → List D → D → D → Prop := fun x xs y x' => ∃ (v_outer : Str) (v_inner : Str) (v_amount : Str) (r : Ev.Row), x = .ins "Row" [] ∧ xs = [toD v_outer, toD v_inner, toD v_amount] ∧ fn_Row_init v_outer v_inner v_amount = some r ∧ y = .non ∧ x' = toD r
theorem ok_Row_init (M : Ds K mg) (T : Txt K mg) : FnOk P w K mg base CX0 3 M.f_Row_init M.fd_Row_init P_Row_init (spW K pre_Row_init) := by
  refine M.D_Row_init.fn.ok sc_Row_init (fun vs H Q E h => ?_) (fun cdv A outer s H vs Q E hr h => ?_)
  · obtain ⟨F, a, o, x, xs, vs', y, x', rfl, _, _, _, _, rp, pr, _⟩ := h
    obtain ⟨v_outer, v_inner, v_amount, r, rfl, rfl, _⟩ := pr
    exact congrArg Nat.succ rp.len
  · obtain ⟨F, a, o, x, xs, vs', y, x', rfl, sF, fa, ha, ro, rp, pr, ret⟩ := h
    obtain ⟨v_outer, v_inner, v_amount, r, rfl, rfl, hf, rfl, rfl⟩ := pr
    skip
    refine ⟨_, (pss_cons (ps_if (pt_not (pt_val (pe_call (ok_is_name M T) (hr.mono (by decide)) rfl M.D_is_name.mg M.D_is_name.fn.kp M.D_is_name.bd .nil pass0 (pa_cons (pv 1) pa_nil))))
     (pss_cons ps_never
     pss_nil)
     pss_nil)
     (pss_cons (ps_if (pt_not (pt_val (pe_call (ok_is_name M T) (hr.mono (by decide)) rfl M.D_is_name.mg M.D_is_name.fn.kp M.D_is_name.bd .nil pass0 (pa_cons (pv 2) pa_nil))))
     (pss_cons ps_never
     pss_nil)
     pss_nil)
     (pss_cons (ps_if (pt_cmpR op_isN (pe_call (ok_sort_of M T) (hr.mono (by decide)) rfl M.D_sort_of.mg M.D_sort_of.fn.kp M.D_sort_of.bd .nil pass0 (pa_cons (pv 3) pa_nil)) pe_non (nomark _))
     (pss_cons ps_never
     pss_nil)
     pss_nil)
     (pss_cons (ps_fld (pv 0) (pe_tup (pa_cons (pv 1) (pa_cons (pv 2) (pa_cons (pv 3) pa_nil)))) rfl)
     pss_nil)))), ?_⟩
    unfold fn_Row_init at hf
    refine run_Wfl (Kn := fun w => .nx [.own 1 (toD w), .u, .u, .u]) sF fa ha ro rp ret ?_ hf rfl (wok1 rfl)
    exact (bnd fun r1 hr1 =>
     (es_ifq (Γ1 := [.own 1 (.ins "Row" []), .d (toD v_outer), .d (toD v_inner), .d (toD v_amount)]) (et_not (et_b (ev_call (ap_k (ev_var rfl) ap_nil) ⟨_, _, rfl, hr1, rfl⟩)))
     (fun b2 => (es_assoc
     out_none))
     (fun b2 => (es_skip
     (bnd fun r3 hr3 =>
     (es_ifq (Γ1 := [.own 1 (.ins "Row" []), .d (toD v_outer), .d (toD v_inner), .d (toD v_amount)]) (et_not (et_b (ev_call (ap_k (ev_var rfl) ap_nil) ⟨_, _, rfl, hr3, rfl⟩)))
     (fun b4 => (es_assoc
     out_none))
     (fun b4 => (es_skip
     (bnd fun r5 hr5 =>
     (es_ifq (Γ1 := [.own 1 (.ins "Row" []), .d (toD v_outer), .d (toD v_inner), .d (toD v_amount)]) (et_test (ev_isN (EvE.cast (y := toD r5) (ev_call (ap_k (ev_var rfl) ap_nil) ⟨_, _, rfl, hr5, rfl⟩) rfl)))
     (fun b6 => (es_assoc
     out_none))
     (fun b6 => (es_skip
     (es_seq (Γ1 := [.own 1 (.ins "Row" [("parts", toD ((⟨v_outer, v_inner, v_amount⟩ : (P3 Str Str Str)) : (P3 Str Str Str)))]), .d (toD v_outer), .d (toD v_inner), .d (toD v_amount)]) (es_fld (c := "Row") (p := 1) (gs := []) (EvE.cast (y := toD ((⟨v_outer, v_inner, v_amount⟩ : (P3 Str Str Str)) : (P3 Str Str Str))) (EvE.cast (y := toD (⟨v_outer, v_inner, v_amount⟩ : (P3 Str Str Str))) (ev_tup (ea_cons (ev_var rfl) (ea_cons (ev_var rfl) (ea_cons (ev_var rfl) ea_nil))) (by show 3 ≤ sizeLine; decide)) rfl) rfl) rfl T.cl_Row T.na_Row_parts (by show 0 < 1000; decide))
     (one (es_endN (by repeat first | exact .nil | apply Wk.keep | apply Wk.drop))))))))))))))))
noncomputable def fn_Kind_init (v_name : Str) (v_talks : Int) (v_needs : (Int ⊕ Str)) (v_closing : (Option (P2 Int Str))) (v_ends : (Option Str)) : Option (Ev.Kind) :=
  ((fn_is_name (v_name)).bind fun r1 =>
     (if (!r1) = true then
     none else
     ((fn_is_integer ((toD v_talks))).bind fun r3 =>
     (if ((!r3) || (!((decide ((0 : Int) ≤ v_talks)) && (decide (v_talks ≤ (3 : Int)))))) = true then
     none else
     ((fn_is_needs (v_needs)).bind fun r6 =>
     (if (!r6) = true then
     none else
     ((fn_is_closing (v_closing)).bind fun r8 =>
     (if (!r8) = true then
     none else
     ((if (!(v_ends).isNone) = true then ((fn_is_bound ((toD v_ends))).bind fun r11 => some (!r11)) else some false).bind fun r12 =>
     (if r12 = true then
     none else
     some (⟨(⟨v_name, v_talks, v_needs, v_closing, v_ends⟩ : (P5 Str Int (Int ⊕ Str) (Option (P2 Int Str)) (Option Str)))⟩ : Ev.Kind)))))))))))
def pre_Kind_init : D → List D → D → D → Prop := fun x xs y x' => ∃ (v_name : Str) (v_talks : Int) (v_needs : (Int ⊕ Str)) (v_closing : (Option (P2 Int Str))) (v_ends : (Option Str)) (r : Ev.Kind), x = .ins "Kind" [] ∧ xs = [toD v_name, toD v_talks, toD v_needs, toD v_closing, toD v_ends] ∧ fn_Kind_init v_name v_talks v_needs v_closing v_ends = some r ∧ y = .non ∧ x' = toD r
theorem ok_Kind_init (M : Ds K mg) (T : Txt K mg) : FnOk P w K mg base CX0 5 M.f_Kind_init M.fd_Kind_init P_Kind_init (spW K pre_Kind_init) := by
  refine M.D_Kind_init.fn.ok sc_Kind_init (fun vs H Q E h => ?_) (fun cdv A outer s H vs Q E hr h => ?_)
  · obtain ⟨F, a, o, x, xs, vs', y, x', rfl, _, _, _, _, rp, pr, _⟩ := h
    obtain ⟨v_name, v_talks, v_needs, v_closing, v_ends, r, rfl, rfl, _⟩ := pr
    exact congrArg Nat.succ rp.len
  · obtain ⟨F, a, o, x, xs, vs', y, x', rfl, sF, fa, ha, ro, rp, pr, ret⟩ := h
    obtain ⟨v_name, v_talks, v_needs, v_closing, v_ends, r, rfl, rfl, hf, rfl, rfl⟩ := pr
    skip
    refine ⟨_, (PSs.nox (pss_cons (ps_if (pt_not (pt_val (pe_call (ok_is_name M T) (hr.mono (by decide)) rfl M.D_is_name.mg M.D_is_name.fn.kp M.D_is_name.bd .nil pass0 (pa_cons (pv 1) pa_nil))))
     (pss_cons ps_never
     pss_nil)
     pss_nil)
     (pss_cons (ps_if (PW.pt (pw_or (pt_not (pt_val (pe_call (ok_is_integer M T) (hr.mono (by decide)) rfl M.D_is_integer.mg M.D_is_integer.fn.kp M.D_is_integer.bd .nil pass0 (pa_cons (pv 2) pa_nil)))) (pw_or1 (pt_not (pt_chain op_le op_le pe_int (pv 2) (pe_glob (v := .int 3) rfl T.cMOST_TALKS.choose_spec ⟨_, rfl⟩))))))
     (pss_cons ps_never
     pss_nil)
     pss_nil)
     (pss_cons (ps_if (pt_not (pt_val (pe_call (ok_is_needs M T) (hr.mono (by decide)) rfl M.D_is_needs.mg M.D_is_needs.fn.kp M.D_is_needs.bd .nil pass0 (pa_cons (pv 3) pa_nil))))
     (pss_cons ps_never
     pss_nil)
     pss_nil)
     (pss_cons (ps_if (pt_not (pt_val (pe_call (ok_is_closing M T) (hr.mono (by decide)) rfl M.D_is_closing.mg M.D_is_closing.fn.kp M.D_is_closing.bd .nil pass0 (pa_cons (pv 4) pa_nil))))
     (pss_cons ps_never
     pss_nil)
     pss_nil)
     (pss_cons (ps_if (PW.pt (pw_and (pt_cmpR op_notN (pv 5) pe_non (nomark _)) (pw_and1 (pt_not (pt_val (pe_call (ok_is_bound M T) (hr.mono (by decide)) rfl M.D_is_bound.mg M.D_is_bound.fn.kp M.D_is_bound.bd .nil pass0 (pa_cons (pv 5) pa_nil)))))))
     (pss_cons ps_never
     pss_nil)
     pss_nil)
     (pss_cons (ps_fld (pv 0) (pe_tup (pa_cons (pv 1) (pa_cons (pv 2) (pa_cons (pv 3) (pa_cons (pv 4) (pa_cons (pv 5) pa_nil)))))) rfl)
     pss_nil))))))), ?_⟩
    unfold fn_Kind_init at hf
    refine run_Wfl (Kn := fun w => .nx [.own 1 (toD w), .u, .u, .u, .u, .u]) sF fa ha ro rp ret ?_ hf rfl (wok1 rfl)
    exact (bnd fun r1 hr1 =>
     (es_ifq (Γ1 := [.own 1 (.ins "Kind" []), .d (toD v_name), .d (toD v_talks), .d (toD v_needs), .d (toD v_closing), .d (toD v_ends)]) (et_not (et_b (ev_call (ap_k (ev_var rfl) ap_nil) ⟨_, _, rfl, hr1, rfl⟩)))
     (fun b2 => (es_assoc
     out_none))
     (fun b2 => (es_skip
     (bnd fun r3 hr3 =>
     (es_ifq (Γ1 := [.own 1 (.ins "Kind" []), .d (toD v_name), .d (toD v_talks), .d (toD v_needs), .d (toD v_closing), .d (toD v_ends)]) (et_or (et_not (et_b (ev_call (ap_k (EvE.cast (y := toD ((toD v_talks) : D)) (ev_var rfl) rfl) ap_nil) ⟨_, _, rfl, hr3, rfl⟩))) fun b4 => (et_not (et_test (ev_chain ev_int (ev_var rfl) rv_B0 ev_int rv_B0))))
     (fun b5 => (es_assoc
     out_none))
     (fun b5 => (es_skip
     (bnd fun r6 hr6 =>
     (es_ifq (Γ1 := [.own 1 (.ins "Kind" []), .d (toD v_name), .d (toD v_talks), .d (toD v_needs), .d (toD v_closing), .d (toD v_ends)]) (et_not (et_b (ev_call (ap_k (ev_var rfl) ap_nil) ⟨_, _, rfl, hr6, rfl⟩)))
     (fun b7 => (es_assoc
     out_none))
     (fun b7 => (es_skip
     (bnd fun r8 hr8 =>
     (es_ifq (Γ1 := [.own 1 (.ins "Kind" []), .d (toD v_name), .d (toD v_talks), .d (toD v_needs), .d (toD v_closing), .d (toD v_ends)]) (et_not (et_b (ev_call (ap_k (ev_var rfl) ap_nil) ⟨_, _, rfl, hr8, rfl⟩)))
     (fun b9 => (es_assoc
     out_none))
     (fun b9 => (es_skip
     (bnd fun r12 hr12 =>
     (es_ifq (Γ1 := [.own 1 (.ins "Kind" []), .d (toD v_name), .d (toD v_talks), .d (toD v_needs), .d (toD v_closing), .d (toD v_ends)]) (et_andM hr12 (et_test (ev_notN (ev_var rfl))) fun b10 => (fun _ e0 => by obtain ⟨r11, hr11, e0⟩ := bind_some e0; exact (by have e0 := Option.some.inj e0; subst e0; exact (et_not (et_b (ev_call (ap_k (EvE.cast (y := toD ((toD v_ends) : D)) (ev_var rfl) rfl) ap_nil) ⟨_, _, rfl, hr11, rfl⟩))))))
     (fun b13 => (es_assoc
     out_none))
     (fun b13 => (es_skip
     (es_seq (Γ1 := [.own 1 (.ins "Kind" [("parts", toD ((⟨v_name, v_talks, v_needs, v_closing, v_ends⟩ : (P5 Str Int (Int ⊕ Str) (Option (P2 Int Str)) (Option Str))) : (P5 Str Int (Int ⊕ Str) (Option (P2 Int Str)) (Option Str))))]), .d (toD v_name), .d (toD v_talks), .d (toD v_needs), .d (toD v_closing), .d (toD v_ends)]) (es_fld (c := "Kind") (p := 1) (gs := []) (EvE.cast (y := toD ((⟨v_name, v_talks, v_needs, v_closing, v_ends⟩ : (P5 Str Int (Int ⊕ Str) (Option (P2 Int Str)) (Option Str))) : (P5 Str Int (Int ⊕ Str) (Option (P2 Int Str)) (Option Str)))) (EvE.cast (y := toD (⟨v_name, v_talks, v_needs, v_closing, v_ends⟩ : (P5 Str Int (Int ⊕ Str) (Option (P2 Int Str)) (Option Str)))) (ev_tup (ea_cons (ev_var rfl) (ea_cons (ev_var rfl) (ea_cons (ev_var rfl) (ea_cons (ev_var rfl) (ea_cons (ev_var rfl) ea_nil))))) (by show 5 ≤ sizeLine; decide)) rfl) rfl) rfl T.cl_Kind T.na_Kind_parts (by show 0 < 1000; decide))
     (one (es_endN (by repeat first | exact .nil | apply Wk.keep | apply Wk.drop))))))))))))))))))))))))
end L
namespace L
open PySem L2 Hv
variable {K : PySem.W.Frag}
def g_Kind_talks_needs_closing_ends {α : Type} (us mv ws : List α) : List α := match mv, ws with
  | [], [z0, z1, z2, z3] => us ++ [z0, z1, z2, z3]
  | _, _ => []
theorem kb_Kind_talks_needs_closing_ends {f : Addr} {fd : FuncData} (F : FunK K f fd) : ∃ mv : List Value, KBn K fd P_Kind_init 2 ["talks", "needs", "closing", "ends"] (fun us ws => g_Kind_talks_needs_closing_ends us mv ws) (fun vs zs => g_Kind_talks_needs_closing_ends vs [] zs) := by
  refine F.kbinds0 2 ["talks", "needs", "closing", "ends"] [] (fun {α} => g_Kind_talks_needs_closing_ends (α := α)) (by simp [kwsK]) (by simp [kwsK]) ?_ ?_
  · intro vs mz zs us mv ws r1 r2 r3
    cases r2 with
    | cons _ _ => first | exact .nil | (cases r3 <;> exact .nil)
    | nil =>
      cases r3 with
      | nil => exact .nil
      | cons b0 br0 =>
        cases br0 with
        | nil => exact .nil
        | cons b1 br1 =>
          cases br1 with
          | nil => exact .nil
          | cons b2 br2 =>
            cases br2 with
            | nil => exact .nil
            | cons b3 br3 =>
              cases br3 with
              | cons _ _ => first | exact .nil | (cases r3 <;> exact .nil)
              | nil =>
                exact r1.append (.cons b0 (.cons b1 (.cons b2 (.cons b3 .nil))))
  · intro D doc pm an cdv ct us mv ws h1 h2 h3
    match us, mv, ws, h1, h2, h3 with
    | [_, _], [], [_, _, _, _], _, _, _ => exact rfl
end L
namespace L
open PySem L2 Hv Ev
variable {P : Program} {w : World} {K : PySem.W.Frag} {mg : Str → Option Value} {base : Heap}
noncomputable def fn_read_row (v_line : Str) : Option ((Option Ev.Row)) :=
  (if (Str.length (" " : Str) == 0) = false ∧ -(2 ^ 63) ≤ (3 : Int) ∧ (3 : Int) < 2 ^ 63 ∧ Str.length v_line + 2 ≤ sizeLine then
     ((if (decide ((((PySem.Txt.splitMax v_line (" " : Str) (3 : Int)).length : Nat) : Int) < (4 : Int))) = true then some true else ((atI (PySem.Txt.splitMax v_line (" " : Str) (3 : Int)) (0 : Int)).bind fun r3 => ((if (!decide (r3 = ("under" : Str))) = true then some true else ((atI (PySem.Txt.splitMax v_line (" " : Str) (3 : Int)) (1 : Int)).bind fun r5 => ((fn_is_name (r5)).bind fun r6 => ((if (!r6) = true then some true else ((atI (PySem.Txt.splitMax v_line (" " : Str) (3 : Int)) (2 : Int)).bind fun r8 => ((fn_is_name (r8)).bind fun r9 => some (!r9)))).bind fun r10 => some r10)))).bind fun r11 => some r11))).bind fun r12 =>
     (if r12 = true then
     some (none : (Option Ev.Row)) else
     ((atI (PySem.Txt.splitMax v_line (" " : Str) (3 : Int)) (3 : Int)).bind fun r14 =>
     ((fn_sort_of (r14)).bind fun r15 =>
     ((if ((r15).isNone) = true then some (none : (Option Ev.Row)) else ((atI (PySem.Txt.splitMax v_line (" " : Str) (3 : Int)) (1 : Int)).bind fun r16 => ((atI (PySem.Txt.splitMax v_line (" " : Str) (3 : Int)) (2 : Int)).bind fun r17 => ((atI (PySem.Txt.splitMax v_line (" " : Str) (3 : Int)) (3 : Int)).bind fun r18 => ((fn_Row_init (r16) (r17) (r18)).bind fun r19 => some (some r19 : (Option Ev.Row))))))).bind fun r21 =>
     some r21))))) else none)
def pre_read_row : List Ar → D → Prop := fun xs y => ∃ (v_line : Str) (r : (Option Ev.Row)), xs = [.k (toD v_line)] ∧ fn_read_row v_line = some r ∧ y = toD r
theorem ok_read_row (M : Ds K mg) (T : Txt K mg) : FnOk P w K mg base CX0 5 M.f_read_row M.fd_read_row P_read_row (spE K pre_read_row) := by
  refine M.D_read_row.fn.ok sc_read_row (fun vs H Q E h => ?_) (fun cdv A outer s H vs Q E hr h => ?_)
  · obtain ⟨F, xs, y, _, ar, pr, _⟩ := h
    obtain ⟨v_line, r, rfl, _⟩ := pr
    exact ar.len
  · obtain ⟨F, xs, y, sF, ar, pr, ret⟩ := h
    obtain ⟨v_line, r, rfl, hf, rfl⟩ := pr
    refine ⟨_, (pss_cons (ps_asg (pe_bm PySem.F.plainAttrs_str PySem.F.slot_str_split PySem.F.type_str_split mt_splitMax (pv 0) (pa_cons pe_str (pa_cons pe_int pa_nil))) (pg_name (i := 1) sc_read_row.nd rfl (.inl rfl)))
     (pss_cons (ps_if (PW.pt (pw_or (pt_cmpR op_lt (pe_callB (show CallR _ (.builtin "len") (rLen1 K) from call_len_seq) (by rfl) T.len (by decide +kernel) (pa_cons (pv 1) pa_nil)) pe_int (nomark _)) (pw_or (pt_cmpR op_ne (pe_ix (show IxR _ (rIxL K) from ix_list) (pv 1) pe_int (fun _ _ => rfl)) pe_str (nomark _)) (pw_or (pt_not (pt_val (pe_call (ok_is_name M T) (hr.mono (by decide)) rfl M.D_is_name.mg M.D_is_name.fn.kp M.D_is_name.bd .nil pass0 (pa_cons (pe_ix (show IxR _ (rIxL K) from ix_list) (pv 1) pe_int (fun _ _ => rfl)) pa_nil)))) (pw_or1 (pt_not (pt_val (pe_call (ok_is_name M T) (hr.mono (by decide)) rfl M.D_is_name.mg M.D_is_name.fn.kp M.D_is_name.bd .nil pass0 (pa_cons (pe_ix (show IxR _ (rIxL K) from ix_list) (pv 1) pe_int (fun _ _ => rfl)) pa_nil)))))))))
     (pss_cons (ps_ret pe_non)
     pss_nil)
     pss_nil)
     (pss_cons (ps_ret (pe_ifExp (pt_cmpR op_isN (pe_call (ok_sort_of M T) (hr.mono (by decide)) rfl M.D_sort_of.mg M.D_sort_of.fn.kp M.D_sort_of.bd .nil pass0 (pa_cons (pe_ix (show IxR _ (rIxL K) from ix_list) (pv 1) pe_int (fun _ _ => rfl)) pa_nil)) pe_non (nomark _)) pe_non (pe_make M.D_Row_init.make (ok_Row_init M T) (hr.mono (by decide)) rfl T.mg_Row M.D_Row_init.bd .nil pass0 (pa_cons (pe_ix (show IxR _ (rIxL K) from ix_list) (pv 1) pe_int (fun _ _ => rfl)) (pa_cons (pe_ix (show IxR _ (rIxL K) from ix_list) (pv 1) pe_int (fun _ _ => rfl)) (pa_cons (pe_ix (show IxR _ (rIxL K) from ix_list) (pv 1) pe_int (fun _ _ => rfl)) pa_nil))))))
     pss_nil))), ?_⟩
    unfold fn_read_row at hf
    refine run_rt (Kn := fun y => .rt (toD y) []) sF ar ret ?_ hf rfl
    exact (grd fun h1 =>
     (es_seq (Γ1 := [.d (toD v_line), .d (toD ((PySem.Txt.splitMax v_line (" " : Str) (3 : Int)) : (List Str)))]) (es_asg (EvE.cast (y := toD ((PySem.Txt.splitMax v_line (" " : Str) (3 : Int)) : (List Str))) (ev_splitMax (ev_var rfl) ev_str ev_int h1) rfl) eg_name)
     (bnd fun r12 hr12 =>
     (es_ifq (Γ1 := [.d (toD v_line), .d (toD ((PySem.Txt.splitMax v_line (" " : Str) (3 : Int)) : (List Str)))]) (et_orM hr12 (et_test (ev_op (EvE.cast (y := toD ((((PySem.Txt.splitMax v_line (" " : Str) (3 : Int)).length : Nat) : Int) : Int)) (EvE.cast (y := toD ((((PySem.Txt.splitMax v_line (" " : Str) (3 : Int)).length : Nat) : Int) : Int)) (ev_lenL (EvE.r (EvE.cast (y := toD ((PySem.Txt.splitMax v_line (" " : Str) (3 : Int)) : (List Str))) (ev_var rfl) rfl) (.lst _))) (by simp [toD, Rp.d])) rfl) (EvE.cast (y := toD ((4 : Int) : Int)) ev_int rfl) rv_B0)) fun b2 => (fun _ e0 => by obtain ⟨r3, hr3, e0⟩ := bind_some e0; exact (by obtain ⟨r11, hr11, e0⟩ := bind_some e0; exact (by have e0 := Option.some.inj e0; subst e0; exact (et_orM hr11 (et_test (ev_op (EvE.cast (y := toD r3) (ev_op (EvE.cast (y := toD ((PySem.Txt.splitMax v_line (" " : Str) (3 : Int)) : (List Str))) (ev_var rfl) rfl) ev_int (rv_ixL (at_map toD hr3))) rfl) (EvE.cast (y := toD (("under" : Str) : Str)) ev_str rfl) rv_neS)) fun b4 => (fun _ e0 => by obtain ⟨r5, hr5, e0⟩ := bind_some e0; exact (by obtain ⟨r6, hr6, e0⟩ := bind_some e0; exact (by obtain ⟨r10, hr10, e0⟩ := bind_some e0; exact (by have e0 := Option.some.inj e0; subst e0; exact (et_orM hr10 (et_not (et_b (ev_call (ap_k (EvE.cast (y := toD r5) (ev_op (EvE.cast (y := toD ((PySem.Txt.splitMax v_line (" " : Str) (3 : Int)) : (List Str))) (ev_var rfl) rfl) ev_int (rv_ixL (at_map toD hr5))) rfl) ap_nil) ⟨_, _, rfl, hr6, rfl⟩))) fun b7 => (fun _ e0 => by obtain ⟨r8, hr8, e0⟩ := bind_some e0; exact (by obtain ⟨r9, hr9, e0⟩ := bind_some e0; exact (by have e0 := Option.some.inj e0; subst e0; exact (et_not (et_b (ev_call (ap_k (EvE.cast (y := toD r8) (ev_op (EvE.cast (y := toD ((PySem.Txt.splitMax v_line (" " : Str) (3 : Int)) : (List Str))) (ev_var rfl) rfl) ev_int (rv_ixL (at_map toD hr8))) rfl) ap_nil) ⟨_, _, rfl, hr9, rfl⟩))))))))))))))))
     (fun b13 => (es_assoc
     (one (es_ret (EvE.cast (y := toD ((none : (Option Ev.Row)) : (Option Ev.Row))) (EvE.cast (y := toD none) ev_non rfl) rfl) wok0))))
     (fun b13 => (es_skip
     (bnd fun r14 hr14 =>
     (bnd fun r15 hr15 =>
     (bnd fun r21 hr21 =>
     (one (es_ret (EvE.cast (y := toD r21) (ev_ifM1 hr21 (et_test (ev_isN (EvE.cast (y := toD r15) (ev_call (ap_k (EvE.cast (y := toD r14) (ev_op (EvE.cast (y := toD ((PySem.Txt.splitMax v_line (" " : Str) (3 : Int)) : (List Str))) (ev_var rfl) rfl) ev_int (rv_ixL (at_map toD hr14))) rfl) ap_nil) ⟨_, _, rfl, hr15, rfl⟩) rfl))) (fun b20 => (fun _ e0 => by have e0 := Option.some.inj e0; subst e0; exact (EvE.cast (y := toD ((none : (Option Ev.Row)) : (Option Ev.Row))) (EvE.cast (y := toD none) ev_non rfl) rfl))) (fun b20 => (fun _ e0 => by obtain ⟨r16, hr16, e0⟩ := bind_some e0; exact (by obtain ⟨r17, hr17, e0⟩ := bind_some e0; exact (by obtain ⟨r18, hr18, e0⟩ := bind_some e0; exact (by obtain ⟨r19, hr19, e0⟩ := bind_some e0; exact (by have e0 := Option.some.inj e0; subst e0; exact (EvE.cast (y := toD ((some r19 : (Option Ev.Row)) : (Option Ev.Row))) (EvE.cast (y := toD (some r19 : (Option Ev.Row))) (EvE.cast (y := toD r19) (ev_make (c := "Row") (ea_cons (EvE.cast (y := toD r16) (ev_op (EvE.cast (y := toD ((PySem.Txt.splitMax v_line (" " : Str) (3 : Int)) : (List Str))) (ev_var rfl) rfl) ev_int (rv_ixL (at_map toD hr16))) rfl) (ea_cons (EvE.cast (y := toD r17) (ev_op (EvE.cast (y := toD ((PySem.Txt.splitMax v_line (" " : Str) (3 : Int)) : (List Str))) (ev_var rfl) rfl) ev_int (rv_ixL (at_map toD hr17))) rfl) (ea_cons (EvE.cast (y := toD r18) (ev_op (EvE.cast (y := toD ((PySem.Txt.splitMax v_line (" " : Str) (3 : Int)) : (List Str))) (ev_var rfl) rfl) ev_int (rv_ixL (at_map toD hr18))) rfl) ea_nil))) ⟨_, _, _, _, rfl, rfl, hr19, rfl, rfl⟩) rfl) rfl) rfl)))))))) rfl) wok0)))))))))))
noncomputable def fn_read_kind (v_line : Str) : Option ((Option Ev.Kind)) :=
  (if (Str.length (" " : Str) == 0) = false ∧ Str.length v_line + 2 ≤ sizeLine then
     ((atI (PySem.Txt.split v_line (" " : Str)) (0 : Int)).bind fun r2 =>
     ((if (!decide (r2 = ("motion" : Str))) = true then some true else ((if (decide ((((PySem.Txt.split v_line (" " : Str)).length : Nat) : Int) < (2 : Int))) = true then some true else ((atI (PySem.Txt.split v_line (" " : Str)) (1 : Int)).bind fun r5 => ((fn_is_name (r5)).bind fun r6 => some (!r6)))).bind fun r7 => some r7)).bind fun r8 =>
     (if r8 = true then
     some (none : (Option Ev.Kind)) else
     ((atI (PySem.Txt.split v_line (" " : Str)) (1 : Int)).bind fun r10 =>
     ((fn_after_number ((cutL (PySem.Txt.split v_line (" " : Str)) (some (2 : Int)) none)) (([("talks" : Str)] : (List Str))) ((3 : Int))).bind fun r11 =>
     ((fn_after_number (r11.b) (([("needs" : Str)] : (List Str))) ((9 : Int))).bind fun r12 =>
     (((if ((((⟨Option.map Sum.inl (r12).a, (r12).b⟩ : (P2 (Option (Int ⊕ Str)) (List Str)))).a).isNone) = true then
     ((fn_after_bound (((⟨Option.map Sum.inl (r12).a, (r12).b⟩ : (P2 (Option (Int ⊕ Str)) (List Str)))).b) (([("needs" : Str)] : (List Str)))).bind fun r14 =>
     some (((⟨Option.map Sum.inr (r14).a, (r14).b⟩ : (P2 (Option (Int ⊕ Str)) (List Str)))).b, ((⟨Option.map Sum.inr (r14).a, (r14).b⟩ : (P2 (Option (Int ⊕ Str)) (List Str)))).a)) else
     some (((⟨Option.map Sum.inl (r12).a, (r12).b⟩ : (P2 (Option (Int ⊕ Str)) (List Str)))).b, ((⟨Option.map Sum.inl (r12).a, (r12).b⟩ : (P2 (Option (Int ⊕ Str)) (List Str)))).a)) : Option ((List Str) × (Option (Int ⊕ Str)))).bind fun (s13 : (List Str) × (Option (Int ⊕ Str))) =>
     ((fn_after_number (s13.1) (([("closed" : Str), ("after" : Str)] : (List Str))) ((3 : Int))).bind fun r16 =>
     ((fn_after_bound (r16.b) (([("by" : Str)] : (List Str)))).bind fun r17 =>
     (((if ((!(r16.a).isNone) && (!(r17.a).isNone)) = true then
     ((r16.a).bind fun r20 =>
     ((r17.a).bind fun r21 =>
     some (r17.b, (some (⟨r20, r21⟩ : (P2 Int Str)) : (Option (P2 Int Str)))))) else
     some (s13.1, (none : (Option (P2 Int Str))))) : Option ((List Str) × (Option (P2 Int Str)))).bind fun (s19 : (List Str) × (Option (P2 Int Str))) =>
     ((fn_after_bound (s19.1) (([("ends" : Str), ("by" : Str)] : (List Str)))).bind fun r23 =>
     (if ((!r23.b.isEmpty) || (eqOEI s13.2 (0 : Int))) = true then
     some (none : (Option Ev.Kind)) else
     ((if ((s13.2).isNone) = true then some (.inl (1 : Int) : (Int ⊕ Str)) else ((s13.2).bind fun r26 => some r26)).bind fun r28 =>
     ((fn_Kind_init (r10) ((orI r11.a (0 : Int))) (r28) (s19.2) (r23.a)).bind fun r29 =>
     ((fn_line_of_kind (r29)).bind fun r30 =>
     some (if (decide (r30 = v_line)) = true then (some r29 : (Option Ev.Kind)) else (none : (Option Ev.Kind)))))))))))))))))) else none)
def pre_read_kind : List Ar → D → Prop := fun xs y => ∃ (v_line : Str) (r : (Option Ev.Kind)), xs = [.k (toD v_line)] ∧ fn_read_kind v_line = some r ∧ y = toD r
theorem ok_read_kind (M : Ds K mg) (T : Txt K mg) : FnOk P w K mg base CX0 7 M.f_read_kind M.fd_read_kind P_read_kind (spE K pre_read_kind) := by
  refine M.D_read_kind.fn.ok sc_read_kind (fun vs H Q E h => ?_) (fun cdv A outer s H vs Q E hr h => ?_)
  · obtain ⟨F, xs, y, _, ar, pr, _⟩ := h
    obtain ⟨v_line, r, rfl, _⟩ := pr
    exact ar.len
  · obtain ⟨F, xs, y, sF, ar, pr, ret⟩ := h
    obtain ⟨v_line, r, rfl, hf, rfl⟩ := pr
    refine ⟨_, (pss_cons (ps_asg (pe_split (pv 0) pe_str) (pg_name (i := 1) sc_read_kind.nd rfl (.inl rfl)))
     (pss_cons (ps_if (PW.pt (pw_or (pt_cmpR op_ne (pe_ix (show IxR _ (rIxL K) from ix_list) (pv 1) pe_int (fun _ _ => rfl)) pe_str (nomark _)) (pw_or (pt_cmpR op_lt (pe_callB (show CallR _ (.builtin "len") (rLen1 K) from call_len_seq) (by rfl) T.len (by decide +kernel) (pa_cons (pv 1) pa_nil)) pe_int (nomark _)) (pw_or1 (pt_not (pt_val (pe_call (ok_is_name M T) (hr.mono (by decide)) rfl M.D_is_name.mg M.D_is_name.fn.kp M.D_is_name.bd .nil pass0 (pa_cons (pe_ix (show IxR _ (rIxL K) from ix_list) (pv 1) pe_int (fun _ _ => rfl)) pa_nil))))))))
     (pss_cons (ps_ret pe_non)
     pss_nil)
     pss_nil)
     (pss_cons (ps_par (i := 2) (j := 3) (by rfl) sc_read_kind.nd rfl rfl (by decide) rfl rfl (pa_cons (pe_ix (show IxR _ (rIxL K) from ix_list) (pv 1) pe_int (fun _ _ => rfl)) (pa_cons (pe_slice (r := rSlL K) sl_list (pv 1) (po_some pe_int) po_none) pa_nil)) (by rfl))
     (pss_cons (ps_asg (pe_call (ok_after_number M T) (hr.mono (by decide)) rfl M.D_after_number.mg M.D_after_number.fn.kp M.D_after_number.bd .nil pass0 (pa_cons (pv 3) (pa_cons (pe_lst (pa_cons pe_str pa_nil)) (pa_cons (pe_glob (v := .int 3) rfl T.cMOST_TALKS.choose_spec ⟨_, rfl⟩) pa_nil)))) (pg_tup (by rfl) (pgs_cons (pg_name (i := 4) sc_read_kind.nd rfl (.inl rfl)) (pgs_cons (pg_name (i := 3) sc_read_kind.nd rfl (.inl rfl)) pgs_nil))))
     (pss_cons (ps_asg (pe_call (ok_after_number M T) (hr.mono (by decide)) rfl M.D_after_number.mg M.D_after_number.fn.kp M.D_after_number.bd .nil pass0 (pa_cons (pv 3) (pa_cons (pe_lst (pa_cons pe_str pa_nil)) (pa_cons (pe_glob (v := .int 9) rfl T.cMOST_NEEDS.choose_spec ⟨_, rfl⟩) pa_nil)))) (pg_tup (by rfl) (pgs_cons (pg_name (i := 5) sc_read_kind.nd rfl (.inl rfl)) (pgs_cons (pg_name (i := 3) sc_read_kind.nd rfl (.inl rfl)) pgs_nil))))
     (pss_cons (ps_if (pt_cmpR op_isN (pv 5) pe_non (nomark _))
     (pss_cons (ps_asg (pe_call (ok_after_bound M T) (hr.mono (by decide)) rfl M.D_after_bound.mg M.D_after_bound.fn.kp M.D_after_bound.bd .nil pass0 (pa_cons (pv 3) (pa_cons (pe_lst (pa_cons pe_str pa_nil)) pa_nil))) (pg_tup (by rfl) (pgs_cons (pg_name (i := 5) sc_read_kind.nd rfl (.inl rfl)) (pgs_cons (pg_name (i := 3) sc_read_kind.nd rfl (.inl rfl)) pgs_nil))))
     pss_nil)
     pss_nil)
     (pss_cons (ps_asg (pe_call (ok_after_number M T) (hr.mono (by decide)) rfl M.D_after_number.mg M.D_after_number.fn.kp M.D_after_number.bd .nil pass0 (pa_cons (pv 3) (pa_cons (pe_lst (pa_cons pe_str (pa_cons pe_str pa_nil))) (pa_cons (pe_glob (v := .int 3) rfl T.cMOST_AFTER.choose_spec ⟨_, rfl⟩) pa_nil)))) (pg_tup (by rfl) (pgs_cons (pg_name (i := 6) sc_read_kind.nd rfl (.inl rfl)) (pgs_cons (pg_name (i := 7) sc_read_kind.nd rfl (.inl rfl)) pgs_nil))))
     (pss_cons (ps_asg (pe_call (ok_after_bound M T) (hr.mono (by decide)) rfl M.D_after_bound.mg M.D_after_bound.fn.kp M.D_after_bound.bd .nil pass0 (pa_cons (pv 7) (pa_cons (pe_lst (pa_cons pe_str pa_nil)) pa_nil))) (pg_tup (by rfl) (pgs_cons (pg_name (i := 8) sc_read_kind.nd rfl (.inl rfl)) (pgs_cons (pg_name (i := 7) sc_read_kind.nd rfl (.inl rfl)) pgs_nil))))
     (pss_cons (ps_asg pe_non (pg_name (i := 9) sc_read_kind.nd rfl (.inl rfl)))
     (pss_cons (ps_if (PW.pt (pw_and (pt_cmpR op_notN (pv 6) pe_non (nomark _)) (pw_and1 (pt_cmpR op_notN (pv 8) pe_non (nomark _)))))
     (pss_cons (ps_par (i := 9) (j := 3) (by rfl) sc_read_kind.nd rfl rfl (by decide) rfl rfl (pa_cons (pe_tup (pa_cons (pv 6) (pa_cons (pv 8) pa_nil))) (pa_cons (pv 7) pa_nil)) (by rfl))
     pss_nil)
     pss_nil)
     (pss_cons (ps_asg (pe_call (ok_after_bound M T) (hr.mono (by decide)) rfl M.D_after_bound.mg M.D_after_bound.fn.kp M.D_after_bound.bd .nil pass0 (pa_cons (pv 3) (pa_cons (pe_lst (pa_cons pe_str (pa_cons pe_str pa_nil))) pa_nil))) (pg_tup (by rfl) (pgs_cons (pg_name (i := 10) sc_read_kind.nd rfl (.inl rfl)) (pgs_cons (pg_name (i := 3) sc_read_kind.nd rfl (.inl rfl)) pgs_nil))))
     (pss_cons (ps_if (PW.pt (pw_or (pt_truth (pv 3) (by intro _; rfl)) (pw_or1 (pt_cmpR op_eq (pv 5) pe_int (nomark _)))))
     (pss_cons (ps_ret pe_non)
     pss_nil)
     pss_nil)
     (pss_cons (ps_asg (pe_makeK M.D_Kind_init.make (ok_Kind_init M T) (hr.mono (by decide)) rfl T.mg_Kind (kb_Kind_talks_needs_closing_ends M.D_Kind_init.fn).choose_spec pass0 (pa_cons (pv 2) pa_nil) (pk_cons (pe_orT (pv 4) (pe_one pe_int)) (pk_cons (pe_ifExp (pt_cmpR op_isN (pv 5) pe_non (nomark _)) pe_int (pv 5)) (pk_cons (pv 9) (pk_cons (pv 10) pk_nil))))) (pg_name (i := 11) sc_read_kind.nd rfl (.inl rfl)))
     (pss_cons (ps_ret (pe_ifExp (pt_cmpR op_eq (pe_call (ok_line_of_kind M T) (hr.mono (by decide)) rfl M.D_line_of_kind.mg M.D_line_of_kind.fn.kp M.D_line_of_kind.bd .nil pass0 (pa_cons (pv 11) pa_nil)) (pv 0) (nomark _)) (pv 11) pe_non))
     pss_nil)))))))))))))), ?_⟩
    unfold fn_read_kind at hf
    refine run_rt (Kn := fun y => .rt (toD y) []) sF ar ret ?_ hf rfl
    exact (grd fun h1 =>
     (es_seq (Γ1 := [.d (toD v_line), .d (toD ((PySem.Txt.split v_line (" " : Str)) : (List Str))), .u, .u, .u, .u, .u, .u, .u, .u, .u, .u]) (es_asg (EvE.cast (y := toD ((PySem.Txt.split v_line (" " : Str)) : (List Str))) (ev_split (ev_var rfl) ev_str h1) rfl) eg_name)
     (bnd fun r2 hr2 =>
     (bnd fun r8 hr8 =>
     (es_ifq (Γ1 := [.d (toD v_line), .d (toD ((PySem.Txt.split v_line (" " : Str)) : (List Str))), .u, .u, .u, .u, .u, .u, .u, .u, .u, .u]) (et_orM hr8 (et_test (ev_op (EvE.cast (y := toD r2) (ev_op (EvE.cast (y := toD ((PySem.Txt.split v_line (" " : Str)) : (List Str))) (ev_var rfl) rfl) ev_int (rv_ixL (at_map toD hr2))) rfl) (EvE.cast (y := toD (("motion" : Str) : Str)) ev_str rfl) rv_neS)) fun b3 => (fun _ e0 => by obtain ⟨r7, hr7, e0⟩ := bind_some e0; exact (by have e0 := Option.some.inj e0; subst e0; exact (et_orM hr7 (et_test (ev_op (EvE.cast (y := toD ((((PySem.Txt.split v_line (" " : Str)).length : Nat) : Int) : Int)) (EvE.cast (y := toD ((((PySem.Txt.split v_line (" " : Str)).length : Nat) : Int) : Int)) (ev_lenL (EvE.r (EvE.cast (y := toD ((PySem.Txt.split v_line (" " : Str)) : (List Str))) (ev_var rfl) rfl) (.lst _))) (by simp [toD, Rp.d])) rfl) (EvE.cast (y := toD ((2 : Int) : Int)) ev_int rfl) rv_B0)) fun b4 => (fun _ e0 => by obtain ⟨r5, hr5, e0⟩ := bind_some e0; exact (by obtain ⟨r6, hr6, e0⟩ := bind_some e0; exact (by have e0 := Option.some.inj e0; subst e0; exact (et_not (et_b (ev_call (ap_k (EvE.cast (y := toD r5) (ev_op (EvE.cast (y := toD ((PySem.Txt.split v_line (" " : Str)) : (List Str))) (ev_var rfl) rfl) ev_int (rv_ixL (at_map toD hr5))) rfl) ap_nil) ⟨_, _, rfl, hr6, rfl⟩))))))))))
     (fun b9 => (es_assoc
     (one (es_ret (EvE.cast (y := toD ((none : (Option Ev.Kind)) : (Option Ev.Kind))) (EvE.cast (y := toD none) ev_non rfl) rfl) wok0))))
     (fun b9 => (es_skip
     (bnd fun r10 hr10 =>
     (es_seq (Γ1 := [.d (toD v_line), .d (toD ((PySem.Txt.split v_line (" " : Str)) : (List Str))), .d (toD r10), .own 0 (toD ((cutL (PySem.Txt.split v_line (" " : Str)) (some (2 : Int)) none) : (List Str))), .u, .u, .u, .u, .u, .u, .u, .u]) (es_parEO (EvE.cast (y := toD r10) (ev_op (EvE.cast (y := toD ((PySem.Txt.split v_line (" " : Str)) : (List Str))) (ev_var rfl) rfl) ev_int (rv_ixL (at_map toD hr10))) rfl) (EvO.cast (y := toD ((cutL (PySem.Txt.split v_line (" " : Str)) (some (2 : Int)) none) : (List Str))) (evo_slL (EvE.cast (y := toD ((PySem.Txt.split v_line (" " : Str)) : (List Str))) (ev_var rfl) rfl) (eo_some ev_int) eo_none) (congrArg D.lst (cutL_map toD _ _ _))))
     (EvS.freeze 3 rfl
     (bnd fun r11 hr11 =>
     (es_seq (Γ1 := [.d (toD v_line), .d (toD ((PySem.Txt.split v_line (" " : Str)) : (List Str))), .d (toD r10), .d (toD r11.b), .d (toD r11.a), .u, .u, .u, .u, .u, .u, .u]) (es_asg (EvE.cast (y := toD r11) (ev_call (ap_k (EvE.cast (y := toD ((cutL (PySem.Txt.split v_line (" " : Str)) (some (2 : Int)) none) : (List Str))) (ev_var rfl) rfl) (ap_k (EvE.cast (y := toD (([("talks" : Str)] : (List Str)) : (List Str))) (EvO.e (EvO.cast (y := toD ([("talks" : Str)] : (List Str))) (evo_lst (ea_cons (EvE.cast (y := toD (("talks" : Str) : Str)) ev_str rfl) ea_nil) (by show 1 ≤ sizeLine; decide)) rfl)) rfl) (ap_k (EvE.cast (y := toD ((3 : Int) : Int)) ev_int rfl) ap_nil))) ⟨_, _, _, _, rfl, hr11, rfl⟩) rfl) (eg_tup (egs_cons eg_name (egs_cons eg_name egs_nil)) rfl))
     (bnd fun r12 hr12 =>
     (es_seq (Γ1 := [.d (toD v_line), .d (toD ((PySem.Txt.split v_line (" " : Str)) : (List Str))), .d (toD r10), .d (toD (((⟨Option.map Sum.inl (r12).a, (r12).b⟩ : (P2 (Option (Int ⊕ Str)) (List Str)))).b : (List Str))), .d (toD r11.a), .d (toD (((⟨Option.map Sum.inl (r12).a, (r12).b⟩ : (P2 (Option (Int ⊕ Str)) (List Str)))).a : (Option (Int ⊕ Str)))), .u, .u, .u, .u, .u, .u]) (es_asg (EvE.cast (y := toD ((⟨Option.map Sum.inl (r12).a, (r12).b⟩ : (P2 (Option (Int ⊕ Str)) (List Str))) : (P2 (Option (Int ⊕ Str)) (List Str)))) (EvE.cast (y := toD (⟨Option.map Sum.inl (r12).a, (r12).b⟩ : (P2 (Option (Int ⊕ Str)) (List Str)))) (EvE.cast (y := toD r12) (ev_call (ap_k (ev_var rfl) (ap_k (EvE.cast (y := toD (([("needs" : Str)] : (List Str)) : (List Str))) (EvO.e (EvO.cast (y := toD ([("needs" : Str)] : (List Str))) (evo_lst (ea_cons (EvE.cast (y := toD (("needs" : Str) : Str)) ev_str rfl) ea_nil) (by show 1 ≤ sizeLine; decide)) rfl)) rfl) (ap_k (EvE.cast (y := toD ((9 : Int) : Int)) ev_int rfl) ap_nil))) ⟨_, _, _, _, rfl, hr12, rfl⟩) rfl) (P2_optL _)) rfl) (eg_tup (egs_cons eg_name (egs_cons eg_name egs_nil)) rfl))
     (es_join (G := fun (s13 : (List Str) × (Option (Int ⊕ Str))) => [.d (toD v_line), .d (toD ((PySem.Txt.split v_line (" " : Str)) : (List Str))), .d (toD r10), .d (toD s13.1), .d (toD r11.a), .d (toD s13.2), .u, .u, .u, .u, .u, .u]) (es_if (Γ1 := [.d (toD v_line), .d (toD ((PySem.Txt.split v_line (" " : Str)) : (List Str))), .d (toD r10), .d (toD (((⟨Option.map Sum.inl (r12).a, (r12).b⟩ : (P2 (Option (Int ⊕ Str)) (List Str)))).b : (List Str))), .d (toD r11.a), .d (toD (((⟨Option.map Sum.inl (r12).a, (r12).b⟩ : (P2 (Option (Int ⊕ Str)) (List Str)))).a : (Option (Int ⊕ Str)))), .u, .u, .u, .u, .u, .u]) (et_test (ev_isN (EvE.cast (y := toD (((⟨Option.map Sum.inl (r12).a, (r12).b⟩ : (P2 (Option (Int ⊕ Str)) (List Str)))).a : (Option (Int ⊕ Str)))) (ev_var rfl) rfl))) (fun b15 => (bnd fun r14 hr14 =>
     (es_seq (Γ1 := [.d (toD v_line), .d (toD ((PySem.Txt.split v_line (" " : Str)) : (List Str))), .d (toD r10), .d (toD (((⟨Option.map Sum.inr (r14).a, (r14).b⟩ : (P2 (Option (Int ⊕ Str)) (List Str)))).b : (List Str))), .d (toD r11.a), .d (toD (((⟨Option.map Sum.inr (r14).a, (r14).b⟩ : (P2 (Option (Int ⊕ Str)) (List Str)))).a : (Option (Int ⊕ Str)))), .u, .u, .u, .u, .u, .u]) (es_asg (EvE.cast (y := toD ((⟨Option.map Sum.inr (r14).a, (r14).b⟩ : (P2 (Option (Int ⊕ Str)) (List Str))) : (P2 (Option (Int ⊕ Str)) (List Str)))) (EvE.cast (y := toD (⟨Option.map Sum.inr (r14).a, (r14).b⟩ : (P2 (Option (Int ⊕ Str)) (List Str)))) (EvE.cast (y := toD r14) (ev_call (ap_k (EvE.cast (y := toD (((⟨Option.map Sum.inl (r12).a, (r12).b⟩ : (P2 (Option (Int ⊕ Str)) (List Str)))).b : (List Str))) (ev_var rfl) rfl) (ap_k (EvE.cast (y := toD (([("needs" : Str)] : (List Str)) : (List Str))) (EvO.e (EvO.cast (y := toD ([("needs" : Str)] : (List Str))) (evo_lst (ea_cons (EvE.cast (y := toD (("needs" : Str) : Str)) ev_str rfl) ea_nil) (by show 1 ≤ sizeLine; decide)) rfl)) rfl) ap_nil)) ⟨_, _, _, rfl, hr14, rfl⟩) rfl) (P2_optR _)) rfl) (eg_tup (egs_cons eg_name (egs_cons eg_name egs_nil)) rfl))
     (one (es_endN (by repeat first | exact .nil | apply Wk.keep | apply Wk.drop)))))) (fun b15 => (one (es_endN (by repeat first | exact .nil | apply Wk.keep | apply Wk.drop))))) fun s13 _ =>
     (bnd fun r16 hr16 =>
     (es_seq (Γ1 := [.d (toD v_line), .d (toD ((PySem.Txt.split v_line (" " : Str)) : (List Str))), .d (toD r10), .d (toD s13.1), .d (toD r11.a), .d (toD s13.2), .d (toD r16.a), .d (toD r16.b), .u, .u, .u, .u]) (es_asg (EvE.cast (y := toD r16) (ev_call (ap_k (ev_var rfl) (ap_k (EvE.cast (y := toD (([("closed" : Str), ("after" : Str)] : (List Str)) : (List Str))) (EvO.e (EvO.cast (y := toD ([("closed" : Str), ("after" : Str)] : (List Str))) (evo_lst (ea_cons (EvE.cast (y := toD (("closed" : Str) : Str)) ev_str rfl) (ea_cons (EvE.cast (y := toD (("after" : Str) : Str)) ev_str rfl) ea_nil)) (by show 2 ≤ sizeLine; decide)) rfl)) rfl) (ap_k (EvE.cast (y := toD ((3 : Int) : Int)) ev_int rfl) ap_nil))) ⟨_, _, _, _, rfl, hr16, rfl⟩) rfl) (eg_tup (egs_cons eg_name (egs_cons eg_name egs_nil)) rfl))
     (bnd fun r17 hr17 =>
     (es_seq (Γ1 := [.d (toD v_line), .d (toD ((PySem.Txt.split v_line (" " : Str)) : (List Str))), .d (toD r10), .d (toD s13.1), .d (toD r11.a), .d (toD s13.2), .d (toD r16.a), .d (toD r17.b), .d (toD r17.a), .u, .u, .u]) (es_asg (EvE.cast (y := toD r17) (ev_call (ap_k (ev_var rfl) (ap_k (EvE.cast (y := toD (([("by" : Str)] : (List Str)) : (List Str))) (EvO.e (EvO.cast (y := toD ([("by" : Str)] : (List Str))) (evo_lst (ea_cons (EvE.cast (y := toD (("by" : Str) : Str)) ev_str rfl) ea_nil) (by show 1 ≤ sizeLine; decide)) rfl)) rfl) ap_nil)) ⟨_, _, _, rfl, hr17, rfl⟩) rfl) (eg_tup (egs_cons eg_name (egs_cons eg_name egs_nil)) rfl))
     (es_seq (Γ1 := [.d (toD v_line), .d (toD ((PySem.Txt.split v_line (" " : Str)) : (List Str))), .d (toD r10), .d (toD s13.1), .d (toD r11.a), .d (toD s13.2), .d (toD r16.a), .d (toD r17.b), .d (toD r17.a), .d (toD ((none : (Option (P2 Int Str))) : (Option (P2 Int Str)))), .u, .u]) (es_asg (EvE.cast (y := toD ((none : (Option (P2 Int Str))) : (Option (P2 Int Str)))) (EvE.cast (y := toD none) ev_non rfl) rfl) eg_name)
     (es_join (G := fun (s19 : (List Str) × (Option (P2 Int Str))) => [.d (toD v_line), .d (toD ((PySem.Txt.split v_line (" " : Str)) : (List Str))), .d (toD r10), .d (toD s19.1), .d (toD r11.a), .d (toD s13.2), .d (toD r16.a), .d (toD r17.b), .d (toD r17.a), .d (toD s19.2), .u, .u]) (es_if (Γ1 := [.d (toD v_line), .d (toD ((PySem.Txt.split v_line (" " : Str)) : (List Str))), .d (toD r10), .d (toD s13.1), .d (toD r11.a), .d (toD s13.2), .d (toD r16.a), .d (toD r17.b), .d (toD r17.a), .d (toD ((none : (Option (P2 Int Str))) : (Option (P2 Int Str)))), .u, .u]) (et_and (et_test (ev_notN (ev_var rfl))) fun b18 => (et_test (ev_notN (ev_var rfl)))) (fun b22 => (bnd fun r20 hr20 =>
     (bnd fun r21 hr21 =>
     (es_seq (Γ1 := [.d (toD v_line), .d (toD ((PySem.Txt.split v_line (" " : Str)) : (List Str))), .d (toD r10), .d (toD r17.b), .d (toD r11.a), .d (toD s13.2), .d (toD r16.a), .d (toD r17.b), .d (toD r17.a), .d (toD ((some (⟨r20, r21⟩ : (P2 Int Str)) : (Option (P2 Int Str))) : (Option (P2 Int Str)))), .u, .u]) (es_par (ea_cons (EvE.cast (y := toD ((some (⟨r20, r21⟩ : (P2 Int Str)) : (Option (P2 Int Str))) : (Option (P2 Int Str)))) (EvE.cast (y := toD (some (⟨r20, r21⟩ : (P2 Int Str)) : (Option (P2 Int Str)))) (EvE.cast (y := toD (⟨r20, r21⟩ : (P2 Int Str))) (ev_tup (ea_cons (EvE.cast (y := toD r20) (EvE.cast (y := toD r20) (ev_var rfl) (by rw [hr20]; rfl)) rfl) (ea_cons (EvE.cast (y := toD r21) (EvE.cast (y := toD r21) (ev_var rfl) (by rw [hr21]; rfl)) rfl) ea_nil)) (by show 2 ≤ sizeLine; decide)) rfl) rfl) rfl) (ea_cons (ev_var rfl) ea_nil)))
     (one (es_endN (by repeat first | exact .nil | apply Wk.keep | apply Wk.drop))))))) (fun b22 => (one (es_endN (by repeat first | exact .nil | apply Wk.keep | apply Wk.drop))))) fun s19 _ =>
     (bnd fun r23 hr23 =>
     (es_seq (Γ1 := [.d (toD v_line), .d (toD ((PySem.Txt.split v_line (" " : Str)) : (List Str))), .d (toD r10), .d (toD r23.b), .d (toD r11.a), .d (toD s13.2), .d (toD r16.a), .d (toD r17.b), .d (toD r17.a), .d (toD s19.2), .d (toD r23.a), .u]) (es_asg (EvE.cast (y := toD r23) (ev_call (ap_k (ev_var rfl) (ap_k (EvE.cast (y := toD (([("ends" : Str), ("by" : Str)] : (List Str)) : (List Str))) (EvO.e (EvO.cast (y := toD ([("ends" : Str), ("by" : Str)] : (List Str))) (evo_lst (ea_cons (EvE.cast (y := toD (("ends" : Str) : Str)) ev_str rfl) (ea_cons (EvE.cast (y := toD (("by" : Str) : Str)) ev_str rfl) ea_nil)) (by show 2 ≤ sizeLine; decide)) rfl)) rfl) ap_nil)) ⟨_, _, _, rfl, hr23, rfl⟩) rfl) (eg_tup (egs_cons eg_name (egs_cons eg_name egs_nil)) rfl))
     (es_ifq (Γ1 := [.d (toD v_line), .d (toD ((PySem.Txt.split v_line (" " : Str)) : (List Str))), .d (toD r10), .d (toD r23.b), .d (toD r11.a), .d (toD s13.2), .d (toD r16.a), .d (toD r17.b), .d (toD r17.a), .d (toD s19.2), .d (toD r23.a), .u]) (et_or (et_truthL (EvE.r (ev_var rfl) (.lst _))) fun b24 => (et_test (ev_op (ev_var rfl) (EvE.cast (y := toD ((0 : Int) : Int)) ev_int rfl) rv_eqOEI)))
     (fun b25 => (es_assoc
     (one (es_ret (EvE.cast (y := toD ((none : (Option Ev.Kind)) : (Option Ev.Kind))) (EvE.cast (y := toD none) ev_non rfl) rfl) wok0))))
     (fun b25 => (es_skip
     (bnd fun r28 hr28 =>
     (bnd fun r29 hr29 =>
     (es_seq (Γ1 := [.d (toD v_line), .d (toD ((PySem.Txt.split v_line (" " : Str)) : (List Str))), .d (toD r10), .d (toD r23.b), .d (toD r11.a), .d (toD s13.2), .d (toD r16.a), .d (toD r17.b), .d (toD r17.a), .d (toD s19.2), .d (toD r23.a), .d (toD r29)]) (es_asg (EvE.cast (y := toD r29) (EvE.cast (y := toD r29) (ev_makeK2 (c := "Kind") (ws := [toD ((orI r11.a (0 : Int)) : Int), toD r28, toD s19.2, toD r23.a]) (ea_cons (ev_var rfl) ea_nil) (ea_cons (EvE.cast (y := toD ((orI r11.a (0 : Int)) : Int)) (ev_orI (ev_var rfl) ev_int) rfl) (ea_cons (EvE.cast (y := toD r28) (ev_ifM1 hr28 (et_test (ev_isN (ev_var rfl))) (fun b27 => (fun _ e0 => by have e0 := Option.some.inj e0; subst e0; exact (EvE.cast (y := toD ((.inl (1 : Int) : (Int ⊕ Str)) : (Int ⊕ Str))) (EvE.cast (y := toD (.inl (1 : Int) : (Int ⊕ Str))) ev_int rfl) rfl))) (fun b27 => (fun _ e0 => by obtain ⟨r26, hr26, e0⟩ := bind_some e0; exact (by have e0 := Option.some.inj e0; subst e0; exact (EvE.cast (y := toD r26) (EvE.cast (y := toD r26) (ev_var rfl) (by rw [hr26]; rfl)) rfl))))) rfl) (ea_cons (ev_var rfl) (ea_cons (ev_var rfl) ea_nil)))) rfl rfl (fun _ _ _ _ h => by obtain _ | ⟨k0, h⟩ := h; obtain _ | ⟨k1, h⟩ := h; obtain _ | ⟨k2, h⟩ := h; obtain _ | ⟨k3, h⟩ := h; cases h; exact ⟨_, rfl, (.cons k0 (.cons k1 (.cons k2 (.cons k3 .nil))))⟩) ⟨_, _, _, _, _, _, rfl, rfl, hr29, rfl, rfl⟩) rfl) rfl) eg_name)
     (bnd fun r30 hr30 =>
     (one (es_ret (EvE.cast (y := toD ((if (decide (r30 = v_line)) = true then (some r29 : (Option Ev.Kind)) else (none : (Option Ev.Kind))) : (Option Ev.Kind))) (ev_ifP (et_test (ev_op (EvE.cast (y := toD r30) (ev_call (ap_k (ev_var rfl) ap_nil) ⟨_, _, rfl, hr30, rfl⟩) rfl) (ev_var rfl) rv_eqS)) (fun b31 => (EvE.cast (y := toD ((some r29 : (Option Ev.Kind)) : (Option Ev.Kind))) (EvE.cast (y := toD (some r29 : (Option Ev.Kind))) (ev_var rfl) rfl) rfl)) (fun b31 => (EvE.cast (y := toD ((none : (Option Ev.Kind)) : (Option Ev.Kind))) (EvE.cast (y := toD none) ev_non rfl) rfl))) rfl) wok0))))))))))))))))))))))))))))))))
end L
namespace L
open PySem L2 Hv Ev
variable {P : Program} {w : World} {K : PySem.W.Frag} {mg : Str → Option Value} {base : Heap}
noncomputable def fn_Rules_init (v_kinds : (Tp Ev.Kind)) (v_rows : (Tp Ev.Row)) : Option (Ev.Rules) :=
  ((fn_check_kinds (v_kinds)).bind fun r1 =>
     ((fn_check_rows (v_rows) (r1)).bind fun r2 =>
     (if List.length (v_kinds).l ≤ sizeLine then
     ((lcO (fun (x4 : Ev.Kind) => ((fn_line_of_kind (x4)).bind fun r5 => some (some r5))) (v_kinds).l).bind fun r7 =>
     (if List.length (v_rows).l ≤ sizeLine then
     ((lcO (fun (x9 : Ev.Row) => ((fn_line_of_row (x9)).bind fun r10 => some (some r10))) (v_rows).l).bind fun r12 =>
     (if (r7).length + (r12).length ≤ sizeLine then
     (if (List.map (fun x => Str.length x) (r7 ++ r12)).sum + List.length (r7 ++ r12) * Str.length ("\n" : Str) ≤ 16777216 then
     some (⟨(⟨v_kinds, v_rows⟩ : (P2 (Tp Ev.Kind) (Tp Ev.Row))), (r7 ++ r12), (PySem.Txt.join ("\n" : Str) (r7 ++ r12))⟩ : Ev.Rules) else none) else none)) else none)) else none)))
def pre_Rules_init : D → List D → D → D → Prop := fun x xs y x' => ∃ (v_kinds : (Tp Ev.Kind)) (v_rows : (Tp Ev.Row)) (r : Ev.Rules), x = .ins "Rules" [] ∧ xs = [toD v_kinds, toD v_rows] ∧ fn_Rules_init v_kinds v_rows = some r ∧ y = .non ∧ x' = toD r
theorem ok_Rules_init (M : Ds K mg) (T : Txt K mg) : FnOk P w K mg base CX0 4 M.f_Rules_init M.fd_Rules_init P_Rules_init (spW K pre_Rules_init) := by
  refine M.D_Rules_init.fn.ok sc_Rules_init (fun vs H Q E h => ?_) (fun cdv A outer s H vs Q E hr h => ?_)
  · obtain ⟨F, a, o, x, xs, vs', y, x', rfl, _, _, _, _, rp, pr, _⟩ := h
    obtain ⟨v_kinds, v_rows, r, rfl, rfl, _⟩ := pr
    exact congrArg Nat.succ rp.len
  · obtain ⟨F, a, o, x, xs, vs', y, x', rfl, sF, fa, ha, ro, rp, pr, ret⟩ := h
    obtain ⟨v_kinds, v_rows, r, rfl, rfl, hf, rfl, rfl⟩ := pr
    skip
    refine ⟨_, (PSs.nox (pss_cons (ps_expr (pe_call (ok_check_rows M T) (hr.mono (by decide)) rfl M.D_check_rows.mg M.D_check_rows.fn.kp M.D_check_rows.bd .nil pass0 (pa_cons (pv 2) (pa_cons (pe_call (ok_check_kinds M T) (hr.mono (by decide)) rfl M.D_check_kinds.mg M.D_check_kinds.fn.kp M.D_check_kinds.bd .nil pass0 (pa_cons (pv 1) pa_nil)) pa_nil))))
     (pss_cons (ps_fld (pv 0) (pe_tup (pa_cons (pv 1) (pa_cons (pv 2) pa_nil))) rfl)
     (pss_cons (ps_fld (pv 0) (pe_op op_cat (pe_lc (own := [("kind", 3)]) (g := gName 3) rfl sc_Rules_init.nd (show PI _ _ _ (iTup K _) from pi_tup (pv 1)) (blkOk_by (own := [("kind", 3)]) (N := N_Rules_init) (sc := defScope s_Rules_init) (by decide +kernel)) (fun _ _ _ _ _ => (pg_name (i := 3) sc_Rules_init.nd rfl (.inl rfl))) (fun _ _ _ _ _ => pts_nil) (fun _ _ _ _ _ => (pe_call (ok_line_of_kind M T) (hr.mono (by decide)) rfl M.D_line_of_kind.mg M.D_line_of_kind.fn.kp M.D_line_of_kind.bd .nil pass0 (pa_cons (pv 3) pa_nil)))) (pe_lc (own := [("row", 4)]) (g := gName 4) rfl sc_Rules_init.nd (show PI _ _ _ (iTup K _) from pi_tup (pv 2)) (blkOk_by (own := [("row", 4)]) (N := N_Rules_init) (sc := defScope s_Rules_init) (by decide +kernel)) (fun _ _ _ _ _ => (pg_name (i := 4) sc_Rules_init.nd rfl (.inl rfl))) (fun _ _ _ _ _ => pts_nil) (fun _ _ _ _ _ => (pe_call (ok_line_of_row M T) (hr.mono (by decide)) rfl M.D_line_of_row.mg M.D_line_of_row.fn.kp M.D_line_of_row.bd .nil pass0 (pa_cons (pv 4) pa_nil))))) rfl)
     (pss_cons (ps_fld (pv 0) (pe_join pe_str (show PE _ _ (tFld K _ _) from pe_fld (pv 0) rfl)) rfl)
     pss_nil))))), ?_⟩
    unfold fn_Rules_init at hf
    refine run_Wfl (Kn := fun w => .nx [.own 1 (toD w), .u, .u, .u, .u]) sF fa ha ro rp ret ?_ hf rfl (wok1 rfl)
    exact (bnd fun r1 hr1 =>
     (bnd fun r2 hr2 =>
     (es_seq (Γ1 := [.own 1 (.ins "Rules" []), .d (toD v_kinds), .d (toD v_rows), .u, .u]) (es_expr (EvE.cast (y := toD r2) (ev_call (ap_k (ev_var rfl) (ap_k (EvE.cast (y := toD r1) (ev_call (ap_k (ev_var rfl) ap_nil) ⟨_, _, rfl, hr1, rfl⟩) rfl) ap_nil)) ⟨_, _, _, rfl, hr2, rfl⟩) rfl))
     (es_seq (Γ1 := [.own 1 (.ins "Rules" [("made", toD ((⟨v_kinds, v_rows⟩ : (P2 (Tp Ev.Kind) (Tp Ev.Row))) : (P2 (Tp Ev.Kind) (Tp Ev.Row))))]), .d (toD v_kinds), .d (toD v_rows), .u, .u]) (es_fld (c := "Rules") (p := 1) (gs := []) (EvE.cast (y := toD ((⟨v_kinds, v_rows⟩ : (P2 (Tp Ev.Kind) (Tp Ev.Row))) : (P2 (Tp Ev.Kind) (Tp Ev.Row)))) (EvE.cast (y := toD (⟨v_kinds, v_rows⟩ : (P2 (Tp Ev.Kind) (Tp Ev.Row)))) (ev_tup (ea_cons (ev_var rfl) (ea_cons (ev_var rfl) ea_nil)) (by show 2 ≤ sizeLine; decide)) rfl) rfl) rfl T.cl_Rules T.na_Rules_made (by show 0 < 1000; decide))
     (grd fun h3 =>
     (bnd fun r7 hr7 =>
     (grd fun h8 =>
     (bnd fun r12 hr12 =>
     (grd fun h13 =>
     (es_seq (Γ1 := [.own 1 (.ins "Rules" [("made", toD ((⟨v_kinds, v_rows⟩ : (P2 (Tp Ev.Kind) (Tp Ev.Row))) : (P2 (Tp Ev.Kind) (Tp Ev.Row)))), ("lines", toD ((r7 ++ r12) : (List Str)))]), .d (toD v_kinds), .d (toD v_rows), .u, .u]) (es_fld (c := "Rules") (p := 1) (gs := [("made", toD ((⟨v_kinds, v_rows⟩ : (P2 (Tp Ev.Kind) (Tp Ev.Row))) : (P2 (Tp Ev.Kind) (Tp Ev.Row))))]) (EvE.cast (y := toD ((r7 ++ r12) : (List Str))) (EvO.e (EvO.cast (y := toD ((r7 ++ r12) : (List Str))) (evo_cat (EvE.cast (y := toD r7) (EvO.e (EvO.cast (y := toD r7) (evo_lcO (fD := toD) (gD := toD) (Γ2 := [.own 1 (.ins "Rules" [("made", toD ((⟨v_kinds, v_rows⟩ : (P2 (Tp Ev.Kind) (Tp Ev.Row))) : (P2 (Tp Ev.Kind) (Tp Ev.Row))))]), .d (toD v_kinds), .d (toD v_rows), .u, .u]) (G1 := fun (x4 : Ev.Kind) => [.own 1 (.ins "Rules" [("made", toD ((⟨v_kinds, v_rows⟩ : (P2 (Tp Ev.Kind) (Tp Ev.Row))) : (P2 (Tp Ev.Kind) (Tp Ev.Row))))]), .d (toD v_kinds), .d (toD v_rows), .d (toD x4), .u]) hr7 h3 (ei_tup (ev_var rfl)) (by repeat first | exact .nil | apply Wk.keep | apply Wk.drop) (off_of rfl) (fun _ x4 => (egw_name (by decide))) (fun _ x4 _ e0 => by obtain ⟨r5, hr5, e0⟩ := bind_some e0; exact (by have e0 := Option.some.inj e0; subst e0; exact ⟨et_yes, fun _ ey => by have ey := Option.some.inj ey; subst ey; exact (EvE.cast (y := toD r5) (ev_call (ap_k (ev_var rfl) ap_nil) ⟨_, _, rfl, hr5, rfl⟩) rfl)⟩)) (fun x4 => by repeat first | exact .nil | apply Wk.keep | apply Wk.drop)) rfl)) rfl) (EvE.r (EvE.cast (y := toD r12) (EvO.e (EvO.cast (y := toD r12) (evo_lcO (fD := toD) (gD := toD) (Γ2 := [.own 1 (.ins "Rules" [("made", toD ((⟨v_kinds, v_rows⟩ : (P2 (Tp Ev.Kind) (Tp Ev.Row))) : (P2 (Tp Ev.Kind) (Tp Ev.Row))))]), .d (toD v_kinds), .d (toD v_rows), .u, .u]) (G1 := fun (x9 : Ev.Row) => [.own 1 (.ins "Rules" [("made", toD ((⟨v_kinds, v_rows⟩ : (P2 (Tp Ev.Kind) (Tp Ev.Row))) : (P2 (Tp Ev.Kind) (Tp Ev.Row))))]), .d (toD v_kinds), .d (toD v_rows), .u, .d (toD x9)]) hr12 h8 (ei_tup (ev_var rfl)) (by repeat first | exact .nil | apply Wk.keep | apply Wk.drop) (off_of rfl) (fun _ x9 => (egw_name (by decide))) (fun _ x9 _ e0 => by obtain ⟨r10, hr10, e0⟩ := bind_some e0; exact (by have e0 := Option.some.inj e0; subst e0; exact ⟨et_yes, fun _ ey => by have ey := Option.some.inj ey; subst ey; exact (EvE.cast (y := toD r10) (ev_call (ap_k (ev_var rfl) ap_nil) ⟨_, _, rfl, hr10, rfl⟩) rfl)⟩)) (fun x9 => by repeat first | exact .nil | apply Wk.keep | apply Wk.drop)) rfl)) rfl) (.lst _)) (by simpa using h13)) (by simp [toD, Rp.d]))) rfl) rfl T.cl_Rules T.na_Rules_lines (by show 1 < 1000; decide))
     (grd fun h14 =>
     (es_seq (Γ1 := [.own 1 (.ins "Rules" [("made", toD ((⟨v_kinds, v_rows⟩ : (P2 (Tp Ev.Kind) (Tp Ev.Row))) : (P2 (Tp Ev.Kind) (Tp Ev.Row)))), ("lines", toD ((r7 ++ r12) : (List Str))), ("text", toD ((PySem.Txt.join ("\n" : Str) (r7 ++ r12)) : Str))]), .d (toD v_kinds), .d (toD v_rows), .u, .u]) (es_fld (c := "Rules") (p := 1) (gs := [("made", toD ((⟨v_kinds, v_rows⟩ : (P2 (Tp Ev.Kind) (Tp Ev.Row))) : (P2 (Tp Ev.Kind) (Tp Ev.Row)))), ("lines", toD ((r7 ++ r12) : (List Str)))]) (EvE.cast (y := toD ((PySem.Txt.join ("\n" : Str) (r7 ++ r12)) : Str)) (ev_join (ys := (r7 ++ r12)) ev_str (EvE.r (EvE.cast (y := toD ((r7 ++ r12) : (List Str))) (EvE.cast (y := toD ((r7 ++ r12) : (List Str))) (ev_fldV (c := "Rules") rfl T.cl_Rules T.na_Rules_lines rfl) rfl) rfl) (.lst _)) h14) rfl) rfl T.cl_Rules T.na_Rules_text (by show 2 < 1000; decide))
     (one (es_endN (by repeat first | exact .nil | apply Wk.keep | apply Wk.drop)))))))))))))))
end L
namespace L
open PySem L2 Hv Ev
variable {P : Program} {w : World} {K : PySem.W.Frag} {mg : Str → Option Value} {base : Heap}
noncomputable def fn_Rules_read (v_cls : Ev.CRules) (v_text : Str) : Option (Ev.Rules) :=
  (if (!true) = true then
     none else
     (if (Str.length ("\n" : Str) == 0) = false ∧ Str.length v_text + 2 ≤ sizeLine then
     ((forS (fun (s3 : (List Ev.Kind) × (List Ev.Row)) (x4 : Str) =>
     ((if (List.isEmpty s3.2) = true then ((fn_read_kind (x4)).bind fun r5 => some r5) else some (none : (Option Ev.Kind))).bind fun r7 =>
     ((fn_read_row (x4)).bind fun r8 =>
     (if (((r7).isNone) && ((r8).isNone)) = true then
     none else
     (if ((r7).isNone) = true then
     ((r8).bind fun r12 =>
     (if List.length s3.2 < sizeLine then
     some (s3.1, (s3.2 ++ [r12])) else none)) else
     ((r7).bind fun r14 =>
     (if List.length s3.1 < sizeLine then
     some ((s3.1 ++ [r14]), s3.2) else none))))))) (([] : (List Ev.Kind)), ([] : (List Ev.Row))) (PySem.Txt.split v_text ("\n" : Str))).bind fun (s3 : (List Ev.Kind) × (List Ev.Row)) =>
     ((fn_Rules_init ((⟨s3.1⟩ : (Tp Ev.Kind))) ((⟨s3.2⟩ : (Tp Ev.Row)))).bind fun r16 =>
     some r16)) else none))
def pre_Rules_read : List Ar → D → Prop := fun xs y => ∃ (v_cls : Ev.CRules) (v_text : Str) (r : Ev.Rules), xs = [.k (toD v_cls), .k (toD v_text)] ∧ fn_Rules_read v_cls v_text = some r ∧ y = toD r
theorem ok_Rules_read (M : Ds K mg) (T : Txt K mg) : FnOk P w K mg base CX0 8 M.f_Rules_read M.fd_Rules_read P_Rules_read (spE K pre_Rules_read) := by
  refine M.D_Rules_read.fn.ok sc_Rules_read (fun vs H Q E h => ?_) (fun cdv A outer s H vs Q E hr h => ?_)
  · obtain ⟨F, xs, y, _, ar, pr, _⟩ := h
    obtain ⟨v_cls, v_text, r, rfl, _⟩ := pr
    exact ar.len
  · obtain ⟨F, xs, y, sF, ar, pr, ret⟩ := h
    obtain ⟨v_cls, v_text, r, rfl, hf, rfl⟩ := pr
    refine ⟨_, (pss_cons (ps_if (pt_not (pt_val (pe_callB (show CallR _ (.builtin "isinstance") (rIsi K) from call_isi) (by rfl) T.isinstance (by decide +kernel) (pa_cons (pv 1) (pa_cons (pe_bltn (v := .ty "str") (u := .type "str") (by rfl) T.str (by decide +kernel) rfl) pa_nil)))))
     (pss_cons ps_never
     pss_nil)
     pss_nil)
     (pss_cons (ps_par (i := 2) (j := 3) (by rfl) sc_Rules_read.nd rfl rfl (by decide) rfl rfl (pa_cons (pe_lst pa_nil) (pa_cons (pe_lst pa_nil) pa_nil)) (by rfl))
     (pss_cons (ps_for PassesOwn.never rfl (show PI _ _ _ (iList K _) from pi_list (pe_split (pv 1) pe_str)) (pg_name (i := 4) sc_Rules_read.nd rfl (.inl rfl))
     (pss_cons (ps_asg (pe_ifExp (pt_cmpR (op_eqE hr.units) (pv 3) (pe_lst pa_nil) (nomark _)) (pe_call (ok_read_kind M T) (hr.mono (by decide)) rfl M.D_read_kind.mg M.D_read_kind.fn.kp M.D_read_kind.bd .nil pass0 (pa_cons (pv 4) pa_nil)) pe_non) (pg_name (i := 5) sc_Rules_read.nd rfl (.inl rfl)))
     (pss_cons (ps_asg (pe_call (ok_read_row M T) (hr.mono (by decide)) rfl M.D_read_row.mg M.D_read_row.fn.kp M.D_read_row.bd .nil pass0 (pa_cons (pv 4) pa_nil)) (pg_name (i := 6) sc_Rules_read.nd rfl (.inl rfl)))
     (pss_cons (ps_if (PW.pt (pw_and (pt_cmpR op_isN (pv 5) pe_non (nomark _)) (pw_and1 (pt_cmpR op_isN (pv 6) pe_non (nomark _)))))
     (pss_cons ps_never
     pss_nil)
     pss_nil)
     (pss_cons (ps_if (pt_cmpR op_isN (pv 5) pe_non (nomark _))
     (pss_cons (ps_expr (pe_bm PySem.F.plainAttrs_list PySem.F.slot_list_append PySem.F.type_list_append mt_append (pv 3) (pa_cons (pv 6) pa_nil)))
     pss_nil)
     (pss_cons (ps_expr (pe_bm PySem.F.plainAttrs_list PySem.F.slot_list_append PySem.F.type_list_append mt_append (pv 2) (pa_cons (pv 5) pa_nil)))
     pss_nil))
     pss_nil)))))
     (pss_cons (ps_tryC (fun _ => (pss_cons (ps_ret (pe_mkL (i := 0) M.D_Rules_init.make (ok_Rules_init M T) (hr.mono (by decide)) rfl (.inl rfl) M.D_Rules_init.bd .nil pass0 (pa_cons (pe_callTy (show CallR _ (.type "tuple") (rTup1 K) from call_tuple_of) (by rfl) T.tuple (by decide +kernel) (pa_cons (pv 2) pa_nil)) (pa_cons (pe_callTy (show CallR _ (.type "tuple") (rTup1 K) from call_tuple_of) (by rfl) T.tuple (by decide +kernel) (pa_cons (pv 3) pa_nil)) pa_nil))))
     pss_nil)))
     pss_nil)))), ?_⟩
    unfold fn_Rules_read at hf
    refine run_rt (Kn := fun y => .rt (toD y) []) sF ar ret ?_ hf rfl
    exact (es_ifq (Γ1 := [.d (toD v_cls), .d (toD v_text), .u, .u, .u, .u, .u]) (et_not (et_b (ev_isi (n := "str") (ev_var rfl) rfl (kit_ty (by decide +kernel)))))
     (fun b1 => (es_assoc
     out_none))
     (fun b1 => (es_skip
     (es_seq (Γ1 := [.d (toD v_cls), .d (toD v_text), .own 0 (toD (([] : (List Ev.Kind)) : (List Ev.Kind))), .own 0 (toD (([] : (List Ev.Row)) : (List Ev.Row))), .u, .u, .u]) (es_parOO (Γ1 := [.d (toD v_cls), .d (toD v_text), .u, .u, .u, .u, .u]) (by decide) (EvO.cast (y := toD ([] : (List Ev.Kind))) (evo_lst ea_nil (by show 0 ≤ sizeLine; decide)) rfl) (fun _ => (EvO.cast (y := toD ([] : (List Ev.Row))) (evo_lst ea_nil (by show 0 ≤ sizeLine; decide)) rfl)) rfl)
     (grd fun h2 =>
     (es_join (G := fun (s3 : (List Ev.Kind) × (List Ev.Row)) => [.d (toD v_cls), .d (toD v_text), .own 0 (toD s3.1), .own 0 (toD s3.2), .u, .u, .u]) (es_forS (fD := toD) (G := fun (s3 : (List Ev.Kind) × (List Ev.Row)) => [.d (toD v_cls), .d (toD v_text), .own 0 (toD s3.1), .own 0 (toD s3.2), .u, .u, .u]) (G' := fun (s3 : (List Ev.Kind) × (List Ev.Row)) (x4 : Str) => [.d (toD v_cls), .d (toD v_text), .own 0 (toD s3.1), .own 0 (toD s3.2), .d (toD x4), .u, .u]) (ei_list (EvE.cast (y := toD ((PySem.Txt.split v_text ("\n" : Str)) : (List Str))) (ev_split (ev_var rfl) ev_str h2) rfl)) (by repeat first | exact .nil | apply Wk.keep | apply Wk.drop) (fun s3 x4 => eg_name) (fun s3 x4 =>
     (bnd fun r7 hr7 =>
     (es_seq (Γ1 := [.d (toD v_cls), .d (toD v_text), .own 0 (toD s3.1), .own 0 (toD s3.2), .d (toD x4), .d (toD r7), .u]) (es_asg (EvE.cast (y := toD r7) (ev_ifM1 hr7 (et_test (ev_isNil (x0 := .non) (evr_var (x := toD s3.2) (by first | exact .o 0 rfl | exact .d rfl) (.lst _)))) (fun b6 => (fun _ e0 => by obtain ⟨r5, hr5, e0⟩ := bind_some e0; exact (by have e0 := Option.some.inj e0; subst e0; exact (EvE.cast (y := toD r5) (ev_call (ap_k (ev_var rfl) ap_nil) ⟨_, _, rfl, hr5, rfl⟩) rfl)))) (fun b6 => (fun _ e0 => by have e0 := Option.some.inj e0; subst e0; exact (EvE.cast (y := toD ((none : (Option Ev.Kind)) : (Option Ev.Kind))) (EvE.cast (y := toD none) ev_non rfl) rfl)))) rfl) eg_name)
     (bnd fun r8 hr8 =>
     (es_seq (Γ1 := [.d (toD v_cls), .d (toD v_text), .own 0 (toD s3.1), .own 0 (toD s3.2), .d (toD x4), .d (toD r7), .d (toD r8)]) (es_asg (EvE.cast (y := toD r8) (ev_call (ap_k (ev_var rfl) ap_nil) ⟨_, _, rfl, hr8, rfl⟩) rfl) eg_name)
     (es_ifq (Γ1 := [.d (toD v_cls), .d (toD v_text), .own 0 (toD s3.1), .own 0 (toD s3.2), .d (toD x4), .d (toD r7), .d (toD r8)]) (et_and (et_test (ev_isN (ev_var rfl))) fun b9 => (et_test (ev_isN (ev_var rfl))))
     (fun b10 => (es_assoc
     out_none))
     (fun b10 => (es_skip
     (es_ifq (Γ1 := [.d (toD v_cls), .d (toD v_text), .own 0 (toD s3.1), .own 0 (toD s3.2), .d (toD x4), .d (toD r7), .d (toD r8)]) (et_test (ev_isN (ev_var rfl)))
     (fun b11 => (es_assoc
     (bnd fun r12 hr12 =>
     (grd fun h13 =>
     (es_seq (Γ1 := [.d (toD v_cls), .d (toD v_text), .own 0 (toD s3.1), .own 0 (toD ((s3.2 ++ [r12]) : (List Ev.Row))), .d (toD x4), .d (toD r7), .d (toD r8)]) (EvS1.cast (es_append (i := 3) (xs := List.map toD s3.2) rfl (EvE.cast (y := toD r12) (EvE.cast (y := toD r12) (ev_var rfl) (by rw [hr12]; rfl)) rfl) rfl (by simpa using h13)) (by simp [toD, Rp.d]))
     (es_skip
     (one (es_end (by repeat first | exact .nil | apply Wk.keep | apply Wk.drop)))))))))
     (fun b11 => (es_assoc
     (bnd fun r14 hr14 =>
     (grd fun h15 =>
     (es_seq (Γ1 := [.d (toD v_cls), .d (toD v_text), .own 0 (toD ((s3.1 ++ [r14]) : (List Ev.Kind))), .own 0 (toD s3.2), .d (toD x4), .d (toD r7), .d (toD r8)]) (EvS1.cast (es_append (i := 2) (xs := List.map toD s3.1) rfl (EvE.cast (y := toD r14) (EvE.cast (y := toD r14) (ev_var rfl) (by rw [hr14]; rfl)) rfl) rfl (by simpa using h15)) (by simp [toD, Rp.d]))
     (es_skip
     (one (es_end (by repeat first | exact .nil | apply Wk.keep | apply Wk.drop))))))))))))))))))) fun s3 _ =>
     (es_assoc
     (bnd fun r16 hr16 =>
     (one (es_ret (EvE.cast (y := toD r16) (EvE.cast (y := toD r16) (ev_mkL (c := "Rules") rfl (ea_cons (EvE.cast (y := toD ((⟨s3.1⟩ : (Tp Ev.Kind)) : (Tp Ev.Kind))) (EvE.cast (y := toD (⟨s3.1⟩ : (Tp Ev.Kind))) (ev_tuple (evr_var (x := toD s3.1) (by first | exact .o 0 rfl | exact .d rfl) (.lst _))) rfl) rfl) (ea_cons (EvE.cast (y := toD ((⟨s3.2⟩ : (Tp Ev.Row)) : (Tp Ev.Row))) (EvE.cast (y := toD (⟨s3.2⟩ : (Tp Ev.Row))) (ev_tuple (evr_var (x := toD s3.2) (by first | exact .o 0 rfl | exact .d rfl) (.lst _))) rfl) rfl) ea_nil)) ⟨_, _, _, rfl, rfl, hr16, rfl, rfl⟩) rfl) rfl) wok0))))))))))
noncomputable def fn_Rules_eq (v_self : Ev.Rules) (v_other : Ev.Rules) : Option (Bool) :=
  some (true && (decide ((v_self).text = (v_other).text)))
def pre_Rules_eq : List Ar → D → Prop := fun xs y => ∃ (v_self : Ev.Rules) (v_other : Ev.Rules) (r : Bool), xs = [.k (toD v_self), .k (toD v_other)] ∧ fn_Rules_eq v_self v_other = some r ∧ y = toD r
theorem ok_Rules_eq (M : Ds K mg) (T : Txt K mg) : FnOk P w K mg base CX0 1 M.f_Rules_eq M.fd_Rules_eq P_Rules_eq (spE K pre_Rules_eq) := by
  refine M.D_Rules_eq.fn.ok sc_Rules_eq (fun vs H Q E h => ?_) (fun cdv A outer s H vs Q E hr h => ?_)
  · obtain ⟨F, xs, y, _, ar, pr, _⟩ := h
    obtain ⟨v_self, v_other, r, rfl, _⟩ := pr
    exact ar.len
  · obtain ⟨F, xs, y, sF, ar, pr, ret⟩ := h
    obtain ⟨v_self, v_other, r, rfl, hf, rfl⟩ := pr
    refine ⟨_, (pss_cons (ps_ret (pe_and (pe_callB (show CallR _ (.builtin "isinstance") (rIsi K) from call_isi) (by rfl) T.isinstance (by decide +kernel) (pa_cons (pv 1) (pa_cons (pe_glob (v := .ref (cA K "Rules")) rfl T.mg_Rules rfl) pa_nil))) (pe_one (pe_cmpR op_eq (show PE _ _ (tFld K _ _) from pe_fld (pv 0) rfl) (show PE _ _ (tFld K _ _) from pe_fld (pv 1) rfl) (nomark _)))))
     pss_nil), ?_⟩
    unfold fn_Rules_eq at hf
    refine run_rt (Kn := fun y => .rt (toD y) []) sF ar ret ?_ hf rfl
    exact (one (es_ret (EvE.cast (y := toD ((true && (decide ((v_self).text = (v_other).text))) : Bool)) (ev_andB (ev_isiC (c := "Rules") (ev_var rfl) T.is_Rules) fun b1 => (ev_op (EvE.cast (y := toD ((v_self).text : Str)) (EvE.cast (y := toD ((v_self).text : Str)) (ev_fld (c := "Rules") (ev_var rfl) T.cl_Rules T.na_Rules_text rfl) rfl) rfl) (EvE.cast (y := toD ((v_other).text : Str)) (EvE.cast (y := toD ((v_other).text : Str)) (ev_fld (c := "Rules") (ev_var rfl) T.cl_Rules T.na_Rules_text rfl) rfl) rfl) rv_eqS)) rfl) wok0))
noncomputable def fn_Rules_str (v_self : Ev.Rules) : Option (Str) :=
  (if Str.length (v_self).text ≤ sizeLine then
     some (v_self).text else none)
def pre_Rules_str : List Ar → D → Prop := fun xs y => ∃ (v_self : Ev.Rules) (r : Str), xs = [.k (toD v_self)] ∧ fn_Rules_str v_self = some r ∧ y = toD r
theorem ok_Rules_str (M : Ds K mg) (T : Txt K mg) : FnOk P w K mg base CX0 1 M.f_Rules_str M.fd_Rules_str P_Rules_str (spE K pre_Rules_str) := by
  refine M.D_Rules_str.fn.ok sc_Rules_str (fun vs H Q E h => ?_) (fun cdv A outer s H vs Q E hr h => ?_)
  · obtain ⟨F, xs, y, _, ar, pr, _⟩ := h
    obtain ⟨v_self, r, rfl, _⟩ := pr
    exact ar.len
  · obtain ⟨F, xs, y, sF, ar, pr, ret⟩ := h
    obtain ⟨v_self, r, rfl, hf, rfl⟩ := pr
    refine ⟨_, (pss_cons (ps_ret (pe_joined1 (pe_fmt (show PE _ _ (tFld K _ _) from pe_fld (pv 0) rfl))))
     pss_nil), ?_⟩
    unfold fn_Rules_str at hf
    refine run_rt (Kn := fun y => .rt (toD y) []) sF ar ret ?_ hf rfl
    exact (grd fun h1 =>
     (one (es_ret (EvE.cast (y := toD ((v_self).text : Str)) (ev_fmt1S (EvE.cast (y := toD ((v_self).text : Str)) (EvE.cast (y := toD ((v_self).text : Str)) (ev_fld (c := "Rules") (ev_var rfl) T.cl_Rules T.na_Rules_text rfl) rfl) rfl) h1) rfl) wok0)))
end L
namespace L
open PySem L2 Hv Ev
variable {P : Program} {w : World} {K : PySem.W.Frag} {mg : Str → Option Value} {base : Heap}
noncomputable def fn_take (v_bag_here : (Q3 Int Int Int)) (v_many : Int) : Option (Int × (Q3 Int Int Int)) :=
  (if CMulW ((⟨(v_bag_here).a, (v_bag_here).b, ((v_bag_here).c + (1 : Int))⟩ : (Q3 Int Int Int))).a (91193 : Int) then
     (if CMulW ((⟨(v_bag_here).a, (v_bag_here).b, ((v_bag_here).c + (1 : Int))⟩ : (Q3 Int Int Int))).c ((⟨(v_bag_here).a, (v_bag_here).b, ((v_bag_here).c + (1 : Int))⟩ : (Q3 Int Int Int))).c then
     (if CMulW (((⟨(v_bag_here).a, (v_bag_here).b, ((v_bag_here).c + (1 : Int))⟩ : (Q3 Int Int Int))).c * ((⟨(v_bag_here).a, (v_bag_here).b, ((v_bag_here).c + (1 : Int))⟩ : (Q3 Int Int Int))).c) (6827 : Int) then
     (if 0 < (2147483399 : Int) then
     (if (decide ((0 : Int) < ((⟨((((((⟨(v_bag_here).a, (v_bag_here).b, ((v_bag_here).c + (1 : Int))⟩ : (Q3 Int Int Int))).a * (91193 : Int)) + ((((⟨(v_bag_here).a, (v_bag_here).b, ((v_bag_here).c + (1 : Int))⟩ : (Q3 Int Int Int))).c * ((⟨(v_bag_here).a, (v_bag_here).b, ((v_bag_here).c + (1 : Int))⟩ : (Q3 Int Int Int))).c) * (6827 : Int))) + (40507 : Int)) % (2147483399 : Int)), ((⟨(v_bag_here).a, (v_bag_here).b, ((v_bag_here).c + (1 : Int))⟩ : (Q3 Int Int Int))).b, ((⟨(v_bag_here).a, (v_bag_here).b, ((v_bag_here).c + (1 : Int))⟩ : (Q3 Int Int Int))).c⟩ : (Q3 Int Int Int))).b)) = true then
     (if CDivP ((⟨((((((⟨(v_bag_here).a, (v_bag_here).b, ((v_bag_here).c + (1 : Int))⟩ : (Q3 Int Int Int))).a * (91193 : Int)) + ((((⟨(v_bag_here).a, (v_bag_here).b, ((v_bag_here).c + (1 : Int))⟩ : (Q3 Int Int Int))).c * ((⟨(v_bag_here).a, (v_bag_here).b, ((v_bag_here).c + (1 : Int))⟩ : (Q3 Int Int Int))).c) * (6827 : Int))) + (40507 : Int)) % (2147483399 : Int)), ((⟨(v_bag_here).a, (v_bag_here).b, ((v_bag_here).c + (1 : Int))⟩ : (Q3 Int Int Int))).b, ((⟨(v_bag_here).a, (v_bag_here).b, ((v_bag_here).c + (1 : Int))⟩ : (Q3 Int Int Int))).c⟩ : (Q3 Int Int Int))).b v_many then
     some (((⟨((⟨((((((⟨(v_bag_here).a, (v_bag_here).b, ((v_bag_here).c + (1 : Int))⟩ : (Q3 Int Int Int))).a * (91193 : Int)) + ((((⟨(v_bag_here).a, (v_bag_here).b, ((v_bag_here).c + (1 : Int))⟩ : (Q3 Int Int Int))).c * ((⟨(v_bag_here).a, (v_bag_here).b, ((v_bag_here).c + (1 : Int))⟩ : (Q3 Int Int Int))).c) * (6827 : Int))) + (40507 : Int)) % (2147483399 : Int)), ((⟨(v_bag_here).a, (v_bag_here).b, ((v_bag_here).c + (1 : Int))⟩ : (Q3 Int Int Int))).b, ((⟨(v_bag_here).a, (v_bag_here).b, ((v_bag_here).c + (1 : Int))⟩ : (Q3 Int Int Int))).c⟩ : (Q3 Int Int Int))).b / v_many, ((⟨((((((⟨(v_bag_here).a, (v_bag_here).b, ((v_bag_here).c + (1 : Int))⟩ : (Q3 Int Int Int))).a * (91193 : Int)) + ((((⟨(v_bag_here).a, (v_bag_here).b, ((v_bag_here).c + (1 : Int))⟩ : (Q3 Int Int Int))).c * ((⟨(v_bag_here).a, (v_bag_here).b, ((v_bag_here).c + (1 : Int))⟩ : (Q3 Int Int Int))).c) * (6827 : Int))) + (40507 : Int)) % (2147483399 : Int)), ((⟨(v_bag_here).a, (v_bag_here).b, ((v_bag_here).c + (1 : Int))⟩ : (Q3 Int Int Int))).b, ((⟨(v_bag_here).a, (v_bag_here).b, ((v_bag_here).c + (1 : Int))⟩ : (Q3 Int Int Int))).c⟩ : (Q3 Int Int Int))).b % v_many⟩ : (P2 Int Int))).b, (⟨((⟨((((((⟨(v_bag_here).a, (v_bag_here).b, ((v_bag_here).c + (1 : Int))⟩ : (Q3 Int Int Int))).a * (91193 : Int)) + ((((⟨(v_bag_here).a, (v_bag_here).b, ((v_bag_here).c + (1 : Int))⟩ : (Q3 Int Int Int))).c * ((⟨(v_bag_here).a, (v_bag_here).b, ((v_bag_here).c + (1 : Int))⟩ : (Q3 Int Int Int))).c) * (6827 : Int))) + (40507 : Int)) % (2147483399 : Int)), ((⟨(v_bag_here).a, (v_bag_here).b, ((v_bag_here).c + (1 : Int))⟩ : (Q3 Int Int Int))).b, ((⟨(v_bag_here).a, (v_bag_here).b, ((v_bag_here).c + (1 : Int))⟩ : (Q3 Int Int Int))).c⟩ : (Q3 Int Int Int))).a, ((⟨((⟨((((((⟨(v_bag_here).a, (v_bag_here).b, ((v_bag_here).c + (1 : Int))⟩ : (Q3 Int Int Int))).a * (91193 : Int)) + ((((⟨(v_bag_here).a, (v_bag_here).b, ((v_bag_here).c + (1 : Int))⟩ : (Q3 Int Int Int))).c * ((⟨(v_bag_here).a, (v_bag_here).b, ((v_bag_here).c + (1 : Int))⟩ : (Q3 Int Int Int))).c) * (6827 : Int))) + (40507 : Int)) % (2147483399 : Int)), ((⟨(v_bag_here).a, (v_bag_here).b, ((v_bag_here).c + (1 : Int))⟩ : (Q3 Int Int Int))).b, ((⟨(v_bag_here).a, (v_bag_here).b, ((v_bag_here).c + (1 : Int))⟩ : (Q3 Int Int Int))).c⟩ : (Q3 Int Int Int))).b / v_many, ((⟨((((((⟨(v_bag_here).a, (v_bag_here).b, ((v_bag_here).c + (1 : Int))⟩ : (Q3 Int Int Int))).a * (91193 : Int)) + ((((⟨(v_bag_here).a, (v_bag_here).b, ((v_bag_here).c + (1 : Int))⟩ : (Q3 Int Int Int))).c * ((⟨(v_bag_here).a, (v_bag_here).b, ((v_bag_here).c + (1 : Int))⟩ : (Q3 Int Int Int))).c) * (6827 : Int))) + (40507 : Int)) % (2147483399 : Int)), ((⟨(v_bag_here).a, (v_bag_here).b, ((v_bag_here).c + (1 : Int))⟩ : (Q3 Int Int Int))).b, ((⟨(v_bag_here).a, (v_bag_here).b, ((v_bag_here).c + (1 : Int))⟩ : (Q3 Int Int Int))).c⟩ : (Q3 Int Int Int))).b % v_many⟩ : (P2 Int Int))).a, ((⟨((((((⟨(v_bag_here).a, (v_bag_here).b, ((v_bag_here).c + (1 : Int))⟩ : (Q3 Int Int Int))).a * (91193 : Int)) + ((((⟨(v_bag_here).a, (v_bag_here).b, ((v_bag_here).c + (1 : Int))⟩ : (Q3 Int Int Int))).c * ((⟨(v_bag_here).a, (v_bag_here).b, ((v_bag_here).c + (1 : Int))⟩ : (Q3 Int Int Int))).c) * (6827 : Int))) + (40507 : Int)) % (2147483399 : Int)), ((⟨(v_bag_here).a, (v_bag_here).b, ((v_bag_here).c + (1 : Int))⟩ : (Q3 Int Int Int))).b, ((⟨(v_bag_here).a, (v_bag_here).b, ((v_bag_here).c + (1 : Int))⟩ : (Q3 Int Int Int))).c⟩ : (Q3 Int Int Int))).c⟩ : (Q3 Int Int Int))) else none) else
     (if CDivW ((⟨((((((⟨(v_bag_here).a, (v_bag_here).b, ((v_bag_here).c + (1 : Int))⟩ : (Q3 Int Int Int))).a * (91193 : Int)) + ((((⟨(v_bag_here).a, (v_bag_here).b, ((v_bag_here).c + (1 : Int))⟩ : (Q3 Int Int Int))).c * ((⟨(v_bag_here).a, (v_bag_here).b, ((v_bag_here).c + (1 : Int))⟩ : (Q3 Int Int Int))).c) * (6827 : Int))) + (40507 : Int)) % (2147483399 : Int)), ((⟨(v_bag_here).a, (v_bag_here).b, ((v_bag_here).c + (1 : Int))⟩ : (Q3 Int Int Int))).b, ((⟨(v_bag_here).a, (v_bag_here).b, ((v_bag_here).c + (1 : Int))⟩ : (Q3 Int Int Int))).c⟩ : (Q3 Int Int Int))).a (512 : Int) then
     (if 0 < v_many then
     some (((((⟨((((((⟨(v_bag_here).a, (v_bag_here).b, ((v_bag_here).c + (1 : Int))⟩ : (Q3 Int Int Int))).a * (91193 : Int)) + ((((⟨(v_bag_here).a, (v_bag_here).b, ((v_bag_here).c + (1 : Int))⟩ : (Q3 Int Int Int))).c * ((⟨(v_bag_here).a, (v_bag_here).b, ((v_bag_here).c + (1 : Int))⟩ : (Q3 Int Int Int))).c) * (6827 : Int))) + (40507 : Int)) % (2147483399 : Int)), ((⟨(v_bag_here).a, (v_bag_here).b, ((v_bag_here).c + (1 : Int))⟩ : (Q3 Int Int Int))).b, ((⟨(v_bag_here).a, (v_bag_here).b, ((v_bag_here).c + (1 : Int))⟩ : (Q3 Int Int Int))).c⟩ : (Q3 Int Int Int))).a / (512 : Int)) % v_many), (⟨((((((⟨(v_bag_here).a, (v_bag_here).b, ((v_bag_here).c + (1 : Int))⟩ : (Q3 Int Int Int))).a * (91193 : Int)) + ((((⟨(v_bag_here).a, (v_bag_here).b, ((v_bag_here).c + (1 : Int))⟩ : (Q3 Int Int Int))).c * ((⟨(v_bag_here).a, (v_bag_here).b, ((v_bag_here).c + (1 : Int))⟩ : (Q3 Int Int Int))).c) * (6827 : Int))) + (40507 : Int)) % (2147483399 : Int)), ((⟨(v_bag_here).a, (v_bag_here).b, ((v_bag_here).c + (1 : Int))⟩ : (Q3 Int Int Int))).b, ((⟨(v_bag_here).a, (v_bag_here).b, ((v_bag_here).c + (1 : Int))⟩ : (Q3 Int Int Int))).c⟩ : (Q3 Int Int Int))) else none) else none)) else none) else none) else none) else none)
def pre_take : D → List D → D → D → Prop := fun x xs y x' => ∃ (v_bag_here : (Q3 Int Int Int)) (v_many : Int), ∃ (r : Int × (Q3 Int Int Int)), x = toD v_bag_here ∧ xs = [toD v_many] ∧ fn_take v_bag_here v_many = some r ∧ y = toD r.1 ∧ x' = toD r.2
theorem ok_take (M : Ds K mg) (T : Txt K mg) : FnOk P w K mg base CX0 1 M.f_take M.fd_take P_take (spW K pre_take) := by
  refine M.D_take.fn.ok sc_take (fun vs H Q E h => ?_) (fun cdv A outer s H vs Q E hr h => ?_)
  · obtain ⟨F, a, o, x, xs, vs', y, x', rfl, _, _, _, _, rp, pr, _⟩ := h
    obtain ⟨v_bag_here, v_many, r, rfl, rfl, _⟩ := pr
    exact congrArg Nat.succ rp.len
  · obtain ⟨F, a, o, x, xs, vs', y, x', rfl, sF, fa, ha, ro, rp, pr, ret⟩ := h
    obtain ⟨v_bag_here, v_many, r, rfl, rfl, hf, rfl, rfl⟩ := pr
    skip
    refine ⟨_, (pss_cons (ps_asg (pe_op op_add (pe_ix (show IxR _ (rIxL K) from ix_list) (pv 0) pe_int (fun _ _ => rfl)) pe_int) (pg_sub (pv 0) pe_int set_list))
     (pss_cons (ps_asg (pe_op op_mod (pe_callTy call_int1 (by rfl) T.int (by decide +kernel) (pa_cons (pe_op op_add (pe_op op_add (pe_op op_mulW (pe_ix (show IxR _ (rIxL K) from ix_list) (pv 0) pe_int (fun _ _ => rfl)) pe_int) (pe_op op_mulW (pe_op op_mulW (pe_ix (show IxR _ (rIxL K) from ix_list) (pv 0) pe_int (fun _ _ => rfl)) (pe_ix (show IxR _ (rIxL K) from ix_list) (pv 0) pe_int (fun _ _ => rfl))) pe_int)) pe_int) pa_nil)) pe_int) (pg_sub (pv 0) pe_int set_list))
     (pss_cons (ps_if (pt_cmpR op_gt (pe_ix (show IxR _ (rIxL K) from ix_list) (pv 0) pe_int (fun _ _ => rfl)) pe_int (nomark _))
     (pss_cons (ps_asg (pe_callB call_divmodW (by rfl) T.divmod (by decide +kernel) (pa_cons (pe_ix (show IxR _ (rIxL K) from ix_list) (pv 0) pe_int (fun _ _ => rfl)) (pa_cons (pv 1) pa_nil))) (pg_tup (by rfl) (pgs_cons (pg_sub (pv 0) pe_int set_list) (pgs_cons (pg_name (i := 2) sc_take.nd rfl (.inl rfl)) pgs_nil))))
     (pss_cons (ps_ret (pv 2))
     pss_nil))
     pss_nil)
     (pss_cons (ps_ret (pe_op op_mod (pe_callTy call_int1 (by rfl) T.int (by decide +kernel) (pa_cons (pe_op op_fdivW (pe_ix (show IxR _ (rIxL K) from ix_list) (pv 0) pe_int (fun _ _ => rfl)) pe_int) pa_nil)) (pv 1)))
     pss_nil)))), ?_⟩
    unfold fn_take at hf
    refine run_W (Kn := fun p => .rt (toD p.1) [(0, toD p.2)]) sF fa ha ro rp ret ?_ hf rfl
    exact (es_seq (Γ1 := [.own 1 (toD ((⟨(v_bag_here).a, (v_bag_here).b, ((v_bag_here).c + (1 : Int))⟩ : (Q3 Int Int Int)) : (Q3 Int Int Int))), .d (toD v_many), .u]) (es_asg (EvE.cast (y := toD (((v_bag_here).c + (1 : Int)) : Int)) (ev_op (EvE.cast (y := toD ((v_bag_here).c : Int)) (ev_ixV (x0 := toD v_bag_here) (.o 1 rfl) ev_int (.o 1 rfl) rfl (.lst _)) rfl) ev_int rv_I0) rfl) (eg_sub (p := 1) (xs := [toD ((v_bag_here).a : Int), toD ((v_bag_here).b : Int), toD ((v_bag_here).c : Int)]) (n := 2) rfl ev_int rfl))
     (grd fun h1 =>
     (grd fun h2 =>
     (grd fun h3 =>
     (grd fun h4 =>
     (es_seq (Γ1 := [.own 1 (toD ((⟨((((((⟨(v_bag_here).a, (v_bag_here).b, ((v_bag_here).c + (1 : Int))⟩ : (Q3 Int Int Int))).a * (91193 : Int)) + ((((⟨(v_bag_here).a, (v_bag_here).b, ((v_bag_here).c + (1 : Int))⟩ : (Q3 Int Int Int))).c * ((⟨(v_bag_here).a, (v_bag_here).b, ((v_bag_here).c + (1 : Int))⟩ : (Q3 Int Int Int))).c) * (6827 : Int))) + (40507 : Int)) % (2147483399 : Int)), ((⟨(v_bag_here).a, (v_bag_here).b, ((v_bag_here).c + (1 : Int))⟩ : (Q3 Int Int Int))).b, ((⟨(v_bag_here).a, (v_bag_here).b, ((v_bag_here).c + (1 : Int))⟩ : (Q3 Int Int Int))).c⟩ : (Q3 Int Int Int)) : (Q3 Int Int Int))), .d (toD v_many), .u]) (es_asg (EvE.cast (y := toD (((((((⟨(v_bag_here).a, (v_bag_here).b, ((v_bag_here).c + (1 : Int))⟩ : (Q3 Int Int Int))).a * (91193 : Int)) + ((((⟨(v_bag_here).a, (v_bag_here).b, ((v_bag_here).c + (1 : Int))⟩ : (Q3 Int Int Int))).c * ((⟨(v_bag_here).a, (v_bag_here).b, ((v_bag_here).c + (1 : Int))⟩ : (Q3 Int Int Int))).c) * (6827 : Int))) + (40507 : Int)) % (2147483399 : Int)) : Int)) (ev_op (ev_int1 (ev_op (ev_op (ev_op (EvE.cast (y := toD (((⟨(v_bag_here).a, (v_bag_here).b, ((v_bag_here).c + (1 : Int))⟩ : (Q3 Int Int Int))).a : Int)) (ev_ixV (x0 := toD ((⟨(v_bag_here).a, (v_bag_here).b, ((v_bag_here).c + (1 : Int))⟩ : (Q3 Int Int Int)) : (Q3 Int Int Int))) (.o 1 rfl) ev_int (.o 1 rfl) rfl (.lst _)) rfl) ev_int (rv_mul h1)) (ev_op (ev_op (EvE.cast (y := toD (((⟨(v_bag_here).a, (v_bag_here).b, ((v_bag_here).c + (1 : Int))⟩ : (Q3 Int Int Int))).c : Int)) (ev_ixV (x0 := toD ((⟨(v_bag_here).a, (v_bag_here).b, ((v_bag_here).c + (1 : Int))⟩ : (Q3 Int Int Int)) : (Q3 Int Int Int))) (.o 1 rfl) ev_int (.o 1 rfl) rfl (.lst _)) rfl) (EvE.cast (y := toD (((⟨(v_bag_here).a, (v_bag_here).b, ((v_bag_here).c + (1 : Int))⟩ : (Q3 Int Int Int))).c : Int)) (ev_ixV (x0 := toD ((⟨(v_bag_here).a, (v_bag_here).b, ((v_bag_here).c + (1 : Int))⟩ : (Q3 Int Int Int)) : (Q3 Int Int Int))) (.o 1 rfl) ev_int (.o 1 rfl) rfl (.lst _)) rfl) (rv_mul h2)) ev_int (rv_mul h3)) rv_I0) ev_int rv_I0)) ev_int (rv_mod h4)) rfl) (eg_sub (p := 1) (xs := [toD (((⟨(v_bag_here).a, (v_bag_here).b, ((v_bag_here).c + (1 : Int))⟩ : (Q3 Int Int Int))).a : Int), toD (((⟨(v_bag_here).a, (v_bag_here).b, ((v_bag_here).c + (1 : Int))⟩ : (Q3 Int Int Int))).b : Int), toD (((⟨(v_bag_here).a, (v_bag_here).b, ((v_bag_here).c + (1 : Int))⟩ : (Q3 Int Int Int))).c : Int)]) (n := 0) rfl ev_int rfl))
     (es_ifq (Γ1 := [.own 1 (toD ((⟨((((((⟨(v_bag_here).a, (v_bag_here).b, ((v_bag_here).c + (1 : Int))⟩ : (Q3 Int Int Int))).a * (91193 : Int)) + ((((⟨(v_bag_here).a, (v_bag_here).b, ((v_bag_here).c + (1 : Int))⟩ : (Q3 Int Int Int))).c * ((⟨(v_bag_here).a, (v_bag_here).b, ((v_bag_here).c + (1 : Int))⟩ : (Q3 Int Int Int))).c) * (6827 : Int))) + (40507 : Int)) % (2147483399 : Int)), ((⟨(v_bag_here).a, (v_bag_here).b, ((v_bag_here).c + (1 : Int))⟩ : (Q3 Int Int Int))).b, ((⟨(v_bag_here).a, (v_bag_here).b, ((v_bag_here).c + (1 : Int))⟩ : (Q3 Int Int Int))).c⟩ : (Q3 Int Int Int)) : (Q3 Int Int Int))), .d (toD v_many), .u]) (et_test (ev_op (EvE.cast (y := toD (((⟨((((((⟨(v_bag_here).a, (v_bag_here).b, ((v_bag_here).c + (1 : Int))⟩ : (Q3 Int Int Int))).a * (91193 : Int)) + ((((⟨(v_bag_here).a, (v_bag_here).b, ((v_bag_here).c + (1 : Int))⟩ : (Q3 Int Int Int))).c * ((⟨(v_bag_here).a, (v_bag_here).b, ((v_bag_here).c + (1 : Int))⟩ : (Q3 Int Int Int))).c) * (6827 : Int))) + (40507 : Int)) % (2147483399 : Int)), ((⟨(v_bag_here).a, (v_bag_here).b, ((v_bag_here).c + (1 : Int))⟩ : (Q3 Int Int Int))).b, ((⟨(v_bag_here).a, (v_bag_here).b, ((v_bag_here).c + (1 : Int))⟩ : (Q3 Int Int Int))).c⟩ : (Q3 Int Int Int))).b : Int)) (EvE.cast (y := toD (((⟨((((((⟨(v_bag_here).a, (v_bag_here).b, ((v_bag_here).c + (1 : Int))⟩ : (Q3 Int Int Int))).a * (91193 : Int)) + ((((⟨(v_bag_here).a, (v_bag_here).b, ((v_bag_here).c + (1 : Int))⟩ : (Q3 Int Int Int))).c * ((⟨(v_bag_here).a, (v_bag_here).b, ((v_bag_here).c + (1 : Int))⟩ : (Q3 Int Int Int))).c) * (6827 : Int))) + (40507 : Int)) % (2147483399 : Int)), ((⟨(v_bag_here).a, (v_bag_here).b, ((v_bag_here).c + (1 : Int))⟩ : (Q3 Int Int Int))).b, ((⟨(v_bag_here).a, (v_bag_here).b, ((v_bag_here).c + (1 : Int))⟩ : (Q3 Int Int Int))).c⟩ : (Q3 Int Int Int))).b : Int)) (ev_ixV (x0 := toD ((⟨((((((⟨(v_bag_here).a, (v_bag_here).b, ((v_bag_here).c + (1 : Int))⟩ : (Q3 Int Int Int))).a * (91193 : Int)) + ((((⟨(v_bag_here).a, (v_bag_here).b, ((v_bag_here).c + (1 : Int))⟩ : (Q3 Int Int Int))).c * ((⟨(v_bag_here).a, (v_bag_here).b, ((v_bag_here).c + (1 : Int))⟩ : (Q3 Int Int Int))).c) * (6827 : Int))) + (40507 : Int)) % (2147483399 : Int)), ((⟨(v_bag_here).a, (v_bag_here).b, ((v_bag_here).c + (1 : Int))⟩ : (Q3 Int Int Int))).b, ((⟨(v_bag_here).a, (v_bag_here).b, ((v_bag_here).c + (1 : Int))⟩ : (Q3 Int Int Int))).c⟩ : (Q3 Int Int Int)) : (Q3 Int Int Int))) (.o 1 rfl) ev_int (.o 1 rfl) rfl (.lst _)) rfl) rfl) (EvE.cast (y := toD ((0 : Int) : Int)) ev_int rfl) rv_B0))
     (fun b5 => (es_assoc
     (grd fun h6 =>
     (es_seq (Γ1 := [.own 1 (toD ((⟨((⟨((((((⟨(v_bag_here).a, (v_bag_here).b, ((v_bag_here).c + (1 : Int))⟩ : (Q3 Int Int Int))).a * (91193 : Int)) + ((((⟨(v_bag_here).a, (v_bag_here).b, ((v_bag_here).c + (1 : Int))⟩ : (Q3 Int Int Int))).c * ((⟨(v_bag_here).a, (v_bag_here).b, ((v_bag_here).c + (1 : Int))⟩ : (Q3 Int Int Int))).c) * (6827 : Int))) + (40507 : Int)) % (2147483399 : Int)), ((⟨(v_bag_here).a, (v_bag_here).b, ((v_bag_here).c + (1 : Int))⟩ : (Q3 Int Int Int))).b, ((⟨(v_bag_here).a, (v_bag_here).b, ((v_bag_here).c + (1 : Int))⟩ : (Q3 Int Int Int))).c⟩ : (Q3 Int Int Int))).a, ((⟨((⟨((((((⟨(v_bag_here).a, (v_bag_here).b, ((v_bag_here).c + (1 : Int))⟩ : (Q3 Int Int Int))).a * (91193 : Int)) + ((((⟨(v_bag_here).a, (v_bag_here).b, ((v_bag_here).c + (1 : Int))⟩ : (Q3 Int Int Int))).c * ((⟨(v_bag_here).a, (v_bag_here).b, ((v_bag_here).c + (1 : Int))⟩ : (Q3 Int Int Int))).c) * (6827 : Int))) + (40507 : Int)) % (2147483399 : Int)), ((⟨(v_bag_here).a, (v_bag_here).b, ((v_bag_here).c + (1 : Int))⟩ : (Q3 Int Int Int))).b, ((⟨(v_bag_here).a, (v_bag_here).b, ((v_bag_here).c + (1 : Int))⟩ : (Q3 Int Int Int))).c⟩ : (Q3 Int Int Int))).b / v_many, ((⟨((((((⟨(v_bag_here).a, (v_bag_here).b, ((v_bag_here).c + (1 : Int))⟩ : (Q3 Int Int Int))).a * (91193 : Int)) + ((((⟨(v_bag_here).a, (v_bag_here).b, ((v_bag_here).c + (1 : Int))⟩ : (Q3 Int Int Int))).c * ((⟨(v_bag_here).a, (v_bag_here).b, ((v_bag_here).c + (1 : Int))⟩ : (Q3 Int Int Int))).c) * (6827 : Int))) + (40507 : Int)) % (2147483399 : Int)), ((⟨(v_bag_here).a, (v_bag_here).b, ((v_bag_here).c + (1 : Int))⟩ : (Q3 Int Int Int))).b, ((⟨(v_bag_here).a, (v_bag_here).b, ((v_bag_here).c + (1 : Int))⟩ : (Q3 Int Int Int))).c⟩ : (Q3 Int Int Int))).b % v_many⟩ : (P2 Int Int))).a, ((⟨((((((⟨(v_bag_here).a, (v_bag_here).b, ((v_bag_here).c + (1 : Int))⟩ : (Q3 Int Int Int))).a * (91193 : Int)) + ((((⟨(v_bag_here).a, (v_bag_here).b, ((v_bag_here).c + (1 : Int))⟩ : (Q3 Int Int Int))).c * ((⟨(v_bag_here).a, (v_bag_here).b, ((v_bag_here).c + (1 : Int))⟩ : (Q3 Int Int Int))).c) * (6827 : Int))) + (40507 : Int)) % (2147483399 : Int)), ((⟨(v_bag_here).a, (v_bag_here).b, ((v_bag_here).c + (1 : Int))⟩ : (Q3 Int Int Int))).b, ((⟨(v_bag_here).a, (v_bag_here).b, ((v_bag_here).c + (1 : Int))⟩ : (Q3 Int Int Int))).c⟩ : (Q3 Int Int Int))).c⟩ : (Q3 Int Int Int)) : (Q3 Int Int Int))), .d (toD v_many), .d (toD (((⟨((⟨((((((⟨(v_bag_here).a, (v_bag_here).b, ((v_bag_here).c + (1 : Int))⟩ : (Q3 Int Int Int))).a * (91193 : Int)) + ((((⟨(v_bag_here).a, (v_bag_here).b, ((v_bag_here).c + (1 : Int))⟩ : (Q3 Int Int Int))).c * ((⟨(v_bag_here).a, (v_bag_here).b, ((v_bag_here).c + (1 : Int))⟩ : (Q3 Int Int Int))).c) * (6827 : Int))) + (40507 : Int)) % (2147483399 : Int)), ((⟨(v_bag_here).a, (v_bag_here).b, ((v_bag_here).c + (1 : Int))⟩ : (Q3 Int Int Int))).b, ((⟨(v_bag_here).a, (v_bag_here).b, ((v_bag_here).c + (1 : Int))⟩ : (Q3 Int Int Int))).c⟩ : (Q3 Int Int Int))).b / v_many, ((⟨((((((⟨(v_bag_here).a, (v_bag_here).b, ((v_bag_here).c + (1 : Int))⟩ : (Q3 Int Int Int))).a * (91193 : Int)) + ((((⟨(v_bag_here).a, (v_bag_here).b, ((v_bag_here).c + (1 : Int))⟩ : (Q3 Int Int Int))).c * ((⟨(v_bag_here).a, (v_bag_here).b, ((v_bag_here).c + (1 : Int))⟩ : (Q3 Int Int Int))).c) * (6827 : Int))) + (40507 : Int)) % (2147483399 : Int)), ((⟨(v_bag_here).a, (v_bag_here).b, ((v_bag_here).c + (1 : Int))⟩ : (Q3 Int Int Int))).b, ((⟨(v_bag_here).a, (v_bag_here).b, ((v_bag_here).c + (1 : Int))⟩ : (Q3 Int Int Int))).c⟩ : (Q3 Int Int Int))).b % v_many⟩ : (P2 Int Int))).b : Int))]) (es_asg (EvE.cast (y := toD ((⟨((⟨((((((⟨(v_bag_here).a, (v_bag_here).b, ((v_bag_here).c + (1 : Int))⟩ : (Q3 Int Int Int))).a * (91193 : Int)) + ((((⟨(v_bag_here).a, (v_bag_here).b, ((v_bag_here).c + (1 : Int))⟩ : (Q3 Int Int Int))).c * ((⟨(v_bag_here).a, (v_bag_here).b, ((v_bag_here).c + (1 : Int))⟩ : (Q3 Int Int Int))).c) * (6827 : Int))) + (40507 : Int)) % (2147483399 : Int)), ((⟨(v_bag_here).a, (v_bag_here).b, ((v_bag_here).c + (1 : Int))⟩ : (Q3 Int Int Int))).b, ((⟨(v_bag_here).a, (v_bag_here).b, ((v_bag_here).c + (1 : Int))⟩ : (Q3 Int Int Int))).c⟩ : (Q3 Int Int Int))).b / v_many, ((⟨((((((⟨(v_bag_here).a, (v_bag_here).b, ((v_bag_here).c + (1 : Int))⟩ : (Q3 Int Int Int))).a * (91193 : Int)) + ((((⟨(v_bag_here).a, (v_bag_here).b, ((v_bag_here).c + (1 : Int))⟩ : (Q3 Int Int Int))).c * ((⟨(v_bag_here).a, (v_bag_here).b, ((v_bag_here).c + (1 : Int))⟩ : (Q3 Int Int Int))).c) * (6827 : Int))) + (40507 : Int)) % (2147483399 : Int)), ((⟨(v_bag_here).a, (v_bag_here).b, ((v_bag_here).c + (1 : Int))⟩ : (Q3 Int Int Int))).b, ((⟨(v_bag_here).a, (v_bag_here).b, ((v_bag_here).c + (1 : Int))⟩ : (Q3 Int Int Int))).c⟩ : (Q3 Int Int Int))).b % v_many⟩ : (P2 Int Int)) : (P2 Int Int))) (EvE.cast (y := toD (⟨((⟨((((((⟨(v_bag_here).a, (v_bag_here).b, ((v_bag_here).c + (1 : Int))⟩ : (Q3 Int Int Int))).a * (91193 : Int)) + ((((⟨(v_bag_here).a, (v_bag_here).b, ((v_bag_here).c + (1 : Int))⟩ : (Q3 Int Int Int))).c * ((⟨(v_bag_here).a, (v_bag_here).b, ((v_bag_here).c + (1 : Int))⟩ : (Q3 Int Int Int))).c) * (6827 : Int))) + (40507 : Int)) % (2147483399 : Int)), ((⟨(v_bag_here).a, (v_bag_here).b, ((v_bag_here).c + (1 : Int))⟩ : (Q3 Int Int Int))).b, ((⟨(v_bag_here).a, (v_bag_here).b, ((v_bag_here).c + (1 : Int))⟩ : (Q3 Int Int Int))).c⟩ : (Q3 Int Int Int))).b / v_many, ((⟨((((((⟨(v_bag_here).a, (v_bag_here).b, ((v_bag_here).c + (1 : Int))⟩ : (Q3 Int Int Int))).a * (91193 : Int)) + ((((⟨(v_bag_here).a, (v_bag_here).b, ((v_bag_here).c + (1 : Int))⟩ : (Q3 Int Int Int))).c * ((⟨(v_bag_here).a, (v_bag_here).b, ((v_bag_here).c + (1 : Int))⟩ : (Q3 Int Int Int))).c) * (6827 : Int))) + (40507 : Int)) % (2147483399 : Int)), ((⟨(v_bag_here).a, (v_bag_here).b, ((v_bag_here).c + (1 : Int))⟩ : (Q3 Int Int Int))).b, ((⟨(v_bag_here).a, (v_bag_here).b, ((v_bag_here).c + (1 : Int))⟩ : (Q3 Int Int Int))).c⟩ : (Q3 Int Int Int))).b % v_many⟩ : (P2 Int Int))) (ev_divmod (EvE.cast (y := toD (((⟨((((((⟨(v_bag_here).a, (v_bag_here).b, ((v_bag_here).c + (1 : Int))⟩ : (Q3 Int Int Int))).a * (91193 : Int)) + ((((⟨(v_bag_here).a, (v_bag_here).b, ((v_bag_here).c + (1 : Int))⟩ : (Q3 Int Int Int))).c * ((⟨(v_bag_here).a, (v_bag_here).b, ((v_bag_here).c + (1 : Int))⟩ : (Q3 Int Int Int))).c) * (6827 : Int))) + (40507 : Int)) % (2147483399 : Int)), ((⟨(v_bag_here).a, (v_bag_here).b, ((v_bag_here).c + (1 : Int))⟩ : (Q3 Int Int Int))).b, ((⟨(v_bag_here).a, (v_bag_here).b, ((v_bag_here).c + (1 : Int))⟩ : (Q3 Int Int Int))).c⟩ : (Q3 Int Int Int))).b : Int)) (ev_ixV (x0 := toD ((⟨((((((⟨(v_bag_here).a, (v_bag_here).b, ((v_bag_here).c + (1 : Int))⟩ : (Q3 Int Int Int))).a * (91193 : Int)) + ((((⟨(v_bag_here).a, (v_bag_here).b, ((v_bag_here).c + (1 : Int))⟩ : (Q3 Int Int Int))).c * ((⟨(v_bag_here).a, (v_bag_here).b, ((v_bag_here).c + (1 : Int))⟩ : (Q3 Int Int Int))).c) * (6827 : Int))) + (40507 : Int)) % (2147483399 : Int)), ((⟨(v_bag_here).a, (v_bag_here).b, ((v_bag_here).c + (1 : Int))⟩ : (Q3 Int Int Int))).b, ((⟨(v_bag_here).a, (v_bag_here).b, ((v_bag_here).c + (1 : Int))⟩ : (Q3 Int Int Int))).c⟩ : (Q3 Int Int Int)) : (Q3 Int Int Int))) (.o 1 rfl) ev_int (.o 1 rfl) rfl (.lst _)) rfl) (ev_var rfl) h6) rfl) rfl) (eg_tup (egs_cons (eg_sub (p := 1) (xs := [toD (((⟨((((((⟨(v_bag_here).a, (v_bag_here).b, ((v_bag_here).c + (1 : Int))⟩ : (Q3 Int Int Int))).a * (91193 : Int)) + ((((⟨(v_bag_here).a, (v_bag_here).b, ((v_bag_here).c + (1 : Int))⟩ : (Q3 Int Int Int))).c * ((⟨(v_bag_here).a, (v_bag_here).b, ((v_bag_here).c + (1 : Int))⟩ : (Q3 Int Int Int))).c) * (6827 : Int))) + (40507 : Int)) % (2147483399 : Int)), ((⟨(v_bag_here).a, (v_bag_here).b, ((v_bag_here).c + (1 : Int))⟩ : (Q3 Int Int Int))).b, ((⟨(v_bag_here).a, (v_bag_here).b, ((v_bag_here).c + (1 : Int))⟩ : (Q3 Int Int Int))).c⟩ : (Q3 Int Int Int))).a : Int), toD (((⟨((((((⟨(v_bag_here).a, (v_bag_here).b, ((v_bag_here).c + (1 : Int))⟩ : (Q3 Int Int Int))).a * (91193 : Int)) + ((((⟨(v_bag_here).a, (v_bag_here).b, ((v_bag_here).c + (1 : Int))⟩ : (Q3 Int Int Int))).c * ((⟨(v_bag_here).a, (v_bag_here).b, ((v_bag_here).c + (1 : Int))⟩ : (Q3 Int Int Int))).c) * (6827 : Int))) + (40507 : Int)) % (2147483399 : Int)), ((⟨(v_bag_here).a, (v_bag_here).b, ((v_bag_here).c + (1 : Int))⟩ : (Q3 Int Int Int))).b, ((⟨(v_bag_here).a, (v_bag_here).b, ((v_bag_here).c + (1 : Int))⟩ : (Q3 Int Int Int))).c⟩ : (Q3 Int Int Int))).b : Int), toD (((⟨((((((⟨(v_bag_here).a, (v_bag_here).b, ((v_bag_here).c + (1 : Int))⟩ : (Q3 Int Int Int))).a * (91193 : Int)) + ((((⟨(v_bag_here).a, (v_bag_here).b, ((v_bag_here).c + (1 : Int))⟩ : (Q3 Int Int Int))).c * ((⟨(v_bag_here).a, (v_bag_here).b, ((v_bag_here).c + (1 : Int))⟩ : (Q3 Int Int Int))).c) * (6827 : Int))) + (40507 : Int)) % (2147483399 : Int)), ((⟨(v_bag_here).a, (v_bag_here).b, ((v_bag_here).c + (1 : Int))⟩ : (Q3 Int Int Int))).b, ((⟨(v_bag_here).a, (v_bag_here).b, ((v_bag_here).c + (1 : Int))⟩ : (Q3 Int Int Int))).c⟩ : (Q3 Int Int Int))).c : Int)]) (n := 1) rfl ev_int rfl) (egs_cons eg_name egs_nil)) rfl))
     (es_assoc
     (one (es_ret (EvE.cast (y := toD (((⟨((⟨((((((⟨(v_bag_here).a, (v_bag_here).b, ((v_bag_here).c + (1 : Int))⟩ : (Q3 Int Int Int))).a * (91193 : Int)) + ((((⟨(v_bag_here).a, (v_bag_here).b, ((v_bag_here).c + (1 : Int))⟩ : (Q3 Int Int Int))).c * ((⟨(v_bag_here).a, (v_bag_here).b, ((v_bag_here).c + (1 : Int))⟩ : (Q3 Int Int Int))).c) * (6827 : Int))) + (40507 : Int)) % (2147483399 : Int)), ((⟨(v_bag_here).a, (v_bag_here).b, ((v_bag_here).c + (1 : Int))⟩ : (Q3 Int Int Int))).b, ((⟨(v_bag_here).a, (v_bag_here).b, ((v_bag_here).c + (1 : Int))⟩ : (Q3 Int Int Int))).c⟩ : (Q3 Int Int Int))).b / v_many, ((⟨((((((⟨(v_bag_here).a, (v_bag_here).b, ((v_bag_here).c + (1 : Int))⟩ : (Q3 Int Int Int))).a * (91193 : Int)) + ((((⟨(v_bag_here).a, (v_bag_here).b, ((v_bag_here).c + (1 : Int))⟩ : (Q3 Int Int Int))).c * ((⟨(v_bag_here).a, (v_bag_here).b, ((v_bag_here).c + (1 : Int))⟩ : (Q3 Int Int Int))).c) * (6827 : Int))) + (40507 : Int)) % (2147483399 : Int)), ((⟨(v_bag_here).a, (v_bag_here).b, ((v_bag_here).c + (1 : Int))⟩ : (Q3 Int Int Int))).b, ((⟨(v_bag_here).a, (v_bag_here).b, ((v_bag_here).c + (1 : Int))⟩ : (Q3 Int Int Int))).c⟩ : (Q3 Int Int Int))).b % v_many⟩ : (P2 Int Int))).b : Int)) (ev_var rfl) rfl) (wok1 rfl))))))))
     (fun b5 => (es_skip
     (grd fun h7 =>
     (grd fun h8 =>
     (one (es_ret (EvE.cast (y := toD (((((⟨((((((⟨(v_bag_here).a, (v_bag_here).b, ((v_bag_here).c + (1 : Int))⟩ : (Q3 Int Int Int))).a * (91193 : Int)) + ((((⟨(v_bag_here).a, (v_bag_here).b, ((v_bag_here).c + (1 : Int))⟩ : (Q3 Int Int Int))).c * ((⟨(v_bag_here).a, (v_bag_here).b, ((v_bag_here).c + (1 : Int))⟩ : (Q3 Int Int Int))).c) * (6827 : Int))) + (40507 : Int)) % (2147483399 : Int)), ((⟨(v_bag_here).a, (v_bag_here).b, ((v_bag_here).c + (1 : Int))⟩ : (Q3 Int Int Int))).b, ((⟨(v_bag_here).a, (v_bag_here).b, ((v_bag_here).c + (1 : Int))⟩ : (Q3 Int Int Int))).c⟩ : (Q3 Int Int Int))).a / (512 : Int)) % v_many) : Int)) (ev_op (ev_int1 (ev_op (EvE.cast (y := toD (((⟨((((((⟨(v_bag_here).a, (v_bag_here).b, ((v_bag_here).c + (1 : Int))⟩ : (Q3 Int Int Int))).a * (91193 : Int)) + ((((⟨(v_bag_here).a, (v_bag_here).b, ((v_bag_here).c + (1 : Int))⟩ : (Q3 Int Int Int))).c * ((⟨(v_bag_here).a, (v_bag_here).b, ((v_bag_here).c + (1 : Int))⟩ : (Q3 Int Int Int))).c) * (6827 : Int))) + (40507 : Int)) % (2147483399 : Int)), ((⟨(v_bag_here).a, (v_bag_here).b, ((v_bag_here).c + (1 : Int))⟩ : (Q3 Int Int Int))).b, ((⟨(v_bag_here).a, (v_bag_here).b, ((v_bag_here).c + (1 : Int))⟩ : (Q3 Int Int Int))).c⟩ : (Q3 Int Int Int))).a : Int)) (ev_ixV (x0 := toD ((⟨((((((⟨(v_bag_here).a, (v_bag_here).b, ((v_bag_here).c + (1 : Int))⟩ : (Q3 Int Int Int))).a * (91193 : Int)) + ((((⟨(v_bag_here).a, (v_bag_here).b, ((v_bag_here).c + (1 : Int))⟩ : (Q3 Int Int Int))).c * ((⟨(v_bag_here).a, (v_bag_here).b, ((v_bag_here).c + (1 : Int))⟩ : (Q3 Int Int Int))).c) * (6827 : Int))) + (40507 : Int)) % (2147483399 : Int)), ((⟨(v_bag_here).a, (v_bag_here).b, ((v_bag_here).c + (1 : Int))⟩ : (Q3 Int Int Int))).b, ((⟨(v_bag_here).a, (v_bag_here).b, ((v_bag_here).c + (1 : Int))⟩ : (Q3 Int Int Int))).c⟩ : (Q3 Int Int Int)) : (Q3 Int Int Int))) (.o 1 rfl) ev_int (.o 1 rfl) rfl (.lst _)) rfl) ev_int (rv_div h7))) (ev_var rfl) (rv_mod h8)) rfl) (wok1 rfl))))))))))))))
noncomputable def fn_common (v_one : Int) (v_two : Int) : Option (Int) :=
  ((whS (fun (s1 : Int × Int) => (some (decide ((0 : Int) < s1.2)) : Option Bool)) (fun (s1 : Int × Int) => ((if 0 < s1.2 then
     some (.go (s1.2, (s1.1 % s1.2))) else none) : Option (Lp (Empty) (Int × Int)))) (v_one, v_two)).bind fun (s1 : Int × Int) =>
     some s1.1)
def pre_common : List Ar → D → Prop := fun xs y => ∃ (v_one : Int) (v_two : Int) (r : Int), xs = [.k (toD v_one), .k (toD v_two)] ∧ fn_common v_one v_two = some r ∧ y = toD r
theorem ok_common (M : Ds K mg) (T : Txt K mg) : FnOk P w K mg base CX0 1 M.f_common M.fd_common P_common (spE K pre_common) := by
  refine M.D_common.fn.ok sc_common (fun vs H Q E h => ?_) (fun cdv A outer s H vs Q E hr h => ?_)
  · obtain ⟨F, xs, y, _, ar, pr, _⟩ := h
    obtain ⟨v_one, v_two, r, rfl, _⟩ := pr
    exact ar.len
  · obtain ⟨F, xs, y, sF, ar, pr, ret⟩ := h
    obtain ⟨v_one, v_two, r, rfl, hf, rfl⟩ := pr
    refine ⟨_, (pss_cons (ps_while PassesOwn.never (pt_cmpR op_gt (pv 1) pe_int (nomark _))
     (pss_cons (ps_par (i := 0) (j := 1) (by rfl) sc_common.nd rfl rfl (by decide) rfl rfl (pa_cons (pv 1) (pa_cons (pe_op op_mod (pe_callTy call_int1 (by rfl) T.int (by decide +kernel) (pa_cons (pv 0) pa_nil)) (pv 1)) pa_nil)) (by rfl))
     pss_nil))
     (pss_cons (ps_ret (pv 0))
     pss_nil)), ?_⟩
    unfold fn_common at hf
    refine run_rt (Kn := fun y => .rt (toD y) []) sF ar ret ?_ hf rfl
    exact (es_join (G := fun (s1 : Int × Int) => [.d (toD s1.1), .d (toD s1.2)]) (es_whS (G := fun (s1 : Int × Int) => [.d (toD s1.1), .d (toD s1.2)]) (by repeat first | exact .nil | apply Wk.keep | apply Wk.drop) (fun s1 => (fun _ e0 => by have e0 := Option.some.inj e0; subst e0; exact (et_test (ev_op (ev_var rfl) (EvE.cast (y := toD ((0 : Int) : Int)) ev_int rfl) rv_B0)))) (fun s1 =>
     (grd fun h2 =>
     (es_seq (Γ1 := [.d (toD s1.2), .d (toD ((s1.1 % s1.2) : Int))]) (es_par (ea_cons (ev_var rfl) (ea_cons (EvE.cast (y := toD ((s1.1 % s1.2) : Int)) (ev_op (ev_int1 (ev_var rfl)) (ev_var rfl) (rv_mod h2)) rfl) ea_nil)))
     (one (es_end (by repeat first | exact .nil | apply Wk.keep | apply Wk.drop))))))) fun s1 _ =>
     (one (es_ret (ev_var rfl) wok0)))
noncomputable def fn_bounds  : Option ((List Str)) :=
  (if -(2 ^ 62) ≤ (1 : Int) ∧ (1 : Int) < 2 ^ 62 ∧ -(2 ^ 62) ≤ (13 : Int) ∧ (13 : Int) < 2 ^ 62 then
     ((forS (fun (s2 : (List Str)) (x3 : Int) =>
     (if -(2 ^ 62) ≤ (x3 + (1 : Int)) ∧ (x3 + (1 : Int)) < 2 ^ 62 then
     ((forS (fun (s5 : (List Str)) (x6 : Int) =>
     ((fn_common (x6) (x3)).bind fun r7 =>
     (if (decide (r7 = (1 : Int))) = true then
     (if (x6).natAbs.log2 < 1920 then
     (if Str.length (strI x6) + Str.length ("/" : Str) ≤ sizeLine then
     (if (x3).natAbs.log2 < 1920 then
     (if Str.length ((strI x6) ++ ("/" : Str)) + Str.length (strI x3) ≤ sizeLine then
     (if List.length s5 < sizeLine then
     (if (decide (x6 < x3)) = true then
     (if (x6).natAbs.log2 < 1920 then
     (if Str.length ("over " : Str) + Str.length (strI x6) ≤ sizeLine then
     (if Str.length (("over " : Str) ++ (strI x6)) + Str.length ("/" : Str) ≤ sizeLine then
     (if (x3).natAbs.log2 < 1920 then
     (if Str.length ((("over " : Str) ++ (strI x6)) ++ ("/" : Str)) + Str.length (strI x3) ≤ sizeLine then
     (if List.length (s5 ++ [(((strI x6) ++ ("/" : Str)) ++ (strI x3))]) < sizeLine then
     some ((s5 ++ [(((strI x6) ++ ("/" : Str)) ++ (strI x3))]) ++ [(((("over " : Str) ++ (strI x6)) ++ ("/" : Str)) ++ (strI x3))]) else none) else none) else none) else none) else none) else none) else
     some (s5 ++ [(((strI x6) ++ ("/" : Str)) ++ (strI x3))])) else none) else none) else none) else none) else none) else
     some s5))) s2 (rng 0 (x3 + (1 : Int)))).bind fun (s5 : (List Str)) =>
     some s5) else none)) ([] : (List Str)) (rng (1 : Int) (13 : Int))).bind fun (s2 : (List Str)) =>
     some s2) else none)
def pre_bounds : List Ar → D → Prop := fun xs y => ∃ (r : (List Str)), xs = [] ∧ fn_bounds = some r ∧ y = toD r
theorem ok_bounds (M : Ds K mg) (T : Txt K mg) : FnOk P w K mg base CX0 2 M.f_bounds M.fd_bounds P_bounds (spO K pre_bounds) := by
  refine M.D_bounds.fn.ok sc_bounds (fun vs H Q E h => ?_) (fun cdv A outer s H vs Q E hr h => ?_)
  · obtain ⟨F, xs, y, _, ar, pr, _⟩ := h
    obtain ⟨r, rfl, _⟩ := pr
    exact ar.len
  · obtain ⟨F, xs, y, sF, ar, pr, ret⟩ := h
    obtain ⟨r, rfl, hf, rfl⟩ := pr
    refine ⟨_, (pss_cons (ps_asg (pe_lst pa_nil) (pg_name (i := 0) sc_bounds.nd rfl (.inl rfl)))
     (pss_cons (ps_for PassesOwn.never rfl (pi_range2 (by rfl) T.range (pa_cons pe_int (pa_cons pe_int pa_nil))) (pg_name (i := 1) sc_bounds.nd rfl (.inl rfl))
     (pss_cons (ps_for PassesOwn.never rfl (pi_range1 (by rfl) T.range (pa_cons (pe_op op_add (pv 1) pe_int) pa_nil)) (pg_name (i := 2) sc_bounds.nd rfl (.inl rfl))
     (pss_cons (ps_if (pt_cmpR op_eq (pe_call (ok_common M T) (hr.mono (by decide)) rfl M.D_common.mg M.D_common.fn.kp M.D_common.bd .nil pass0 (pa_cons (pv 2) (pa_cons (pv 1) pa_nil))) pe_int (nomark _))
     (pss_cons (ps_expr (pe_bm PySem.F.plainAttrs_list PySem.F.slot_list_append PySem.F.type_list_append mt_append (pv 0) (pa_cons (pe_op op_add_str (pe_op op_add_str (pe_callTy call_str_int (by rfl) T.str (by decide +kernel) (pa_cons (pv 2) pa_nil)) pe_str) (pe_callTy call_str_int (by rfl) T.str (by decide +kernel) (pa_cons (pv 1) pa_nil))) pa_nil)))
     (pss_cons (ps_if (pt_cmpR op_lt (pv 2) (pv 1) (nomark _))
     (pss_cons (ps_expr (pe_bm PySem.F.plainAttrs_list PySem.F.slot_list_append PySem.F.type_list_append mt_append (pv 0) (pa_cons (pe_op op_add_str (pe_op op_add_str (pe_op op_add_str pe_str (pe_callTy call_str_int (by rfl) T.str (by decide +kernel) (pa_cons (pv 2) pa_nil))) pe_str) (pe_callTy call_str_int (by rfl) T.str (by decide +kernel) (pa_cons (pv 1) pa_nil))) pa_nil)))
     pss_nil)
     pss_nil)
     pss_nil))
     pss_nil)
     pss_nil))
     pss_nil))
     (pss_cons (ps_ret (pv 0))
     pss_nil))), ?_⟩
    unfold fn_bounds at hf
    refine run_ro (Kn := fun y => .ro (toD y)) sF ar ret ?_ hf rfl
    exact (es_seq (Γ1 := [.own 0 (toD (([] : (List Str)) : (List Str))), .u, .u]) (es_asgO (EvO.cast (y := toD ([] : (List Str))) (evo_lst ea_nil (by show 0 ≤ sizeLine; decide)) rfl))
     (grd fun h1 =>
     (es_join (G := fun (s2 : (List Str)) => [.own 0 (toD s2), .u, .u]) (es_forS (fD := toD) (G := fun (s2 : (List Str)) => [.own 0 (toD s2), .u, .u]) (G' := fun (s2 : (List Str)) (x3 : Int) => [.own 0 (toD s2), .d (toD x3), .u]) (ei_range2 ev_int ev_int h1) (by repeat first | exact .nil | apply Wk.keep | apply Wk.drop) (fun s2 x3 => eg_name) (fun s2 x3 =>
     (grd fun h4 =>
     (es_join (G := fun (s5 : (List Str)) => [.own 0 (toD s5), .d (toD x3), .u]) (es_forS (fD := toD) (G := fun (s5 : (List Str)) => [.own 0 (toD s5), .d (toD x3), .u]) (G' := fun (s5 : (List Str)) (x6 : Int) => [.own 0 (toD s5), .d (toD x3), .d (toD x6)]) (ei_range1 (ev_op (ev_var rfl) ev_int rv_I0) h4) (by repeat first | exact .nil | apply Wk.keep | apply Wk.drop) (fun s5 x6 => eg_name) (fun s5 x6 =>
     (bnd fun r7 hr7 =>
     (es_ifq (Γ1 := [.own 0 (toD s5), .d (toD x3), .d (toD x6)]) (et_test (ev_op (EvE.cast (y := toD r7) (ev_call (ap_k (ev_var rfl) (ap_k (ev_var rfl) ap_nil)) ⟨_, _, _, rfl, hr7, rfl⟩) rfl) (EvE.cast (y := toD ((1 : Int) : Int)) ev_int rfl) rv_eqI))
     (fun b8 => (es_assoc
     (grd fun h9 =>
     (grd fun h10 =>
     (grd fun h11 =>
     (grd fun h12 =>
     (grd fun h13 =>
     (es_seq (Γ1 := [.own 0 (toD ((s5 ++ [(((strI x6) ++ ("/" : Str)) ++ (strI x3))]) : (List Str))), .d (toD x3), .d (toD x6)]) (EvS1.cast (es_append (i := 0) (xs := List.map toD s5) rfl (EvE.cast (y := toD ((((strI x6) ++ ("/" : Str)) ++ (strI x3)) : Str)) (ev_op (ev_op (EvE.cast (y := toD (strI x6)) (ev_strI (ev_var rfl) h9) rfl) ev_str (rv_addS h10)) (EvE.cast (y := toD (strI x3)) (ev_strI (ev_var rfl) h11) rfl) (rv_addS h12)) rfl) rfl (by simpa using h13)) (by simp [toD, Rp.d]))
     (es_assoc
     (es_ifq (Γ1 := [.own 0 (toD ((s5 ++ [(((strI x6) ++ ("/" : Str)) ++ (strI x3))]) : (List Str))), .d (toD x3), .d (toD x6)]) (et_test (ev_op (ev_var rfl) (ev_var rfl) rv_B0))
     (fun b14 => (es_assoc
     (grd fun h15 =>
     (grd fun h16 =>
     (grd fun h17 =>
     (grd fun h18 =>
     (grd fun h19 =>
     (grd fun h20 =>
     (es_seq (Γ1 := [.own 0 (toD (((s5 ++ [(((strI x6) ++ ("/" : Str)) ++ (strI x3))]) ++ [(((("over " : Str) ++ (strI x6)) ++ ("/" : Str)) ++ (strI x3))]) : (List Str))), .d (toD x3), .d (toD x6)]) (EvS1.cast (es_append (i := 0) (xs := List.map toD ((s5 ++ [(((strI x6) ++ ("/" : Str)) ++ (strI x3))]) : (List Str))) rfl (EvE.cast (y := toD ((((("over " : Str) ++ (strI x6)) ++ ("/" : Str)) ++ (strI x3)) : Str)) (ev_op (ev_op (ev_op ev_str (EvE.cast (y := toD (strI x6)) (ev_strI (ev_var rfl) h15) rfl) (rv_addS h16)) ev_str (rv_addS h17)) (EvE.cast (y := toD (strI x3)) (ev_strI (ev_var rfl) h18) rfl) (rv_addS h19)) rfl) rfl (by simpa using h20)) (by simp [toD, Rp.d]))
     (es_skip
     (es_skip
     (one (es_end (by repeat first | exact .nil | apply Wk.keep | apply Wk.drop))))))))))))))
     (fun b14 => (es_skip
     (es_skip
     (one (es_end (by repeat first | exact .nil | apply Wk.keep | apply Wk.drop))))))))))))))))
     (fun b8 => (es_skip
     (one (es_end (by repeat first | exact .nil | apply Wk.keep | apply Wk.drop))))))))) fun s5 _ =>
     (one (es_end (by repeat first | exact .nil | apply Wk.keep | apply Wk.drop))))))) fun s2 _ =>
     (one (es_retV rfl)))))
noncomputable def fn_tag (v_bag_here : (Q3 Int Int Int)) : Option (Str × (Q3 Int Int Int)) :=
  ((fn_take (v_bag_here) ((26 : Int))).bind fun r1 =>
     ((sgAt ("abcdefghijklmnopqrstuvwxyz0123456789" : Str) r1.1).bind fun r2 =>
     ((fn_take (r1.2) ((8 : Int))).bind fun r3 =>
     (if -(2 ^ 62) ≤ r3.1 ∧ r3.1 < 2 ^ 62 then
     ((forS (fun (s5 : (Q3 Int Int Int) × Str) (x6 : Int) =>
     ((fn_take (s5.1) ((36 : Int))).bind fun r7 =>
     ((sgAt ("abcdefghijklmnopqrstuvwxyz0123456789" : Str) r7.1).bind fun r8 =>
     (if Str.length s5.2 + Str.length (⟨#[(r8).c]⟩ : Str) ≤ sizeLine then
     some (r7.2, (s5.2 ++ (⟨#[(r8).c]⟩ : Str))) else none)))) (r3.2, (⟨#[(r2).c]⟩ : Str)) (rng 0 r3.1)).bind fun (s5 : (Q3 Int Int Int) × Str) =>
     some (s5.2, s5.1)) else none))))
def pre_tag : D → List D → D → D → Prop := fun x xs y x' => ∃ (v_bag_here : (Q3 Int Int Int)), ∃ (r : Str × (Q3 Int Int Int)), x = toD v_bag_here ∧ xs = [] ∧ fn_tag v_bag_here = some r ∧ y = toD r.1 ∧ x' = toD r.2
theorem ok_tag (M : Ds K mg) (T : Txt K mg) : FnOk P w K mg base CX0 2 M.f_tag M.fd_tag P_tag (spW K pre_tag) := by
  refine M.D_tag.fn.ok sc_tag (fun vs H Q E h => ?_) (fun cdv A outer s H vs Q E hr h => ?_)
  · obtain ⟨F, a, o, x, xs, vs', y, x', rfl, _, _, _, _, rp, pr, _⟩ := h
    obtain ⟨v_bag_here, r, rfl, rfl, _⟩ := pr
    exact congrArg Nat.succ rp.len
  · obtain ⟨F, a, o, x, xs, vs', y, x', rfl, sF, fa, ha, ro, rp, pr, ret⟩ := h
    obtain ⟨v_bag_here, r, rfl, rfl, hf, rfl, rfl⟩ := pr
    skip
    refine ⟨_, (pss_cons (ps_asg pe_str (pg_name (i := 1) sc_tag.nd rfl (.inl rfl)))
     (pss_cons (ps_asg (pe_ix ix_str (pv 1) (pe_call (ok_take M T) (hr.mono (by decide)) rfl M.D_take.mg M.D_take.fn.kp M.D_take.bd .nil pass0 (pa_cons (pv 0) (pa_cons pe_int pa_nil))) (fun _ _ => rfl)) (pg_name (i := 2) sc_tag.nd rfl (.inl rfl)))
     (pss_cons (ps_for PassesOwn.never rfl (pi_range1 (by rfl) T.range (pa_cons (pe_call (ok_take M T) (hr.mono (by decide)) rfl M.D_take.mg M.D_take.fn.kp M.D_take.bd .nil pass0 (pa_cons (pv 0) (pa_cons pe_int pa_nil))) pa_nil)) (pg_name (i := 3) sc_tag.nd rfl (.inl rfl))
     (pss_cons (ps_asg (pe_op op_add_str (pv 2) (pe_ix ix_str (pv 1) (pe_call (ok_take M T) (hr.mono (by decide)) rfl M.D_take.mg M.D_take.fn.kp M.D_take.bd .nil pass0 (pa_cons (pv 0) (pa_cons pe_int pa_nil))) (fun _ _ => rfl))) (pg_name (i := 2) sc_tag.nd rfl (.inl rfl)))
     pss_nil))
     (pss_cons (ps_ret (pv 2))
     pss_nil)))), ?_⟩
    unfold fn_tag at hf
    refine run_W (Kn := fun p => .rt (toD p.1) [(0, toD p.2)]) sF fa ha ro rp ret ?_ hf rfl
    exact (es_seq (Γ1 := [.own 1 (toD v_bag_here), .d (toD (("abcdefghijklmnopqrstuvwxyz0123456789" : Str) : Str)), .u, .u]) (es_asg (EvE.cast (y := toD (("abcdefghijklmnopqrstuvwxyz0123456789" : Str) : Str)) ev_str rfl) eg_name)
     (bnd fun r1 hr1 =>
     (bnd fun r2 hr2 =>
     (es_seq (Γ1 := [.own 1 (toD r1.2), .d (toD (("abcdefghijklmnopqrstuvwxyz0123456789" : Str) : Str)), .d (toD ((⟨#[(r2).c]⟩ : Str) : Str)), .u]) (es_asg (EvE.cast (y := toD ((⟨#[(r2).c]⟩ : Str) : Str)) (EvE.cast (y := .str ⟨#[(r2).c]⟩) (ev_op (ev_var rfl) (ev_callW (p := 1) rfl (ea_cons (EvE.cast (y := toD ((26 : Int) : Int)) ev_int rfl) ea_nil) rfl ⟨_, _, _, rfl, rfl, hr1, rfl, rfl⟩) (rv_ixG (sgAt_ok hr2))) rfl) rfl) eg_name)
     (bnd fun r3 hr3 =>
     (grd fun h4 =>
     (es_join (G := fun (s5 : (Q3 Int Int Int) × Str) => [.own 1 (toD s5.1), .d (toD (("abcdefghijklmnopqrstuvwxyz0123456789" : Str) : Str)), .d (toD s5.2), .u]) (es_forS (fD := toD) (G := fun (s5 : (Q3 Int Int Int) × Str) => [.own 1 (toD s5.1), .d (toD (("abcdefghijklmnopqrstuvwxyz0123456789" : Str) : Str)), .d (toD s5.2), .u]) (G' := fun (s5 : (Q3 Int Int Int) × Str) (x6 : Int) => [.own 1 (toD s5.1), .d (toD (("abcdefghijklmnopqrstuvwxyz0123456789" : Str) : Str)), .d (toD s5.2), .d (toD x6)]) (ei_range1 (ev_callW (p := 1) rfl (ea_cons (EvE.cast (y := toD ((8 : Int) : Int)) ev_int rfl) ea_nil) rfl ⟨_, _, _, rfl, rfl, hr3, rfl, rfl⟩) h4) (by repeat first | exact .nil | apply Wk.keep | apply Wk.drop) (fun s5 x6 => eg_name) (fun s5 x6 =>
     (bnd fun r7 hr7 =>
     (bnd fun r8 hr8 =>
     (grd fun h9 =>
     (es_seq (Γ1 := [.own 1 (toD r7.2), .d (toD (("abcdefghijklmnopqrstuvwxyz0123456789" : Str) : Str)), .d (toD ((s5.2 ++ (⟨#[(r8).c]⟩ : Str)) : Str)), .d (toD x6)]) (es_asg (EvE.cast (y := toD ((s5.2 ++ (⟨#[(r8).c]⟩ : Str)) : Str)) (ev_op (ev_var rfl) (EvE.cast (y := .str ⟨#[(r8).c]⟩) (ev_op (ev_var rfl) (ev_callW (p := 1) rfl (ea_cons (EvE.cast (y := toD ((36 : Int) : Int)) ev_int rfl) ea_nil) rfl ⟨_, _, _, rfl, rfl, hr7, rfl, rfl⟩) (rv_ixG (sgAt_ok hr8))) rfl) (rv_addS h9)) rfl) eg_name)
     (one (es_end (by repeat first | exact .nil | apply Wk.keep | apply Wk.drop))))))))) fun s5 _ =>
     (one (es_ret (ev_var rfl) (wok1 rfl))))))))))
noncomputable def fn_tags (v_bag_here : (Q3 Int Int Int)) (v_many : Int) : Option ((List Str) × (Q3 Int Int Int)) :=
  (if -(2 ^ 62) ≤ v_many ∧ v_many < 2 ^ 62 then
     ((forS (fun (s2 : (Q3 Int Int Int) × (List Str)) (x3 : Int) =>
     ((fn_tag (s2.1)).bind fun r4 =>
     ((fn_take (r4.2) ((4 : Int))).bind fun r5 =>
     (((if ((decide ((0 : Int) < x3)) && (decide (r5.1 < (2 : Int)))) = true then
     ((fn_take (r5.2) (x3)).bind fun r8 =>
     ((atI s2.2 r8.1).bind fun r9 =>
     (if Str.length r9 ≤ sizeLine then
     ((fn_take (r8.2) (((Str.length r9 : Nat) : Int))).bind fun r11 =>
     ((if (decide (r5.1 = (0 : Int))) = true then (if Str.length r9 ≤ sizeLine then ((sgAt r4.1 (0 : Int)).bind fun r13 => (if Str.length (cutS r9 none (some r11.1)) + Str.length (⟨#[(r13).c]⟩ : Str) ≤ sizeLine then (if Str.length r9 ≤ sizeLine then (if Str.length ((cutS r9 none (some r11.1)) ++ (⟨#[(r13).c]⟩ : Str)) + Str.length (cutS r9 (some (r11.1 + (1 : Int))) none) ≤ sizeLine then some (((cutS r9 none (some r11.1)) ++ (⟨#[(r13).c]⟩ : Str)) ++ (cutS r9 (some (r11.1 + (1 : Int))) none)) else none) else none) else none)) else none) else (if Str.length r9 ≤ sizeLine then some (cutS r9 none (some (r11.1 + (1 : Int)))) else none)).bind fun r19 =>
     some (r11.2, r19))) else none))) else
     some (r5.2, r4.1)) : Option ((Q3 Int Int Int) × Str)).bind fun (s7 : (Q3 Int Int Int) × Str) =>
     (if List.length ([("x" : Str), ("x0" : Str), ("x1" : Str), ("x2" : Str), ("x3" : Str), ("x4" : Str)] : (List Str)) ≤ sizeLine then
     ((if ((isIn s7.2 s2.2)) = true then ((atI (List.map (fun (x22 : Str) => x22) (List.filter (fun (x22 : Str) => (!(isIn x22 s2.2))) ([("x" : Str), ("x0" : Str), ("x1" : Str), ("x2" : Str), ("x3" : Str), ("x4" : Str)] : (List Str)))) (0 : Int)).bind fun r24 => some r24) else some s7.2).bind fun r26 =>
     (if List.length s2.2 < sizeLine then
     some (s7.1, (s2.2 ++ [r26])) else none)) else none))))) (v_bag_here, ([] : (List Str))) (rng 0 v_many)).bind fun (s2 : (Q3 Int Int Int) × (List Str)) =>
     some (s2.2, s2.1)) else none)
def pre_tags : D → List D → D → D → Prop := fun x xs y x' => ∃ (v_bag_here : (Q3 Int Int Int)) (v_many : Int), ∃ (r : (List Str) × (Q3 Int Int Int)), x = toD v_bag_here ∧ xs = [toD v_many] ∧ fn_tags v_bag_here v_many = some r ∧ y = toD r.1 ∧ x' = toD r.2
theorem ok_tags (M : Ds K mg) (T : Txt K mg) : FnOk P w K mg base CX0 3 M.f_tags M.fd_tags P_tags (spW K pre_tags) := by
  refine M.D_tags.fn.ok sc_tags (fun vs H Q E h => ?_) (fun cdv A outer s H vs Q E hr h => ?_)
  · obtain ⟨F, a, o, x, xs, vs', y, x', rfl, _, _, _, _, rp, pr, _⟩ := h
    obtain ⟨v_bag_here, v_many, r, rfl, rfl, _⟩ := pr
    exact congrArg Nat.succ rp.len
  · obtain ⟨F, a, o, x, xs, vs', y, x', rfl, sF, fa, ha, ro, rp, pr, ret⟩ := h
    obtain ⟨v_bag_here, v_many, r, rfl, rfl, hf, rfl, rfl⟩ := pr
    skip
    refine ⟨_, (pss_cons (ps_asg (pe_lst pa_nil) (pg_name (i := 2) sc_tags.nd rfl (.inr rfl)))
     (pss_cons (ps_for PassesOwn.never rfl (pi_range1 (by rfl) T.range (pa_cons (pv 1) pa_nil)) (pg_name (i := 3) sc_tags.nd rfl (.inl rfl))
     (pss_cons (ps_par (i := 4) (j := 5) (by rfl) sc_tags.nd rfl rfl (by decide) rfl rfl (pa_cons (pe_call (ok_tag M T) (hr.mono (by decide)) rfl M.D_tag.mg M.D_tag.fn.kp M.D_tag.bd .nil pass0 (pa_cons (pv 0) pa_nil)) (pa_cons (pe_call (ok_take M T) (hr.mono (by decide)) rfl M.D_take.mg M.D_take.fn.kp M.D_take.bd .nil pass0 (pa_cons (pv 0) (pa_cons pe_int pa_nil))) pa_nil)) (by rfl))
     (pss_cons (ps_if (PW.pt (pw_and (pt_cmpR op_gt (pv 3) pe_int (nomark _)) (pw_and1 (pt_cmpR op_lt (pv 5) pe_int (nomark _)))))
     (pss_cons (ps_asg (pe_ix (show IxR _ (rIxL K) from ix_list) (pv 2) (pe_call (ok_take M T) (hr.mono (by decide)) rfl M.D_take.mg M.D_take.fn.kp M.D_take.bd .nil pass0 (pa_cons (pv 0) (pa_cons (pv 3) pa_nil))) (fun _ _ => rfl)) (pg_name (i := 6) sc_tags.nd rfl (.inl rfl)))
     (pss_cons (ps_asg (pe_call (ok_take M T) (hr.mono (by decide)) rfl M.D_take.mg M.D_take.fn.kp M.D_take.bd .nil pass0 (pa_cons (pv 0) (pa_cons (pe_callB call_len_str (by rfl) T.len (by decide +kernel) (pa_cons (pv 6) pa_nil)) pa_nil))) (pg_name (i := 7) sc_tags.nd rfl (.inl rfl)))
     (pss_cons (ps_asg (pe_ifExp (pt_cmpR op_eq (pv 5) pe_int (nomark _)) (pe_op op_add_str (pe_op op_add_str (pe_slice (r := rSlS) sl_str (pv 6) po_none (po_some (pv 7))) (pe_ix ix_str (pv 4) pe_int (fun _ _ => rfl))) (pe_slice (r := rSlS) sl_str (pv 6) (po_some (pe_op op_add (pv 7) pe_int)) po_none)) (pe_slice (r := rSlS) sl_str (pv 6) po_none (po_some (pe_op op_add (pv 7) pe_int)))) (pg_name (i := 4) sc_tags.nd rfl (.inl rfl)))
     pss_nil)))
     pss_nil)
     (pss_cons (ps_setLc (i := 8) (own := [("_law_tag_here", 9)]) (g := gName 9) rfl sc_tags.nd rfl rfl (sw_true rfl rfl rfl (by decide +kernel)) (show PI _ _ _ (iList K _) from pi_list (pe_lst (pa_cons pe_str (pa_cons pe_str (pa_cons pe_str (pa_cons pe_str (pa_cons pe_str (pa_cons pe_str pa_nil)))))))) (blkOk_by (own := [("_law_tag_here", 9)]) (N := N_tags) (sc := defScope s_tags) (by decide +kernel)) (fun _ _ _ _ _ => (pg_name (i := 9) sc_tags.nd rfl (.inl rfl))) (fun _ _ _ _ _ => (pts_one (pt_cmpR (show OpR _ (compareOp .NotIn) (rIn K true) from op_notIn_seq) (pv 9) (pv 2) (by rfl)))) (fun _ _ _ _ _ => (pv 9)))
     (pss_cons (ps_expr (pe_bm PySem.F.plainAttrs_list PySem.F.slot_list_append PySem.F.type_list_append mt_append (pv 2) (pa_cons (pe_ifExp (pt_cmpR (show OpR _ (compareOp .In) (rIn K false) from op_in_seq) (pv 4) (pv 2) (by rfl)) (pe_ix (show IxR _ (rIxL K) from ix_list) (pv 8) pe_int (fun _ _ => rfl)) (pv 4)) pa_nil)))
     pss_nil)))))
     (pss_cons (ps_ret (pv 2))
     pss_nil))), ?_⟩
    unfold fn_tags at hf
    refine run_W (Kn := fun p => .rt (toD p.1) [(0, toD p.2)]) sF fa ha ro rp ret ?_ hf rfl
    exact (es_seq (Γ1 := [.own 1 (toD v_bag_here), .d (toD v_many), .own 0 (toD (([] : (List Str)) : (List Str))), .u, .u, .u, .u, .u, .u, .u]) (es_asgO (EvO.cast (y := toD ([] : (List Str))) (evo_lst ea_nil (by show 0 ≤ sizeLine; decide)) rfl))
     (grd fun h1 =>
     (es_join (G := fun (s2 : (Q3 Int Int Int) × (List Str)) => [.own 1 (toD s2.1), .d (toD v_many), .own 0 (toD s2.2), .u, .u, .u, .u, .u, .u, .u]) (es_forS (fD := toD) (G := fun (s2 : (Q3 Int Int Int) × (List Str)) => [.own 1 (toD s2.1), .d (toD v_many), .own 0 (toD s2.2), .u, .u, .u, .u, .u, .u, .u]) (G' := fun (s2 : (Q3 Int Int Int) × (List Str)) (x3 : Int) => [.own 1 (toD s2.1), .d (toD v_many), .own 0 (toD s2.2), .d (toD x3), .u, .u, .u, .u, .u, .u]) (ei_range1 (ev_var rfl) h1) (by repeat first | exact .nil | apply Wk.keep | apply Wk.drop) (fun s2 x3 => eg_name) (fun s2 x3 =>
     (bnd fun r4 hr4 =>
     (bnd fun r5 hr5 =>
     (es_seq (Γ1 := [.own 1 (toD r5.2), .d (toD v_many), .own 0 (toD s2.2), .d (toD x3), .d (toD r4.1), .d (toD r5.1), .u, .u, .u, .u]) (es_par (ea_cons (EvE.cast (y := toD r4.1) (ev_callW (p := 1) rfl ea_nil rfl ⟨_, _, rfl, rfl, hr4, rfl, rfl⟩) rfl) (ea_cons (EvE.cast (y := toD r5.1) (ev_callW (p := 1) rfl (ea_cons (EvE.cast (y := toD ((4 : Int) : Int)) ev_int rfl) ea_nil) rfl ⟨_, _, _, rfl, rfl, hr5, rfl, rfl⟩) rfl) ea_nil)))
     (es_join (G := fun (s7 : (Q3 Int Int Int) × Str) => [.own 1 (toD s7.1), .d (toD v_many), .own 0 (toD s2.2), .d (toD x3), .d (toD s7.2), .d (toD r5.1), .u, .u, .u, .u]) (es_if (Γ1 := [.own 1 (toD r5.2), .d (toD v_many), .own 0 (toD s2.2), .d (toD x3), .d (toD r4.1), .d (toD r5.1), .u, .u, .u, .u]) (et_and (et_test (ev_op (ev_var rfl) (EvE.cast (y := toD ((0 : Int) : Int)) ev_int rfl) rv_B0)) fun b6 => (et_test (ev_op (ev_var rfl) (EvE.cast (y := toD ((2 : Int) : Int)) ev_int rfl) rv_B0))) (fun b20 => (bnd fun r8 hr8 =>
     (bnd fun r9 hr9 =>
     (es_seq (Γ1 := [.own 1 (toD r8.2), .d (toD v_many), .own 0 (toD s2.2), .d (toD x3), .d (toD r4.1), .d (toD r5.1), .d (toD r9), .u, .u, .u]) (es_asg (EvE.cast (y := toD r9) (ev_ixV (xs := List.map toD s2.2) (x0 := toD s2.2) (by first | exact .o 0 rfl | exact .d rfl) (ev_callW (p := 1) rfl (ea_cons (ev_var rfl) ea_nil) rfl ⟨_, _, _, rfl, rfl, hr8, rfl, rfl⟩) (by first | exact .o 0 rfl | exact .d rfl) (at_map toD hr9) (.lst _)) rfl) eg_name)
     (grd fun h10 =>
     (bnd fun r11 hr11 =>
     (es_seq (Γ1 := [.own 1 (toD r11.2), .d (toD v_many), .own 0 (toD s2.2), .d (toD x3), .d (toD r4.1), .d (toD r5.1), .d (toD r9), .d (toD r11.1), .u, .u]) (es_asg (EvE.cast (y := toD r11.1) (ev_callW (p := 1) rfl (ea_cons (EvE.cast (y := toD (((Str.length r9 : Nat) : Int) : Int)) (ev_lenS (ev_var rfl) h10) rfl) ea_nil) rfl ⟨_, _, _, rfl, rfl, hr11, rfl, rfl⟩) rfl) eg_name)
     (bnd fun r19 hr19 =>
     (es_seq (Γ1 := [.own 1 (toD r11.2), .d (toD v_many), .own 0 (toD s2.2), .d (toD x3), .d (toD r19), .d (toD r5.1), .d (toD r9), .d (toD r11.1), .u, .u]) (es_asg (EvE.cast (y := toD r19) (ev_ifM1 hr19 (et_test (ev_op (ev_var rfl) (EvE.cast (y := toD ((0 : Int) : Int)) ev_int rfl) rv_eqI)) (fun b18 => (fun _ e0 => by obtain ⟨h12, e0⟩ := ite_some e0; exact (by obtain ⟨r13, hr13, e0⟩ := bind_some e0; exact (by obtain ⟨h14, e0⟩ := ite_some e0; exact (by obtain ⟨h15, e0⟩ := ite_some e0; exact (by obtain ⟨h16, e0⟩ := ite_some e0; exact (by have e0 := Option.some.inj e0; subst e0; exact (EvE.cast (y := toD ((((cutS r9 none (some r11.1)) ++ (⟨#[(r13).c]⟩ : Str)) ++ (cutS r9 (some (r11.1 + (1 : Int))) none)) : Str)) (ev_op (ev_op (ev_slS (ev_var rfl) eo_none (eo_some (ev_var rfl)) h12) (EvE.cast (y := .str ⟨#[(r13).c]⟩) (ev_op (ev_var rfl) ev_int (rv_ixG (sgAt_ok hr13))) rfl) (rv_addS h14)) (ev_slS (ev_var rfl) (eo_some (ev_op (ev_var rfl) ev_int rv_I0)) eo_none h15) (rv_addS h16)) rfl)))))))) (fun b18 => (fun _ e0 => by obtain ⟨h17, e0⟩ := ite_some e0; exact (by have e0 := Option.some.inj e0; subst e0; exact (EvE.cast (y := toD ((cutS r9 none (some (r11.1 + (1 : Int)))) : Str)) (ev_slS (ev_var rfl) eo_none (eo_some (ev_op (ev_var rfl) ev_int rv_I0)) h17) rfl))))) rfl) eg_name)
     (one (es_endN (by repeat first | exact .nil | apply Wk.keep | apply Wk.drop)))))))))))) (fun b20 => (one (es_endN (by repeat first | exact .nil | apply Wk.keep | apply Wk.drop))))) fun s7 _ =>
     (grd fun h21 =>
     (es_seq (Γ1 := [.own 1 (toD s7.1), .d (toD v_many), .own 0 (toD s2.2), .d (toD x3), .d (toD s7.2), .d (toD r5.1), .u, .u, .own 0 (toD ((List.map (fun (x22 : Str) => x22) (List.filter (fun (x22 : Str) => (!(isIn x22 s2.2))) ([("x" : Str), ("x0" : Str), ("x1" : Str), ("x2" : Str), ("x3" : Str), ("x4" : Str)] : (List Str)))) : (List Str))), .u]) (es_asgO (EvO.cast (y := toD ((List.map (fun (x22 : Str) => x22) (List.filter (fun (x22 : Str) => (!(isIn x22 s2.2))) ([("x" : Str), ("x0" : Str), ("x1" : Str), ("x2" : Str), ("x3" : Str), ("x4" : Str)] : (List Str)))) : (List Str))) (evo_lcP (fD := toD) (gD := toD) (c := (fun (x22 : Str) => (!(isIn x22 s2.2)))) (f := (fun (x22 : Str) => x22)) (Γ2 := [.own 1 (toD s7.1), .d (toD v_many), .own 0 (toD s2.2), .d (toD x3), .d (toD s7.2), .d (toD r5.1), .u, .u, .u, .u]) (G1 := fun (x22 : Str) => [.own 1 (toD s7.1), .d (toD v_many), .own 0 (toD s2.2), .d (toD x3), .d (toD s7.2), .d (toD r5.1), .u, .u, .u, .d (toD x22)]) h21 (ei_list (EvE.cast (y := toD (([("x" : Str), ("x0" : Str), ("x1" : Str), ("x2" : Str), ("x3" : Str), ("x4" : Str)] : (List Str)) : (List Str))) (EvO.e (EvO.cast (y := toD ([("x" : Str), ("x0" : Str), ("x1" : Str), ("x2" : Str), ("x3" : Str), ("x4" : Str)] : (List Str))) (evo_lst (ea_cons (EvE.cast (y := toD (("x" : Str) : Str)) ev_str rfl) (ea_cons (EvE.cast (y := toD (("x0" : Str) : Str)) ev_str rfl) (ea_cons (EvE.cast (y := toD (("x1" : Str) : Str)) ev_str rfl) (ea_cons (EvE.cast (y := toD (("x2" : Str) : Str)) ev_str rfl) (ea_cons (EvE.cast (y := toD (("x3" : Str) : Str)) ev_str rfl) (ea_cons (EvE.cast (y := toD (("x4" : Str) : Str)) ev_str rfl) ea_nil)))))) (by show 6 ≤ sizeLine; decide)) rfl)) rfl)) (by repeat first | exact .nil | apply Wk.keep | apply Wk.drop) (off_of rfl) (fun _ x22 => (egw_name (by decide))) (fun _ x22 => (et_test (ev_inL1 (ev_var rfl) (evr_var (x := toD s2.2) (by first | exact .o 0 rfl | exact .d rfl) (.lst _))))) (fun _ x22 b23 => (ev_var rfl)) (fun x22 => by repeat first | exact .nil | apply Wk.keep | apply Wk.drop)) rfl))
     (bnd fun r26 hr26 =>
     (grd fun h27 =>
     (es_seq (Γ1 := [.own 1 (toD s7.1), .d (toD v_many), .own 0 (toD ((s2.2 ++ [r26]) : (List Str))), .d (toD x3), .d (toD s7.2), .d (toD r5.1), .u, .u, .own 0 (toD ((List.map (fun (x22 : Str) => x22) (List.filter (fun (x22 : Str) => (!(isIn x22 s2.2))) ([("x" : Str), ("x0" : Str), ("x1" : Str), ("x2" : Str), ("x3" : Str), ("x4" : Str)] : (List Str)))) : (List Str))), .u]) (EvS1.cast (es_append (i := 2) (xs := List.map toD s2.2) rfl (EvE.cast (y := toD r26) (ev_ifM1 hr26 (et_test (ev_inL0 (ev_var rfl) (evr_var (x := toD s2.2) (by first | exact .o 0 rfl | exact .d rfl) (.lst _)))) (fun b25 => (fun _ e0 => by obtain ⟨r24, hr24, e0⟩ := bind_some e0; exact (by have e0 := Option.some.inj e0; subst e0; exact (EvE.cast (y := toD r24) (ev_ixV (xs := List.map toD ((List.map (fun (x22 : Str) => x22) (List.filter (fun (x22 : Str) => (!(isIn x22 s2.2))) ([("x" : Str), ("x0" : Str), ("x1" : Str), ("x2" : Str), ("x3" : Str), ("x4" : Str)] : (List Str)))) : (List Str))) (x0 := toD ((List.map (fun (x22 : Str) => x22) (List.filter (fun (x22 : Str) => (!(isIn x22 s2.2))) ([("x" : Str), ("x0" : Str), ("x1" : Str), ("x2" : Str), ("x3" : Str), ("x4" : Str)] : (List Str)))) : (List Str))) (by first | exact .o 0 rfl | exact .d rfl) ev_int (by first | exact .o 0 rfl | exact .d rfl) (at_map toD hr24) (.lst _)) rfl)))) (fun b25 => (fun _ e0 => by have e0 := Option.some.inj e0; subst e0; exact (ev_var rfl)))) rfl) rfl (by simpa using h27)) (by simp [toD, Rp.d]))
     (one (es_end (by repeat first | exact .nil | apply Wk.keep | apply Wk.drop)))))))))))))) fun s2 _ =>
     (EvS.freeze 2 rfl
     (one (es_ret (ev_var rfl) (wok1 rfl)))))))
end L
namespace L
open PySem L2 Hv Ev
variable {P : Program} {w : World} {K : PySem.W.Frag} {mg : Str → Option Value} {base : Heap}
noncomputable def fn_kind (v_bag_here : (Q3 Int Int Int)) (v_tag_here : Str) (v_bounds_here : (List Str)) : Option ((Q5 Str Int (Int ⊕ Str) (Option (P2 Int Str)) (Option Str)) × (Q3 Int Int Int)) :=
  ((fn_take (v_bag_here) ((4 : Int))).bind fun r1 =>
     ((fn_take (r1.2) ((4 : Int))).bind fun r2 =>
     (((if (decide (r2.1 = (1 : Int))) = true then
     ((fn_take (r2.2) ((9 : Int))).bind fun r4 =>
     some (r4.2, (⟨((⟨v_tag_here, r1.1, (.inl (1 : Int) : (Int ⊕ Str)), (none : (Option (P2 Int Str))), (none : (Option Str))⟩ : (Q5 Str Int (Int ⊕ Str) (Option (P2 Int Str)) (Option Str)))).a, ((⟨v_tag_here, r1.1, (.inl (1 : Int) : (Int ⊕ Str)), (none : (Option (P2 Int Str))), (none : (Option Str))⟩ : (Q5 Str Int (Int ⊕ Str) (Option (P2 Int Str)) (Option Str)))).b, (.inl ((1 : Int) + r4.1) : (Int ⊕ Str)), ((⟨v_tag_here, r1.1, (.inl (1 : Int) : (Int ⊕ Str)), (none : (Option (P2 Int Str))), (none : (Option Str))⟩ : (Q5 Str Int (Int ⊕ Str) (Option (P2 Int Str)) (Option Str)))).d, ((⟨v_tag_here, r1.1, (.inl (1 : Int) : (Int ⊕ Str)), (none : (Option (P2 Int Str))), (none : (Option Str))⟩ : (Q5 Str Int (Int ⊕ Str) (Option (P2 Int Str)) (Option Str)))).e⟩ : (Q5 Str Int (Int ⊕ Str) (Option (P2 Int Str)) (Option Str))))) else
     some (r2.2, (⟨v_tag_here, r1.1, (.inl (1 : Int) : (Int ⊕ Str)), (none : (Option (P2 Int Str))), (none : (Option Str))⟩ : (Q5 Str Int (Int ⊕ Str) (Option (P2 Int Str)) (Option Str))))) : Option ((Q3 Int Int Int) × (Q5 Str Int (Int ⊕ Str) (Option (P2 Int Str)) (Option Str)))).bind fun (s3 : (Q3 Int Int Int) × (Q5 Str Int (Int ⊕ Str) (Option (P2 Int Str)) (Option Str))) =>
     (((if (decide (r2.1 = (2 : Int))) = true then
     ((fn_take (s3.1) (((v_bounds_here.length : Nat) : Int))).bind fun r7 =>
     ((atI v_bounds_here r7.1).bind fun r8 =>
     some (r7.2, (⟨(s3.2).a, (s3.2).b, (.inr r8 : (Int ⊕ Str)), (s3.2).d, (s3.2).e⟩ : (Q5 Str Int (Int ⊕ Str) (Option (P2 Int Str)) (Option Str)))))) else
     some (s3.1, s3.2)) : Option ((Q3 Int Int Int) × (Q5 Str Int (Int ⊕ Str) (Option (P2 Int Str)) (Option Str)))).bind fun (s6 : (Q3 Int Int Int) × (Q5 Str Int (Int ⊕ Str) (Option (P2 Int Str)) (Option Str))) =>
     ((fn_take (s6.1) ((2 : Int))).bind fun r10 =>
     (((if (decide (r10.1 = (0 : Int))) = true then
     ((fn_take (r10.2) ((4 : Int))).bind fun r12 =>
     ((fn_take (r12.2) (((v_bounds_here.length : Nat) : Int))).bind fun r13 =>
     ((atI v_bounds_here r13.1).bind fun r14 =>
     some (r13.2, (⟨(s6.2).a, (s6.2).b, (s6.2).c, (some (⟨r12.1, r14⟩ : (P2 Int Str)) : (Option (P2 Int Str))), (s6.2).e⟩ : (Q5 Str Int (Int ⊕ Str) (Option (P2 Int Str)) (Option Str))))))) else
     some (r10.2, s6.2)) : Option ((Q3 Int Int Int) × (Q5 Str Int (Int ⊕ Str) (Option (P2 Int Str)) (Option Str)))).bind fun (s11 : (Q3 Int Int Int) × (Q5 Str Int (Int ⊕ Str) (Option (P2 Int Str)) (Option Str))) =>
     ((fn_take (s11.1) ((3 : Int))).bind fun r16 =>
     (((if (decide (r16.1 = (0 : Int))) = true then
     ((fn_take (r16.2) (((v_bounds_here.length : Nat) : Int))).bind fun r18 =>
     ((atI v_bounds_here r18.1).bind fun r19 =>
     some (r18.2, (⟨(s11.2).a, (s11.2).b, (s11.2).c, (s11.2).d, (some r19 : (Option Str))⟩ : (Q5 Str Int (Int ⊕ Str) (Option (P2 Int Str)) (Option Str)))))) else
     some (r16.2, s11.2)) : Option ((Q3 Int Int Int) × (Q5 Str Int (Int ⊕ Str) (Option (P2 Int Str)) (Option Str)))).bind fun (s17 : (Q3 Int Int Int) × (Q5 Str Int (Int ⊕ Str) (Option (P2 Int Str)) (Option Str))) =>
     some (s17.2, s17.1)))))))))
def pre_kind : D → List D → D → D → Prop := fun x xs y x' => ∃ (v_bag_here : (Q3 Int Int Int)) (v_tag_here : Str) (v_bounds_here : (List Str)), ∃ (r : (Q5 Str Int (Int ⊕ Str) (Option (P2 Int Str)) (Option Str)) × (Q3 Int Int Int)), x = toD v_bag_here ∧ xs = [toD v_tag_here, toD v_bounds_here] ∧ fn_kind v_bag_here v_tag_here v_bounds_here = some r ∧ y = toD r.1 ∧ x' = toD r.2
theorem ok_kind (M : Ds K mg) (T : Txt K mg) : FnOk P w K mg base CX0 2 M.f_kind M.fd_kind P_kind (spW K pre_kind) := by
  refine M.D_kind.fn.ok sc_kind (fun vs H Q E h => ?_) (fun cdv A outer s H vs Q E hr h => ?_)
  · obtain ⟨F, a, o, x, xs, vs', y, x', rfl, _, _, _, _, rp, pr, _⟩ := h
    obtain ⟨v_bag_here, v_tag_here, v_bounds_here, r, rfl, rfl, _⟩ := pr
    exact congrArg Nat.succ rp.len
  · obtain ⟨F, a, o, x, xs, vs', y, x', rfl, sF, fa, ha, ro, rp, pr, ret⟩ := h
    obtain ⟨v_bag_here, v_tag_here, v_bounds_here, r, rfl, rfl, hf, rfl, rfl⟩ := pr
    skip
    refine ⟨_, (pss_cons (ps_par (i := 3) (j := 4) (by rfl) sc_kind.nd rfl rfl (by decide) rfl rfl (pa_cons (pe_lst (pa_cons (pv 1) (pa_cons (pe_call (ok_take M T) (hr.mono (by decide)) rfl M.D_take.mg M.D_take.fn.kp M.D_take.bd .nil pass0 (pa_cons (pv 0) (pa_cons pe_int pa_nil))) (pa_cons pe_int (pa_cons pe_non (pa_cons pe_non pa_nil)))))) (pa_cons (pe_call (ok_take M T) (hr.mono (by decide)) rfl M.D_take.mg M.D_take.fn.kp M.D_take.bd .nil pass0 (pa_cons (pv 0) (pa_cons pe_int pa_nil))) pa_nil)) (by rfl))
     (pss_cons (ps_if (pt_cmpR op_eq (pv 4) pe_int (nomark _))
     (pss_cons (ps_asg (pe_op op_add pe_int (pe_call (ok_take M T) (hr.mono (by decide)) rfl M.D_take.mg M.D_take.fn.kp M.D_take.bd .nil pass0 (pa_cons (pv 0) (pa_cons pe_int pa_nil)))) (pg_sub (pv 3) pe_int set_list))
     pss_nil)
     pss_nil)
     (pss_cons (ps_if (pt_cmpR op_eq (pv 4) pe_int (nomark _))
     (pss_cons (ps_asg (pe_ix (show IxR _ (rIxL K) from ix_list) (pv 2) (pe_call (ok_take M T) (hr.mono (by decide)) rfl M.D_take.mg M.D_take.fn.kp M.D_take.bd .nil pass0 (pa_cons (pv 0) (pa_cons (pe_callB (show CallR _ (.builtin "len") (rLen1 K) from call_len_seq) (by rfl) T.len (by decide +kernel) (pa_cons (pv 2) pa_nil)) pa_nil))) (fun _ _ => rfl)) (pg_sub (pv 3) pe_int set_list))
     pss_nil)
     pss_nil)
     (pss_cons (ps_if (pt_cmpR op_eq (pe_call (ok_take M T) (hr.mono (by decide)) rfl M.D_take.mg M.D_take.fn.kp M.D_take.bd .nil pass0 (pa_cons (pv 0) (pa_cons pe_int pa_nil))) pe_int (nomark _))
     (pss_cons (ps_asg (pe_tup (pa_cons (pe_call (ok_take M T) (hr.mono (by decide)) rfl M.D_take.mg M.D_take.fn.kp M.D_take.bd .nil pass0 (pa_cons (pv 0) (pa_cons pe_int pa_nil))) (pa_cons (pe_ix (show IxR _ (rIxL K) from ix_list) (pv 2) (pe_call (ok_take M T) (hr.mono (by decide)) rfl M.D_take.mg M.D_take.fn.kp M.D_take.bd .nil pass0 (pa_cons (pv 0) (pa_cons (pe_callB (show CallR _ (.builtin "len") (rLen1 K) from call_len_seq) (by rfl) T.len (by decide +kernel) (pa_cons (pv 2) pa_nil)) pa_nil))) (fun _ _ => rfl)) pa_nil))) (pg_sub (pv 3) pe_int set_list))
     pss_nil)
     pss_nil)
     (pss_cons (ps_if (pt_cmpR op_eq (pe_call (ok_take M T) (hr.mono (by decide)) rfl M.D_take.mg M.D_take.fn.kp M.D_take.bd .nil pass0 (pa_cons (pv 0) (pa_cons pe_int pa_nil))) pe_int (nomark _))
     (pss_cons (ps_asg (pe_ix (show IxR _ (rIxL K) from ix_list) (pv 2) (pe_call (ok_take M T) (hr.mono (by decide)) rfl M.D_take.mg M.D_take.fn.kp M.D_take.bd .nil pass0 (pa_cons (pv 0) (pa_cons (pe_callB (show CallR _ (.builtin "len") (rLen1 K) from call_len_seq) (by rfl) T.len (by decide +kernel) (pa_cons (pv 2) pa_nil)) pa_nil))) (fun _ _ => rfl)) (pg_sub (pv 3) pe_int set_list))
     pss_nil)
     pss_nil)
     (pss_cons (ps_ret (pv 3))
     pss_nil)))))), ?_⟩
    unfold fn_kind at hf
    refine run_W (Kn := fun p => .rt (toD p.1) [(0, toD p.2)]) sF fa ha ro rp ret ?_ hf rfl
    exact (bnd fun r1 hr1 =>
     (bnd fun r2 hr2 =>
     (es_seq (Γ1 := [.own 1 (toD r2.2), .d (toD v_tag_here), .d (toD v_bounds_here), .own 0 (toD ((⟨v_tag_here, r1.1, (.inl (1 : Int) : (Int ⊕ Str)), (none : (Option (P2 Int Str))), (none : (Option Str))⟩ : (Q5 Str Int (Int ⊕ Str) (Option (P2 Int Str)) (Option Str))) : (Q5 Str Int (Int ⊕ Str) (Option (P2 Int Str)) (Option Str)))), .d (toD r2.1)]) (es_parOE (Γ1 := [.own 1 (toD r1.2), .d (toD v_tag_here), .d (toD v_bounds_here), .u, .u]) (by decide) (EvO.cast (y := toD (⟨v_tag_here, r1.1, (.inl (1 : Int) : (Int ⊕ Str)), (none : (Option (P2 Int Str))), (none : (Option Str))⟩ : (Q5 Str Int (Int ⊕ Str) (Option (P2 Int Str)) (Option Str)))) (evo_lst (ea_cons (ev_var rfl) (ea_cons (EvE.cast (y := toD r1.1) (ev_callW (p := 1) rfl (ea_cons (EvE.cast (y := toD ((4 : Int) : Int)) ev_int rfl) ea_nil) rfl ⟨_, _, _, rfl, rfl, hr1, rfl, rfl⟩) rfl) (ea_cons (EvE.cast (y := toD ((.inl (1 : Int) : (Int ⊕ Str)) : (Int ⊕ Str))) (EvE.cast (y := toD (.inl (1 : Int) : (Int ⊕ Str))) ev_int rfl) rfl) (ea_cons (EvE.cast (y := toD ((none : (Option (P2 Int Str))) : (Option (P2 Int Str)))) (EvE.cast (y := toD none) ev_non rfl) rfl) (ea_cons (EvE.cast (y := toD ((none : (Option Str)) : (Option Str))) (EvE.cast (y := toD none) ev_non rfl) rfl) ea_nil))))) (by show 5 ≤ sizeLine; decide)) rfl) (fun _ => (EvE.cast (y := toD r2.1) (ev_callW (p := 1) rfl (ea_cons (EvE.cast (y := toD ((4 : Int) : Int)) ev_int rfl) ea_nil) rfl ⟨_, _, _, rfl, rfl, hr2, rfl, rfl⟩) rfl)) rfl)
     (es_join (G := fun (s3 : (Q3 Int Int Int) × (Q5 Str Int (Int ⊕ Str) (Option (P2 Int Str)) (Option Str))) => [.own 1 (toD s3.1), .d (toD v_tag_here), .d (toD v_bounds_here), .own 0 (toD s3.2), .d (toD r2.1)]) (es_if (Γ1 := [.own 1 (toD r2.2), .d (toD v_tag_here), .d (toD v_bounds_here), .own 0 (toD ((⟨v_tag_here, r1.1, (.inl (1 : Int) : (Int ⊕ Str)), (none : (Option (P2 Int Str))), (none : (Option Str))⟩ : (Q5 Str Int (Int ⊕ Str) (Option (P2 Int Str)) (Option Str))) : (Q5 Str Int (Int ⊕ Str) (Option (P2 Int Str)) (Option Str)))), .d (toD r2.1)]) (et_test (ev_op (ev_var rfl) (EvE.cast (y := toD ((1 : Int) : Int)) ev_int rfl) rv_eqI)) (fun b5 => (bnd fun r4 hr4 =>
     (es_seq (Γ1 := [.own 1 (toD r4.2), .d (toD v_tag_here), .d (toD v_bounds_here), .own 0 (toD ((⟨((⟨v_tag_here, r1.1, (.inl (1 : Int) : (Int ⊕ Str)), (none : (Option (P2 Int Str))), (none : (Option Str))⟩ : (Q5 Str Int (Int ⊕ Str) (Option (P2 Int Str)) (Option Str)))).a, ((⟨v_tag_here, r1.1, (.inl (1 : Int) : (Int ⊕ Str)), (none : (Option (P2 Int Str))), (none : (Option Str))⟩ : (Q5 Str Int (Int ⊕ Str) (Option (P2 Int Str)) (Option Str)))).b, (.inl ((1 : Int) + r4.1) : (Int ⊕ Str)), ((⟨v_tag_here, r1.1, (.inl (1 : Int) : (Int ⊕ Str)), (none : (Option (P2 Int Str))), (none : (Option Str))⟩ : (Q5 Str Int (Int ⊕ Str) (Option (P2 Int Str)) (Option Str)))).d, ((⟨v_tag_here, r1.1, (.inl (1 : Int) : (Int ⊕ Str)), (none : (Option (P2 Int Str))), (none : (Option Str))⟩ : (Q5 Str Int (Int ⊕ Str) (Option (P2 Int Str)) (Option Str)))).e⟩ : (Q5 Str Int (Int ⊕ Str) (Option (P2 Int Str)) (Option Str))) : (Q5 Str Int (Int ⊕ Str) (Option (P2 Int Str)) (Option Str)))), .d (toD r2.1)]) (es_asg (EvE.cast (y := toD ((.inl ((1 : Int) + r4.1) : (Int ⊕ Str)) : (Int ⊕ Str))) (EvE.cast (y := toD (.inl ((1 : Int) + r4.1) : (Int ⊕ Str))) (ev_op ev_int (ev_callW (p := 1) rfl (ea_cons (EvE.cast (y := toD ((9 : Int) : Int)) ev_int rfl) ea_nil) rfl ⟨_, _, _, rfl, rfl, hr4, rfl, rfl⟩) rv_I0) rfl) rfl) (eg_sub (p := 0) (xs := [toD (((⟨v_tag_here, r1.1, (.inl (1 : Int) : (Int ⊕ Str)), (none : (Option (P2 Int Str))), (none : (Option Str))⟩ : (Q5 Str Int (Int ⊕ Str) (Option (P2 Int Str)) (Option Str)))).a : Str), toD (((⟨v_tag_here, r1.1, (.inl (1 : Int) : (Int ⊕ Str)), (none : (Option (P2 Int Str))), (none : (Option Str))⟩ : (Q5 Str Int (Int ⊕ Str) (Option (P2 Int Str)) (Option Str)))).b : Int), toD (((⟨v_tag_here, r1.1, (.inl (1 : Int) : (Int ⊕ Str)), (none : (Option (P2 Int Str))), (none : (Option Str))⟩ : (Q5 Str Int (Int ⊕ Str) (Option (P2 Int Str)) (Option Str)))).c : (Int ⊕ Str)), toD (((⟨v_tag_here, r1.1, (.inl (1 : Int) : (Int ⊕ Str)), (none : (Option (P2 Int Str))), (none : (Option Str))⟩ : (Q5 Str Int (Int ⊕ Str) (Option (P2 Int Str)) (Option Str)))).d : (Option (P2 Int Str))), toD (((⟨v_tag_here, r1.1, (.inl (1 : Int) : (Int ⊕ Str)), (none : (Option (P2 Int Str))), (none : (Option Str))⟩ : (Q5 Str Int (Int ⊕ Str) (Option (P2 Int Str)) (Option Str)))).e : (Option Str))]) (n := 2) rfl ev_int rfl))
     (one (es_endN (by repeat first | exact .nil | apply Wk.keep | apply Wk.drop)))))) (fun b5 => (one (es_endN (by repeat first | exact .nil | apply Wk.keep | apply Wk.drop))))) fun s3 _ =>
     (es_join (G := fun (s6 : (Q3 Int Int Int) × (Q5 Str Int (Int ⊕ Str) (Option (P2 Int Str)) (Option Str))) => [.own 1 (toD s6.1), .d (toD v_tag_here), .d (toD v_bounds_here), .own 0 (toD s6.2), .d (toD r2.1)]) (es_if (Γ1 := [.own 1 (toD s3.1), .d (toD v_tag_here), .d (toD v_bounds_here), .own 0 (toD s3.2), .d (toD r2.1)]) (et_test (ev_op (ev_var rfl) (EvE.cast (y := toD ((2 : Int) : Int)) ev_int rfl) rv_eqI)) (fun b9 => (bnd fun r7 hr7 =>
     (bnd fun r8 hr8 =>
     (es_seq (Γ1 := [.own 1 (toD r7.2), .d (toD v_tag_here), .d (toD v_bounds_here), .own 0 (toD ((⟨(s3.2).a, (s3.2).b, (.inr r8 : (Int ⊕ Str)), (s3.2).d, (s3.2).e⟩ : (Q5 Str Int (Int ⊕ Str) (Option (P2 Int Str)) (Option Str))) : (Q5 Str Int (Int ⊕ Str) (Option (P2 Int Str)) (Option Str)))), .d (toD r2.1)]) (es_asg (EvE.cast (y := toD ((.inr r8 : (Int ⊕ Str)) : (Int ⊕ Str))) (EvE.cast (y := toD (.inr r8 : (Int ⊕ Str))) (ev_op (ev_var rfl) (ev_callW (p := 1) rfl (ea_cons (EvE.cast (y := toD (((v_bounds_here.length : Nat) : Int) : Int)) (EvE.cast (y := toD (((v_bounds_here.length : Nat) : Int) : Int)) (ev_lenL (EvE.r (ev_var rfl) (.lst _))) (by simp [toD, Rp.d])) rfl) ea_nil) rfl ⟨_, _, _, rfl, rfl, hr7, rfl, rfl⟩) (rv_ixL (at_map toD hr8))) rfl) rfl) (eg_sub (p := 0) (xs := [toD ((s3.2).a : Str), toD ((s3.2).b : Int), toD ((s3.2).c : (Int ⊕ Str)), toD ((s3.2).d : (Option (P2 Int Str))), toD ((s3.2).e : (Option Str))]) (n := 2) rfl ev_int rfl))
     (one (es_endN (by repeat first | exact .nil | apply Wk.keep | apply Wk.drop))))))) (fun b9 => (one (es_endN (by repeat first | exact .nil | apply Wk.keep | apply Wk.drop))))) fun s6 _ =>
     (bnd fun r10 hr10 =>
     (es_join (G := fun (s11 : (Q3 Int Int Int) × (Q5 Str Int (Int ⊕ Str) (Option (P2 Int Str)) (Option Str))) => [.own 1 (toD s11.1), .d (toD v_tag_here), .d (toD v_bounds_here), .own 0 (toD s11.2), .d (toD r2.1)]) (es_if (Γ1 := [.own 1 (toD r10.2), .d (toD v_tag_here), .d (toD v_bounds_here), .own 0 (toD s6.2), .d (toD r2.1)]) (et_test (ev_op (EvE.cast (y := toD r10.1) (ev_callW (p := 1) rfl (ea_cons (EvE.cast (y := toD ((2 : Int) : Int)) ev_int rfl) ea_nil) rfl ⟨_, _, _, rfl, rfl, hr10, rfl, rfl⟩) rfl) (EvE.cast (y := toD ((0 : Int) : Int)) ev_int rfl) rv_eqI)) (fun b15 => (bnd fun r12 hr12 =>
     (bnd fun r13 hr13 =>
     (bnd fun r14 hr14 =>
     (es_seq (Γ1 := [.own 1 (toD r13.2), .d (toD v_tag_here), .d (toD v_bounds_here), .own 0 (toD ((⟨(s6.2).a, (s6.2).b, (s6.2).c, (some (⟨r12.1, r14⟩ : (P2 Int Str)) : (Option (P2 Int Str))), (s6.2).e⟩ : (Q5 Str Int (Int ⊕ Str) (Option (P2 Int Str)) (Option Str))) : (Q5 Str Int (Int ⊕ Str) (Option (P2 Int Str)) (Option Str)))), .d (toD r2.1)]) (es_asg (EvE.cast (y := toD ((some (⟨r12.1, r14⟩ : (P2 Int Str)) : (Option (P2 Int Str))) : (Option (P2 Int Str)))) (EvE.cast (y := toD (some (⟨r12.1, r14⟩ : (P2 Int Str)) : (Option (P2 Int Str)))) (EvE.cast (y := toD (⟨r12.1, r14⟩ : (P2 Int Str))) (ev_tup (ea_cons (EvE.cast (y := toD r12.1) (ev_callW (p := 1) rfl (ea_cons (EvE.cast (y := toD ((4 : Int) : Int)) ev_int rfl) ea_nil) rfl ⟨_, _, _, rfl, rfl, hr12, rfl, rfl⟩) rfl) (ea_cons (EvE.cast (y := toD r14) (ev_op (ev_var rfl) (ev_callW (p := 1) rfl (ea_cons (EvE.cast (y := toD (((v_bounds_here.length : Nat) : Int) : Int)) (EvE.cast (y := toD (((v_bounds_here.length : Nat) : Int) : Int)) (ev_lenL (EvE.r (ev_var rfl) (.lst _))) (by simp [toD, Rp.d])) rfl) ea_nil) rfl ⟨_, _, _, rfl, rfl, hr13, rfl, rfl⟩) (rv_ixL (at_map toD hr14))) rfl) ea_nil)) (by show 2 ≤ sizeLine; decide)) rfl) rfl) rfl) (eg_sub (p := 0) (xs := [toD ((s6.2).a : Str), toD ((s6.2).b : Int), toD ((s6.2).c : (Int ⊕ Str)), toD ((s6.2).d : (Option (P2 Int Str))), toD ((s6.2).e : (Option Str))]) (n := 3) rfl ev_int rfl))
     (one (es_endN (by repeat first | exact .nil | apply Wk.keep | apply Wk.drop)))))))) (fun b15 => (one (es_endN (by repeat first | exact .nil | apply Wk.keep | apply Wk.drop))))) fun s11 _ =>
     (bnd fun r16 hr16 =>
     (es_join (G := fun (s17 : (Q3 Int Int Int) × (Q5 Str Int (Int ⊕ Str) (Option (P2 Int Str)) (Option Str))) => [.own 1 (toD s17.1), .d (toD v_tag_here), .d (toD v_bounds_here), .own 0 (toD s17.2), .d (toD r2.1)]) (es_if (Γ1 := [.own 1 (toD r16.2), .d (toD v_tag_here), .d (toD v_bounds_here), .own 0 (toD s11.2), .d (toD r2.1)]) (et_test (ev_op (EvE.cast (y := toD r16.1) (ev_callW (p := 1) rfl (ea_cons (EvE.cast (y := toD ((3 : Int) : Int)) ev_int rfl) ea_nil) rfl ⟨_, _, _, rfl, rfl, hr16, rfl, rfl⟩) rfl) (EvE.cast (y := toD ((0 : Int) : Int)) ev_int rfl) rv_eqI)) (fun b20 => (bnd fun r18 hr18 =>
     (bnd fun r19 hr19 =>
     (es_seq (Γ1 := [.own 1 (toD r18.2), .d (toD v_tag_here), .d (toD v_bounds_here), .own 0 (toD ((⟨(s11.2).a, (s11.2).b, (s11.2).c, (s11.2).d, (some r19 : (Option Str))⟩ : (Q5 Str Int (Int ⊕ Str) (Option (P2 Int Str)) (Option Str))) : (Q5 Str Int (Int ⊕ Str) (Option (P2 Int Str)) (Option Str)))), .d (toD r2.1)]) (es_asg (EvE.cast (y := toD ((some r19 : (Option Str)) : (Option Str))) (EvE.cast (y := toD (some r19 : (Option Str))) (ev_op (ev_var rfl) (ev_callW (p := 1) rfl (ea_cons (EvE.cast (y := toD (((v_bounds_here.length : Nat) : Int) : Int)) (EvE.cast (y := toD (((v_bounds_here.length : Nat) : Int) : Int)) (ev_lenL (EvE.r (ev_var rfl) (.lst _))) (by simp [toD, Rp.d])) rfl) ea_nil) rfl ⟨_, _, _, rfl, rfl, hr18, rfl, rfl⟩) (rv_ixL (at_map toD hr19))) rfl) rfl) (eg_sub (p := 0) (xs := [toD ((s11.2).a : Str), toD ((s11.2).b : Int), toD ((s11.2).c : (Int ⊕ Str)), toD ((s11.2).d : (Option (P2 Int Str))), toD ((s11.2).e : (Option Str))]) (n := 4) rfl ev_int rfl))
     (one (es_endN (by repeat first | exact .nil | apply Wk.keep | apply Wk.drop))))))) (fun b20 => (one (es_endN (by repeat first | exact .nil | apply Wk.keep | apply Wk.drop))))) fun s17 _ =>
     (EvS.freeze 3 rfl
     (one (es_ret (ev_var rfl) (wok1 rfl)))))))))))))
noncomputable def fn_amounts  : Option ((List Str)) :=
  some ([("each 1" : Str), ("each 2" : Str), ("each 3" : Str), ("all 1" : Str), ("all 2" : Str), ("all 3" : Str), ("free" : Str), ("again" : Str)] : (List Str))
def pre_amounts : List Ar → D → Prop := fun xs y => ∃ (r : (List Str)), xs = [] ∧ fn_amounts = some r ∧ y = toD r
theorem ok_amounts (M : Ds K mg) (T : Txt K mg) : FnOk P w K mg base CX0 1 M.f_amounts M.fd_amounts P_amounts (spE K pre_amounts) := by
  refine M.D_amounts.fn.ok sc_amounts (fun vs H Q E h => ?_) (fun cdv A outer s H vs Q E hr h => ?_)
  · obtain ⟨F, xs, y, _, ar, pr, _⟩ := h
    obtain ⟨r, rfl, _⟩ := pr
    exact ar.len
  · obtain ⟨F, xs, y, sF, ar, pr, ret⟩ := h
    obtain ⟨r, rfl, hf, rfl⟩ := pr
    refine ⟨_, (pss_cons (ps_ret (pe_lst (pa_cons pe_str (pa_cons pe_str (pa_cons pe_str (pa_cons pe_str (pa_cons pe_str (pa_cons pe_str (pa_cons pe_str (pa_cons pe_str pa_nil))))))))))
     pss_nil), ?_⟩
    unfold fn_amounts at hf
    refine run_rt (Kn := fun y => .rt (toD y) []) sF ar ret ?_ hf rfl
    exact (one (es_ret (EvE.cast (y := toD (([("each 1" : Str), ("each 2" : Str), ("each 3" : Str), ("all 1" : Str), ("all 2" : Str), ("all 3" : Str), ("free" : Str), ("again" : Str)] : (List Str)) : (List Str))) (EvO.e (EvO.cast (y := toD ([("each 1" : Str), ("each 2" : Str), ("each 3" : Str), ("all 1" : Str), ("all 2" : Str), ("all 3" : Str), ("free" : Str), ("again" : Str)] : (List Str))) (evo_lst (ea_cons (EvE.cast (y := toD (("each 1" : Str) : Str)) ev_str rfl) (ea_cons (EvE.cast (y := toD (("each 2" : Str) : Str)) ev_str rfl) (ea_cons (EvE.cast (y := toD (("each 3" : Str) : Str)) ev_str rfl) (ea_cons (EvE.cast (y := toD (("all 1" : Str) : Str)) ev_str rfl) (ea_cons (EvE.cast (y := toD (("all 2" : Str) : Str)) ev_str rfl) (ea_cons (EvE.cast (y := toD (("all 3" : Str) : Str)) ev_str rfl) (ea_cons (EvE.cast (y := toD (("free" : Str) : Str)) ev_str rfl) (ea_cons (EvE.cast (y := toD (("again" : Str) : Str)) ev_str rfl) ea_nil)))))))) (by show 8 ≤ sizeLine; decide)) rfl)) rfl) wok0))
noncomputable def fn_links (v_bag_here : (Q3 Int Int Int)) (v_tags_here : (List Str)) : Option ((List (List Str)) × (Q3 Int Int Int)) :=
  ((fn_take (v_bag_here) ((7 : Int))).bind fun r1 =>
     ((fn_take (r1.2) (((v_tags_here.length : Nat) : Int))).bind fun r2 =>
     (((if (decide (r1.1 = (0 : Int))) = true then (if CMulW ((v_tags_here.length : Nat) : Int) ((v_tags_here.length : Nat) : Int) then some ((((v_tags_here.length : Nat) : Int) * ((v_tags_here.length : Nat) : Int)), r2.2) else none) else ((fn_take (r2.2) ((9 : Int))).bind fun r4 => some (r4.1, r4.2)) : Option (Int × (Q3 Int Int Int)))).bind fun r5 =>
     (if -(2 ^ 62) ≤ r5.1 ∧ r5.1 < 2 ^ 62 then
     ((forS (fun (s9 : (Q3 Int Int Int) × (List (List Str)) × (List (List Str))) (x10 : Int) =>
     ((if (decide (r1.1 = (0 : Int))) = true then (if 0 < ((v_tags_here.length : Nat) : Int) then ((atI v_tags_here ((x10 + r2.1) % ((v_tags_here.length : Nat) : Int))).bind fun r12 => (if CDivW x10 ((v_tags_here.length : Nat) : Int) then ((atI v_tags_here (x10 / ((v_tags_here.length : Nat) : Int))).bind fun r14 => some (some ([r12, r14] : (List Str)) : (Option (List Str)))) else none)) else none) else some (none : (Option (List Str)))).bind fun r16 =>
     (((if ((r16).isNone) = true then
     ((fn_take (s9.1) (((v_tags_here.length : Nat) : Int))).bind fun r18 =>
     ((atI v_tags_here r18.1).bind fun r19 =>
     ((fn_take (r18.2) (((v_tags_here.length : Nat) : Int))).bind fun r20 =>
     ((atI v_tags_here r20.1).bind fun r21 =>
     some (r20.2, (some ([r19, r21] : (List Str)) : (Option (List Str)))))))) else
     some (s9.1, r16)) : Option ((Q3 Int Int Int) × (Option (List Str)))).bind fun (s17 : (Q3 Int Int Int) × (Option (List Str))) =>
     ((s17.2).bind fun r23 =>
     (if EqOk (toD r23) (.lst (List.map toD s9.2.2)) then
     (if (!inD (toD r23) (List.map toD s9.2.2)) = true then
     ((s17.2).bind fun r26 =>
     (if List.length s9.2.2 < sizeLine then
     ((s17.2).bind fun r28 =>
     ((fn_amounts).bind fun r29 =>
     ((fn_take (s17.1) ((8 : Int))).bind fun r30 =>
     ((atI r29 r30.1).bind fun r31 =>
     (if (r28).length + (([r31] : (List Str))).length ≤ sizeLine then
     (if List.length s9.2.1 < sizeLine then
     some (r30.2, (s9.2.1 ++ [(r28 ++ ([r31] : (List Str)))]), (s9.2.2 ++ [r26])) else none) else none))))) else none)) else
     some (s17.1, s9.2.1, s9.2.2)) else none))))) (r5.2, ([] : (List (List Str))), ([] : (List (List Str)))) (rng 0 r5.1)).bind fun (s9 : (Q3 Int Int Int) × (List (List Str)) × (List (List Str))) =>
     some (s9.2.1, s9.1)) else none))))
def pre_links : D → List D → D → D → Prop := fun x xs y x' => ∃ (v_bag_here : (Q3 Int Int Int)) (v_tags_here : (List Str)), ∃ (r : (List (List Str)) × (Q3 Int Int Int)), x = toD v_bag_here ∧ xs = [toD v_tags_here] ∧ fn_links v_bag_here v_tags_here = some r ∧ y = toD r.1 ∧ x' = toD r.2
theorem ok_links (M : Ds K mg) (T : Txt K mg) : FnOk P w K mg base CX0 2 M.f_links M.fd_links P_links (spW K pre_links) := by
  refine M.D_links.fn.ok sc_links (fun vs H Q E h => ?_) (fun cdv A outer s H vs Q E hr h => ?_)
  · obtain ⟨F, a, o, x, xs, vs', y, x', rfl, _, _, _, _, rp, pr, _⟩ := h
    obtain ⟨v_bag_here, v_tags_here, r, rfl, rfl, _⟩ := pr
    exact congrArg Nat.succ rp.len
  · obtain ⟨F, a, o, x, xs, vs', y, x', rfl, sF, fa, ha, ro, rp, pr, ret⟩ := h
    obtain ⟨v_bag_here, v_tags_here, r, rfl, rfl, hf, rfl, rfl⟩ := pr
    skip
    refine ⟨_, (pss_cons (ps_par3 (i := 2) (j := 3) (l := 4) (by rfl) sc_links.nd rfl rfl rfl (by decide) (by decide) (by decide) rfl rfl rfl (pa_cons (pe_lst pa_nil) (pa_cons (pe_lst pa_nil) (pa_cons (pe_callB (show CallR _ (.builtin "len") (rLen1 K) from call_len_seq) (by rfl) T.len (by decide +kernel) (pa_cons (pv 1) pa_nil)) pa_nil))) (by rfl))
     (pss_cons (ps_par (i := 5) (j := 6) (by rfl) sc_links.nd rfl rfl (by decide) rfl rfl (pa_cons (pe_cmpR op_eq (pe_call (ok_take M T) (hr.mono (by decide)) rfl M.D_take.mg M.D_take.fn.kp M.D_take.bd .nil pass0 (pa_cons (pv 0) (pa_cons pe_int pa_nil))) pe_int (nomark _)) (pa_cons (pe_call (ok_take M T) (hr.mono (by decide)) rfl M.D_take.mg M.D_take.fn.kp M.D_take.bd .nil pass0 (pa_cons (pv 0) (pa_cons (pv 4) pa_nil))) pa_nil)) (by rfl))
     (pss_cons (ps_for PassesOwn.never rfl (pi_range1 (by rfl) T.range (pa_cons (pe_ifExp (pt_val (pv 5)) (pe_op op_mulW (pv 4) (pv 4)) (pe_call (ok_take M T) (hr.mono (by decide)) rfl M.D_take.mg M.D_take.fn.kp M.D_take.bd .nil pass0 (pa_cons (pv 0) (pa_cons pe_int pa_nil)))) pa_nil)) (pg_name (i := 7) sc_links.nd rfl (.inl rfl))
     (pss_cons (ps_asg (pe_ifExp (pt_val (pv 5)) (pe_lst (pa_cons (pe_ix (show IxR _ (rIxL K) from ix_list) (pv 1) (pe_op op_mod (pe_callTy call_int1 (by rfl) T.int (by decide +kernel) (pa_cons (pe_op op_add (pv 7) (pv 6)) pa_nil)) (pv 4)) (fun _ _ => rfl)) (pa_cons (pe_ix (show IxR _ (rIxL K) from ix_list) (pv 1) (pe_op op_fdivW (pv 7) (pv 4)) (fun _ _ => rfl)) pa_nil))) pe_non) (pg_name (i := 8) sc_links.nd rfl (.inl rfl)))
     (pss_cons (ps_if (pt_cmpR op_isN (pv 8) pe_non (nomark _))
     (pss_cons (ps_asg (pe_lst (pa_cons (pe_ix (show IxR _ (rIxL K) from ix_list) (pv 1) (pe_call (ok_take M T) (hr.mono (by decide)) rfl M.D_take.mg M.D_take.fn.kp M.D_take.bd .nil pass0 (pa_cons (pv 0) (pa_cons (pv 4) pa_nil))) (fun _ _ => rfl)) (pa_cons (pe_ix (show IxR _ (rIxL K) from ix_list) (pv 1) (pe_call (ok_take M T) (hr.mono (by decide)) rfl M.D_take.mg M.D_take.fn.kp M.D_take.bd .nil pass0 (pa_cons (pv 0) (pa_cons (pv 4) pa_nil))) (fun _ _ => rfl)) pa_nil))) (pg_name (i := 8) sc_links.nd rfl (.inl rfl)))
     pss_nil)
     pss_nil)
     (pss_cons (ps_if (pt_cmpR (op_notInD (units65 hr)) (pv 8) (pv 3) (by rfl))
     (pss_cons (ps_expr (pe_bm PySem.F.plainAttrs_list PySem.F.slot_list_append PySem.F.type_list_append mt_append (pv 3) (pa_cons (pv 8) pa_nil)))
     (pss_cons (ps_expr (pe_bm PySem.F.plainAttrs_list PySem.F.slot_list_append PySem.F.type_list_append mt_append (pv 2) (pa_cons (pe_op op_cat (pv 8) (pe_lst (pa_cons (pe_ix (show IxR _ (rIxL K) from ix_list) (pe_call0 (ok_amounts M T) (hr.mono (by decide)) rfl M.D_amounts.mg M.D_amounts.fn.kp M.D_amounts.bd .nil pass0) (pe_call (ok_take M T) (hr.mono (by decide)) rfl M.D_take.mg M.D_take.fn.kp M.D_take.bd .nil pass0 (pa_cons (pv 0) (pa_cons pe_int pa_nil))) (fun _ _ => rfl)) pa_nil))) pa_nil)))
     pss_nil))
     pss_nil)
     pss_nil))))
     (pss_cons (ps_ret (pv 2))
     pss_nil)))), ?_⟩
    unfold fn_links at hf
    refine run_W (Kn := fun p => .rt (toD p.1) [(0, toD p.2)]) sF fa ha ro rp ret ?_ hf rfl
    exact (es_seq (Γ1 := [.own 1 (toD v_bag_here), .d (toD v_tags_here), .own 0 (toD (([] : (List (List Str))) : (List (List Str)))), .own 0 (toD (([] : (List (List Str))) : (List (List Str)))), .d (toD (((v_tags_here.length : Nat) : Int) : Int)), .u, .u, .u, .u]) (es_par3OOE (by decide) (EvO.cast (y := toD ([] : (List (List Str)))) (evo_lst ea_nil (by show 0 ≤ sizeLine; decide)) rfl) (fun _ => (EvO.cast (y := toD ([] : (List (List Str)))) (evo_lst ea_nil (by show 0 ≤ sizeLine; decide)) rfl)) rfl (fun _ => (EvE.cast (y := toD (((v_tags_here.length : Nat) : Int) : Int)) (EvE.cast (y := toD (((v_tags_here.length : Nat) : Int) : Int)) (ev_lenL (EvE.r (ev_var rfl) (.lst _))) (by simp [toD, Rp.d])) rfl)) rfl)
     (bnd fun r1 hr1 =>
     (bnd fun r2 hr2 =>
     (es_seq (Γ1 := [.own 1 (toD r2.2), .d (toD v_tags_here), .own 0 (toD (([] : (List (List Str))) : (List (List Str)))), .own 0 (toD (([] : (List (List Str))) : (List (List Str)))), .d (toD (((v_tags_here.length : Nat) : Int) : Int)), .d (toD ((decide (r1.1 = (0 : Int))) : Bool)), .d (toD r2.1), .u, .u]) (es_par (ea_cons (EvE.cast (y := toD ((decide (r1.1 = (0 : Int))) : Bool)) (ev_op (EvE.cast (y := toD r1.1) (ev_callW (p := 1) rfl (ea_cons (EvE.cast (y := toD ((7 : Int) : Int)) ev_int rfl) ea_nil) rfl ⟨_, _, _, rfl, rfl, hr1, rfl, rfl⟩) rfl) (EvE.cast (y := toD ((0 : Int) : Int)) ev_int rfl) rv_eqI) rfl) (ea_cons (EvE.cast (y := toD r2.1) (ev_callW (p := 1) rfl (ea_cons (EvE.cast (y := toD (((v_tags_here.length : Nat) : Int) : Int)) (ev_var rfl) rfl) ea_nil) rfl ⟨_, _, _, rfl, rfl, hr2, rfl, rfl⟩) rfl) ea_nil)))
     (bnd fun r5 hr5 =>
     (grd fun h8 =>
     (es_join (G := fun (s9 : (Q3 Int Int Int) × (List (List Str)) × (List (List Str))) => [.own 1 (toD s9.1), .d (toD v_tags_here), .own 0 (toD s9.2.1), .own 0 (toD s9.2.2), .d (toD (((v_tags_here.length : Nat) : Int) : Int)), .d (toD ((decide (r1.1 = (0 : Int))) : Bool)), .d (toD r2.1), .u, .u]) (es_forS (fD := toD) (G := fun (s9 : (Q3 Int Int Int) × (List (List Str)) × (List (List Str))) => [.own 1 (toD s9.1), .d (toD v_tags_here), .own 0 (toD s9.2.1), .own 0 (toD s9.2.2), .d (toD (((v_tags_here.length : Nat) : Int) : Int)), .d (toD ((decide (r1.1 = (0 : Int))) : Bool)), .d (toD r2.1), .u, .u]) (G' := fun (s9 : (Q3 Int Int Int) × (List (List Str)) × (List (List Str))) (x10 : Int) => [.own 1 (toD s9.1), .d (toD v_tags_here), .own 0 (toD s9.2.1), .own 0 (toD s9.2.2), .d (toD (((v_tags_here.length : Nat) : Int) : Int)), .d (toD ((decide (r1.1 = (0 : Int))) : Bool)), .d (toD r2.1), .d (toD x10), .u]) (ei_range1 (ev_ifM (φ := fun (k6 : Int × (Q3 Int Int Int)) => toD k6.1) (ψ := fun (k6 : Int × (Q3 Int Int Int)) => [.own 1 (toD k6.2), .d (toD v_tags_here), .own 0 (toD (([] : (List (List Str))) : (List (List Str)))), .own 0 (toD (([] : (List (List Str))) : (List (List Str)))), .d (toD (((v_tags_here.length : Nat) : Int) : Int)), .d (toD ((decide (r1.1 = (0 : Int))) : Bool)), .d (toD r2.1), .u, .u]) hr5 (et_b (ev_var rfl)) (fun b7 => (fun _ e0 => by obtain ⟨h3, e0⟩ := ite_some e0; exact (by have e0 := Option.some.inj e0; subst e0; exact (EvE.cast (y := toD ((((v_tags_here.length : Nat) : Int) * ((v_tags_here.length : Nat) : Int)) : Int)) (ev_op (ev_var rfl) (ev_var rfl) (rv_mul h3)) rfl)))) (fun b7 => (fun _ e0 => by obtain ⟨r4, hr4, e0⟩ := bind_some e0; exact (by have e0 := Option.some.inj e0; subst e0; exact (EvE.cast (y := toD r4.1) (ev_callW (p := 1) rfl (ea_cons (EvE.cast (y := toD ((9 : Int) : Int)) ev_int rfl) ea_nil) rfl ⟨_, _, _, rfl, rfl, hr4, rfl, rfl⟩) rfl))))) h8) (by repeat first | exact .nil | apply Wk.keep | apply Wk.drop) (fun s9 x10 => eg_name) (fun s9 x10 =>
     (bnd fun r16 hr16 =>
     (es_seq (Γ1 := [.own 1 (toD s9.1), .d (toD v_tags_here), .own 0 (toD s9.2.1), .own 0 (toD s9.2.2), .d (toD (((v_tags_here.length : Nat) : Int) : Int)), .d (toD ((decide (r1.1 = (0 : Int))) : Bool)), .d (toD r2.1), .d (toD x10), .d (toD r16)]) (es_asg (EvE.cast (y := toD r16) (ev_ifM1 hr16 (et_b (ev_var rfl)) (fun b15 => (fun _ e0 => by obtain ⟨h11, e0⟩ := ite_some e0; exact (by obtain ⟨r12, hr12, e0⟩ := bind_some e0; exact (by obtain ⟨h13, e0⟩ := ite_some e0; exact (by obtain ⟨r14, hr14, e0⟩ := bind_some e0; exact (by have e0 := Option.some.inj e0; subst e0; exact (EvE.cast (y := toD ((some ([r12, r14] : (List Str)) : (Option (List Str))) : (Option (List Str)))) (EvE.cast (y := toD (some ([r12, r14] : (List Str)) : (Option (List Str)))) (EvO.e (EvO.cast (y := toD ([r12, r14] : (List Str))) (evo_lst (ea_cons (EvE.cast (y := toD r12) (ev_op (ev_var rfl) (ev_op (ev_int1 (ev_op (ev_var rfl) (ev_var rfl) rv_I0)) (ev_var rfl) (rv_mod h11)) (rv_ixL (at_map toD hr12))) rfl) (ea_cons (EvE.cast (y := toD r14) (ev_op (ev_var rfl) (ev_op (ev_var rfl) (ev_var rfl) (rv_div h13)) (rv_ixL (at_map toD hr14))) rfl) ea_nil)) (by show 2 ≤ sizeLine; decide)) rfl)) rfl) rfl))))))) (fun b15 => (fun _ e0 => by have e0 := Option.some.inj e0; subst e0; exact (EvE.cast (y := toD ((none : (Option (List Str))) : (Option (List Str)))) (EvE.cast (y := toD none) ev_non rfl) rfl)))) rfl) eg_name)
     (es_join (G := fun (s17 : (Q3 Int Int Int) × (Option (List Str))) => [.own 1 (toD s17.1), .d (toD v_tags_here), .own 0 (toD s9.2.1), .own 0 (toD s9.2.2), .d (toD (((v_tags_here.length : Nat) : Int) : Int)), .d (toD ((decide (r1.1 = (0 : Int))) : Bool)), .d (toD r2.1), .d (toD x10), .d (toD s17.2)]) (es_if (Γ1 := [.own 1 (toD s9.1), .d (toD v_tags_here), .own 0 (toD s9.2.1), .own 0 (toD s9.2.2), .d (toD (((v_tags_here.length : Nat) : Int) : Int)), .d (toD ((decide (r1.1 = (0 : Int))) : Bool)), .d (toD r2.1), .d (toD x10), .d (toD r16)]) (et_test (ev_isN (ev_var rfl))) (fun b22 => (bnd fun r18 hr18 =>
     (bnd fun r19 hr19 =>
     (bnd fun r20 hr20 =>
     (bnd fun r21 hr21 =>
     (es_seq (Γ1 := [.own 1 (toD r20.2), .d (toD v_tags_here), .own 0 (toD s9.2.1), .own 0 (toD s9.2.2), .d (toD (((v_tags_here.length : Nat) : Int) : Int)), .d (toD ((decide (r1.1 = (0 : Int))) : Bool)), .d (toD r2.1), .d (toD x10), .d (toD ((some ([r19, r21] : (List Str)) : (Option (List Str))) : (Option (List Str))))]) (es_asg (EvE.cast (y := toD ((some ([r19, r21] : (List Str)) : (Option (List Str))) : (Option (List Str)))) (EvE.cast (y := toD (some ([r19, r21] : (List Str)) : (Option (List Str)))) (EvO.e (EvO.cast (y := toD ([r19, r21] : (List Str))) (evo_lst (ea_cons (EvE.cast (y := toD r19) (ev_op (ev_var rfl) (ev_callW (p := 1) rfl (ea_cons (EvE.cast (y := toD (((v_tags_here.length : Nat) : Int) : Int)) (ev_var rfl) rfl) ea_nil) rfl ⟨_, _, _, rfl, rfl, hr18, rfl, rfl⟩) (rv_ixL (at_map toD hr19))) rfl) (ea_cons (EvE.cast (y := toD r21) (ev_op (ev_var rfl) (ev_callW (p := 1) rfl (ea_cons (EvE.cast (y := toD (((v_tags_here.length : Nat) : Int) : Int)) (ev_var rfl) rfl) ea_nil) rfl ⟨_, _, _, rfl, rfl, hr20, rfl, rfl⟩) (rv_ixL (at_map toD hr21))) rfl) ea_nil)) (by show 2 ≤ sizeLine; decide)) rfl)) rfl) rfl) eg_name)
     (one (es_endN (by repeat first | exact .nil | apply Wk.keep | apply Wk.drop))))))))) (fun b22 => (one (es_endN (by repeat first | exact .nil | apply Wk.keep | apply Wk.drop))))) fun s17 _ =>
     (bnd fun r23 hr23 =>
     (grd fun h24 =>
     (es_ifq (Γ1 := [.own 1 (toD s17.1), .d (toD v_tags_here), .own 0 (toD s9.2.1), .own 0 (toD s9.2.2), .d (toD (((v_tags_here.length : Nat) : Int) : Int)), .d (toD ((decide (r1.1 = (0 : Int))) : Bool)), .d (toD r2.1), .d (toD x10), .d (toD s17.2)]) (et_test (ev_notInD (EvE.cast (y := toD r23) (EvE.cast (y := toD r23) (ev_var rfl) (by rw [hr23]; rfl)) rfl) (evr_var (x := toD s9.2.2) (by first | exact .o 0 rfl | exact .d rfl) (.lst _)) h24))
     (fun b25 => (es_assoc
     (bnd fun r26 hr26 =>
     (grd fun h27 =>
     (es_seq (Γ1 := [.own 1 (toD s17.1), .d (toD v_tags_here), .own 0 (toD s9.2.1), .own 0 (toD ((s9.2.2 ++ [r26]) : (List (List Str)))), .d (toD (((v_tags_here.length : Nat) : Int) : Int)), .d (toD ((decide (r1.1 = (0 : Int))) : Bool)), .d (toD r2.1), .d (toD x10), .d (toD s17.2)]) (EvS1.cast (es_append (i := 3) (xs := List.map toD s9.2.2) rfl (EvE.cast (y := toD r26) (EvE.cast (y := toD r26) (ev_var rfl) (by rw [hr26]; rfl)) rfl) rfl (by simpa using h27)) (by simp [toD, Rp.d]))
     (es_assoc
     (bnd fun r28 hr28 =>
     (bnd fun r29 hr29 =>
     (bnd fun r30 hr30 =>
     (bnd fun r31 hr31 =>
     (grd fun h32 =>
     (grd fun h33 =>
     (es_seq (Γ1 := [.own 1 (toD r30.2), .d (toD v_tags_here), .own 0 (toD ((s9.2.1 ++ [(r28 ++ ([r31] : (List Str)))]) : (List (List Str)))), .own 0 (toD ((s9.2.2 ++ [r26]) : (List (List Str)))), .d (toD (((v_tags_here.length : Nat) : Int) : Int)), .d (toD ((decide (r1.1 = (0 : Int))) : Bool)), .d (toD r2.1), .d (toD x10), .d (toD s17.2)]) (EvS1.cast (es_append (i := 2) (xs := List.map toD s9.2.1) rfl (EvE.cast (y := toD ((r28 ++ ([r31] : (List Str))) : (List Str))) (EvO.e (EvO.cast (y := toD ((r28 ++ ([r31] : (List Str))) : (List Str))) (evo_cat (EvE.cast (y := toD r28) (EvE.cast (y := toD r28) (ev_var rfl) (by rw [hr28]; rfl)) rfl) (EvE.r (EvE.cast (y := toD (([r31] : (List Str)) : (List Str))) (EvO.e (EvO.cast (y := toD ([r31] : (List Str))) (evo_lst (ea_cons (EvE.cast (y := toD r31) (ev_op (EvE.cast (y := toD r29) (ev_call ap_nil ⟨_, rfl, hr29, rfl⟩) rfl) (ev_callW (p := 1) rfl (ea_cons (EvE.cast (y := toD ((8 : Int) : Int)) ev_int rfl) ea_nil) rfl ⟨_, _, _, rfl, rfl, hr30, rfl, rfl⟩) (rv_ixL (at_map toD hr31))) rfl) ea_nil) (by show 1 ≤ sizeLine; decide)) rfl)) rfl) (.lst _)) (by simpa using h32)) (by simp [toD, Rp.d]))) rfl) rfl (by simpa using h33)) (by simp [toD, Rp.d]))
     (es_skip
     (one (es_end (by repeat first | exact .nil | apply Wk.keep | apply Wk.drop)))))))))))))))))
     (fun b25 => (es_skip
     (one (es_end (by repeat first | exact .nil | apply Wk.keep | apply Wk.drop))))))))))))) fun s9 _ =>
     (EvS.freeze 2 rfl
     (one (es_ret (ev_var rfl) (wok1 rfl)))))))))))
end L
namespace L
open PySem L2 Hv Ev
variable {P : Program} {w : World} {K : PySem.W.Frag} {mg : Str → Option Value} {base : Heap}
noncomputable def fn_book (v_bag_here : (Q3 Int Int Int)) (v_bounds_here : (List Str)) : Option ((Q2 (List (Q5 Str Int (Int ⊕ Str) (Option (P2 Int Str)) (Option Str))) (List (List Str))) × (Q3 Int Int Int)) :=
  ((fn_take (v_bag_here) ((6 : Int))).bind fun r1 =>
     ((fn_tags (r1.2) (((1 : Int) + r1.1))).bind fun r2 =>
     (if List.length r2.1 ≤ sizeLine then
     ((lcS (fun (s7 : (Q3 Int Int Int)) (x8 : Str) => ((fn_kind (s7) (x8) (v_bounds_here)).bind fun r9 => some ((some r9.1, r9.2) : Option (Q5 Str Int (Int ⊕ Str) (Option (P2 Int Str)) (Option Str)) × (Q3 Int Int Int)))) r2.2 r2.1).bind fun r10 =>
     ((fn_links (r10.2) (r2.1)).bind fun r11 =>
     some ((⟨r10.1, r11.1⟩ : (Q2 (List (Q5 Str Int (Int ⊕ Str) (Option (P2 Int Str)) (Option Str))) (List (List Str)))), r11.2))) else none)))
def pre_book : D → List D → D → D → Prop := fun x xs y x' => ∃ (v_bag_here : (Q3 Int Int Int)) (v_bounds_here : (List Str)), ∃ (r : (Q2 (List (Q5 Str Int (Int ⊕ Str) (Option (P2 Int Str)) (Option Str))) (List (List Str))) × (Q3 Int Int Int)), x = toD v_bag_here ∧ xs = [toD v_bounds_here] ∧ fn_book v_bag_here v_bounds_here = some r ∧ y = toD r.1 ∧ x' = toD r.2
theorem ok_book (M : Ds K mg) (T : Txt K mg) : FnOk P w K mg base CX0 4 M.f_book M.fd_book P_book (spW K pre_book) := by
  refine M.D_book.fn.ok sc_book (fun vs H Q E h => ?_) (fun cdv A outer s H vs Q E hr h => ?_)
  · obtain ⟨F, a, o, x, xs, vs', y, x', rfl, _, _, _, _, rp, pr, _⟩ := h
    obtain ⟨v_bag_here, v_bounds_here, r, rfl, rfl, _⟩ := pr
    exact congrArg Nat.succ rp.len
  · obtain ⟨F, a, o, x, xs, vs', y, x', rfl, sF, fa, ha, ro, rp, pr, ret⟩ := h
    obtain ⟨v_bag_here, v_bounds_here, r, rfl, rfl, hf, rfl, rfl⟩ := pr
    skip
    refine ⟨_, (pss_cons (ps_asg (pe_call (ok_tags M T) (hr.mono (by decide)) rfl M.D_tags.mg M.D_tags.fn.kp M.D_tags.bd .nil pass0 (pa_cons (pv 0) (pa_cons (pe_op op_add pe_int (pe_call (ok_take M T) (hr.mono (by decide)) rfl M.D_take.mg M.D_take.fn.kp M.D_take.bd .nil pass0 (pa_cons (pv 0) (pa_cons pe_int pa_nil)))) pa_nil))) (pg_name (i := 2) sc_book.nd rfl (.inl rfl)))
     (pss_cons (ps_ret (pe_lst (pa_cons (pe_lc (own := [("_law_tag_here", 3)]) (g := gName 3) rfl sc_book.nd (show PI _ _ _ (iList K _) from pi_list (pv 2)) (blkOk_by (own := [("_law_tag_here", 3)]) (N := N_book) (sc := defScope s_book) (by decide +kernel)) (fun _ _ _ _ _ => (pg_name (i := 3) sc_book.nd rfl (.inl rfl))) (fun _ _ _ _ _ => pts_nil) (fun _ _ _ _ _ => (pe_call (ok_kind M T) (hr.mono (by decide)) rfl M.D_kind.mg M.D_kind.fn.kp M.D_kind.bd .nil pass0 (pa_cons (pv 0) (pa_cons (pv 3) (pa_cons (pv 1) pa_nil)))))) (pa_cons (pe_call (ok_links M T) (hr.mono (by decide)) rfl M.D_links.mg M.D_links.fn.kp M.D_links.bd .nil pass0 (pa_cons (pv 0) (pa_cons (pv 2) pa_nil))) pa_nil))))
     pss_nil)), ?_⟩
    unfold fn_book at hf
    refine run_W (Kn := fun p => .rt (toD p.1) [(0, toD p.2)]) sF fa ha ro rp ret ?_ hf rfl
    exact (bnd fun r1 hr1 =>
     (bnd fun r2 hr2 =>
     (es_seq (Γ1 := [.own 1 (toD r2.2), .d (toD v_bounds_here), .d (toD r2.1), .u]) (es_asg (EvE.cast (y := toD r2.1) (ev_callW (p := 1) rfl (ea_cons (EvE.cast (y := toD (((1 : Int) + r1.1) : Int)) (ev_op ev_int (ev_callW (p := 1) rfl (ea_cons (EvE.cast (y := toD ((6 : Int) : Int)) ev_int rfl) ea_nil) rfl ⟨_, _, _, rfl, rfl, hr1, rfl, rfl⟩) rv_I0) rfl) ea_nil) rfl ⟨_, _, _, rfl, rfl, hr2, rfl, rfl⟩) rfl) eg_name)
     (grd fun h3 =>
     (bnd fun r10 hr10 =>
     (bnd fun r11 hr11 =>
     (one (es_ret (EvE.cast (y := toD ((⟨r10.1, r11.1⟩ : (Q2 (List (Q5 Str Int (Int ⊕ Str) (Option (P2 Int Str)) (Option Str))) (List (List Str)))) : (Q2 (List (Q5 Str Int (Int ⊕ Str) (Option (P2 Int Str)) (Option Str))) (List (List Str))))) (EvO.e (EvO.cast (y := toD (⟨r10.1, r11.1⟩ : (Q2 (List (Q5 Str Int (Int ⊕ Str) (Option (P2 Int Str)) (Option Str))) (List (List Str))))) (evo_lst (ea_cons (EvE.cast (y := toD r10.1) (EvO.e (EvO.cast (y := toD r10.1) (evo_lcS (fD := toD) (gD := toD) (G := fun (s7 : (Q3 Int Int Int)) => [.own 1 (toD s7), .d (toD v_bounds_here), .d (toD r2.1), .u]) (G1 := fun (s7 : (Q3 Int Int Int)) (x8 : Str) => [.own 1 (toD s7), .d (toD v_bounds_here), .d (toD r2.1), .d (toD x8)]) hr10 h3 (ei_list (ev_var rfl)) (by repeat first | exact .nil | apply Wk.keep | apply Wk.drop) (fun _ => off_of rfl) (fun _ => rfl) (fun _ s7 x8 => (egw_name (by decide))) (fun _ s7 x8 _ e0 => by obtain ⟨r9, hr9, e0⟩ := bind_some e0; exact (by have e0 := Option.some.inj e0; subst e0; exact ⟨_, et_yes, (fun z => by cases z), fun _ ey => by have ey := Option.some.inj ey; subst ey; exact ⟨_, (EvE.cast (y := toD r9.1) (ev_callW (p := 1) rfl (ea_cons (ev_var rfl) (ea_cons (ev_var rfl) ea_nil)) rfl ⟨_, _, _, _, rfl, rfl, hr9, rfl, rfl⟩) rfl), (by repeat first | exact .nil | apply Wk.keep | apply Wk.drop)⟩⟩))) rfl)) rfl) (ea_cons (EvE.cast (y := toD r11.1) (ev_callW (p := 1) rfl (ea_cons (ev_var rfl) ea_nil) rfl ⟨_, _, _, rfl, rfl, hr11, rfl, rfl⟩) rfl) ea_nil)) (by show 2 ≤ sizeLine; decide)) rfl)) rfl) (wok1 rfl)))))))))
noncomputable def fn_kind_line (v_made : (Q5 Str Int (Int ⊕ Str) (Option (P2 Int Str)) (Option Str))) : Option (Str) :=
  (if Str.length ("motion " : Str) + Str.length (v_made).a ≤ sizeLine then
     (((if (decide ((0 : Int) < (v_made).b)) = true then
     (if Str.length (("motion " : Str) ++ (v_made).a) + Str.length (" talks " : Str) ≤ sizeLine then
     (if ((v_made).b).natAbs.log2 < 1920 then
     (if Str.length ((("motion " : Str) ++ (v_made).a) ++ (" talks " : Str)) + Str.length (strI (v_made).b) ≤ sizeLine then
     some (((("motion " : Str) ++ (v_made).a) ++ (" talks " : Str)) ++ (strI (v_made).b)) else none) else none) else none) else
     some (("motion " : Str) ++ (v_made).a)) : Option (Str)).bind fun (s2 : Str) =>
     (if ((getL (v_made).c).getD 0).natAbs.log2 < 1920 then
     (((if (!decide ((strE (v_made).c) = ("1" : Str))) = true then
     (if Str.length s2 + Str.length (" needs " : Str) ≤ sizeLine then
     (if ((getL (v_made).c).getD 0).natAbs.log2 < 1920 then
     (if Str.length (s2 ++ (" needs " : Str)) + Str.length (strE (v_made).c) ≤ sizeLine then
     some ((s2 ++ (" needs " : Str)) ++ (strE (v_made).c)) else none) else none) else none) else
     some s2) : Option (Str)).bind fun (s8 : Str) =>
     (((if (!((v_made).d).isNone) = true then
     (if Str.length s8 + Str.length (" closed after " : Str) ≤ sizeLine then
     ((((v_made).d : (Option (P2 Int Str)))).bind fun r15 =>
     (if ((r15).a).natAbs.log2 < 1920 then
     (if Str.length (s8 ++ (" closed after " : Str)) + Str.length (strI (r15).a) ≤ sizeLine then
     (if Str.length ((s8 ++ (" closed after " : Str)) ++ (strI (r15).a)) + Str.length (" by " : Str) ≤ sizeLine then
     ((((v_made).d : (Option (P2 Int Str)))).bind fun r19 =>
     (if Str.length (((s8 ++ (" closed after " : Str)) ++ (strI (r15).a)) ++ (" by " : Str)) + Str.length (r19).b ≤ sizeLine then
     some ((((s8 ++ (" closed after " : Str)) ++ (strI (r15).a)) ++ (" by " : Str)) ++ (r19).b) else none)) else none) else none) else none)) else none) else
     some s8) : Option (Str)).bind fun (s13 : Str) =>
     ((if (((v_made).e).isNone) = true then some s13 else (if Str.length s13 + Str.length (" ends by " : Str) ≤ sizeLine then ((((v_made).e : (Option Str))).bind fun r23 => (if Str.length (s13 ++ (" ends by " : Str)) + Str.length r23 ≤ sizeLine then some ((s13 ++ (" ends by " : Str)) ++ r23) else none)) else none)).bind fun r26 =>
     some r26))) else none)) else none)
def pre_kind_line : List Ar → D → Prop := fun xs y => ∃ (v_made : (Q5 Str Int (Int ⊕ Str) (Option (P2 Int Str)) (Option Str))) (r : Str), xs = [.k (toD v_made)] ∧ fn_kind_line v_made = some r ∧ y = toD r
theorem ok_kind_line (M : Ds K mg) (T : Txt K mg) : FnOk P w K mg base CX0 1 M.f_kind_line M.fd_kind_line P_kind_line (spE K pre_kind_line) := by
  refine M.D_kind_line.fn.ok sc_kind_line (fun vs H Q E h => ?_) (fun cdv A outer s H vs Q E hr h => ?_)
  · obtain ⟨F, xs, y, _, ar, pr, _⟩ := h
    obtain ⟨v_made, r, rfl, _⟩ := pr
    exact ar.len
  · obtain ⟨F, xs, y, sF, ar, pr, ret⟩ := h
    obtain ⟨v_made, r, rfl, hf, rfl⟩ := pr
    refine ⟨_, (pss_cons (ps_asg (pe_op op_add_str pe_str (pe_ix (show IxR _ (rIxL K) from ix_list) (pv 0) pe_int (fun _ _ => rfl))) (pg_name (i := 1) sc_kind_line.nd rfl (.inl rfl)))
     (pss_cons (ps_if (pt_cmpR op_gt (pe_ix (show IxR _ (rIxL K) from ix_list) (pv 0) pe_int (fun _ _ => rfl)) pe_int (nomark _))
     (pss_cons (ps_asg (pe_op op_add_str (pe_op op_add_str (pv 1) pe_str) (pe_callTy call_str_int (by rfl) T.str (by decide +kernel) (pa_cons (pe_ix (show IxR _ (rIxL K) from ix_list) (pv 0) pe_int (fun _ _ => rfl)) pa_nil))) (pg_name (i := 1) sc_kind_line.nd rfl (.inl rfl)))
     pss_nil)
     pss_nil)
     (pss_cons (ps_if (pt_cmpR op_ne (pe_callTy Hv.call_strA (by rfl) T.str (by decide +kernel) (pa_cons (pe_ix (show IxR _ (rIxL K) from ix_list) (pv 0) pe_int (fun _ _ => rfl)) pa_nil)) pe_str (nomark _))
     (pss_cons (ps_asg (pe_op op_add_str (pe_op op_add_str (pv 1) pe_str) (pe_callTy Hv.call_strA (by rfl) T.str (by decide +kernel) (pa_cons (pe_ix (show IxR _ (rIxL K) from ix_list) (pv 0) pe_int (fun _ _ => rfl)) pa_nil))) (pg_name (i := 1) sc_kind_line.nd rfl (.inl rfl)))
     pss_nil)
     pss_nil)
     (pss_cons (ps_if (pt_cmpR op_notN (pe_ix (show IxR _ (rIxL K) from ix_list) (pv 0) pe_int (fun _ _ => rfl)) pe_non (nomark _))
     (pss_cons (ps_asg (pe_op op_add_str (pe_op op_add_str (pe_op op_add_str (pe_op op_add_str (pv 1) pe_str) (pe_callTy call_str_int (by rfl) T.str (by decide +kernel) (pa_cons (pe_ix (show IxR _ (rIxT K) from ix_tup) (pe_ix (show IxR _ (rIxL K) from ix_list) (pv 0) pe_int (fun _ _ => rfl)) pe_int (fun _ _ => rfl)) pa_nil))) pe_str) (pe_ix (show IxR _ (rIxT K) from ix_tup) (pe_ix (show IxR _ (rIxL K) from ix_list) (pv 0) pe_int (fun _ _ => rfl)) pe_int (fun _ _ => rfl))) (pg_name (i := 1) sc_kind_line.nd rfl (.inl rfl)))
     pss_nil)
     pss_nil)
     (pss_cons (ps_ret (pe_ifExp (pt_cmpR op_isN (pe_ix (show IxR _ (rIxL K) from ix_list) (pv 0) pe_int (fun _ _ => rfl)) pe_non (nomark _)) (pv 1) (pe_op op_add_str (pe_op op_add_str (pv 1) pe_str) (pe_ix (show IxR _ (rIxL K) from ix_list) (pv 0) pe_int (fun _ _ => rfl)))))
     pss_nil))))), ?_⟩
    unfold fn_kind_line at hf
    refine run_rt (Kn := fun y => .rt (toD y) []) sF ar ret ?_ hf rfl
    exact (grd fun h1 =>
     (es_seq (Γ1 := [.d (toD v_made), .d (toD ((("motion " : Str) ++ (v_made).a) : Str))]) (es_asg (EvE.cast (y := toD ((("motion " : Str) ++ (v_made).a) : Str)) (ev_op ev_str (EvE.cast (y := toD ((v_made).a : Str)) (ev_op (ev_var rfl) ev_int (rv_ixL rfl)) rfl) (rv_addS h1)) rfl) eg_name)
     (es_join (G := fun (s2 : Str) => [.d (toD v_made), .d (toD s2)]) (es_if (Γ1 := [.d (toD v_made), .d (toD ((("motion " : Str) ++ (v_made).a) : Str))]) (et_test (ev_op (EvE.cast (y := toD ((v_made).b : Int)) (EvE.cast (y := toD ((v_made).b : Int)) (ev_op (ev_var rfl) ev_int (rv_ixL rfl)) rfl) rfl) (EvE.cast (y := toD ((0 : Int) : Int)) ev_int rfl) rv_B0)) (fun b6 => (grd fun h3 =>
     (grd fun h4 =>
     (grd fun h5 =>
     (es_seq (Γ1 := [.d (toD v_made), .d (toD ((((("motion " : Str) ++ (v_made).a) ++ (" talks " : Str)) ++ (strI (v_made).b)) : Str))]) (es_asg (EvE.cast (y := toD ((((("motion " : Str) ++ (v_made).a) ++ (" talks " : Str)) ++ (strI (v_made).b)) : Str)) (ev_op (ev_op (ev_var rfl) ev_str (rv_addS h3)) (EvE.cast (y := toD (strI (v_made).b)) (ev_strI (EvE.cast (y := toD ((v_made).b : Int)) (ev_op (ev_var rfl) ev_int (rv_ixL rfl)) rfl) h4) rfl) (rv_addS h5)) rfl) eg_name)
     (one (es_endN (by repeat first | exact .nil | apply Wk.keep | apply Wk.drop)))))))) (fun b6 => (one (es_endN (by repeat first | exact .nil | apply Wk.keep | apply Wk.drop))))) fun s2 _ =>
     (grd fun h7 =>
     (es_join (G := fun (s8 : Str) => [.d (toD v_made), .d (toD s8)]) (es_if (Γ1 := [.d (toD v_made), .d (toD s2)]) (et_test (ev_op (EvE.cast (y := toD ((strE (v_made).c) : Str)) (EvE.cast (y := toD (strE (v_made).c)) (ev_strE (EvE.cast (y := toD ((v_made).c : (Int ⊕ Str))) (EvE.cast (y := toD ((v_made).c : (Int ⊕ Str))) (ev_op (ev_var rfl) ev_int (rv_ixL rfl)) rfl) rfl) h7) rfl) rfl) (EvE.cast (y := toD (("1" : Str) : Str)) ev_str rfl) rv_neS)) (fun b12 => (grd fun h9 =>
     (grd fun h10 =>
     (grd fun h11 =>
     (es_seq (Γ1 := [.d (toD v_made), .d (toD (((s2 ++ (" needs " : Str)) ++ (strE (v_made).c)) : Str))]) (es_asg (EvE.cast (y := toD (((s2 ++ (" needs " : Str)) ++ (strE (v_made).c)) : Str)) (ev_op (ev_op (ev_var rfl) ev_str (rv_addS h9)) (EvE.cast (y := toD (strE (v_made).c)) (ev_strE (EvE.cast (y := toD ((v_made).c : (Int ⊕ Str))) (EvE.cast (y := toD ((v_made).c : (Int ⊕ Str))) (ev_op (ev_var rfl) ev_int (rv_ixL rfl)) rfl) rfl) h10) rfl) (rv_addS h11)) rfl) eg_name)
     (one (es_endN (by repeat first | exact .nil | apply Wk.keep | apply Wk.drop)))))))) (fun b12 => (one (es_endN (by repeat first | exact .nil | apply Wk.keep | apply Wk.drop))))) fun s8 _ =>
     (es_join (G := fun (s13 : Str) => [.d (toD v_made), .d (toD s13)]) (es_if (Γ1 := [.d (toD v_made), .d (toD s8)]) (et_test (ev_notN (EvE.cast (y := toD ((v_made).d : (Option (P2 Int Str)))) (EvE.cast (y := toD ((v_made).d : (Option (P2 Int Str)))) (ev_op (ev_var rfl) ev_int (rv_ixL rfl)) rfl) rfl))) (fun b21 => (grd fun h14 =>
     (bnd fun r15 hr15 =>
     (grd fun h16 =>
     (grd fun h17 =>
     (grd fun h18 =>
     (bnd fun r19 hr19 =>
     (grd fun h20 =>
     (es_seq (Γ1 := [.d (toD v_made), .d (toD (((((s8 ++ (" closed after " : Str)) ++ (strI (r15).a)) ++ (" by " : Str)) ++ (r19).b) : Str))]) (es_asg (EvE.cast (y := toD (((((s8 ++ (" closed after " : Str)) ++ (strI (r15).a)) ++ (" by " : Str)) ++ (r19).b) : Str)) (ev_op (ev_op (ev_op (ev_op (ev_var rfl) ev_str (rv_addS h14)) (EvE.cast (y := toD (strI (r15).a)) (ev_strI (EvE.cast (y := toD ((r15).a : Int)) (ev_op (EvE.cast (y := toD r15) (EvE.cast (y := toD r15) (EvE.cast (y := toD ((v_made).d : (Option (P2 Int Str)))) (EvE.cast (y := toD ((v_made).d : (Option (P2 Int Str)))) (ev_op (ev_var rfl) ev_int (rv_ixL rfl)) rfl) rfl) (by rw [hr15]; rfl)) rfl) ev_int (rv_ixT rfl)) rfl) h16) rfl) (rv_addS h17)) ev_str (rv_addS h18)) (EvE.cast (y := toD ((r19).b : Str)) (ev_op (EvE.cast (y := toD r19) (EvE.cast (y := toD r19) (EvE.cast (y := toD ((v_made).d : (Option (P2 Int Str)))) (EvE.cast (y := toD ((v_made).d : (Option (P2 Int Str)))) (ev_op (ev_var rfl) ev_int (rv_ixL rfl)) rfl) rfl) (by rw [hr19]; rfl)) rfl) ev_int (rv_ixT rfl)) rfl) (rv_addS h20)) rfl) eg_name)
     (one (es_endN (by repeat first | exact .nil | apply Wk.keep | apply Wk.drop)))))))))))) (fun b21 => (one (es_endN (by repeat first | exact .nil | apply Wk.keep | apply Wk.drop))))) fun s13 _ =>
     (bnd fun r26 hr26 =>
     (one (es_ret (EvE.cast (y := toD r26) (ev_ifM1 hr26 (et_test (ev_isN (EvE.cast (y := toD ((v_made).e : (Option Str))) (EvE.cast (y := toD ((v_made).e : (Option Str))) (ev_op (ev_var rfl) ev_int (rv_ixL rfl)) rfl) rfl))) (fun b25 => (fun _ e0 => by have e0 := Option.some.inj e0; subst e0; exact (ev_var rfl))) (fun b25 => (fun _ e0 => by obtain ⟨h22, e0⟩ := ite_some e0; exact (by obtain ⟨r23, hr23, e0⟩ := bind_some e0; exact (by obtain ⟨h24, e0⟩ := ite_some e0; exact (by have e0 := Option.some.inj e0; subst e0; exact (EvE.cast (y := toD (((s13 ++ (" ends by " : Str)) ++ r23) : Str)) (ev_op (ev_op (ev_var rfl) ev_str (rv_addS h22)) (EvE.cast (y := toD r23) (EvE.cast (y := toD ((v_made).e : (Option Str))) (EvE.cast (y := toD ((v_made).e : (Option Str))) (ev_op (ev_var rfl) ev_int (rv_ixL rfl)) rfl) rfl) (by rw [hr23]; rfl)) (rv_addS h24)) rfl))))))) rfl) wok0)))))))))
noncomputable def fn_lines (v_book_here : (Q2 (List (Q5 Str Int (Int ⊕ Str) (Option (P2 Int Str)) (Option Str))) (List (List Str)))) : Option ((List Str)) :=
  (if List.length (v_book_here).a ≤ sizeLine then
     ((lcO (fun (x2 : (Q5 Str Int (Int ⊕ Str) (Option (P2 Int Str)) (Option Str))) => ((fn_kind_line (x2)).bind fun r3 => some (some r3))) (v_book_here).a).bind fun r5 =>
     (if List.length (v_book_here).b ≤ sizeLine then
     ((lcO (fun (x7 : (List Str)) => (if (List.map (fun x => Str.length x) x7).sum + List.length x7 * Str.length (" " : Str) ≤ 16777216 then (if Str.length ("under " : Str) + Str.length (PySem.Txt.join (" " : Str) x7) ≤ sizeLine then some (some (("under " : Str) ++ (PySem.Txt.join (" " : Str) x7))) else none) else none)) (v_book_here).b).bind fun r11 =>
     (if (r5).length + (r11).length ≤ sizeLine then
     some (r5 ++ r11) else none)) else none)) else none)
def pre_lines : List Ar → D → Prop := fun xs y => ∃ (v_book_here : (Q2 (List (Q5 Str Int (Int ⊕ Str) (Option (P2 Int Str)) (Option Str))) (List (List Str)))) (r : (List Str)), xs = [.k (toD v_book_here)] ∧ fn_lines v_book_here = some r ∧ y = toD r
theorem ok_lines (M : Ds K mg) (T : Txt K mg) : FnOk P w K mg base CX0 2 M.f_lines M.fd_lines P_lines (spE K pre_lines) := by
  refine M.D_lines.fn.ok sc_lines (fun vs H Q E h => ?_) (fun cdv A outer s H vs Q E hr h => ?_)
  · obtain ⟨F, xs, y, _, ar, pr, _⟩ := h
    obtain ⟨v_book_here, r, rfl, _⟩ := pr
    exact ar.len
  · obtain ⟨F, xs, y, sF, ar, pr, ret⟩ := h
    obtain ⟨v_book_here, r, rfl, hf, rfl⟩ := pr
    refine ⟨_, (pss_cons (ps_ret (pe_op op_cat (pe_lc (own := [("_law_made", 1)]) (g := gName 1) rfl sc_lines.nd (show PI _ _ _ (iList K _) from pi_list (pe_ix (show IxR _ (rIxL K) from ix_list) (pv 0) pe_int (fun _ _ => rfl))) (blkOk_by (own := [("_law_made", 1)]) (N := N_lines) (sc := defScope s_lines) (by decide +kernel)) (fun _ _ _ _ _ => (pg_name (i := 1) sc_lines.nd rfl (.inl rfl))) (fun _ _ _ _ _ => pts_nil) (fun _ _ _ _ _ => (pe_call (ok_kind_line M T) (hr.mono (by decide)) rfl M.D_kind_line.mg M.D_kind_line.fn.kp M.D_kind_line.bd .nil pass0 (pa_cons (pv 1) pa_nil)))) (pe_lc (own := [("_law_link", 2)]) (g := gName 2) rfl sc_lines.nd (show PI _ _ _ (iList K _) from pi_list (pe_ix (show IxR _ (rIxL K) from ix_list) (pv 0) pe_int (fun _ _ => rfl))) (blkOk_by (own := [("_law_link", 2)]) (N := N_lines) (sc := defScope s_lines) (by decide +kernel)) (fun _ _ _ _ _ => (pg_name (i := 2) sc_lines.nd rfl (.inl rfl))) (fun _ _ _ _ _ => pts_nil) (fun _ _ _ _ _ => (pe_op op_add_str pe_str (show PE _ _ (tM1 (jnR K) _ _) from pe_join pe_str (pv 2)))))))
     pss_nil), ?_⟩
    unfold fn_lines at hf
    refine run_rt (Kn := fun y => .rt (toD y) []) sF ar ret ?_ hf rfl
    exact (grd fun h1 =>
     (bnd fun r5 hr5 =>
     (grd fun h6 =>
     (bnd fun r11 hr11 =>
     (grd fun h12 =>
     (one (es_ret (EvE.cast (y := toD ((r5 ++ r11) : (List Str))) (EvO.e (EvO.cast (y := toD ((r5 ++ r11) : (List Str))) (evo_cat (EvE.cast (y := toD r5) (EvO.e (EvO.cast (y := toD r5) (evo_lcO (fD := toD) (gD := toD) (Γ2 := [.d (toD v_book_here), .u, .u]) (G1 := fun (x2 : (Q5 Str Int (Int ⊕ Str) (Option (P2 Int Str)) (Option Str))) => [.d (toD v_book_here), .d (toD x2), .u]) hr5 h1 (ei_list (EvE.cast (y := toD ((v_book_here).a : (List (Q5 Str Int (Int ⊕ Str) (Option (P2 Int Str)) (Option Str))))) (EvE.cast (y := toD ((v_book_here).a : (List (Q5 Str Int (Int ⊕ Str) (Option (P2 Int Str)) (Option Str))))) (ev_op (ev_var rfl) ev_int (rv_ixL rfl)) rfl) rfl)) (by repeat first | exact .nil | apply Wk.keep | apply Wk.drop) (off_of rfl) (fun _ x2 => (egw_name (by decide))) (fun _ x2 _ e0 => by obtain ⟨r3, hr3, e0⟩ := bind_some e0; exact (by have e0 := Option.some.inj e0; subst e0; exact ⟨et_yes, fun _ ey => by have ey := Option.some.inj ey; subst ey; exact (EvE.cast (y := toD r3) (ev_call (ap_k (ev_var rfl) ap_nil) ⟨_, _, rfl, hr3, rfl⟩) rfl)⟩)) (fun x2 => by repeat first | exact .nil | apply Wk.keep | apply Wk.drop)) rfl)) rfl) (EvE.r (EvE.cast (y := toD r11) (EvO.e (EvO.cast (y := toD r11) (evo_lcO (fD := toD) (gD := toD) (Γ2 := [.d (toD v_book_here), .u, .u]) (G1 := fun (x7 : (List Str)) => [.d (toD v_book_here), .u, .d (toD x7)]) hr11 h6 (ei_list (EvE.cast (y := toD ((v_book_here).b : (List (List Str)))) (EvE.cast (y := toD ((v_book_here).b : (List (List Str)))) (ev_op (ev_var rfl) ev_int (rv_ixL rfl)) rfl) rfl)) (by repeat first | exact .nil | apply Wk.keep | apply Wk.drop) (off_of rfl) (fun _ x7 => (egw_name (by decide))) (fun _ x7 _ e0 => by obtain ⟨h8, e0⟩ := ite_some e0; exact (by obtain ⟨h9, e0⟩ := ite_some e0; exact (by have e0 := Option.some.inj e0; subst e0; exact ⟨et_yes, fun _ ey => by have ey := Option.some.inj ey; subst ey; exact (EvE.cast (y := toD ((("under " : Str) ++ (PySem.Txt.join (" " : Str) x7)) : Str)) (ev_op ev_str (ev_join (ys := x7) ev_str (EvE.r (ev_var rfl) (.lst _)) h8) (rv_addS h9)) rfl)⟩))) (fun x7 => by repeat first | exact .nil | apply Wk.keep | apply Wk.drop)) rfl)) rfl) (.lst _)) (by simpa using h12)) (by simp [toD, Rp.d]))) rfl) wok0)))))))
noncomputable def fn_rules (v_book_here : (Q2 (List (Q5 Str Int (Int ⊕ Str) (Option (P2 Int Str)) (Option Str))) (List (List Str)))) : Option (Ev.Rules) :=
  (if List.length (v_book_here).a ≤ sizeLine then
     ((lcO (fun (x2 : (Q5 Str Int (Int ⊕ Str) (Option (P2 Int Str)) (Option Str))) => ((fn_Kind_init ((x2).a) ((x2).b) ((x2).c) ((x2).d) ((x2).e)).bind fun r3 => some (some r3))) (v_book_here).a).bind fun r5 =>
     (if List.length (v_book_here).b ≤ sizeLine then
     ((lcO (fun (x7 : (List Str)) => ((atI x7 (0 : Int)).bind fun r8 => ((atI x7 (1 : Int)).bind fun r9 => ((atI x7 (2 : Int)).bind fun r10 => ((fn_Row_init (r8) (r9) (r10)).bind fun r11 => some (some r11)))))) (v_book_here).b).bind fun r13 =>
     ((fn_Rules_init ((⟨r5⟩ : (Tp Ev.Kind))) ((⟨r13⟩ : (Tp Ev.Row)))).bind fun r14 =>
     some r14)) else none)) else none)
def pre_rules : List Ar → D → Prop := fun xs y => ∃ (v_book_here : (Q2 (List (Q5 Str Int (Int ⊕ Str) (Option (P2 Int Str)) (Option Str))) (List (List Str)))) (r : Ev.Rules), xs = [.k (toD v_book_here)] ∧ fn_rules v_book_here = some r ∧ y = toD r
theorem ok_rules (M : Ds K mg) (T : Txt K mg) : FnOk P w K mg base CX0 7 M.f_rules M.fd_rules P_rules (spE K pre_rules) := by
  refine M.D_rules.fn.ok sc_rules (fun vs H Q E h => ?_) (fun cdv A outer s H vs Q E hr h => ?_)
  · obtain ⟨F, xs, y, _, ar, pr, _⟩ := h
    obtain ⟨v_book_here, r, rfl, _⟩ := pr
    exact ar.len
  · obtain ⟨F, xs, y, sF, ar, pr, ret⟩ := h
    obtain ⟨v_book_here, r, rfl, hf, rfl⟩ := pr
    refine ⟨_, (pss_cons (ps_setLc (i := 1) (own := [("_law_made", 2)]) (g := gName 2) rfl sc_rules.nd rfl rfl (sw_true rfl rfl rfl (by decide +kernel)) (show PI _ _ _ (iList K _) from pi_list (pe_ix (show IxR _ (rIxL K) from ix_list) (pv 0) pe_int (fun _ _ => rfl))) (blkOk_by (own := [("_law_made", 2)]) (N := N_rules) (sc := defScope s_rules) (by decide +kernel)) (fun _ _ _ _ _ => (pg_name (i := 2) sc_rules.nd rfl (.inl rfl))) (fun _ _ _ _ _ => pts_nil) (fun _ _ _ _ _ => (pe_makeK M.D_Kind_init.make (ok_Kind_init M T) (hr.mono (by decide)) rfl T.mg_Kind (kb_Kind_talks_needs_closing_ends M.D_Kind_init.fn).choose_spec pass0 (pa_cons (pe_ix (show IxR _ (rIxL K) from ix_list) (pv 2) pe_int (fun _ _ => rfl)) pa_nil) (pk_cons (pe_ix (show IxR _ (rIxL K) from ix_list) (pv 2) pe_int (fun _ _ => rfl)) (pk_cons (pe_ix (show IxR _ (rIxL K) from ix_list) (pv 2) pe_int (fun _ _ => rfl)) (pk_cons (pe_ix (show IxR _ (rIxL K) from ix_list) (pv 2) pe_int (fun _ _ => rfl)) (pk_cons (pe_ix (show IxR _ (rIxL K) from ix_list) (pv 2) pe_int (fun _ _ => rfl)) pk_nil)))))))
     (pss_cons (ps_ret (pe_make M.D_Rules_init.make (ok_Rules_init M T) (hr.mono (by decide)) rfl T.mg_Rules M.D_Rules_init.bd .nil pass0 (pa_cons (pe_callTy (show CallR _ (.type "tuple") (rTup1 K) from call_tuple_of) (by rfl) T.tuple (by decide +kernel) (pa_cons (pv 1) pa_nil)) (pa_cons (pe_callTy (show CallR _ (.type "tuple") (rTup1 K) from call_tuple_of) (by rfl) T.tuple (by decide +kernel) (pa_cons (pe_lc (own := [("_law_link", 3)]) (g := gName 3) rfl sc_rules.nd (show PI _ _ _ (iList K _) from pi_list (pe_ix (show IxR _ (rIxL K) from ix_list) (pv 0) pe_int (fun _ _ => rfl))) (blkOk_by (own := [("_law_link", 3)]) (N := N_rules) (sc := defScope s_rules) (by decide +kernel)) (fun _ _ _ _ _ => (pg_name (i := 3) sc_rules.nd rfl (.inl rfl))) (fun _ _ _ _ _ => pts_nil) (fun _ _ _ _ _ => (pe_make M.D_Row_init.make (ok_Row_init M T) (hr.mono (by decide)) rfl T.mg_Row M.D_Row_init.bd .nil pass0 (pa_cons (pe_ix (show IxR _ (rIxL K) from ix_list) (pv 3) pe_int (fun _ _ => rfl)) (pa_cons (pe_ix (show IxR _ (rIxL K) from ix_list) (pv 3) pe_int (fun _ _ => rfl)) (pa_cons (pe_ix (show IxR _ (rIxL K) from ix_list) (pv 3) pe_int (fun _ _ => rfl)) pa_nil)))))) pa_nil)) pa_nil))))
     pss_nil)), ?_⟩
    unfold fn_rules at hf
    refine run_rt (Kn := fun y => .rt (toD y) []) sF ar ret ?_ hf rfl
    exact (grd fun h1 =>
     (bnd fun r5 hr5 =>
     (es_seq (Γ1 := [.d (toD v_book_here), .own 0 (toD r5), .u, .u]) (es_asgO (EvO.cast (y := toD r5) (evo_lcO (fD := toD) (gD := toD) (Γ2 := [.d (toD v_book_here), .u, .u, .u]) (G1 := fun (x2 : (Q5 Str Int (Int ⊕ Str) (Option (P2 Int Str)) (Option Str))) => [.d (toD v_book_here), .u, .d (toD x2), .u]) hr5 h1 (ei_list (EvE.cast (y := toD ((v_book_here).a : (List (Q5 Str Int (Int ⊕ Str) (Option (P2 Int Str)) (Option Str))))) (EvE.cast (y := toD ((v_book_here).a : (List (Q5 Str Int (Int ⊕ Str) (Option (P2 Int Str)) (Option Str))))) (ev_op (ev_var rfl) ev_int (rv_ixL rfl)) rfl) rfl)) (by repeat first | exact .nil | apply Wk.keep | apply Wk.drop) (off_of rfl) (fun _ x2 => (egw_name (by decide))) (fun _ x2 _ e0 => by obtain ⟨r3, hr3, e0⟩ := bind_some e0; exact (by have e0 := Option.some.inj e0; subst e0; exact ⟨et_yes, fun _ ey => by have ey := Option.some.inj ey; subst ey; exact (EvE.cast (y := toD r3) (EvE.cast (y := toD r3) (ev_makeK2 (c := "Kind") (ws := [toD ((x2).b : Int), toD ((x2).c : (Int ⊕ Str)), toD ((x2).d : (Option (P2 Int Str))), toD ((x2).e : (Option Str))]) (ea_cons (EvE.cast (y := toD ((x2).a : Str)) (EvE.cast (y := toD ((x2).a : Str)) (ev_op (ev_var rfl) ev_int (rv_ixL rfl)) rfl) rfl) ea_nil) (ea_cons (EvE.cast (y := toD ((x2).b : Int)) (EvE.cast (y := toD ((x2).b : Int)) (ev_op (ev_var rfl) ev_int (rv_ixL rfl)) rfl) rfl) (ea_cons (EvE.cast (y := toD ((x2).c : (Int ⊕ Str))) (EvE.cast (y := toD ((x2).c : (Int ⊕ Str))) (ev_op (ev_var rfl) ev_int (rv_ixL rfl)) rfl) rfl) (ea_cons (EvE.cast (y := toD ((x2).d : (Option (P2 Int Str)))) (EvE.cast (y := toD ((x2).d : (Option (P2 Int Str)))) (ev_op (ev_var rfl) ev_int (rv_ixL rfl)) rfl) rfl) (ea_cons (EvE.cast (y := toD ((x2).e : (Option Str))) (EvE.cast (y := toD ((x2).e : (Option Str))) (ev_op (ev_var rfl) ev_int (rv_ixL rfl)) rfl) rfl) ea_nil)))) rfl rfl (fun _ _ _ _ h => by obtain _ | ⟨k0, h⟩ := h; obtain _ | ⟨k1, h⟩ := h; obtain _ | ⟨k2, h⟩ := h; obtain _ | ⟨k3, h⟩ := h; cases h; exact ⟨_, rfl, (.cons k0 (.cons k1 (.cons k2 (.cons k3 .nil))))⟩) ⟨_, _, _, _, _, _, rfl, rfl, hr3, rfl, rfl⟩) rfl) rfl)⟩)) (fun x2 => by repeat first | exact .nil | apply Wk.keep | apply Wk.drop)) rfl))
     (grd fun h6 =>
     (bnd fun r13 hr13 =>
     (bnd fun r14 hr14 =>
     (one (es_ret (EvE.cast (y := toD r14) (EvE.cast (y := toD r14) (ev_make (c := "Rules") (ea_cons (EvE.cast (y := toD ((⟨r5⟩ : (Tp Ev.Kind)) : (Tp Ev.Kind))) (EvE.cast (y := toD (⟨r5⟩ : (Tp Ev.Kind))) (ev_tuple (evr_var (x := toD r5) (by first | exact .o 0 rfl | exact .d rfl) (.lst _))) rfl) rfl) (ea_cons (EvE.cast (y := toD ((⟨r13⟩ : (Tp Ev.Row)) : (Tp Ev.Row))) (EvE.cast (y := toD (⟨r13⟩ : (Tp Ev.Row))) (ev_tuple (EvE.r (EvE.cast (y := toD r13) (EvO.e (EvO.cast (y := toD r13) (evo_lcO (fD := toD) (gD := toD) (Γ2 := [.d (toD v_book_here), .own 0 (toD r5), .u, .u]) (G1 := fun (x7 : (List Str)) => [.d (toD v_book_here), .own 0 (toD r5), .u, .d (toD x7)]) hr13 h6 (ei_list (EvE.cast (y := toD ((v_book_here).b : (List (List Str)))) (EvE.cast (y := toD ((v_book_here).b : (List (List Str)))) (ev_op (ev_var rfl) ev_int (rv_ixL rfl)) rfl) rfl)) (by repeat first | exact .nil | apply Wk.keep | apply Wk.drop) (off_of rfl) (fun _ x7 => (egw_name (by decide))) (fun _ x7 _ e0 => by obtain ⟨r8, hr8, e0⟩ := bind_some e0; exact (by obtain ⟨r9, hr9, e0⟩ := bind_some e0; exact (by obtain ⟨r10, hr10, e0⟩ := bind_some e0; exact (by obtain ⟨r11, hr11, e0⟩ := bind_some e0; exact (by have e0 := Option.some.inj e0; subst e0; exact ⟨et_yes, fun _ ey => by have ey := Option.some.inj ey; subst ey; exact (EvE.cast (y := toD r11) (EvE.cast (y := toD r11) (ev_make (c := "Row") (ea_cons (EvE.cast (y := toD r8) (ev_op (ev_var rfl) ev_int (rv_ixL (at_map toD hr8))) rfl) (ea_cons (EvE.cast (y := toD r9) (ev_op (ev_var rfl) ev_int (rv_ixL (at_map toD hr9))) rfl) (ea_cons (EvE.cast (y := toD r10) (ev_op (ev_var rfl) ev_int (rv_ixL (at_map toD hr10))) rfl) ea_nil))) ⟨_, _, _, _, rfl, rfl, hr11, rfl, rfl⟩) rfl) rfl)⟩))))) (fun x7 => by repeat first | exact .nil | apply Wk.keep | apply Wk.drop)) rfl)) rfl) (.lst _))) rfl) rfl) ea_nil)) ⟨_, _, _, rfl, rfl, hr14, rfl, rfl⟩) rfl) rfl) wok0))))))))
noncomputable def fn_seen (v_mine : Ev.Rules) : Option ((Q3 (List (Q5 Str Int (Int ⊕ Str) (Option (P2 Int Str)) (Option Str))) (List (List Str)) Bool)) :=
  (if List.length ((Ev.Rules.kinds (v_mine))).l ≤ sizeLine then
     (if List.length ((Ev.Rules.rows (v_mine))).l ≤ sizeLine then
     some (⟨(List.map (fun (x2 : Ev.Kind) => (⟨(Ev.Kind.name (x2)), (Ev.Kind.talks (x2)), (Ev.Kind.needs (x2)), (Ev.Kind.closing (x2)), (Ev.Kind.ends (x2))⟩ : (Q5 Str Int (Int ⊕ Str) (Option (P2 Int Str)) (Option Str)))) ((Ev.Rules.kinds (v_mine))).l), (List.map (fun (x5 : Ev.Row) => ([(Ev.Row.outer (x5)), (Ev.Row.inner (x5)), (Ev.Row.amount (x5))] : (List Str))) ((Ev.Rules.rows (v_mine))).l), (true && true)⟩ : (Q3 (List (Q5 Str Int (Int ⊕ Str) (Option (P2 Int Str)) (Option Str))) (List (List Str)) Bool)) else none) else none)
def pre_seen : List Ar → D → Prop := fun xs y => ∃ (v_mine : Ev.Rules) (r : (Q3 (List (Q5 Str Int (Int ⊕ Str) (Option (P2 Int Str)) (Option Str))) (List (List Str)) Bool)), xs = [.k (toD v_mine)] ∧ fn_seen v_mine = some r ∧ y = toD r
theorem ok_seen (M : Ds K mg) (T : Txt K mg) : FnOk P w K mg base CX0 3 M.f_seen M.fd_seen P_seen (spE K pre_seen) := by
  refine M.D_seen.fn.ok sc_seen (fun vs H Q E h => ?_) (fun cdv A outer s H vs Q E hr h => ?_)
  · obtain ⟨F, xs, y, _, ar, pr, _⟩ := h
    obtain ⟨v_mine, r, rfl, _⟩ := pr
    exact ar.len
  · obtain ⟨F, xs, y, sF, ar, pr, ret⟩ := h
    obtain ⟨v_mine, r, rfl, hf, rfl⟩ := pr
    refine ⟨_, (pss_cons (ps_setLc (i := 1) (own := [("_law_one", 3)]) (g := gName 3) rfl sc_seen.nd rfl rfl (sw_true rfl rfl rfl (by decide +kernel)) (show PI _ _ _ (iTup K _) from pi_tup (pe_propD (pv 0) T.cl_Rules M.D_Rules_kinds.pr (ok_Rules_kinds M T) M.D_Rules_kinds.bd (hr.mono (by decide)))) (blkOk_by (own := [("_law_one", 3)]) (N := N_seen) (sc := defScope s_seen) (by decide +kernel)) (fun _ _ _ _ _ => (pg_name (i := 3) sc_seen.nd rfl (.inl rfl))) (fun _ _ _ _ _ => pts_nil) (fun _ _ _ _ _ => (pe_lst (pa_cons (pe_propD (pv 3) T.cl_Kind M.D_Kind_name.pr (ok_Kind_name M T) M.D_Kind_name.bd (hr.mono (by decide))) (pa_cons (pe_propD (pv 3) T.cl_Kind M.D_Kind_talks.pr (ok_Kind_talks M T) M.D_Kind_talks.bd (hr.mono (by decide))) (pa_cons (pe_propD (pv 3) T.cl_Kind M.D_Kind_needs.pr (ok_Kind_needs M T) M.D_Kind_needs.bd (hr.mono (by decide))) (pa_cons (pe_propD (pv 3) T.cl_Kind M.D_Kind_closing.pr (ok_Kind_closing M T) M.D_Kind_closing.bd (hr.mono (by decide))) (pa_cons (pe_propD (pv 3) T.cl_Kind M.D_Kind_ends.pr (ok_Kind_ends M T) M.D_Kind_ends.bd (hr.mono (by decide))) pa_nil))))))))
     (pss_cons (ps_setLc (i := 2) (own := [("_law_one", 3)]) (g := gName 3) rfl sc_seen.nd rfl rfl (sw_true rfl rfl rfl (by decide +kernel)) (show PI _ _ _ (iTup K _) from pi_tup (pe_propD (pv 0) T.cl_Rules M.D_Rules_rows.pr (ok_Rules_rows M T) M.D_Rules_rows.bd (hr.mono (by decide)))) (blkOk_by (own := [("_law_one", 3)]) (N := N_seen) (sc := defScope s_seen) (by decide +kernel)) (fun _ _ _ _ _ => (pg_name (i := 3) sc_seen.nd rfl (.inl rfl))) (fun _ _ _ _ _ => pts_nil) (fun _ _ _ _ _ => (pe_lst (pa_cons (pe_propD (pv 3) T.cl_Row M.D_Row_outer.pr (ok_Row_outer M T) M.D_Row_outer.bd (hr.mono (by decide))) (pa_cons (pe_propD (pv 3) T.cl_Row M.D_Row_inner.pr (ok_Row_inner M T) M.D_Row_inner.bd (hr.mono (by decide))) (pa_cons (pe_propD (pv 3) T.cl_Row M.D_Row_amount.pr (ok_Row_amount M T) M.D_Row_amount.bd (hr.mono (by decide))) pa_nil))))))
     (pss_cons (ps_ret (pe_lst (pa_cons (pv 1) (pa_cons (pv 2) (pa_cons (pe_and (pe_callB (show CallR _ (.builtin "isinstance") (rIsi K) from call_isi) (by rfl) T.isinstance (by decide +kernel) (pa_cons (pe_propD (pv 0) T.cl_Rules M.D_Rules_kinds.pr (ok_Rules_kinds M T) M.D_Rules_kinds.bd (hr.mono (by decide))) (pa_cons (pe_bltn (v := .ty "tuple") (u := .type "tuple") (by rfl) T.tuple (by decide +kernel) rfl) pa_nil))) (pe_one (pe_callB (show CallR _ (.builtin "isinstance") (rIsi K) from call_isi) (by rfl) T.isinstance (by decide +kernel) (pa_cons (pe_propD (pv 0) T.cl_Rules M.D_Rules_rows.pr (ok_Rules_rows M T) M.D_Rules_rows.bd (hr.mono (by decide))) (pa_cons (pe_bltn (v := .ty "tuple") (u := .type "tuple") (by rfl) T.tuple (by decide +kernel) rfl) pa_nil))))) pa_nil)))))
     pss_nil))), ?_⟩
    unfold fn_seen at hf
    refine run_rt (Kn := fun y => .rt (toD y) []) sF ar ret ?_ hf rfl
    exact (grd fun h1 =>
     (es_seq (Γ1 := [.d (toD v_mine), .own 0 (toD ((List.map (fun (x2 : Ev.Kind) => (⟨(Ev.Kind.name (x2)), (Ev.Kind.talks (x2)), (Ev.Kind.needs (x2)), (Ev.Kind.closing (x2)), (Ev.Kind.ends (x2))⟩ : (Q5 Str Int (Int ⊕ Str) (Option (P2 Int Str)) (Option Str)))) ((Ev.Rules.kinds (v_mine))).l) : (List (Q5 Str Int (Int ⊕ Str) (Option (P2 Int Str)) (Option Str))))), .u, .u]) (es_asgO (EvO.cast (y := toD ((List.map (fun (x2 : Ev.Kind) => (⟨(Ev.Kind.name (x2)), (Ev.Kind.talks (x2)), (Ev.Kind.needs (x2)), (Ev.Kind.closing (x2)), (Ev.Kind.ends (x2))⟩ : (Q5 Str Int (Int ⊕ Str) (Option (P2 Int Str)) (Option Str)))) ((Ev.Rules.kinds (v_mine))).l) : (List (Q5 Str Int (Int ⊕ Str) (Option (P2 Int Str)) (Option Str))))) (evo_lcP (fD := toD) (gD := toD) (c := (fun (x2 : Ev.Kind) => true)) (f := (fun (x2 : Ev.Kind) => (⟨(Ev.Kind.name (x2)), (Ev.Kind.talks (x2)), (Ev.Kind.needs (x2)), (Ev.Kind.closing (x2)), (Ev.Kind.ends (x2))⟩ : (Q5 Str Int (Int ⊕ Str) (Option (P2 Int Str)) (Option Str))))) (Γ2 := [.d (toD v_mine), .u, .u, .u]) (G1 := fun (x2 : Ev.Kind) => [.d (toD v_mine), .u, .u, .d (toD x2)]) h1 (ei_tup (EvE.cast (y := toD ((Ev.Rules.kinds (v_mine)) : (Tp Ev.Kind))) (ev_prop (c := "Rules") (ev_var rfl) ⟨_, rfl, rfl⟩) rfl)) (by repeat first | exact .nil | apply Wk.keep | apply Wk.drop) (off_of rfl) (fun _ x2 => (egw_name (by decide))) (fun _ x2 => et_yes) (fun _ x2 b3 => (EvE.cast (y := toD ((⟨(Ev.Kind.name (x2)), (Ev.Kind.talks (x2)), (Ev.Kind.needs (x2)), (Ev.Kind.closing (x2)), (Ev.Kind.ends (x2))⟩ : (Q5 Str Int (Int ⊕ Str) (Option (P2 Int Str)) (Option Str))) : (Q5 Str Int (Int ⊕ Str) (Option (P2 Int Str)) (Option Str)))) (EvO.e (EvO.cast (y := toD (⟨(Ev.Kind.name (x2)), (Ev.Kind.talks (x2)), (Ev.Kind.needs (x2)), (Ev.Kind.closing (x2)), (Ev.Kind.ends (x2))⟩ : (Q5 Str Int (Int ⊕ Str) (Option (P2 Int Str)) (Option Str)))) (evo_lst (ea_cons (EvE.cast (y := toD ((Ev.Kind.name (x2)) : Str)) (ev_prop (c := "Kind") (ev_var rfl) ⟨_, rfl, rfl⟩) rfl) (ea_cons (EvE.cast (y := toD ((Ev.Kind.talks (x2)) : Int)) (ev_prop (c := "Kind") (ev_var rfl) ⟨_, rfl, rfl⟩) rfl) (ea_cons (EvE.cast (y := toD ((Ev.Kind.needs (x2)) : (Int ⊕ Str))) (ev_prop (c := "Kind") (ev_var rfl) ⟨_, rfl, rfl⟩) rfl) (ea_cons (EvE.cast (y := toD ((Ev.Kind.closing (x2)) : (Option (P2 Int Str)))) (ev_prop (c := "Kind") (ev_var rfl) ⟨_, rfl, rfl⟩) rfl) (ea_cons (EvE.cast (y := toD ((Ev.Kind.ends (x2)) : (Option Str))) (ev_prop (c := "Kind") (ev_var rfl) ⟨_, rfl, rfl⟩) rfl) ea_nil))))) (by show 5 ≤ sizeLine; decide)) rfl)) rfl)) (fun x2 => by repeat first | exact .nil | apply Wk.keep | apply Wk.drop)) (by rw [filter_true] <;> rfl)))
     (grd fun h4 =>
     (es_seq (Γ1 := [.d (toD v_mine), .own 0 (toD ((List.map (fun (x2 : Ev.Kind) => (⟨(Ev.Kind.name (x2)), (Ev.Kind.talks (x2)), (Ev.Kind.needs (x2)), (Ev.Kind.closing (x2)), (Ev.Kind.ends (x2))⟩ : (Q5 Str Int (Int ⊕ Str) (Option (P2 Int Str)) (Option Str)))) ((Ev.Rules.kinds (v_mine))).l) : (List (Q5 Str Int (Int ⊕ Str) (Option (P2 Int Str)) (Option Str))))), .own 0 (toD ((List.map (fun (x5 : Ev.Row) => ([(Ev.Row.outer (x5)), (Ev.Row.inner (x5)), (Ev.Row.amount (x5))] : (List Str))) ((Ev.Rules.rows (v_mine))).l) : (List (List Str)))), .u]) (es_asgO (EvO.cast (y := toD ((List.map (fun (x5 : Ev.Row) => ([(Ev.Row.outer (x5)), (Ev.Row.inner (x5)), (Ev.Row.amount (x5))] : (List Str))) ((Ev.Rules.rows (v_mine))).l) : (List (List Str)))) (evo_lcP (fD := toD) (gD := toD) (c := (fun (x5 : Ev.Row) => true)) (f := (fun (x5 : Ev.Row) => ([(Ev.Row.outer (x5)), (Ev.Row.inner (x5)), (Ev.Row.amount (x5))] : (List Str)))) (Γ2 := [.d (toD v_mine), .own 0 (toD ((List.map (fun (x2 : Ev.Kind) => (⟨(Ev.Kind.name (x2)), (Ev.Kind.talks (x2)), (Ev.Kind.needs (x2)), (Ev.Kind.closing (x2)), (Ev.Kind.ends (x2))⟩ : (Q5 Str Int (Int ⊕ Str) (Option (P2 Int Str)) (Option Str)))) ((Ev.Rules.kinds (v_mine))).l) : (List (Q5 Str Int (Int ⊕ Str) (Option (P2 Int Str)) (Option Str))))), .u, .u]) (G1 := fun (x5 : Ev.Row) => [.d (toD v_mine), .own 0 (toD ((List.map (fun (x2 : Ev.Kind) => (⟨(Ev.Kind.name (x2)), (Ev.Kind.talks (x2)), (Ev.Kind.needs (x2)), (Ev.Kind.closing (x2)), (Ev.Kind.ends (x2))⟩ : (Q5 Str Int (Int ⊕ Str) (Option (P2 Int Str)) (Option Str)))) ((Ev.Rules.kinds (v_mine))).l) : (List (Q5 Str Int (Int ⊕ Str) (Option (P2 Int Str)) (Option Str))))), .u, .d (toD x5)]) h4 (ei_tup (EvE.cast (y := toD ((Ev.Rules.rows (v_mine)) : (Tp Ev.Row))) (ev_prop (c := "Rules") (ev_var rfl) ⟨_, rfl, rfl⟩) rfl)) (by repeat first | exact .nil | apply Wk.keep | apply Wk.drop) (off_of rfl) (fun _ x5 => (egw_name (by decide))) (fun _ x5 => et_yes) (fun _ x5 b6 => (EvE.cast (y := toD (([(Ev.Row.outer (x5)), (Ev.Row.inner (x5)), (Ev.Row.amount (x5))] : (List Str)) : (List Str))) (EvO.e (EvO.cast (y := toD ([(Ev.Row.outer (x5)), (Ev.Row.inner (x5)), (Ev.Row.amount (x5))] : (List Str))) (evo_lst (ea_cons (EvE.cast (y := toD ((Ev.Row.outer (x5)) : Str)) (ev_prop (c := "Row") (ev_var rfl) ⟨_, rfl, rfl⟩) rfl) (ea_cons (EvE.cast (y := toD ((Ev.Row.inner (x5)) : Str)) (ev_prop (c := "Row") (ev_var rfl) ⟨_, rfl, rfl⟩) rfl) (ea_cons (EvE.cast (y := toD ((Ev.Row.amount (x5)) : Str)) (ev_prop (c := "Row") (ev_var rfl) ⟨_, rfl, rfl⟩) rfl) ea_nil))) (by show 3 ≤ sizeLine; decide)) rfl)) rfl)) (fun x5 => by repeat first | exact .nil | apply Wk.keep | apply Wk.drop)) (by rw [filter_true] <;> rfl)))
     (EvS.freeze 1 rfl
     (EvS.freeze 2 rfl
     (one (es_ret (EvE.cast (y := toD ((⟨(List.map (fun (x2 : Ev.Kind) => (⟨(Ev.Kind.name (x2)), (Ev.Kind.talks (x2)), (Ev.Kind.needs (x2)), (Ev.Kind.closing (x2)), (Ev.Kind.ends (x2))⟩ : (Q5 Str Int (Int ⊕ Str) (Option (P2 Int Str)) (Option Str)))) ((Ev.Rules.kinds (v_mine))).l), (List.map (fun (x5 : Ev.Row) => ([(Ev.Row.outer (x5)), (Ev.Row.inner (x5)), (Ev.Row.amount (x5))] : (List Str))) ((Ev.Rules.rows (v_mine))).l), (true && true)⟩ : (Q3 (List (Q5 Str Int (Int ⊕ Str) (Option (P2 Int Str)) (Option Str))) (List (List Str)) Bool)) : (Q3 (List (Q5 Str Int (Int ⊕ Str) (Option (P2 Int Str)) (Option Str))) (List (List Str)) Bool))) (EvO.e (EvO.cast (y := toD (⟨(List.map (fun (x2 : Ev.Kind) => (⟨(Ev.Kind.name (x2)), (Ev.Kind.talks (x2)), (Ev.Kind.needs (x2)), (Ev.Kind.closing (x2)), (Ev.Kind.ends (x2))⟩ : (Q5 Str Int (Int ⊕ Str) (Option (P2 Int Str)) (Option Str)))) ((Ev.Rules.kinds (v_mine))).l), (List.map (fun (x5 : Ev.Row) => ([(Ev.Row.outer (x5)), (Ev.Row.inner (x5)), (Ev.Row.amount (x5))] : (List Str))) ((Ev.Rules.rows (v_mine))).l), (true && true)⟩ : (Q3 (List (Q5 Str Int (Int ⊕ Str) (Option (P2 Int Str)) (Option Str))) (List (List Str)) Bool))) (evo_lst (ea_cons (EvE.cast (y := toD ((List.map (fun (x2 : Ev.Kind) => (⟨(Ev.Kind.name (x2)), (Ev.Kind.talks (x2)), (Ev.Kind.needs (x2)), (Ev.Kind.closing (x2)), (Ev.Kind.ends (x2))⟩ : (Q5 Str Int (Int ⊕ Str) (Option (P2 Int Str)) (Option Str)))) ((Ev.Rules.kinds (v_mine))).l) : (List (Q5 Str Int (Int ⊕ Str) (Option (P2 Int Str)) (Option Str))))) (ev_var rfl) rfl) (ea_cons (EvE.cast (y := toD ((List.map (fun (x5 : Ev.Row) => ([(Ev.Row.outer (x5)), (Ev.Row.inner (x5)), (Ev.Row.amount (x5))] : (List Str))) ((Ev.Rules.rows (v_mine))).l) : (List (List Str)))) (ev_var rfl) rfl) (ea_cons (EvE.cast (y := toD ((true && true) : Bool)) (ev_andB (ev_isi (n := "tuple") (EvE.cast (y := toD ((Ev.Rules.kinds (v_mine)) : (Tp Ev.Kind))) (ev_prop (c := "Rules") (ev_var rfl) ⟨_, rfl, rfl⟩) rfl) rfl (kit_ty (by decide +kernel))) fun b7 => (ev_isi (n := "tuple") (EvE.cast (y := toD ((Ev.Rules.rows (v_mine)) : (Tp Ev.Row))) (ev_prop (c := "Rules") (ev_var rfl) ⟨_, rfl, rfl⟩) rfl) rfl (kit_ty (by decide +kernel)))) rfl) ea_nil))) (by show 3 ≤ sizeLine; decide)) rfl)) rfl) wok0))))))))
end L
namespace L
open PySem L2 Hv Ev
variable {P : Program} {w : World} {K : PySem.W.Frag} {mg : Str → Option Value} {base : Heap}
noncomputable def fn_other (v_bag_here : (Q3 Int Int Int)) (v_book_here : (Q2 (List (Q5 Str Int (Int ⊕ Str) (Option (P2 Int Str)) (Option Str))) (List (List Str)))) (v_bounds_here : (List Str)) : Option ((Q2 (List (Q5 Str Int (Int ⊕ Str) (Option (P2 Int Str)) (Option Str))) (List (List Str))) × (Q3 Int Int Int)) :=
  ((fn_take (v_bag_here) ((3 : Int))).bind fun r1 =>
     (if (decide (r1.1 = (0 : Int))) = true then
     ((fn_book (r1.2) (v_bounds_here)).bind fun r3 =>
     some (r3.1, r3.2)) else
     (if ((decide (r1.1 = (1 : Int))) || (List.isEmpty (v_book_here).b)) = true then
     ((fn_take (r1.2) ((((v_book_here).a.length : Nat) : Int))).bind fun r6 =>
     ((atI (v_book_here).a r6.1).bind fun r7 =>
     ((fn_kind (r6.2) ((r7).a) (v_bounds_here)).bind fun r8 =>
     ((ixN ((v_book_here).a).length r6.1).bind fun r9 =>
     some ((⟨(List.set (v_book_here).a r9 r8.1), (v_book_here).b⟩ : (Q2 (List (Q5 Str Int (Int ⊕ Str) (Option (P2 Int Str)) (Option Str))) (List (List Str)))), r8.2))))) else
     ((fn_take (r1.2) ((((v_book_here).b.length : Nat) : Int))).bind fun r10 =>
     ((atI (v_book_here).b r10.1).bind fun r11 =>
     ((fn_amounts).bind fun r12 =>
     ((fn_take (r10.2) ((8 : Int))).bind fun r13 =>
     ((atI r12 r13.1).bind fun r14 =>
     (if ((cutL r11 none (some (2 : Int)))).length + (([r14] : (List Str))).length ≤ sizeLine then
     ((ixN ((v_book_here).b).length r10.1).bind fun r16 =>
     some ((⟨(v_book_here).a, (List.set (v_book_here).b r16 ((cutL r11 none (some (2 : Int))) ++ ([r14] : (List Str))))⟩ : (Q2 (List (Q5 Str Int (Int ⊕ Str) (Option (P2 Int Str)) (Option Str))) (List (List Str)))), r13.2)) else none)))))))))
def pre_other : D → List D → D → D → Prop := fun x xs y x' => ∃ (v_bag_here : (Q3 Int Int Int)) (v_book_here : (Q2 (List (Q5 Str Int (Int ⊕ Str) (Option (P2 Int Str)) (Option Str))) (List (List Str)))) (v_bounds_here : (List Str)), ∃ (r : (Q2 (List (Q5 Str Int (Int ⊕ Str) (Option (P2 Int Str)) (Option Str))) (List (List Str))) × (Q3 Int Int Int)), x = toD v_bag_here ∧ xs = [toD v_book_here, toD v_bounds_here] ∧ fn_other v_bag_here v_book_here v_bounds_here = some r ∧ y = toD r.1 ∧ x' = toD r.2
theorem ok_other (M : Ds K mg) (T : Txt K mg) : FnOk P w K mg base CX0 5 M.f_other M.fd_other P_other (spW K pre_other) := by
  refine M.D_other.fn.ok sc_other (fun vs H Q E h => ?_) (fun cdv A outer s H vs Q E hr h => ?_)
  · obtain ⟨F, a, o, x, xs, vs', y, x', rfl, _, _, _, _, rp, pr, _⟩ := h
    obtain ⟨v_bag_here, v_book_here, v_bounds_here, r, rfl, rfl, _⟩ := pr
    exact congrArg Nat.succ rp.len
  · obtain ⟨F, a, o, x, xs, vs', y, x', rfl, sF, fa, ha, ro, rp, pr, ret⟩ := h
    obtain ⟨v_bag_here, v_book_here, v_bounds_here, r, rfl, rfl, hf, rfl, rfl⟩ := pr
    skip
    refine ⟨_, (pss_cons (ps_asg (pe_call (ok_take M T) (hr.mono (by decide)) rfl M.D_take.mg M.D_take.fn.kp M.D_take.bd .nil pass0 (pa_cons (pv 0) (pa_cons pe_int pa_nil))) (pg_name (i := 3) sc_other.nd rfl (.inl rfl)))
     (pss_cons (ps_if (pt_cmpR op_eq (pv 3) pe_int (nomark _))
     (pss_cons (ps_ret (pe_call (ok_book M T) (hr.mono (by decide)) rfl M.D_book.mg M.D_book.fn.kp M.D_book.bd .nil pass0 (pa_cons (pv 0) (pa_cons (pv 2) pa_nil))))
     pss_nil)
     pss_nil)
     (pss_cons (ps_par (i := 4) (j := 5) (by rfl) sc_other.nd rfl rfl (by decide) rfl rfl (pa_cons (pe_callTy call_list_of (by rfl) T.list (by decide +kernel) (pa_cons (pe_ix (show IxR _ (rIxL K) from ix_list) (pv 1) pe_int (fun _ _ => rfl)) pa_nil)) (pa_cons (pe_callTy call_list_of (by rfl) T.list (by decide +kernel) (pa_cons (pe_ix (show IxR _ (rIxL K) from ix_list) (pv 1) pe_int (fun _ _ => rfl)) pa_nil)) pa_nil)) (by rfl))
     (pss_cons (ps_if (PW.pt (pw_or (pt_cmpR op_eq (pv 3) pe_int (nomark _)) (pw_or1 (pt_cmpR (op_eqE hr.units) (pv 5) (pe_lst pa_nil) (nomark _)))))
     (pss_cons (ps_asg (pe_call (ok_take M T) (hr.mono (by decide)) rfl M.D_take.mg M.D_take.fn.kp M.D_take.bd .nil pass0 (pa_cons (pv 0) (pa_cons (pe_callB (show CallR _ (.builtin "len") (rLen1 K) from call_len_seq) (by rfl) T.len (by decide +kernel) (pa_cons (pv 4) pa_nil)) pa_nil))) (pg_name (i := 6) sc_other.nd rfl (.inl rfl)))
     (pss_cons (ps_asg (pe_call (ok_kind M T) (hr.mono (by decide)) rfl M.D_kind.mg M.D_kind.fn.kp M.D_kind.bd .nil pass0 (pa_cons (pv 0) (pa_cons (pe_ix (show IxR _ (rIxL K) from ix_list) (pe_ix (show IxR _ (rIxL K) from ix_list) (pv 4) (pv 6) (fun _ _ => rfl)) pe_int (fun _ _ => rfl)) (pa_cons (pv 2) pa_nil)))) (pg_sub (pv 4) (pv 6) set_list))
     (pss_cons (ps_ret (pe_lst (pa_cons (pv 4) (pa_cons (pv 5) pa_nil))))
     pss_nil)))
     pss_nil)
     (pss_cons (ps_asg (pe_call (ok_take M T) (hr.mono (by decide)) rfl M.D_take.mg M.D_take.fn.kp M.D_take.bd .nil pass0 (pa_cons (pv 0) (pa_cons (pe_callB (show CallR _ (.builtin "len") (rLen1 K) from call_len_seq) (by rfl) T.len (by decide +kernel) (pa_cons (pv 5) pa_nil)) pa_nil))) (pg_name (i := 6) sc_other.nd rfl (.inl rfl)))
     (pss_cons (ps_asg (pe_op op_cat (pe_slice (r := rSlL K) sl_list (pe_ix (show IxR _ (rIxL K) from ix_list) (pv 5) (pv 6) (fun _ _ => rfl)) po_none (po_some pe_int)) (pe_lst (pa_cons (pe_ix (show IxR _ (rIxL K) from ix_list) (pe_call0 (ok_amounts M T) (hr.mono (by decide)) rfl M.D_amounts.mg M.D_amounts.fn.kp M.D_amounts.bd .nil pass0) (pe_call (ok_take M T) (hr.mono (by decide)) rfl M.D_take.mg M.D_take.fn.kp M.D_take.bd .nil pass0 (pa_cons (pv 0) (pa_cons pe_int pa_nil))) (fun _ _ => rfl)) pa_nil))) (pg_sub (pv 5) (pv 6) set_list))
     (pss_cons (ps_ret (pe_lst (pa_cons (pv 4) (pa_cons (pv 5) pa_nil))))
     pss_nil))))))), ?_⟩
    unfold fn_other at hf
    refine run_W (Kn := fun p => .rt (toD p.1) [(0, toD p.2)]) sF fa ha ro rp ret ?_ hf rfl
    exact (bnd fun r1 hr1 =>
     (es_seq (Γ1 := [.own 1 (toD r1.2), .d (toD v_book_here), .d (toD v_bounds_here), .d (toD r1.1), .u, .u, .u]) (es_asg (EvE.cast (y := toD r1.1) (ev_callW (p := 1) rfl (ea_cons (EvE.cast (y := toD ((3 : Int) : Int)) ev_int rfl) ea_nil) rfl ⟨_, _, _, rfl, rfl, hr1, rfl, rfl⟩) rfl) eg_name)
     (es_ifq (Γ1 := [.own 1 (toD r1.2), .d (toD v_book_here), .d (toD v_bounds_here), .d (toD r1.1), .u, .u, .u]) (et_test (ev_op (ev_var rfl) (EvE.cast (y := toD ((0 : Int) : Int)) ev_int rfl) rv_eqI))
     (fun b2 => (es_assoc
     (bnd fun r3 hr3 =>
     (one (es_ret (EvE.cast (y := toD r3.1) (ev_callW (p := 1) rfl (ea_cons (ev_var rfl) ea_nil) rfl ⟨_, _, _, rfl, rfl, hr3, rfl, rfl⟩) rfl) (wok1 rfl))))))
     (fun b2 => (es_skip
     (es_seq (Γ1 := [.own 1 (toD r1.2), .d (toD v_book_here), .d (toD v_bounds_here), .d (toD r1.1), .own 0 (toD ((v_book_here).a : (List (Q5 Str Int (Int ⊕ Str) (Option (P2 Int Str)) (Option Str))))), .own 0 (toD ((v_book_here).b : (List (List Str)))), .u]) (es_parOO (Γ1 := [.own 1 (toD r1.2), .d (toD v_book_here), .d (toD v_bounds_here), .d (toD r1.1), .u, .u, .u]) (by decide) (EvO.cast (y := toD ((v_book_here).a : (List (Q5 Str Int (Int ⊕ Str) (Option (P2 Int Str)) (Option Str))))) (evo_list (EvE.r (EvE.cast (y := toD ((v_book_here).a : (List (Q5 Str Int (Int ⊕ Str) (Option (P2 Int Str)) (Option Str))))) (EvE.cast (y := toD ((v_book_here).a : (List (Q5 Str Int (Int ⊕ Str) (Option (P2 Int Str)) (Option Str))))) (ev_op (ev_var rfl) ev_int (rv_ixL rfl)) rfl) rfl) (.lst _))) rfl) (fun _ => (EvO.cast (y := toD ((v_book_here).b : (List (List Str)))) (evo_list (EvE.r (EvE.cast (y := toD ((v_book_here).b : (List (List Str)))) (EvE.cast (y := toD ((v_book_here).b : (List (List Str)))) (ev_op (ev_var rfl) ev_int (rv_ixL rfl)) rfl) rfl) (.lst _))) rfl)) rfl)
     (es_ifq (Γ1 := [.own 1 (toD r1.2), .d (toD v_book_here), .d (toD v_bounds_here), .d (toD r1.1), .own 0 (toD ((v_book_here).a : (List (Q5 Str Int (Int ⊕ Str) (Option (P2 Int Str)) (Option Str))))), .own 0 (toD ((v_book_here).b : (List (List Str)))), .u]) (et_or (et_test (ev_op (ev_var rfl) (EvE.cast (y := toD ((1 : Int) : Int)) ev_int rfl) rv_eqI)) fun b4 => (et_test (ev_isNil (x0 := .non) (evr_var (x := toD ((v_book_here).b : (List (List Str)))) (by first | exact .o 0 rfl | exact .d rfl) (.lst _)))))
     (fun b5 => (es_assoc
     (bnd fun r6 hr6 =>
     (es_seq (Γ1 := [.own 1 (toD r6.2), .d (toD v_book_here), .d (toD v_bounds_here), .d (toD r1.1), .own 0 (toD ((v_book_here).a : (List (Q5 Str Int (Int ⊕ Str) (Option (P2 Int Str)) (Option Str))))), .own 0 (toD ((v_book_here).b : (List (List Str)))), .d (toD r6.1)]) (es_asg (EvE.cast (y := toD r6.1) (ev_callW (p := 1) rfl (ea_cons (EvE.cast (y := toD ((((v_book_here).a.length : Nat) : Int) : Int)) (EvE.cast (y := toD ((((v_book_here).a.length : Nat) : Int) : Int)) (ev_lenL (evr_var (x := toD ((v_book_here).a : (List (Q5 Str Int (Int ⊕ Str) (Option (P2 Int Str)) (Option Str))))) (by first | exact .o 0 rfl | exact .d rfl) (.lst _))) (by simp [toD, Rp.d])) rfl) ea_nil) rfl ⟨_, _, _, rfl, rfl, hr6, rfl, rfl⟩) rfl) eg_name)
     (es_assoc
     (bnd fun r7 hr7 =>
     (bnd fun r8 hr8 =>
     (bnd fun r9 hr9 =>
     (es_seq (Γ1 := [.own 1 (toD r8.2), .d (toD v_book_here), .d (toD v_bounds_here), .d (toD r1.1), .own 0 (toD ((List.set (v_book_here).a r9 r8.1) : (List (Q5 Str Int (Int ⊕ Str) (Option (P2 Int Str)) (Option Str))))), .own 0 (toD ((v_book_here).b : (List (List Str)))), .d (toD r6.1)]) (EvS1.cast (es_asg (EvE.cast (y := toD r8.1) (ev_callW (p := 1) rfl (ea_cons (EvE.cast (y := toD ((r7).a : Str)) (EvE.cast (y := toD ((r7).a : Str)) (ev_op (EvE.cast (y := toD r7) (ev_ixV (xs := List.map toD ((v_book_here).a : (List (Q5 Str Int (Int ⊕ Str) (Option (P2 Int Str)) (Option Str))))) (x0 := toD ((v_book_here).a : (List (Q5 Str Int (Int ⊕ Str) (Option (P2 Int Str)) (Option Str))))) (by first | exact .o 0 rfl | exact .d rfl) (ev_var rfl) (by first | exact .o 0 rfl | exact .d rfl) (at_map toD hr7) (.lst _)) rfl) ev_int (rv_ixL rfl)) rfl) rfl) (ea_cons (ev_var rfl) ea_nil)) rfl ⟨_, _, _, _, rfl, rfl, hr8, rfl, rfl⟩) rfl) (eg_sub (n := r9) rfl (ev_var rfl) (by rw [List.length_map]; exact hr9))) (by simp [toD, Rp.d]))
     (es_assoc
     (EvS.freeze 4 rfl
     (EvS.freeze 5 rfl
     (one (es_ret (EvE.cast (y := toD ((⟨(List.set (v_book_here).a r9 r8.1), (v_book_here).b⟩ : (Q2 (List (Q5 Str Int (Int ⊕ Str) (Option (P2 Int Str)) (Option Str))) (List (List Str)))) : (Q2 (List (Q5 Str Int (Int ⊕ Str) (Option (P2 Int Str)) (Option Str))) (List (List Str))))) (EvO.e (EvO.cast (y := toD (⟨(List.set (v_book_here).a r9 r8.1), (v_book_here).b⟩ : (Q2 (List (Q5 Str Int (Int ⊕ Str) (Option (P2 Int Str)) (Option Str))) (List (List Str))))) (evo_lst (ea_cons (EvE.cast (y := toD ((List.set (v_book_here).a r9 r8.1) : (List (Q5 Str Int (Int ⊕ Str) (Option (P2 Int Str)) (Option Str))))) (ev_var rfl) rfl) (ea_cons (EvE.cast (y := toD ((v_book_here).b : (List (List Str)))) (ev_var rfl) rfl) ea_nil)) (by show 2 ≤ sizeLine; decide)) rfl)) rfl) (wok1 rfl)))))))))))))))
     (fun b5 => (es_skip
     (bnd fun r10 hr10 =>
     (es_seq (Γ1 := [.own 1 (toD r10.2), .d (toD v_book_here), .d (toD v_bounds_here), .d (toD r1.1), .own 0 (toD ((v_book_here).a : (List (Q5 Str Int (Int ⊕ Str) (Option (P2 Int Str)) (Option Str))))), .own 0 (toD ((v_book_here).b : (List (List Str)))), .d (toD r10.1)]) (es_asg (EvE.cast (y := toD r10.1) (ev_callW (p := 1) rfl (ea_cons (EvE.cast (y := toD ((((v_book_here).b.length : Nat) : Int) : Int)) (EvE.cast (y := toD ((((v_book_here).b.length : Nat) : Int) : Int)) (ev_lenL (evr_var (x := toD ((v_book_here).b : (List (List Str)))) (by first | exact .o 0 rfl | exact .d rfl) (.lst _))) (by simp [toD, Rp.d])) rfl) ea_nil) rfl ⟨_, _, _, rfl, rfl, hr10, rfl, rfl⟩) rfl) eg_name)
     (bnd fun r11 hr11 =>
     (bnd fun r12 hr12 =>
     (bnd fun r13 hr13 =>
     (bnd fun r14 hr14 =>
     (grd fun h15 =>
     (bnd fun r16 hr16 =>
     (es_seq (Γ1 := [.own 1 (toD r13.2), .d (toD v_book_here), .d (toD v_bounds_here), .d (toD r1.1), .own 0 (toD ((v_book_here).a : (List (Q5 Str Int (Int ⊕ Str) (Option (P2 Int Str)) (Option Str))))), .own 0 (toD ((List.set (v_book_here).b r16 ((cutL r11 none (some (2 : Int))) ++ ([r14] : (List Str)))) : (List (List Str)))), .d (toD r10.1)]) (EvS1.cast (es_asg (EvE.cast (y := toD (((cutL r11 none (some (2 : Int))) ++ ([r14] : (List Str))) : (List Str))) (EvO.e (EvO.cast (y := toD (((cutL r11 none (some (2 : Int))) ++ ([r14] : (List Str))) : (List Str))) (evo_cat (EvE.cast (y := toD ((cutL r11 none (some (2 : Int))) : (List Str))) (EvO.e (EvO.cast (y := toD ((cutL r11 none (some (2 : Int))) : (List Str))) (evo_slL (EvE.cast (y := toD r11) (ev_ixV (xs := List.map toD ((v_book_here).b : (List (List Str)))) (x0 := toD ((v_book_here).b : (List (List Str)))) (by first | exact .o 0 rfl | exact .d rfl) (ev_var rfl) (by first | exact .o 0 rfl | exact .d rfl) (at_map toD hr11) (.lst _)) rfl) eo_none (eo_some ev_int)) (congrArg D.lst (cutL_map toD _ _ _)))) rfl) (EvE.r (EvE.cast (y := toD (([r14] : (List Str)) : (List Str))) (EvO.e (EvO.cast (y := toD ([r14] : (List Str))) (evo_lst (ea_cons (EvE.cast (y := toD r14) (ev_op (EvE.cast (y := toD r12) (ev_call ap_nil ⟨_, rfl, hr12, rfl⟩) rfl) (ev_callW (p := 1) rfl (ea_cons (EvE.cast (y := toD ((8 : Int) : Int)) ev_int rfl) ea_nil) rfl ⟨_, _, _, rfl, rfl, hr13, rfl, rfl⟩) (rv_ixL (at_map toD hr14))) rfl) ea_nil) (by show 1 ≤ sizeLine; decide)) rfl)) rfl) (.lst _)) (by simpa using h15)) (by simp [toD, Rp.d]))) rfl) (eg_sub (n := r16) rfl (ev_var rfl) (by rw [List.length_map]; exact hr16))) (by simp [toD, Rp.d]))
     (EvS.freeze 4 rfl
     (EvS.freeze 5 rfl
     (one (es_ret (EvE.cast (y := toD ((⟨(v_book_here).a, (List.set (v_book_here).b r16 ((cutL r11 none (some (2 : Int))) ++ ([r14] : (List Str))))⟩ : (Q2 (List (Q5 Str Int (Int ⊕ Str) (Option (P2 Int Str)) (Option Str))) (List (List Str)))) : (Q2 (List (Q5 Str Int (Int ⊕ Str) (Option (P2 Int Str)) (Option Str))) (List (List Str))))) (EvO.e (EvO.cast (y := toD (⟨(v_book_here).a, (List.set (v_book_here).b r16 ((cutL r11 none (some (2 : Int))) ++ ([r14] : (List Str))))⟩ : (Q2 (List (Q5 Str Int (Int ⊕ Str) (Option (P2 Int Str)) (Option Str))) (List (List Str))))) (evo_lst (ea_cons (EvE.cast (y := toD ((v_book_here).a : (List (Q5 Str Int (Int ⊕ Str) (Option (P2 Int Str)) (Option Str))))) (ev_var rfl) rfl) (ea_cons (EvE.cast (y := toD ((List.set (v_book_here).b r16 ((cutL r11 none (some (2 : Int))) ++ ([r14] : (List Str)))) : (List (List Str)))) (ev_var rfl) rfl) ea_nil)) (by show 2 ≤ sizeLine; decide)) rfl)) rfl) (wok1 rfl)))))))))))))))))))))))
end L
namespace L
open PySem L2 Hv Ev
variable {P : Program} {w : World} {K : PySem.W.Frag} {mg : Str → Option Value} {base : Heap}
theorem kb_Rules_read_1_text {f : Addr} {fd : FuncData} (F : Fun K "read" "Rules.read" s_Rules_read f fd) : KBinds K fd P_Rules_read ["text"] (fun us ws => match us, ws with | [u0], [w0] => [u0, w0] | _, _ => []) (fun us ws => match us, ws with | [u0], [w0] => [u0, w0] | _, _ => []) := by
  obtain ⟨oc, od, kV, doc, pm, an, cdv, ct, osl, rfl, lk, hcd⟩ := F.ex
  refine ⟨fun s us ws hX hl => ?_, fun {vs us zs ws} r rz => ?_⟩
  · rcases us with _ | ⟨u0, _ | ⟨xu, yu⟩⟩ <;> rcases ws with _ | ⟨w0, _ | ⟨xw, yw⟩⟩ <;> first | exact .of_eq rfl | cases hl
  · cases r with
    | nil => exact .nil
    | cons ru0 tu0 =>
      cases tu0 with
      | cons _ _ => exact .nil
      | nil =>
        cases rz with
        | nil => exact .nil
        | cons rw0 tw0 =>
          cases tw0 with
          | cons _ _ => exact .nil
          | nil =>
            exact .cons ru0 (.cons rw0 (.nil))
noncomputable def fn_back (v_book_here : (Q2 (List (Q5 Str Int (Int ⊕ Str) (Option (P2 Int Str)) (Option Str))) (List (List Str)))) : Option ((Option Ev.Rules)) :=
  ((fn_lines (v_book_here)).bind fun r1 =>
     (if (List.map (fun x => Str.length x) r1).sum + List.length r1 * Str.length ("\n" : Str) ≤ 16777216 then
     ((fn_Rules_read (⟨⟩) ((PySem.Txt.join ("\n" : Str) r1))).bind fun r3 =>
     ((if (!true) = true then some true else ((fn_seen (r3)).bind fun r5 => (if ShOk (toD r5) then (if ShOk (toD (([(.inl (.inl (v_book_here).a : ((List (Q5 Str Int (Int ⊕ Str) (Option (P2 Int Str)) (Option Str))) ⊕ (List (List Str)))) : (((List (Q5 Str Int (Int ⊕ Str) (Option (P2 Int Str)) (Option Str))) ⊕ (List (List Str))) ⊕ Bool)), (.inl (.inr (v_book_here).b : ((List (Q5 Str Int (Int ⊕ Str) (Option (P2 Int Str)) (Option Str))) ⊕ (List (List Str)))) : (((List (Q5 Str Int (Int ⊕ Str) (Option (P2 Int Str)) (Option Str))) ⊕ (List (List Str))) ⊕ Bool)), (.inr true : (((List (Q5 Str Int (Int ⊕ Str) (Option (P2 Int Str)) (Option Str))) ⊕ (List (List Str))) ⊕ Bool))] : (List (((List (Q5 Str Int (Int ⊕ Str) (Option (P2 Int Str)) (Option Str))) ⊕ (List (List Str))) ⊕ Bool))) : (List (((List (Q5 Str Int (Int ⊕ Str) (Option (P2 Int Str)) (Option Str))) ⊕ (List (List Str))) ⊕ Bool)))) then some (!decide ((shD (toD r5)) = (shD (toD (([(.inl (.inl (v_book_here).a : ((List (Q5 Str Int (Int ⊕ Str) (Option (P2 Int Str)) (Option Str))) ⊕ (List (List Str)))) : (((List (Q5 Str Int (Int ⊕ Str) (Option (P2 Int Str)) (Option Str))) ⊕ (List (List Str))) ⊕ Bool)), (.inl (.inr (v_book_here).b : ((List (Q5 Str Int (Int ⊕ Str) (Option (P2 Int Str)) (Option Str))) ⊕ (List (List Str)))) : (((List (Q5 Str Int (Int ⊕ Str) (Option (P2 Int Str)) (Option Str))) ⊕ (List (List Str))) ⊕ Bool)), (.inr true : (((List (Q5 Str Int (Int ⊕ Str) (Option (P2 Int Str)) (Option Str))) ⊕ (List (List Str))) ⊕ Bool))] : (List (((List (Q5 Str Int (Int ⊕ Str) (Option (P2 Int Str)) (Option Str))) ⊕ (List (List Str))) ⊕ Bool))) : (List (((List (Q5 Str Int (Int ⊕ Str) (Option (P2 Int Str)) (Option Str))) ⊕ (List (List Str))) ⊕ Bool))))))) else none) else none))).bind fun r8 =>
     (if r8 = true then
     some (none : (Option Ev.Rules)) else
     ((fn_Rules_str r3).bind fun r10 =>
     ((if (!decide (r10 = (PySem.Txt.join ("\n" : Str) r1))) = true then some true else ((fn_rules (v_book_here)).bind fun r12 => ((fn_Rules_eq (r3) (r12)).bind fun r13 => ((if (!r13) = true then some true else ((fn_rules (v_book_here)).bind fun r15 => ((fn_Rules_str r15).bind fun r16 => some (!decide (r16 = (PySem.Txt.join ("\n" : Str) r1)))))).bind fun r17 => some r17)))).bind fun r18 =>
     (if r18 = true then
     some (none : (Option Ev.Rules)) else
     ((fn_Rules_str r3).bind fun r20 =>
     ((fn_Rules_read (⟨⟩) (r20)).bind fun r21 =>
     ((fn_Rules_eq (r21) (r3)).bind fun r22 =>
     some (if r22 = true then (some r3 : (Option Ev.Rules)) else (none : (Option Ev.Rules)))))))))))) else none))
def pre_back : List Ar → D → Prop := fun xs y => ∃ (v_book_here : (Q2 (List (Q5 Str Int (Int ⊕ Str) (Option (P2 Int Str)) (Option Str))) (List (List Str)))) (r : (Option Ev.Rules)), xs = [.k (toD v_book_here)] ∧ fn_back v_book_here = some r ∧ y = toD r
theorem ok_back (M : Ds K mg) (T : Txt K mg) : OkG P w K mg base CX0 9 M.f_back M.fd_back P_back (spE K pre_back) := by
  refine okG0 M.D_back.fn sc_back (fun vs H Q E h => ?_) (fun cdv A outer s H vs Q E hG hr h => ?_)
  · obtain ⟨F, xs, y, _, ar, pr, _⟩ := h
    obtain ⟨v_book_here, r, rfl, _⟩ := pr
    exact ar.len
  · obtain ⟨F, xs, y, sF, ar, pr, ret⟩ := h
    obtain ⟨v_book_here, r, rfl, hf, rfl⟩ := pr
    refine ⟨_, (pss_cons (ps_asg (pe_join pe_str (pe_call (ok_lines M T) (hr.mono (by decide)) rfl M.D_lines.mg M.D_lines.fn.kp M.D_lines.bd .nil pass0 (pa_cons (pv 0) pa_nil))) (pg_name (i := 1) sc_back.nd rfl (.inl rfl)))
     (pss_cons (ps_asg (ClX.pe_cmeth (pe_glob (v := .ref (cA K "Rules")) rfl T.mg_Rules rfl) M.D_Rules_read.rd M.D_Rules_read.met.choose_spec (raw_ok (ok_Rules_read M T) M.D_Rules_read.bd) (hr.mono (by decide)) pass0 (pa_cons (pv 1) pa_nil)) (pg_name (i := 2) sc_back.nd rfl (.inl rfl)))
     (pss_cons (ps_if (PW.pt (pw_or (pt_not (pt_val (pe_callB (show CallR _ (.builtin "isinstance") (rIsi K) from call_isi) (by rfl) T.isinstance (by decide +kernel) (pa_cons (pv 2) (pa_cons (pe_glob (v := .ref (cA K "Rules")) rfl T.mg_Rules rfl) pa_nil))))) (pw_or1 (pt_cmpR op_ne (pe_callB (cr_repr hG hr.units) (by rfl) T.repr (by decide +kernel) (pa_cons (pe_call (ok_seen M T) (hr.mono (by decide)) rfl M.D_seen.mg M.D_seen.fn.kp M.D_seen.bd .nil pass0 (pa_cons (pv 2) pa_nil)) pa_nil)) (pe_callB (cr_repr hG hr.units) (by rfl) T.repr (by decide +kernel) (pa_cons (pe_lst (pa_cons (pe_ix (show IxR _ (rIxL K) from ix_list) (pv 0) pe_int (fun _ _ => rfl)) (pa_cons (pe_ix (show IxR _ (rIxL K) from ix_list) (pv 0) pe_int (fun _ _ => rfl)) (pa_cons pe_bl pa_nil)))) pa_nil)) (nomark _)))))
     (pss_cons (ps_ret pe_non)
     pss_nil)
     pss_nil)
     (pss_cons (ps_if (PW.pt (pw_or (pt_cmpR op_ne (pe_callTy (Hv.call_strI M.D_Rules_str.at_ M.D_Rules_str.isf (raw_ok (ok_Rules_str M T) M.D_Rules_str.bd) (hr.mono (by decide)) pass0) (by rfl) T.str (by decide +kernel) (pa_cons (pv 2) pa_nil)) (pv 1) (nomark _)) (pw_or (pt_not (pt_cmpR (op_eqOwnL (T.eq_Rules.eqO M.D_Rules_eq.at_ M.D_Rules_eq.isf) (raw_ok (ok_Rules_eq M T) M.D_Rules_eq.bd) (hr.mono (by decide)) pass0) (pv 2) (pe_call (ok_rules M T) (hr.mono (by decide)) rfl M.D_rules.mg M.D_rules.fn.kp M.D_rules.bd .nil pass0 (pa_cons (pv 0) pa_nil)) (nomark _))) (pw_or1 (pt_cmpR op_ne (pe_callTy (Hv.call_strI M.D_Rules_str.at_ M.D_Rules_str.isf (raw_ok (ok_Rules_str M T) M.D_Rules_str.bd) (hr.mono (by decide)) pass0) (by rfl) T.str (by decide +kernel) (pa_cons (pe_call (ok_rules M T) (hr.mono (by decide)) rfl M.D_rules.mg M.D_rules.fn.kp M.D_rules.bd .nil pass0 (pa_cons (pv 0) pa_nil)) pa_nil)) (pv 1) (nomark _))))))
     (pss_cons (ps_ret pe_non)
     pss_nil)
     pss_nil)
     (pss_cons (ps_ret (pe_ifExp (pt_cmpR (op_eqOwnL (T.eq_Rules.eqO M.D_Rules_eq.at_ M.D_Rules_eq.isf) (raw_ok (ok_Rules_eq M T) M.D_Rules_eq.bd) (hr.mono (by decide)) pass0) (Hv.pe_cmethK (pe_glob (v := .ref (cA K "Rules")) rfl T.mg_Rules rfl) M.D_Rules_read.rd M.D_Rules_read.met.choose_spec (ok_Rules_read M T) (kb_Rules_read_1_text M.D_Rules_read.fn) (hr.mono (by decide)) pass0 (pk_cons (pe_callTy (Hv.call_strI M.D_Rules_str.at_ M.D_Rules_str.isf (raw_ok (ok_Rules_str M T) M.D_Rules_str.bd) (hr.mono (by decide)) pass0) (by rfl) T.str (by decide +kernel) (pa_cons (pv 2) pa_nil)) pk_nil)) (pv 2) (nomark _)) (pv 2) pe_non))
     pss_nil))))), ?_⟩
    unfold fn_back at hf
    refine run_rt (Kn := fun y => .rt (toD y) []) sF ar ret ?_ hf rfl
    exact (bnd fun r1 hr1 =>
     (grd fun h2 =>
     (es_seq (Γ1 := [.d (toD v_book_here), .d (toD ((PySem.Txt.join ("\n" : Str) r1) : Str)), .u]) (es_asg (EvE.cast (y := toD ((PySem.Txt.join ("\n" : Str) r1) : Str)) (ev_join (ys := r1) ev_str (EvE.r (EvE.cast (y := toD r1) (ev_call (ap_k (ev_var rfl) ap_nil) ⟨_, _, rfl, hr1, rfl⟩) rfl) (.lst _)) h2) rfl) eg_name)
     (bnd fun r3 hr3 =>
     (es_seq (Γ1 := [.d (toD v_book_here), .d (toD ((PySem.Txt.join ("\n" : Str) r1) : Str)), .d (toD r3)]) (es_asg (EvE.cast (y := toD r3) (ev_cmeth (c := "Rules") (ap_k (EvE.cast (y := toD ((PySem.Txt.join ("\n" : Str) r1) : Str)) (ev_var rfl) rfl) ap_nil) ⟨_, _, _, rfl, hr3, rfl⟩) rfl) eg_name)
     (bnd fun r8 hr8 =>
     (es_ifq (Γ1 := [.d (toD v_book_here), .d (toD ((PySem.Txt.join ("\n" : Str) r1) : Str)), .d (toD r3)]) (et_orM hr8 (et_not (et_b (ev_isiC (c := "Rules") (ev_var rfl) T.is_Rules))) fun b4 => (fun _ e0 => by obtain ⟨r5, hr5, e0⟩ := bind_some e0; exact (by obtain ⟨h6, e0⟩ := ite_some e0; exact (by obtain ⟨h7, e0⟩ := ite_some e0; exact (by have e0 := Option.some.inj e0; subst e0; exact (et_test (ev_op (EvE.cast (y := toD ((shD (toD r5)) : Str)) (EvE.cast (y := toD (shD (toD r5))) (ev_reprD (EvE.cast (y := toD r5) (ev_call (ap_k (ev_var rfl) ap_nil) ⟨_, _, rfl, hr5, rfl⟩) rfl) h6) rfl) rfl) (EvE.cast (y := toD ((shD (toD (([(.inl (.inl (v_book_here).a : ((List (Q5 Str Int (Int ⊕ Str) (Option (P2 Int Str)) (Option Str))) ⊕ (List (List Str)))) : (((List (Q5 Str Int (Int ⊕ Str) (Option (P2 Int Str)) (Option Str))) ⊕ (List (List Str))) ⊕ Bool)), (.inl (.inr (v_book_here).b : ((List (Q5 Str Int (Int ⊕ Str) (Option (P2 Int Str)) (Option Str))) ⊕ (List (List Str)))) : (((List (Q5 Str Int (Int ⊕ Str) (Option (P2 Int Str)) (Option Str))) ⊕ (List (List Str))) ⊕ Bool)), (.inr true : (((List (Q5 Str Int (Int ⊕ Str) (Option (P2 Int Str)) (Option Str))) ⊕ (List (List Str))) ⊕ Bool))] : (List (((List (Q5 Str Int (Int ⊕ Str) (Option (P2 Int Str)) (Option Str))) ⊕ (List (List Str))) ⊕ Bool))) : (List (((List (Q5 Str Int (Int ⊕ Str) (Option (P2 Int Str)) (Option Str))) ⊕ (List (List Str))) ⊕ Bool))))) : Str)) (EvE.cast (y := toD (shD (toD (([(.inl (.inl (v_book_here).a : ((List (Q5 Str Int (Int ⊕ Str) (Option (P2 Int Str)) (Option Str))) ⊕ (List (List Str)))) : (((List (Q5 Str Int (Int ⊕ Str) (Option (P2 Int Str)) (Option Str))) ⊕ (List (List Str))) ⊕ Bool)), (.inl (.inr (v_book_here).b : ((List (Q5 Str Int (Int ⊕ Str) (Option (P2 Int Str)) (Option Str))) ⊕ (List (List Str)))) : (((List (Q5 Str Int (Int ⊕ Str) (Option (P2 Int Str)) (Option Str))) ⊕ (List (List Str))) ⊕ Bool)), (.inr true : (((List (Q5 Str Int (Int ⊕ Str) (Option (P2 Int Str)) (Option Str))) ⊕ (List (List Str))) ⊕ Bool))] : (List (((List (Q5 Str Int (Int ⊕ Str) (Option (P2 Int Str)) (Option Str))) ⊕ (List (List Str))) ⊕ Bool))) : (List (((List (Q5 Str Int (Int ⊕ Str) (Option (P2 Int Str)) (Option Str))) ⊕ (List (List Str))) ⊕ Bool)))))) (ev_reprD (EvE.cast (y := toD (([(.inl (.inl (v_book_here).a : ((List (Q5 Str Int (Int ⊕ Str) (Option (P2 Int Str)) (Option Str))) ⊕ (List (List Str)))) : (((List (Q5 Str Int (Int ⊕ Str) (Option (P2 Int Str)) (Option Str))) ⊕ (List (List Str))) ⊕ Bool)), (.inl (.inr (v_book_here).b : ((List (Q5 Str Int (Int ⊕ Str) (Option (P2 Int Str)) (Option Str))) ⊕ (List (List Str)))) : (((List (Q5 Str Int (Int ⊕ Str) (Option (P2 Int Str)) (Option Str))) ⊕ (List (List Str))) ⊕ Bool)), (.inr true : (((List (Q5 Str Int (Int ⊕ Str) (Option (P2 Int Str)) (Option Str))) ⊕ (List (List Str))) ⊕ Bool))] : (List (((List (Q5 Str Int (Int ⊕ Str) (Option (P2 Int Str)) (Option Str))) ⊕ (List (List Str))) ⊕ Bool))) : (List (((List (Q5 Str Int (Int ⊕ Str) (Option (P2 Int Str)) (Option Str))) ⊕ (List (List Str))) ⊕ Bool)))) (EvO.e (EvO.cast (y := toD ([(.inl (.inl (v_book_here).a : ((List (Q5 Str Int (Int ⊕ Str) (Option (P2 Int Str)) (Option Str))) ⊕ (List (List Str)))) : (((List (Q5 Str Int (Int ⊕ Str) (Option (P2 Int Str)) (Option Str))) ⊕ (List (List Str))) ⊕ Bool)), (.inl (.inr (v_book_here).b : ((List (Q5 Str Int (Int ⊕ Str) (Option (P2 Int Str)) (Option Str))) ⊕ (List (List Str)))) : (((List (Q5 Str Int (Int ⊕ Str) (Option (P2 Int Str)) (Option Str))) ⊕ (List (List Str))) ⊕ Bool)), (.inr true : (((List (Q5 Str Int (Int ⊕ Str) (Option (P2 Int Str)) (Option Str))) ⊕ (List (List Str))) ⊕ Bool))] : (List (((List (Q5 Str Int (Int ⊕ Str) (Option (P2 Int Str)) (Option Str))) ⊕ (List (List Str))) ⊕ Bool)))) (evo_lst (ea_cons (EvE.cast (y := toD ((.inl (.inl (v_book_here).a : ((List (Q5 Str Int (Int ⊕ Str) (Option (P2 Int Str)) (Option Str))) ⊕ (List (List Str)))) : (((List (Q5 Str Int (Int ⊕ Str) (Option (P2 Int Str)) (Option Str))) ⊕ (List (List Str))) ⊕ Bool)) : (((List (Q5 Str Int (Int ⊕ Str) (Option (P2 Int Str)) (Option Str))) ⊕ (List (List Str))) ⊕ Bool))) (EvE.cast (y := toD (.inl (.inl (v_book_here).a : ((List (Q5 Str Int (Int ⊕ Str) (Option (P2 Int Str)) (Option Str))) ⊕ (List (List Str)))) : (((List (Q5 Str Int (Int ⊕ Str) (Option (P2 Int Str)) (Option Str))) ⊕ (List (List Str))) ⊕ Bool))) (EvE.cast (y := toD (.inl (v_book_here).a : ((List (Q5 Str Int (Int ⊕ Str) (Option (P2 Int Str)) (Option Str))) ⊕ (List (List Str))))) (EvE.cast (y := toD ((v_book_here).a : (List (Q5 Str Int (Int ⊕ Str) (Option (P2 Int Str)) (Option Str))))) (ev_op (ev_var rfl) ev_int (rv_ixL rfl)) rfl) rfl) rfl) rfl) (ea_cons (EvE.cast (y := toD ((.inl (.inr (v_book_here).b : ((List (Q5 Str Int (Int ⊕ Str) (Option (P2 Int Str)) (Option Str))) ⊕ (List (List Str)))) : (((List (Q5 Str Int (Int ⊕ Str) (Option (P2 Int Str)) (Option Str))) ⊕ (List (List Str))) ⊕ Bool)) : (((List (Q5 Str Int (Int ⊕ Str) (Option (P2 Int Str)) (Option Str))) ⊕ (List (List Str))) ⊕ Bool))) (EvE.cast (y := toD (.inl (.inr (v_book_here).b : ((List (Q5 Str Int (Int ⊕ Str) (Option (P2 Int Str)) (Option Str))) ⊕ (List (List Str)))) : (((List (Q5 Str Int (Int ⊕ Str) (Option (P2 Int Str)) (Option Str))) ⊕ (List (List Str))) ⊕ Bool))) (EvE.cast (y := toD (.inr (v_book_here).b : ((List (Q5 Str Int (Int ⊕ Str) (Option (P2 Int Str)) (Option Str))) ⊕ (List (List Str))))) (EvE.cast (y := toD ((v_book_here).b : (List (List Str)))) (ev_op (ev_var rfl) ev_int (rv_ixL rfl)) rfl) rfl) rfl) rfl) (ea_cons (EvE.cast (y := toD ((.inr true : (((List (Q5 Str Int (Int ⊕ Str) (Option (P2 Int Str)) (Option Str))) ⊕ (List (List Str))) ⊕ Bool)) : (((List (Q5 Str Int (Int ⊕ Str) (Option (P2 Int Str)) (Option Str))) ⊕ (List (List Str))) ⊕ Bool))) (EvE.cast (y := toD (.inr true : (((List (Q5 Str Int (Int ⊕ Str) (Option (P2 Int Str)) (Option Str))) ⊕ (List (List Str))) ⊕ Bool))) ev_bl rfl) rfl) ea_nil))) (by show 3 ≤ sizeLine; decide)) rfl)) rfl) h7) rfl) rfl) rv_neS)))))))
     (fun b9 => (es_assoc
     (one (es_ret (EvE.cast (y := toD ((none : (Option Ev.Rules)) : (Option Ev.Rules))) (EvE.cast (y := toD none) ev_non rfl) rfl) wok0))))
     (fun b9 => (es_skip
     (bnd fun r10 hr10 =>
     (bnd fun r18 hr18 =>
     (es_ifq (Γ1 := [.d (toD v_book_here), .d (toD ((PySem.Txt.join ("\n" : Str) r1) : Str)), .d (toD r3)]) (et_orM hr18 (et_test (ev_op (EvE.cast (y := toD r10) (EvE.cast (y := toD r10) (ev_strO (c := "Rules") (ev_var rfl) ⟨_, _, rfl, hr10, rfl⟩) rfl) rfl) (EvE.cast (y := toD ((PySem.Txt.join ("\n" : Str) r1) : Str)) (ev_var rfl) rfl) rv_neS)) fun b11 => (fun _ e0 => by obtain ⟨r12, hr12, e0⟩ := bind_some e0; exact (by obtain ⟨r13, hr13, e0⟩ := bind_some e0; exact (by obtain ⟨r17, hr17, e0⟩ := bind_some e0; exact (by have e0 := Option.some.inj e0; subst e0; exact (et_orM hr17 (et_not (et_test (ev_eqOwn (c := "Rules") (ev_var rfl) (EvE.cast (y := toD r12) (ev_call (ap_k (ev_var rfl) ap_nil) ⟨_, _, rfl, hr12, rfl⟩) rfl) T.eq_Rules ⟨_, _, _, rfl, hr13, rfl⟩))) fun b14 => (fun _ e0 => by obtain ⟨r15, hr15, e0⟩ := bind_some e0; exact (by obtain ⟨r16, hr16, e0⟩ := bind_some e0; exact (by have e0 := Option.some.inj e0; subst e0; exact (et_test (ev_op (EvE.cast (y := toD r16) (EvE.cast (y := toD r16) (ev_strO (c := "Rules") (EvE.cast (y := toD r15) (ev_call (ap_k (ev_var rfl) ap_nil) ⟨_, _, rfl, hr15, rfl⟩) rfl) ⟨_, _, rfl, hr16, rfl⟩) rfl) rfl) (EvE.cast (y := toD ((PySem.Txt.join ("\n" : Str) r1) : Str)) (ev_var rfl) rfl) rv_neS)))))))))))
     (fun b19 => (es_assoc
     (one (es_ret (EvE.cast (y := toD ((none : (Option Ev.Rules)) : (Option Ev.Rules))) (EvE.cast (y := toD none) ev_non rfl) rfl) wok0))))
     (fun b19 => (es_skip
     (bnd fun r20 hr20 =>
     (bnd fun r21 hr21 =>
     (bnd fun r22 hr22 =>
     (one (es_ret (EvE.cast (y := toD ((if r22 = true then (some r3 : (Option Ev.Rules)) else (none : (Option Ev.Rules))) : (Option Ev.Rules))) (ev_ifP (et_test (ev_eqOwn (c := "Rules") (EvE.cast (y := toD r21) (ev_cmethK (c := "Rules") (ea_cons (EvE.cast (y := toD r20) (EvE.cast (y := toD r20) (ev_strO (c := "Rules") (ev_var rfl) ⟨_, _, rfl, hr20, rfl⟩) rfl) rfl) ea_nil) (fun _ _ _ r_ => by cases r_ with | cons a_ t_ => cases t_; exact .cons (x := .k _) (.cls "Rules") (.cons (x := .k _) a_ .nil)) ⟨_, _, _, rfl, hr21, rfl⟩) rfl) (ev_var rfl) T.eq_Rules ⟨_, _, _, rfl, hr22, rfl⟩)) (fun b23 => (EvE.cast (y := toD ((some r3 : (Option Ev.Rules)) : (Option Ev.Rules))) (EvE.cast (y := toD (some r3 : (Option Ev.Rules))) (ev_var rfl) rfl) rfl)) (fun b23 => (EvE.cast (y := toD ((none : (Option Ev.Rules)) : (Option Ev.Rules))) (EvE.cast (y := toD none) ev_non rfl) rfl))) rfl) wok0)))))))))))))))))))
noncomputable def fn_right (v_bag_here : (Q3 Int Int Int)) (v_bounds_here : (List Str)) : Option (Bool × (Q3 Int Int Int)) :=
  ((fn_book (v_bag_here) (v_bounds_here)).bind fun r1 =>
     ((fn_other (r1.2) (r1.1) (v_bounds_here)).bind fun r2 =>
     ((fn_back (r1.1)).bind fun r3 =>
     ((fn_back (r2.1)).bind fun r4 =>
     (if (((r3).isNone) || ((r4).isNone)) = true then
     some (false, r2.2) else
     ((r3).bind fun r7 =>
     ((r4).bind fun r8 =>
     ((fn_Rules_eq (r7) (r8)).bind fun r9 =>
     ((fn_lines (r1.1)).bind fun r10 =>
     ((fn_lines (r2.1)).bind fun r11 =>
     (if EqOk (toD r10) (toD r11) then
     ((if (decide (r9 = (dEq (toD r10) (toD r11)))) = true then ((r3).bind fun r14 => ((r4).bind fun r15 => ((fn_Rules_eq (r14) (r15)).bind fun r16 => ((r3).bind fun r17 => ((fn_Rules_str r17).bind fun r18 => ((r4).bind fun r19 => ((fn_Rules_str r19).bind fun r20 => some (decide ((!r16) = (!decide (r18 = r20))))))))))) else some false).bind fun r21 =>
     some (r21, r2.2)) else none)))))))))))
def pre_right : D → List D → D → D → Prop := fun x xs y x' => ∃ (v_bag_here : (Q3 Int Int Int)) (v_bounds_here : (List Str)), ∃ (r : Bool × (Q3 Int Int Int)), x = toD v_bag_here ∧ xs = [toD v_bounds_here] ∧ fn_right v_bag_here v_bounds_here = some r ∧ y = toD r.1 ∧ x' = toD r.2
theorem ok_right (M : Ds K mg) (T : Txt K mg) : OkG P w K mg base CX0 10 M.f_right M.fd_right P_right (spW K pre_right) := by
  refine okG0 M.D_right.fn sc_right (fun vs H Q E h => ?_) (fun cdv A outer s H vs Q E hG hr h => ?_)
  · obtain ⟨F, a, o, x, xs, vs', y, x', rfl, _, _, _, _, rp, pr, _⟩ := h
    obtain ⟨v_bag_here, v_bounds_here, r, rfl, rfl, _⟩ := pr
    exact congrArg Nat.succ rp.len
  · obtain ⟨F, a, o, x, xs, vs', y, x', rfl, sF, fa, ha, ro, rp, pr, ret⟩ := h
    obtain ⟨v_bag_here, v_bounds_here, r, rfl, rfl, hf, rfl, rfl⟩ := pr
    skip
    refine ⟨_, (pss_cons (ps_asg (pe_call (ok_book M T) (hr.mono (by decide)) rfl M.D_book.mg M.D_book.fn.kp M.D_book.bd .nil pass0 (pa_cons (pv 0) (pa_cons (pv 1) pa_nil))) (pg_name (i := 2) sc_right.nd rfl (.inl rfl)))
     (pss_cons (ps_asg (pe_call (ok_other M T) (hr.mono (by decide)) rfl M.D_other.mg M.D_other.fn.kp M.D_other.bd .nil pass0 (pa_cons (pv 0) (pa_cons (pv 2) (pa_cons (pv 1) pa_nil)))) (pg_name (i := 3) sc_right.nd rfl (.inl rfl)))
     (pss_cons (ps_par (i := 4) (j := 5) (by rfl) sc_right.nd rfl rfl (by decide) rfl rfl (pa_cons (pe_callG (ok_back M T) hG (hr.mono (by decide)) rfl M.D_back.mg M.D_back.fn.kp M.D_back.bd .nil pass0 (pa_cons (pv 2) pa_nil)) (pa_cons (pe_callG (ok_back M T) hG (hr.mono (by decide)) rfl M.D_back.mg M.D_back.fn.kp M.D_back.bd .nil pass0 (pa_cons (pv 3) pa_nil)) pa_nil)) (by rfl))
     (pss_cons (ps_if (PW.pt (pw_or (pt_cmpR op_isN (pv 4) pe_non (nomark _)) (pw_or1 (pt_cmpR op_isN (pv 5) pe_non (nomark _)))))
     (pss_cons (ps_ret pe_bl)
     pss_nil)
     pss_nil)
     (pss_cons (ps_ret (pe_and (pe_cmpR op_eq (pe_cmpR (op_eqOwnL (T.eq_Rules.eqO M.D_Rules_eq.at_ M.D_Rules_eq.isf) (raw_ok (ok_Rules_eq M T) M.D_Rules_eq.bd) (hr.mono (by decide)) pass0) (pv 4) (pv 5) (nomark _)) (pe_cmpR (op_eqD hr.units) (pe_call (ok_lines M T) (hr.mono (by decide)) rfl M.D_lines.mg M.D_lines.fn.kp M.D_lines.bd .nil pass0 (pa_cons (pv 2) pa_nil)) (pe_call (ok_lines M T) (hr.mono (by decide)) rfl M.D_lines.mg M.D_lines.fn.kp M.D_lines.bd .nil pass0 (pa_cons (pv 3) pa_nil)) (nomark _)) (nomark _)) (pe_one (pe_cmpR op_eq (pe_cmpR (op_neOwnL (T.eq_Rules.eqO M.D_Rules_eq.at_ M.D_Rules_eq.isf) (raw_ok (ok_Rules_eq M T) M.D_Rules_eq.bd) (hr.mono (by decide)) pass0) (pv 4) (pv 5) (nomark _)) (pe_cmpR op_ne (pe_callTy (Hv.call_strI M.D_Rules_str.at_ M.D_Rules_str.isf (raw_ok (ok_Rules_str M T) M.D_Rules_str.bd) (hr.mono (by decide)) pass0) (by rfl) T.str (by decide +kernel) (pa_cons (pv 4) pa_nil)) (pe_callTy (Hv.call_strI M.D_Rules_str.at_ M.D_Rules_str.isf (raw_ok (ok_Rules_str M T) M.D_Rules_str.bd) (hr.mono (by decide)) pass0) (by rfl) T.str (by decide +kernel) (pa_cons (pv 5) pa_nil)) (nomark _)) (nomark _)))))
     pss_nil))))), ?_⟩
    unfold fn_right at hf
    refine run_W (Kn := fun p => .rt (toD p.1) [(0, toD p.2)]) sF fa ha ro rp ret ?_ hf rfl
    exact (bnd fun r1 hr1 =>
     (es_seq (Γ1 := [.own 1 (toD r1.2), .d (toD v_bounds_here), .d (toD r1.1), .u, .u, .u]) (es_asg (EvE.cast (y := toD r1.1) (ev_callW (p := 1) rfl (ea_cons (ev_var rfl) ea_nil) rfl ⟨_, _, _, rfl, rfl, hr1, rfl, rfl⟩) rfl) eg_name)
     (bnd fun r2 hr2 =>
     (es_seq (Γ1 := [.own 1 (toD r2.2), .d (toD v_bounds_here), .d (toD r1.1), .d (toD r2.1), .u, .u]) (es_asg (EvE.cast (y := toD r2.1) (ev_callW (p := 1) rfl (ea_cons (ev_var rfl) (ea_cons (ev_var rfl) ea_nil)) rfl ⟨_, _, _, _, rfl, rfl, hr2, rfl, rfl⟩) rfl) eg_name)
     (bnd fun r3 hr3 =>
     (bnd fun r4 hr4 =>
     (es_seq (Γ1 := [.own 1 (toD r2.2), .d (toD v_bounds_here), .d (toD r1.1), .d (toD r2.1), .d (toD r3), .d (toD r4)]) (es_par (ea_cons (EvE.cast (y := toD r3) (ev_call (ap_k (ev_var rfl) ap_nil) ⟨_, _, rfl, hr3, rfl⟩) rfl) (ea_cons (EvE.cast (y := toD r4) (ev_call (ap_k (ev_var rfl) ap_nil) ⟨_, _, rfl, hr4, rfl⟩) rfl) ea_nil)))
     (es_ifq (Γ1 := [.own 1 (toD r2.2), .d (toD v_bounds_here), .d (toD r1.1), .d (toD r2.1), .d (toD r3), .d (toD r4)]) (et_or (et_test (ev_isN (ev_var rfl))) fun b5 => (et_test (ev_isN (ev_var rfl))))
     (fun b6 => (es_assoc
     (one (es_ret (EvE.cast (y := toD false) ev_bl rfl) (wok1 rfl)))))
     (fun b6 => (es_skip
     (bnd fun r7 hr7 =>
     (bnd fun r8 hr8 =>
     (bnd fun r9 hr9 =>
     (bnd fun r10 hr10 =>
     (bnd fun r11 hr11 =>
     (grd fun h12 =>
     (bnd fun r21 hr21 =>
     (one (es_ret (EvE.cast (y := toD r21) (ev_andM hr21 (ev_op (EvE.cast (y := toD r9) (ev_eqOwn (c := "Rules") (EvE.cast (y := toD r7) (EvE.cast (y := toD r7) (ev_var rfl) (by rw [hr7]; rfl)) rfl) (EvE.cast (y := toD r8) (EvE.cast (y := toD r8) (ev_var rfl) (by rw [hr8]; rfl)) rfl) T.eq_Rules ⟨_, _, _, rfl, hr9, rfl⟩) rfl) (EvE.cast (y := toD ((dEq (toD r10) (toD r11)) : Bool)) (ev_op (EvE.cast (y := toD r10) (ev_call (ap_k (ev_var rfl) ap_nil) ⟨_, _, rfl, hr10, rfl⟩) rfl) (EvE.cast (y := toD r11) (ev_call (ap_k (ev_var rfl) ap_nil) ⟨_, _, rfl, hr11, rfl⟩) rfl) (rv_eqD h12)) rfl) rv_eqB) fun b13 => (fun _ e0 => by obtain ⟨r14, hr14, e0⟩ := bind_some e0; exact (by obtain ⟨r15, hr15, e0⟩ := bind_some e0; exact (by obtain ⟨r16, hr16, e0⟩ := bind_some e0; exact (by obtain ⟨r17, hr17, e0⟩ := bind_some e0; exact (by obtain ⟨r18, hr18, e0⟩ := bind_some e0; exact (by obtain ⟨r19, hr19, e0⟩ := bind_some e0; exact (by obtain ⟨r20, hr20, e0⟩ := bind_some e0; exact (by have e0 := Option.some.inj e0; subst e0; exact (ev_op (EvE.cast (y := toD ((!r16) : Bool)) (ev_neOwn (c := "Rules") (EvE.cast (y := toD r14) (EvE.cast (y := toD r14) (ev_var rfl) (by rw [hr14]; rfl)) rfl) (EvE.cast (y := toD r15) (EvE.cast (y := toD r15) (ev_var rfl) (by rw [hr15]; rfl)) rfl) T.eq_Rules ⟨_, _, _, rfl, hr16, rfl⟩) rfl) (EvE.cast (y := toD ((!decide (r18 = r20)) : Bool)) (ev_op (EvE.cast (y := toD r18) (EvE.cast (y := toD r18) (ev_strO (c := "Rules") (EvE.cast (y := toD r17) (EvE.cast (y := toD r17) (ev_var rfl) (by rw [hr17]; rfl)) rfl) ⟨_, _, rfl, hr18, rfl⟩) rfl) rfl) (EvE.cast (y := toD r20) (EvE.cast (y := toD r20) (ev_strO (c := "Rules") (EvE.cast (y := toD r19) (EvE.cast (y := toD r19) (ev_var rfl) (by rw [hr19]; rfl)) rfl) ⟨_, _, rfl, hr20, rfl⟩) rfl) rfl) rv_neS) rfl) rv_eqB)))))))))) rfl) (wok1 rfl))))))))))))))))))))
noncomputable def fn_longest_right  : Option (Bool) :=
  (if List.length (signs ("abcdef" : Str)) ≤ sizeLine then
     ((lcO (fun (x2 : Sg) => (if Str.length ("longest" : Str) + Str.length (⟨#[(x2).c]⟩ : Str) ≤ sizeLine then some (some (("longest" : Str) ++ (⟨#[(x2).c]⟩ : Str))) else none)) (signs ("abcdef" : Str))).bind fun r5 =>
     (if List.length r5 ≤ sizeLine then
     (if -(2 ^ 62) ≤ (36 : Int) ∧ (36 : Int) < 2 ^ 62 then
     (if List.length (rng 0 (36 : Int)) ≤ sizeLine then
     ((lcO (fun (x11 : Int) => (if CDivW x11 (6 : Int) then ((atI r5 (x11 / (6 : Int))).bind fun r13 => (if 0 < (6 : Int) then ((atI r5 (x11 % (6 : Int))).bind fun r15 => (if 0 < (4 : Int) then ((atI ([("each 3" : Str), ("again" : Str), ("free" : Str), ("all 2" : Str)] : (List Str)) (x11 % (4 : Int))).bind fun r17 => some (some ([r13, r15, r17] : (List Str)))) else none)) else none)) else none)) (rng 0 (36 : Int))).bind fun r19 =>
     ((fn_back ((⟨(List.map (fun (x7 : Str) => (⟨x7, (3 : Int), (.inr ("over 10/11" : Str) : (Int ⊕ Str)), (some (⟨(3 : Int), ("over 11/12" : Str)⟩ : (P2 Int Str)) : (Option (P2 Int Str))), (some ("over 11/12" : Str) : (Option Str))⟩ : (Q5 Str Int (Int ⊕ Str) (Option (P2 Int Str)) (Option Str)))) r5), r19⟩ : (Q2 (List (Q5 Str Int (Int ⊕ Str) (Option (P2 Int Str)) (Option Str))) (List (List Str)))))).bind fun r20 =>
     some (!(r20).isNone))) else none) else none) else none)) else none)
def pre_longest_right : List Ar → D → Prop := fun xs y => ∃ (r : Bool), xs = [] ∧ fn_longest_right = some r ∧ y = toD r
theorem ok_longest_right (M : Ds K mg) (T : Txt K mg) : OkG P w K mg base CX0 10 M.f_longest_right M.fd_longest_right P_longest_right (spE K pre_longest_right) := by
  refine okG0 M.D_longest_right.fn sc_longest_right (fun vs H Q E h => ?_) (fun cdv A outer s H vs Q E hG hr h => ?_)
  · obtain ⟨F, xs, y, _, ar, pr, _⟩ := h
    obtain ⟨r, rfl, _⟩ := pr
    exact ar.len
  · obtain ⟨F, xs, y, sF, ar, pr, ret⟩ := h
    obtain ⟨r, rfl, hf, rfl⟩ := pr
    refine ⟨_, (pss_cons (ps_asg (pe_lc (own := [("_law_sign", 3)]) (g := gName 3) rfl sc_longest_right.nd (pi_str pe_str) (blkOk_by (own := [("_law_sign", 3)]) (N := N_longest_right) (sc := defScope s_longest_right) (by decide +kernel)) (fun _ _ _ _ _ => (pg_name (i := 3) sc_longest_right.nd rfl (.inl rfl))) (fun _ _ _ _ _ => pts_nil) (fun _ _ _ _ _ => (pe_op op_add_str pe_str (pv 3)))) (pg_name (i := 0) sc_longest_right.nd rfl (.inr rfl)))
     (pss_cons (ps_setLc (i := 1) (own := [("_law_tag_here", 4)]) (g := gName 4) rfl sc_longest_right.nd rfl rfl (sw_true rfl rfl rfl (by decide +kernel)) (show PI _ _ _ (iList K _) from pi_list (pv 0)) (blkOk_by (own := [("_law_tag_here", 4)]) (N := N_longest_right) (sc := defScope s_longest_right) (by decide +kernel)) (fun _ _ _ _ _ => (pg_name (i := 4) sc_longest_right.nd rfl (.inl rfl))) (fun _ _ _ _ _ => pts_nil) (fun _ _ _ _ _ => (pe_lst (pa_cons (pv 4) (pa_cons pe_int (pa_cons pe_str (pa_cons (pe_tup (pa_cons pe_int (pa_cons pe_str pa_nil))) (pa_cons pe_str pa_nil))))))))
     (pss_cons (ps_setLc (i := 2) (own := [("_law_k", 5)]) (g := gName 5) rfl sc_longest_right.nd rfl rfl (sw_true rfl rfl rfl (by decide +kernel)) (pi_range1 (by rfl) T.range (pa_cons pe_int pa_nil)) (blkOk_by (own := [("_law_k", 5)]) (N := N_longest_right) (sc := defScope s_longest_right) (by decide +kernel)) (fun _ _ _ _ _ => (pg_name (i := 5) sc_longest_right.nd rfl (.inl rfl))) (fun _ _ _ _ _ => pts_nil) (fun _ _ _ _ _ => (pe_lst (pa_cons (pe_ix (show IxR _ (rIxL K) from ix_list) (pv 0) (pe_op op_fdivW (pv 5) pe_int) (fun _ _ => rfl)) (pa_cons (pe_ix (show IxR _ (rIxL K) from ix_list) (pv 0) (pe_op op_mod (pe_callTy call_int1 (by rfl) T.int (by decide +kernel) (pa_cons (pv 5) pa_nil)) pe_int) (fun _ _ => rfl)) (pa_cons (pe_ix (show IxR _ (rIxL K) from ix_list) (pe_lst (pa_cons pe_str (pa_cons pe_str (pa_cons pe_str (pa_cons pe_str pa_nil))))) (pe_op op_mod (pe_callTy call_int1 (by rfl) T.int (by decide +kernel) (pa_cons (pv 5) pa_nil)) pe_int) (fun _ _ => rfl)) pa_nil))))))
     (pss_cons (ps_ret (pe_cmpR op_notN (pe_callG (ok_back M T) hG (hr.mono (by decide)) rfl M.D_back.mg M.D_back.fn.kp M.D_back.bd .nil pass0 (pa_cons (pe_lst (pa_cons (pv 1) (pa_cons (pv 2) pa_nil))) pa_nil)) pe_non (nomark _)))
     pss_nil)))), ?_⟩
    unfold fn_longest_right at hf
    refine run_rt (Kn := fun y => .rt (toD y) []) sF ar ret ?_ hf rfl
    exact (grd fun h1 =>
     (bnd fun r5 hr5 =>
     (es_seq (Γ1 := [.d (toD r5), .u, .u, .u, .u, .u]) (es_asg (EvE.cast (y := toD r5) (EvO.e (EvO.cast (y := toD r5) (evo_lcO (fD := toD) (gD := toD) (Γ2 := [.u, .u, .u, .u, .u, .u]) (G1 := fun (x2 : Sg) => [.u, .u, .u, .d (toD x2), .u, .u]) hr5 h1 (ei_str (EvE.cast (y := toD (("abcdef" : Str) : Str)) ev_str rfl)) (by repeat first | exact .nil | apply Wk.keep | apply Wk.drop) (off_of rfl) (fun _ x2 => (egw_name (by decide))) (fun _ x2 _ e0 => by obtain ⟨h3, e0⟩ := ite_some e0; exact (by have e0 := Option.some.inj e0; subst e0; exact ⟨et_yes, fun _ ey => by have ey := Option.some.inj ey; subst ey; exact (EvE.cast (y := toD ((("longest" : Str) ++ (⟨#[(x2).c]⟩ : Str)) : Str)) (ev_op ev_str (EvE.cast (y := .str ⟨#[(x2).c]⟩) (ev_var rfl) rfl) (rv_addS h3)) rfl)⟩)) (fun x2 => by repeat first | exact .nil | apply Wk.keep | apply Wk.drop)) rfl)) rfl) eg_name)
     (grd fun h6 =>
     (es_seq (Γ1 := [.d (toD r5), .d (toD ((List.map (fun (x7 : Str) => (⟨x7, (3 : Int), (.inr ("over 10/11" : Str) : (Int ⊕ Str)), (some (⟨(3 : Int), ("over 11/12" : Str)⟩ : (P2 Int Str)) : (Option (P2 Int Str))), (some ("over 11/12" : Str) : (Option Str))⟩ : (Q5 Str Int (Int ⊕ Str) (Option (P2 Int Str)) (Option Str)))) r5) : (List (Q5 Str Int (Int ⊕ Str) (Option (P2 Int Str)) (Option Str))))), .u, .u, .u, .u]) (es_asg (EvE.cast (y := toD ((List.map (fun (x7 : Str) => (⟨x7, (3 : Int), (.inr ("over 10/11" : Str) : (Int ⊕ Str)), (some (⟨(3 : Int), ("over 11/12" : Str)⟩ : (P2 Int Str)) : (Option (P2 Int Str))), (some ("over 11/12" : Str) : (Option Str))⟩ : (Q5 Str Int (Int ⊕ Str) (Option (P2 Int Str)) (Option Str)))) r5) : (List (Q5 Str Int (Int ⊕ Str) (Option (P2 Int Str)) (Option Str))))) (EvO.e (EvO.cast (y := toD ((List.map (fun (x7 : Str) => (⟨x7, (3 : Int), (.inr ("over 10/11" : Str) : (Int ⊕ Str)), (some (⟨(3 : Int), ("over 11/12" : Str)⟩ : (P2 Int Str)) : (Option (P2 Int Str))), (some ("over 11/12" : Str) : (Option Str))⟩ : (Q5 Str Int (Int ⊕ Str) (Option (P2 Int Str)) (Option Str)))) r5) : (List (Q5 Str Int (Int ⊕ Str) (Option (P2 Int Str)) (Option Str))))) (evo_lcP (fD := toD) (gD := toD) (c := (fun (x7 : Str) => true)) (f := (fun (x7 : Str) => (⟨x7, (3 : Int), (.inr ("over 10/11" : Str) : (Int ⊕ Str)), (some (⟨(3 : Int), ("over 11/12" : Str)⟩ : (P2 Int Str)) : (Option (P2 Int Str))), (some ("over 11/12" : Str) : (Option Str))⟩ : (Q5 Str Int (Int ⊕ Str) (Option (P2 Int Str)) (Option Str))))) (Γ2 := [.d (toD r5), .u, .u, .u, .u, .u]) (G1 := fun (x7 : Str) => [.d (toD r5), .u, .u, .u, .d (toD x7), .u]) h6 (ei_list (ev_var rfl)) (by repeat first | exact .nil | apply Wk.keep | apply Wk.drop) (off_of rfl) (fun _ x7 => (egw_name (by decide))) (fun _ x7 => et_yes) (fun _ x7 b8 => (EvE.cast (y := toD ((⟨x7, (3 : Int), (.inr ("over 10/11" : Str) : (Int ⊕ Str)), (some (⟨(3 : Int), ("over 11/12" : Str)⟩ : (P2 Int Str)) : (Option (P2 Int Str))), (some ("over 11/12" : Str) : (Option Str))⟩ : (Q5 Str Int (Int ⊕ Str) (Option (P2 Int Str)) (Option Str))) : (Q5 Str Int (Int ⊕ Str) (Option (P2 Int Str)) (Option Str)))) (EvO.e (EvO.cast (y := toD (⟨x7, (3 : Int), (.inr ("over 10/11" : Str) : (Int ⊕ Str)), (some (⟨(3 : Int), ("over 11/12" : Str)⟩ : (P2 Int Str)) : (Option (P2 Int Str))), (some ("over 11/12" : Str) : (Option Str))⟩ : (Q5 Str Int (Int ⊕ Str) (Option (P2 Int Str)) (Option Str)))) (evo_lst (ea_cons (ev_var rfl) (ea_cons (EvE.cast (y := toD ((3 : Int) : Int)) ev_int rfl) (ea_cons (EvE.cast (y := toD ((.inr ("over 10/11" : Str) : (Int ⊕ Str)) : (Int ⊕ Str))) (EvE.cast (y := toD (.inr ("over 10/11" : Str) : (Int ⊕ Str))) ev_str rfl) rfl) (ea_cons (EvE.cast (y := toD ((some (⟨(3 : Int), ("over 11/12" : Str)⟩ : (P2 Int Str)) : (Option (P2 Int Str))) : (Option (P2 Int Str)))) (EvE.cast (y := toD (some (⟨(3 : Int), ("over 11/12" : Str)⟩ : (P2 Int Str)) : (Option (P2 Int Str)))) (EvE.cast (y := toD (⟨(3 : Int), ("over 11/12" : Str)⟩ : (P2 Int Str))) (ev_tup (ea_cons (EvE.cast (y := toD ((3 : Int) : Int)) ev_int rfl) (ea_cons (EvE.cast (y := toD (("over 11/12" : Str) : Str)) ev_str rfl) ea_nil)) (by show 2 ≤ sizeLine; decide)) rfl) rfl) rfl) (ea_cons (EvE.cast (y := toD ((some ("over 11/12" : Str) : (Option Str)) : (Option Str))) (EvE.cast (y := toD (some ("over 11/12" : Str) : (Option Str))) ev_str rfl) rfl) ea_nil))))) (by show 5 ≤ sizeLine; decide)) rfl)) rfl)) (fun x7 => by repeat first | exact .nil | apply Wk.keep | apply Wk.drop)) (by rw [filter_true] <;> rfl))) rfl) eg_name)
     (grd fun h9 =>
     (grd fun h10 =>
     (bnd fun r19 hr19 =>
     (es_seq (Γ1 := [.d (toD r5), .d (toD ((List.map (fun (x7 : Str) => (⟨x7, (3 : Int), (.inr ("over 10/11" : Str) : (Int ⊕ Str)), (some (⟨(3 : Int), ("over 11/12" : Str)⟩ : (P2 Int Str)) : (Option (P2 Int Str))), (some ("over 11/12" : Str) : (Option Str))⟩ : (Q5 Str Int (Int ⊕ Str) (Option (P2 Int Str)) (Option Str)))) r5) : (List (Q5 Str Int (Int ⊕ Str) (Option (P2 Int Str)) (Option Str))))), .d (toD r19), .u, .u, .u]) (es_asg (EvE.cast (y := toD r19) (EvO.e (EvO.cast (y := toD r19) (evo_lcO (fD := toD) (gD := toD) (Γ2 := [.d (toD r5), .d (toD ((List.map (fun (x7 : Str) => (⟨x7, (3 : Int), (.inr ("over 10/11" : Str) : (Int ⊕ Str)), (some (⟨(3 : Int), ("over 11/12" : Str)⟩ : (P2 Int Str)) : (Option (P2 Int Str))), (some ("over 11/12" : Str) : (Option Str))⟩ : (Q5 Str Int (Int ⊕ Str) (Option (P2 Int Str)) (Option Str)))) r5) : (List (Q5 Str Int (Int ⊕ Str) (Option (P2 Int Str)) (Option Str))))), .u, .u, .u, .u]) (G1 := fun (x11 : Int) => [.d (toD r5), .d (toD ((List.map (fun (x7 : Str) => (⟨x7, (3 : Int), (.inr ("over 10/11" : Str) : (Int ⊕ Str)), (some (⟨(3 : Int), ("over 11/12" : Str)⟩ : (P2 Int Str)) : (Option (P2 Int Str))), (some ("over 11/12" : Str) : (Option Str))⟩ : (Q5 Str Int (Int ⊕ Str) (Option (P2 Int Str)) (Option Str)))) r5) : (List (Q5 Str Int (Int ⊕ Str) (Option (P2 Int Str)) (Option Str))))), .u, .u, .u, .d (toD x11)]) hr19 h10 (ei_range1 ev_int h9) (by repeat first | exact .nil | apply Wk.keep | apply Wk.drop) (off_of rfl) (fun _ x11 => (egw_name (by decide))) (fun _ x11 _ e0 => by obtain ⟨h12, e0⟩ := ite_some e0; exact (by obtain ⟨r13, hr13, e0⟩ := bind_some e0; exact (by obtain ⟨h14, e0⟩ := ite_some e0; exact (by obtain ⟨r15, hr15, e0⟩ := bind_some e0; exact (by obtain ⟨h16, e0⟩ := ite_some e0; exact (by obtain ⟨r17, hr17, e0⟩ := bind_some e0; exact (by have e0 := Option.some.inj e0; subst e0; exact ⟨et_yes, fun _ ey => by have ey := Option.some.inj ey; subst ey; exact (EvE.cast (y := toD (([r13, r15, r17] : (List Str)) : (List Str))) (EvO.e (EvO.cast (y := toD ([r13, r15, r17] : (List Str))) (evo_lst (ea_cons (EvE.cast (y := toD r13) (ev_op (ev_var rfl) (ev_op (ev_var rfl) ev_int (rv_div h12)) (rv_ixL (at_map toD hr13))) rfl) (ea_cons (EvE.cast (y := toD r15) (ev_op (ev_var rfl) (ev_op (ev_int1 (ev_var rfl)) ev_int (rv_mod h14)) (rv_ixL (at_map toD hr15))) rfl) (ea_cons (EvE.cast (y := toD r17) (ev_op (EvE.cast (y := toD (([("each 3" : Str), ("again" : Str), ("free" : Str), ("all 2" : Str)] : (List Str)) : (List Str))) (EvO.e (EvO.cast (y := toD ([("each 3" : Str), ("again" : Str), ("free" : Str), ("all 2" : Str)] : (List Str))) (evo_lst (ea_cons (EvE.cast (y := toD (("each 3" : Str) : Str)) ev_str rfl) (ea_cons (EvE.cast (y := toD (("again" : Str) : Str)) ev_str rfl) (ea_cons (EvE.cast (y := toD (("free" : Str) : Str)) ev_str rfl) (ea_cons (EvE.cast (y := toD (("all 2" : Str) : Str)) ev_str rfl) ea_nil)))) (by show 4 ≤ sizeLine; decide)) rfl)) rfl) (ev_op (ev_int1 (ev_var rfl)) ev_int (rv_mod h16)) (rv_ixL (at_map toD hr17))) rfl) ea_nil))) (by show 3 ≤ sizeLine; decide)) rfl)) rfl)⟩))))))) (fun x11 => by repeat first | exact .nil | apply Wk.keep | apply Wk.drop)) rfl)) rfl) eg_name)
     (bnd fun r20 hr20 =>
     (one (es_ret (EvE.cast (y := toD ((!(r20).isNone) : Bool)) (ev_notN (EvE.cast (y := toD r20) (ev_call (ap_k (EvE.cast (y := toD ((⟨(List.map (fun (x7 : Str) => (⟨x7, (3 : Int), (.inr ("over 10/11" : Str) : (Int ⊕ Str)), (some (⟨(3 : Int), ("over 11/12" : Str)⟩ : (P2 Int Str)) : (Option (P2 Int Str))), (some ("over 11/12" : Str) : (Option Str))⟩ : (Q5 Str Int (Int ⊕ Str) (Option (P2 Int Str)) (Option Str)))) r5), r19⟩ : (Q2 (List (Q5 Str Int (Int ⊕ Str) (Option (P2 Int Str)) (Option Str))) (List (List Str)))) : (Q2 (List (Q5 Str Int (Int ⊕ Str) (Option (P2 Int Str)) (Option Str))) (List (List Str))))) (EvO.e (EvO.cast (y := toD (⟨(List.map (fun (x7 : Str) => (⟨x7, (3 : Int), (.inr ("over 10/11" : Str) : (Int ⊕ Str)), (some (⟨(3 : Int), ("over 11/12" : Str)⟩ : (P2 Int Str)) : (Option (P2 Int Str))), (some ("over 11/12" : Str) : (Option Str))⟩ : (Q5 Str Int (Int ⊕ Str) (Option (P2 Int Str)) (Option Str)))) r5), r19⟩ : (Q2 (List (Q5 Str Int (Int ⊕ Str) (Option (P2 Int Str)) (Option Str))) (List (List Str))))) (evo_lst (ea_cons (EvE.cast (y := toD ((List.map (fun (x7 : Str) => (⟨x7, (3 : Int), (.inr ("over 10/11" : Str) : (Int ⊕ Str)), (some (⟨(3 : Int), ("over 11/12" : Str)⟩ : (P2 Int Str)) : (Option (P2 Int Str))), (some ("over 11/12" : Str) : (Option Str))⟩ : (Q5 Str Int (Int ⊕ Str) (Option (P2 Int Str)) (Option Str)))) r5) : (List (Q5 Str Int (Int ⊕ Str) (Option (P2 Int Str)) (Option Str))))) (ev_var rfl) rfl) (ea_cons (ev_var rfl) ea_nil)) (by show 2 ≤ sizeLine; decide)) rfl)) rfl) ap_nil) ⟨_, _, rfl, hr20, rfl⟩) rfl)) rfl) wok0))))))))))))
end L
namespace Hv
open PySem L2
abbrev text (n : Nat) : Str := Str.ofString (toString ((n : Nat) : Int))
def numOf (z : Str) (most : Nat) : Option Nat := (List.range (most + 1)).find? fun n => decide (text n = z)
theorem text_int : ∀ n < 13, intText? (text n) = some (n : Int) := by decide +kernel
theorem text_len : ∀ m < 13, ∀ n < m + 1, 1 ≤ (text n).length ∧ (text n).length ≤ (text m).length := by decide +kernel
theorem text_digits : ∀ n < 13, ∀ c ∈ (text n).cps.toList, c ∈ (Str.ofString "0123456789").cps.toList := by decide +kernel
theorem text_short : ∀ m < 13, (text m).length ≤ 2 := by decide +kernel
theorem digits_in : ∀ c ∈ (Str.ofString "0123456789").cps.toList, 48 ≤ c ∧ c ≤ 57 := by decide +kernel
theorem numOf_some {z : Str} {m n : Nat} (h : numOf z m = some n) : n ≤ m ∧ text n = z := by
  unfold numOf at h
  have h1 := List.mem_of_find?_eq_some h
  have h2 := List.find?_some h
  exact ⟨by have := List.mem_range.mp h1; omega, of_decide_eq_true h2⟩
theorem numOf_of {z : Str} {m n : Nat} (hm : m ≤ 12) (hn : n ≤ m) (e : text n = z) : numOf z m = some n := by
  cases q : numOf z m with
  | none =>
    unfold numOf at q
    have := (List.find?_eq_none.mp q) n (List.mem_range.mpr (by omega))
    exact absurd (decide_eq_true e) this
  | some k =>
    obtain ⟨h1, h2⟩ := numOf_some q
    have a := text_int n (by omega)
    have b := text_int k (by omega)
    rw [e] at a
    rw [h2, a] at b
    have := Option.some.inj b
    rw [Int.ofNat.inj this]
theorem numOf_none {z : Str} {m : Nat} (h : ∀ n, n ≤ m → text n ≠ z) : numOf z m = none := by
  cases q : numOf z m with
  | none => rfl
  | some k => exact absurd (numOf_some q).2 (h k (numOf_some q).1)
/-- the signs are all digits: the text is a number's -/
theorem all_digits {z : Str} (h1 : 1 ≤ z.length) (h2 : z.length ≤ 2) (h : ∀ c ∈ z.cps.toList, c ∈ (Str.ofString "0123456789").cps.toList) : ∃ n : Nat, intText? z = some (n : Int) := by
  have e : z = SX.S z.cps.toList := by
    cases z
    rfl
  refine ⟨NumText.digitsVal z.cps.toList, ?_⟩
  rw [e]
  refine SX.int_S ?_ ?_ ?_
  · rw [List.all_eq_true]
    intro c hc
    have := digits_in c (h c (by simpa using hc))
    rw [Bool.and_eq_true, decide_eq_true_eq, decide_eq_true_eq]
    exact this
  · intro q
    have : z.cps.toList.length = 0 := by rw [q]; rfl
    have l : z.length = z.cps.toList.length := by
      show z.cps.size = _
      simp
    omega
  · have l : z.length = z.cps.toList.length := by
      show z.cps.size = _
      simp
    omega
abbrev MARK : Str := Str.ofString "over "
abbrev SLASH : Str := Str.ofString "/"
def isOver (z : Str) : Bool := Txt.startswith z MARK
def fracOf (z : Str) : Option (Nat × Nat) :=
  match Txt.split (Txt.removeprefix z MARK) SLASH with
  | [a, b] =>
    match numOf a 12, numOf b 12 with
    | some p, some q => if q < 1 ∨ 1 < Nat.gcd p q then none else if p + (if isOver z then 1 else 0) ≤ q then some (p, q) else none
    | _, _ => none
  | _ => none
/-- what fraction_of asks of a text's length -/
structure TextOk (z : Str) : Prop where
  own : z.length + 2 ≤ sizeLine
  cut : (Txt.removeprefix z MARK).length + 2 ≤ sizeLine
  part : ∀ p ∈ Txt.split (Txt.removeprefix z MARK) SLASH, p.length ≤ sizeLine
/-- whether p of w meet the bound z, which is a / b -/
def met (z : Str) (a b : Nat) (p w : Int) : Bool := if isOver z then decide (w * a < p * b) else decide (w * a ≤ p * b)
theorem fracOf_len {z : Str} (h : (Txt.split (Txt.removeprefix z MARK) SLASH).length ≠ 2) : fracOf z = none := by
  unfold fracOf
  split
  · rename_i e
    rw [e] at h
    exact absurd rfl h
  · rfl
theorem fracOf_two {z a b : Str} (e : Txt.split (Txt.removeprefix z MARK) SLASH = [a, b]) : fracOf z = match numOf a 12, numOf b 12 with
    | some p, some q => if q < 1 ∨ 1 < Nat.gcd p q then none else if p + (if isOver z then 1 else 0) ≤ q then some (p, q) else none
    | _, _ => none := by
  unfold fracOf
  rw [e]
theorem two_of {l : List Str} (h : l.length = 2) : ∃ a b, l = [a, b] := by
  match l, h with
  | [a, b], _ => exact ⟨a, b, rfl⟩
/-! promises -/
end Hv
namespace L
open PySem L2 Hv Ev
set_option autoImplicit false
theorem bnd_of {α β : Type} {o : Option α} {f : α → Option β} {x : α} (h : o = some x) : o.bind f = f x := by rw [h]; rfl
theorem whS_step {σ : Type} {bf : σ → Option Bool} {ff : σ → Option (Lp Empty σ)} {s r : σ} (n : Nat) (h : itR (fun s => (bf s).bind fun b => if b = true then ff s else some (.stop s)) n s = some (.done r)) : whS bf ff s = some r := by
  unfold whS whB
  rw [whR_of h]
  rfl
/-! ### numbers -/
theorem log2_small {i : Int} {n : Nat} (h : i.natAbs < 2 ^ n) (hn : n ≤ 1920) (h0 : 0 < n) : i.natAbs.log2 < 1920 := by
  by_cases z : i.natAbs = 0
  · rw [z]; decide
  · exact Nat.lt_of_lt_of_le ((Nat.log2_lt z).mpr h) hn
theorem strI_text (m : Nat) : strI (m : Int) = text m := rfl
theorem number_of_eq {z : Str} {m : Nat} (hz : z.length ≤ sizeLine) (hm : m ≤ 12) : fn_number_of z (m : Int) = some ((numOf z m).map Int.ofNat) := by
  have lg : ∀ k : Nat, k ≤ 12 → ((k : Nat) : Int).natAbs.log2 < 1920 := fun k hk => log2_small (n := 4) (by omega) (by decide) (by decide)
  have ts := text_short m (by omega)
  have tz : z.cps.toList.length = z.length := by show _ = z.cps.size; simp
  have s2 : 2 < sizeLine := by decide
  unfold fn_number_of
  rw [if_pos hz, if_pos (lg m hm), if_pos (show Str.length (strI (m : Int)) ≤ sizeLine by rw [strI_text]; omega), strI_text]
  by_cases c : 1 ≤ z.length ∧ z.length ≤ (text m).length
  · rw [decide_eq_true (show (1 : Int) ≤ ((Str.length z : Nat) : Int) by omega), decide_eq_true (show ((Str.length z : Nat) : Int) ≤ ((Str.length (text m) : Nat) : Int) by omega)]
    have sl : (signs z).length = z.length := by unfold signs; rw [List.length_map, tz]
    rw [show (!(true && true)) = false from rfl, if_neg (by decide), if_pos (by rw [sl]; omega)]
    have ea : List.any (List.map (fun (x6 : Sg) => (!isSign x6 ("0123456789" : Str))) (signs z)) id = z.cps.toList.any fun c => !decide (c ∈ (Str.ofString "0123456789").cps.toList) := by
      unfold signs
      rw [List.map_map, List.any_map]
      rfl
    rw [ea]
    by_cases ha : (z.cps.toList.any fun c => !decide (c ∈ (Str.ofString "0123456789").cps.toList)) = true
    · rw [ha, bnd_of rfl, if_pos rfl]
      rw [numOf_none fun n hn q => ?_]
      · rfl
      · rw [List.any_eq_true] at ha
        obtain ⟨c, hc, hd⟩ := ha
        have := text_digits n (by omega) c (by rw [q]; exact hc)
        rw [decide_eq_true this] at hd
        cases hd
    · rw [Bool.not_eq_true] at ha
      rw [ha, bnd_of rfl, if_neg (by decide)]
      have dg : ∀ c ∈ z.cps.toList, c ∈ (Str.ofString "0123456789").cps.toList := by
        intro c hc
        have := List.any_eq_false.mp ha c hc
        by_cases q : c ∈ (Str.ofString "0123456789").cps.toList
        · exact q
        · rw [decide_eq_false q] at this
          exact absurd rfl this
      obtain ⟨n, hn⟩ := all_digits (by omega) (by omega) dg
      have no : ¬ (n ≤ m ∧ text n = z) → numOf z m = none := fun q => numOf_none fun k hk e => q (by
        have a := text_int k (by omega)
        rw [e, hn] at a
        have b : n = k := by have := Option.some.inj a; omega
        rw [b]
        exact ⟨hk, e⟩)
      have ei : intS z = some (n : Int) := by
        unfold intS
        rw [if_pos (by omega), hn]
      rw [bnd_of ei]
      by_cases h1 : n ≤ m
      · rw [if_pos (decide_eq_true (by omega)), if_pos (lg n (by omega)), bnd_of rfl, strI_text]
        by_cases h2 : text n = z
        · rw [if_pos (decide_eq_true h2), numOf_of hm h1 h2]
          rfl
        · rw [if_neg (by rw [decide_eq_false h2]; decide), no fun q => h2 q.2]
          rfl
      · rw [if_neg (by rw [decide_eq_false (by omega)]; decide), bnd_of rfl, if_neg (by decide), no fun q => h1 q.1]
        rfl
  · have e : (!((decide ((1 : Int) ≤ ((Str.length z : Nat) : Int))) && (decide (((Str.length z : Nat) : Int) ≤ ((Str.length (text m) : Nat) : Int))))) = true := by
      by_cases c1 : 1 ≤ z.length
      · rw [decide_eq_false (show ¬ (((Str.length z : Nat) : Int) ≤ ((Str.length (text m) : Nat) : Int)) by omega), Bool.and_false]
        rfl
      · rw [decide_eq_false (show ¬ ((1 : Int) ≤ ((Str.length z : Nat) : Int)) by omega), Bool.false_and]
        rfl
    rw [e, if_pos rfl, bnd_of rfl, if_pos rfl]
    rw [numOf_none fun n hn q => ?_]
    · rfl
    · have l := text_len m (by omega) n (by omega)
      rw [q] at l
      exact c l
theorem common_divisor_eq (a b : Nat) : fn_common_divisor (a : Int) (b : Int) = some ((Nat.gcd a b : Nat) : Int) := by
  unfold fn_common_divisor
  have key : ∀ (n a b : Nat), b ≤ n → itR (ρ := Empty) (fun s : Int × Int => (some (decide ((0 : Int) < s.2)) : Option Bool).bind fun t => if t = true then (if 0 < s.2 then some (.go (s.2, (s.1 % s.2))) else none) else some (.stop s)) (n + 1) ((a : Int), (b : Int)) = some (.done (((Nat.gcd a b : Nat) : Int), 0)) := by
    intro n
    induction n with
    | zero =>
      intro a b hb
      obtain rfl : b = 0 := by omega
      unfold itR
      rw [bnd_of rfl, decide_eq_false (by simp), if_neg (by decide), Nat.gcd_zero_right]
      rfl
    | succ n ih =>
      intro a b hb
      unfold itR
      by_cases h : b = 0
      · subst h
        rw [bnd_of rfl, decide_eq_false (by simp), if_neg (by decide), Nat.gcd_zero_right]
        rfl
      · have h0 : (0 : Int) < (b : Int) := by omega
        rw [bnd_of rfl, decide_eq_true h0, if_pos rfl, if_pos h0]
        show itR _ (n + 1) ((b : Int), (a : Int) % (b : Int)) = _
        rw [← Int.natCast_emod, ih b (a % b) (by have := Nat.mod_lt a (Nat.pos_of_ne_zero h); omega)]
        rw [Nat.gcd_comm b, ← Nat.gcd_rec, Nat.gcd_comm]
  rw [bnd_of (whS_step (b + 1) (key b a b (Nat.le_refl _)))]
end L
namespace L
open PySem L2 Hv Ev
set_option autoImplicit false
/-! ### bounds -/
/-- the two numbers of a bound -/
def fracI (z : Str) : Option (P2 Int Int) := (fracOf z).map fun p => ⟨(p.1 : Int), (p.2 : Int)⟩
theorem number_of_12 {z : Str} (hz : z.length ≤ sizeLine) : fn_number_of z (12 : Int) = some ((numOf z 12).map Int.ofNat) := number_of_eq (m := 12) hz (by decide)
theorem number_of_3 {z : Str} (hz : z.length ≤ sizeLine) : fn_number_of z (3 : Int) = some ((numOf z 3).map Int.ofNat) := number_of_eq (m := 3) hz (by decide)
theorem fraction_of_eq {z : Str} (ok : TextOk z) : fn_fraction_of (toD z) = some (fracI z) := by
  unfold fn_fraction_of fracI
  have e0 : isTy (toD z) "str" = some true := rfl
  rw [bnd_of e0, if_neg (by decide), bnd_of (show getS (toD z) = some z from rfl), if_pos (by have := ok.own; omega), if_pos ⟨by decide, ok.cut⟩]
  have eS : Txt.split (Txt.removeprefix z ("over " : Str)) ("/" : Str) = Txt.split (Txt.removeprefix z MARK) SLASH := rfl
  rw [eS]
  by_cases hl : (Txt.split (Txt.removeprefix z MARK) SLASH).length = 2
  · obtain ⟨a, b, e⟩ := two_of hl
    have la : a.length ≤ sizeLine := ok.part a (by rw [e]; simp)
    have lb : b.length ≤ sizeLine := ok.part b (by rw [e]; simp)
    rw [e, if_neg (by simp), bnd_of (show atI [a, b] 0 = some a from rfl), bnd_of (number_of_12 la), bnd_of (show atI [a, b] 1 = some b from rfl), bnd_of (number_of_12 lb), fracOf_two e]
    cases e1 : numOf a 12 with
    | none => rfl
    | some x =>
      cases e2 : numOf b 12 with
      | none => rfl
      | some y =>
        simp only [Option.map_some, Option.isNone_some, Bool.false_eq_true, if_false, Option.bind_some, Int.ofNat_eq_natCast]
        by_cases y1 : y < 1
        · rw [if_pos (show decide ((y : Int) < 1) = true from decide_eq_true (by omega)), if_pos (show y < 1 ∨ 1 < Nat.gcd x y from .inl y1)]
          rfl
        · rw [if_neg (show ¬ decide ((y : Int) < 1) = true by rw [decide_eq_false (by omega)]; decide), common_divisor_eq x y]
          simp only [Option.bind_some]
          by_cases g : 1 < Nat.gcd x y
          · rw [if_pos (show y < 1 ∨ 1 < Nat.gcd x y from .inr g), if_pos (show decide ((1 : Int) < ((Nat.gcd x y : Nat) : Int)) = true from decide_eq_true (by omega))]
            rfl
          · rw [if_neg (show ¬ (y < 1 ∨ 1 < Nat.gcd x y) from fun q => q.elim y1 g), if_neg (show ¬ decide ((1 : Int) < ((Nat.gcd x y : Nat) : Int)) = true by rw [decide_eq_false (by omega)]; decide)]
            rw [bnd_of (show getS (toD z) = some z from rfl)]
            have eo : PySem.Txt.startswith z ("over " : Str) = isOver z := rfl
            have ei : (if isOver z = true then (1 : Int) else (0 : Int)) = ((if isOver z = true then 1 else 0 : Nat) : Int) := by split <;> rfl
            rw [eo, ei]
            by_cases o : x + (if isOver z = true then 1 else 0) ≤ y
            · rw [if_pos o, if_pos (decide_eq_true (by omega))]
              rfl
            · rw [if_neg o, if_neg (by rw [decide_eq_true_eq]; omega)]
              rfl
  · have e1 : (!decide ((((Txt.split (Txt.removeprefix z MARK) SLASH).length : Nat) : Int) = (2 : Int))) = true := by
      rw [decide_eq_false (by omega)]
      rfl
    rw [if_pos e1, fracOf_len hl]
    rfl
/-- whether p of w meet the bound z -/
def metS (z : Str) (p w : Int) : Bool := match fracOf z with
  | some (a, b) => met z a b p w
  | none => false
end L
namespace L
open PySem L2 Hv Ev
set_option autoImplicit false
/-! ### amounts -/
def sortA (z : Str) : Option (P2 Str Int) := if z = "free" ∨ z = "again" then some ⟨z, 0⟩ else
  if (Txt.partition z " ").1 = "each" ∨ (Txt.partition z " ").1 = "all" then
    match numOf (Txt.partition z " ").2.2 3 with
    | some n => if n < 1 then none else some ⟨(Txt.partition z " ").1, (n : Int)⟩
    | none => none
  else none
theorem isIn2 (x a b : Str) : isIn x [a, b] = decide (x = a ∨ x = b) := by
  unfold isIn
  simp
theorem sort_of_eq {z : Str} (hz : z.length ≤ sizeLine) (hp : (Txt.partition z " ").2.2.length ≤ sizeLine) : fn_sort_of z = some (sortA z) := by
  unfold fn_sort_of sortA
  rw [if_neg (by decide), isIn2, isIn2]
  by_cases c : z = "free" ∨ z = "again"
  · rw [if_pos (decide_eq_true c), if_pos c]
  · rw [if_neg (by rw [decide_eq_false c]; decide), if_neg c, if_pos ⟨by decide, hz⟩]
    dsimp only
    rw [bnd_of (number_of_3 hp)]
    generalize (Txt.partition z " ").1 = w
    generalize (Txt.partition z " ").2.2 = d
    by_cases cw : w = "each" ∨ w = "all"
    · rw [if_pos cw, decide_eq_true cw]
      cases e : numOf d 3 with
      | none => rfl
      | some n =>
        simp only [Option.map_some, Option.isNone_some, Bool.not_true, Bool.false_eq_true, if_false, Option.bind_some, Int.ofNat_eq_natCast]
        by_cases n1 : n < 1
        · rw [if_pos (show decide ((n : Int) < 1) = true from decide_eq_true (by omega)), if_pos n1]
          rfl
        · rw [if_neg (show ¬ decide ((n : Int) < 1) = true by rw [decide_eq_false (by omega)]; decide), if_neg n1]
          rfl
    · rw [if_neg cw, decide_eq_false cw]
      rfl
/-! ### kinds and rows by names -/
def kindAt (R : Rules) (k : Str) : Option Ev.Kind := R.made.a.l.find? fun x => decide (x.name = k)
def rowsOf (R : Rules) (k : Str) : List Row := R.made.b.l.filter fun x => decide (x.outer = k)
/-! ### rules that are good -/
def BOk (z : Str) : Prop := TextOk z ∧ (fracOf z).isSome = true
structure WfK (kd : Ev.Kind) : Prop where
  tk : 0 ≤ kd.talks ∧ kd.talks ≤ 3
  cl : ∀ c, kd.closing = some c → BOk c.b ∧ 0 ≤ c.a ∧ c.a ≤ 3
  nd : ∀ b, kd.needs = .inr b → BOk b
  en : ∀ b, kd.ends = some b → BOk b
structure WfW (r : Row) : Prop where
  s1 : r.amount.length ≤ sizeLine
  s2 : (Txt.partition r.amount " ").2.2.length ≤ sizeLine
  ok : ∃ w n, sortA r.amount = some ⟨w, n⟩ ∧ 0 ≤ n ∧ n ≤ 3
def names (R : Rules) : List Str := R.made.a.l.map Ev.Kind.name
/-! ### a ground -/
def closableK (G : Ground) (kd : Ev.Kind) : Bool := match kd.closing with
  | none => false
  | some c => metS c.b (G.whole - G.part) G.whole
def needsK (G : Ground) (kd : Ev.Kind) : Bool := match kd.needs with
  | .inl n => (match G.many with
    | none => true
    | some m => decide (n ≤ m))
  | .inr b => metS b G.part G.whole
def killsK (G : Ground) (kd : Ev.Kind) : Bool := match kd.ends with
  | none => false
  | some b => metS b G.part G.whole
end L
set_option autoImplicit false
/-- the rules in a house, by places of any sort -/
structure Sc (α : Type) where
  shut : α → Bool
  after : α → Int
  rows : α → List (α × Option Int × Bool)
  says : α → Int
  kill : α → Bool
namespace Sc
variable {α : Type} (S : Sc α)
/-- the open rows -/
def op (a : α) : List (α × Option Int × Bool) := if S.shut a = true ∧ S.after a = 0 then [] else S.rows a
def suc (a : α) : List α := (S.op a).map fun r => r.1
inductive Reach (a : α) : α → Prop
  | refl : Reach a a
  | step {b c : α} (h : Reach a b) (m : c ∈ S.suc b) : Reach a c
theorem Reach.trans {S : Sc α} {a b c : α} (h : S.Reach a b) (k : S.Reach b c) : S.Reach a c := by
  induction k with
  | refl => exact h
  | step _ m ih => exact .step ih m
def wide (rs : List (α × Option Int × Bool)) : Bool := rs.any (fun r => r.2.1.isNone && !r.2.2) || decide (1 < (rs.filter fun r => r.2.2).length)
/-! ### lots -/
def tops (most : Int) (c : List Int) (x : Option Int) : Int := match x with
  | none => most - c.sum
  | some m => if most - c.sum < m then most - c.sum else m
def rngN (n : Int) : List Int := (List.range n.toNat).map fun (i : Nat) => (i : Int)
def lots0 (most : Int) : List (Option Int) → List (List Int) → List (List Int)
  | [], cs => cs
  | x :: xs, cs => lots0 most xs (cs.flatMap fun c => (rngN (tops most c x + 1)).map fun i => c ++ [i])
/-- an item: its worth, how many, whether not twice in a row -/
abbrev Item := Int × Option Int × Bool
def fit (ws : List Item) (c : List Int) : Bool := (ws.zip c).all fun p => !(p.1.2.2 && decide (c.sum - p.2 + 1 < p.2))
def lotsV (ws : List Item) (most : Int) : List (List Int) := (lots0 most (ws.map fun w => w.2.1) [[]]).filter fun c => fit ws c
def worth (ws : List Item) (c : List Int) : Int := ((ws.zip c).map fun p => p.2 * p.1.1).sum
def bestV (ws : List Item) (most : Int) : Int := (lotsV ws most).foldl (fun b c => if b < worth ws c then worth ws c else b) 0
/-! ### holds -/
def plain (a : α) : Int := S.says a + (((S.rows a).filter fun r => !r.2.2).map fun r => r.2.1.getD 0).sum
def its (f : α → Int) (a : α) : List Item := (1, some (S.says a), false) :: (S.rows a).map fun r => (1 + f r.1, r.2.1, r.2.2)
def whole (f : α → Int) (a : α) : Int := ((S.its f a).map fun w => w.1 * (if w.2.2 = true then S.plain a + 1 else w.2.1.getD 0)).sum
def size (a : α) : Option Int := if wide (S.rows a) = true then none else some (if ((S.rows a).any fun r => r.2.2) = true then 2 * S.plain a + 1 else S.plain a)
/-- the hold of a kind by the holds of the inner ones -/
def F (f : α → Int) (a : α) : Int := if S.shut a = false then 1 + S.whole f a else
  1 + bestV (S.its f a) (S.after a) + (if (match S.size a with
    | none => true
    | some n => decide (S.after a < n)) = true then 1 else 0)
end Sc
namespace L
open PySem L2 Hv Ev
set_option autoImplicit false
theorem lcO_all {α β : Type} {f : α → Option (Option β)} {e : α → β} {xs : List α} (h : ∀ x ∈ xs, f x = some (some (e x))) : lcO f xs = some (xs.map e) := by
  rw [lcO_pure (c := fun _ => true) (e := e) fun x hx => by rw [h x hx]; rfl, List.filter_eq_self.mpr fun _ _ => rfl]
/-! ### a ground as a scene -/
def amtOf (G : Ground) (r : Row) : Option Int := match sortA r.amount with
  | some s => if s.a = "all" then some s.b else if s.a = "each" then G.many.map fun m => m * s.b else none
  | none => none
def agOf (r : Row) : Bool := match sortA r.amount with
  | some s => decide (s.a = "again")
  | none => false
def rowOk (G : Ground) (r : Row) : Bool := match kindAt G.rules r.inner with
  | some kd => needsK G kd
  | none => false
def usableL (G : Ground) (k : Str) : List Row := if G.many = some 0 then [] else (rowsOf G.rules k).filter fun r => rowOk G r
def scG (G : Ground) : Sc Str where
  shut k := match kindAt G.rules k with
    | some kd => closableK G kd
    | none => false
  after k := match kindAt G.rules k with
    | some kd => (match kd.closing with
      | some c => c.a
      | none => 0)
    | none => 0
  rows k := (usableL G k).map fun r => (r.inner, amtOf G r, agOf r)
  says k := match kindAt G.rules k with
    | some kd => G.many.getD 0 * kd.talks
    | none => 0
  kill k := match kindAt G.rules k with
    | some kd => killsK G kd
    | none => false
end L
set_option autoImplicit false
namespace L
open PySem L2 Hv Ev
set_option autoImplicit false
end L
set_option autoImplicit false
namespace L
open PySem L2 Hv Ev
set_option autoImplicit false
end L
namespace L
open PySem L2 Hv Ev
set_option autoImplicit false
def big (i : Int) : Prop := i.natAbs < 2 ^ 400000
end L
namespace L
open PySem L2 Hv Ev
set_option autoImplicit false
section
variable {G : Ground} {k : Str}
/-! ### dicts -/
/-- holds that fit one another -/
structure Holds (G : Ground) (k : Str) (f : Str → Int) : Prop where
  eq : ∀ b, (scG G).Reach k b → f b = (scG G).F f b
  sz : ∀ b, (scG G).Reach k b → ∀ r ∈ usableL G b, big (1 + f r.inner)
end
end L
namespace L
open PySem L2 Hv Ev
set_option autoImplicit false
/-! ### texts made of parts -/
def lenS (xs : List Str) : Nat := (xs.map fun x => x.length).sum
theorem js_len : ∀ (xs : List Str) (acc : Str), (js acc xs).length = acc.length + lenS xs
  | [], acc => by simp [js, lenS]
  | x :: xs, acc => by
    unfold js
    rw [js_len xs, Str.length_append]
    simp [lenS]
    omega
theorem jsOk_of : ∀ (xs : List Str) (acc : Str), acc.length + lenS xs ≤ sizeLine → JsOk acc xs
  | [], acc, _ => rfl
  | x :: xs, acc, h => by
    show jsOkB acc (x :: xs) = true
    unfold jsOkB
    have e : lenS (x :: xs) = x.length + lenS xs := by simp [lenS]
    rw [e] at h
    rw [decide_eq_true (by rw [Str.length_append]; omega), Bool.true_and]
    exact jsOk_of xs _ (by rw [Str.length_append]; omega)
theorem empty_len : Str.empty.length = 0 := rfl
/-! ### kinds -/
theorem isInt_int (i : Int) : fn_is_integer (toD i) = some true := rfl
theorem isBound_str {z : Str} (b : BOk z) : fn_is_bound (toD z) = some true := by
  unfold fn_is_bound
  rw [bnd_of (fraction_of_eq b.1)]
  have := b.2
  unfold fracI
  cases e : fracOf z with
  | none => rw [e] at this; cases this
  | some p => rfl
/-- values of a kind that are right -/
structure KdOk (kd : Ev.Kind) : Prop where
  wf : WfK kd
  nm : fn_is_name kd.name = some true
  nl : ∀ n, kd.needs = .inl n → 1 ≤ n ∧ n ≤ 9
  so : PyData.strOk kd.name = true
  l1 : kd.name.length ≤ 100
  l2 : ∀ b, kd.needs = .inr b → b.length ≤ 100
  l3 : ∀ c, kd.closing = some c → c.b.length ≤ 100
  l4 : ∀ b, kd.ends = some b → b.length ≤ 100
theorem kind_eq {kd : Ev.Kind} (h : KdOk kd) : fn_Kind_init kd.name kd.talks kd.needs kd.closing kd.ends = some kd := by
  obtain ⟨w, nm, nl, _, _, _, _, _⟩ := h
  obtain ⟨⟨n, t, d, c, e⟩⟩ := kd
  obtain ⟨⟨t0, t3⟩, wc, wd, we⟩ := w
  have t0 : 0 ≤ t := t0
  have t3 : t ≤ 3 := t3
  have nm : fn_is_name n = some true := nm
  show fn_Kind_init n t d c e = _
  unfold fn_Kind_init
  rw [bnd_of nm, if_neg (by decide), bnd_of (isInt_int t)]
  rw [if_neg (show ¬ ((!true) || (!((decide ((0 : Int) ≤ t)) && (decide (t ≤ (3 : Int)))))) = true by rw [decide_eq_true t0, decide_eq_true t3]; decide)]
  have en : fn_is_needs d = some true := by
    unfold fn_is_needs
    cases d with
    | inl i =>
      obtain ⟨i1, i9⟩ := nl i rfl
      have e1 : fn_is_bound (toD (Sum.inl i : Int ⊕ Str)) = some false := rfl
      rw [bnd_of e1, if_neg (by decide), bnd_of (show fn_is_integer (toD (Sum.inl i : Int ⊕ Str)) = some true from rfl), if_pos rfl, bnd_of (show getL (Sum.inl i : Int ⊕ Str) = some i from rfl), decide_eq_true i1, decide_eq_true i9]
      rfl
    | inr b =>
      rw [bnd_of (show fn_is_bound (toD (Sum.inr b : Int ⊕ Str)) = some true from isBound_str (wd b rfl))]
      rfl
  rw [bnd_of en, if_neg (by decide)]
  have ec : fn_is_closing c = some true := by
    unfold fn_is_closing
    cases c with
    | none => rfl
    | some p =>
      obtain ⟨h1, h2, h3⟩ := wc p rfl
      rw [if_neg (show ¬ (some p : Option (P2 Int Str)).isNone = true by simp)]
      simp only [Option.bind_some]
      rw [if_neg (show ¬ (!true) = true by decide), bnd_of rfl, if_neg (by simp), bnd_of (isInt_int p.a), if_pos rfl, decide_eq_true h2, decide_eq_true h3]
      rw [if_pos (show (true && true) = true from rfl), bnd_of (isBound_str h1)]
      rfl
  rw [bnd_of ec, if_neg (by decide)]
  cases e with
  | none => rfl
  | some b =>
    rw [if_pos (show (!(some b : Option Str).isNone) = true from rfl), bnd_of (show fn_is_bound (toD (some b : Option Str)) = some true from isBound_str (we b rfl))]
    rfl
theorem strI_small {i : Int} (h0 : 0 ≤ i) (h9 : i ≤ 12) : (strI i).length ≤ 2 := by
  obtain ⟨n, rfl⟩ := Int.eq_ofNat_of_zero_le h0
  exact text_short n (by omega)
theorem log_small {i : Int} (h0 : 0 ≤ i) (h9 : i ≤ 12) : i.natAbs.log2 < 1920 := log2_small (n := 4) (by omega) (by decide) (by decide)
theorem line_kind_eq {kd : Ev.Kind} (h : KdOk kd) : ∃ z, fn_line_of_kind kd = some z ∧ z.length ≤ 1000 := by
  have s : (2000 : Nat) ≤ sizeLine := by decide
  have a1 : (("motion " : Str)).length = 7 := rfl
  have a2 : ((" talks " : Str)).length = 7 := rfl
  have a3 : ((" needs " : Str)).length = 7 := rfl
  have a4 : ((" closed after " : Str)).length = 14 := rfl
  have a5 : ((" by " : Str)).length = 4 := rfl
  have a6 : ((" ends by " : Str)).length = 9 := rfl
  have l1 := h.l1
  have t := h.wf.tk
  unfold fn_line_of_kind
  have j1 : (js Str.empty [("motion " : Str), kd.name]).length = 7 + kd.name.length := by rw [js_len]; simp [lenS, a1, empty_len]
  rw [if_pos (by omega), if_pos (jsOk_of _ _ (by simp [lenS, a1, empty_len]; omega))]
  have e1 : ∃ z1, ((if (decide ((0 : Int) < (Ev.Kind.talks (kd)))) = true then (if ((Ev.Kind.talks (kd))).natAbs.log2 < 1920 then (if JsOk Str.empty [(" talks " : Str), (strI (Ev.Kind.talks (kd)))] then (if Str.length (js Str.empty [("motion " : Str), (Ev.Kind.name (kd))]) + Str.length (js Str.empty [(" talks " : Str), (strI (Ev.Kind.talks (kd)))]) ≤ sizeLine then some ((js Str.empty [("motion " : Str), (Ev.Kind.name (kd))]) ++ (js Str.empty [(" talks " : Str), (strI (Ev.Kind.talks (kd)))])) else none) else none) else none) else some (js Str.empty [("motion " : Str), (Ev.Kind.name (kd))])) : Option (Str)) = some z1 ∧ z1.length ≤ 120 := by
    split
    · have := strI_small t.1 (by omega)
      have j2 : (js Str.empty [(" talks " : Str), strI kd.talks]).length = 7 + (strI kd.talks).length := by rw [js_len]; simp [lenS, a2, empty_len]
      rw [if_pos (log_small t.1 (by omega)), if_pos (jsOk_of _ _ (by simp [lenS, a2, empty_len]; omega)), if_pos (by omega)]
      exact ⟨_, rfl, by rw [Str.length_append]; omega⟩
    · exact ⟨_, rfl, by omega⟩
  obtain ⟨z1, e1, l1'⟩ := e1
  rw [bnd_of e1]
  have e2 : ∃ z2, ((fn_is_integer ((toD ((Ev.Kind.needs (kd)) : (Int ⊕ Str))))).bind fun r8 => ((if (!r8) = true then some true else ((getL ((Ev.Kind.needs (kd)) : (Int ⊕ Str))).bind fun r10 => some (decide ((1 : Int) < r10)))).bind fun r11 => (((if r11 = true then ((fmtE (Ev.Kind.needs (kd))).bind fun r13 => (if JsOk Str.empty [(" needs " : Str), r13] then (if Str.length z1 + Str.length (js Str.empty [(" needs " : Str), r13]) ≤ sizeLine then some (z1 ++ (js Str.empty [(" needs " : Str), r13])) else none) else none)) else some z1) : Option (Str))))) = some z2 ∧ z2.length ≤ 240 := by
    cases e : kd.needs with
    | inl n =>
      obtain ⟨n1, n9⟩ := h.nl n e
      rw [bnd_of (show fn_is_integer (toD (Sum.inl n : Int ⊕ Str)) = some true from rfl), if_neg (show ¬ (!true) = true by decide), bnd_of (show getL (Sum.inl n : Int ⊕ Str) = some n from rfl), bnd_of rfl]
      split
      · have := strI_small (i := n) (by omega) (by omega)
        have ef : fmtE (Sum.inl n) = some (strI n) := by unfold fmtE; dsimp only; rw [if_pos (log_small (by omega) (by omega))]
        have j2 : (js Str.empty [(" needs " : Str), strI n]).length = 7 + (strI n).length := by rw [js_len]; simp [lenS, a3, empty_len]
        rw [bnd_of ef, if_pos (jsOk_of _ _ (by simp [lenS, a3, empty_len]; omega)), if_pos (by omega)]
        exact ⟨_, rfl, by rw [Str.length_append]; omega⟩
      · exact ⟨_, rfl, by omega⟩
    | inr b =>
      have lb := h.l2 b e
      rw [bnd_of (show fn_is_integer (toD (Sum.inr b : Int ⊕ Str)) = some false from rfl), if_pos (show (!false) = true from rfl), bnd_of rfl, if_pos rfl]
      have ef : fmtE (Sum.inr b) = some b := by unfold fmtE; dsimp only; rw [if_pos (by omega)]
      have j2 : (js Str.empty [(" needs " : Str), b]).length = 7 + b.length := by rw [js_len]; simp [lenS, a3, empty_len]
      rw [bnd_of ef, if_pos (jsOk_of _ _ (by simp [lenS, a3, empty_len]; omega)), if_pos (by omega)]
      exact ⟨_, rfl, by rw [Str.length_append]; omega⟩
  obtain ⟨z2, e2, l2'⟩ := e2
  have e3 : ∃ z3, ((if (!((Ev.Kind.closing (kd))).isNone) = true then ((((Ev.Kind.closing (kd)) : (Option (P2 Int Str)))).bind fun r18 => (if (r18.a).natAbs.log2 < 1920 then (if Str.length r18.b ≤ sizeLine then (if JsOk Str.empty [(" closed after " : Str), (strI r18.a), (" by " : Str), r18.b] then (if Str.length z2 + Str.length (js Str.empty [(" closed after " : Str), (strI r18.a), (" by " : Str), r18.b]) ≤ sizeLine then some (z2 ++ (js Str.empty [(" closed after " : Str), (strI r18.a), (" by " : Str), r18.b])) else none) else none) else none) else none)) else some z2) : Option (Str)) = some z3 ∧ z3.length ≤ 400 := by
    cases e : kd.closing with
    | none => exact ⟨_, rfl, by omega⟩
    | some c =>
      obtain ⟨_, c0, c3⟩ := h.wf.cl c e
      have lc := h.l3 c e
      have := strI_small c0 (by omega)
      have j2 : (js Str.empty [(" closed after " : Str), strI c.a, (" by " : Str), c.b]).length = 18 + (strI c.a).length + c.b.length := by rw [js_len]; simp [lenS, a4, a5, empty_len]; omega
      rw [if_pos (show (!(some c : Option (P2 Int Str)).isNone) = true from rfl)]
      simp only [Option.bind_some]
      rw [if_pos (log_small c0 (by omega)), if_pos (by omega), if_pos (jsOk_of _ _ (by simp [lenS, a4, a5, empty_len]; omega)), if_pos (by omega)]
      exact ⟨_, rfl, by rw [Str.length_append]; omega⟩
  obtain ⟨z3, e3, l3'⟩ := e3
  have e4 : ∃ z4, (if (((Ev.Kind.ends (kd))).isNone) = true then some z3 else ((((Ev.Kind.ends (kd)) : (Option Str))).bind fun r24 => (if Str.length r24 ≤ sizeLine then (if JsOk Str.empty [(" ends by " : Str), r24] then (if Str.length z3 + Str.length (js Str.empty [(" ends by " : Str), r24]) ≤ sizeLine then some (z3 ++ (js Str.empty [(" ends by " : Str), r24])) else none) else none) else none))) = some z4 ∧ z4.length ≤ 1000 := by
    cases e : kd.ends with
    | none => exact ⟨_, rfl, by omega⟩
    | some b =>
      have lb := h.l4 b e
      have j2 : (js Str.empty [(" ends by " : Str), b]).length = 9 + b.length := by rw [js_len]; simp [lenS, a6, empty_len]
      rw [if_neg (show ¬ (some b : Option Str).isNone = true by simp)]
      simp only [Option.bind_some]
      rw [if_pos (by omega), if_pos (jsOk_of _ _ (by simp [lenS, a6, empty_len]; omega)), if_pos (by omega)]
      exact ⟨_, rfl, by rw [Str.length_append]; omega⟩
  obtain ⟨z4, e4, l4'⟩ := e4
  refine ⟨z4, ?_, l4'⟩
  cases en : fn_is_integer (toD (kd.needs)) with
  | none => rw [en] at e2; cases e2
  | some r8 =>
    rw [en, Option.bind_some] at e2
    rw [Option.bind_some]
    cases en2 : (if (!r8) = true then some true else ((getL ((Ev.Kind.needs (kd)) : (Int ⊕ Str))).bind fun r10 => some (decide ((1 : Int) < r10)))) with
    | none => rw [en2] at e2; cases e2
    | some r11 =>
      rw [en2, Option.bind_some] at e2
      rw [Option.bind_some, bnd_of e2, bnd_of e3, bnd_of e4]
/-! ### rows -/
structure RwOk (r : Row) : Prop where
  w : WfW r
  n1 : fn_is_name r.outer = some true
  n2 : fn_is_name r.inner = some true
  l1 : r.outer.length ≤ 100
  l2 : r.inner.length ≤ 100
  l3 : r.amount.length ≤ 100
theorem row_eq {r : Row} (h : RwOk r) : fn_Row_init r.outer r.inner r.amount = some r := by
  obtain ⟨w, n, e, _⟩ := h.w.ok
  unfold fn_Row_init
  rw [bnd_of h.n1, if_neg (by decide), bnd_of h.n2, if_neg (by decide), bnd_of ((sort_of_eq h.w.s1 h.w.s2).trans (by rw [e]))]
  rfl
theorem line_row_eq {r : Row} (h : RwOk r) : ∃ z, fn_line_of_row r = some z ∧ z.length ≤ 1000 := by
  have s : (2000 : Nat) ≤ sizeLine := by decide
  have a1 : (("under " : Str)).length = 6 := rfl
  have a2 : ((" " : Str)).length = 1 := rfl
  have l1 := h.l1
  have l2 := h.l2
  have l3 := h.l3
  unfold fn_line_of_row
  rw [if_pos (by omega), if_pos (by omega), if_pos (by omega), if_pos (jsOk_of _ _ (by simp [lenS, a1, a2, empty_len]; omega))]
  refine ⟨_, rfl, ?_⟩
  rw [js_len]
  simp [lenS, a1, a2, empty_len]
  omega
/-! ### rules -/
theorem enP_cons {α : Type} (x : α) (l : List α) (n : Nat) : (List.zipIdx (x :: l) n).map (fun p => (⟨((p.2 : Nat) : Int), p.1⟩ : P2 Int α)) = ⟨(n : Int), x⟩ :: (List.zipIdx l (n + 1)).map fun p => (⟨((p.2 : Nat) : Int), p.1⟩ : P2 Int α) := by
  rw [List.zipIdx_cons]
  rfl
theorem check_kinds_go : ∀ (l : List Ev.Kind) (acc : List Str) (n : Nat), acc.length = n → n + l.length ≤ 6 → (acc ++ l.map Ev.Kind.name).Nodup → forS (fun (s3 : (List Str)) (x4 : (P2 Int Ev.Kind)) => (if ((!true) || (((isIn (Ev.Kind.name (x4.b)) s3)) || (decide (x4.a = (6 : Int))))) = true then none else (if List.length s3 < sizeLine then some (s3 ++ [(Ev.Kind.name (x4.b))]) else none))) acc ((List.zipIdx l n).map fun p => ⟨((p.2 : Nat) : Int), p.1⟩) = some (acc ++ l.map Ev.Kind.name)
  | [], acc, n, _, _, _ => by simp [forS]
  | x :: l, acc, n, hn, h6, nd => by
    rw [List.length_cons] at h6
    rw [enP_cons]
    unfold forS
    have s : (10 : Nat) < sizeLine := by decide
    have nx : x.name ∉ acc := fun z => by
      rw [List.nodup_append] at nd
      exact nd.2.2 _ z x.name (by simp) rfl
    dsimp only
    rw [if_neg (by rw [show isIn x.name acc = false from decide_eq_false nx, decide_eq_false (show ¬ ((n : Int) = 6) by omega)]; decide), if_pos (by omega), bnd_of rfl]
    rw [check_kinds_go l _ (n + 1) (by simp [hn]) (by omega) (by simpa using nd)]
    simp
theorem check_kinds_eq {l : List Ev.Kind} (ne : l ≠ []) (h6 : l.length ≤ 6) (nd : (l.map Ev.Kind.name).Nodup) : fn_check_kinds ⟨l⟩ = some (l.map Ev.Kind.name) := by
  unfold fn_check_kinds
  have e : (l.isEmpty) = false := by cases l <;> simp_all
  rw [if_neg (by show ¬ ((!true) || l.isEmpty) = true; rw [e]; decide)]
  exact (bnd_of (check_kinds_go l [] 0 rfl (by omega) (by simpa using nd))).trans (by simp)
theorem pair_py (p : P2 Str Str) : (toD p).py = .tuple [.str p.a, .str p.b] := rfl
def okP (p : P2 Str Str) : Prop := PyData.strOk p.a = true ∧ PyData.strOk p.b = true
theorem inD_pairs (p : P2 Str Str) (l : List (P2 Str Str)) (hp : okP p) (hl : ∀ q ∈ l, okP q) : EqOk (toD p) (.lst (l.map toD)) ∧ (inD (toD p) (l.map toD) = true ↔ p ∈ l) := by
  constructor
  · unfold EqOk
    have key : allData (l.map toD) = true ∧ PyData.canLayAll0 (pys (l.map toD)) = true ∧ PyData.depthAll (pys (l.map toD)) ≤ 1 := by
      induction l with
      | nil => exact ⟨rfl, rfl, Nat.zero_le _⟩
      | cons x l ih =>
        obtain ⟨h1, h2, h3⟩ := ih fun q hq => hl q (List.mem_cons_of_mem _ hq)
        obtain ⟨x1, x2⟩ := hl x List.mem_cons_self
        refine ⟨?_, ?_, ?_⟩
        · show ((toD x).isData && allData (l.map toD)) = true
          rw [h1]
          rfl
        · show ((toD x).py.canLay0 && PyData.canLayAll0 (pys (l.map toD))) = true
          rw [h2, pair_py]
          show ((PyData.strOk x.a && (PyData.strOk x.b && true)) && true) = true
          rw [x1, x2]
          rfl
        · show max 1 (PyData.depthAll (pys (l.map toD))) ≤ 1
          omega
    show ((toD p).isData && allData (l.map toD) && SeqAt.shaped (toD p).py && SeqAt.shaped (.list (pys (l.map toD)))) = true
    have e : SeqAt.shaped (.list (pys (l.map toD))) = true := by
      unfold SeqAt.shaped
      rw [show PyData.canLay0 (.list (pys (l.map toD))) = true from key.2.1]
      exact decide_eq_true (by have := key.2.2; show PyData.depthAll (pys (l.map toD)) + 1 ≤ 64; omega)
    have e2 : SeqAt.shaped (toD p).py = true := by
      unfold SeqAt.shaped
      rw [pair_py, show PyData.canLay0 (.tuple [.str p.a, .str p.b]) = (PyData.strOk p.a && (PyData.strOk p.b && true)) from rfl, hp.1, hp.2]
      rfl
    rw [key.1, e, e2]
    rfl
  · unfold inD
    rw [List.any_eq_true]
    have key : ∀ q : P2 Str Str, PyData.eqv (toD q).py (toD p).py = true ↔ q = p := fun q => by
      obtain ⟨a, b⟩ := q
      obtain ⟨c, d⟩ := p
      show PyData.eqv (.tuple [.str a, .str b]) (.tuple [.str c, .str d]) = true ↔ _
      simp [PyData.eqv, PyData.eqvAll]
    have pm : ∀ l : List (P2 Str Str), (∃ z ∈ pys (l.map toD), PyData.eqv z (toD p).py = true) ↔ p ∈ l := by
      intro l
      induction l with
      | nil => simp [pys]
      | cons x l ih =>
        show (∃ z ∈ (toD x).py :: pys (l.map toD), _) ↔ _
        rw [List.mem_cons, ← ih]
        constructor
        · rintro ⟨z, hz, e⟩
          rcases List.mem_cons.mp hz with rfl | hz
          · exact .inl ((key x).mp e).symm
          · exact .inr ⟨z, hz, e⟩
        · rintro (rfl | ⟨z, hz, e⟩)
          · exact ⟨_, List.mem_cons_self, (key _).mpr rfl⟩
          · exact ⟨z, List.mem_cons_of_mem _ hz, e⟩
    exact pm l
def prs (l : List Row) : List (P2 Str Str) := l.map fun r => ⟨r.outer, r.inner⟩
theorem check_rows_go {ns : List Str} (hs : ∀ x ∈ ns, PyData.strOk x = true) : ∀ (l : List Row) (acc : List (P2 Str Str)) (n : Nat), (∀ q ∈ acc, okP q) → acc.length + l.length ≤ 1000 → (∀ r ∈ l, r.outer ∈ ns ∧ r.inner ∈ ns) → (acc ++ prs l).Nodup → ∃ z, forS (fun (s2 : (List (P2 Str Str))) (x3 : (P2 Int Ev.Row)) => (if ((!true) || ((!(isIn (Ev.Row.outer (x3.b)) ns)) || (!(isIn (Ev.Row.inner (x3.b)) ns)))) = true then none else (if EqOk (toD ((⟨(Ev.Row.outer (x3.b)), (Ev.Row.inner (x3.b))⟩ : (P2 Str Str)) : (P2 Str Str))) (.lst (List.map toD (s2 : (List (P2 Str Str))))) then (if (inD (toD ((⟨(Ev.Row.outer (x3.b)), (Ev.Row.inner (x3.b))⟩ : (P2 Str Str)) : (P2 Str Str))) (List.map toD (s2 : (List (P2 Str Str))))) = true then none else (if List.length s2 < sizeLine then some (s2 ++ [(⟨(Ev.Row.outer (x3.b)), (Ev.Row.inner (x3.b))⟩ : (P2 Str Str))]) else none)) else none))) acc ((List.zipIdx l n).map fun p => ⟨((p.2 : Nat) : Int), p.1⟩) = some z
  | [], acc, n, _, _, _, _ => ⟨acc, rfl⟩
  | r :: l, acc, n, ha, hl, hn, nd => by
    rw [List.length_cons] at hl
    rw [enP_cons]
    unfold forS
    obtain ⟨h1, h2⟩ := hn r List.mem_cons_self
    have s : (1000 : Nat) < sizeLine := by decide
    have nx : (⟨r.outer, r.inner⟩ : P2 Str Str) ∉ acc := fun z => by
      rw [List.nodup_append] at nd
      exact nd.2.2 _ z _ (by unfold prs; rw [List.map_cons]; exact List.mem_cons_self) rfl
    have hp : okP ⟨r.outer, r.inner⟩ := ⟨hs _ h1, hs _ h2⟩
    obtain ⟨i1, i2⟩ := inD_pairs ⟨r.outer, r.inner⟩ acc hp ha
    dsimp only
    rw [if_neg (by rw [show isIn r.outer ns = true from decide_eq_true h1, show isIn r.inner ns = true from decide_eq_true h2]; decide), if_pos i1, if_neg fun q => nx (i2.mp q), if_pos (by omega), bnd_of rfl]
    exact check_rows_go hs l _ (n + 1) (fun q hq => (List.mem_append.mp hq).elim (ha q) fun z => by rw [List.mem_singleton.mp z]; exact hp) (by rw [List.length_append]; simp; omega) (fun q hq => hn q (List.mem_cons_of_mem _ hq)) (by unfold prs at nd ⊢; simpa using nd)
theorem check_rows_eq {l : List Row} {ns : List Str} (hs : ∀ x ∈ ns, PyData.strOk x = true) (hl : l.length ≤ 1000) (hn : ∀ r ∈ l, r.outer ∈ ns ∧ r.inner ∈ ns) (nd : (prs l).Nodup) : fn_check_rows ⟨l⟩ ns = some () := by
  unfold fn_check_rows
  obtain ⟨z, e⟩ := check_rows_go hs l [] 0 (fun _ q => by cases q) (by simpa using hl) hn (by simpa using nd)
  rw [if_neg (by decide)]
  exact bnd_of e
theorem lcO_ex {α : Type} {f : α → Option Str} {N : Nat} : ∀ {l : List α}, (∀ x ∈ l, ∃ z, f x = some z ∧ z.length ≤ N) → ∃ zs, lcO (fun x => (f x).bind fun r => some (some r)) l = some zs ∧ zs.length = l.length ∧ (zs.map fun x => x.length).sum ≤ N * l.length
  | [], _ => ⟨[], rfl, rfl, by simp⟩
  | x :: l, h => by
    obtain ⟨z, e, hz⟩ := h x List.mem_cons_self
    obtain ⟨zs, e2, h2, h3⟩ := lcO_ex (l := l) fun y hy => h y (List.mem_cons_of_mem _ hy)
    refine ⟨z :: zs, ?_, by simp [h2], ?_⟩
    · unfold lcO
      rw [e]
      simp only [Option.bind_some]
      rw [e2]
      rfl
    · rw [List.map_cons, List.sum_cons, List.length_cons, Nat.mul_succ]
      omega
/-- rules that can be made -/
structure RulOk (ks : List Ev.Kind) (rs : List Row) : Prop where
  ne : ks ≠ []
  l6 : ks.length ≤ 6
  nd : (ks.map Ev.Kind.name).Nodup
  kd : ∀ k ∈ ks, KdOk k
  rl : rs.length ≤ 36
  rn : ∀ r ∈ rs, r.outer ∈ ks.map Ev.Kind.name ∧ r.inner ∈ ks.map Ev.Kind.name
  rd : (prs rs).Nodup
  rw : ∀ r ∈ rs, RwOk r
theorem rules_eqT {ks : List Ev.Kind} {rs : List Row} (h : RulOk ks rs) : ∃ R, fn_Rules_init ⟨ks⟩ ⟨rs⟩ = some R ∧ R.made = ⟨⟨ks⟩, ⟨rs⟩⟩ ∧ ∃ z1 z2, lcO (fun x => (fn_line_of_kind x).bind fun r => some (some r)) ks = some z1 ∧ lcO (fun x => (fn_line_of_row x).bind fun r => some (some r)) rs = some z2 ∧ R.lines = z1 ++ z2 ∧ R.text = PySem.Txt.join ("\n" : Str) (z1 ++ z2) := by
  have s : (1000 : Nat) ≤ sizeLine := by decide
  have l6 := h.l6
  have rl := h.rl
  obtain ⟨z1, e1, a1, b1⟩ := lcO_ex (f := fn_line_of_kind) (N := 1000) (l := ks) fun k hk => line_kind_eq (h.kd k hk)
  obtain ⟨z2, e2, a2, b2⟩ := lcO_ex (f := fn_line_of_row) (N := 1000) (l := rs) fun r hr => line_row_eq (h.rw r hr)
  unfold fn_Rules_init
  rw [bnd_of (check_kinds_eq h.ne h.l6 h.nd), bnd_of (check_rows_eq (fun x hx => by obtain ⟨kd, hk, rfl⟩ := List.mem_map.mp hx; exact (h.kd kd hk).so) (by omega) h.rn h.rd)]
  refine ⟨⟨⟨⟨ks⟩, ⟨rs⟩⟩, z1 ++ z2, PySem.Txt.join ("\n" : Str) (z1 ++ z2)⟩, ?_, rfl, z1, z2, e1, e2, rfl, rfl⟩
  rw [if_pos (show ks.length ≤ sizeLine by omega), bnd_of e1, if_pos (show rs.length ≤ sizeLine by omega), bnd_of e2, if_pos (by omega), if_pos ?_]
  rw [List.map_append, List.sum_append, List.length_append]
  have : (("\n" : Str)).length = 1 := rfl
  rw [this]
  omega
end L
namespace Hv
open PySem L2
theorem str_len (z : Str) : z.cps.toList.length = z.length := by
  show _ = z.cps.size
  simp
end Hv
namespace Hv
open PySem L2
def lineOf (a b : Nat) : List Str := if Nat.gcd a b = 1 then (text a ++ SLASH ++ text b) :: (if a < b then [MARK ++ text a ++ SLASH ++ text b] else []) else []
def inner (b n : Nat) : List Str := (List.range n).flatMap fun a => lineOf a b
def outer (n : Nat) : List Str := (List.range n).flatMap fun i => inner (i + 1) (i + 2)
def BL : List Str := outer 12
def okLine (z : Str) : Bool :=
  match fracOf z with
  | some (a, b) => decide (Txt.split (Txt.replace z MARK (Str.ofString "")) SLASH = [text a, text b]) && (Txt.startswith z (Str.ofString "over") == isOver z) && decide (z.length ≤ 20) &&
      decide ((Txt.removeprefix z MARK).length ≤ 20) && (Txt.split (Txt.removeprefix z MARK) SLASH).all (fun p => decide (p.length ≤ 20)) && decide ((Txt.replace z MARK (Str.ofString "")).length ≤ 20)
  | none => false
theorem BL_ok : BL.all okLine = true := by decide +kernel
theorem sz20 {n : Nat} (h : n ≤ 20) : n + 2 ≤ sizeLine := by
  have : 22 ≤ sizeLine := by decide
  omega
structure Line (z : Str) (a b : Nat) : Prop where
  fr : fracOf z = some (a, b)
  sp : Txt.split (Txt.replace z MARK (Str.ofString "")) SLASH = [text a, text b]
  ov : Txt.startswith z (Str.ofString "over") = isOver z
  ok : TextOk z
  len : z.length ≤ 20
  rl : (Txt.replace z MARK (Str.ofString "")).length ≤ 20
theorem okLine_line {z : Str} (h : okLine z = true) : ∃ a b, Line z a b := by
  unfold okLine at h
  cases e : fracOf z with
  | none => rw [e] at h; cases h
  | some p =>
    obtain ⟨a, b⟩ := p
    rw [e] at h
    simp only [Bool.and_eq_true, decide_eq_true_eq, beq_iff_eq, List.all_eq_true] at h
    obtain ⟨⟨⟨⟨⟨h1, h2⟩, h3⟩, h4⟩, h5⟩, h6⟩ := h
    exact ⟨a, b, e, h1, h2, ⟨sz20 h3, sz20 h4, fun p hp => by have := sz20 (h5 p hp); omega⟩, h3, h6⟩
theorem line_of {z : Str} (h : z ∈ BL) : ∃ a b, Line z a b := okLine_line (List.all_eq_true.mp BL_ok z h)
end Hv
namespace Hv
open PySem L2 TL
theorem str_ext {a b : Str} (h : a.cps.toList = b.cps.toList) : a = b := by
  obtain ⟨⟨x⟩⟩ := a
  obtain ⟨⟨y⟩⟩ := b
  cases (show x = y from h)
  rfl
/-- the parts, put together again -/
def glue (c : Nat) : List (List Nat) → List Nat
  | [] => []
  | [p] => p
  | p :: q :: r => p ++ c :: glue c (q :: r)
theorem pre_one {c d : Nat} {r : List Nat} : pre [c] (d :: r) = decide (d = c) := by
  show (List.take 1 (d :: r) == [c]) = _
  rw [Bool.eq_iff_iff]
  simp
theorem spl_ne (c : Nat) : ∀ (l acc : List Nat), spl [c] 0 acc l ≠ []
  | [], acc => by rw [spl_nil]; simp
  | d :: r, acc => by
    by_cases h : d = c
    · rw [spl_hit (by rw [pre_one, decide_eq_true h])]
      simp
    · rw [spl_miss (by rw [pre_one, decide_eq_false h])]
      exact spl_ne c r _
theorem spl_glue (c : Nat) : ∀ (l acc : List Nat), glue c (spl [c] 0 acc l) = acc ++ l
  | [], acc => by rw [spl_nil]; simp [glue]
  | d :: r, acc => by
    by_cases h : d = c
    · rw [spl_hit (by rw [pre_one, decide_eq_true h])]
      show glue c (acc :: spl [c] 0 [] r) = _
      have ih := spl_glue c r []
      cases e : spl [c] 0 [] r with
      | nil => exact absurd e (spl_ne c r [])
      | cons p q =>
        rw [e] at ih
        show acc ++ c :: glue c (p :: q) = _
        rw [ih, h]
        rfl
    · rw [spl_miss (by rw [pre_one, decide_eq_false h]), spl_glue c r]
      simp
theorem spl_len (c : Nat) : ∀ (l acc : List Nat), ∀ p ∈ spl [c] 0 acc l, p.length ≤ acc.length + l.length
  | [], acc => by
    rw [spl_nil]
    intro p hp
    rw [List.mem_singleton.mp hp]
    exact Nat.le_refl _
  | d :: r, acc => by
    intro p hp
    by_cases h : d = c
    · rw [spl_hit (by rw [pre_one, decide_eq_true h])] at hp
      rcases List.mem_cons.mp hp with rfl | hp
      · omega
      · have := spl_len c r [] p hp
        simp at this ⊢
        omega
    · rw [spl_miss (by rw [pre_one, decide_eq_false h])] at hp
      have := spl_len c r _ p hp
      simp at this ⊢
      omega
theorem kind_slash (z : Str) : ¬ Builtin.Str.strKind z < Builtin.Str.strKind SLASH := by
  have : Builtin.Str.strKind SLASH = 1 := by decide +kernel
  rw [this]
  unfold Builtin.Str.strKind
  repeat' split
  all_goals decide
theorem slash_tl : SLASH.cps.toList = [47] := by decide +kernel
theorem split_tl (z : Str) : (Txt.split z SLASH).map tl = spl [47] 0 [] z.cps.toList := by
  have := split_spl z SLASH (by rw [show tl SLASH = [47] from slash_tl]; simp) (kind_slash z)
  rw [show tl SLASH = [47] from slash_tl] at this
  exact this
theorem split_two {z a b : Str} (h : Txt.split z SLASH = [a, b]) : z = a ++ SLASH ++ b := by
  have e := split_tl z
  rw [h] at e
  have g := spl_glue 47 z.cps.toList []
  rw [← e] at g
  apply str_ext
  have l : (a ++ SLASH ++ b).cps.toList = a.cps.toList ++ SLASH.cps.toList ++ b.cps.toList := by
    show (a.cps ++ SLASH.cps ++ b.cps).toList = _
    simp
  rw [l, slash_tl]
  have g' : a.cps.toList ++ 47 :: b.cps.toList = [] ++ z.cps.toList := g
  simp only [List.nil_append] at g'
  rw [← g']
  simp
theorem prefix_two (z : Str) : (isOver z = true ∧ z = MARK ++ Txt.removeprefix z MARK) ∨ (isOver z = false ∧ Txt.removeprefix z MARK = z) := by
  have ml : MARK.length = 5 := by decide +kernel
  by_cases h : Builtin.Str.subAt z MARK 0 = true
  · have h' : z.cps.extract 0 5 = MARK.cps := by
      unfold Builtin.Str.subAt at h
      rw [ml] at h
      exact eq_of_beq h
    have sz : 5 ≤ z.cps.size := by
      have := congrArg Array.size h'
      rw [Array.size_extract] at this
      have m2 : MARK.cps.size = 5 := ml
      omega
    left
    refine ⟨?_, ?_⟩
    · unfold isOver Txt.startswith
      rw [h, ml]
      simp
      exact sz
    · unfold Txt.removeprefix
      rw [if_pos h, ml]
      unfold Txt.affix
      have zl : z.length = z.cps.size := rfl
      dsimp only
      rw [if_neg (by rw [beq_iff_eq, zl]; omega)]
      apply str_ext
      show z.cps.toList = (MARK.cps ++ z.cps.extract 5 z.length).toList
      rw [← h']
      simp [zl]
      rw [List.take_of_length_le (by simp; omega)]
  · right
    refine ⟨?_, ?_⟩
    · unfold isOver Txt.startswith
      rw [Bool.eq_false_iff.mpr h]
      simp
    · unfold Txt.removeprefix
      rw [if_neg h]
      rfl
def inBL (z : Str) : Bool := BL.any fun x => decide (x = z)
theorem inBL_iff {z : Str} : inBL z = true ↔ z ∈ BL := by
  unfold inBL
  rw [List.any_eq_true]
  constructor
  · rintro ⟨x, hx, e⟩
    rw [← of_decide_eq_true e]
    exact hx
  · exact fun h => ⟨z, h, decide_eq_true rfl⟩
def blTab (q p : Nat) : Bool := !(decide (1 ≤ q) && Nat.gcd p q == 1) || ((!decide (p ≤ q) || inBL (text p ++ SLASH ++ text q)) && (!decide (p + 1 ≤ q) || inBL (MARK ++ (text p ++ SLASH ++ text q))))
theorem bl_mem0 : ((List.range 13).all fun q => (List.range 13).all fun p => blTab q p) = true := by decide +kernel
theorem bl_mem (q : Nat) (h1 : q < 13) (p : Nat) (h2 : p < 13) (h3 : 1 ≤ q) (h4 : Nat.gcd p q = 1) : (p ≤ q → text p ++ SLASH ++ text q ∈ BL) ∧ (p + 1 ≤ q → MARK ++ (text p ++ SLASH ++ text q) ∈ BL) := by
  have h := List.all_eq_true.mp (List.all_eq_true.mp bl_mem0 q (List.mem_range.mpr h1)) p (List.mem_range.mpr h2)
  unfold blTab at h
  rw [decide_eq_true h3, h4] at h
  simp only [BEq.rfl, Bool.and_self, Bool.not_true, Bool.false_or, Bool.and_eq_true, Bool.or_eq_true, Bool.not_eq_true', decide_eq_false_iff_not] at h
  exact ⟨fun q => inBL_iff.mp (h.1.resolve_left (fun z => z q)), fun q => inBL_iff.mp (h.2.resolve_left (fun z => z q))⟩
theorem frac_mem {z : Str} (h : (fracOf z).isSome = true) : z ∈ BL := by
  obtain ⟨⟨p, q⟩, e⟩ := Option.isSome_iff_exists.mp h
  have len : (Txt.split (Txt.removeprefix z MARK) SLASH).length = 2 := by
    by_cases l : (Txt.split (Txt.removeprefix z MARK) SLASH).length = 2
    · exact l
    · rw [fracOf_len l] at e
      cases e
  obtain ⟨a, b, hs⟩ := two_of len
  have hz := split_two hs
  rw [fracOf_two hs] at e
  cases e1 : numOf a 12 with
  | none => rw [e1] at e; cases e
  | some p1 =>
    cases e2 : numOf b 12 with
    | none => rw [e1, e2] at e; cases e
    | some q1 =>
      rw [e1, e2] at e
      dsimp only at e
      obtain ⟨l1, t1⟩ := numOf_some e1
      obtain ⟨l2, t2⟩ := numOf_some e2
      by_cases c : q1 < 1 ∨ 1 < Nat.gcd p1 q1
      · rw [if_pos c] at e
        cases e
      · have g : 0 < Nat.gcd p1 q1 := Nat.gcd_pos_of_pos_right _ (by omega)
        obtain ⟨m1, m2⟩ := bl_mem q1 (by omega) p1 (by omega) (by omega) (by omega)
        rw [if_neg c] at e
        rw [← t1, ← t2] at hz
        rcases prefix_two z with ⟨ov, ez⟩ | ⟨ov, ez⟩
        · rw [ov] at e
          by_cases d : p1 + 1 ≤ q1
          · rw [ez, hz]
            exact m2 d
          · rw [if_neg (by simpa using d)] at e
            cases e
        · rw [ov] at e
          by_cases d : p1 ≤ q1
          · rw [← ez, hz]
            exact m1 d
          · rw [if_neg (by simpa using d)] at e
            cases e
theorem textOk_of {z : Str} (h : z.length ≤ 100000) : TextOk z := by
  have s1 : 100002 ≤ sizeLine := by decide
  have l : (Txt.removeprefix z MARK).length ≤ z.length := by
    rcases prefix_two z with ⟨_, ez⟩ | ⟨_, ez⟩
    · have := congrArg Str.length ez
      rw [Str.length_append] at this
      omega
    · rw [ez]
      exact Nat.le_refl _
  refine ⟨by omega, by omega, fun p hp => ?_⟩
  have m : tl p ∈ spl [47] 0 [] (Txt.removeprefix z MARK).cps.toList := by
    rw [← split_tl]
    exact List.mem_map.mpr ⟨p, hp, rfl⟩
  have := spl_len 47 _ _ _ m
  have e1 : (tl p).length = p.length := str_len p
  have e2 := str_len (Txt.removeprefix z MARK)
  rw [e1, e2] at this
  simp only [List.length_nil, Nat.zero_add] at this
  omega
end Hv
namespace L
open PySem L2 Hv Ev
set_option autoImplicit false
/-! ### holds of small rules -/
/-! ### makings -/
def pk (n : Str) (t : Int) : Ev.Kind := ⟨⟨n, t, .inl 1, none, none⟩⟩
def ek (n b : Str) : Ev.Kind := ⟨⟨n, 0, .inl 1, none, some b⟩⟩
/-! ### houses -/
end L
namespace L
open PySem L2 Hv Ev
set_option autoImplicit false
/-- the well behind at most n draws -/
structure WI (n : Int) (w : Q3 Int Int Int) : Prop where
  a0 : 0 ≤ w.a
  a1 : w.a < 2147483648
  b0 : 0 ≤ w.b
  b1 : w.b ≤ n
  c0 : 0 ≤ w.c
  c1 : Builtin.Int.intBits w.c ≤ 1048576
theorem cmul_small {i j : Int} (h1 : i.natAbs < 2 ^ 64) (h2 : j.natAbs < 2 ^ 64) : CMulW i j := wide_mul h1 h2 (by decide) (by decide) (by decide)
end L
namespace Hv
open PySem L2 TL
set_option autoImplicit false
abbrev LETS : Str := Str.ofString "abcdefghijklmnopqrstuvwxyz"
abbrev DIGS : Str := Str.ofString "0123456789"
def signOk (c : Nat) : Bool := decide (c ∈ LETS.cps.toList) || decide (c ∈ DIGS.cps.toList)
/-- a name: one to eight signs, a letter first -/
def nameOk (z : Str) : Bool := match z.cps.toList with
  | [] => false
  | c :: _ => decide (z.length ≤ 8) && decide (c ∈ LETS.cps.toList) && z.cps.toList.all signOk
theorem atI_zero {α : Type} (c : α) (cs : List α) : atI (c :: cs) 0 = some c := by
  have h : ¬ ((cs.length : Int) + 1 ≤ 0) := by omega
  simp [atI, ixN]
  try omega
/-- a text that is a bound -/
def BT (z : Str) : Prop := TextOk z ∧ (fracOf z).isSome = true
def endsV : Option Str → V
  | none => .non
  | some z => .str z
/-- the parts of a kind -/
structure Kd where
  name : Str
  talks : Int
  needs : V
  closing : Option (Int × Str)
  ends : Option Str
structure Kd.Ok (k : Kd) : Prop where
  name : nameOk k.name = true
  len : k.name.length ≤ sizeLine
  talks : 0 ≤ k.talks ∧ k.talks ≤ 3
  needs : (∃ i, k.needs = .int i ∧ 1 ≤ i ∧ i ≤ 9) ∨ ∃ z, k.needs = .str z ∧ BT z
  closing : ∀ i z, k.closing = some (i, z) → 0 ≤ i ∧ i ≤ 3 ∧ BT z
  ends : ∀ z, k.ends = some z → BT z
abbrev BLANK : Str := Str.ofString " "
/-- the word and the number of an amount -/
def sortOf (z : Str) : Option (Str × Nat) :=
  if z = Str.ofString "free" ∨ z = Str.ofString "again" then some (z, 0) else
  match numOf (Txt.partition z BLANK).2.2 3 with
  | some n => if ((Txt.partition z BLANK).1 = Str.ofString "each" ∨ (Txt.partition z BLANK).1 = Str.ofString "all") ∧ 1 ≤ n then some ((Txt.partition z BLANK).1, n) else none
  | none => none
structure RowOk (o i m : Str) : Prop where
  oOk : nameOk o = true
  ol : o.length ≤ sizeLine
  iOk : nameOk i = true
  il : i.length ≤ sizeLine
  mOk : (sortOf m).isSome = true
  ml : m.length ≤ sizeLine
  pl : (Txt.partition m BLANK).2.2.length ≤ sizeLine
/-- a bound: whether it is "more than", part, whole -/
structure Bd where
  o : Bool
  p : Nat
  q : Nat
structure Bd.Ok (b : Bd) : Prop where
  q1 : 1 ≤ b.q
  q12 : b.q ≤ 12
  pq : b.p ≤ b.q
  gc : Nat.gcd b.p b.q = 1
  ov : b.o = true → b.p < b.q
def Bd.txt (b : Bd) : Str := (if b.o then MARK else Str.ofString "") ++ text b.p ++ SLASH ++ text b.q
def bdTab : Bool := (List.range 13).all fun q => (List.range 13).all fun p => [true, false].all fun o => !(decide (1 ≤ q) && decide (p ≤ q) && Nat.gcd p q == 1 && (!o || decide (p < q))) || (fracOf (Bd.txt ⟨o, p, q⟩) == some (p, q) && isOver (Bd.txt ⟨o, p, q⟩) == o && decide (Bd.txt ⟨o, p, q⟩ ∈ BL))
theorem bdTab_ok : bdTab = true := by decide +kernel
theorem Bd.facts {b : Bd} (h : b.Ok) : fracOf b.txt = some (b.p, b.q) ∧ isOver b.txt = b.o ∧ b.txt ∈ BL := by
  obtain ⟨o, p, q⟩ := b
  obtain ⟨h1, h2, h3, h4, h5⟩ := h
  have k := bdTab_ok
  unfold bdTab at k
  dsimp only at h1 h2 h3 h4 h5
  have k := List.all_eq_true.mp (List.all_eq_true.mp (List.all_eq_true.mp k q (List.mem_range.mpr (by omega))) p (List.mem_range.mpr (by omega))) o (by cases o <;> simp)
  rw [decide_eq_true h1, decide_eq_true h3, h4] at k
  have k2 : (!o || decide (p < q)) = true := by
    cases o with
    | false => rfl
    | true => rw [decide_eq_true (h5 rfl)]; rfl
  rw [k2] at k
  simp only [BEq.rfl, Bool.and_self, Bool.not_true, Bool.false_or, Bool.and_eq_true, beq_iff_eq, decide_eq_true_eq] at k
  exact ⟨k.1.1, k.1.2, k.2⟩
theorem Bd.bt {b : Bd} (h : b.Ok) : BT b.txt := by
  obtain ⟨a, c, l⟩ := line_of (Bd.facts h).2.2
  exact ⟨l.ok, by rw [l.fr]; rfl⟩
theorem Bd.len {b : Bd} (h : b.Ok) : b.txt.length ≤ 20 := by
  obtain ⟨a, c, l⟩ := line_of (Bd.facts h).2.2
  exact l.len
inductive All2 {α β : Type} (R : α → β → Prop) : List α → List β → Prop
  | nil : All2 R [] []
  | cons {a : α} {b : β} {as : List α} {bs : List β} (h : R a b) (t : All2 R as bs) : All2 R (a :: as) (b :: bs)
theorem All2.mono {α β : Type} {R S : α → β → Prop} (f : ∀ a b, R a b → S a b) : ∀ {as : List α} {bs : List β}, All2 R as bs → All2 S as bs
  | _, _, .nil => .nil
  | _, _, .cons h t => .cons (f _ _ h) (t.mono f)
theorem All2.len {α β : Type} {R : α → β → Prop} : ∀ {as : List α} {bs : List β}, All2 R as bs → as.length = bs.length
  | _, _, .nil => rfl
  | _, _, .cons _ t => by simp [t.len]
theorem All2.snoc {α β : Type} {R : α → β → Prop} {a : α} {b : β} (h : R a b) : ∀ {as : List α} {bs : List β}, All2 R as bs → All2 R (as ++ [a]) (bs ++ [b])
  | _, _, .nil => .cons h .nil
  | _, _, .cons k t => .cons k (t.snoc h)
theorem All2.get {α β : Type} {R : α → β → Prop} : ∀ {as : List α} {bs : List β} (_ : All2 R as bs) {i : Nat} {a : α}, as[i]? = some a → ∃ b, bs[i]? = some b ∧ R a b
  | _, _, .nil, i, a, e => by simp at e
  | _, _, .cons h t, 0, a, e => by
    simp at e
    subst e
    exact ⟨_, rfl, h⟩
  | _, _, .cons h t, i + 1, a, e => by
    simp at e
    obtain ⟨b, h1, h2⟩ := t.get e
    exact ⟨b, by simpa using h1, h2⟩
theorem All2.get' {α β : Type} {R : α → β → Prop} : ∀ {as : List α} {bs : List β} (_ : All2 R as bs) {i : Nat} {b : β}, bs[i]? = some b → ∃ a, as[i]? = some a ∧ R a b
  | _, _, .nil, i, a, e => by simp at e
  | _, _, .cons h t, 0, a, e => by
    simp at e
    subst e
    exact ⟨_, rfl, h⟩
  | _, _, .cons h t, i + 1, a, e => by
    simp at e
    obtain ⟨b, h1, h2⟩ := t.get' e
    exact ⟨b, by simpa using h1, h2⟩
theorem All2.append {α β : Type} {R : α → β → Prop} : ∀ {as as' : List α} {bs bs' : List β}, All2 R as bs → All2 R as' bs' → All2 R (as ++ as') (bs ++ bs')
  | _, _, _, _, .nil, h => h
  | _, _, _, _, .cons k t, h => .cons k (t.append h)
theorem All2.take {α β : Type} {R : α → β → Prop} : ∀ (n : Nat) {as : List α} {bs : List β}, All2 R as bs → All2 R (as.take n) (bs.take n)
  | 0, _, _, _ => by simpa using All2.nil
  | n + 1, _, _, .nil => .nil
  | n + 1, _, _, .cons h t => .cons h (t.take n)
theorem All2.drop {α β : Type} {R : α → β → Prop} : ∀ (n : Nat) {as : List α} {bs : List β}, All2 R as bs → All2 R (as.drop n) (bs.drop n)
  | 0, _, _, h => h
  | n + 1, _, _, .nil => .nil
  | n + 1, _, _, .cons _ t => t.drop n
inductive Nd
  | cnt (n : Nat)
  | bd (b : Bd)
structure Sr where
  name : Str
  talks : Nat
  needs : Nd
  closing : Option (Nat × Bd)
  ends : Option Bd
structure Rw where
  o : Nat
  i : Nat
  word : Str
  num : Nat
structure Rw.Ok (m : Nat) (r : Rw) : Prop where
  ol : r.o < m
  il : r.i < m
  am : ((r.word = Str.ofString "each" ∨ r.word = Str.ofString "all") ∧ 1 ≤ r.num ∧ r.num ≤ 3) ∨ ((r.word = Str.ofString "again" ∨ r.word = Str.ofString "free") ∧ r.num = 0)
/-- the rows up to this pair -/
structure RowsTo (n o i : Nat) (rs : List Rw) : Prop where
  ok : ∀ r ∈ rs, Rw.Ok n r ∧ (r.o < o ∨ (r.o = o ∧ r.i < i))
  nd : (rs.map fun r => (r.o, r.i)).Nodup
  len : rs.length ≤ o * n + i
theorem RowsTo.nil {n : Nat} : RowsTo n 0 0 [] := ⟨(fun r h => nomatch h), by simp, by simp⟩
theorem RowsTo.next {n o : Nat} {rs : List Rw} (h : RowsTo n o n rs) : RowsTo n (o + 1) 0 rs := ⟨fun r hr => ⟨(h.ok r hr).1, by have := (h.ok r hr).2; omega⟩, h.nd, by have := h.len; rw [Nat.succ_mul]; omega⟩
structure PlanOk (most : Nat) (ss : List Sr) (rs : List Rw) : Prop where
  one : 1 ≤ ss.length
  mst : ss.length ≤ most
  nm : (ss.map (·.name)).Nodup ∧ ∀ s ∈ ss, nameOk s.name = true
  rw : ∀ r ∈ rs, Rw.Ok ss.length r
  nd : (rs.map fun r => (r.o, r.i)).Nodup
  rl : rs.length ≤ ss.length * ss.length
end Hv
namespace Hv
open PySem L2 TL
/-! ### the amounts -/
theorem par_glue (c : Nat) : ∀ (l acc a b : List Nat), par [c] acc l = some (a, b) → acc ++ l = a ++ c :: b
  | [], acc, a, b, h => by cases h
  | d :: r, acc, a, b, h => by
    by_cases e : d = c
    · rw [par_hit (by rw [pre_one]; exact decide_eq_true e)] at h
      cases h
      rw [e]
      rfl
    · rw [par_miss (by rw [pre_one]; exact decide_eq_false e)] at h
      have := par_glue c r _ a b h
      simpa using this
theorem blank_tl : tl BLANK = [32] := by decide +kernel
theorem part_cases (z : Str) : Txt.partition z BLANK = (z, Str.empty, Str.empty) ∨ ∃ a b, Txt.partition z BLANK = (a, BLANK, b) ∧ z = a ++ BLANK ++ b := by
  have e := partition_par z BLANK (by rw [blank_tl]; simp)
  rw [blank_tl] at e
  cases q : par [32] [] (tl z) with
  | none =>
    rw [q] at e
    exact .inl e
  | some p =>
    obtain ⟨a, b⟩ := p
    rw [q] at e
    refine .inr ⟨_, _, e, ?_⟩
    have g := par_glue 32 (tl z) [] a b q
    apply str_ext
    have l : ∀ x y w : Str, (x ++ y ++ w).cps.toList = x.cps.toList ++ y.cps.toList ++ w.cps.toList := fun x y w => by
      show (x.cps ++ y.cps ++ w.cps).toList = _
      simp
    rw [l, show BLANK.cps.toList = [32] from blank_tl]
    have g' : z.cps.toList = a ++ 32 :: b := by simpa using g
    rw [g']
    simp
theorem part_len (z : Str) : (Txt.partition z BLANK).2.2.length ≤ z.length := by
  rcases part_cases z with e | ⟨a, b, e, h⟩
  · rw [e]
    exact Nat.zero_le _
  · rw [e]
    rw [h, Str.length_append, Str.length_append]
    show b.length ≤ _
    omega
def AMTS : List Str := [Str.ofString "each 1", Str.ofString "each 2", Str.ofString "each 3", Str.ofString "all 1", Str.ofString "all 2", Str.ofString "all 3", Str.ofString "free", Str.ofString "again"]
theorem amts_some : ∀ z ∈ AMTS, (sortOf z).isSome = true := by decide +kernel
theorem amts_free : Str.ofString "free" ∈ AMTS ∧ Str.ofString "again" ∈ AMTS := by decide +kernel
theorem amts_num : ∀ n < 4, 1 ≤ n → Str.ofString "each" ++ BLANK ++ text n ∈ AMTS ∧ Str.ofString "all" ++ BLANK ++ text n ∈ AMTS := by decide +kernel
theorem numOf_empty : numOf Str.empty 3 = none := by decide +kernel
theorem amount_mem {z : Str} (h : (sortOf z).isSome = true) : z ∈ AMTS := by
  unfold sortOf at h
  split at h
  · rename_i c
    rcases c with rfl | rfl
    · exact amts_free.1
    · exact amts_free.2
  · split at h
    · rename_i n hn
      split at h
      · rename_i c
        rcases part_cases z with e | ⟨a, b, e, hz⟩
        · rw [e, numOf_empty] at hn
          cases hn
        · rw [e] at hn c
          obtain ⟨h1, h2⟩ := numOf_some hn
          have := amts_num n (by omega) c.2
          rw [hz, ← show text n = b from h2]
          rcases c.1 with q | q
          · rw [show a = _ from q]; exact this.1
          · rw [show a = _ from q]; exact this.2
      · cases h
    · cases h
end Hv
namespace Hv
open PySem L2 TL PySem.StrLaws PySem.Builtin PySem.Builtin.Str
/-! x.split(sep, k), sep one sign -/
theorem occ_lim (s sub : Str) (hi limit full : Nat) : ∀ (l : List Nat) (st st' : Array Nat × Nat), st'.fst.size + l.length ≤ full → st.fst.toList = st'.fst.toList.take limit → (st'.fst.size < limit → st.snd = st'.snd) →
    (forIn l st (occBody s sub hi limit)).run.fst.toList = (forIn l st' (occBody s sub hi full)).run.fst.toList.take limit
  | [], st, st', _, h, _ => h
  | a :: l, st, st', hf, h, hs => by
    rw [List.forIn_cons, List.forIn_cons]
    have hl : st'.fst.size + l.length + 1 ≤ full := by simpa [Nat.add_assoc] using hf
    have sz : st.fst.size = min limit st'.fst.size := by
      have := congrArg List.length h
      simpa using this
    unfold occBody
    by_cases c : ((st'.fst.size < full ∧ st'.snd ≤ a) ∧ a + sub.length ≤ hi) ∧ subAt s sub a = true
    · rw [if_pos c]
      by_cases d : st'.fst.size < limit
      · have d' : ((st.fst.size < limit ∧ st.snd ≤ a) ∧ a + sub.length ≤ hi) ∧ subAt s sub a = true := ⟨⟨⟨by omega, by rw [hs d]; exact c.1.1.2⟩, c.1.2⟩, c.2⟩
        rw [if_pos d']
        refine occ_lim s sub hi limit full l _ _ ?_ ?_ ?_
        · show (st'.fst.push a).size + l.length ≤ full
          rw [Array.size_push]
          omega
        · show (st.fst.push a).toList = (st'.fst.push a).toList.take limit
          rw [Array.toList_push, Array.toList_push, h, List.take_of_length_le (by simp; omega), List.take_of_length_le (by simp; omega)]
        · intro _
          rfl
      · rw [if_neg (fun z => by have := z.1.1.1; omega)]
        refine occ_lim s sub hi limit full l _ _ ?_ ?_ ?_
        · show (st'.fst.push a).size + l.length ≤ full
          rw [Array.size_push]
          omega
        · show st.fst.toList = (st'.fst.push a).toList.take limit
          rw [Array.toList_push, List.take_append_of_le_length (by simp; omega), h]
        · intro z
          have z : (st'.fst.push a).size < limit := z
          rw [Array.size_push] at z
          omega
    · rw [if_neg c]
      have d : ¬ (((st.fst.size < limit ∧ st.snd ≤ a) ∧ a + sub.length ≤ hi) ∧ subAt s sub a = true) := fun z => c ⟨⟨⟨by omega, by rw [← hs (by have := z.1.1.1; omega)]; exact z.1.1.2⟩, z.1.2⟩, z.2⟩
      rw [if_neg d]
      exact occ_lim s sub hi limit full l _ _ (by show st'.fst.size + l.length ≤ full; omega) h hs
theorem occ_take (x y : Str) (limit : Nat) : occurrences x y 0 x.length limit = (occurrences x y 0 x.length (x.length + 1)).take limit := by
  rw [occ_eq, occ_eq]
  refine occ_lim x y x.length limit (x.length + 1) _ _ _ ?_ ?_ ?_
  · simp
  · simp
  · intro _
    rfl
def splm (s : Nat) : Nat → List Nat → List Nat → List (List Nat)
  | 0, acc, l => [acc ++ l]
  | _ + 1, acc, [] => [acc]
  | n + 1, acc, c :: r => if c = s then acc :: splm s n [] r else splm s (n + 1) (acc ++ [c]) r
theorem splm_free {s n : Nat} : ∀ (p acc : List Nat), s ∉ p → splm s (n + 1) acc p = [acc ++ p]
  | [], acc, _ => by simp [splm]
  | c :: r, acc, h => by
    have h1 : c ≠ s := fun e => h (by rw [e]; exact List.mem_cons_self)
    rw [splm, if_neg h1, splm_free r _ (fun q => h (List.mem_cons_of_mem _ q))]
    simp
theorem splm_part {s n : Nat} {r : List Nat} : ∀ (p acc : List Nat), s ∉ p → splm s (n + 1) acc (p ++ s :: r) = (acc ++ p) :: splm s n [] r
  | [], acc, _ => by simp [splm]
  | c :: q, acc, h => by
    have h1 : c ≠ s := fun e => h (by rw [e]; exact List.mem_cons_self)
    rw [List.cons_append, splm, if_neg h1, splm_part q _ (fun z => h (List.mem_cons_of_mem _ z))]
    simp
theorem mem_pre {s : Nat} {L : List Nat} (h : ∀ k, k < L.length → pre [s] (L.drop k) = false) : s ∉ L := by
  intro hm
  obtain ⟨k, hk, e⟩ := List.mem_iff_getElem.mp hm
  have := h k hk
  rw [List.drop_eq_getElem_cons hk, e] at this
  have z : pre [s] (s :: L.drop (k + 1)) = true := pre_self [s] _
  rw [z] at this
  cases this
theorem parts_splm {x : Str} {s : Nat} : ∀ (cuts : List Nat) (a f n : Nat), a ≤ (tl x).length → ChainG x ⟨#[s]⟩ x.length a cuts f → (∀ k, f ≤ k → ¬ At x ⟨#[s]⟩ x.length k) →
    (partsFrom x 1 a (cuts.take n)).map tl = splm s n [] ((tl x).drop a)
  | cuts, a, f, 0, ha, h, hn => by
    rw [List.take_zero]
    rw [splm]
    show [tl (strSub x a x.length)] = _
    rw [tl_strSub_end, List.nil_append]
  | [], a, f, n + 1, ha, h, hn => by
    have e : f = a := h
    subst e
    show [tl (strSub x f x.length)] = _
    rw [tl_strSub_end, splm_free _ _ ?_, List.nil_append]
    refine mem_pre fun k hk => ?_
    rw [List.drop_drop]
    exact no_at (x := x) (y := ⟨#[s]⟩) (by simp [tl]) (hn _ (by omega))
  | c :: r, a, f, n + 1, ha, h, hn => by
    obtain ⟨h1, h2, h3, h4⟩ := h
    have hc : c + 1 ≤ x.length := h2.1
    have hx := TL.len_tl x
    have ih := parts_splm r (c + 1) f n (by omega) h4 hn
    show tl (strSub x a c) :: (partsFrom x 1 (c + 1) (r.take n)).map tl = _
    rw [ih, tl_strSub]
    have pc : pre [s] ((tl x).drop c) = true := (at_iff (x := x) (y := ⟨#[s]⟩) (by simp [tl]) c).mp h2
    obtain ⟨d, ed⟩ := getElem_drop_cons (L := tl x) (a := c) (by omega)
    have es : d = s := by
      rw [ed] at pc
      by_cases q : d = s
      · exact q
      · rw [pre_of_head [] _ q] at pc
        cases pc
    rw [es] at ed
    have e2 : (tl x).drop a = ((tl x).drop a).take (c - a) ++ s :: (tl x).drop (c + 1) := by
      conv => lhs; rw [← List.take_append_drop (c - a) ((tl x).drop a)]
      rw [List.drop_drop, show a + (c - a) = c by omega, ed]
    conv => rhs; rw [e2]
    rw [splm_part _ _ ?_, List.nil_append]
    refine mem_pre fun k hk => ?_
    rw [List.length_take, List.length_drop] at hk
    have z := no_at (x := x) (y := ⟨#[s]⟩) (by simp [tl]) (h3 (a + k) (by omega) (by omega))
    rw [List.drop_take, List.drop_drop]
    have hk2 : a + k < (tl x).length := by omega
    rw [List.drop_eq_getElem_cons hk2] at z ⊢
    have ne : (tl x)[a + k] ≠ s := fun q => by
      rw [q] at z
      have := pre_self [s] ((tl x).drop (a + k + 1))
      rw [List.singleton_append] at this
      rw [show tl (⟨#[s]⟩ : Str) = [s] from rfl, this] at z
      cases z
    rw [show c - a - k = (c - a - k - 1) + 1 by omega, List.take_succ_cons]
    exact pre_of_head [] _ ne
theorem kind_one {x : Str} {s : Nat} (hs : Builtin.Str.strKind (⟨#[s]⟩ : Str) = 1) : ¬ Builtin.Str.strKind x < Builtin.Str.strKind (⟨#[s]⟩ : Str) := by
  rw [hs]
  unfold Builtin.Str.strKind
  repeat' split
  all_goals decide
theorem splitMax_splm {x : Str} {s n : Nat} (hs : Builtin.Str.strKind (⟨#[s]⟩ : Str) = 1) (hn : 1 ≤ n) : (Txt.splitMax x ⟨#[s]⟩ (n : Int)).map tl = splm s n [] (tl x) := by
  have y1 : (⟨#[s]⟩ : Str).length = 1 := rfl
  obtain ⟨f, g, tn⟩ := occ_tight x ⟨#[s]⟩ (by rw [y1]; exact Nat.le_refl _)
  have key := parts_splm _ 0 f n (Nat.zero_le _) g tn
  rw [List.drop_zero] at key
  have lim : limitOf x (n : Int) = n := by
    unfold limitOf
    rw [if_neg (by omega)]
    simp
  have none_case : (occurrences x ⟨#[s]⟩ 0 x.length (x.length + 1)).take n = [] → [x].map tl = splm s n [] (tl x) := fun ho => by
    rw [ho] at key
    rw [← key]
    show [tl x] = [tl (strSub x 0 x.length)]
    rw [sub_whole]
  unfold Txt.splitMax
  rw [lim, occ_take]
  by_cases h1 : (decide (x.length < (⟨#[s]⟩ : Str).length) || decide (Builtin.Str.strKind x < Builtin.Str.strKind (⟨#[s]⟩ : Str))) = true
  · rw [if_pos h1]
    rw [Bool.or_eq_true, decide_eq_true_eq, decide_eq_true_eq] at h1
    have h2 := h1.resolve_right (kind_one hs)
    refine none_case ?_
    have e : occurrences x ⟨#[s]⟩ 0 x.length (x.length + 1) = [] := by
      cases q : occurrences x ⟨#[s]⟩ 0 x.length (x.length + 1) with
      | nil => rfl
      | cons c r =>
        rw [q] at g
        have := g.2.1.1
        rw [y1] at this h2
        omega
    rw [e, List.take_nil]
  · rw [if_neg h1]
    by_cases h2 : ((occurrences x ⟨#[s]⟩ 0 x.length (x.length + 1)).take n).isEmpty = true
    · rw [if_pos h2]
      exact none_case (List.isEmpty_iff.mp h2)
    · rw [if_neg h2, partsBetween_eq]
      exact key
theorem blank_mk : BLANK = ⟨#[32]⟩ := by decide +kernel
theorem splitB (z : Str) : (Txt.splitMax z BLANK 3).map tl = splm 32 3 [] (tl z) := by
  rw [blank_mk]
  exact splitMax_splm (n := 3) (by decide +kernel) (by decide)
/-- the line of a row, split -/
theorem splitB_four {u o i m : Str} (hu : 32 ∉ tl u) (ho : 32 ∉ tl o) (hi : 32 ∉ tl i) : Txt.splitMax (u ++ (BLANK ++ (o ++ (BLANK ++ (i ++ (BLANK ++ m)))))) BLANK 3 = [u, o, i, m] := by
  refine map_tl_inj ?_
  rw [splitB]
  simp only [tl_append]
  rw [blank_tl]
  show splm 32 3 [] (tl u ++ 32 :: (tl o ++ 32 :: (tl i ++ 32 :: tl m))) = _
  rw [splm_part _ _ hu, splm_part _ _ ho, splm_part _ _ hi, splm]
  simp
end Hv
namespace Hv
open PySem L2 TL
set_option autoImplicit false
theorem app_assoc (a b c : Str) : a ++ b ++ c = a ++ (b ++ c) := ext_tl (by simp only [tl_append, List.append_assoc])
theorem empty_app (a : Str) : Str.empty ++ a = a := ext_tl (by rw [tl_append]; rfl)
def joinB (ws : List Str) : Str := Txt.join BLANK ws
theorem joinB_str (ws : List Str) : joinB ws = Str.join BLANK ws := join_eq _ _
theorem joinB_one (a : Str) : joinB [a] = a := by rw [joinB_str]; rfl
theorem joinB_cons {a b : Str} {l : List Str} : joinB (a :: b :: l) = a ++ (BLANK ++ joinB (b :: l)) := by
  rw [joinB_str, joinB_str, ← app_assoc]
  rfl
theorem joinB_app : ∀ {a b : List Str}, a ≠ [] → b ≠ [] → joinB (a ++ b) = joinB a ++ (BLANK ++ joinB b)
  | [], _, h, _ => absurd rfl h
  | [x], [], _, h => absurd rfl h
  | [x], y :: b, _, _ => by
    show joinB (x :: y :: b) = _
    rw [joinB_cons, joinB_one]
  | x :: y :: a, b, _, h => by
    show joinB (x :: y :: (a ++ b)) = _
    rw [joinB_cons, joinB_cons, show y :: (a ++ b) = (y :: a) ++ b from rfl, joinB_app (by simp) h]
    simp only [app_assoc]
def bw (z : Str) : List Str := Txt.split z BLANK
theorem joinB_bw (z : Str) : joinB (bw z) = z := by
  rw [joinB_str]
  exact StrLaws.join_split z BLANK
theorem bw_join {ws : List Str} (h : ws ≠ []) (hf : ∀ z ∈ ws, 32 ∉ tl z) : bw (joinB ws) = ws := split_join (S := []) blank_tl (by decide +kernel) h hf
theorem bw_ne (z : Str) : bw z ≠ [] := by
  intro e
  have := congrArg List.length (split_spl z BLANK (by rw [blank_tl]; simp) (kind_ok (by decide +kernel)))
  rw [show Txt.split z BLANK = [] from e] at this
  rw [blank_tl] at this
  have n : spl [32] 0 [] (tl z) ≠ [] := by
    have g : ∀ (l acc : List Nat), spl [32] 0 acc l ≠ [] := by
      intro l
      induction l with
      | nil =>
        intro acc
        rw [spl_nil]
        simp
      | cons c r ih =>
        intro acc
        by_cases h : pre [32] (c :: r) = true
        · rw [spl_hit h]
          simp
        · rw [spl_miss (by simpa using h)]
          exact ih _
    exact g _ _
  exact n (List.length_eq_zero_iff.mp (by simpa using this.symm))
theorem mem_joinL {S : List Nat} {c : Nat} : ∀ {ps : List (List Nat)} {p : List Nat}, p ∈ ps → c ∈ p → c ∈ joinL S ps
  | [], _, h, _ => nomatch h
  | [q], p, h, hc => by
    rw [List.mem_singleton.mp h] at hc
    exact hc
  | q :: r :: t, p, h, hc => by
    show c ∈ q ++ (S ++ joinL S (r :: t))
    rcases List.mem_cons.mp h with rfl | h
    · exact List.mem_append_left _ hc
    · exact List.mem_append_right _ (List.mem_append_right _ (mem_joinL h hc))
theorem bw_mem {z p : Str} {c : Nat} (h : p ∈ bw z) (hc : c ∈ tl p) : c ∈ tl z := by
  have e := congrArg tl (joinB_bw z)
  rw [joinB_str, tl_join] at e
  rw [← e]
  exact mem_joinL (List.mem_map.mpr ⟨p, h, rfl⟩) hc
theorem len_joinL {S : List Nat} : ∀ {ps : List (List Nat)} {p : List Nat}, p ∈ ps → p.length ≤ (joinL S ps).length
  | [], _, h => nomatch h
  | [q], p, h => by
    rw [List.mem_singleton.mp h]
    exact Nat.le_refl _
  | q :: r :: t, p, h => by
    show p.length ≤ (q ++ (S ++ joinL S (r :: t))).length
    rw [List.length_append, List.length_append]
    rcases List.mem_cons.mp h with rfl | h
    · omega
    · have := len_joinL (S := S) h
      omega
theorem bw_len {z p : Str} (h : p ∈ bw z) : p.length ≤ z.length := by
  have e := congrArg tl (joinB_bw z)
  rw [joinB_str, tl_join] at e
  rw [TL.len_tl, TL.len_tl, ← e]
  exact len_joinL (List.mem_map.mpr ⟨p, h, rfl⟩)
/-- texts that can be compared -/
def WOk (ws : List Str) : Prop := ∀ z ∈ ws, PyData.strOk z = true ∧ z.length ≤ 40000
theorem WOk.sub {a b : List Str} (h : WOk b) (s : ∀ z ∈ a, z ∈ b) : WOk a := fun z hz => h z (s z hz)
theorem WOk.drop {a : List Str} (h : WOk a) (n : Nat) : WOk (a.drop n) := h.sub fun _ hz => List.mem_of_mem_drop hz
theorem WOk.take {a : List Str} (h : WOk a) (n : Nat) : WOk (a.take n) := h.sub fun _ hz => List.mem_of_mem_take hz
theorem wok_bw {z : Str} (h : PyData.strOk z = true) (hl : z.length ≤ 40000) : WOk (bw z) := fun p hp => by
  refine ⟨?_, Nat.le_trans (bw_len hp) hl⟩
  unfold PyData.strOk at h ⊢
  rw [Array.all_eq_true'] at h ⊢
  intro c hc
  exact h c (by simpa using bw_mem hp (by simpa [tl] using hc))
theorem lays : ∀ {l : List Str}, WOk l → PyData.canLayAll0 (l.map PyData.str) = true ∧ PyData.depthAll (l.map PyData.str) ≤ 0
  | [], _ => ⟨rfl, Nat.le_refl _⟩
  | z :: l, h => by
    obtain ⟨h1, h2⟩ := lays (l := l) fun x hx => h x (List.mem_cons_of_mem _ hx)
    refine ⟨?_, ?_⟩
    · show (PyData.canLay0 (.str z) && PyData.canLayAll0 (l.map PyData.str)) = true
      rw [h1, show PyData.canLay0 (.str z) = true from (h z List.mem_cons_self).1]
      rfl
    · show max 0 (PyData.depthAll (l.map PyData.str)) ≤ 0
      omega
theorem WOk.shaped {l : List Str} (h : WOk l) : SeqAt.shaped (.list (l.map PyData.str)) = true := by
  obtain ⟨h1, h2⟩ := lays h
  unfold SeqAt.shaped
  rw [show PyData.canLay0 (.list (l.map PyData.str)) = true from h1]
  exact decide_eq_true (by show PyData.depthAll (l.map PyData.str) + 1 ≤ 64; omega)
theorem eqv_strs (l m : List Str) : PyData.eqv (.list (l.map PyData.str)) (.list (m.map PyData.str)) = decide (l = m) := by
  show PyData.eqvAll (l.map PyData.str) (m.map PyData.str) = _
  induction l generalizing m with
  | nil => cases m <;> simp [PyData.eqvAll]
  | cons a l ih =>
    cases m with
    | nil => simp [PyData.eqvAll]
    | cons b m =>
      rw [List.map_cons, List.map_cons, PyData.eqvAll, ih, show PyData.eqv (.str a) (.str b) = (a == b) from by simp [PyData.eqv]]
      by_cases e : a = b <;> by_cases e2 : l = m <;> simp [e, e2]
def num (i : Int) : Str := Str.ofString (toString i)
def tW (t : Int) : List Str := if 0 < t then [Str.ofString "talks", num t] else []
def nW : V → List Str
  | .int n => if 1 < n then [Str.ofString "needs", num n] else []
  | .str z => Str.ofString "needs" :: bw z
  | _ => []
def cW : Option (Int × Str) → List Str
  | none => []
  | some (i, z) => ([Str.ofString "closed", Str.ofString "after", num i, Str.ofString "by"] : List Str) ++ bw z
def eW : Option Str → List Str
  | none => []
  | some z => ([Str.ofString "ends", Str.ofString "by"] : List Str) ++ bw z
def kwords (k : Kd) : List Str := ([Str.ofString "motion", k.name] : List Str) ++ (tW k.talks ++ (nW k.needs ++ (cW k.closing ++ eW k.ends)))
def lineK (k : Kd) : Str := joinB (kwords k)
def lineR (o i m : Str) : Str := joinB [Str.ofString "under", o, i, m]
def afterNum (ws marks : List Str) (most : Nat) : Option Nat × List Str :=
  if ws.take marks.length = marks ∧ marks.length < ws.length then
    match numOf (ws.getD marks.length Str.empty) most with
    | some n => (some n, ws.drop (marks.length + 1))
    | none => (none, ws)
  else (none, ws)
def moreOf (ws : List Str) (size : Nat) : Nat := if (ws.drop size).take 1 = [Str.ofString "over"] then 2 else 1
def bdOf (ws : List Str) (size : Nat) : Str := joinB ((ws.drop size).take (moreOf ws size))
def afterBd (ws marks : List Str) : Option Str × List Str :=
  if ws.take marks.length = marks ∧ (fracOf (bdOf ws marks.length)).isSome = true then (some (bdOf ws marks.length), ws.drop (marks.length + moreOf ws marks.length)) else (none, ws)
theorem afterNum_sub (ws marks : List Str) (most : Nat) : ∀ z ∈ (afterNum ws marks most).2, z ∈ ws := by
  intro z hz
  unfold afterNum at hz
  split at hz
  · split at hz
    · exact List.mem_of_mem_drop hz
    · exact hz
  · exact hz
theorem afterBd_sub (ws marks : List Str) : ∀ z ∈ (afterBd ws marks).2, z ∈ ws := by
  intro z hz
  unfold afterBd at hz
  split at hz
  · exact List.mem_of_mem_drop hz
  · exact hz
theorem name_len {z : Str} (h : nameOk z = true) : z.length ≤ 8 := by
  unfold nameOk at h
  cases e : z.cps.toList with
  | nil => rw [e] at h; cases h
  | cons c cs =>
    rw [e] at h
    simp only [Bool.and_eq_true, decide_eq_true_eq] at h
    exact h.1.1
theorem num_len {i : Int} (h0 : 0 ≤ i) (h : i ≤ 12) : (num i).length ≤ 2 := by
  obtain ⟨n, rfl⟩ := Int.eq_ofNat_of_zero_le h0
  exact text_short n (by omega)
theorem bt_len {z : Str} (h : BT z) : z.length ≤ 20 := by
  obtain ⟨a, b, l⟩ := line_of (frac_mem h.2)
  exact l.len
theorem j_motion (z : Str) : Str.empty ++ Str.ofString "motion " ++ z = joinB [Str.ofString "motion", z] := by
  rw [empty_app, joinB_cons, joinB_one, ← app_assoc]
  congr 1
theorem j_two {X : List Str} {a p : Str} (w : Str) (h : X ≠ []) (e : p = BLANK ++ w ++ BLANK) : joinB X ++ (Str.empty ++ p ++ a) = joinB (X ++ [w, a]) := by
  rw [joinB_app h (by simp), joinB_cons, joinB_one, empty_app, e]
  simp only [app_assoc]
theorem j_bw {X : List Str} {p z : Str} (ws : List Str) (h : X ≠ []) (hw : ws ≠ []) (e : p = BLANK ++ joinB ws ++ BLANK) : joinB X ++ (Str.empty ++ p ++ z) = joinB (X ++ (ws ++ bw z)) := by
  rw [joinB_app h (by simp [hw]), joinB_app hw (bw_ne z), joinB_bw, empty_app, e]
  simp only [app_assoc]
theorem j_clos {X : List Str} {n z : Str} (h : X ≠ []) : joinB X ++ (Str.empty ++ Str.ofString " closed after " ++ n ++ Str.ofString " by " ++ z) = joinB (X ++ ([Str.ofString "closed", Str.ofString "after", n, Str.ofString "by"] ++ bw z)) := by
  rw [joinB_app h (by simp), joinB_app (by simp) (bw_ne z), joinB_bw, joinB_cons, joinB_cons, joinB_cons, joinB_one, empty_app]
  have e1 : Str.ofString " closed after " = BLANK ++ (Str.ofString "closed" ++ (BLANK ++ (Str.ofString "after" ++ BLANK))) := by decide +kernel
  have e2 : Str.ofString " by " = BLANK ++ (Str.ofString "by" ++ BLANK) := by decide +kernel
  rw [e1, e2]
  simp only [app_assoc]
theorem j_ends {X : List Str} {z : Str} (h : X ≠ []) : joinB X ++ (Str.empty ++ Str.ofString " ends by " ++ z) = joinB (X ++ ([Str.ofString "ends", Str.ofString "by"] ++ bw z)) :=
  j_bw _ h (by simp) (by decide +kernel)
/-- needs, as a value -/
def needsOf (n : Option Nat) (b : Option Str) : V := match n with
  | some i => .int (i : Int)
  | none => endsV b
def closOf (a : Option Nat) (b : Option Str) : Option (Int × Str) := match a, b with
  | some i, some y => some ((i : Int), y)
  | _, _ => none
structure Parse where
  talks : Option Nat
  needs : V
  clos : Option (Int × Str)
  ends : Option Str
  left : List Str
def parseK (l0 : List Str) : Parse :=
  let t := afterNum l0 [Str.ofString "talks"] 3
  let n := afterNum t.2 [Str.ofString "needs"] 9
  let nb := if n.1.isNone then afterBd n.2 [Str.ofString "needs"] else (none, n.2)
  let a := afterNum nb.2 [Str.ofString "closed", Str.ofString "after"] 3
  let b := afterBd a.2 [Str.ofString "by"]
  let l4 := if (closOf a.1 b.1).isSome then b.2 else nb.2
  let e := afterBd l4 [Str.ofString "ends", Str.ofString "by"]
  ⟨t.1, needsOf n.1 nb.1, closOf a.1 b.1, e.1, e.2⟩
abbrev R3 : Type := Str × Str × Str
abbrev NL : Str := Str.ofString "\n"
structure KindsOk (ks : List Kd) : Prop where
  one : 1 ≤ ks.length
  six : ks.length ≤ 6
  nd : (ks.map (·.name)).Nodup
  ok : ∀ k ∈ ks, k.Ok
structure RowsOk (ks : List Kd) (rs : List R3) : Prop where
  nd : (rs.map fun r => (r.1, r.2.1)).Nodup
  ok : ∀ r ∈ rs, RowOk r.1 r.2.1 r.2.2 ∧ r.1 ∈ ks.map (·.name) ∧ r.2.1 ∈ ks.map (·.name)
def linesR (ks : List Kd) (rs : List R3) : List Str := ks.map lineK ++ rs.map fun r => lineR r.1 r.2.1 r.2.2
def textR (ks : List Kd) (rs : List R3) : Str := Txt.join NL (linesR ks rs)
theorem sign_lt {c : Nat} (h : signOk c = true) : c < 128 ∧ c ≠ 32 ∧ c ≠ 10 := by
  have l : ∀ c ∈ LETS.cps.toList, c < 128 ∧ c ≠ 32 ∧ c ≠ 10 := by decide +kernel
  have d : ∀ c ∈ DIGS.cps.toList, c < 128 ∧ c ≠ 32 ∧ c ≠ 10 := by decide +kernel
  unfold signOk at h
  simp only [Bool.or_eq_true, decide_eq_true_eq] at h
  rcases h with h | h
  · exact l c h
  · exact d c h
theorem name_signs {z : Str} (h : nameOk z = true) : ∀ c ∈ z.cps.toList, c < 128 ∧ c ≠ 32 ∧ c ≠ 10 := by
  unfold nameOk at h
  cases e : z.cps.toList with
  | nil => intro c hc; cases hc
  | cons d cs =>
    rw [e] at h
    simp only [Bool.and_eq_true, List.all_eq_true] at h
    exact fun c hc => sign_lt (h.2 c hc)
theorem strOk_of {z : Str} (h : ∀ c ∈ z.cps.toList, c < 128) : PyData.strOk z = true := by
  unfold PyData.strOk
  rw [Array.all_eq_true']
  intro c hc
  have := h c (by simpa using hc)
  exact decide_eq_true (by omega)
theorem name_strOk {z : Str} (h : nameOk z = true) : PyData.strOk z = true := strOk_of fun c hc => (name_signs h c hc).1
theorem lenJ_app (a b : List Str) : (joinB (a ++ b)).length ≤ (joinB a).length + 1 + (joinB b).length := by
  cases a with
  | nil =>
    rw [List.nil_append]
    omega
  | cons x a =>
    cases b with
    | nil =>
      rw [List.append_nil]
      omega
    | cons y b =>
      rw [joinB_app (by simp) (by simp), Str.length_append, Str.length_append]
      have : BLANK.length = 1 := rfl
      omega
theorem lineK_len {k : Kd} (ok : k.Ok) : (lineK k).length ≤ 150 := by
  have nl := name_len ok.name
  have b1 : BLANK.length = 1 := rfl
  have e1 : (Str.ofString "motion").length = 6 := by decide +kernel
  have e2 : (Str.ofString "talks").length = 5 := by decide +kernel
  have e3 : (Str.ofString "needs").length = 5 := by decide +kernel
  have e4 : (Str.ofString "closed").length = 6 := by decide +kernel
  have e5 : (Str.ofString "after").length = 5 := by decide +kernel
  have e6 : (Str.ofString "by").length = 2 := by decide +kernel
  have e7 : (Str.ofString "ends").length = 4 := by decide +kernel
  have l0 : (joinB [Str.ofString "motion", k.name]).length ≤ 15 := by
    rw [joinB_cons, joinB_one, Str.length_append, Str.length_append]
    omega
  have j0 : (joinB []).length = 0 := by rw [joinB_str]; rfl
  have l1 : (joinB (tW k.talks)).length ≤ 8 := by
    unfold tW
    split
    · have := num_len ok.talks.1 (Int.le_trans ok.talks.2 (by decide))
      rw [joinB_cons, joinB_one, Str.length_append, Str.length_append]
      omega
    · omega
  have l2 : (joinB (nW k.needs)).length ≤ 26 := by
    rcases ok.needs with ⟨i, e, i1, i9⟩ | ⟨z, e, bz⟩
    · rw [e]
      show (joinB (if 1 < i then [Str.ofString "needs", num i] else [])).length ≤ 26
      split
      · have := num_len (i := i) (by omega) (by omega)
        rw [joinB_cons, joinB_one, Str.length_append, Str.length_append]
        omega
      · omega
    · rw [e]
      show (joinB ([Str.ofString "needs"] ++ bw z)).length ≤ 26
      have := bt_len bz
      have := lenJ_app [Str.ofString "needs"] (bw z)
      rw [joinB_bw, joinB_one] at this
      omega
  have l3 : (joinB (cW k.closing)).length ≤ 50 := by
    cases e : k.closing with
    | none => show (joinB []).length ≤ 50; omega
    | some p =>
      obtain ⟨i, z⟩ := p
      obtain ⟨h1, h2, bz⟩ := ok.closing i z e
      have := bt_len bz
      have t := num_len (i := i) h1 (by omega)
      have q := lenJ_app [Str.ofString "closed", Str.ofString "after", num i, Str.ofString "by"] (bw z)
      rw [joinB_bw, joinB_cons, joinB_cons, joinB_cons, joinB_one] at q
      simp only [Str.length_append] at q
      show (joinB ([Str.ofString "closed", Str.ofString "after", num i, Str.ofString "by"] ++ bw z)).length ≤ 50
      omega
  have l4 : (joinB (eW k.ends)).length ≤ 40 := by
    cases e : k.ends with
    | none => show (joinB []).length ≤ 40; omega
    | some z =>
      have := bt_len (ok.ends z e)
      have q := lenJ_app [Str.ofString "ends", Str.ofString "by"] (bw z)
      rw [joinB_bw, joinB_cons, joinB_one] at q
      simp only [Str.length_append] at q
      show (joinB ([Str.ofString "ends", Str.ofString "by"] ++ bw z)).length ≤ 40
      omega
  have q1 := lenJ_app [Str.ofString "motion", k.name] (tW k.talks ++ (nW k.needs ++ (cW k.closing ++ eW k.ends)))
  have q2 := lenJ_app (tW k.talks) (nW k.needs ++ (cW k.closing ++ eW k.ends))
  have q3 := lenJ_app (nW k.needs) (cW k.closing ++ eW k.ends)
  have q4 := lenJ_app (cW k.closing) (eW k.ends)
  unfold lineK kwords
  omega
theorem amt_len : ∀ z ∈ AMTS, z.length ≤ 6 := by decide +kernel
theorem lineR_len {o i m : Str} (h : RowOk o i m) : (lineR o i m).length ≤ 150 ∧ o.length ≤ 8 ∧ i.length ≤ 8 ∧ m.length ≤ 6 := by
  have h1 := name_len h.oOk
  have h2 := name_len h.iOk
  have h3 := amt_len m (amount_mem h.mOk)
  have b1 : BLANK.length = 1 := rfl
  have e1 : (Str.ofString "under").length = 5 := by decide +kernel
  refine ⟨?_, h1, h2, h3⟩
  unfold lineR
  rw [joinB_cons, joinB_cons, joinB_cons, joinB_one]
  simp only [Str.length_append]
  omega
theorem sum_le {l : List Nat} {m : Nat} (h : ∀ x ∈ l, x ≤ m) : l.sum ≤ l.length * m := by
  induction l with
  | nil => simp
  | cons a l ih =>
    have := ih fun x hx => h x (List.mem_cons_of_mem _ hx)
    have := h a List.mem_cons_self
    rw [List.sum_cons, List.length_cons, Nat.succ_mul]
    omega
theorem lines_len {ks : List Kd} {rs : List R3} (hk : KindsOk ks) (hr : RowsOk ks rs) : ∀ z ∈ linesR ks rs, z.length ≤ 150 := by
  intro z hz
  unfold linesR at hz
  rcases List.mem_append.mp hz with hz | hz
  · obtain ⟨k, h, rfl⟩ := List.mem_map.mp hz
    exact lineK_len (hk.ok k h)
  · obtain ⟨r, h, rfl⟩ := List.mem_map.mp hz
    exact (lineR_len (hr.ok r h).1).1
def noBad (p : Str) : Bool := p.cps.toList.all fun c => decide (c ≠ 32) && (decide (c ≠ 10) && decide (c < 128))
theorem noBad_iff {p : Str} (h : noBad p = true) : ∀ c ∈ tl p, c ≠ 32 ∧ c ≠ 10 ∧ c < 128 := fun c hc => by
  have := List.all_eq_true.mp h c hc
  simpa using this
theorem noBad_of {p : Str} (h : ∀ c ∈ tl p, c ≠ 32 ∧ c ≠ 10 ∧ c < 128) : noBad p = true := by
  unfold noBad
  rw [List.all_eq_true]
  intro c hc
  have := h c hc
  simp [this]
def bwTab (z : Str) : Bool := match bw z with
  | [f] => decide (f = z) && (!decide (f = Str.ofString "over") && ((numOf f 9).isNone && noBad f))
  | [o, f] => decide (o = Str.ofString "over") && (noBad f && noBad o)
  | _ => false
theorem bwTab_ok : BL.all bwTab = true := by decide +kernel
theorem over_num : numOf (Str.ofString "over") 9 = none := by decide +kernel
theorem bw_cases {z : Str} (h : BT z) : (bw z = [z] ∧ z ≠ Str.ofString "over" ∧ numOf z 9 = none ∧ noBad z = true) ∨ ∃ f, bw z = [Str.ofString "over", f] ∧ noBad f = true := by
  have q := List.all_eq_true.mp bwTab_ok z (frac_mem h.2)
  unfold bwTab at q
  split at q
  · rename_i f e
    simp only [Bool.and_eq_true, decide_eq_true_eq, Bool.not_eq_true', decide_eq_false_iff_not, Option.isNone_iff_eq_none] at q
    obtain ⟨rfl, q2, q3, q4⟩ := q
    exact .inl ⟨e, q2, q3, q4⟩
  · rename_i o f e
    simp only [Bool.and_eq_true, decide_eq_true_eq] at q
    obtain ⟨rfl, q2, q3⟩ := q
    exact .inr ⟨f, e, q2⟩
  · cases q
theorem take_app (a b : List Str) : (a ++ b).take a.length = a := by simp
theorem num_text {i : Int} (h0 : 0 ≤ i) : num i = text i.toNat := by
  obtain ⟨n, rfl⟩ := Int.eq_ofNat_of_zero_le h0
  rfl
theorem afterNum_hit {i : Int} {rest : List Str} (marks : List Str) {most : Nat} (h0 : 0 ≤ i) (h1 : i ≤ most) (hm : most ≤ 12) : afterNum (marks ++ (num i :: rest)) marks most = (some i.toNat, rest) := by
  have g : (marks ++ (num i :: rest)).getD marks.length Str.empty = num i := by simp
  unfold afterNum
  rw [if_pos ⟨take_app _ _, by simp⟩, g, numOf_of hm (n := i.toNat) (by omega) (num_text h0).symm]
  simp
theorem afterNum_num {w : Str} {rest : List Str} (marks : List Str) {most : Nat} (h : numOf w most = none) : afterNum (marks ++ (w :: rest)) marks most = (none, marks ++ (w :: rest)) := by
  have g : (marks ++ (w :: rest)).getD marks.length Str.empty = w := by simp
  unfold afterNum
  rw [if_pos ⟨take_app _ _, by simp⟩, g, h]
theorem head_take {ws marks : List Str} (h : ws.head? ≠ marks.head?) (hm : marks ≠ []) : ws.take marks.length ≠ marks := by
  intro e
  cases marks with
  | nil => exact hm rfl
  | cons m l =>
    cases ws with
    | nil => cases e
    | cons w r =>
      rw [List.length_cons, List.take_succ_cons] at e
      injection e with e1 e2
      exact h (by rw [e1]; rfl)
theorem afterNum_no {ws marks : List Str} {most : Nat} (h : ws.head? ≠ marks.head?) (hm : marks ≠ []) : afterNum ws marks most = (none, ws) := by
  unfold afterNum
  rw [if_neg (fun z => head_take h hm z.1)]
theorem afterBd_no {ws marks : List Str} (h : ws.head? ≠ marks.head?) (hm : marks ≠ []) : afterBd ws marks = (none, ws) := by
  unfold afterBd
  rw [if_neg (fun z => head_take h hm z.1)]
theorem afterBd_hit {z : Str} {rest : List Str} (marks : List Str) (h : BT z) : afterBd (marks ++ (bw z ++ rest)) marks = (some z, rest) := by
  have d : (marks ++ (bw z ++ rest)).drop marks.length = bw z ++ rest := by simp
  have m : moreOf (marks ++ (bw z ++ rest)) marks.length = (bw z).length := by
    unfold moreOf
    rw [d]
    rcases bw_cases h with ⟨e, n, _⟩ | ⟨f, e, _⟩
    · rw [e, if_neg (by simpa using n)]
      rfl
    · rw [e, if_pos (by simp)]
      rfl
  have b : bdOf (marks ++ (bw z ++ rest)) marks.length = z := by
    unfold bdOf
    rw [m, d, List.take_left, joinB_bw]
  unfold afterBd
  rw [b, if_pos ⟨take_app _ _, h.2⟩, m, ← List.drop_drop, d]
  simp
theorem head_eW (e : Option Str) : (eW e).head? = none ∨ (eW e).head? = some (Str.ofString "ends") := by
  cases e with
  | none => exact .inl rfl
  | some z => exact .inr rfl
theorem head_cW (c : Option (Int × Str)) (e : Option Str) : (cW c ++ eW e).head? = none ∨ (cW c ++ eW e).head? = some (Str.ofString "closed") ∨ (cW c ++ eW e).head? = some (Str.ofString "ends") := by
  cases c with
  | none => exact (head_eW e).imp id .inr
  | some p => exact .inr (.inl rfl)
theorem head_nW (n : V) (c : Option (Int × Str)) (e : Option Str) : (nW n ++ (cW c ++ eW e)).head? = none ∨ (nW n ++ (cW c ++ eW e)).head? = some (Str.ofString "needs") ∨ (nW n ++ (cW c ++ eW e)).head? = some (Str.ofString "closed") ∨ (nW n ++ (cW c ++ eW e)).head? = some (Str.ofString "ends") := by
  have q := head_cW c e
  cases n with
  | int i =>
    show ((if 1 < i then [Str.ofString "needs", num i] else []) ++ (cW c ++ eW e)).head? = none ∨ _
    by_cases h : 1 < i
    · rw [show nW (.int i) = [Str.ofString "needs", num i] from if_pos h, if_pos h]
      exact .inr (.inl rfl)
    · rw [show nW (.int i) = [] from if_neg h, if_neg h, List.nil_append]
      exact q.imp id .inr
  | str z => exact .inr (.inl rfl)
  | _ => exact q.imp id .inr
theorem ne_words : Str.ofString "ends" ≠ Str.ofString "by" ∧ Str.ofString "ends" ≠ Str.ofString "closed" ∧ Str.ofString "closed" ≠ Str.ofString "needs" ∧ Str.ofString "ends" ≠ Str.ofString "needs" ∧ Str.ofString "needs" ≠ Str.ofString "talks" ∧ Str.ofString "closed" ≠ Str.ofString "talks" ∧ Str.ofString "ends" ≠ Str.ofString "talks" := by decide +kernel
def tailP (tt : Option Nat) (nd : V) (l : List Str) : Parse :=
  let a := afterNum l [Str.ofString "closed", Str.ofString "after"] 3
  let b := afterBd a.2 [Str.ofString "by"]
  let l4 := if (closOf a.1 b.1).isSome = true then b.2 else l
  let e := afterBd l4 [Str.ofString "ends", Str.ofString "by"]
  ⟨tt, nd, closOf a.1 b.1, e.1, e.2⟩
def headP (l1 : List Str) : V × List Str :=
  let n := afterNum l1 [Str.ofString "needs"] 9
  let nb := if n.1.isNone = true then afterBd n.2 [Str.ofString "needs"] else (none, n.2)
  (needsOf n.1 nb.1, nb.2)
theorem parse_eq (l : List Str) : parseK l = tailP (afterNum l [Str.ofString "talks"] 3).1 (headP (afterNum l [Str.ofString "talks"] 3).2).1 (headP (afterNum l [Str.ofString "talks"] 3).2).2 := rfl
theorem headP_none {l : List Str} (h : afterNum l [Str.ofString "needs"] 9 = (none, l)) : headP l = (endsV (afterBd l [Str.ofString "needs"]).1, (afterBd l [Str.ofString "needs"]).2) := by
  unfold headP
  rw [h]
  rfl
theorem headP_some {l l' : List Str} {i : Nat} (h : afterNum l [Str.ofString "needs"] 9 = (some i, l')) : headP l = (.int (i : Int), l') := by
  unfold headP
  rw [h]
  rfl
theorem tailP_none {l : List Str} {tt : Option Nat} {nd : V} (a : afterNum l [Str.ofString "closed", Str.ofString "after"] 3 = (none, l)) (b : afterBd l [Str.ofString "by"] = (none, l)) : tailP tt nd l = ⟨tt, nd, none, (afterBd l [Str.ofString "ends", Str.ofString "by"]).1, (afterBd l [Str.ofString "ends", Str.ofString "by"]).2⟩ := by
  unfold tailP
  dsimp only
  rw [a]
  dsimp only
  rw [b]
  rfl
theorem tailP_some {l l1 l2 : List Str} {tt : Option Nat} {nd : V} {i : Nat} {z : Str} (a : afterNum l [Str.ofString "closed", Str.ofString "after"] 3 = (some i, l1)) (b : afterBd l1 [Str.ofString "by"] = (some z, l2)) : tailP tt nd l = ⟨tt, nd, some ((i : Int), z), (afterBd l2 [Str.ofString "ends", Str.ofString "by"]).1, (afterBd l2 [Str.ofString "ends", Str.ofString "by"]).2⟩ := by
  unfold tailP
  dsimp only
  rw [a]
  dsimp only
  rw [b]
  rfl
theorem end_ok {e : Option Str} (h : ∀ z, e = some z → BT z) : afterBd (eW e) [Str.ofString "ends", Str.ofString "by"] = (e, []) := by
  cases e with
  | none => exact afterBd_no (by simp [eW]) (by simp)
  | some z =>
    have := afterBd_hit (rest := []) [Str.ofString "ends", Str.ofString "by"] (h z rfl)
    rw [List.append_nil] at this
    exact this
theorem tail_ok {k : Kd} (ok : k.Ok) (tt : Option Nat) (nd : V) : tailP tt nd (cW k.closing ++ eW k.ends) = ⟨tt, nd, k.closing, k.ends, []⟩ := by
  obtain ⟨w1, w2, w3, w4, w5, w6, w7⟩ := ne_words
  have en := end_ok (e := k.ends) ok.ends
  cases e : k.closing with
  | none =>
    have a : afterNum (eW k.ends) [Str.ofString "closed", Str.ofString "after"] 3 = (none, eW k.ends) := by
      refine afterNum_no ?_ (by simp)
      rcases head_eW k.ends with q | q <;> rw [q] <;> simp <;> assumption
    have b : afterBd (eW k.ends) [Str.ofString "by"] = (none, eW k.ends) := by
      refine afterBd_no ?_ (by simp)
      rcases head_eW k.ends with q | q <;> rw [q] <;> simp <;> assumption
    have c0 : cW none ++ eW k.ends = eW k.ends := rfl
    rw [c0, tailP_none a b, en]
  | some p =>
    obtain ⟨i, z⟩ := p
    obtain ⟨i0, i3, bz⟩ := ok.closing i z e
    have c0 : cW (some (i, z)) ++ eW k.ends = [Str.ofString "closed", Str.ofString "after"] ++ (num i :: ([Str.ofString "by"] ++ (bw z ++ eW k.ends))) := rfl
    have a := afterNum_hit (rest := [Str.ofString "by"] ++ (bw z ++ eW k.ends)) [Str.ofString "closed", Str.ofString "after"] (most := 3) i0 i3 (by decide)
    have b := afterBd_hit (rest := eW k.ends) [Str.ofString "by"] bz
    rw [c0, tailP_some a b, en, Int.toNat_of_nonneg i0]
theorem needs_ok {k : Kd} (ok : k.Ok) : headP (nW k.needs ++ (cW k.closing ++ eW k.ends)) = (if k.needs = .int 1 then .non else k.needs, cW k.closing ++ eW k.ends) := by
  obtain ⟨w1, w2, w3, w4, w5, w6, w7⟩ := ne_words
  have hh : (cW k.closing ++ eW k.ends).head? ≠ [Str.ofString "needs"].head? := by
    rcases head_cW k.closing k.ends with q | q | q <;> rw [q] <;> simp <;> assumption
  generalize cW k.closing ++ eW k.ends = R at hh ⊢
  rcases ok.needs with ⟨i, e, i1, i9⟩ | ⟨z, e, bz⟩
  · by_cases h : 1 < i
    · have r : (if k.needs = .int 1 then V.non else k.needs) = .int i := by
        rw [e]
        exact if_neg (by intro q; have := V.int.inj q; omega)
      have e1 : nW k.needs ++ R = [Str.ofString "needs"] ++ (num i :: R) := by
        rw [e, show nW (.int i) = [Str.ofString "needs", num i] from if_pos h]
        rfl
      rw [r, e1, headP_some (afterNum_hit [Str.ofString "needs"] (i := i) (by omega) (by omega) (by decide)), Int.toNat_of_nonneg (by omega)]
    · have e1 : i = 1 := by omega
      subst e1
      have r : (if k.needs = .int 1 then V.non else k.needs) = .non := if_pos e
      have e0 : nW k.needs = [] := by
        rw [e]
        rfl
      rw [r, e0, List.nil_append, headP_none (afterNum_no hh (by simp)), afterBd_no hh (by simp)]
      rfl
  · have e0 : nW k.needs ++ R = [Str.ofString "needs"] ++ (bw z ++ R) := by
      rw [e]
      rfl
    have r : (if k.needs = .int 1 then V.non else k.needs) = .str z := by
      rw [e]
      exact if_neg (by intro q; cases q)
    have n : afterNum ([Str.ofString "needs"] ++ (bw z ++ R)) [Str.ofString "needs"] 9 = (none, [Str.ofString "needs"] ++ (bw z ++ R)) := by
      rcases bw_cases bz with ⟨q, _, q2, _⟩ | ⟨f, q, _⟩
      · rw [q]
        exact afterNum_num [Str.ofString "needs"] q2
      · rw [q]
        exact afterNum_num [Str.ofString "needs"] over_num
    rw [r, e0, headP_none n, afterBd_hit [Str.ofString "needs"] bz]
    rfl
theorem parse_ok {k : Kd} (ok : k.Ok) : parseK (tW k.talks ++ (nW k.needs ++ (cW k.closing ++ eW k.ends))) = ⟨if 0 < k.talks then some k.talks.toNat else none, if k.needs = .int 1 then .non else k.needs, k.closing, k.ends, []⟩ := by
  obtain ⟨w1, w2, w3, w4, w5, w6, w7⟩ := ne_words
  have hd := needs_ok ok
  have tl := tail_ok ok
  have hh := head_nW k.needs k.closing k.ends
  generalize nW k.needs ++ (cW k.closing ++ eW k.ends) = R1 at hd hh ⊢
  have t : afterNum (tW k.talks ++ R1) [Str.ofString "talks"] 3 = (if 0 < k.talks then some k.talks.toNat else none, R1) := by
    unfold tW
    by_cases h : 0 < k.talks
    · rw [if_pos h, if_pos h]
      exact afterNum_hit [Str.ofString "talks"] ok.talks.1 ok.talks.2 (by decide)
    · rw [if_neg h, if_neg h, List.nil_append]
      refine afterNum_no ?_ (by simp)
      rcases hh with q | q | q | q <;> rw [q] <;> simp <;> assumption
  rw [parse_eq, t]
  dsimp only
  rw [hd]
  exact tl _ _
theorem word_bad : noBad (Str.ofString "motion") = true ∧ noBad (Str.ofString "talks") = true ∧ noBad (Str.ofString "needs") = true ∧ noBad (Str.ofString "closed") = true ∧ noBad (Str.ofString "after") = true ∧ noBad (Str.ofString "by") = true ∧ noBad (Str.ofString "ends") = true ∧ noBad (Str.ofString "over") = true ∧ noBad (Str.ofString "under") = true := by decide +kernel
theorem text_bad : ∀ n < 13, noBad (text n) = true := by decide +kernel
theorem name_bad {z : Str} (h : nameOk z = true) : noBad z = true := noBad_of fun c hc => by
  have := name_signs h c hc
  exact ⟨this.2.1, this.2.2, this.1⟩
theorem num_bad {i : Int} (h0 : 0 ≤ i) (h : i ≤ 12) : noBad (num i) = true := by
  rw [num_text h0]
  exact text_bad _ (by omega)
theorem bw_bad {z : Str} (h : BT z) : ∀ p ∈ bw z, noBad p = true := by
  obtain ⟨_, _, _, _, _, _, _, o, _⟩ := word_bad
  intro p hp
  rcases bw_cases h with ⟨e, _, _, b⟩ | ⟨f, e, b⟩
  · rw [e] at hp
    rw [List.mem_singleton.mp hp]
    exact b
  · rw [e] at hp
    rcases List.mem_cons.mp hp with rfl | hp
    · exact o
    · rw [List.mem_singleton.mp hp]
      exact b
theorem kwords_bad {k : Kd} (ok : k.Ok) : ∀ p ∈ kwords k, noBad p = true := by
  obtain ⟨b1, b2, b3, b4, b5, b6, b7, _, _⟩ := word_bad
  intro p hp
  unfold kwords at hp
  simp only [List.mem_append, List.mem_cons, List.not_mem_nil, or_false] at hp
  rcases hp with (rfl | rfl) | hp | hp | hp | hp
  · exact b1
  · exact name_bad ok.name
  · unfold tW at hp
    split at hp
    · simp only [List.mem_cons, List.not_mem_nil, or_false] at hp
      rcases hp with rfl | rfl
      · exact b2
      · exact num_bad ok.talks.1 (Int.le_trans ok.talks.2 (by decide))
    · cases hp
  · rcases ok.needs with ⟨i, e, i1, i9⟩ | ⟨z, e, bz⟩
    · rw [e] at hp
      have hp : p ∈ (if 1 < i then [Str.ofString "needs", num i] else []) := hp
      split at hp
      · simp only [List.mem_cons, List.not_mem_nil, or_false] at hp
        rcases hp with rfl | rfl
        · exact b3
        · exact num_bad (by omega) (by omega)
      · cases hp
    · rw [e] at hp
      have hp : p ∈ Str.ofString "needs" :: bw z := hp
      rcases List.mem_cons.mp hp with rfl | hp
      · exact b3
      · exact bw_bad bz p hp
  · cases e : k.closing with
    | none => rw [e] at hp; cases hp
    | some q =>
      obtain ⟨i, z⟩ := q
      obtain ⟨i0, i3, bz⟩ := ok.closing i z e
      rw [e] at hp
      have hp : p ∈ [Str.ofString "closed", Str.ofString "after", num i, Str.ofString "by"] ++ bw z := hp
      simp only [List.mem_append, List.mem_cons, List.not_mem_nil, or_false] at hp
      rcases hp with (rfl | rfl | rfl | rfl) | hp
      · exact b4
      · exact b5
      · exact num_bad i0 (by omega)
      · exact b6
      · exact bw_bad bz p hp
  · cases e : k.ends with
    | none => rw [e] at hp; cases hp
    | some z =>
      rw [e] at hp
      have hp : p ∈ [Str.ofString "ends", Str.ofString "by"] ++ bw z := hp
      simp only [List.mem_append, List.mem_cons, List.not_mem_nil, or_false] at hp
      rcases hp with (rfl | rfl) | hp
      · exact b7
      · exact b6
      · exact bw_bad (ok.ends z e) p hp
theorem kwords_ne (k : Kd) : kwords k ≠ [] := by simp [kwords]
theorem bw_lineK {k : Kd} (ok : k.Ok) : bw (lineK k) = kwords k := bw_join (kwords_ne k) fun p hp h => (noBad_iff (kwords_bad ok p hp) 32 h).1 rfl
theorem lineR_split {o i m : Str} (h : RowOk o i m) : Txt.splitMax (lineR o i m) BLANK 3 = [Str.ofString "under", o, i, m] := by
  obtain ⟨_, _, _, _, _, _, _, _, u⟩ := word_bad
  have e : lineR o i m = Str.ofString "under" ++ (BLANK ++ (o ++ (BLANK ++ (i ++ (BLANK ++ m))))) := by
    unfold lineR
    rw [joinB_cons, joinB_cons, joinB_cons, joinB_one]
  rw [e]
  exact splitB_four (fun q => (noBad_iff u 32 q).1 rfl) (fun q => (noBad_iff (name_bad h.oOk) 32 q).1 rfl) (fun q => (noBad_iff (name_bad h.iOk) 32 q).1 rfl)
theorem bw_lineR {o i m : Str} (h : RowOk o i m) : ∃ r, bw (lineR o i m) = Str.ofString "under" :: r := by
  obtain ⟨_, _, _, _, _, _, _, _, u⟩ := word_bad
  have e : lineR o i m = joinB ([Str.ofString "under", o, i] ++ bw m) := by
    unfold lineR
    rw [joinB_app (by simp) (bw_ne m), joinB_bw]
    rw [joinB_cons, joinB_cons, joinB_cons, joinB_one, joinB_cons, joinB_cons, joinB_one]
    simp only [app_assoc]
  have mb : ∀ p ∈ bw m, 32 ∉ tl p := by
    intro p hp
    have := StrLaws.split_free m 32
    exact this p (by rw [← blank_mk]; exact hp)
  refine ⟨[o, i] ++ bw m, ?_⟩
  rw [e]
  refine bw_join (by simp) fun p hp q => ?_
  simp only [List.mem_append, List.mem_cons, List.not_mem_nil, or_false] at hp
  rcases hp with (rfl | rfl | rfl) | hp
  · exact (noBad_iff u 32 q).1 rfl
  · exact (noBad_iff (name_bad h.oOk) 32 q).1 rfl
  · exact (noBad_iff (name_bad h.iOk) 32 q).1 rfl
  · exact mb p hp q
theorem amt_bad : ∀ z ∈ AMTS, ∀ c ∈ tl z, c ≠ 10 ∧ c < 128 := by decide +kernel
theorem joinB_signs {P : Nat → Prop} (hb : P 32) : ∀ {ws : List Str}, (∀ z ∈ ws, ∀ c ∈ tl z, P c) → ∀ c ∈ tl (joinB ws), P c
  | [], _ => by
    intro c hc
    rw [joinB_str] at hc
    cases hc
  | [a], h => by
    rw [joinB_one]
    exact h a List.mem_cons_self
  | a :: b :: l, h => by
    intro c hc
    rw [joinB_cons, tl_append, tl_append, blank_tl] at hc
    rcases List.mem_append.mp hc with q | q
    · exact h a List.mem_cons_self c q
    · rcases List.mem_append.mp q with q | q
      · rw [List.mem_singleton.mp q]
        exact hb
      · exact joinB_signs hb (fun z hz => h z (List.mem_cons_of_mem _ hz)) c q
theorem lineK_signs {k : Kd} (ok : k.Ok) : ∀ c ∈ tl (lineK k), c ≠ 10 ∧ c < 128 := joinB_signs ⟨by decide, by decide⟩ fun z hz c hc => by
  have := noBad_iff (kwords_bad ok z hz) c hc
  exact ⟨this.2.1, this.2.2⟩
theorem lineR_signs {o i m : Str} (h : RowOk o i m) : ∀ c ∈ tl (lineR o i m), c ≠ 10 ∧ c < 128 := by
  obtain ⟨_, _, _, _, _, _, _, _, u⟩ := word_bad
  refine joinB_signs ⟨by decide, by decide⟩ fun z hz c hc => ?_
  simp only [List.mem_cons, List.not_mem_nil, or_false] at hz
  rcases hz with rfl | rfl | rfl | rfl
  · have := noBad_iff u c hc
    exact ⟨this.2.1, this.2.2⟩
  · have := noBad_iff (name_bad h.oOk) c hc
    exact ⟨this.2.1, this.2.2⟩
  · have := noBad_iff (name_bad h.iOk) c hc
    exact ⟨this.2.1, this.2.2⟩
  · exact amt_bad _ (amount_mem h.mOk) c hc
theorem lines_signs {ks : List Kd} {rs : List R3} (hk : KindsOk ks) (hr : RowsOk ks rs) : ∀ z ∈ linesR ks rs, ∀ c ∈ tl z, c ≠ 10 ∧ c < 128 := by
  intro z hz
  unfold linesR at hz
  rcases List.mem_append.mp hz with hz | hz
  · obtain ⟨k, h, rfl⟩ := List.mem_map.mp hz
    exact lineK_signs (hk.ok k h)
  · obtain ⟨r, h, rfl⟩ := List.mem_map.mp hz
    exact lineR_signs (hr.ok r h).1
theorem nl_tl : tl NL = [10] := by decide +kernel
theorem split_text {ks : List Kd} {rs : List R3} (hk : KindsOk ks) (hr : RowsOk ks rs) : Txt.split (textR ks rs) NL = linesR ks rs := by
  refine split_join (S := []) nl_tl (by decide +kernel) ?_ fun z hz q => (lines_signs hk hr z hz 10 q).1 rfl
  have := hk.one
  unfold linesR
  cases ks with
  | nil => simp at this
  | cons k l => simp
theorem joinL_len (S : List Nat) : ∀ ps : List (List Nat), (joinL S ps).length ≤ (ps.map List.length).sum + ps.length * S.length
  | [] => by simp [joinL]
  | [p] => by simp [joinL]
  | p :: q :: r => by
    have ih := joinL_len S (q :: r)
    show (p ++ (S ++ joinL S (q :: r))).length ≤ _
    simp only [List.length_append, List.map_cons, List.sum_cons, List.length_cons, Nat.add_mul, Nat.succ_mul] at ih ⊢
    omega
theorem text_facts {ks : List Kd} {rs : List R3} (hk : KindsOk ks) (hr : RowsOk ks rs) (h36 : rs.length ≤ 36) : PyData.strOk (textR ks rs) = true ∧ (textR ks rs).length ≤ 40000 ∧ (Txt.split (textR ks rs) NL).length ≤ 100 := by
  have lc : (linesR ks rs).length ≤ 42 := by
    have := hk.six
    unfold linesR
    simp
    omega
  have ll := lines_len hk hr
  have et : tl (textR ks rs) = joinL [10] ((linesR ks rs).map tl) := by
    unfold textR
    rw [join_eq, tl_join, nl_tl]
  refine ⟨strOk_of fun c hc => ?_, ?_, ?_⟩
  · have sg := lines_signs hk hr
    have g : ∀ (ps : List (List Nat)), (∀ p ∈ ps, ∀ c ∈ p, c < 128) → ∀ c ∈ joinL [10] ps, c < 128 := by
      intro ps
      induction ps with
      | nil => intro _ c hc; cases hc
      | cons p r ih =>
        intro h c hc
        cases r with
        | nil => exact h p List.mem_cons_self c hc
        | cons q r =>
          have hc : c ∈ p ++ ([10] ++ joinL [10] (q :: r)) := hc
          rcases List.mem_append.mp hc with w | w
          · exact h p List.mem_cons_self c w
          · rcases List.mem_append.mp w with w | w
            · rw [List.mem_singleton.mp w]
              decide
            · exact ih (fun x hx => h x (List.mem_cons_of_mem _ hx)) c w
    have hc : c ∈ tl (textR ks rs) := hc
    rw [et] at hc
    refine g _ (fun p hp c hc => ?_) c hc
    obtain ⟨z, hz, rfl⟩ := List.mem_map.mp hp
    exact (sg z hz c hc).2
  · rw [TL.len_tl, et]
    have q := joinL_len [10] ((linesR ks rs).map tl)
    have q2 := sum_le (l := ((linesR ks rs).map tl).map List.length) (m := 150) fun x hx => by
      obtain ⟨p, hp, rfl⟩ := List.mem_map.mp hx
      obtain ⟨z, hz, rfl⟩ := List.mem_map.mp hp
      rw [← TL.len_tl]
      exact ll z hz
    simp only [List.length_map, List.length_cons, List.length_nil] at q q2
    omega
  · rw [split_text hk hr]
    omega
def ndV : Nd → V
  | .cnt n => .int n
  | .bd b => .str b.txt
def kdOf (s : Sr) : Kd := ⟨s.name, (s.talks : Int), ndV s.needs, s.closing.map fun p => ((p.1 : Int), p.2.txt), s.ends.map Bd.txt⟩
def amtOf (r : Rw) : Str := if 0 < r.num then r.word ++ BLANK ++ text r.num else r.word
def rowOf (ss : List Sr) (r : Rw) : R3 := ((ss.map (·.name)).getD r.o Str.empty, (ss.map (·.name)).getD r.i Str.empty, amtOf r)
structure SrOk (s : Sr) : Prop where
  name : nameOk s.name = true
  talks : s.talks ≤ 3
  cnt : ∀ n, s.needs = .cnt n → 1 ≤ n ∧ n ≤ 9
  bd : ∀ b, s.needs = .bd b → b.Ok
  cl : ∀ i b, s.closing = some (i, b) → i ≤ 3 ∧ b.Ok
  en : ∀ b, s.ends = some b → b.Ok
theorem SrOk.kd {s : Sr} (h : SrOk s) : (kdOf s).Ok := by
  refine ⟨h.name, Nat.le_trans (name_len h.name) (by decide), ⟨by show (0 : Int) ≤ (s.talks : Int); omega, by show (s.talks : Int) ≤ 3; have := h.talks; omega⟩, ?_, ?_, ?_⟩
  · show (∃ i, ndV s.needs = .int i ∧ _) ∨ ∃ z, ndV s.needs = .str z ∧ _
    cases e : s.needs with
    | cnt n =>
      have := h.cnt n e
      exact .inl ⟨n, rfl, by omega, by omega⟩
    | bd b => exact .inr ⟨b.txt, rfl, Bd.bt (h.bd b e)⟩
  · intro i z e
    cases q : s.closing with
    | none =>
      have e : s.closing.map (fun p => ((p.1 : Int), p.2.txt)) = some (i, z) := e
      rw [q] at e
      cases e
    | some p =>
      have e : s.closing.map (fun p => ((p.1 : Int), p.2.txt)) = some (i, z) := e
      rw [q] at e
      cases e
      have := h.cl p.1 p.2 q
      exact ⟨by omega, by omega, Bd.bt this.2⟩
  · intro z e
    cases q : s.ends with
    | none =>
      have e : s.ends.map Bd.txt = some z := e
      rw [q] at e
      cases e
    | some b =>
      have e : s.ends.map Bd.txt = some z := e
      rw [q] at e
      cases e
      exact Bd.bt (h.en b q)
theorem PlanOk.names {most : Nat} {ss : List Sr} {rs : List Rw} (h : PlanOk most ss rs) (_hm : most ≤ 6) : (ss.map (·.name)).Nodup ∧ ∀ z ∈ ss.map (·.name), nameOk z = true :=
  ⟨h.nm.1, fun z hz => by
    obtain ⟨s, hs, rfl⟩ := List.mem_map.mp hz
    exact h.nm.2 s hs⟩
theorem kd_names (ss : List Sr) : (ss.map kdOf).map (·.name) = ss.map (·.name) := by
  rw [List.map_map]
  rfl
theorem plan_kinds {ss : List Sr} {rs : List Rw} (h : PlanOk 6 ss rs) (hs : ∀ s ∈ ss, SrOk s) : KindsOk (ss.map kdOf) := by
  refine ⟨by rw [List.length_map]; exact h.one, by rw [List.length_map]; exact h.mst, by rw [kd_names]; exact (h.names (by decide)).1, fun k hk => ?_⟩
  obtain ⟨s, h1, rfl⟩ := List.mem_map.mp hk
  exact (hs s h1).kd
theorem getD_inj {l : List Str} (h : l.Nodup) {i j : Nat} (hi : i < l.length) (hj : j < l.length) (e : l.getD i Str.empty = l.getD j Str.empty) : i = j := by
  have e1 : l.getD i Str.empty = l[i] := by simp [hi]
  have e2 : l.getD j Str.empty = l[j] := by simp [hj]
  rw [e1, e2] at e
  have p := List.pairwise_iff_getElem.mp h
  rcases Nat.lt_trichotomy i j with q | q | q
  · exact absurd e (p i j hi hj q)
  · exact q
  · exact absurd e.symm (p j i hj hi q)
theorem getD_in {l : List Str} {i : Nat} (hi : i < l.length) : l.getD i Str.empty ∈ l := by
  have e1 : l.getD i Str.empty = l[i] := by simp [hi]
  rw [e1]
  exact List.getElem_mem _
theorem amt_mem {m : Nat} {r : Rw} (h : Rw.Ok m r) : amtOf r ∈ AMTS := by
  unfold amtOf
  rcases h.am with ⟨w, n1, n3⟩ | ⟨w, n0⟩
  · rw [if_pos (by omega)]
    have q := amts_num r.num (by omega) n1
    rcases w with w | w
    · rw [w]
      exact q.1
    · rw [w]
      exact q.2
  · rw [if_neg (by omega)]
    rcases w with w | w
    · rw [w]
      exact amts_free.2
    · rw [w]
      exact amts_free.1
theorem plan_rows {ss : List Sr} {rs : List Rw} (h : PlanOk 6 ss rs) : RowsOk (ss.map kdOf) (rs.map (rowOf ss)) := by
  obtain ⟨nd, nk⟩ := h.names (by decide)
  have nl : (ss.map (·.name)).length = ss.length := List.length_map ..
  refine ⟨?_, fun r hr => ?_⟩
  · rw [List.map_map]
    have q := h.nd
    unfold List.Nodup at q ⊢
    rw [List.pairwise_map] at q ⊢
    refine q.imp_of_mem fun {a b} ha hb ne e => ne ?_
    have oa := h.rw a ha
    have ob := h.rw b hb
    have e1 := congrArg Prod.fst e
    have e2 := congrArg Prod.snd e
    rw [getD_inj nd (by rw [nl]; exact oa.ol) (by rw [nl]; exact ob.ol) e1, getD_inj nd (by rw [nl]; exact oa.il) (by rw [nl]; exact ob.il) e2]
  · obtain ⟨x, hx, rfl⟩ := List.mem_map.mp hr
    have ox := h.rw x hx
    have m1 : (rowOf ss x).1 ∈ ss.map (·.name) := getD_in (by rw [nl]; exact ox.ol)
    have m2 : (rowOf ss x).2.1 ∈ ss.map (·.name) := getD_in (by rw [nl]; exact ox.il)
    have am := amt_mem ox
    have al := amt_len _ am
    rw [kd_names]
    have sz : ∀ n, n ≤ 8 → n ≤ sizeLine := fun n hn => Nat.le_trans hn (by decide)
    exact ⟨⟨nk _ m1, sz _ (name_len (nk _ m1)), nk _ m2, sz _ (name_len (nk _ m2)), amts_some _ am, sz _ (by show (amtOf x).length ≤ 8; omega), sz _ (Nat.le_trans (part_len _) (by show (amtOf x).length ≤ 8; omega))⟩, m1, m2⟩
theorem plan_36 {ss : List Sr} {rs : List Rw} (h : PlanOk 6 ss rs) : (rs.map (rowOf ss)).length ≤ 36 := by
  rw [List.length_map]
  refine Nat.le_trans h.rl ?_
  exact Nat.mul_le_mul h.mst h.mst
end Hv
namespace L
open PySem L2 Hv Ev
set_option autoImplicit false
theorem forS_inv {σ α : Type} {f : σ → α → Option σ} (I : Nat → σ → Prop) : ∀ (xs : List α) (k : Nat) (s : σ), I k s → (∀ (j : Nat) (x : α) (s : σ), xs[j]? = some x → I (k + j) s → ∃ s', f s x = some s' ∧ I (k + j + 1) s') → ∃ s', forS f s xs = some s' ∧ I (k + xs.length) s'
  | [], k, s, h, _ => ⟨s, rfl, h⟩
  | x :: xs, k, s, h, st => by
    obtain ⟨s1, e1, h1⟩ := st 0 x s rfl h
    obtain ⟨s2, e2, h2⟩ := forS_inv I xs (k + 1) s1 h1 fun j y s' hj hs => by
      have := st (j + 1) y s' (by simpa using hj) (by rw [show k + (j + 1) = k + 1 + j by omega]; exact hs)
      rw [show k + (j + 1) + 1 = k + 1 + j + 1 by omega] at this
      exact this
    refine ⟨s2, ?_, by rw [List.length_cons, show k + (xs.length + 1) = k + 1 + xs.length by omega]; exact h2⟩
    unfold forS
    rw [e1]
    exact e2
theorem rng_get {n : Nat} {j : Nat} {x : Int} (h : (rng 0 (n : Int))[j]? = some x) : x = (j : Int) ∧ j < n := by
  unfold rng at h
  rw [List.getElem?_map] at h
  by_cases c : j < n
  · rw [List.getElem?_range (by omega)] at h
    have h : (0 : Int) + ((j : Nat) : Int) = x := Option.some.inj h
    exact ⟨by omega, c⟩
  · rw [List.getElem?_eq_none (by simp; omega)] at h
    cases h
theorem rng_len (n : Nat) : (rng 0 (n : Int)).length = n := by
  unfold rng
  simp
theorem WI.le {n m : Int} {w : Q3 Int Int Int} (h : WI n w) (l : n ≤ m) : WI m w := ⟨h.a0, h.a1, h.b0, by have := h.b1; omega, h.c0, h.c1⟩
end L
namespace L
open PySem L2 Hv Ev TL
set_option autoImplicit false
theorem small_log {n : Nat} (h : n ≤ 12) : ((n : Nat) : Int).natAbs.log2 < 1920 := log2_small (n := 4) (by show n < 16; omega) (by decide) (by decide)
theorem sl_of {n : Nat} (h : n ≤ 1000) : n ≤ sizeLine := Nat.le_trans h (by decide)
theorem app_len (a b : Str) : (a ++ b).length = a.length + b.length := by
  rw [TL.len_tl, TL.len_tl, TL.len_tl, tl_append, List.length_append]
end L
namespace L
open PySem L2 Hv Ev TL
set_option autoImplicit false
/-! lists of texts, compared -/
theorem strs_py (l : List Str) : (toD l).py = .list (l.map PyData.str) := by
  show PyData.list (pys (l.map toD)) = _
  congr 1
  induction l with
  | nil => rfl
  | cons z l ih =>
    show (toD z).py :: pys (l.map toD) = _
    rw [ih]
    rfl
theorem strs_data (l : List Str) : (toD l).isData = true := by
  show allData (l.map toD) = true
  induction l with
  | nil => rfl
  | cons z l ih =>
    show ((toD z).isData && allData (l.map toD)) = true
    rw [ih]
    rfl
theorem strs_ok {l m : List Str} (hl : WOk l) (hm : WOk m) : EqOk (toD l) (toD m) := by
  unfold EqOk
  rw [strs_data, strs_data, strs_py, strs_py, hl.shaped, hm.shaped]
  rfl
theorem strs_eq (l m : List Str) : dEq (toD l) (toD m) = decide (l = m) := by
  unfold dEq
  rw [strs_py, strs_py, eqv_strs]
theorem cutL_to {α : Type} (xs : List α) (n : Nat) : cutL xs none (some (n : Int)) = xs.take n := by
  show (xs.drop (HT.sIx xs.length 0 none)).take (HT.sIx xs.length xs.length (some (n : Int)) - HT.sIx xs.length 0 none) = _
  rw [HT.sIx_none, HT.sIx_nat, List.drop_zero, Nat.sub_zero]
  by_cases h : n ≤ xs.length
  · rw [Nat.min_eq_left h]
  · rw [Nat.min_eq_right (by omega), List.take_of_length_le (Nat.le_refl _), List.take_of_length_le (by omega)]
theorem cutL_from {α : Type} (xs : List α) (n : Nat) : cutL xs (some (n : Int)) none = xs.drop n := by
  show (xs.drop (HT.sIx xs.length 0 (some (n : Int)))).take (HT.sIx xs.length xs.length none - HT.sIx xs.length 0 (some (n : Int))) = _
  rw [HT.sIx_none, HT.sIx_nat]
  by_cases h : n ≤ xs.length
  · rw [Nat.min_eq_left h, List.take_of_length_le (by simp)]
  · rw [Nat.min_eq_right (by omega), List.drop_of_length_le (Nat.le_refl _), List.drop_of_length_le (by omega)]
    simp
theorem cutL_mid {α : Type} (xs : List α) (n m : Nat) : cutL xs (some (n : Int)) (some ((n + m : Nat) : Int)) = (xs.drop n).take m := by
  show (xs.drop (HT.sIx xs.length 0 (some (n : Int)))).take (HT.sIx xs.length xs.length (some ((n + m : Nat) : Int)) - HT.sIx xs.length 0 (some (n : Int))) = _
  rw [HT.sIx_nat, HT.sIx_nat]
  by_cases h : n ≤ xs.length
  · rw [Nat.min_eq_left h]
    by_cases h2 : n + m ≤ xs.length
    · rw [Nat.min_eq_left h2, Nat.add_sub_cancel_left]
    · rw [Nat.min_eq_right (by omega), List.take_of_length_le (by simp), List.take_of_length_le (by simp; omega)]
  · rw [Nat.min_eq_right (show xs.length ≤ n + m by omega), Nat.min_eq_right (show xs.length ≤ n by omega), List.drop_of_length_le (Nat.le_refl _), List.drop_of_length_le (by omega)]
    simp
theorem at_n {α : Type} {xs : List α} {n : Nat} {x : α} (h : xs[n]? = some x) : atI xs ((n : Nat) : Int) = some x := by
  have lt : n < xs.length := (List.getElem?_eq_some_iff.mp h).1
  unfold atI ixN
  rw [if_pos (by omega), if_pos (by omega)]
  exact h
/-- a number behind words -/
theorem after_number_eq {ws marks : List Str} {most : Nat} (hw : WOk ws) (hm : WOk marks) (m12 : most ≤ 12) : fn_after_number ws marks (most : Int) = some ⟨(afterNum ws marks most).1.map Int.ofNat, (afterNum ws marks most).2⟩ := by
  unfold fn_after_number
  rw [cutL_to, if_pos (strs_ok (hw.take _) hm), strs_eq]
  unfold afterNum
  by_cases c1 : ws.take marks.length = marks
  · by_cases c2 : marks.length < ws.length
    · rw [if_neg (by rw [decide_eq_true c1, decide_eq_false (by omega)]; decide), if_pos ⟨c1, c2⟩]
      have e : ws[marks.length]? = some (ws.getD marks.length Str.empty) := by
        rw [List.getD_eq_getElem?_getD, List.getElem?_eq_getElem c2]
        rfl
      rw [bnd_of (at_n e)]
      have wl : (ws.getD marks.length Str.empty).length ≤ 40000 := (hw _ (by
        rw [List.getD_eq_getElem?_getD, List.getElem?_eq_getElem c2]
        exact List.getElem_mem c2)).2
      rw [bnd_of (number_of_eq (Nat.le_trans wl (by decide)) m12)]
      cases q : numOf (ws.getD marks.length Str.empty) most with
      | none => rfl
      | some i =>
        show some (if (some (Int.ofNat i) : Option Int).isNone = true then _ else _) = _
        rw [if_neg (by simp), show ((marks.length : Nat) : Int) + 1 = ((marks.length + 1 : Nat) : Int) from rfl, cutL_from]
    · rw [if_pos (by rw [decide_eq_true (show ((ws.length : Nat) : Int) ≤ ((marks.length : Nat) : Int) by omega), Bool.or_true]), if_neg (fun q => c2 q.2)]
      rfl
  · rw [if_pos (by rw [decide_eq_false c1]; rfl), if_neg (fun q => c1 q.1)]
    rfl
theorem is_bound_eq {z : Str} (h : z.length ≤ 100000) : fn_is_bound (toD z) = some (fracOf z).isSome := by
  unfold fn_is_bound
  rw [bnd_of (fraction_of_eq (textOk_of h))]
  unfold fracI
  cases fracOf z <;> rfl
theorem wok_over : WOk [Str.ofString "over"] := fun z hz => by
  rw [List.mem_singleton.mp hz]
  exact ⟨by decide +kernel, by decide⟩
theorem join_len {l : List Str} {N : Nat} (h : ∀ z ∈ l, z.length ≤ N) : (joinB l).length ≤ (N + 1) * l.length := by
  rw [TL.len_tl, joinB_str, tl_join]
  refine Nat.le_trans (joinL_len _ _) ?_
  rw [List.length_map, blank_tl]
  have : ((List.map tl l).map List.length).sum ≤ N * l.length := by

    induction l with
    | nil => exact Nat.le_refl _
    | cons z l ih =>
      have := ih fun x hx => h x (List.mem_cons_of_mem _ hx)
      have hz := h z List.mem_cons_self
      rw [TL.len_tl] at hz
      rw [List.map_cons, List.map_cons, List.sum_cons, List.length_cons, Nat.mul_succ]
      omega
  rw [Nat.add_mul, Nat.one_mul]
  simp only [List.length_singleton, Nat.mul_one]
  omega
/-- a bound behind words -/
theorem after_bound_eq {ws marks : List Str} (hw : WOk ws) (hm : WOk marks) : fn_after_bound ws marks = some ⟨(afterBd ws marks).1, (afterBd ws marks).2⟩ := by
  unfold fn_after_bound
  have c1 : cutL ws (some ((marks.length : Nat) : Int)) (some (((marks.length : Nat) : Int) + (1 : Int))) = (ws.drop marks.length).take 1 := cutL_mid ws marks.length 1
  have e1 : (if (dEq (toD ((ws.drop marks.length).take 1)) (toD (([("over" : Str)] : (List Str)) : (List Str)))) = true then (2 : Int) else (1 : Int)) = ((moreOf ws marks.length : Nat) : Int) := by
    rw [strs_eq]
    unfold moreOf
    by_cases c : (ws.drop marks.length).take 1 = [Str.ofString "over"]
    · rw [if_pos (decide_eq_true c), if_pos c]
      rfl
    · rw [if_neg (by rw [decide_eq_false c]; decide), if_neg c]
      rfl
  have c2 : cutL ws (some ((marks.length : Nat) : Int)) (some (((marks.length : Nat) : Int) + ((moreOf ws marks.length : Nat) : Int))) = (ws.drop marks.length).take (moreOf ws marks.length) := cutL_mid ws marks.length _
  have c3 : cutL ws (some (((marks.length : Nat) : Int) + ((moreOf ws marks.length : Nat) : Int))) none = ws.drop (marks.length + moreOf ws marks.length) := cutL_from ws _
  rw [c1, e1, c2, c3, cutL_to]
  have m2 : moreOf ws marks.length ≤ 2 := by
    unfold moreOf
    split <;> decide
  have hl : ((ws.drop marks.length).take (moreOf ws marks.length)).length ≤ 2 := Nat.le_trans (by rw [List.length_take]; exact Nat.min_le_left _ _) m2
  have hb := (hw.drop marks.length).take (moreOf ws marks.length)
  rw [if_pos (strs_ok ((hw.drop _).take 1) wok_over), if_pos ?_, if_pos (strs_ok (hw.take _) hm), strs_eq]
  · unfold afterBd
    have bl : (bdOf ws marks.length).length ≤ 100000 := Nat.le_trans (join_len fun z hz => (hb z hz).2) (Nat.le_trans (Nat.mul_le_mul_left _ hl) (by decide))
    have fb : fn_is_bound (toD (PySem.Txt.join (" " : Str) ((ws.drop marks.length).take (moreOf ws marks.length)))) = some (fracOf (bdOf ws marks.length)).isSome := is_bound_eq bl
    by_cases c : ws.take marks.length = marks
    · rw [if_pos (decide_eq_true c)]
      rw [fb]
      simp only [Option.bind_some]
      by_cases d : (fracOf (bdOf ws marks.length)).isSome = true
      · rw [if_pos d, if_pos ⟨c, d⟩]
        rfl
      · rw [if_neg d, if_neg (fun q => d q.2)]
    · rw [if_neg (by rw [decide_eq_false c]; decide), if_neg (fun q => c q.1)]
      simp only [Option.bind_some]
      rfl
  · have : (List.map (fun x => Str.length x) ((ws.drop marks.length).take (moreOf ws marks.length))).sum ≤ 40000 * ((ws.drop marks.length).take (moreOf ws marks.length)).length := by
      have go : ∀ {l : List Str}, (∀ z ∈ l, z.length ≤ 40000) → (List.map (fun x => Str.length x) l).sum ≤ 40000 * l.length := by
        intro l
        induction l with
        | nil => intro _; exact Nat.le_refl _
        | cons z l ih =>
          intro h
          have := ih fun x hx => h x (List.mem_cons_of_mem _ hx)
          have := h z List.mem_cons_self
          rw [List.map_cons, List.sum_cons, List.length_cons]
          omega
      exact go fun z hz => (hb z hz).2
    have b1 : (" " : Str).length = 1 := by decide
    rw [b1]
    omega
end L
namespace L
open PySem L2 Hv Ev TL
set_option autoImplicit false
def ndS : Nd → Int ⊕ Str
  | .cnt n => .inl (n : Int)
  | .bd b => .inr b.txt
def kE (s : Sr) : Ev.Kind := ⟨⟨s.name, (s.talks : Int), ndS s.needs, s.closing.map fun p => ⟨(p.1 : Int), p.2.txt⟩, s.ends.map Bd.txt⟩⟩
def rE (r : R3) : Row := ⟨⟨r.1, r.2.1, r.2.2⟩⟩
theorem is_name_ok {z : Str} (h : nameOk z = true) : fn_is_name z = some true := by
  have l8 := name_len h
  unfold nameOk at h
  cases e : z.cps.toList with
  | nil =>
    rw [e] at h
    cases h
  | cons c cs =>
    rw [e] at h
    simp only [Bool.and_eq_true, decide_eq_true_iff] at h
    obtain ⟨⟨_, h2⟩, h3⟩ := h
    have s24 : sizeLine = 16777216 := by decide
    have zl : Str.length z = (c :: cs).length := by
      rw [← e]
      show z.cps.size = z.cps.toList.length
      simp
    have l1 : 1 ≤ Str.length z := by rw [zl, List.length_cons]; omega
    have l8 : Str.length z ≤ 8 := l8
    have sl : (signs z).length = Str.length z := by
      unfold signs
      rw [List.length_map, e, zl]
    have e0 : sgAt z (0 : Int) = some ⟨c⟩ := by
      unfold sgAt
      rw [if_pos (show z.length ≤ sizeLine by have : z.length ≤ 8 := l8; omega), e, atI_zero]
      rfl
    have first : isSign ⟨c⟩ ("abcdefghijklmnopqrstuvwxyz" : Str) = true := decide_eq_true h2
    unfold fn_is_name
    refine (bnd_of (x := false) ?_).trans ?_
    · rw [if_neg (by decide), if_pos (by omega)]
      refine (bnd_of (x := false) ?_).trans rfl
      rw [if_neg (by rw [decide_eq_true (show (1 : Int) ≤ ((Str.length z : Nat) : Int) by omega), decide_eq_true (show ((Str.length z : Nat) : Int) ≤ 8 by omega)]; decide), bnd_of e0, first]
      rfl
    · rw [if_neg (by decide), if_pos (by omega)]
      congr 1
      rw [List.all_map, List.all_eq_true]
      intro x hx
      unfold signs at hx
      obtain ⟨y, hy, rfl⟩ := List.mem_map.mp hx
      rw [e] at hy
      have := List.all_eq_true.mp h3 y hy
      unfold signOk at this
      exact this
theorem menu_nm (z : Str) (h : nameOk z = true) : fn_is_name z = some true ∧ PyData.strOk z = true ∧ z.length ≤ 100 := ⟨is_name_ok h, name_strOk h, Nat.le_trans (name_len h) (by decide)⟩
theorem plan_menu {most : Nat} {ss : List Sr} {rs : List Rw} (h : PlanOk most ss rs) : ∀ s ∈ ss, nameOk s.name = true := h.nm.2
theorem bok {b : Bd} (h : b.Ok) : BOk b.txt := ⟨(Bd.bt h).1, (Bd.bt h).2⟩
theorem kE_ok {s : Sr} (h : SrOk s) (hm : nameOk s.name = true) : KdOk (kE s) := by
  obtain ⟨m1, m2, m3⟩ := menu_nm _ hm
  obtain ⟨name, talks, needs, closing, ends⟩ := s
  refine ⟨⟨⟨Int.natCast_nonneg _, ?_⟩, fun c hc => ?_, fun b hb => ?_, fun b hb => ?_⟩, m1, fun n hn => ?_, m2, m3, fun b hb => ?_, fun c hc => ?_, fun b hb => ?_⟩
  · show ((talks : Nat) : Int) ≤ 3
    have : talks ≤ 3 := h.talks
    omega
  · cases closing with
    | none => cases hc
    | some p =>
      cases hc
      have := h.cl p.1 p.2 rfl
      exact ⟨bok this.2, Int.natCast_nonneg _, by show ((p.1 : Nat) : Int) ≤ 3; omega⟩
  · cases needs with
    | cnt n => cases hb
    | bd b' =>
      cases hb
      exact bok (h.bd b' rfl)
  · cases ends with
    | none => cases hb
    | some b' =>
      cases hb
      exact bok (h.en b' rfl)
  · cases needs with
    | cnt m =>
      cases hn
      have := h.cnt m rfl
      omega
    | bd b' => cases hn
  · cases needs with
    | cnt n => cases hb
    | bd b' =>
      cases hb
      exact Nat.le_trans (Bd.len (h.bd b' rfl)) (by decide)
  · cases closing with
    | none => cases hc
    | some p =>
      cases hc
      exact Nat.le_trans (Bd.len (h.cl p.1 p.2 rfl).2) (by decide)
  · cases ends with
    | none => cases hb
    | some b' =>
      cases hb
      exact Nat.le_trans (Bd.len (h.en b' rfl)) (by decide)
/-- what the line of a kind is, if it is -/
theorem line_val {s : Sr} {z : Str} (hz : fn_line_of_kind (kE s) = some z) : z = lineK (kdOf s) := by
  obtain ⟨name, talks, needs, closing, ends⟩ := s
  unfold fn_line_of_kind at hz
  obtain ⟨_, hz⟩ := ite_some hz
  obtain ⟨_, hz⟩ := ite_some hz
  obtain ⟨z1, h1, hz⟩ := bind_some hz
  have q1 : z1 = joinB ([Str.ofString "motion", name] ++ tW (talks : Int)) := by
    unfold tW
    by_cases c : (0 : Int) < (talks : Int)
    · rw [if_pos (show decide ((0 : Int) < Ev.Kind.talks (kE ⟨name, talks, needs, closing, ends⟩)) = true from decide_eq_true c)] at h1
      obtain ⟨_, h1⟩ := ite_some h1
      obtain ⟨_, h1⟩ := ite_some h1
      obtain ⟨_, h1⟩ := ite_some h1
      rw [if_pos c, ← Option.some.inj h1]
      show (Str.empty ++ Str.ofString "motion " ++ name) ++ (Str.empty ++ Str.ofString " talks " ++ num (talks : Int)) = _
      rw [j_motion, j_two (Str.ofString "talks") (by simp) (by decide +kernel)]
    · rw [if_neg (show ¬ decide ((0 : Int) < Ev.Kind.talks (kE ⟨name, talks, needs, closing, ends⟩)) = true from fun q => c (of_decide_eq_true q))] at h1
      rw [if_neg c, ← Option.some.inj h1]
      show (Str.empty ++ Str.ofString "motion " ++ name) = _
      rw [j_motion]
      rfl
  clear h1
  have x1 : ([Str.ofString "motion", name] ++ tW (talks : Int)) ≠ [] := by simp
  have kw : lineK (kdOf ⟨name, talks, needs, closing, ends⟩) = joinB ((([Str.ofString "motion", name] ++ tW (talks : Int)) ++ nW (ndV needs)) ++ cW (closing.map fun p => ((p.1 : Int), p.2.txt)) ++ eW (ends.map Bd.txt)) := by
    unfold lineK kwords
    simp only [List.append_assoc]
    rfl
  rw [kw]
  generalize ([Str.ofString "motion", name] ++ tW (talks : Int)) = X1 at x1 q1 ⊢
  obtain ⟨r8, h8, hz⟩ := bind_some hz
  obtain ⟨r11, h11, hz⟩ := bind_some hz
  obtain ⟨z2, h2, hz⟩ := bind_some hz
  have q2 : z2 = joinB (X1 ++ nW (ndV needs)) := by
    cases needs with
    | cnt n =>
      have e8 : r8 = true := (Option.some.inj h8).symm
      subst e8
      have e11 : r11 = decide ((1 : Int) < (n : Int)) := by
        rw [if_neg (by decide)] at h11
        obtain ⟨i, hi, h11⟩ := bind_some h11
        have hi : (n : Int) = i := Option.some.inj hi
        rw [hi]
        exact (Option.some.inj h11).symm
      show z2 = joinB (X1 ++ (if (1 : Int) < (n : Int) then _ else _))
      by_cases c : (1 : Int) < (n : Int)
      · rw [if_pos (by rw [e11]; exact decide_eq_true c)] at h2
        obtain ⟨r13, h13, h2⟩ := bind_some h2
        obtain ⟨_, h2⟩ := ite_some h2
        obtain ⟨_, h2⟩ := ite_some h2
        have e13 : num (n : Int) = r13 := by
          have h13 : (if ((n : Int)).natAbs.log2 < 1920 then some (strI (n : Int)) else none) = some r13 := h13
          obtain ⟨_, h13⟩ := ite_some h13
          exact Option.some.inj h13
        rw [if_pos c, ← Option.some.inj h2, q1, ← e13]
        exact j_two (Str.ofString "needs") x1 (by decide +kernel)
      · rw [if_neg (by rw [e11]; exact fun q => c (of_decide_eq_true q))] at h2
        rw [if_neg c, ← Option.some.inj h2, q1, List.append_nil]
    | bd b =>
      have e8 : r8 = false := (Option.some.inj h8).symm
      subst e8
      rw [if_pos (by decide)] at h11
      have e11 := Option.some.inj h11
      subst e11
      rw [if_pos rfl] at h2
      obtain ⟨r13, h13, h2⟩ := bind_some h2
      obtain ⟨_, h2⟩ := ite_some h2
      obtain ⟨_, h2⟩ := ite_some h2
      have e13 : b.txt = r13 := by
        have h13 : (if (b.txt).length ≤ sizeLine then some b.txt else none) = some r13 := h13
        obtain ⟨_, h13⟩ := ite_some h13
        exact Option.some.inj h13
      rw [← Option.some.inj h2, q1, ← e13]
      exact j_bw [Str.ofString "needs"] x1 (by simp) (by decide +kernel)
  clear h2 h11 h8
  have x2 : X1 ++ nW (ndV needs) ≠ [] := by simp [x1]
  generalize X1 ++ nW (ndV needs) = X2 at x2 q2 ⊢
  obtain ⟨z3, h3, hz⟩ := bind_some hz
  have q3 : z3 = joinB (X2 ++ cW (closing.map fun p => ((p.1 : Int), p.2.txt))) := by
    cases closing with
    | none =>
      have h3 : some z2 = some z3 := h3
      show z3 = joinB (X2 ++ [])
      rw [List.append_nil, ← Option.some.inj h3, q2]
    | some p =>
      rw [if_pos (by rfl)] at h3
      obtain ⟨r18, h18, h3⟩ := bind_some h3
      have e18 : r18 = ⟨(p.1 : Int), p.2.txt⟩ := (Option.some.inj h18).symm
      subst e18
      obtain ⟨_, h3⟩ := ite_some h3
      obtain ⟨_, h3⟩ := ite_some h3
      obtain ⟨_, h3⟩ := ite_some h3
      obtain ⟨_, h3⟩ := ite_some h3
      rw [← Option.some.inj h3, q2]
      exact j_clos x2
  clear h3
  have x3 : X2 ++ cW (closing.map fun p => ((p.1 : Int), p.2.txt)) ≠ [] := by simp [x2]
  generalize X2 ++ cW (closing.map fun p => ((p.1 : Int), p.2.txt)) = X3 at x3 q3 ⊢
  obtain ⟨z4, h4, hz⟩ := bind_some hz
  have e4 : z4 = z := Option.some.inj hz
  subst e4
  cases ends with
  | none =>
    have h4 : some z3 = some z4 := h4
    show z4 = joinB (X3 ++ [])
    rw [List.append_nil, ← Option.some.inj h4, q3]
  | some b =>
    rw [if_neg (by simp [kE, Ev.Kind.ends])] at h4
    obtain ⟨r24, h24, h4⟩ := bind_some h4
    have e24 : r24 = b.txt := (Option.some.inj h24).symm
    subst e24
    obtain ⟨_, h4⟩ := ite_some h4
    obtain ⟨_, h4⟩ := ite_some h4
    obtain ⟨_, h4⟩ := ite_some h4
    rw [← Option.some.inj h4, q3]
    exact j_ends x3
theorem line_kE {s : Sr} (h : SrOk s) (hm : nameOk s.name = true) : fn_line_of_kind (kE s) = some (lineK (kdOf s)) := by
  obtain ⟨z, e, _⟩ := line_kind_eq (kE_ok h hm)
  rw [e, line_val e]
end L
namespace L
open PySem L2 Hv Ev TL
set_option autoImplicit false
theorem wok_marks {l : List Str} (h : l.all (fun z => PyData.strOk z && decide (z.length ≤ 40000)) = true) : WOk l := fun z hz => by
  have := List.all_eq_true.mp h z hz
  rw [Bool.and_eq_true] at this
  exact ⟨this.1, of_decide_eq_true this.2⟩
theorem line_strOk {k : Kd} (ok : k.Ok) : PyData.strOk (lineK k) = true := strOk_of fun c hc => (lineK_signs ok c hc).2
def nV : Option (Int ⊕ Str) → V
  | none => .non
  | some (.inl i) => .int i
  | some (.inr z) => .str z
theorem nV_inj {a b : Option (Int ⊕ Str)} (h : nV a = nV b) : a = b := by
  cases a with
  | none =>
    cases b with
    | none => rfl
    | some b => cases b <;> cases h
  | some a =>
    cases b with
    | none => cases a <;> cases h
    | some b =>
      cases a <;> cases b <;> cases h <;> rfl
theorem ndV_nV (n : Nd) : ndV n = nV (some (ndS n)) := by cases n <;> rfl
theorem read_kind_eq {s : Sr} (h : SrOk s) (hm : nameOk s.name = true) : fn_read_kind (lineK (kdOf s)) = some (some (kE s)) := by
  have ok := h.kd
  have ll := lineK_len ok
  have hb : PySem.Txt.split (lineK (kdOf s)) (" " : Str) = kwords (kdOf s) := bw_lineK ok
  unfold fn_read_kind
  rw [if_pos ⟨by decide, sl_of (by omega)⟩, hb]
  have hws : WOk (kwords (kdOf s)) := by
    rw [← bw_lineK ok]
    exact wok_bw (line_strOk ok) (by omega)
  have hk : kwords (kdOf s) = Str.ofString "motion" :: s.name :: (tW (kdOf s).talks ++ (nW (kdOf s).needs ++ (cW (kdOf s).closing ++ eW (kdOf s).ends))) := rfl
  have hp := parse_ok ok
  rw [hk] at hws ⊢
  generalize hL : (tW (kdOf s).talks ++ (nW (kdOf s).needs ++ (cW (kdOf s).closing ++ eW (kdOf s).ends))) = L at hws hp ⊢
  have hL0 : WOk L := hws.sub fun z hz => List.mem_cons_of_mem _ (List.mem_cons_of_mem _ hz)
  have a0 : atI (Str.ofString "motion" :: s.name :: L) (0 : Int) = some (Str.ofString "motion") := at_n (n := 0) rfl
  have a1 : atI (Str.ofString "motion" :: s.name :: L) (1 : Int) = some s.name := at_n (n := 1) rfl
  have c2 : cutL (Str.ofString "motion" :: s.name :: L) (some (2 : Int)) none = L := cutL_from _ 2
  obtain ⟨nm, _, _⟩ := menu_nm _ hm
  rw [bnd_of a0, if_neg (by decide +kernel), if_neg (by
    rw [decide_eq_false (by rw [List.length_cons, List.length_cons]; omega)]
    decide)]
  simp only [a1, nm, Option.bind_some]
  rw [if_neg (by decide), c2]
  have m1 : WOk [("talks" : Str)] := wok_marks (by decide +kernel)
  have m2 : WOk [("needs" : Str)] := wok_marks (by decide +kernel)
  have m3 : WOk [("closed" : Str), ("after" : Str)] := wok_marks (by decide +kernel)
  have m4 : WOk [("by" : Str)] := wok_marks (by decide +kernel)
  have m5 : WOk [("ends" : Str), ("by" : Str)] := wok_marks (by decide +kernel)
  have f1 := after_number_eq (most := 3) hL0 m1 (by decide)
  generalize e1 : afterNum L [Str.ofString "talks"] 3 = t at f1
  have hw1 : WOk t.2 := by
    rw [← e1]
    exact hL0.sub (afterNum_sub _ _ _)
  have f2 := after_number_eq (most := 9) hw1 m2 (by decide)
  generalize e2 : afterNum t.2 [Str.ofString "needs"] 9 = n at f2
  have hw2 : WOk n.2 := by
    rw [← e2]
    exact hw1.sub (afterNum_sub _ _ _)
  have f3 := after_bound_eq hw2 m2
  generalize e3 : (if n.1.isNone = true then afterBd n.2 [Str.ofString "needs"] else (none, n.2)) = nb
  have hw3 : WOk nb.2 := by
    rw [← e3]
    split
    · exact hw2.sub (afterBd_sub _ _)
    · exact hw2
  have f4 := after_number_eq (most := 3) hw3 m3 (by decide)
  generalize e4 : afterNum nb.2 [Str.ofString "closed", Str.ofString "after"] 3 = a at f4
  have hw4 : WOk a.2 := by
    rw [← e4]
    exact hw3.sub (afterNum_sub _ _ _)
  have f5 := after_bound_eq hw4 m4
  generalize e5 : afterBd a.2 [Str.ofString "by"] = b at f5
  have hw5 : WOk b.2 := by
    rw [← e5]
    exact hw4.sub (afterBd_sub _ _)
  have hw6 : WOk (if (closOf a.1 b.1).isSome = true then b.2 else nb.2) := by
    split
    · exact hw5
    · exact hw3
  have f6 := after_bound_eq hw6 m5
  have pk : parseK L = ⟨t.1, needsOf n.1 nb.1, closOf a.1 b.1, (afterBd (if (closOf a.1 b.1).isSome = true then b.2 else nb.2) [Str.ofString "ends", Str.ofString "by"]).1, (afterBd (if (closOf a.1 b.1).isSome = true then b.2 else nb.2) [Str.ofString "ends", Str.ofString "by"]).2⟩ := by
    unfold parseK
    dsimp only
    rw [e1, e2, e3, e4, e5]
  rw [pk] at hp
  obtain ⟨p1, p2, p3, p4, p5⟩ := Parse.mk.inj hp
  rw [p4, p5] at f6
  refine (bnd_of f1).trans ?_
  refine (bnd_of f2).trans ?_
  -- the needs
  have f7 : ∃ sn : Option (Int ⊕ Str), ((((if ((((⟨Option.map Sum.inl (n.1.map Int.ofNat), n.2⟩ : (P2 (Option (Int ⊕ Str)) (List Str)))).a).isNone) = true then
        ((fn_after_bound (((⟨Option.map Sum.inl (n.1.map Int.ofNat), n.2⟩ : (P2 (Option (Int ⊕ Str)) (List Str)))).b) (([("needs" : Str)] : (List Str)))).bind fun r14 =>
        some (((⟨Option.map Sum.inr (r14).a, (r14).b⟩ : (P2 (Option (Int ⊕ Str)) (List Str)))).b, ((⟨Option.map Sum.inr (r14).a, (r14).b⟩ : (P2 (Option (Int ⊕ Str)) (List Str)))).a)) else
        some (((⟨Option.map Sum.inl (n.1.map Int.ofNat), n.2⟩ : (P2 (Option (Int ⊕ Str)) (List Str)))).b, ((⟨Option.map Sum.inl (n.1.map Int.ofNat), n.2⟩ : (P2 (Option (Int ⊕ Str)) (List Str)))).a)) : Option ((List Str) × (Option (Int ⊕ Str))))) = some (nb.2, sn)) ∧ nV sn = needsOf n.1 nb.1 := by
    cases q : n.1 with
    | none =>
      rw [q] at e3
      have e3 : afterBd n.2 [Str.ofString "needs"] = nb := e3
      rw [e3] at f3
      refine ⟨nb.1.map Sum.inr, ?_, ?_⟩
      · rw [if_pos (by rfl), bnd_of f3]
      · cases nb.1 <;> rfl
    | some i =>
      rw [q] at e3
      have e3 : (none, n.2) = nb := e3
      refine ⟨some (.inl (i : Int)), ?_, rfl⟩
      rw [if_neg (by simp), ← e3]
      rfl
  obtain ⟨sn, f7, n7⟩ := f7
  rw [bnd_of f7]
  rw [p2] at n7
  refine (bnd_of f4).trans ?_
  refine (bnd_of f5).trans ?_
  have f8 : ((((if ((!((⟨a.1.map Int.ofNat, a.2⟩ : P2 (Option Int) (List Str)).a).isNone) && (!((⟨b.1, b.2⟩ : P2 (Option Str) (List Str)).a).isNone)) = true then
        (((⟨a.1.map Int.ofNat, a.2⟩ : P2 (Option Int) (List Str)).a).bind fun r20 =>
        (((⟨b.1, b.2⟩ : P2 (Option Str) (List Str)).a).bind fun r21 =>
        some ((⟨b.1, b.2⟩ : P2 (Option Str) (List Str)).b, (some (⟨r20, r21⟩ : (P2 Int Str)) : (Option (P2 Int Str)))))) else
        some ((nb.2, sn).1, (none : (Option (P2 Int Str))))) : Option ((List Str) × (Option (P2 Int Str))))) = some ((if (closOf a.1 b.1).isSome = true then b.2 else nb.2), (closOf a.1 b.1).map fun p => ⟨p.1, p.2⟩)) := by
    cases a.1 with
    | none => cases b.1 <;> rfl
    | some i => cases b.1 <;> rfl
  refine (bnd_of f8).trans ?_
  refine (bnd_of f6).trans ?_
  dsimp only
  have sn1 : sn = if (kdOf s).needs = .int 1 then none else some (ndS s.needs) := by
    apply nV_inj
    rw [n7]
    split
    · rfl
    · exact ndV_nV _
  have r0 : ¬ ((!([] : List Str).isEmpty) || (eqOEI sn (0 : Int))) = true := by
    have : eqOEI sn 0 = false := by
      rw [sn1]
      split
      · rfl
      · obtain ⟨name, talks, needs, closing, ends⟩ := s
        cases needs with
        | cnt m =>
          have := h.cnt m rfl
          show decide ((m : Int) = 0) = false
          exact decide_eq_false (by omega)
        | bd b => rfl
    rw [this]
    decide
  rw [if_neg r0]
  have r1 : ((if ((sn).isNone) = true then some (.inl (1 : Int) : (Int ⊕ Str)) else ((sn).bind fun r26 => some r26))) = some (ndS s.needs) := by
    rw [sn1]
    by_cases c1 : (kdOf s).needs = .int 1
    · rw [if_pos c1]
      show some (Sum.inl (1 : Int)) = _
      obtain ⟨name, talks, needs, closing, ends⟩ := s
      cases needs with
      | cnt m =>
        have c1 : V.int (m : Int) = .int 1 := c1
        have c1 := V.int.inj c1
        show some (Sum.inl (1 : Int)) = some (Sum.inl (m : Int))
        rw [c1]
      | bd b => cases c1
    · rw [if_neg c1, if_neg (by simp)]
      rfl
  rw [bnd_of r1]
  have tk : orI (t.1.map Int.ofNat) 0 = (s.talks : Int) := by
    rw [p1]
    show orI (Option.map Int.ofNat (if (0 : Int) < (s.talks : Int) then some ((s.talks : Int)).toNat else none)) 0 = _
    by_cases c : (0 : Int) < (s.talks : Int)
    · rw [if_pos c]
      show (if Int.ofNat ((s.talks : Int)).toNat = 0 then (0 : Int) else Int.ofNat ((s.talks : Int)).toNat) = _
      rw [Int.toNat_natCast]
      split <;> rename_i q
      · exact q.symm
      · rfl
    · rw [if_neg c]
      show (0 : Int) = _
      omega
  rw [tk]
  have cl : ((closOf a.1 b.1).map fun p => (⟨p.1, p.2⟩ : P2 Int Str)) = s.closing.map fun p => ⟨(p.1 : Int), p.2.txt⟩ := by
    rw [p3]
    show (s.closing.map fun p => ((p.1 : Int), p.2.txt)).map _ = _
    rw [Option.map_map]
    rfl
  rw [cl]
  refine (bnd_of (kind_eq (kE_ok h hm))).trans ?_
  rw [bnd_of (line_kE h hm), if_pos (decide_eq_true rfl)]
theorem read_kind_row {o i m : Str} (h : RowOk o i m) : fn_read_kind (lineR o i m) = some none := by
  obtain ⟨r, e⟩ := bw_lineR h
  have ll := lineR_len h
  have e : PySem.Txt.split (lineR o i m) (" " : Str) = Str.ofString "under" :: r := e
  unfold fn_read_kind
  have a0 : atI (Str.ofString "under" :: r) (0 : Int) = some (Str.ofString "under") := at_n (n := 0) rfl
  rw [if_pos ⟨by decide, sl_of (by omega)⟩, e, bnd_of a0, if_pos (by decide +kernel), bnd_of rfl, if_pos rfl]
theorem split_head {k : Kd} : ∃ rest, Txt.splitMax (lineK k) BLANK 3 = Str.ofString "motion" :: rest := by
  have e : lineK k = Str.ofString "motion" ++ (BLANK ++ joinB (k.name :: (tW k.talks ++ (nW k.needs ++ (cW k.closing ++ eW k.ends))))) := by
    unfold lineK kwords
    exact joinB_cons
  have sp := splitB (lineK k)
  rw [e, tl_append, tl_append, blank_tl] at sp
  have nb : 32 ∉ tl (Str.ofString "motion") := by decide +kernel
  rw [show tl (Str.ofString "motion") ++ ([32] ++ tl (joinB (k.name :: (tW k.talks ++ (nW k.needs ++ (cW k.closing ++ eW k.ends)))))) = tl (Str.ofString "motion") ++ 32 :: tl (joinB (k.name :: (tW k.talks ++ (nW k.needs ++ (cW k.closing ++ eW k.ends))))) from rfl, splm_part _ _ nb, List.nil_append] at sp
  rw [e]
  generalize Txt.splitMax (Str.ofString "motion" ++ (BLANK ++ joinB (k.name :: (tW k.talks ++ (nW k.needs ++ (cW k.closing ++ eW k.ends)))))) BLANK 3 = l at sp ⊢
  cases l with
  | nil => cases sp
  | cons z rest =>
    rw [List.map_cons] at sp
    exact ⟨rest, by rw [ext_tl (List.cons.inj sp).1]⟩
theorem read_row_kind {k : Kd} (ok : k.Ok) : fn_read_row (lineK k) = some none := by
  obtain ⟨rest, e⟩ := split_head (k := k)
  have e : PySem.Txt.splitMax (lineK k) (" " : Str) (3 : Int) = Str.ofString "motion" :: rest := e
  have ll := lineK_len ok
  unfold fn_read_row
  rw [if_pos ⟨by decide, by decide, by decide, sl_of (by omega)⟩, e]
  by_cases c : (decide ((((Str.ofString "motion" :: rest).length : Nat) : Int) < (4 : Int))) = true
  · rw [if_pos c, bnd_of rfl, if_pos rfl]
  · have a0 : atI (Str.ofString "motion" :: rest) (0 : Int) = some (Str.ofString "motion") := at_n (n := 0) rfl
    rw [if_neg c, bnd_of a0, if_pos (by decide +kernel), bnd_of rfl, bnd_of rfl, if_pos rfl]
theorem amts_a : ∀ z ∈ AMTS, (match sortA z with | some s => decide (0 ≤ s.b ∧ s.b ≤ 3) | none => false) = true := by decide +kernel
theorem rE_ok {r : R3} (h : RowOk r.1 r.2.1 r.2.2) (m1 : nameOk r.1 = true) (m2 : nameOk r.2.1 = true) : RwOk (rE r) := by
  have am := amount_mem h.mOk
  have al := amt_len _ am
  have a := amts_a _ am
  have ok : ∃ w n, sortA r.2.2 = some ⟨w, n⟩ ∧ 0 ≤ n ∧ n ≤ 3 := by
    cases q : sortA r.2.2 with
    | none => rw [q] at a; cases a
    | some s =>
      rw [q] at a
      exact ⟨s.a, s.b, rfl, of_decide_eq_true a⟩
  exact ⟨⟨h.ml, h.pl, ok⟩, (menu_nm _ m1).1, (menu_nm _ m2).1, (menu_nm _ m1).2.2, (menu_nm _ m2).2.2, by show r.2.2.length ≤ 100; omega⟩
theorem read_row_eq {r : R3} (h : RowOk r.1 r.2.1 r.2.2) (m1 : nameOk r.1 = true) (m2 : nameOk r.2.1 = true) : fn_read_row (lineR r.1 r.2.1 r.2.2) = some (some (rE r)) := by
  have e : PySem.Txt.splitMax (lineR r.1 r.2.1 r.2.2) (" " : Str) (3 : Int) = [Str.ofString "under", r.1, r.2.1, r.2.2] := lineR_split h
  have ll := lineR_len h
  have ro := rE_ok h m1 m2
  obtain ⟨w, n, ew, _, _⟩ := ro.w.ok
  have ew : sortA r.2.2 = some ⟨w, n⟩ := ew
  have a0 : ∀ {a b c d : Str}, atI [a, b, c, d] (0 : Int) = some a := fun {a b c d} => at_n (n := 0) rfl
  have a1 : ∀ {a b c d : Str}, atI [a, b, c, d] (1 : Int) = some b := fun {a b c d} => at_n (n := 1) rfl
  have a2 : ∀ {a b c d : Str}, atI [a, b, c, d] (2 : Int) = some c := fun {a b c d} => at_n (n := 2) rfl
  have a3 : ∀ {a b c d : Str}, atI [a, b, c, d] (3 : Int) = some d := fun {a b c d} => at_n (n := 3) rfl
  unfold fn_read_row
  rw [if_pos ⟨by decide, by decide, by decide, sl_of (by omega)⟩, e, if_neg (show ¬ (decide ((([Str.ofString "under", r.1, r.2.1, r.2.2].length : Nat) : Int) < (4 : Int))) = true from fun q => by have := of_decide_eq_true q; simp at this), bnd_of a0, if_neg (by decide +kernel)]
  simp only [a1, a2, a3, (menu_nm _ m1).1, (menu_nm _ m2).1, Option.bind_some]
  rw [if_neg (by decide)]
  simp only [Option.bind_some]
  rw [if_neg (by decide), bnd_of ((sort_of_eq (z := r.2.2) h.ml h.pl).trans (by rw [ew]))]
  rw [if_neg (by simp)]
  have rq : fn_Row_init r.1 r.2.1 r.2.2 = some (rE r) := row_eq ro
  rw [rq]
  rfl
end L
namespace L
open PySem L2 Hv Ev TL
set_option autoImplicit false
theorem forS_cat {σ α : Type} {f : σ → α → Option σ} : ∀ (xs ys : List α) (s : σ), forS f s (xs ++ ys) = (forS f s xs).bind fun s => forS f s ys
  | [], ys, s => rfl
  | x :: xs, ys, s => by
    have e : ∀ (x : α) (zs : List α), forS f s (x :: zs) = (f s x).bind fun s' => forS f s' zs := fun _ _ => rfl
    rw [List.cons_append, e, e]
    cases f s x with
    | none => rfl
    | some s' => exact forS_cat xs ys s'
theorem forS_run {σ α : Type} {f : σ → α → Option σ} {I : List α → σ} (l : List α) (h : ∀ (xs : List α) (x : α), x ∈ l → xs.length < l.length → f (I xs) x = some (I (xs ++ [x]))) : forS f (I []) l = some (I l) := by
  have go : ∀ (ys xs : List α), xs ++ ys = l → forS f (I xs) ys = some (I l) := by
    intro ys
    induction ys with
    | nil =>
      intro xs e
      rw [List.append_nil] at e
      rw [e]
      rfl
    | cons y ys ih =>
      intro xs e
      unfold forS
      rw [bnd_of (h xs y (by rw [← e]; simp) (by rw [← e]; simp))]
      exact ih (xs ++ [y]) (by rw [← e]; simp)
  exact go l [] rfl
theorem row_val {r : R3} {z : Str} (hz : fn_line_of_row (rE r) = some z) : z = lineR r.1 r.2.1 r.2.2 := by
  unfold fn_line_of_row at hz
  obtain ⟨_, hz⟩ := ite_some hz
  obtain ⟨_, hz⟩ := ite_some hz
  obtain ⟨_, hz⟩ := ite_some hz
  obtain ⟨_, hz⟩ := ite_some hz
  rw [← Option.some.inj hz]
  show (Str.empty ++ Str.ofString "under " ++ r.1 ++ BLANK ++ r.2.1 ++ BLANK ++ r.2.2) = _
  unfold lineR
  rw [joinB_cons, joinB_cons, joinB_cons, joinB_one]
  have e : Str.empty ++ Str.ofString "under " = Str.ofString "under" ++ BLANK := by decide +kernel
  rw [e]
  simp only [app_assoc]
theorem read_eqT {ss : List Sr} {rs : List Rw} (h : PlanOk 6 ss rs) (ok : ∀ s ∈ ss, SrOk s) : ∃ R, fn_Rules_read ⟨⟩ (textR (ss.map kdOf) (rs.map (rowOf ss))) = some R ∧ R.made = ⟨⟨ss.map kE⟩, ⟨(rs.map (rowOf ss)).map rE⟩⟩ ∧ R.text = textR (ss.map kdOf) (rs.map (rowOf ss)) ∧ RulOk (ss.map kE) ((rs.map (rowOf ss)).map rE) := by
  have hk := plan_kinds h ok
  have hr := plan_rows h
  have h36 := plan_36 h
  have mn := plan_menu h
  have nm : (ss.map kE).map Ev.Kind.name = ss.map (·.name) := by
    rw [List.map_map]
    rfl
  have rm : ∀ z, z ∈ (ss.map kdOf).map (·.name) → nameOk z = true := fun z hz => by
    rw [kd_names] at hz
    obtain ⟨s, hs, rfl⟩ := List.mem_map.mp hz
    exact mn s hs
  have s6 : ss.length ≤ 6 := h.mst
  have rul : RulOk (ss.map kE) ((rs.map (rowOf ss)).map rE) := by
    refine ⟨?_, by rw [List.length_map]; exact h.mst, ?_, fun k hk' => ?_, by rw [List.length_map]; exact h36, fun r hr' => ?_, ?_, fun r hr' => ?_⟩
    · intro e
      have l := congrArg List.length e
      rw [List.length_map] at l
      have := h.one
      have l : ss.length = 0 := l
      omega
    · rw [nm]
      exact (h.names (by decide)).1
    · obtain ⟨s, hs, rfl⟩ := List.mem_map.mp hk'
      exact kE_ok (ok s hs) (mn s hs)
    · obtain ⟨q, hq, rfl⟩ := List.mem_map.mp hr'
      have := (hr.ok q hq).2
      rw [kd_names] at this
      rw [nm]
      exact this
    · unfold prs
      rw [List.map_map]
      have q := hr.nd
      unfold List.Nodup at q ⊢
      rw [List.pairwise_map] at q ⊢
      refine q.imp fun {a b} ne e => ne ?_
      have e : (⟨a.1, a.2.1⟩ : P2 Str Str) = ⟨b.1, b.2.1⟩ := e
      have e1 := congrArg P2.a e
      have e2 := congrArg P2.b e
      exact Prod.ext e1 e2
    · obtain ⟨q, hq, rfl⟩ := List.mem_map.mp hr'
      have := hr.ok q hq
      exact rE_ok this.1 (rm _ this.2.1) (rm _ this.2.2)
  obtain ⟨R, eR, mR, z1, z2, t1, t2, _, tR⟩ := rules_eqT rul
  refine ⟨R, ?_, mR, ?_, rul⟩
  rotate_left
  · have u1 : z1 = (ss.map kdOf).map lineK := by
      have : lcO (fun x => (fn_line_of_kind x).bind fun r => some (some r)) (ss.map kE) = some ((ss.map kE).map fun x => (fn_line_of_kind x).getD Str.empty) := lcO_all fun x hx => by
        obtain ⟨s, hs, rfl⟩ := List.mem_map.mp hx
        rw [line_kE (ok s hs) (mn s hs)]
        rfl
      rw [t1] at this
      rw [Option.some.inj this, List.map_map, List.map_map]
      refine List.map_congr_left fun s hs => ?_
      show (fn_line_of_kind (kE s)).getD Str.empty = lineK (kdOf s)
      rw [line_kE (ok s hs) (mn s hs)]
      rfl
    have u2 : z2 = (rs.map (rowOf ss)).map fun r => lineR r.1 r.2.1 r.2.2 := by
      have lr : ∀ q ∈ rs.map (rowOf ss), fn_line_of_row (rE q) = some (lineR q.1 q.2.1 q.2.2) := fun q hq => by
        obtain ⟨z, ez, _⟩ := line_row_eq (rul.rw (rE q) (List.mem_map.mpr ⟨q, hq, rfl⟩))
        rw [ez, row_val ez]
      have : lcO (fun x => (fn_line_of_row x).bind fun r => some (some r)) ((rs.map (rowOf ss)).map rE) = some (((rs.map (rowOf ss)).map rE).map fun x => (fn_line_of_row x).getD Str.empty) := lcO_all fun x hx => by
        obtain ⟨q, hq, rfl⟩ := List.mem_map.mp hx
        rw [lr q hq]
        rfl
      rw [t2] at this
      rw [Option.some.inj this, List.map_map]
      refine List.map_congr_left fun q hq => ?_
      show (fn_line_of_row (rE q)).getD Str.empty = _
      rw [lr q hq]
      rfl
    rw [tR, u1, u2]
    rfl
  have tf := text_facts hk hr h36
  unfold fn_Rules_read
  rw [if_neg (by decide), if_pos ⟨by decide, by have := tf.2.1; exact Nat.le_trans (show _ ≤ 40002 by omega) (by decide)⟩]
  have sp : PySem.Txt.split (textR (ss.map kdOf) (rs.map (rowOf ss))) ("\n" : Str) = linesR (ss.map kdOf) (rs.map (rowOf ss)) := split_text hk hr
  rw [sp]
  unfold linesR
  rw [forS_cat, List.map_map]
  have s1000 : (1000 : Nat) ≤ sizeLine := by decide
  have k1 : ∀ (g : (List Ev.Kind) × (List Row) → Str → Option ((List Ev.Kind) × (List Row))), (∀ ks s, s ∈ ss → ks.length < 6 → g (ks, []) (lineK (kdOf s)) = some (ks ++ [kE s], [])) → forS g ([], []) (ss.map (lineK ∘ kdOf)) = some (ss.map kE, []) := by
    intro g hg
    have := forS_run (f := fun st s => g st (lineK (kdOf s))) (I := fun l => (l.map kE, ([] : List Row))) ss fun xs x hx hl => by
      show g (xs.map kE, []) (lineK (kdOf x)) = some ((xs ++ [x]).map kE, [])
      rw [hg _ _ hx (by rw [List.length_map]; omega), List.map_append]
      rfl
    have mp : ∀ (l : List Sr) (st : (List Ev.Kind) × (List Row)), forS g st (l.map (lineK ∘ kdOf)) = forS (fun st s => g st (lineK (kdOf s))) st l := by
      intro l
      induction l with
      | nil => intro st; rfl
      | cons s l ih =>
        intro st
        rw [List.map_cons]
        unfold forS
        show (g st (lineK (kdOf s))).bind _ = (g st (lineK (kdOf s))).bind _
        cases g st (lineK (kdOf s)) with
        | none => rfl
        | some st' => exact ih st'
    rw [mp]
    exact this
  have k2 : ∀ (g : (List Ev.Kind) × (List Row) → Str → Option ((List Ev.Kind) × (List Row))), (∀ ks r rr, r ∈ rs.map (rowOf ss) → rr.length < 36 → g (ks, rr) (lineR r.1 r.2.1 r.2.2) = some (ks, rr ++ [rE r])) → ∀ ks, forS g (ks, []) ((rs.map (rowOf ss)).map fun r => lineR r.1 r.2.1 r.2.2) = some (ks, (rs.map (rowOf ss)).map rE) := by
    intro g hg ks
    have := forS_run (f := fun st (r : R3) => g st (lineR r.1 r.2.1 r.2.2)) (I := fun l => (ks, l.map rE)) (rs.map (rowOf ss)) fun xs x hx hl => by
      show g (ks, xs.map rE) (lineR x.1 x.2.1 x.2.2) = some (ks, (xs ++ [x]).map rE)
      rw [hg _ _ _ hx (by rw [List.length_map]; omega), List.map_append]
      rfl
    have mp : ∀ (l : List R3) (st : (List Ev.Kind) × (List Row)), forS g st (l.map fun r => lineR r.1 r.2.1 r.2.2) = forS (fun st (r : R3) => g st (lineR r.1 r.2.1 r.2.2)) st l := by
      intro l
      induction l with
      | nil => intro st; rfl
      | cons s l ih =>
        intro st
        rw [List.map_cons]
        unfold forS
        show (g st (lineR s.1 s.2.1 s.2.2)).bind _ = (g st (lineR s.1 s.2.1 s.2.2)).bind _
        cases g st (lineR s.1 s.2.1 s.2.2) with
        | none => rfl
        | some st' => exact ih st'
    rw [mp]
    exact this
  rw [k1 _ (fun ks s hs hl => ?_)]
  · simp only [Option.bind_some]
    rw [k2 _ (fun ks r rr hr' hl => ?_)]
    · simp only [Option.bind_some]
      rw [eR]
      rfl
    · have ro := hr.ok r hr'
      have rr1 := read_row_eq ro.1 (rm _ ro.2.1) (rm _ ro.2.2)
      have kk : (if (List.isEmpty rr) = true then ((fn_read_kind (lineR r.1 r.2.1 r.2.2)).bind fun r5 => some r5) else some (none : (Option Ev.Kind))) = some none := by
        split
        · rw [read_kind_row ro.1]
          rfl
        · rfl
      dsimp only
      rw [bnd_of kk, bnd_of rr1, if_neg (by simp), if_pos (by rfl)]
      simp only [Option.bind_some]
      rw [if_pos (by omega)]
  · have kk := read_kind_eq (ok s hs) (mn s hs)
    dsimp only
    rw [if_pos (by rfl), kk]
    simp only [Option.bind_some]
    rw [bnd_of (read_row_kind (ok s hs).kd), if_neg (by simp), if_neg (by simp)]
    rw [if_pos (by omega)]
end L
namespace L
open PySem L2 Hv Ev TL
set_option autoImplicit false
end L
namespace L
open PySem L2 Hv Ev TL
set_option autoImplicit false
/-! ### draws of k09 -/
structure WB (n : Int) (w : Q3 Int Int Int) : Prop where
  a0 : 0 ≤ w.a
  a1 : w.a < 2147483399
  b0 : 0 ≤ w.b
  b1 : Builtin.Int.intBits w.b ≤ 1048576
  c0 : 0 ≤ w.c
  c1 : w.c ≤ n
theorem WB.le {n m : Int} {w : Q3 Int Int Int} (h : WB n w) (l : n ≤ m) : WB m w := ⟨h.a0, h.a1, h.b0, h.b1, h.c0, by have := h.c1; omega⟩
theorem bnd_ex {α β : Type} {o : Option α} {f : α → Option β} {P : β → Prop} (Q : α → Prop) (h : ∃ a, o = some a ∧ Q a) (k : ∀ a, Q a → ∃ b, f a = some b ∧ P b) : ∃ b, o.bind f = some b ∧ P b := by
  obtain ⟨a, rfl, q⟩ := h
  exact k a q
theorem take_eq {n m : Int} {w : Q3 Int Int Int} (h : WB n w) (hn : n < 1000000) (m0 : 0 < m) (m1 : m < 10000000000000) : ∃ r w', fn_take w m = some (r, w') ∧ 0 ≤ r ∧ r < m ∧ WB (n + 1) w' := by
  obtain ⟨a, b, c⟩ := w
  obtain ⟨a0, a1, b0, b1, c0, c1⟩ := h
  dsimp only at a0 a1 b0 b1 c0 c1
  have c2 : (c + 1) * (c + 1) ≤ 1000001 * 1000001 := Int.mul_le_mul (by omega) (by omega) (by omega) (by omega)
  have c3 : 0 ≤ (c + 1) * (c + 1) := Int.mul_nonneg (by omega) (by omega)
  unfold fn_take
  dsimp only
  rw [if_pos (show CMulW a 91193 from cmul_small (by omega) (by decide)), if_pos (show CMulW (c + 1) (c + 1) from cmul_small (by omega) (by omega)), if_pos (show CMulW ((c + 1) * (c + 1)) 6827 from cmul_small (by omega) (by decide)), if_pos (by decide)]
  by_cases hc : 0 < b
  · rw [if_pos (decide_eq_true hc), if_pos (show CDivP b m from ⟨m0, pylong_no (Nat.lt_of_lt_of_le (show m.natAbs < 2 ^ 64 by omega) (Nat.pow_le_pow_right (by decide) (by decide)))⟩)]
    exact ⟨_, _, rfl, Int.emod_nonneg _ (by omega), Int.emod_lt_of_pos _ m0, ⟨Int.emod_nonneg _ (by decide), Int.emod_lt_of_pos _ (by decide), Int.ediv_nonneg b0 (by omega), bits_div b0 m0 b1, by show 0 ≤ c + 1; omega, by show c + 1 ≤ n + 1; omega⟩⟩
  · rw [if_neg (by rw [decide_eq_false hc]; decide), if_pos (wide_div (b := 64) (by decide) (by decide) (by decide) (by decide)), if_pos m0]
    exact ⟨_, _, rfl, Int.emod_nonneg _ (by omega), Int.emod_lt_of_pos _ m0, ⟨Int.emod_nonneg _ (by decide), Int.emod_lt_of_pos _ (by decide), b0, b1, by show 0 ≤ c + 1; omega, by show c + 1 ≤ n + 1; omega⟩⟩
/-! the bounds -/
def bsAt (q p : Nat) : List Str := if Nat.gcd p q = 1 ∧ 1 ≤ q ∧ q ≤ 12 ∧ p ≤ q then Bd.txt ⟨false, p, q⟩ :: (if p < q then [Bd.txt ⟨true, p, q⟩] else []) else []
theorem bs_ok {q p : Nat} {z : Str} (h : z ∈ bsAt q p) : ∃ b : Bd, b.Ok ∧ z = b.txt := by
  unfold bsAt at h
  split at h
  · rename_i c
    obtain ⟨g, q1, q12, pq⟩ := c
    rcases List.mem_cons.mp h with rfl | h
    · exact ⟨_, ⟨q1, q12, pq, g, fun z => by cases z⟩, rfl⟩
    · split at h
      · rename_i lt
        rw [List.mem_singleton.mp h]
        exact ⟨_, ⟨q1, q12, pq, g, fun _ => lt⟩, rfl⟩
      · cases h
  · cases h
theorem bs_len (q p : Nat) : (bsAt q p).length ≤ 2 := by
  unfold bsAt
  split
  · split
    · exact Nat.le_refl 2
    · exact Nat.le_succ 1
  · exact Nat.zero_le 2
theorem btxt (p q : Nat) : Bd.txt ⟨false, p, q⟩ = ((strI (p : Int)) ++ ("/" : Str)) ++ (strI (q : Int)) ∧ Bd.txt ⟨true, p, q⟩ = ((("over " : Str) ++ (strI (p : Int))) ++ ("/" : Str)) ++ (strI (q : Int)) := by
  refine ⟨?_, rfl⟩
  show (Str.ofString "" ++ text p ++ SLASH ++ text q) = _
  rw [show (Str.ofString "" ++ text p : Str) = text p from empty_app (text p)]
  rfl
theorem forS_flat {α β : Type} {f : List β → α → Option (List β)} {g : α → List β} (K N : Nat) (hg : ∀ x, (g x).length ≤ K) : ∀ (xs : List α) (s : List β), s.length + K * xs.length ≤ N → (∀ s' x, x ∈ xs → s'.length + K ≤ N → f s' x = some (s' ++ g x)) → forS f s xs = some (s ++ xs.flatMap g)
  | [], s, _, _ => by simp [forS]
  | x :: xs, s, h, hf => by
    rw [List.length_cons, Nat.mul_succ] at h
    have := hg x
    unfold forS
    rw [bnd_of (hf s x List.mem_cons_self (by omega)), forS_flat K N hg xs (s ++ g x) (by rw [List.length_append]; omega) fun s' y hy => hf s' y (List.mem_cons_of_mem _ hy), List.flatMap_cons, List.append_assoc]
theorem flat_len9 {α β : Type} {g : α → List β} {K : Nat} (hg : ∀ x, (g x).length ≤ K) : ∀ l : List α, (l.flatMap g).length ≤ K * l.length
  | [] => Nat.zero_le _
  | x :: l => by
    have := flat_len9 hg l
    have := hg x
    rw [List.flatMap_cons, List.length_append, List.length_cons, Nat.mul_succ]
    omega
theorem txt_log {p : Nat} (h : p ≤ 12) : (p : Int).natAbs.log2 < 1920 := Hv.small_log (by omega) (by omega)
theorem bounds_eq9 : ∃ l : List Str, fn_bounds = some l ∧ 0 < l.length ∧ l.length ≤ 400 ∧ ∀ z ∈ l, ∃ b : Bd, b.Ok ∧ z = b.txt := by
  have s1 : (1000 : Nat) ≤ sizeLine := by decide
  have s3 : (3000 : Nat) ≤ sizeLine := by decide
  have inner : ∀ (q : Nat) (s : List Str), 1 ≤ q → q ≤ 12 → s.length ≤ 500 → forS (fun (s5 : (List Str)) (x6 : Int) =>
     ((fn_common (x6) ((q : Nat) : Int)).bind fun r7 =>
     (if (decide (r7 = (1 : Int))) = true then
     (if (x6).natAbs.log2 < 1920 then
     (if Str.length (strI x6) + Str.length ("/" : Str) ≤ sizeLine then
     (if (((q : Nat) : Int)).natAbs.log2 < 1920 then
     (if Str.length ((strI x6) ++ ("/" : Str)) + Str.length (strI ((q : Nat) : Int)) ≤ sizeLine then
     (if List.length s5 < sizeLine then
     (if (decide (x6 < ((q : Nat) : Int))) = true then
     (if (x6).natAbs.log2 < 1920 then
     (if Str.length ("over " : Str) + Str.length (strI x6) ≤ sizeLine then
     (if Str.length (("over " : Str) ++ (strI x6)) + Str.length ("/" : Str) ≤ sizeLine then
     (if (((q : Nat) : Int)).natAbs.log2 < 1920 then
     (if Str.length ((("over " : Str) ++ (strI x6)) ++ ("/" : Str)) + Str.length (strI ((q : Nat) : Int)) ≤ sizeLine then
     (if List.length (s5 ++ [(((strI x6) ++ ("/" : Str)) ++ (strI ((q : Nat) : Int)))]) < sizeLine then
     some ((s5 ++ [(((strI x6) ++ ("/" : Str)) ++ (strI ((q : Nat) : Int)))]) ++ [(((("over " : Str) ++ (strI x6)) ++ ("/" : Str)) ++ (strI ((q : Nat) : Int)))]) else none) else none) else none) else none) else none) else none) else
     some (s5 ++ [(((strI x6) ++ ("/" : Str)) ++ (strI ((q : Nat) : Int)))])) else none) else none) else none) else none) else none) else
     some s5))) s (rng 0 ((q + 1 : Nat) : Int)) = some (s ++ (rng 0 ((q + 1 : Nat) : Int)).flatMap fun (x : Int) => bsAt q x.toNat) := fun q s q1 q12 hs => by
    refine forS_flat 2 1000 (fun x => bs_len q x.toNat) (rng 0 ((q + 1 : Nat) : Int)) s (by rw [rng_len]; omega) fun s' x hx hl => ?_
    obtain ⟨j, hj⟩ := List.mem_iff_getElem?.mp hx
    obtain ⟨rfl, jq⟩ := rng_get hj
    have tl1 := strI_small (i := (j : Int)) (by omega) (by omega)
    have tl2 := strI_small (i := (q : Int)) (by omega) (by omega)
    have l1 : Str.length ("/" : Str) = 1 := by decide +kernel
    have l5 : Str.length ("over " : Str) = 5 := by decide +kernel
    obtain ⟨b1, b2⟩ := btxt j q
    rw [bnd_of (show fn_common (j : Int) (q : Int) = some ((Nat.gcd j q : Nat) : Int) from common_divisor_eq j q)]
    unfold bsAt
    show _ = some (s' ++ if Nat.gcd j q = 1 ∧ 1 ≤ q ∧ q ≤ 12 ∧ j ≤ q then _ else _)
    by_cases c : Nat.gcd j q = 1
    · rw [if_pos (decide_eq_true (by omega)), if_pos (show Nat.gcd j q = 1 ∧ 1 ≤ q ∧ q ≤ 12 ∧ j ≤ q from ⟨c, q1, q12, by omega⟩), if_pos (txt_log (by omega)), if_pos (by omega), if_pos (txt_log q12), if_pos (by rw [app_len]; omega), if_pos (by omega)]
      by_cases d : j < q
      · rw [if_pos (decide_eq_true (by omega)), if_pos (txt_log (by omega)), if_pos (by omega), if_pos (by rw [app_len]; omega), if_pos (txt_log q12), if_pos (by rw [app_len, app_len]; omega), if_pos (by rw [List.length_append]; show _ + 1 < _; omega), if_pos (show (j : Int).toNat < q from d), ← b1, ← b2, List.append_assoc]
        rfl
      · rw [if_neg (by rw [decide_eq_false (by omega)]; decide), if_neg (show ¬ (j : Int).toNat < q from d), ← b1]
        rfl
    · rw [if_neg (by rw [decide_eq_false (by omega)]; decide), if_neg (show ¬ (Nat.gcd j q = 1 ∧ 1 ≤ q ∧ q ≤ 12 ∧ j ≤ q) from fun z => c z.1), List.append_nil]
  have gl : ∀ x : Int, (if 1 ≤ x ∧ x ≤ 12 then (rng 0 ((x.toNat + 1 : Nat) : Int)).flatMap fun (y : Int) => bsAt x.toNat y.toNat else []).length ≤ 26 := fun x => by
    split
    · rename_i c
      refine Nat.le_trans (flat_len9 (K := 2) (fun y => bs_len _ _) _) ?_
      rw [rng_len]
      omega
    · exact Nat.zero_le _
  have e13 : (rng (1 : Int) (13 : Int)).length = 12 := rfl
  have run : fn_bounds = some ((rng (1 : Int) (13 : Int)).flatMap fun x => if 1 ≤ x ∧ x ≤ 12 then (rng 0 ((x.toNat + 1 : Nat) : Int)).flatMap fun (y : Int) => bsAt x.toNat y.toNat else []) := by
    unfold fn_bounds
    rw [if_pos (by decide)]
    rw [bnd_of (forS_flat 26 400 gl (rng (1 : Int) (13 : Int)) [] (by rw [e13]; decide) fun s' x hx hl => ?_), List.nil_append]
    have hx2 : 1 ≤ x ∧ x ≤ 12 := by
      unfold rng at hx
      obtain ⟨i, hi, rfl⟩ := List.mem_map.mp hx
      have := List.mem_range.mp hi
      omega
    obtain ⟨q, rfl⟩ := Int.eq_ofNat_of_zero_le (show 0 ≤ x by omega)
    rw [if_pos hx2, if_pos (by omega), show ((q : Nat) : Int) + 1 = ((q + 1 : Nat) : Int) from rfl, bnd_of (inner q s' (by omega) (by omega) (by omega))]
    rfl
  refine ⟨_, run, ?_, ?_, fun z hz => ?_⟩
  · refine List.length_pos_of_mem (a := Bd.txt ⟨false, 1, 1⟩) (List.mem_flatMap.mpr ⟨1, by decide, ?_⟩)
    rw [if_pos (by decide)]
    exact List.mem_flatMap.mpr ⟨1, by decide, List.mem_cons_self⟩
  · refine Nat.le_trans (flat_len9 gl _) ?_
    rw [e13]
    decide
  · obtain ⟨x, _, hz⟩ := List.mem_flatMap.mp hz
    split at hz
    · obtain ⟨y, _, hz⟩ := List.mem_flatMap.mp hz
      exact bs_ok hz
    · cases hz
end L
namespace L
open PySem L2 Hv Ev TL
set_option autoImplicit false
/-! ### a drawn kind -/
abbrev Q5T := Q5 Str Int (Int ⊕ Str) (Option (P2 Int Str)) (Option Str)
def srT (s : Sr) : Q5T := ⟨s.name, (s.talks : Int), ndS s.needs, s.closing.map fun p => ⟨(p.1 : Int), p.2.txt⟩, s.ends.map Bd.txt⟩
structure BdL (l : List Str) : Prop where
  n0 : 0 < l.length
  n4 : l.length ≤ 400
  b : ∀ z ∈ l, ∃ b : Bd, b.Ok ∧ z = b.txt
theorem pick9 {l : List Str} (B : BdL l) {r : Int} (r0 : 0 ≤ r) (r1 : r < ((l.length : Nat) : Int)) : ∃ b : Bd, b.Ok ∧ atI l r = some b.txt := by
  obtain ⟨k, rfl⟩ := Int.eq_ofNat_of_zero_le r0
  have kl : k < l.length := by omega
  obtain ⟨b, ok, e⟩ := B.b _ (List.getElem_mem kl)
  exact ⟨b, ok, (at_n (List.getElem?_eq_getElem kl)).trans (congrArg some e)⟩
theorem kind_eq9 {N : Int} {w : Q3 Int Int Int} (W : WB N w) (hN : N < 900000) {l : List Str} (B : BdL l) {tag : Str} (ok : nameOk tag = true) : ∃ r, fn_kind w tag l = some r ∧ (∃ s : Sr, r.1 = srT s ∧ SrOk s ∧ s.name = tag) ∧ WB (N + 10) r.2 := by
  have n0 := B.n0
  have n4 := B.n4
  obtain ⟨r1, w1, e1, a0, a1, i1⟩ := take_eq (m := 4) W (by omega) (by decide) (by decide)
  obtain ⟨r2, w2, e2, b0, b1, i2⟩ := take_eq (m := 4) i1 (by omega) (by decide) (by decide)
  obtain ⟨t, rfl⟩ := Int.eq_ofNat_of_zero_le a0
  unfold fn_kind
  rw [bnd_of e1]
  dsimp only
  rw [bnd_of e2]
  dsimp only
  refine bnd_ex (Q := fun s => ∃ n : Nat, s.2 = (⟨tag, (t : Int), .inl (n : Int), none, none⟩ : Q5T) ∧ 1 ≤ n ∧ n ≤ 9 ∧ WB (N + 3) s.1) ?_ fun s hs => ?_
  · by_cases c : r2 = 1
    · obtain ⟨r4, w4, e4, c0, c1, i4⟩ := take_eq (m := 9) i2 (by omega) (by decide) (by decide)
      obtain ⟨n, rfl⟩ := Int.eq_ofNat_of_zero_le c0
      rw [if_pos (decide_eq_true c), bnd_of e4]
      refine ⟨_, rfl, n + 1, ?_, by omega, by omega, i4.le (by omega)⟩
      show (⟨tag, (t : Int), .inl (1 + (n : Int)), none, none⟩ : Q5T) = _
      rw [show (1 + (n : Int)) = ((n + 1 : Nat) : Int) by omega]
    · rw [if_neg (by rw [decide_eq_false c]; decide)]
      exact ⟨_, rfl, 1, rfl, by decide, by decide, i2.le (by omega)⟩
  obtain ⟨w3, s⟩ := s
  obtain ⟨n, rfl, n1, n9, i3⟩ := hs
  dsimp only at i3 ⊢
  refine bnd_ex (Q := fun s => ∃ nd : Nd, s.2 = (⟨tag, (t : Int), ndS nd, none, none⟩ : Q5T) ∧ (∀ n, nd = .cnt n → 1 ≤ n ∧ n ≤ 9) ∧ (∀ b, nd = .bd b → b.Ok) ∧ WB (N + 4) s.1) ?_ fun s hs => ?_
  · by_cases c : r2 = 2
    · obtain ⟨r7, w7, e7, c0, c1, i7⟩ := take_eq (m := ((l.length : Nat) : Int)) i3 (by omega) (by omega) (by omega)
      obtain ⟨b, bok, eb⟩ := pick9 B c0 c1
      rw [if_pos (decide_eq_true c), bnd_of e7]
      dsimp only
      rw [bnd_of eb]
      exact ⟨_, rfl, .bd b, rfl, (fun n z => by cases z), (fun b' z => by cases z; exact bok), i7.le (by omega)⟩
    · rw [if_neg (by rw [decide_eq_false c]; decide)]
      exact ⟨_, rfl, .cnt n, rfl, (fun n' z => by cases z; exact ⟨n1, n9⟩), (fun b' z => by cases z), i3.le (by omega)⟩
  obtain ⟨w4, s⟩ := s
  obtain ⟨nd, rfl, k1, k2, i4⟩ := hs
  dsimp only at i4 ⊢
  obtain ⟨r10, w5, e5, c0, c1, i5⟩ := take_eq (m := 2) i4 (by omega) (by decide) (by decide)
  rw [bnd_of e5]
  dsimp only
  refine bnd_ex (Q := fun s => ∃ cl : Option (Nat × Bd), s.2 = (⟨tag, (t : Int), ndS nd, cl.map fun p => ⟨(p.1 : Int), p.2.txt⟩, none⟩ : Q5T) ∧ (∀ i b, cl = some (i, b) → i ≤ 3 ∧ b.Ok) ∧ WB (N + 7) s.1) ?_ fun s hs => ?_
  · by_cases c : r10 = 0
    · obtain ⟨r12, w12, e12, d0, d1, i12⟩ := take_eq (m := 4) i5 (by omega) (by decide) (by decide)
      obtain ⟨r13, w13, e13, f0, f1, i13⟩ := take_eq (m := ((l.length : Nat) : Int)) i12 (by omega) (by omega) (by omega)
      obtain ⟨b, bok, eb⟩ := pick9 B f0 f1
      obtain ⟨i, rfl⟩ := Int.eq_ofNat_of_zero_le d0
      rw [if_pos (decide_eq_true c), bnd_of e12]
      dsimp only
      rw [bnd_of e13]
      dsimp only
      rw [bnd_of eb]
      exact ⟨_, rfl, some (i, b), rfl, (fun i' b' z => by cases z; exact ⟨by omega, bok⟩), i13.le (by omega)⟩
    · rw [if_neg (by rw [decide_eq_false c]; decide)]
      exact ⟨_, rfl, none, rfl, (fun i' b' z => by cases z), i5.le (by omega)⟩
  obtain ⟨w7, s⟩ := s
  obtain ⟨cl, rfl, k3, i7⟩ := hs
  dsimp only at i7 ⊢
  obtain ⟨r16, w8, e8, d0, d1, i8⟩ := take_eq (m := 3) i7 (by omega) (by decide) (by decide)
  rw [bnd_of e8]
  dsimp only
  refine bnd_ex (Q := fun s => ∃ en : Option Bd, s.2 = srT ⟨tag, t, nd, cl, en⟩ ∧ (∀ b, en = some b → b.Ok) ∧ WB (N + 10) s.1) ?_ fun s hs => ?_
  · by_cases c : r16 = 0
    · obtain ⟨r18, w18, e18, f0, f1, i18⟩ := take_eq (m := ((l.length : Nat) : Int)) i8 (by omega) (by omega) (by omega)
      obtain ⟨b, bok, eb⟩ := pick9 B f0 f1
      rw [if_pos (decide_eq_true c), bnd_of e18]
      dsimp only
      rw [bnd_of eb]
      exact ⟨_, rfl, some b, rfl, (fun b' z => by cases z; exact bok), i18.le (by omega)⟩
    · rw [if_neg (by rw [decide_eq_false c]; decide)]
      exact ⟨_, rfl, none, rfl, (fun b' z => by cases z), i8.le (by omega)⟩
  obtain ⟨w9, s⟩ := s
  obtain ⟨en, rfl, k4, i9⟩ := hs
  exact ⟨_, rfl, ⟨⟨tag, t, nd, cl, en⟩, rfl, ⟨ok, by show t ≤ 3; omega, k1, k2, k3, k4⟩, rfl⟩, i9⟩
end L
namespace L
open PySem L2 Hv Ev TL
set_option autoImplicit false
/-! ### the law's lines -/
theorem bl_lens : BL.all (fun z => decide (z.length ≤ 11)) = true := by decide +kernel
theorem btl {b : Bd} (h : b.Ok) : b.txt.length ≤ 11 := of_decide_eq_true (List.all_eq_true.mp bl_lens _ (Bd.facts h).2.2)
theorem kline_eq {s : Sr} (h : SrOk s) : fn_kind_line (srT s) = some (lineK (kdOf s)) := by
  suffices H : ∃ r, fn_kind_line (srT s) = some r ∧ r = lineK (kdOf s) by
    obtain ⟨r, e, rfl⟩ := H
    exact e
  obtain ⟨name, talks, needs, closing, ends⟩ := s
  have nl : name.length ≤ 8 := name_len h.name
  have t3 : talks ≤ 3 := h.talks
  have s1 : (1000 : Nat) ≤ sizeLine := by decide
  have l1 : ("motion " : Str).length = 7 := by decide +kernel
  have l2 : (" talks " : Str).length = 7 := by decide +kernel
  have l3 : (" needs " : Str).length = 7 := by decide +kernel
  have l4 : (" closed after " : Str).length = 14 := by decide +kernel
  have l5 : (" by " : Str).length = 4 := by decide +kernel
  have l6 : (" ends by " : Str).length = 9 := by decide +kernel
  have kw : lineK (kdOf ⟨name, talks, needs, closing, ends⟩) = joinB ((([Str.ofString "motion", name] ++ tW (talks : Int)) ++ nW (ndV needs)) ++ cW (closing.map fun p => ((p.1 : Int), p.2.txt)) ++ eW (ends.map Bd.txt)) := by
    unfold lineK kwords
    simp only [List.append_assoc]
    rfl
  rw [kw]
  unfold fn_kind_line srT
  dsimp only
  rw [if_pos (by omega)]
  refine bnd_ex (Q := fun z => z = joinB ([Str.ofString "motion", name] ++ tW (talks : Int)) ∧ z.length ≤ 40) ?_ fun z1 hz => ?_
  · have jm : joinB [Str.ofString "motion", name] = ("motion " : Str) ++ name := by rw [← j_motion, empty_app]
    unfold tW
    by_cases c : (0 : Int) < (talks : Int)
    · have ts := strI_small (i := (talks : Int)) (by omega) (by omega)
      rw [if_pos (decide_eq_true c), if_pos (by rw [app_len]; omega), if_pos (Hv.small_log (by omega) (by omega)), if_pos (by rw [app_len, app_len]; omega), if_pos c]
      refine ⟨_, rfl, ?_, by rw [app_len, app_len, app_len]; omega⟩
      rw [← j_two (p := (" talks " : Str)) (Str.ofString "talks") (by simp) (by decide +kernel), jm, empty_app]
      simp only [app_assoc]
      rfl
    · rw [if_neg (by rw [decide_eq_false c]; decide), if_neg c]
      exact ⟨_, rfl, jm.symm, by rw [app_len]; omega⟩
  obtain ⟨q1, b1⟩ := hz
  have x1 : ([Str.ofString "motion", name] ++ tW (talks : Int)) ≠ [] := by simp
  generalize ([Str.ofString "motion", name] ++ tW (talks : Int)) = X1 at x1 q1 ⊢
  subst q1
  have lg : ((getL (ndS needs)).getD 0).natAbs.log2 < 1920 := by
    cases needs with
    | cnt n =>
      have := h.cnt n rfl
      exact Hv.small_log (i := (n : Int)) (by omega) (by omega)
    | bd b => exact Hv.small_log (i := 0) (by decide) (by decide)
  rw [if_pos lg]
  refine bnd_ex (Q := fun z => z = joinB (X1 ++ nW (ndV needs)) ∧ z.length ≤ 70) ?_ fun z2 hz => ?_
  · cases needs with
    | cnt n =>
      have n9 := h.cnt n rfl
      have ts := strI_small (i := (n : Int)) (by omega) (by omega)
      have one : strI (n : Int) = ("1" : Str) ↔ n = 1 := by
        have : ∀ n : Nat, n < 10 → (strI (n : Int) = ("1" : Str) ↔ n = 1) := by decide +kernel
        exact this n (by omega)
      show ∃ z, (if (!decide (strI (n : Int) = ("1" : Str))) = true then _ else _) = some z ∧ z = joinB (X1 ++ (if (1 : Int) < (n : Int) then _ else _)) ∧ _
      by_cases c : n = 1
      · rw [if_neg (by rw [decide_eq_true (one.mpr c)]; decide), if_neg (by omega), List.append_nil]
        exact ⟨_, rfl, rfl, by omega⟩
      · rw [if_pos (by rw [decide_eq_false (fun z => c (one.mp z))]; rfl), if_pos (by omega), if_pos lg, show strE (ndS (Nd.cnt n)) = strI (n : Int) from rfl, if_pos (show Str.length (joinB X1 ++ (" needs " : Str)) + Str.length (strI (n : Int)) ≤ sizeLine by rw [app_len]; omega), if_pos (show (1 : Int) < (n : Int) by omega)]
        refine ⟨_, rfl, ?_, by show Str.length ((joinB X1 ++ (" needs " : Str)) ++ strI (n : Int)) ≤ 70; rw [app_len, app_len]; omega⟩
        rw [← j_two (p := (" needs " : Str)) (Str.ofString "needs") x1 (by decide +kernel), empty_app]
        show (joinB X1 ++ (" needs " : Str)) ++ strI (n : Int) = _
        simp only [app_assoc]
        rfl
    | bd b =>
      have bl := btl (h.bd b rfl)
      have ne1 : BL.all (fun z => !decide (z = ("1" : Str))) = true := by decide +kernel
      have ne : ¬ b.txt = ("1" : Str) := by
        have := List.all_eq_true.mp ne1 _ (Bd.facts (h.bd b rfl)).2.2
        simpa using this
      show ∃ z, (if (!decide (b.txt = ("1" : Str))) = true then _ else _) = some z ∧ z = joinB (X1 ++ (Str.ofString "needs" :: bw b.txt)) ∧ _
      rw [if_pos (by rw [decide_eq_false ne]; rfl), if_pos (by omega), if_pos lg, show strE (ndS (Nd.bd b)) = b.txt from rfl, if_pos (show Str.length (joinB X1 ++ (" needs " : Str)) + Str.length b.txt ≤ sizeLine by rw [app_len]; omega)]
      refine ⟨_, rfl, ?_, by show Str.length ((joinB X1 ++ (" needs " : Str)) ++ b.txt) ≤ 70; rw [app_len, app_len]; omega⟩
      have := j_bw (z := b.txt) (p := (" needs " : Str)) [Str.ofString "needs"] x1 (by simp) (by decide +kernel)
      show (joinB X1 ++ (" needs " : Str)) ++ b.txt = joinB (X1 ++ ([Str.ofString "needs"] ++ bw b.txt))
      rw [← this, empty_app, app_assoc]
  obtain ⟨q2, b2⟩ := hz
  have x2 : X1 ++ nW (ndV needs) ≠ [] := by simp [x1]
  generalize X1 ++ nW (ndV needs) = X2 at x2 q2 ⊢
  subst q2
  refine bnd_ex (Q := fun z => z = joinB (X2 ++ cW (closing.map fun p => ((p.1 : Int), p.2.txt))) ∧ z.length ≤ 110) ?_ fun z3 hz => ?_
  · cases closing with
    | none =>
      refine ⟨_, rfl, ?_, by omega⟩
      show joinB X2 = joinB (X2 ++ [])
      rw [List.append_nil]
    | some p =>
      obtain ⟨i3, bok⟩ := h.cl p.1 p.2 rfl
      have bl := btl bok
      have ts := strI_small (i := (p.1 : Int)) (by omega) (by omega)
      rw [if_pos (show (!(Option.map (fun (p : Nat × Bd) => (⟨(p.1 : Int), p.2.txt⟩ : P2 Int Str)) (some p)).isNone) = true from rfl), if_pos (by omega), Option.map_some, bnd_of rfl]
      dsimp only
      rw [if_pos (Hv.small_log (i := (p.1 : Int)) (by omega) (by omega)), if_pos (by rw [app_len]; omega), if_pos (by rw [app_len, app_len]; omega), bnd_of rfl]
      dsimp only
      rw [if_pos (by rw [app_len, app_len, app_len]; omega)]
      refine ⟨_, rfl, ?_, by rw [app_len, app_len, app_len, app_len]; omega⟩
      show _ = joinB (X2 ++ ([Str.ofString "closed", Str.ofString "after", num (p.1 : Int), Str.ofString "by"] ++ bw p.2.txt))
      rw [← j_clos x2, empty_app]
      simp only [app_assoc]
      rfl
  obtain ⟨q3, b3⟩ := hz
  have x3 : X2 ++ cW (closing.map fun p => ((p.1 : Int), p.2.txt)) ≠ [] := by simp [x2]
  generalize X2 ++ cW (closing.map fun p => ((p.1 : Int), p.2.txt)) = X3 at x3 q3 ⊢
  subst q3
  cases ends with
  | none =>
    refine ⟨_, rfl, ?_⟩
    show joinB X3 = joinB (X3 ++ [])
    rw [List.append_nil]
  | some b =>
    have bl := btl (h.en b rfl)
    rw [Option.map_some, if_neg (by simp), if_pos (by omega), bnd_of rfl, if_pos (by rw [app_len]; omega), bnd_of rfl]
    refine ⟨_, rfl, ?_⟩
    show _ = joinB (X3 ++ ([Str.ofString "ends", Str.ofString "by"] ++ bw b.txt))
    rw [← j_ends x3, empty_app, app_assoc]
end L
namespace L
open PySem L2 Hv Ev TL
set_option autoImplicit false
theorem lcO_map {α β γ : Type} {f : β → Option (Option γ)} {g : α → β} {h : α → γ} : ∀ {l : List α}, (∀ x ∈ l, f (g x) = some (some (h x))) → lcO f (l.map g) = some (l.map h)
  | [], _ => rfl
  | x :: l, e => by
    have ih := lcO_map (f := f) (g := g) (h := h) (l := l) fun y hy => e y (List.mem_cons_of_mem _ hy)
    show (f (g x)).bind (fun y => (lcO f (l.map g)).bind fun ys => some (y.toList ++ ys)) = _
    rw [e x List.mem_cons_self, ih]
    rfl
def lnk (ss : List Sr) (r : Rw) : List Str := [(ss.map (·.name)).getD r.o Str.empty, (ss.map (·.name)).getD r.i Str.empty, Hv.amtOf r]
theorem amt_len {m : Nat} {r : Rw} (h : Rw.Ok m r) : (Hv.amtOf r).length ≤ 10 := by
  obtain ⟨o, i, w, n⟩ := r
  show (Hv.amtOf ⟨0, 0, w, n⟩).length ≤ 10
  rcases h.am with ⟨q, n1, n3⟩ | ⟨q, n0⟩
  · have n1 : 1 ≤ n := n1
    have n3 : n ≤ 3 := n3
    rcases q with q | q
    · have q : w = Str.ofString "each" := q
      subst q
      rcases (show n = 1 ∨ n = 2 ∨ n = 3 by omega) with z | z | z <;> subst z <;> decide +kernel
    · have q : w = Str.ofString "all" := q
      subst q
      rcases (show n = 1 ∨ n = 2 ∨ n = 3 by omega) with z | z | z <;> subst z <;> decide +kernel
  · have n0 : n = 0 := n0
    subst n0
    rcases q with q | q
    · have q : w = Str.ofString "again" := q
      subst q
      decide +kernel
    · have q : w = Str.ofString "free" := q
      subst q
      decide +kernel
theorem nm_len {ss : List Sr} {rs : List Rw} (p : PlanOk 6 ss rs) {k : Nat} (hk : k < ss.length) : ((ss.map (·.name)).getD k Str.empty).length ≤ 8 := by
  rw [List.getD_eq_getElem?_getD, List.getElem?_map, List.getElem?_eq_getElem hk]
  exact name_len (p.nm.2 _ (List.getElem_mem hk))
theorem lines_eq9 {ss : List Sr} {rs : List Rw} (p : PlanOk 6 ss rs) (ok : ∀ s ∈ ss, SrOk s) : fn_lines ⟨ss.map srT, rs.map (lnk ss)⟩ = some (linesR (ss.map kdOf) (rs.map (rowOf ss))) := by
  have s6 : ss.length ≤ 6 := p.mst
  have rl : rs.length ≤ 36 := Nat.le_trans p.rl (Nat.le_trans (Nat.mul_le_mul s6 s6) (by decide))
  have s1 : (1000 : Nat) ≤ sizeLine := by decide
  have lu : ("under " : Str).length = 6 := by decide +kernel
  have lb : (" " : Str).length = 1 := by decide +kernel
  unfold fn_lines
  dsimp only
  rw [if_pos (by rw [List.length_map]; omega), bnd_of (lcO_map (h := fun s => lineK (kdOf s)) fun s hs => by rw [bnd_of (kline_eq (ok s hs))]), if_pos (by rw [List.length_map]; omega)]
  rw [bnd_of (lcO_map (h := fun r => lineR ((ss.map (·.name)).getD r.o Str.empty) ((ss.map (·.name)).getD r.i Str.empty) (Hv.amtOf r)) fun r hr => ?_), if_pos (by rw [List.length_map, List.length_map]; omega)]
  · unfold linesR
    rw [List.map_map, List.map_map]
    rfl
  · have ro := p.rw r hr
    have a1 := nm_len p ro.ol
    have a2 := nm_len p ro.il
    have a3 := amt_len ro
    have j1 : joinB [(ss.map (·.name)).getD r.o Str.empty, (ss.map (·.name)).getD r.i Str.empty, Hv.amtOf r] = (ss.map (·.name)).getD r.o Str.empty ++ (BLANK ++ ((ss.map (·.name)).getD r.i Str.empty ++ (BLANK ++ Hv.amtOf r))) := by rw [joinB_cons, joinB_cons, joinB_one]
    have lB : BLANK.length = 1 := by decide +kernel
    have e : PySem.Txt.join (" " : Str) (lnk ss r) = joinB [(ss.map (·.name)).getD r.o Str.empty, (ss.map (·.name)).getD r.i Str.empty, Hv.amtOf r] := rfl
    rw [if_pos (by
      unfold lnk
      simp only [List.map_cons, List.map_nil, List.sum_cons, List.sum_nil, List.length_cons, List.length_nil]
      omega), e, if_pos (by rw [j1, app_len, app_len, app_len, app_len]; omega)]
    have eu : ("under " : Str) = Str.ofString "under" ++ BLANK := by decide +kernel
    unfold lineR
    rw [show joinB [Str.ofString "under", (ss.map (·.name)).getD r.o Str.empty, (ss.map (·.name)).getD r.i Str.empty, Hv.amtOf r] = Str.ofString "under" ++ (BLANK ++ joinB [(ss.map (·.name)).getD r.o Str.empty, (ss.map (·.name)).getD r.i Str.empty, Hv.amtOf r]) from joinB_cons, eu, app_assoc]
end L
namespace L
open PySem L2 Hv Ev TL
set_option autoImplicit false
theorem seen_eq9 {R : Rules} {ss : List Sr} {rs : List Rw} (p : PlanOk 6 ss rs) (md : R.made = ⟨⟨ss.map kE⟩, ⟨(rs.map (rowOf ss)).map rE⟩⟩) : fn_seen R = some ⟨ss.map srT, rs.map (lnk ss), true⟩ := by
  have s6 : ss.length ≤ 6 := p.mst
  have rl : rs.length ≤ 36 := Nat.le_trans p.rl (Nat.le_trans (Nat.mul_le_mul s6 s6) (by decide))
  have s1 : (1000 : Nat) ≤ sizeLine := by decide
  have e1 : (Ev.Rules.kinds R).l = ss.map kE := by
    show R.made.a.l = _
    rw [md]
  have e2 : (Ev.Rules.rows R).l = (rs.map (rowOf ss)).map rE := by
    show R.made.b.l = _
    rw [md]
  unfold fn_seen
  rw [e1, e2, if_pos (by rw [List.length_map]; omega), if_pos (by rw [List.length_map, List.length_map]; omega), List.map_map, List.map_map, List.map_map]
  rfl
end L
namespace L
open PySem L2 Hv Ev TL
set_option autoImplicit false
structure FD (x : D) (m n : Nat) : Prop where
  d : x.isData = true
  f : Fit x.py m n
theorem FD.mono {x : D} {m n m' n' : Nat} (h : FD x m n) (a : m ≤ m') (b : n ≤ n') : FD x m' n' := ⟨h.d, h.f.mono a b⟩
theorem fd_all {m n : Nat} : ∀ (l : List D), (∀ x ∈ l, FD x m n) → allData l = true ∧ FitAll (pys l) m (l.length * (n + 1))
  | [], _ => ⟨rfl, FitAll.nil⟩
  | x :: l, h => by
    obtain ⟨i1, i2⟩ := fd_all l fun y hy => h y (List.mem_cons_of_mem _ hy)
    have h1 := h x List.mem_cons_self
    refine ⟨?_, ?_⟩
    · show (x.isData && allData l) = true
      rw [h1.d, i1]
      rfl
    · have := FitAll.cons h1.f i2
      rw [List.length_cons, Nat.succ_mul, Nat.add_comm (l.length * (n + 1))]
      exact this
theorem FD.lst {m n : Nat} {l : List D} (h : ∀ x ∈ l, FD x m n) : FD (.lst l) (m + 1) (l.length * (n + 1)) := by
  obtain ⟨h1, h2⟩ := fd_all l h
  exact ⟨h1, Fit.list h2⟩
theorem FD.tup {m n : Nat} {l : List D} (h : ∀ x ∈ l, FD x m n) : FD (.tup l) (m + 1) (l.length * (n + 1)) := by
  obtain ⟨h1, h2⟩ := fd_all l h
  exact ⟨h1, Fit.tuple h2⟩
theorem FD.str {z : Str} {m n : Nat} (h : PyData.strOk z = true) (hl : z.length ≤ n) : FD (.str z) m n := ⟨rfl, Fit.str h hl⟩
theorem FD.int {i : Int} {m n : Nat} (h0 : 0 ≤ i) (h1 : i ≤ 100) : FD (.int i) m n := ⟨rfl, Fit.int (Hv.small_log (by omega) (by omega))⟩
theorem bl_strs : BL.all (fun z => PyData.strOk z) = true := by decide +kernel
theorem fd_bd {b : Bd} (h : b.Ok) {m : Nat} : FD (.str b.txt) m 11 := FD.str (List.all_eq_true.mp bl_strs _ (Bd.facts h).2.2) (btl h)
theorem fd_kind {s : Sr} (h : SrOk s) : FD (toD (srT s)) 2 130 := by
  have nm := (menu_nm _ h.name).2.1
  have nl := name_len h.name
  have t3 := h.talks
  have key : ∀ x ∈ ([.str s.name, .int (s.talks : Int), toD (ndS s.needs), toD (s.closing.map fun p => (⟨(p.1 : Int), p.2.txt⟩ : P2 Int Str)), toD (s.ends.map Bd.txt)] : List D), FD x 1 25 := fun x hx => by
    simp only [List.mem_cons, List.not_mem_nil, or_false] at hx
    rcases hx with rfl | rfl | rfl | rfl | rfl
    · exact FD.str nm (by omega)
    · exact FD.int (by omega) (by omega)
    · cases e : s.needs with
      | cnt n =>
        have := h.cnt n e
        exact FD.int (i := (n : Int)) (by omega) (by omega)
      | bd b => exact (fd_bd (h.bd b e) (m := 1)).mono (by decide) (by decide)
    · cases e : s.closing with
      | none => exact ⟨rfl, Fit.none⟩
      | some p =>
        obtain ⟨i3, bok⟩ := h.cl p.1 p.2 e
        refine (FD.tup (m := 0) (n := 11) (l := [.int (p.1 : Int), .str p.2.txt]) fun y hy => ?_).mono (by decide) (show 2 * 12 ≤ 25 by decide)
        simp only [List.mem_cons, List.not_mem_nil, or_false] at hy
        rcases hy with rfl | rfl
        · exact FD.int (by omega) (by omega)
        · exact fd_bd bok
    · cases e : s.ends with
      | none => exact ⟨rfl, Fit.none⟩
      | some b => exact (fd_bd (h.en b e) (m := 1)).mono (by decide) (by decide)
  exact FD.lst key
theorem fd_link {ss : List Sr} {rs : List Rw} (p : PlanOk 6 ss rs) {r : Rw} (hr : r ∈ rs) : FD (toD (lnk ss r)) 1 33 := by
  have ro := p.rw r hr
  have nmk : ∀ k, k < ss.length → nameOk ((ss.map (·.name)).getD k Str.empty) = true := fun k hk => by
    rw [List.getD_eq_getElem?_getD, List.getElem?_map, List.getElem?_eq_getElem hk]
    exact p.nm.2 _ (List.getElem_mem hk)
  have as : PyData.strOk (Hv.amtOf r) = true := by
    obtain ⟨o, i, w, n⟩ := r
    show PyData.strOk (Hv.amtOf ⟨0, 0, w, n⟩) = true
    rcases ro.am with ⟨q, n1, n3⟩ | ⟨q, n0⟩
    · have n1 : 1 ≤ n := n1
      have n3 : n ≤ 3 := n3
      rcases q with q | q
      · have q : w = Str.ofString "each" := q
        subst q
        rcases (show n = 1 ∨ n = 2 ∨ n = 3 by omega) with z | z | z <;> subst z <;> decide +kernel
      · have q : w = Str.ofString "all" := q
        subst q
        rcases (show n = 1 ∨ n = 2 ∨ n = 3 by omega) with z | z | z <;> subst z <;> decide +kernel
    · have n0 : n = 0 := n0
      subst n0
      rcases q with q | q
      · have q : w = Str.ofString "again" := q
        subst q
        decide +kernel
      · have q : w = Str.ofString "free" := q
        subst q
        decide +kernel
  refine FD.lst (m := 0) (n := 10) (l := (lnk ss r).map toD) fun x hx => ?_
  obtain ⟨z, hz, rfl⟩ := List.mem_map.mp hx
  unfold lnk at hz
  simp only [List.mem_cons, List.not_mem_nil, or_false] at hz
  rcases hz with rfl | rfl | rfl
  · exact FD.str (menu_nm _ (nmk _ ro.ol)).2.1 (Nat.le_trans (nm_len p ro.ol) (by decide))
  · exact FD.str (menu_nm _ (nmk _ ro.il)).2.1 (Nat.le_trans (nm_len p ro.il) (by decide))
  · exact FD.str as (amt_len ro)
theorem fd_book {ss : List Sr} {rs : List Rw} (p : PlanOk 6 ss rs) (ok : ∀ s ∈ ss, SrOk s) : FD (toD (⟨ss.map srT, rs.map (lnk ss), true⟩ : Q3 (List Q5T) (List (List Str)) Bool)) 4 5000 := by
  have s6 : ss.length ≤ 6 := p.mst
  have rl : rs.length ≤ 36 := Nat.le_trans p.rl (Nat.le_trans (Nat.mul_le_mul s6 s6) (by decide))
  refine (FD.lst (m := 3) (n := 1300) (l := [toD (ss.map srT), toD (rs.map (lnk ss)), .bl true]) fun x hx => ?_).mono (by decide) (show 3 * 1301 ≤ 5000 by decide)
  simp only [List.mem_cons, List.not_mem_nil, or_false] at hx
  rcases hx with rfl | rfl | rfl
  · refine (FD.lst (m := 2) (n := 130) (l := (ss.map srT).map toD) fun y hy => ?_).mono (by decide) (by rw [List.length_map, List.length_map]; omega)
    obtain ⟨q, hq, rfl⟩ := List.mem_map.mp hy
    obtain ⟨s, hs, rfl⟩ := List.mem_map.mp hq
    exact fd_kind (ok s hs)
  · refine (FD.lst (m := 2) (n := 33) (l := (rs.map (lnk ss)).map toD) fun y hy => ?_).mono (by decide) (by rw [List.length_map, List.length_map]; omega)
    obtain ⟨q, hq, rfl⟩ := List.mem_map.mp hy
    obtain ⟨r, hr, rfl⟩ := List.mem_map.mp hq
    exact (fd_link p hr).mono (by decide) (by decide)
  · exact ⟨rfl, Fit.bool⟩
end L
namespace L
open PySem L2 Hv Ev TL
set_option autoImplicit false
theorem sum_le (N : Nat) : ∀ {l : List Str}, (∀ z ∈ l, z.length ≤ N) → (List.map (fun x => Str.length x) l).sum ≤ N * l.length
  | [], _ => Nat.le_refl _
  | z :: l, h => by
    have := sum_le N (l := l) fun x hx => h x (List.mem_cons_of_mem _ hx)
    have := h z List.mem_cons_self
    rw [List.map_cons, List.sum_cons, List.length_cons, Nat.mul_succ]
    omega
theorem init_text9 {ss : List Sr} {rs : List Rw} (h : PlanOk 6 ss rs) (ok : ∀ s ∈ ss, SrOk s) (rul : RulOk (ss.map kE) ((rs.map (rowOf ss)).map rE)) : ∃ R, fn_Rules_init ⟨ss.map kE⟩ ⟨(rs.map (rowOf ss)).map rE⟩ = some R ∧ R.text = textR (ss.map kdOf) (rs.map (rowOf ss)) := by
  have mn := plan_menu h
  obtain ⟨R, eR, mR, z1, z2, t1, t2, _, tR⟩ := rules_eqT rul
  refine ⟨R, eR, ?_⟩
  · have u1 : z1 = (ss.map kdOf).map lineK := by
      have : lcO (fun x => (fn_line_of_kind x).bind fun r => some (some r)) (ss.map kE) = some ((ss.map kE).map fun x => (fn_line_of_kind x).getD Str.empty) := lcO_all fun x hx => by
        obtain ⟨s, hs, rfl⟩ := List.mem_map.mp hx
        rw [line_kE (ok s hs) (mn s hs)]
        rfl
      rw [t1] at this
      rw [Option.some.inj this, List.map_map, List.map_map]
      refine List.map_congr_left fun s hs => ?_
      show (fn_line_of_kind (kE s)).getD Str.empty = lineK (kdOf s)
      rw [line_kE (ok s hs) (mn s hs)]
      rfl
    have u2 : z2 = (rs.map (rowOf ss)).map fun r => lineR r.1 r.2.1 r.2.2 := by
      have lr : ∀ q ∈ rs.map (rowOf ss), fn_line_of_row (rE q) = some (lineR q.1 q.2.1 q.2.2) := fun q hq => by
        obtain ⟨z, ez, _⟩ := line_row_eq (rul.rw (rE q) (List.mem_map.mpr ⟨q, hq, rfl⟩))
        rw [ez, row_val ez]
      have : lcO (fun x => (fn_line_of_row x).bind fun r => some (some r)) ((rs.map (rowOf ss)).map rE) = some (((rs.map (rowOf ss)).map rE).map fun x => (fn_line_of_row x).getD Str.empty) := lcO_all fun x hx => by
        obtain ⟨q, hq, rfl⟩ := List.mem_map.mp hx
        rw [lr q hq]
        rfl
      rw [t2] at this
      rw [Option.some.inj this, List.map_map]
      refine List.map_congr_left fun q hq => ?_
      show (fn_line_of_row (rE q)).getD Str.empty = _
      rw [lr q hq]
      rfl
    rw [tR, u1, u2]
    rfl
/-- a planned book is read back -/
theorem back_eq9 {ss : List Sr} {rs : List Rw} (p : PlanOk 6 ss rs) (ok : ∀ s ∈ ss, SrOk s) : ∃ R, fn_back ⟨ss.map srT, rs.map (lnk ss)⟩ = some (some R) ∧ R.text = textR (ss.map kdOf) (rs.map (rowOf ss)) := by
  obtain ⟨R, e1, md, tx, rul⟩ := read_eqT p ok
  have s6 : ss.length ≤ 6 := p.mst
  have rl : rs.length ≤ 36 := Nat.le_trans p.rl (Nat.le_trans (Nat.mul_le_mul s6 s6) (by decide))
  have ln : (linesR (ss.map kdOf) (rs.map (rowOf ss))).length ≤ 42 := by
    unfold linesR
    rw [List.length_append, List.length_map, List.length_map, List.length_map, List.length_map]
    omega
  have ll : ∀ z ∈ linesR (ss.map kdOf) (rs.map (rowOf ss)), z.length ≤ 1000 := fun z hz => by
    unfold linesR at hz
    rcases List.mem_append.mp hz with q | q
    · obtain ⟨k, hk, rfl⟩ := List.mem_map.mp q
      obtain ⟨s, hs, rfl⟩ := List.mem_map.mp hk
      obtain ⟨z, e, l⟩ := line_kind_eq (kE_ok (ok s hs) (ok s hs).name)
      rw [line_val e] at l
      exact l
    · obtain ⟨t, ht, rfl⟩ := List.mem_map.mp q
      obtain ⟨r, hr, rfl⟩ := List.mem_map.mp ht
      have ro := p.rw r hr
      have a1 := nm_len p ro.ol
      have a2 := nm_len p ro.il
      have a3 := amt_len ro
      have lB : BLANK.length = 1 := by decide +kernel
      have lu : (Str.ofString "under").length = 5 := by decide +kernel
      show (lineR ((ss.map (·.name)).getD r.o Str.empty) ((ss.map (·.name)).getD r.i Str.empty) (Hv.amtOf r)).length ≤ 1000
      unfold lineR
      rw [joinB_cons, joinB_cons, joinB_cons, joinB_one]
      simp only [app_len]
      omega
  have ls := sum_le 1000 ll
  have l1 : ("\n" : Str).length = 1 := by decide +kernel
  have e0 : PySem.Txt.join ("\n" : Str) (linesR (ss.map kdOf) (rs.map (rowOf ss))) = textR (ss.map kdOf) (rs.map (rowOf ss)) := rfl
  have F := fd_book p ok
  have sh := shOk_of F.d F.f (by decide) (by decide)
  obtain ⟨R2, e2, t2⟩ := init_text9 p ok rul
  have tf := text_facts (plan_kinds p ok) (plan_rows p) (plan_36 p)
  have s4 : (40000 : Nat) ≤ sizeLine := by decide
  have er : fn_rules ⟨ss.map srT, rs.map (lnk ss)⟩ = some R2 := by
    have s1 : (1000 : Nat) ≤ sizeLine := by decide
    unfold fn_rules
    dsimp only
    rw [if_pos (by rw [List.length_map]; omega), bnd_of (lcO_map (h := kE) fun s hs => by rw [bnd_of (show fn_Kind_init (srT s).a (srT s).b (srT s).c (srT s).d (srT s).e = some (kE s) from kind_eq (rul.kd (kE s) (List.mem_map.mpr ⟨s, hs, rfl⟩)))]), if_pos (by rw [List.length_map]; omega)]
    rw [bnd_of (lcO_map (h := fun r => rE (rowOf ss r)) fun r hr => by
      rw [bnd_of (show atI (lnk ss r) (0 : Int) = some _ from at_n (n := 0) rfl), bnd_of (show atI (lnk ss r) (1 : Int) = some _ from at_n (n := 1) rfl), bnd_of (show atI (lnk ss r) (2 : Int) = some _ from at_n (n := 2) rfl), bnd_of (show fn_Row_init ((ss.map (·.name)).getD r.o Str.empty) ((ss.map (·.name)).getD r.i Str.empty) (Hv.amtOf r) = some (rE (rowOf ss r)) from row_eq (rul.rw (rE (rowOf ss r)) (List.mem_map.mpr ⟨rowOf ss r, List.mem_map.mpr ⟨r, hr, rfl⟩, rfl⟩)))])]
    rw [show rs.map (fun r => rE (rowOf ss r)) = (rs.map (rowOf ss)).map rE by rw [List.map_map]; rfl, bnd_of e2]
  have st : ∀ Q : Rules, Q.text = textR (ss.map kdOf) (rs.map (rowOf ss)) → fn_Rules_str Q = some (textR (ss.map kdOf) (rs.map (rowOf ss))) := fun Q hQ => by
    unfold fn_Rules_str
    rw [hQ, if_pos (Nat.le_trans tf.2.1 s4)]
  have eq : ∀ Q Q' : Rules, Q.text = textR (ss.map kdOf) (rs.map (rowOf ss)) → Q'.text = textR (ss.map kdOf) (rs.map (rowOf ss)) → fn_Rules_eq Q Q' = some true := fun Q Q' h1 h2 => by
    unfold fn_Rules_eq
    rw [h1, h2, decide_eq_true rfl]
    rfl
  refine ⟨R, ?_, tx⟩
  unfold fn_back
  rw [bnd_of (lines_eq9 p ok), if_pos (by rw [l1]; omega), e0, bnd_of e1]
  rw [bnd_of (x := false) (by
    rw [if_neg (by decide), bnd_of (seen_eq9 p md), if_pos sh]
    refine (if_pos ?_).trans ?_
    · exact sh
    · exact congrArg (fun b => some (!b)) (decide_eq_true rfl)), if_neg (by decide), bnd_of (st R tx)]
  rw [bnd_of (x := false) (by
    rw [if_neg (by rw [decide_eq_true rfl]; decide), bnd_of er, bnd_of (eq R R2 tx t2), bnd_of (x := false) (by rw [if_neg (by decide), bnd_of er, bnd_of (st R2 t2), decide_eq_true rfl]; rfl)]), if_neg (by decide), bnd_of (st R tx), bnd_of e1, bnd_of (eq R R tx tx), if_pos rfl]
end L
namespace L
open PySem L2 Hv Ev TL
set_option autoImplicit false
theorem pys_strs : ∀ l : List Str, pys (l.map toD) = l.map PyData.str
  | [] => rfl
  | z :: l => congrArg (PyData.str z :: ·) (pys_strs l)
theorem dEq_strs (l m : List Str) : dEq (toD l) (toD m) = decide (l = m) := by
  show PyData.eqv (.list (pys (l.map toD))) (.list (pys (m.map toD))) = _
  rw [pys_strs, pys_strs]
  exact eqv_strs l m
/-- the text of planned rules tells their lines -/
theorem text_inj9 {ss ss' : List Sr} {rs rs' : List Rw} (p : PlanOk 6 ss rs) (ok : ∀ s ∈ ss, SrOk s) (p' : PlanOk 6 ss' rs') (ok' : ∀ s ∈ ss', SrOk s) : textR (ss.map kdOf) (rs.map (rowOf ss)) = textR (ss'.map kdOf) (rs'.map (rowOf ss')) ↔ linesR (ss.map kdOf) (rs.map (rowOf ss)) = linesR (ss'.map kdOf) (rs'.map (rowOf ss')) := by
  have h1 : PySem.Txt.split (textR (ss.map kdOf) (rs.map (rowOf ss))) ("\n" : Str) = _ := split_text (plan_kinds p ok) (plan_rows p)
  have h2 : PySem.Txt.split (textR (ss'.map kdOf) (rs'.map (rowOf ss'))) ("\n" : Str) = _ := split_text (plan_kinds p' ok') (plan_rows p')
  constructor
  · intro e
    rw [← h1, ← h2, e]
  · intro e
    unfold textR
    rw [e]
end L
namespace L
open PySem L2 Hv Ev TL
set_option autoImplicit false
theorem fd_lines {ss : List Sr} {rs : List Rw} (p : PlanOk 6 ss rs) (ok : ∀ s ∈ ss, SrOk s) : ∃ n, FD (toD (linesR (ss.map kdOf) (rs.map (rowOf ss)))) 1 n := by
  have sg := lines_signs (plan_kinds p ok) (plan_rows p)
  have ll := lines_len (plan_kinds p ok) (plan_rows p)
  refine ⟨_, FD.lst (m := 0) (n := 150) (l := (linesR (ss.map kdOf) (rs.map (rowOf ss))).map toD) fun x hx => ?_⟩
  obtain ⟨z, hz, rfl⟩ := List.mem_map.mp hx
  exact FD.str (strOk_of fun c hc => (sg z hz c hc).2) (ll z hz)
/-- two planned books, read back -/
theorem right_of9 {w w1 w2 : Q3 Int Int Int} {l : List Str} {ss ss' : List Sr} {rs rs' : List Rw} (e1 : fn_book w l = some (⟨ss.map srT, rs.map (lnk ss)⟩, w1)) (e2 : fn_other w1 ⟨ss.map srT, rs.map (lnk ss)⟩ l = some (⟨ss'.map srT, rs'.map (lnk ss')⟩, w2))
    (p : PlanOk 6 ss rs) (ok : ∀ s ∈ ss, SrOk s) (p' : PlanOk 6 ss' rs') (ok' : ∀ s ∈ ss', SrOk s) : fn_right w l = some (true, w2) := by
  obtain ⟨R, b1, t1⟩ := back_eq9 p ok
  obtain ⟨R', b2, t2⟩ := back_eq9 p' ok'
  obtain ⟨n1, f1⟩ := fd_lines p ok
  obtain ⟨n2, f2⟩ := fd_lines p' ok'
  have s4 : (40000 : Nat) ≤ sizeLine := by decide
  have tf := text_facts (plan_kinds p ok) (plan_rows p) (plan_36 p)
  have tf' := text_facts (plan_kinds p' ok') (plan_rows p') (plan_36 p')
  have st : fn_Rules_str R = some (textR (ss.map kdOf) (rs.map (rowOf ss))) := by
    unfold fn_Rules_str
    rw [t1, if_pos (Nat.le_trans tf.2.1 s4)]
  have st' : fn_Rules_str R' = some (textR (ss'.map kdOf) (rs'.map (rowOf ss'))) := by
    unfold fn_Rules_str
    rw [t2, if_pos (Nat.le_trans tf'.2.1 s4)]
  have eq : fn_Rules_eq R R' = some (decide (textR (ss.map kdOf) (rs.map (rowOf ss)) = textR (ss'.map kdOf) (rs'.map (rowOf ss')))) := by
    unfold fn_Rules_eq
    rw [t1, t2, Bool.true_and]
  have sh : EqOk (toD (linesR (ss.map kdOf) (rs.map (rowOf ss)))) (toD (linesR (ss'.map kdOf) (rs'.map (rowOf ss')))) := by
    unfold EqOk
    rw [f1.d, f2.d, f1.f.shaped (by decide), f2.f.shaped (by decide)]
    rfl
  unfold fn_right
  rw [bnd_of e1]
  dsimp only
  rw [bnd_of e2]
  dsimp only
  rw [bnd_of b1, bnd_of b2, if_neg (fun z => by cases z), bnd_of rfl, bnd_of rfl, bnd_of eq, bnd_of (lines_eq9 p ok), bnd_of (lines_eq9 p' ok'), if_pos sh, dEq_strs, decide_eq_decide.mpr (text_inj9 p ok p' ok'), if_pos (decide_eq_true rfl)]
  rw [bnd_of (x := true) (by rw [bnd_of rfl, bnd_of rfl, bnd_of eq, bnd_of rfl, bnd_of st, bnd_of rfl, bnd_of st', decide_eq_true rfl])]
end L
namespace Hv
open PySem L2 Ev TL
set_option autoImplicit false
abbrev SIGNS : Str := Str.ofString "abcdefghijklmnopqrstuvwxyz0123456789"
theorem signs_let : ∀ j < 26, ∃ c, SIGNS.cps.toList[j]? = some c ∧ c ∈ LETS.cps.toList := by decide +kernel
theorem signs_ok : ∀ j < 36, ∃ c, SIGNS.cps.toList[j]? = some c ∧ signOk c = true := by decide +kernel
/-- the beginning of a name -/
def Tag (z : Str) (n : Nat) : Prop := z.length = n ∧ ∃ c cs, z.cps.toList = c :: cs ∧ c ∈ LETS.cps.toList ∧ (c :: cs).all signOk = true
theorem tag_one {c : Nat} (h : c ∈ LETS.cps.toList) : Tag ⟨#[c]⟩ 1 := by
  refine ⟨rfl, c, [], rfl, h, ?_⟩
  have : signOk c = true := by
    unfold signOk
    rw [decide_eq_true h]
    rfl
  simp [this]
theorem app_cps (a b : Str) : (a ++ b).cps.toList = a.cps.toList ++ b.cps.toList := by
  show (a.cps ++ b.cps).toList = _
  simp
theorem Tag.more {z : Str} {n c : Nat} (h : Tag z n) (hc : signOk c = true) : Tag (z ++ ⟨#[c]⟩) (n + 1) := by
  obtain ⟨h1, d, cs, h2, h3, h4⟩ := h
  refine ⟨by rw [Str.length_append, h1]; rfl, d, cs ++ [c], by rw [app_cps, h2]; rfl, h3, ?_⟩
  rw [← List.cons_append, List.all_append, h4]
  simp [hc]
theorem Tag.ok {z : Str} {n : Nat} (h : Tag z n) (hn : n ≤ 8) : nameOk z = true := by
  obtain ⟨h1, d, cs, h2, h3, h4⟩ := h
  unfold nameOk
  rw [h2]
  dsimp only
  rw [decide_eq_true (show z.length ≤ 8 by omega), decide_eq_true h3, h4]
  rfl
theorem Tag.of {z : Str} (h : nameOk z = true) : Tag z z.length ∧ z.length ≤ 8 := by
  unfold nameOk at h
  cases e : z.cps.toList with
  | nil => rw [e] at h; cases h
  | cons c cs =>
    rw [e] at h
    simp only [Bool.and_eq_true, decide_eq_true_eq] at h
    exact ⟨⟨rfl, c, cs, e, h.1.2, h.2⟩, h.1.1⟩
theorem cut_to (z : Str) (k : Nat) : (cutS z none (some (k : Int))).cps.toList = z.cps.toList.take k := by
  show ((z.cps.toList.drop (HT.sIx z.length 0 none)).take (HT.sIx z.length z.length (some (k : Int)) - HT.sIx z.length 0 none)) = _
  rw [HT.sIx_none, HT.sIx_nat, List.drop_zero, Nat.sub_zero, ← str_len z]
  by_cases h : k ≤ z.cps.toList.length
  · rw [Nat.min_eq_left h]
  · rw [Nat.min_eq_right (by omega), List.take_of_length_le (Nat.le_refl _), List.take_of_length_le (by omega)]
theorem cut_from (z : Str) (k : Nat) : (cutS z (some (k : Int)) none).cps.toList = z.cps.toList.drop k := by
  show ((z.cps.toList.drop (HT.sIx z.length 0 (some (k : Int)))).take (HT.sIx z.length z.length none - HT.sIx z.length 0 (some (k : Int)))) = _
  rw [HT.sIx_none, HT.sIx_nat, ← str_len z]
  by_cases h : k ≤ z.cps.toList.length
  · rw [Nat.min_eq_left h, List.take_of_length_le (by simp)]
  · rw [Nat.min_eq_right (by omega), List.drop_of_length_le (Nat.le_refl _), List.drop_of_length_le (by omega)]
    simp
theorem len_tl (z : Str) : z.length = z.cps.toList.length := (str_len z).symm
/-- a name with a letter put in the place of a sign -/
theorem Tag.swap {z : Str} {n k c : Nat} (h : Tag z n) (hk : k < n) (hc : c ∈ LETS.cps.toList) : Tag (cutS z none (some (k : Int)) ++ ⟨#[c]⟩ ++ cutS z (some ((k : Int) + 1)) none) n := by
  obtain ⟨h1, d, cs, h2, h3, h4⟩ := h
  have sc : signOk c = true := by unfold signOk; rw [decide_eq_true hc]; rfl
  have hl : (d :: cs).length = n := by rw [← h2, ← len_tl]; exact h1
  have e : (cutS z none (some (k : Int)) ++ ⟨#[c]⟩ ++ cutS z (some ((k : Int) + 1)) none).cps.toList = (d :: cs).take k ++ [c] ++ (d :: cs).drop (k + 1) := by
    rw [app_cps, app_cps, cut_to, show ((k : Int) + 1) = ((k + 1 : Nat) : Int) from rfl, cut_from, h2]
  have ha : ((d :: cs).take k ++ [c] ++ (d :: cs).drop (k + 1)).all signOk = true := by
    rw [List.all_eq_true] at h4 ⊢
    intro x hx
    simp only [List.mem_append, List.mem_singleton] at hx
    rcases hx with (hx | hx) | hx
    · exact h4 x (List.mem_of_mem_take hx)
    · rw [hx]; exact sc
    · exact h4 x (List.mem_of_mem_drop hx)
  refine ⟨?_, ?_⟩
  · rw [len_tl, e]
    simp at hl ⊢
    omega
  · cases k with
    | zero => exact ⟨c, _, e, hc, ha⟩
    | succ k => exact ⟨d, _, e, h3, ha⟩
/-- the beginning of a name -/
theorem Tag.front {z : Str} {n k : Nat} (h : Tag z n) (hk : k < n) : Tag (cutS z none (some ((k : Int) + 1))) (k + 1) := by
  obtain ⟨h1, d, cs, h2, h3, h4⟩ := h
  have hl : (d :: cs).length = n := by rw [← h2, ← len_tl]; exact h1
  have e : (cutS z none (some ((k : Int) + 1))).cps.toList = d :: cs.take k := by
    rw [show ((k : Int) + 1) = ((k + 1 : Nat) : Int) from rfl, cut_to, h2]
    rfl
  refine ⟨?_, d, _, e, h3, ?_⟩
  · rw [len_tl, e]
    simp at hl ⊢
    omega
  · rw [List.all_eq_true] at h4 ⊢
    intro x hx
    rcases List.mem_cons.mp hx with rfl | hx
    · exact h4 _ List.mem_cons_self
    · exact h4 x (List.mem_cons_of_mem _ (List.mem_of_mem_take hx))
theorem Tag.first {z : Str} {n : Nat} (h : Tag z n) : ∃ c, atI z.cps.toList 0 = some c ∧ c ∈ LETS.cps.toList := by
  obtain ⟨h1, d, cs, h2, h3, h4⟩ := h
  exact ⟨d, by rw [h2]; exact atI_zero d cs, h3⟩
theorem sub_len {α : Type} [DecidableEq α] : ∀ (l m : List α), l.Nodup → (∀ x ∈ l, x ∈ m) → l.length ≤ m.length
  | [], m, _, _ => Nat.zero_le _
  | x :: l, m, h1, h2 => by
    rw [List.nodup_cons] at h1
    have hx := h2 x List.mem_cons_self
    have ih := sub_len l (m.erase x) h1.2 fun y hy => (List.mem_erase_of_ne (fun q => h1.1 (by rw [← q]; exact hy))).mpr (h2 y (List.mem_cons_of_mem _ hy))
    rw [List.length_erase_of_mem hx] at ih
    have := List.length_pos_of_mem hx
    rw [List.length_cons]
    omega
def SPARE : List Str := [Str.ofString "x", Str.ofString "x0", Str.ofString "x1", Str.ofString "x2", Str.ofString "x3", Str.ofString "x4"]
theorem spare_nodup : SPARE.Nodup := by decide +kernel
theorem spare_ok : ∀ z ∈ SPARE, nameOk z = true ∧ z.length ≤ 8 := by decide +kernel
def spareOf (zs : List Str) (i : Nat) : List Str := (SPARE.take i).filter fun z => !decide (z ∈ zs)
theorem spare_some {zs : List Str} (h : zs.length < 6) : ∃ z l, spareOf zs 6 = z :: l ∧ z ∉ zs ∧ nameOk z = true ∧ z.length ≤ 8 := by
  cases e : spareOf zs 6 with
  | nil =>
    have : SPARE.length ≤ zs.length := sub_len SPARE zs spare_nodup fun x hx => by
      have := List.filter_eq_nil_iff.mp e x (by rw [List.take_of_length_le (by decide)]; exact hx)
      simpa using this
    have l6 : SPARE.length = 6 := rfl
    omega
  | cons z l =>
    have hz : z ∈ spareOf zs 6 := by rw [e]; exact List.mem_cons_self
    obtain ⟨h1, h2⟩ := List.mem_filter.mp hz
    have h3 := spare_ok z (List.mem_of_mem_take h1)
    exact ⟨z, l, rfl, by simpa using h2, h3.1, h3.2⟩
/-- the names of a drawn list -/
structure Names (zs : List Str) : Prop where
  ok : ∀ z ∈ zs, nameOk z = true ∧ z.length ≤ 8
  nd : zs.Nodup
theorem Names.app {zs : List Str} {z : Str} (h : Names zs) (h1 : nameOk z = true) (h2 : z.length ≤ 8) (h3 : z ∉ zs) : Names (zs ++ [z]) := by
  refine ⟨fun x hx => ?_, ?_⟩
  · rcases List.mem_append.mp hx with q | q
    · exact h.ok x q
    · rw [List.mem_singleton.mp q]
      exact ⟨h1, h2⟩
  · rw [List.nodup_append]
    refine ⟨h.nd, by simp, ?_⟩
    intro a ha b hb
    rw [List.mem_singleton.mp hb]
    exact fun q => h3 (q ▸ ha)
end Hv
namespace L
open PySem L2 Hv Ev TL
set_option autoImplicit false
/-! ### drawn names -/
theorem sg_ok {r : Nat} {c : Nat} (h : SIGNS.cps.toList[r]? = some c) : sgAt ("abcdefghijklmnopqrstuvwxyz0123456789" : Str) (r : Int) = some ⟨c⟩ := by
  unfold sgAt
  rw [if_pos (show (SIGNS : Str).length ≤ sizeLine by decide +kernel), show atI (SIGNS : Str).cps.toList (r : Int) = some c from at_n h]
  rfl
theorem tag_eq {n : Int} {w : Q3 Int Int Int} (W : WB n w) (hn : n < 900000) : ∃ r, fn_tag w = some r ∧ nameOk r.1 = true ∧ WB (n + 10) r.2 := by
  obtain ⟨r1, w1, e1, a0, a1, i1⟩ := take_eq (m := 26) W (by omega) (by decide) (by decide)
  obtain ⟨r1, rfl⟩ := Int.eq_ofNat_of_zero_le a0
  obtain ⟨c, hc, hl⟩ := signs_let r1 (by omega)
  obtain ⟨r2, w2, e2, b0, b1, i2⟩ := take_eq (m := 8) i1 (by omega) (by decide) (by decide)
  obtain ⟨r2, rfl⟩ := Int.eq_ofNat_of_zero_le b0
  have s1 : (1000 : Nat) ≤ sizeLine := by decide
  unfold fn_tag
  rw [bnd_of e1]
  dsimp only
  rw [bnd_of (sg_ok hc), bnd_of e2]
  dsimp only
  rw [if_pos ⟨by omega, by omega⟩]
  obtain ⟨s, e3, t, i3⟩ := forS_inv (f := fun (s5 : (Q3 Int Int Int) × Str) (x6 : Int) =>
     ((fn_take (s5.1) ((36 : Int))).bind fun r7 =>
     ((sgAt ("abcdefghijklmnopqrstuvwxyz0123456789" : Str) r7.1).bind fun r8 =>
     (if Str.length s5.2 + Str.length (⟨#[(r8).c]⟩ : Str) ≤ sizeLine then
     some (r7.2, (s5.2 ++ (⟨#[(r8).c]⟩ : Str))) else none)))) (fun k s => Tag s.2 (k + 1) ∧ WB (n + 2 + (k : Int)) s.1) (rng 0 (r2 : Int)) 0 (w2, (⟨#[c]⟩ : Str)) ⟨tag_one hl, i2.le (by omega)⟩ (by
    rintro j x ⟨v, z⟩ hx ⟨t, i⟩
    obtain ⟨rfl, jl⟩ := rng_get hx
    rw [Nat.zero_add] at t i ⊢
    dsimp only at t i ⊢
    obtain ⟨r, w', e, c0, c1, i'⟩ := take_eq (m := 36) i (by omega) (by decide) (by decide)
    obtain ⟨r, rfl⟩ := Int.eq_ofNat_of_zero_le c0
    obtain ⟨d, hd, sd⟩ := signs_ok r (by omega)
    rw [bnd_of e]
    dsimp only
    rw [bnd_of (sg_ok hd), if_pos (by rw [t.1]; show j + 1 + 1 ≤ _; omega)]
    exact ⟨_, rfl, t.more sd, i'.le (by omega)⟩)
  rw [bnd_of e3]
  rw [rng_len] at t i3
  exact ⟨_, rfl, t.ok (by omega), i3.le (by omega)⟩
theorem spare_ix (l : List Str) : List.map (fun (x22 : Str) => x22) (List.filter (fun (x22 : Str) => (!(isIn x22 l))) ([("x" : Str), ("x0" : Str), ("x1" : Str), ("x2" : Str), ("x3" : Str), ("x4" : Str)] : (List Str))) = spareOf l 6 := by
  unfold spareOf
  rw [List.map_id', List.take_of_length_le (show SPARE.length ≤ 6 by decide)]
  rfl
theorem forS_ex {σ α : Type} {f : σ → α → Option σ} {P : σ → Prop} (I : Nat → σ → Prop) {xs : List α} {s : σ} (h0 : I 0 s) (step : ∀ (j : Nat) (x : α) (s : σ), xs[j]? = some x → I j s → ∃ s', f s x = some s' ∧ I (j + 1) s') (fin : ∀ s, I xs.length s → P s) : ∃ b, forS f s xs = some b ∧ P b := by
  obtain ⟨b, e, h⟩ := forS_inv I xs 0 s h0 fun j x s hx hs => by
    rw [Nat.zero_add] at hs ⊢
    exact step j x s hx hs
  rw [Nat.zero_add] at h
  exact ⟨b, e, fin b h⟩
theorem tags_eq {n : Int} {w : Q3 Int Int Int} {m : Nat} (W : WB n w) (hn : n < 800000) (m6 : m ≤ 6) : ∃ r, fn_tags w (m : Int) = some r ∧ r.1.length = m ∧ Names r.1 ∧ WB (n + 100) r.2 := by
  have s1 : (1000 : Nat) ≤ sizeLine := by decide
  unfold fn_tags
  rw [if_pos ⟨by omega, by omega⟩]
  refine bnd_ex (Q := fun s => s.2.length = m ∧ Names s.2 ∧ WB (n + 15 * (m : Int)) s.1) ?_ fun s ⟨h1, h2, h3⟩ => ⟨_, rfl, h1, h2, h3.le (by omega)⟩
  refine forS_ex (fun k s => s.2.length = k ∧ Names s.2 ∧ WB (n + 15 * (k : Int)) s.1) ⟨rfl, ⟨(fun _ h => nomatch h), List.nodup_nil⟩, W.le (by omega)⟩ ?_ fun s t => by
    rw [rng_len] at t
    exact t
  · rintro j x ⟨v, l⟩ hx ⟨t1, t2, i⟩
    obtain ⟨rfl, jl⟩ := rng_get hx
    dsimp only at t1 t2 i ⊢
    obtain ⟨r4, e4, n4, i4⟩ := tag_eq i (by omega)
    obtain ⟨r5, w5, e5, b0, b1, i5⟩ := take_eq (m := 4) i4 (by omega) (by decide) (by decide)
    have g4 := Tag.of n4
    rw [bnd_of e4, bnd_of e5]
    dsimp only
    refine bnd_ex (Q := fun s => nameOk s.2 = true ∧ WB (n + 15 * (j : Int) + 13) s.1) ?_ fun s ⟨q1, q2⟩ => ?_
    · by_cases c : (decide ((0 : Int) < (j : Int)) && decide (r5 < (2 : Int))) = true
      · rw [if_pos c]
        simp only [Bool.and_eq_true, decide_eq_true_eq] at c
        obtain ⟨r8, w8, e8, c0, c1, i8⟩ := take_eq (m := (j : Int)) i5 (by omega) (by omega) (by omega)
        obtain ⟨r8, rfl⟩ := Int.eq_ofNat_of_zero_le c0
        have hz : l[r8]? = some (l[r8]'(by omega)) := List.getElem?_eq_getElem (by omega)
        have nz := (t2.ok _ (List.getElem_mem (show r8 < l.length by omega))).1
        generalize l[r8]'(by omega) = z at hz nz
        obtain ⟨g, g8⟩ := Tag.of nz
        have gp : 0 < z.length := by
          obtain ⟨_, c, cs, e, _⟩ := g
          rw [Hv.len_tl, e]
          exact Nat.succ_pos _
        obtain ⟨r11, w11, e11, d0, d1, i11⟩ := take_eq (m := ((z.length : Nat) : Int)) i8 (by omega) (by omega) (by omega)
        obtain ⟨k, rfl⟩ := Int.eq_ofNat_of_zero_le d0
        have kl : k < z.length := by omega
        rw [bnd_of e8]
        dsimp only
        rw [bnd_of (at_n hz), if_pos (by omega), bnd_of e11]
        dsimp only
        obtain ⟨c', hc', lc'⟩ := g4.1.first
        have sw := g.swap kl lc'
        have la : (cutS z none (some (k : Int))).length ≤ z.length := by
          rw [Hv.len_tl, cut_to, Hv.len_tl z]
          exact List.length_take_le' _ _
        have lb : (cutS z (some ((k : Int) + 1)) none).length ≤ z.length := by
          rw [Hv.len_tl, show ((k : Int) + 1) = ((k + 1 : Nat) : Int) from rfl, cut_from, Hv.len_tl z, List.length_drop]
          omega
        by_cases d : r5 = 0
        · have e13 : sgAt r4.1 (0 : Int) = some ⟨c'⟩ := by
            unfold sgAt
            rw [if_pos (by omega), hc']
            rfl
          rw [bnd_of (x := (cutS z none (some (k : Int)) ++ ⟨#[c']⟩) ++ cutS z (some ((k : Int) + 1)) none) (by
            rw [if_pos (decide_eq_true d), if_pos (by omega), bnd_of e13]
            have l1 : Str.length (⟨#[c']⟩ : Str) = 1 := rfl
            rw [if_pos (by rw [l1]; omega), if_pos (by omega), if_pos (by rw [app_len, l1]; omega)])]
          exact ⟨_, rfl, sw.ok g8, i11.le (by omega)⟩
        · rw [bnd_of (x := cutS z none (some ((k : Int) + 1))) (by rw [if_neg (by rw [decide_eq_false d]; decide), if_pos (by omega)])]
          exact ⟨_, rfl, (g.front kl).ok (by omega), i11.le (by omega)⟩
      · rw [if_neg c]
        exact ⟨_, rfl, n4, i5.le (by omega)⟩
    obtain ⟨w7, z⟩ := s
    dsimp only at q1 q2 ⊢
    obtain ⟨y, l', e6, ny, oky, y8⟩ := spare_some (zs := l) (by omega)
    rw [if_pos (by show 6 ≤ sizeLine; decide), spare_ix, e6]
    refine bnd_ex (Q := fun s => s ∉ l ∧ nameOk s = true) ?_ fun s ⟨p1, p2⟩ => ?_
    · by_cases c : isIn z l = true
      · rw [if_pos c, bnd_of (show atI (y :: l') (0 : Int) = some y from atI_zero _ _)]
        exact ⟨_, rfl, ny, oky⟩
      · rw [if_neg c]
        exact ⟨_, rfl, fun h => c (decide_eq_true h), q1⟩
    rw [if_pos (by omega)]
    exact ⟨_, rfl, by rw [List.length_append, t1]; rfl, t2.app p2 (name_len p2) p1, q2.le (by omega)⟩
end L
namespace L
open PySem L2 Hv Ev TL
set_option autoImplicit false
/-! ### drawn rows -/
def wd9 (j : Nat) : Str := ([("each" : Str), ("each" : Str), ("each" : Str), ("all" : Str), ("all" : Str), ("all" : Str), ("free" : Str), ("again" : Str)] : List Str).getD j Str.empty
def nm9 (j : Nat) : Nat := [1, 2, 3, 1, 2, 3, 0, 0].getD j 0
def AMT9 : List Str := [("each 1" : Str), ("each 2" : Str), ("each 3" : Str), ("all 1" : Str), ("all 2" : Str), ("all 3" : Str), ("free" : Str), ("again" : Str)]
theorem sort_tab9 : ∀ j : Nat, j < 8 → atI AMT9 (j : Int) = some (Hv.amtOf ⟨0, 0, wd9 j, nm9 j⟩) ∧ (((wd9 j = Str.ofString "each" ∨ wd9 j = Str.ofString "all") ∧ 1 ≤ nm9 j ∧ nm9 j ≤ 3) ∨ ((wd9 j = Str.ofString "again" ∨ wd9 j = Str.ofString "free") ∧ nm9 j = 0)) := by decide +kernel
def lnkW (ws : List Str) (r : Rw) : List Str := [ws.getD r.o Str.empty, ws.getD r.i Str.empty, Hv.amtOf r]
def prW (ws : List Str) (r : Rw) : List Str := [ws.getD r.o Str.empty, ws.getD r.i Str.empty]
theorem at_ws9 {ws : List Str} {n i : Nat} (hw : ws.length = n) (hi : i < n) : atI ws (i : Int) = some (ws.getD i Str.empty) := at_n (by
  rw [List.getD_eq_getElem?_getD, List.getElem?_eq_getElem (by omega)]
  rfl)
theorem nd_len {m : Nat} {rs : List Rw} (ok : ∀ r ∈ rs, Rw.Ok m r) (nd : (rs.map fun r => (r.o, r.i)).Nodup) : rs.length ≤ m * m := by
  have h := sub_len (rs.map fun r => (r.o, r.i)) ((List.range m).flatMap fun o => (List.range m).map fun i => (o, i)) nd fun x hx => by
    obtain ⟨r, hr, rfl⟩ := List.mem_map.mp hx
    exact List.mem_flatMap.mpr ⟨r.o, List.mem_range.mpr (ok r hr).ol, List.mem_map.mpr ⟨r.i, List.mem_range.mpr (ok r hr).il, rfl⟩⟩
  rw [List.length_map] at h
  refine Nat.le_trans h ?_
  have := flat_len9 (g := fun o => (List.range m).map fun i => (o, i)) (K := m) (fun o => by rw [List.length_map, List.length_range]; exact Nat.le_refl _) (List.range m)
  rw [List.length_range] at this
  exact this
theorem inD_eq {x : List Str} : ∀ l : List (List Str), inD (toD x) (l.map toD) = decide (x ∈ l) := by
  intro l
  unfold inD
  have e : ∀ y : List Str, PyData.eqv ((toD y).py) ((toD x).py) = decide (y = x) := fun y => dEq_strs y x
  induction l with
  | nil => rfl
  | cons y l ih =>
    have e2 : (pys ((y :: l).map toD)).any (fun z => PyData.eqv z (toD x).py) = (PyData.eqv ((toD y).py) ((toD x).py) || (pys (l.map toD)).any (fun z => PyData.eqv z (toD x).py)) := rfl
    rw [e2, ih, e y]
    by_cases h : y = x
    · simp [h]
    · have : ¬ x = y := fun q => h q.symm
      simp [h, this]
theorem fd_strs {l : List Str} (h : ∀ z ∈ l, PyData.strOk z = true ∧ z.length ≤ 8) : FD (toD l) 1 (l.length * 9) := by
  have := FD.lst (m := 0) (n := 8) (l := l.map toD) fun x hx => by
    obtain ⟨z, hz, rfl⟩ := List.mem_map.mp hx
    exact FD.str (h z hz).1 (h z hz).2
  rw [List.length_map] at this
  exact this
theorem eqok_of {x y : D} {m n m' n' : Nat} (h : FD x m n) (h' : FD y m' n') (a : m ≤ 60) (b : m' ≤ 60) : EqOk x y := by
  unfold EqOk
  rw [h.d, h'.d, h.f.shaped a, h'.f.shaped b]
  rfl
structure LkI (ws : List Str) (m : Nat) (rs : List Rw) : Prop where
  ok : ∀ r ∈ rs, Rw.Ok m r
  nd : (rs.map fun r => (r.o, r.i)).Nodup
theorem links_eq {n : Int} {w : Q3 Int Int Int} {ws : List Str} {m : Nat} (W : WB n w) (hn : n < 800000) (hw : ws.length = m) (m1 : 1 ≤ m) (m6 : m ≤ 6) (N : Names ws) : ∃ rs w', fn_links w ws = some (rs.map (lnkW ws), w') ∧ LkI ws m rs ∧ WB (n + 200) w' := by
  suffices H : ∃ r, fn_links w ws = some r ∧ ∃ rs : List Rw, r.1 = rs.map (lnkW ws) ∧ LkI ws m rs ∧ WB (n + 200) r.2 by
    obtain ⟨⟨l, w'⟩, e, rs, h1, h2, h3⟩ := H
    dsimp only at h1 h3
    subst h1
    exact ⟨rs, w', e, h2, h3⟩
  have s1 : (1000 : Nat) ≤ sizeLine := by decide
  obtain ⟨r1, w1, e1, a0, a1, i1⟩ := take_eq (m := 7) W (by omega) (by decide) (by decide)
  obtain ⟨r2, w2, e2, b0, b1, i2⟩ := take_eq (m := ((ws.length : Nat) : Int)) i1 (by omega) (by omega) (by omega)
  unfold fn_links
  rw [bnd_of e1]
  dsimp only
  rw [bnd_of e2]
  dsimp only
  have mm : m * m ≤ 36 := Nat.mul_le_mul m6 m6
  refine bnd_ex (Q := fun (s : Int × Q3 Int Int Int) => ∃ k : Nat, s.1 = (k : Int) ∧ k ≤ 36 ∧ (r1 = 0 → k ≤ m * m) ∧ WB (n + 3) s.2) ?_ fun s ⟨k, hk, k36, kf, i3⟩ => ?_
  · by_cases c : r1 = 0
    · rw [if_pos (decide_eq_true c), if_pos (show CMulW ((ws.length : Nat) : Int) ((ws.length : Nat) : Int) from cmul_small (by omega) (by omega))]
      exact ⟨_, rfl, ws.length * ws.length, Int.natCast_mul _ _, by rw [hw]; exact mm, fun _ => by rw [hw]; exact Nat.le_refl _, i2.le (by omega)⟩
    · obtain ⟨r4, w4, e4, c0, c1, i4⟩ := take_eq (m := 9) i2 (by omega) (by decide) (by decide)
      obtain ⟨r4, rfl⟩ := Int.eq_ofNat_of_zero_le c0
      rw [if_neg (by rw [decide_eq_false c]; decide), bnd_of e4]
      exact ⟨_, rfl, r4, rfl, by omega, fun z => absurd z c, i4.le (by omega)⟩
  obtain ⟨k0, w3⟩ := s
  dsimp only at hk i3 ⊢
  subst hk
  rw [if_pos ⟨by omega, by omega⟩]
  have wk : ∀ i, i < m → PyData.strOk (ws.getD i Str.empty) = true ∧ (ws.getD i Str.empty).length ≤ 8 := fun i hi => by
    rw [List.getD_eq_getElem?_getD, List.getElem?_eq_getElem (by omega)]
    have := (N.ok _ (List.getElem_mem (show i < ws.length by omega))).1
    exact ⟨name_strOk this, name_len this⟩
  refine bnd_ex (Q := fun (s : Q3 Int Int Int × List (List Str) × List (List Str)) => ∃ rs : List Rw, s.2.1 = rs.map (lnkW ws) ∧ LkI ws m rs ∧ WB (n + 3 + 3 * (k : Int)) s.1) ?_ fun s ⟨rs, q1, q2, q3⟩ => ⟨_, rfl, rs, q1, q2, q3.le (by omega)⟩
  refine forS_ex (fun j s => ∃ rs : List Rw, s.2.1 = rs.map (lnkW ws) ∧ s.2.2 = rs.map (prW ws) ∧ LkI ws m rs ∧ WB (n + 3 + 3 * (j : Int)) s.1) ⟨[], rfl, rfl, ⟨(fun _ h => nomatch h), List.nodup_nil⟩, i3.le (by omega)⟩ ?_ fun s ⟨rs, q1, _, q2, q3⟩ => ⟨rs, q1, q2, by rw [rng_len] at q3; exact q3⟩
  · rintro j x ⟨v, l1, l2⟩ hx ⟨rs, t1, t2, I, i⟩
    obtain ⟨rfl, jl⟩ := rng_get hx
    dsimp only at t1 t2 i ⊢
    subst t1 t2
    have rl := nd_len I.ok I.nd
    -- the pair
    refine bnd_ex (Q := fun (p : Option (List Str)) => p = none ∨ ∃ o i, o < m ∧ i < m ∧ p = some [ws.getD o Str.empty, ws.getD i Str.empty]) ?_ fun p hp => ?_
    · by_cases c : r1 = 0
      · have jm := kf c
        have m0 : (0 : Int) < ((ws.length : Nat) : Int) := by omega
        obtain ⟨a, ha⟩ := Int.eq_ofNat_of_zero_le (Int.emod_nonneg ((j : Int) + r2) (show ((ws.length : Nat) : Int) ≠ 0 by omega))
        have al := Int.emod_lt_of_pos ((j : Int) + r2) m0
        have hd : (j : Int) / ((ws.length : Nat) : Int) = ((j / ws.length : Nat) : Int) := (Int.natCast_ediv j ws.length).symm
        have hd2 : j / ws.length < m := by
          rw [hw]
          exact Nat.div_lt_of_lt_mul (by omega)
        rw [if_pos (decide_eq_true c), if_pos m0, ha, bnd_of (at_ws9 hw (i := a) (by omega)), if_pos (wide_div (b := 4) (by omega) (by omega) (by decide) (by decide)), hd, bnd_of (at_ws9 hw hd2)]
        exact ⟨_, rfl, .inr ⟨a, _, by omega, hd2, rfl⟩⟩
      · rw [if_neg (by rw [decide_eq_false c]; decide)]
        exact ⟨_, rfl, .inl rfl⟩
    refine bnd_ex (Q := fun (s : Q3 Int Int Int × Option (List Str)) => (∃ o i, o < m ∧ i < m ∧ s.2 = some [ws.getD o Str.empty, ws.getD i Str.empty]) ∧ WB (n + 3 + 3 * (j : Int) + 2) s.1) ?_ fun s ⟨⟨o, i', ho, hi, hs⟩, i5⟩ => ?_
    · rcases hp with rfl | ⟨o, i', ho, hi, rfl⟩
      · obtain ⟨r18, w18, e18, c0, c1, i18⟩ := take_eq (m := ((ws.length : Nat) : Int)) i (by omega) (by omega) (by omega)
        obtain ⟨r18, rfl⟩ := Int.eq_ofNat_of_zero_le c0
        obtain ⟨r20, w20, e20, d0, d1, i20⟩ := take_eq (m := ((ws.length : Nat) : Int)) i18 (by omega) (by omega) (by omega)
        obtain ⟨r20, rfl⟩ := Int.eq_ofNat_of_zero_le d0
        rw [if_pos (show (none : Option (List Str)).isNone = true from rfl), bnd_of e18]
        dsimp only
        rw [bnd_of (at_ws9 hw (i := r18) (by omega)), bnd_of e20]
        dsimp only
        rw [bnd_of (at_ws9 hw (i := r20) (by omega))]
        exact ⟨_, rfl, ⟨r18, r20, by omega, by omega, rfl⟩, i20.le (by omega)⟩
      · rw [if_neg (show ¬ (some [ws.getD o Str.empty, ws.getD i' Str.empty]).isNone = true from fun z => Bool.noConfusion z)]
        exact ⟨_, rfl, ⟨o, i', ho, hi, rfl⟩, i.le (by omega)⟩
    obtain ⟨w17, p17⟩ := s
    dsimp only at hs i5 ⊢
    subst hs
    rw [bnd_of rfl]
    have fx : FD (toD [ws.getD o Str.empty, ws.getD i' Str.empty]) 1 18 := fd_strs (l := [ws.getD o Str.empty, ws.getD i' Str.empty]) fun z hz => by
      simp only [List.mem_cons, List.not_mem_nil, or_false] at hz
      rcases hz with rfl | rfl
      · exact wk o ho
      · exact wk i' hi
    have fl : FD (.lst ((rs.map (prW ws)).map toD)) 2 (((rs.map (prW ws)).map toD).length * 19) := FD.lst (m := 1) (n := 18) fun x hx => by
      obtain ⟨y, hy, rfl⟩ := List.mem_map.mp hx
      obtain ⟨r, hr, rfl⟩ := List.mem_map.mp hy
      refine fd_strs (l := prW ws r) fun z hz => ?_
      unfold prW at hz
      simp only [List.mem_cons, List.not_mem_nil, or_false] at hz
      rcases hz with rfl | rfl
      · exact wk _ (I.ok r hr).ol
      · exact wk _ (I.ok r hr).il
    have eo := eqok_of fx fl (by decide) (by decide)
    rw [if_pos eo, inD_eq]
    by_cases c : [ws.getD o Str.empty, ws.getD i' Str.empty] ∈ rs.map (prW ws)
    · rw [if_neg (by rw [decide_eq_true c]; decide)]
      exact ⟨_, rfl, rs, rfl, rfl, I, i5.le (by omega)⟩
    · obtain ⟨r30, w30, e30, c0, c1, i30⟩ := take_eq (m := 8) i5 (by omega) (by decide) (by decide)
      obtain ⟨a, rfl⟩ := Int.eq_ofNat_of_zero_le c0
      obtain ⟨y1, y2⟩ := sort_tab9 a (by omega)
      rw [if_pos (by rw [decide_eq_false c]; rfl), bnd_of rfl, if_pos (by rw [List.length_map]; omega), bnd_of rfl, bnd_of (show fn_amounts = some AMT9 from rfl), bnd_of e30]
      dsimp only
      rw [bnd_of y1, if_pos (by show 2 + 1 ≤ _; omega), if_pos (by rw [List.length_map]; omega)]
      refine ⟨_, rfl, rs ++ [⟨o, i', wd9 a, nm9 a⟩], by rw [List.map_append]; rfl, by rw [List.map_append]; rfl, ⟨fun r hr => ?_, ?_⟩, i30.le (by omega)⟩
      · rcases List.mem_append.mp hr with q | q
        · exact I.ok r q
        · rw [List.mem_singleton.mp q]
          exact ⟨ho, hi, y2⟩
      · rw [List.map_append, List.nodup_append]
        refine ⟨I.nd, by simp, ?_⟩
        intro x hx y hy ex
        obtain ⟨r, hr, rfl⟩ := List.mem_map.mp hx
        have : y = (o, i') := by simpa using hy
        rw [this] at ex
        have ex1 : r.o = o := congrArg Prod.fst ex
        have ex2 : r.i = i' := congrArg Prod.snd ex
        exact c (List.mem_map.mpr ⟨r, hr, by unfold prW; rw [ex1, ex2]⟩)
end L
namespace L
open PySem L2 Hv Ev TL
set_option autoImplicit false
/-! ### drawn books -/
theorem lcS_inv9 {β : Type} {f : Q3 Int Int Int → Str → Option (Option β × Q3 Int Int Int)} (P : Str → β → Prop) (d : Int) (d0 : 0 ≤ d) (M : Int) : ∀ (xs : List Str) (n : Int) (w : Q3 Int Int Int), (∀ (n : Int) (w : Q3 Int Int Int) (x : Str), x ∈ xs → WB n w → n < M → ∃ y w', f w x = some (some y, w') ∧ P x y ∧ WB (n + d) w') → WB n w → n + d * (xs.length : Nat) < M → ∃ ys w', lcS f w xs = some (ys, w') ∧ All2 P xs ys ∧ WB (n + d * (xs.length : Nat)) w'
  | [], n, w, st, h, _ => ⟨[], w, rfl, .nil, by simpa using h⟩
  | x :: xs, n, w, st, h, hn => by
    have e : d * ((x :: xs).length : Nat) = d + d * (xs.length : Nat) := by
      rw [List.length_cons, Int.natCast_add, Int.mul_add]
      show d * (xs.length : Nat) + d * 1 = _
      omega
    rw [e] at hn ⊢
    have q : 0 ≤ d * (xs.length : Nat) := Int.mul_nonneg d0 (by omega)
    obtain ⟨y, w1, e1, p1, h1⟩ := st n w x List.mem_cons_self h (by omega)
    obtain ⟨ys, w2, e2, p2, h2⟩ := lcS_inv9 P d d0 M xs (n + d) w1 (fun n w x hx => st n w x (List.mem_cons_of_mem _ hx)) h1 (by omega)
    refine ⟨y :: ys, w2, ?_, .cons p1 p2, h2.le (by omega)⟩
    show ((f w x).bind fun y => (lcS f y.2 xs).bind fun r => some (y.1.toList ++ r.1, r.2)) = _
    rw [e1, bnd_of rfl, bnd_of e2]
    rfl
theorem all2_map {l : List Str} {q : List Q5T} (h : All2 (fun z y => ∃ s : Sr, y = srT s ∧ SrOk s ∧ s.name = z) l q) : ∃ ss : List Sr, q = ss.map srT ∧ (∀ s ∈ ss, SrOk s) ∧ ss.map (·.name) = l := by
  induction h with
  | nil => exact ⟨[], rfl, (fun _ h => nomatch h), rfl⟩
  | cons h t ih =>
    obtain ⟨s, rfl, ok, rfl⟩ := h
    obtain ⟨ss, rfl, oks, rfl⟩ := ih
    exact ⟨s :: ss, rfl, (fun x hx => by
      rcases List.mem_cons.mp hx with rfl | hx
      · exact ok
      · exact oks x hx), rfl⟩
theorem book_eq {n : Int} {w : Q3 Int Int Int} {l : List Str} (W : WB n w) (hn : n < 700000) (B : BdL l) : ∃ ss rs w', fn_book w l = some (⟨ss.map srT, rs.map (lnk ss)⟩, w') ∧ PlanOk 6 ss rs ∧ (∀ s ∈ ss, SrOk s) ∧ WB (n + 400) w' := by
  obtain ⟨r1, w1, e1, a0, a1, i1⟩ := take_eq (m := 6) W (by omega) (by decide) (by decide)
  obtain ⟨m, rfl⟩ := Int.eq_ofNat_of_zero_le a0
  obtain ⟨⟨ws, w2⟩, e2, l2, N, i2⟩ := tags_eq (m := m + 1) i1 (by omega) (by omega)
  dsimp only at l2 N i2
  have s1 : (1000 : Nat) ≤ sizeLine := by decide
  unfold fn_book
  rw [bnd_of e1]
  dsimp only
  rw [show (1 : Int) + (m : Int) = ((m + 1 : Nat) : Int) by omega, bnd_of e2]
  dsimp only
  rw [if_pos (by omega)]
  obtain ⟨q, w3, e3, p3, i3⟩ := lcS_inv9 (f := fun (s7 : (Q3 Int Int Int)) (x8 : Str) => ((fn_kind (s7) (x8) l).bind fun r9 => some ((some r9.1, r9.2) : Option (Q5 Str Int (Int ⊕ Str) (Option (P2 Int Str)) (Option Str)) × (Q3 Int Int Int)))) (fun z y => ∃ s : Sr, y = srT s ∧ SrOk s ∧ s.name = z) 10 (by decide) 800000 ws _ w2 (fun n w x hx h hn => by
    obtain ⟨r, e, ⟨s, q1, q2, q3⟩, h'⟩ := kind_eq9 h (by omega) B (N.ok x hx).1
    exact ⟨r.1, r.2, by rw [bnd_of e], ⟨s, q1, q2, q3⟩, h'⟩) i2 (by omega)
  obtain ⟨ss, rfl, ok, en⟩ := all2_map p3
  rw [bnd_of e3]
  dsimp only
  obtain ⟨rs, w4, e4, I, i4⟩ := links_eq i3 (by omega) l2 (by omega) (by omega) N
  have sl : ss.length = m + 1 := by rw [← l2, ← en, List.length_map]
  rw [bnd_of e4]
  subst en
  exact ⟨ss, rs, w4, rfl, ⟨by omega, by omega, ⟨N.nd, fun s hs => (ok s hs).name⟩, fun r hr => by rw [sl]; exact I.ok r hr, I.nd, by rw [sl]; exact nd_len I.ok I.nd⟩, ok, i4.le (by omega)⟩
theorem map_set9 {α β : Type} (f : α → β) : ∀ (l : List α) (i : Nat) (x : α), (l.map f).set i (f x) = (l.set i x).map f := fun l i x => (List.map_set).symm
theorem other_eq {n : Int} {w : Q3 Int Int Int} {l : List Str} {ss : List Sr} {rs : List Rw} (W : WB n w) (hn : n < 600000) (B : BdL l) (p : PlanOk 6 ss rs) (ok : ∀ s ∈ ss, SrOk s) : ∃ ss' rs' w', fn_other w ⟨ss.map srT, rs.map (lnk ss)⟩ l = some (⟨ss'.map srT, rs'.map (lnk ss')⟩, w') ∧ PlanOk 6 ss' rs' ∧ (∀ s ∈ ss', SrOk s) ∧ WB (n + 500) w' := by
  have s1 : (1000 : Nat) ≤ sizeLine := by decide
  have p1 := p.one
  have p6 : ss.length ≤ 6 := p.mst
  have rl : rs.length ≤ 36 := Nat.le_trans p.rl (Nat.le_trans (Nat.mul_le_mul p6 p6) (by decide))
  obtain ⟨r1, w1, e1, a0, a1, i1⟩ := take_eq (m := 3) W (by omega) (by decide) (by decide)
  unfold fn_other
  rw [bnd_of e1]
  dsimp only
  by_cases c0 : r1 = 0
  · obtain ⟨ss', rs', w', e2, h1, h2, h3⟩ := book_eq i1 (by omega) B
    rw [if_pos (decide_eq_true c0), bnd_of e2]
    exact ⟨ss', rs', w', rfl, h1, h2, h3.le (by omega)⟩
  rw [if_neg (by rw [decide_eq_false c0]; decide)]
  by_cases c1 : (decide (r1 = (1 : Int)) || List.isEmpty (rs.map (lnk ss))) = true
  · rw [if_pos c1]
    obtain ⟨r6, w6, e6, b0, b1, i6⟩ := take_eq (m := (((ss.map srT).length : Nat) : Int)) i1 (by omega) (by rw [List.length_map]; omega) (by rw [List.length_map]; omega)
    rw [List.length_map] at b1
    obtain ⟨k, rfl⟩ := Int.eq_ofNat_of_zero_le b0
    have kl : k < ss.length := by omega
    rw [bnd_of e6]
    dsimp only
    have hk : (ss.map srT)[k]? = some (srT ss[k]) := by rw [List.getElem?_map, List.getElem?_eq_getElem kl]; rfl
    have okk := ok _ (List.getElem_mem kl)
    obtain ⟨⟨x, w8⟩, e8, ⟨s, q1, q2, q3⟩, i8⟩ := kind_eq9 i6 (by omega) B (tag := ss[k].name) okk.name
    dsimp only at q1 i8
    subst q1
    rw [bnd_of (at_n hk), bnd_of (show fn_kind w6 (srT ss[k]).a l = _ from e8), bnd_of (show ixN (ss.map srT).length (k : Int) = some k by unfold ixN; rw [if_pos (by omega), if_pos (by rw [List.length_map]; omega)]; rfl)]
    have en : (ss.set k s).map (·.name) = ss.map (·.name) := by
      rw [List.map_set, q3]
      refine List.ext_getElem? fun j => ?_
      by_cases z : k = j
      · subst z
        rw [List.getElem?_set_self (by rw [List.length_map]; exact kl), List.getElem?_map, List.getElem?_eq_getElem kl]
        rfl
      · rw [List.getElem?_set_ne z]
    have el : rs.map (lnk (ss.set k s)) = rs.map (lnk ss) := List.map_congr_left fun r _ => by unfold lnk; rw [en]
    have ok' : ∀ y ∈ ss.set k s, SrOk y := fun y hy => by
      rcases List.mem_or_eq_of_mem_set hy with h | rfl
      · exact ok y h
      · exact q2
    refine ⟨ss.set k s, rs, w8, by rw [el, ← map_set9], ⟨by rw [List.length_set]; exact p.one, by rw [List.length_set]; exact p.mst, ⟨by rw [en]; exact p.nm.1, fun y hy => (ok' y hy).name⟩, by rw [List.length_set]; exact p.rw, p.nd, by rw [List.length_set]; exact p.rl⟩, ok', i8.le (by omega)⟩
  · rw [if_neg c1]
    have r0 : 0 < rs.length := by
      cases rs with
      | nil => exact absurd (by simp) c1
      | cons => exact Nat.succ_pos _
    obtain ⟨r10, w10, e10, b0, b1, i10⟩ := take_eq (m := (((rs.map (lnk ss)).length : Nat) : Int)) i1 (by omega) (by rw [List.length_map]; omega) (by rw [List.length_map]; omega)
    rw [List.length_map] at b1
    obtain ⟨k, rfl⟩ := Int.eq_ofNat_of_zero_le b0
    have kl : k < rs.length := by omega
    obtain ⟨r13, w13, e13, d0, d1, i13⟩ := take_eq (m := 8) i10 (by omega) (by decide) (by decide)
    obtain ⟨a, rfl⟩ := Int.eq_ofNat_of_zero_le d0
    obtain ⟨y1, y2⟩ := sort_tab9 a (by omega)
    have hk : (rs.map (lnk ss))[k]? = some (lnk ss rs[k]) := by rw [List.getElem?_map, List.getElem?_eq_getElem kl]; rfl
    rw [bnd_of e10]
    dsimp only
    rw [bnd_of (at_n hk), bnd_of (show fn_amounts = some AMT9 from rfl), bnd_of e13]
    dsimp only
    have ec : cutL (lnk ss rs[k]) none (some (2 : Int)) = [(ss.map (·.name)).getD rs[k].o Str.empty, (ss.map (·.name)).getD rs[k].i Str.empty] := rfl
    rw [bnd_of y1, ec, if_pos (by show 2 + 1 ≤ _; omega), bnd_of (show ixN (rs.map (lnk ss)).length (k : Int) = some k by unfold ixN; rw [if_pos (by omega), if_pos (by rw [List.length_map]; omega)]; rfl)]
    have ok' := p.rw _ (List.getElem_mem kl)
    have ep : (rs.set k ⟨rs[k].o, rs[k].i, wd9 a, nm9 a⟩).map (fun r => (r.o, r.i)) = rs.map fun r => (r.o, r.i) := by
      rw [List.map_set]
      refine List.ext_getElem? fun j => ?_
      by_cases z : k = j
      · subst z
        rw [List.getElem?_set_self (by rw [List.length_map]; exact kl), List.getElem?_map, List.getElem?_eq_getElem kl]
        rfl
      · rw [List.getElem?_set_ne z]
    refine ⟨ss, rs.set k ⟨rs[k].o, rs[k].i, wd9 a, nm9 a⟩, w13, by rw [← map_set9]; rfl, ⟨p.one, p.mst, p.nm, fun r hr => ?_, by rw [ep]; exact p.nd, by rw [List.length_set]; exact p.rl⟩, ok, i13.le (by omega)⟩
    rcases List.mem_or_eq_of_mem_set hr with h | rfl
    · exact p.rw r h
    · exact ⟨ok'.ol, ok'.il, y2⟩
theorem right_true9 {n : Int} {w : Q3 Int Int Int} {l : List Str} (W : WB n w) (hn : n < 500000) (B : BdL l) : ∃ w', fn_right w l = some (true, w') := by
  obtain ⟨ss, rs, w1, e1, p, ok, i1⟩ := book_eq W (by omega) B
  obtain ⟨ss', rs', w2, e2, p', ok', i2⟩ := other_eq i1 (by omega) B p ok
  exact ⟨w2, right_of9 e1 e2 p ok p' ok'⟩
end L
namespace L
open PySem L2 Hv Ev TL
set_option autoImplicit false
/-! ### the longest lines, the shortest rules -/
def LONG9 : List Str := [("longesta" : Str), ("longestb" : Str), ("longestc" : Str), ("longestd" : Str), ("longeste" : Str), ("longestf" : Str)]
def lsr (z : Str) : Sr := ⟨z, 3, .bd ⟨true, 10, 11⟩, some (3, ⟨true, 11, 12⟩), some ⟨true, 11, 12⟩⟩
def lrw (k : Nat) : Rw := ⟨k / 6, k % 6, ([("each" : Str), ("again" : Str), ("free" : Str), ("all" : Str)] : List Str).getD (k % 4) Str.empty, [3, 0, 0, 2].getD (k % 4) 0⟩
def LSS : List Sr := LONG9.map lsr
def LRS : List Rw := (List.range 36).map lrw
theorem plan_long : PlanOk 6 LSS LRS := by
  refine ⟨by decide, by decide, ⟨by decide +kernel, ?_⟩, ?_, by decide +kernel, by decide⟩
  · have : LSS.all (fun s => nameOk s.name) = true := by decide +kernel
    exact fun s hs => List.all_eq_true.mp this s hs
  · intro r hr
    obtain ⟨k, hk, rfl⟩ := List.mem_map.mp hr
    have k36 : k < 36 := List.mem_range.mp hk
    refine ⟨show k / 6 < 6 by omega, show k % 6 < 6 by omega, ?_⟩
    have h4 : ∀ j < 4, ((([("each" : Str), ("again" : Str), ("free" : Str), ("all" : Str)] : List Str).getD j Str.empty = Str.ofString "each" ∨ ([("each" : Str), ("again" : Str), ("free" : Str), ("all" : Str)] : List Str).getD j Str.empty = Str.ofString "all") ∧ 1 ≤ [3, 0, 0, 2].getD j 0 ∧ [3, 0, 0, 2].getD j 0 ≤ 3) ∨ ((([("each" : Str), ("again" : Str), ("free" : Str), ("all" : Str)] : List Str).getD j Str.empty = Str.ofString "again" ∨ ([("each" : Str), ("again" : Str), ("free" : Str), ("all" : Str)] : List Str).getD j Str.empty = Str.ofString "free") ∧ [3, 0, 0, 2].getD j 0 = 0) := by decide +kernel
    exact h4 (k % 4) (Nat.mod_lt _ (by decide))
theorem srok_long : ∀ s ∈ LSS, SrOk s := fun s hs => by
  have nm := plan_long.nm.2 s hs
  obtain ⟨z, _, rfl⟩ := List.mem_map.mp hs
  have o1 : Bd.Ok ⟨true, 10, 11⟩ := ⟨by decide, by decide, by decide, by decide, fun _ => by decide⟩
  have o2 : Bd.Ok ⟨true, 11, 12⟩ := ⟨by decide, by decide, by decide, by decide, fun _ => by decide⟩
  exact ⟨nm, Nat.le_refl 3, (fun n h => by cases h), (fun b h => by cases h; exact o1), (fun i b h => by cases h; exact ⟨by decide, o2⟩), (fun b h => by cases h; exact o2)⟩
theorem longest_true : fn_longest_right = some true := by
  obtain ⟨R, eb, _⟩ := back_eq9 plan_long srok_long
  have g : ∀ k : Nat, k < 36 → (if CDivW (k : Int) (6 : Int) then ((atI LONG9 ((k : Int) / (6 : Int))).bind fun r13 => (if 0 < (6 : Int) then ((atI LONG9 ((k : Int) % (6 : Int))).bind fun r15 => (if 0 < (4 : Int) then ((atI ([("each 3" : Str), ("again" : Str), ("free" : Str), ("all 2" : Str)] : (List Str)) ((k : Int) % (4 : Int))).bind fun r17 => some (some ([r13, r15, r17] : (List Str)))) else none)) else none)) else none) = some (some (lnk LSS (lrw k))) := fun k hk => by
    have h1 : (k : Int) / 6 = ((k / 6 : Nat) : Int) := (Int.natCast_ediv k 6).symm
    have h2 : (k : Int) % 6 = ((k % 6 : Nat) : Int) := (Int.natCast_emod k 6).symm
    have h3 : (k : Int) % 4 = ((k % 4 : Nat) : Int) := (Int.natCast_emod k 4).symm
    have h4 : ∀ j : Nat, j < 4 → atI ([("each 3" : Str), ("again" : Str), ("free" : Str), ("all 2" : Str)] : (List Str)) (j : Int) = some (Hv.amtOf ⟨0, 0, ([("each" : Str), ("again" : Str), ("free" : Str), ("all" : Str)] : List Str).getD j Str.empty, [3, 0, 0, 2].getD j 0⟩) := by decide +kernel
    have nm : LSS.map (·.name) = LONG9 := by decide +kernel
    rw [if_pos (wide_div (b := 4) (by omega) (by omega) (by decide) (by decide)), h1, bnd_of (at_ws9 (show LONG9.length = 6 from rfl) (show k / 6 < 6 by omega)), if_pos (by decide), h2, bnd_of (at_ws9 (show LONG9.length = 6 from rfl) (show k % 6 < 6 by omega)), if_pos (by decide), h3, bnd_of (h4 (k % 4) (by omega))]
    show some (some _) = some (some [(LSS.map (·.name)).getD _ _, (LSS.map (·.name)).getD _ _, _])
    rw [nm]
    rfl
  have er : (rng 0 (36 : Int)) = (List.range 36).map fun k => ((k : Nat) : Int) := by decide +kernel
  unfold fn_longest_right
  rw [if_pos (by decide +kernel), bnd_of (x := LONG9) (by decide +kernel), if_pos (by decide), if_pos (by decide), if_pos (by decide), er]
  rw [bnd_of (lcO_map (h := fun k => lnk LSS (lrw k)) fun k hk => g k (List.mem_range.mp hk))]
  have e1 : (List.map (fun (x7 : Str) => (⟨x7, (3 : Int), (.inr ("over 10/11" : Str) : (Int ⊕ Str)), (some (⟨(3 : Int), ("over 11/12" : Str)⟩ : (P2 Int Str)) : (Option (P2 Int Str))), (some ("over 11/12" : Str) : (Option Str))⟩ : (Q5 Str Int (Int ⊕ Str) (Option (P2 Int Str)) (Option Str)))) LONG9) = LSS.map srT := by
    unfold LSS
    rw [List.map_map]
    refine List.map_congr_left fun z _ => ?_
    have t1 : Bd.txt ⟨true, 10, 11⟩ = ("over 10/11" : Str) := by decide +kernel
    have t2 : Bd.txt ⟨true, 11, 12⟩ = ("over 11/12" : Str) := by decide +kernel
    show _ = srT (lsr z)
    unfold srT lsr ndS
    simp only [Option.map_some, t1, t2]
    rfl
  have e2 : (List.range 36).map (fun k => lnk LSS (lrw k)) = LRS.map (lnk LSS) := by
    unfold LRS
    rw [List.map_map]
    rfl
  rw [e1, e2, bnd_of eb]
  rfl
theorem shortest_true : ∃ R, fn_back ⟨[⟨("a" : Str), (0 : Int), .inl (1 : Int), none, none⟩], []⟩ = some (some R) := by
  have p : PlanOk 6 [(⟨("a" : Str), 0, .cnt 1, none, none⟩ : Sr)] [] := ⟨by decide, by decide, ⟨by simp, fun s hs => by rw [List.mem_singleton.mp hs]; decide +kernel⟩, (fun _ h => nomatch h), by simp, by decide⟩
  obtain ⟨R, e, _⟩ := back_eq9 p (fun s hs => by
    rw [List.mem_singleton.mp hs]
    exact ⟨by decide +kernel, by decide, (fun n h => by cases h; decide), (fun b h => by cases h), (fun i b h => by cases h), (fun b h => by cases h)⟩)
  exact ⟨R, e⟩
end L
namespace L
open PySem L2 Hv
variable {P : Program} {w : World} {K : PySem.W.Frag} {mg : Str → Option Value} {base : Heap}
def sp_bag9 : Sp := fun vs H Q _ => ∃ (n : Int), vs = [.int n] ∧ Builtin.Int.intBits n ≤ 1048576 ∧
  ∀ (p : Addr) (H' : Hp), H p = none → Same H H' → (∃ s d : Int, H' p = some (.lst [.int s, .int d, .int 0]) ∧ 0 ≤ s ∧ s < 2147483399 ∧ 0 ≤ d ∧ Builtin.Int.intBits d ≤ 1048576) → Q (.ref p) H'
abbrev s_bag : Stmt := top 46
abbrev N_bag : List Str := ["_law_number", "_law_digits", "_law_state"]
abbrev P_bag : List Str := ["_law_number"]
theorem sc_bag : FnScope N_bag P_bag (defScope s_bag) := ⟨rfl, rfl, rfl, by decide +kernel, rfl, by decide +kernel, by decide +kernel⟩
theorem ok_bag {f : Addr} {fd : FuncData} (D : DefAt K mg "_law_bag" s_bag P_bag f fd) (T : Txt K mg) : FnOk P w K mg base CX0 1 f fd P_bag sp_bag9 := by
  refine D.fn.ok sc_bag (fun vs H Q E h => ?_) (fun cdv A outer s H vs Q E hr h => ?_)
  · obtain ⟨n, rfl, _⟩ := h
    rfl
  · obtain ⟨n, rfl, nb, ret⟩ := h
    refine ⟨_, (pss_cons (ps_asg (pe_ifExp (pt_chain op_le op_lt pe_int (pv 0) (pe_op op_pow pe_int pe_int)) pe_int (pe_callB call_abs (by rfl) T.abs (by decide +kernel) (pa_cons (pv 0) pa_nil))) (pg_name (i := 1) sc_bag.nd rfl (.inl rfl)))
      (pss_cons (ps_asg (pe_op op_mod (pe_callTy call_int1 (by rfl) T.int (by decide +kernel) (pa_cons (pv 0) pa_nil)) pe_int) (pg_name (i := 2) sc_bag.nd rfl (.inl rfl)))
      (pss_one (ps_ret (pe_lst (pa_cons (pe_op op_mod (pe_callTy call_int1 (by rfl) T.int (by decide +kernel) (pa_cons (pe_op op_add (pe_op op_mul (pv 2) (pe_op op_add (pe_op op_mod (pe_callTy call_int1 (by rfl) T.int (by decide +kernel) (pa_cons (pv 2) pa_nil)) pe_int) pe_int)) pe_int) pa_nil)) pe_int) (pa_cons (pv 1) (pa_cons pe_int pa_nil)))))))), ?_⟩
    have fin : ∀ d : Int, 0 ≤ d → Builtin.Int.intBits d ≤ 1048576 → ∀ p, H p = none → ∀ z : Int, Q (.ref p) (upd H p (.lst [.int (z % 2147483399), .int d, .int 0])) := fun d d0 d1 p hp z =>
      ret p _ hp (same_new hp) ⟨z % 2147483399, d, upd_same, Int.emod_nonneg _ (by decide), Int.emod_lt_of_pos _ (by decide), d0, d1⟩
    refine ⟨_, rfl, _, _, rfl, rfl, _, rfl, ?_⟩
    refine ite2 (fun hc => ?_) (fun hc => ?_)
    · refine ⟨_, _, rfl, rfl, ⟨by decide, by decide, by decide⟩, _, _, rfl, rfl, _, rfl, ?_⟩
      refine ite2 (fun hc2 => ?_) (fun hc2 => ?_)
      · refine ⟨_, rfl, .inl ⟨_, rfl, _, _, rfl, rfl, (by show (0 : Int) < _; decide), _, rfl, _, rfl, .inl ⟨_, rfl, _, _, rfl, rfl, (by show (0 : Int) < _; decide), _, _, rfl, rfl, _, _, rfl, rfl, .inl ⟨?_, ?_⟩, _, _, rfl, rfl, .inl ⟨_, rfl, _, _, rfl, rfl, (by show (0 : Int) < _; decide), _, rfl, (by show 3 ≤ sizeLine; decide), fun p hp => ?_⟩⟩⟩⟩
        · show -(2 ^ 64) < n % 2147483399
          omega
        · show n % 2147483399 < 2 ^ 64
          omega
        · exact fin 0 (by decide) (by decide) p hp _
      · refine ⟨_, rfl, _, rfl, _, rfl, .inl ⟨_, rfl, _, _, rfl, rfl, (by show (0 : Int) < _; decide), _, rfl, _, rfl, .inl ⟨_, rfl, _, _, rfl, rfl, (by show (0 : Int) < _; decide), _, _, rfl, rfl, _, _, rfl, rfl, .inl ⟨?_, ?_⟩, _, _, rfl, rfl, .inl ⟨_, rfl, _, _, rfl, rfl, (by show (0 : Int) < _; decide), _, rfl, (by show 3 ≤ sizeLine; decide), fun p hp => ?_⟩⟩⟩⟩
        · show -(2 ^ 64) < n % 2147483399
          omega
        · show n % 2147483399 < 2 ^ 64
          omega
        · refine fin _ ?_ (Nat.le_trans (bits_mono ?_) nb) p hp _
          · split <;> omega
          · split <;> omega
    · refine ⟨_, rfl, iteF ⟨_, rfl, _, rfl, _, rfl, .inl ⟨_, rfl, _, _, rfl, rfl, (by show (0 : Int) < _; decide), _, rfl, _, rfl, .inl ⟨_, rfl, _, _, rfl, rfl, (by show (0 : Int) < _; decide), _, _, rfl, rfl, _, _, rfl, rfl, .inl ⟨?_, ?_⟩, _, _, rfl, rfl, .inl ⟨_, rfl, _, _, rfl, rfl, (by show (0 : Int) < _; decide), _, rfl, (by show 3 ≤ sizeLine; decide), fun p hp => ?_⟩⟩⟩⟩⟩
      · show -(2 ^ 64) < n % 2147483399
        omega
      · show n % 2147483399 < 2 ^ 64
        omega
      · refine fin _ ?_ (Nat.le_trans (bits_mono ?_) nb) p hp _
        · split <;> omega
        · split <;> omega
abbrev s_seed : Stmt := top 45
abbrev N_seed : List Str := ["_law_script", "_law_k", "_law_mixed", "_law_number"]
abbrev P_seed : List Str := ["_law_script", "_law_k"]
theorem sc_seed : FnScope N_seed P_seed (defScope s_seed) := ⟨rfl, rfl, rfl, by decide +kernel, rfl, by decide +kernel, by decide +kernel⟩
theorem ok_seed {f : Addr} {fd : FuncData} (D : DefAt K mg "_law_seed" s_seed P_seed f fd) (T : Txt K mg) : FnOk P w K mg base CX0 1 f fd P_seed (sp_seed K) := by
  refine D.fn.ok sc_seed (fun vs H Q E h => ?_) (fun cdv A outer s H vs Q E hr h => ?_)
  · obtain ⟨a, ns, k, rfl, _⟩ := h
    rfl
  · obtain ⟨a, ns, k, rfl, hS, bits, k0, k1, ret⟩ := h
    refine ⟨_, (pss_cons (ps_if (pt_cmpR op_lt (pv 1) (pe_callB call_len_seq (by rfl) T.len (by decide +kernel) (pa_cons (pv 0) pa_nil)) (nomark _))
      (pss_one (ps_ret (pe_ix ix_list (pv 0) (pv 1) (fun _ _ => rfl))))
      pss_nil)
      (pss_cons (ps_asg (pe_op op_add pe_int (pe_op op_mul (pe_op op_mul pe_int (pv 1)) (pv 1))) (pg_name (i := 2) sc_seed.nd rfl (.inl rfl)))
      (pss_cons (ps_for PassesOwn.never rfl (pi_list (pe_slice sl_list (pv 0) po_none (po_some pe_int))) (pg_name (i := 3) sc_seed.nd rfl (.inl rfl))
      (pss_one (ps_asg (pe_op op_mod (pe_callTy call_int1 (by rfl) T.int (by decide +kernel) (pa_cons (pe_op op_add (pe_op op_mul (pv 2) pe_int) (pv 3)) pa_nil)) pe_int) (pg_name (i := 2) sc_seed.nd rfl (.inl rfl)))))
      (pss_one (ps_ret (pv 2)))))), ?_⟩
    refine ⟨_, rfl, _, rfl, _, _, rfl, .inl hS, _, _, rfl, rfl, _, rfl, ?_⟩
    refine ite2 (fun hc => ?_) (fun hc => ?_)
    · have hlt : k < ns.length := by simpa using hc
      obtain ⟨j, rfl⟩ := Int.eq_ofNat_of_zero_le k0
      have hj : j < ns.length := by omega
      have hat : (ns.map V.int)[j]? = some (.int ns[j]) := by simp [hj]
      exact ⟨_, rfl, _, rfl, _, _, _, _, rfl, rfl, hS, atI_nat hat, ret _ _ (Same.refl H) (bits _ (List.getElem_mem _))⟩
    · refine ⟨_, rfl, _, _, rfl, rfl, .inl ⟨by decide, by decide⟩, _, rfl, _, _, rfl, rfl, .inr ⟨by omega, by omega⟩, _, _, rfl, rfl, _, rfl, _, rfl, _, _, rfl, hS, fun p hp => ?_⟩
      refine ⟨p, rfl, ⟨_, SqL.of upd_same⟩, for_list (K := K) (a := p) (xs := cutV (ns.map V.int) none (some 4)) (fun i σ' H' => ∃ (z : Int) (v : Option V), σ' = [some (.ref a), some (.int k), some (.int z), v] ∧
        H' = upd H p (.lst (cutV (ns.map V.int) none (some 4))) ∧ 0 ≤ z ∧ z < 2 ^ 50) ⟨_, none, rfl, rfl, ?_, ?_⟩ ?_ ?_ ?_⟩
      · have q : 0 ≤ k * k := Int.mul_nonneg k0 k0
        show 0 ≤ 7919 + 104729 * k * k
        rw [Int.mul_assoc]
        omega
      · have q : k * k ≤ 1000 * 1000 := Int.mul_le_mul (by omega) (by omega) k0 (by decide)
        show 7919 + 104729 * k * k < 2 ^ 50
        rw [Int.mul_assoc]
        omega
      · rintro i σ' H' _ ⟨z, v, _, rfl, _⟩
        exact SqL.of upd_same
      · rintro i x σ' H' hx ⟨z, v, rfl, rfl, _, _⟩
        have hm : x ∈ ns.map V.int := by
          have q := List.mem_of_getElem? hx
          exact List.mem_of_mem_drop (List.mem_of_mem_take q)
        obtain ⟨n, _, rfl⟩ := List.mem_map.mp hm
        refine ⟨_, rfl, _, _, rfl, rfl, .inr ⟨by decide, by decide⟩, _, rfl, _, _, rfl, rfl, .inl ⟨_, rfl, _, _, rfl, rfl, (by show (0 : Int) < _; decide), ?_⟩⟩
        refine ⟨_, _, rfl, rfl, ?_, ?_⟩
        · exact Int.emod_nonneg _ (by decide)
        · have q := Int.emod_lt_of_pos (z * 52711 + n) (b := 2147483563) (by decide)
          show (z * 52711 + n) % 2147483563 < 2 ^ 50
          omega
      · rintro σ' H' ⟨z, v, rfl, rfl, z0, z1⟩
        refine ⟨_, rfl, ret _ _ (same_new hp) (bits_small ?_)⟩
        have : z.natAbs < 2 ^ 50 := by omega
        exact Nat.lt_trans this (Nat.pow_lt_pow_right (by decide) (by decide))
end L
namespace L
open PySem L2 Hv Ev
variable {P : Program} {w : World} {K : PySem.W.Frag} {mg : Str → Option Value} {base : Heap}
def sp_law0 (K : PySem.W.Frag) : Sp := fun vs H Q _ => ∃ (a : Addr) (ns : List Int), vs = [.ref a] ∧ SqL K H a (ns.map V.int) ∧ (∀ z ∈ ns, Builtin.Int.intBits z ≤ 1048576) ∧ ns.length ≤ 63 ∧ ∀ H', Q (.bl true) H'
abbrev s_law : Stmt := top 64
abbrev N_law : List Str := ["_law_script", "_law_bounds_here", "_law_k"]
abbrev P_law : List Str := ["_law_script"]
theorem sc_law : FnScope N_law P_law (defScope s_law) := ⟨rfl, rfl, rfl, by decide +kernel, rfl, by decide +kernel, by decide +kernel⟩
theorem ok_law0 {f f1 f2 f3 f4 f5 f6 : Addr} {fd fd1 fd2 fd3 fd4 fd5 fd6 : FuncData} {l : List Str} {R : Rules} (D : Fun K "law" "law" s_law f fd) (T : Txt K mg) (D_right : DefAt K mg "_law_right" s_right P_right f1 fd1) (G_right : OkG P w K mg base CX0 10 f1 fd1 P_right (spW K pre_right)) (D_longest_right : DefAt K mg "_law_longest_right" s_longest_right P_longest_right f2 fd2) (G_longest_right : OkG P w K mg base CX0 10 f2 fd2 P_longest_right (spE K pre_longest_right)) (D_back : DefAt K mg "_law_back" s_back P_back f3 fd3) (G_back : OkG P w K mg base CX0 10 f3 fd3 P_back (spE K pre_back)) (D_bounds : DefAt K mg "_law_bounds" s_bounds P_bounds f6 fd6) (G_bounds : FnOk P w K mg base CX0 10 f6 fd6 P_bounds (spO K pre_bounds)) (D_seed : DefAt K mg "_law_seed" s_seed P_seed f4 fd4) (D_bag : DefAt K mg "_law_bag" s_bag P_bag f5 fd5)
    (hB : fn_bounds = some l) (hL : fn_longest_right = some true) (hS : fn_back ⟨[⟨("a" : Str), (0 : Int), .inl (1 : Int), none, none⟩], []⟩ = some (some R)) (hR : ∀ s d : Int, 0 ≤ s → s < 2147483399 → 0 ≤ d → Builtin.Int.intBits d ≤ 1048576 → ∃ w1, fn_right ⟨s, d, 0⟩ l = some (true, w1)) : OkG P w K mg base CX0 11 f fd P_law (sp_law0 K) := by
  have G_seed : FnOk P w K mg base CX0 1 f4 fd4 P_seed (sp_seed K) := ok_seed D_seed T
  have G_bag : FnOk P w K mg base CX0 1 f5 fd5 P_bag sp_bag9 := ok_bag D_bag T
  refine okG0 D sc_law (fun vs H Q E h => ?_) (fun cdv A outer s H vs Q E hG hr h => ?_)
  · obtain ⟨a, ns, rfl, _⟩ := h
    rfl
  · obtain ⟨a, ns, rfl, hS0, bits, l63, ret⟩ := h
    refine ⟨_, (pss_cons (ps_asg (pe_call0 G_bounds (hr.mono (by decide)) rfl D_bounds.mg D_bounds.fn.kp D_bounds.bd .nil pass0) (pg_name (i := 1) sc_law.nd rfl (.inl rfl)))
      (pss_cons (ps_if (PW.pt (pw_or (pt_not (pt_val (pe_call0G G_longest_right hG (hr.mono (by decide)) rfl D_longest_right.mg D_longest_right.fn.kp D_longest_right.bd .nil pass0))) (pw_or1 (pt_cmpR op_isN (pe_callG G_back hG (hr.mono (by decide)) rfl D_back.mg D_back.fn.kp D_back.bd .nil pass0 (pa_cons (pe_lst (pa_cons (pe_lst (pa_cons (pe_lst (pa_cons pe_str (pa_cons pe_int (pa_cons pe_int (pa_cons pe_non (pa_cons pe_non pa_nil)))))) pa_nil)) (pa_cons (pe_lst pa_nil) pa_nil))) pa_nil)) pe_non (nomark _)))))
      (pss_one (ps_ret pe_bl))
      pss_nil)
      (pss_cons (ps_for PassesOwn.never rfl (pi_range1 (by rfl) T.range (pa_cons (pe_callB (call_max2 rfl) (by rfl) T.max (by decide +kernel) (pa_cons pe_int (pa_cons (pe_callB (call_min2 rfl) (by rfl) T.min (by decide +kernel) (pa_cons (pe_callB call_len_seq (by rfl) T.len (by decide +kernel) (pa_cons (pv 0) pa_nil)) (pa_cons pe_int pa_nil))) pa_nil))) pa_nil)) (pg_name (i := 2) sc_law.nd rfl (.inl rfl))
      (pss_one (ps_if (pt_not (pt_val (pe_callG G_right hG (hr.mono (by decide)) rfl D_right.mg D_right.fn.kp D_right.bd .nil pass0 (pa_cons (pe_call G_bag (hr.mono (by decide)) rfl D_bag.mg D_bag.fn.kp D_bag.bd .nil pass0 (pa_cons (pe_call G_seed (hr.mono (by decide)) rfl D_seed.mg D_seed.fn.kp D_seed.bd .nil pass0 (pa_cons (pv 0) (pa_cons (pv 2) pa_nil))) pa_nil)) (pa_cons (pv 1) pa_nil)))))
      (pss_one (ps_ret pe_bl))
      pss_nil)))
      (pss_one (ps_ret pe_bl))))), ?_⟩
    refine ⟨fun _ => none, [], toD l, (fun _ _ q => nomatch q), .nil, ⟨_, rfl, hB, rfl⟩, fun ab o H1 F1 g1 f1 h1 hb ro => ?_⟩
    have hl : o = .lst (l.map V.str) := by
      cases ro with
      | lst t => rw [Reps.strs t]
    subst hl
    have nil0 : ∀ H : Hp, Same (fun _ => none) H := fun _ _ _ q => nomatch q
    have rl : ∀ F : Hp, F ab = some (.lst (l.map V.str)) → Rep K F (.ref ab) (toD l) := fun F e => .ref e (.lst (Reps.ofStrs l))
    refine ⟨fun _ => none, [], .bl true, nil0 _, .nil, ⟨true, rfl, hL, rfl⟩, fun v H2 F2 g2 r2 => ?_⟩
    cases r2.bl_
    refine ⟨true, rfl, ?_⟩
    refine iteF ?_
    refine ⟨by show 5 ≤ sizeLine; decide, fun p1 hp1 => ⟨by show 1 ≤ sizeLine; decide, fun p2 hp2 => ⟨by show 0 ≤ sizeLine; decide, fun p3 hp3 => ⟨by show 2 ≤ sizeLine; decide, fun p4 hp4 => ?_⟩⟩⟩⟩
    have s1 := sameN (o := .lst [.str ("a" : Str), .int 0, .int 1, .non, .non]) hp1
    have s2 := sameN (o := .lst [.ref p1]) hp2
    have s3 := sameN (o := .lst []) hp3
    have s4 := sameN (o := .lst [.ref p2, .ref p3]) hp4
    have hb4 := s4 _ _ (s3 _ _ (s2 _ _ (s1 _ _ (g2.h _ _ hb))))
    have e1 := s4 _ _ (s3 _ _ (s2 _ _ (upd_same (H := H2) (a := p1) (o := .lst [.str ("a" : Str), .int 0, .int 1, .non, .non]))))
    have e2 := s4 _ _ (s3 _ _ (upd_same (H := upd H2 p1 (.lst [.str ("a" : Str), .int 0, .int 1, .non, .non])) (a := p2) (o := .lst [.ref p1])))
    have e3 := s4 _ _ (upd_same (H := upd (upd H2 p1 (.lst [.str ("a" : Str), .int 0, .int 1, .non, .non])) p2 (.lst [.ref p1])) (a := p3) (o := .lst []))
    have e4 := upd_same (H := upd (upd (upd H2 p1 (.lst [.str ("a" : Str), .int 0, .int 1, .non, .non])) p2 (.lst [.ref p1])) p3 (.lst [])) (a := p4) (o := .lst [.ref p2, .ref p3])
    have sA := ((s1.trans s2).trans s3).trans s4
    generalize hH4 : upd (upd (upd (upd H2 p1 (.lst [.str ("a" : Str), .int 0, .int 1, .non, .non])) p2 (.lst [.ref p1])) p3 (.lst [])) p4 (.lst [.ref p2, .ref p3]) = H4 at hb4 e1 e2 e3 e4 sA
    refine ⟨H4, [.k (toD (⟨[⟨("a" : Str), (0 : Int), .inl (1 : Int), none, none⟩], []⟩ : Q2 (List (Q5 Str Int (Int ⊕ Str) (Option (P2 Int Str)) (Option Str))) (List (List Str))))], toD (some R), by rw [← hH4]; exact Same.refl _, .cons (.ref e4 (.lst (.cons (.ref e2 (.lst (.cons (.ref e1 (.lst (.cons (.str _) (.cons (.int _) (.cons (.int _) (.cons .non (.cons .non .nil))))))) .nil))) (.cons (.ref e3 (.lst .nil)) .nil)))) .nil, ⟨_, _, rfl, hS, rfl⟩, fun v H5 F5 g5 r5 => ?_⟩
    have sH : Same H H5 := ((g1.h.trans g2.h).trans sA).trans (by intro c u q; exact g5.h _ _ (by first | exact q | (rw [← hH4]; exact q)))
    have hb5 : H5 ab = some (.lst (l.map V.str)) := g5.h _ _ (by first | exact hb4 | (rw [hH4]; exact hb4))
    refine ⟨rfl, false, congrArg V.bl (rep_non r5), iteF ?_⟩
    have i62 : (2 : Int) ^ 62 = 4611686018427387904 := by decide
    refine ⟨_, rfl, a, _, rfl, .inl (sH.seq hS0), _, _, rfl, _, _, rfl, _, rfl, ?_, ?_, ?_⟩
    · split <;> split <;> omega
    · split <;> split <;> omega
    have big : (if (if (6 : Int) < ((ns.map V.int).length : Nat) then (6 : Int) else ((ns.map V.int).length : Nat)) > 2 then (if (6 : Int) < ((ns.map V.int).length : Nat) then (6 : Int) else ((ns.map V.int).length : Nat)) else 2).toNat ≤ 6 := by
      split <;> split <;> omega
    generalize (if (if (6 : Int) < ((ns.map V.int).length : Nat) then (6 : Int) else ((ns.map V.int).length : Nat)) > 2 then (if (6 : Int) < ((ns.map V.int).length : Nat) then (6 : Int) else ((ns.map V.int).length : Nat)) else 2).toNat = m at big
    refine for_range (lo := 0) (n := m) (fun i σ' H' => ∃ v1, σ' = [some (.ref a), some (.ref ab), v1] ∧ Same H H' ∧ H' ab = some (.lst (l.map V.str))) ⟨none, rfl, sH, hb5⟩ ?_ ?_
    · rintro i σ' H1 hi ⟨v1, rfl, s1, hb1⟩
      refine ⟨_, rfl, _, rfl, a, ns, _, rfl, s1.seq hS0, bits, by omega, by omega, fun n H2 s2 nb => ?_⟩
      refine ⟨n, rfl, nb, fun p H3 hp s3 hw => ?_⟩
      obtain ⟨x, d, hw1, x0, x1, d0, db⟩ := hw
      obtain ⟨w1, q1⟩ := hR x d x0 x1 d0 db
      have hb3 := s3 _ _ (s2 _ _ hb1)
      have np : p ≠ ab := fun z => by
        have := s2 _ _ hb1
        rw [← z, hp] at this
        cases this
      refine ⟨_, rfl, upd (fun _ => none) ab (.lst (l.map V.str)), p, _, toD (⟨x, d, 0⟩ : Q3 Int Int Int), [toD l], [.ref ab], .bl true, toD w1, rfl, (fun c u q => ?_), upd_ne np, hw1, .lst (.cons (.int _) (.cons (.int _) (.cons (.int _) .nil))), .cons (rl _ upd_same) .nil, ⟨_, _, _, rfl, rfl, q1, rfl, rfl⟩, fun v H4 F4 o4 keep4 _ s4 n4 h4 ro4 rv4 => ?_⟩
      · by_cases z : c = ab
        · subst z
          rw [upd_same] at q
          cases q
          exact hb3
        · rw [upd_ne z] at q
          cases q
      cases rv4.bl_
      refine ⟨true, rfl, ?_⟩
      dsimp only [Bool.not_true]
      rw [if_neg (by decide)]
      have b3 : Same H1 H3 := s2.trans s3
      have b4 : But p H3 H4 := fun c o n q => keep4 c o n q
      exact ⟨_, rfl, same_but (s1.trans b3) ((s1.trans s2).free hp) b4, keep4 _ _ (fun z => np z.symm) hb3⟩
    · rintro σ' H1 ⟨v1, rfl, s1, hb1⟩
      exact ret _
end L
namespace L
open PySem L2 Hv Ev
theorem all_in {w : World} {mg : Str → Option Value} {fa : Addr} {h : Heap} {K : PySem.W.Frag} (c : Hv.Says fbs fns htf h K) (G : h.Ns mainGlobals mg) (hfa : mg "law" = some (.ref fa)) : Hv.LawT PySem.Challenge.rw_heldvotes_k09_whole_texts_read_back w K 11 63 "_law_script" mg fa htf := by
  have X := c.kin
  have C_Kind : Ev.ClsF K "Kind" := Ev.cls_of (c.b 0 (f := fb_0) rfl)
  have C_Row : Ev.ClsF K "Row" := Ev.cls_of (c.b 1 (f := fb_1) rfl)
  have C_Rules : Ev.ClsF K "Rules" := Ev.cls_of (c.b 2 (f := fb_2) rfl)
  have T : Txt K mg := ⟨PySem.W.mg_none_of X G (of_decide_eq_true (c.b 3 (f := fb_3) rfl)), PySem.W.mg_none_of X G (of_decide_eq_true (c.b 4 (f := fb_4) rfl)), PySem.W.mg_none_of X G (of_decide_eq_true (c.b 5 (f := fb_5) rfl)), PySem.W.mg_none_of X G (of_decide_eq_true (c.b 6 (f := fb_6) rfl)), PySem.W.mg_none_of X G (of_decide_eq_true (c.b 7 (f := fb_7) rfl)), PySem.W.mg_none_of X G (of_decide_eq_true (c.b 8 (f := fb_8) rfl)), PySem.W.mg_none_of X G (of_decide_eq_true (c.b 9 (f := fb_9) rfl)), PySem.W.mg_none_of X G (of_decide_eq_true (c.b 10 (f := fb_10) rfl)), PySem.W.mg_none_of X G (of_decide_eq_true (c.b 11 (f := fb_11) rfl)), PySem.W.mg_none_of X G (of_decide_eq_true (c.b 12 (f := fb_12) rfl)), PySem.W.mg_none_of X G (of_decide_eq_true (c.b 13 (f := fb_13) rfl)), PySem.W.mg_none_of X G (of_decide_eq_true (c.b 14 (f := fb_14) rfl)), PySem.W.mg_none_of X G (of_decide_eq_true (c.b 15 (f := fb_15) rfl)), PySem.W.mg_none_of X G (of_decide_eq_true (c.b 16 (f := fb_16) rfl)), PySem.W.mg_none_of X G (of_decide_eq_true (c.b 17 (f := fb_17) rfl)), PySem.W.mg_none_of X G (of_decide_eq_true (c.b 18 (f := fb_18) rfl)), PySem.W.mg_none_of X G (of_decide_eq_true (c.b 19 (f := fb_19) rfl)), PySem.W.mg_none_of X G (of_decide_eq_true (c.b 20 (f := fb_20) rfl)), PySem.W.mg_none_of X G (of_decide_eq_true (c.b 21 (f := fb_21) rfl)), (by obtain ⟨v, e, t, rfl⟩ := Hv.intIn_of (c.b 22 (f := fb_22) rfl); exact ⟨t, PySem.W.mg_of X G e⟩), (by obtain ⟨v, e, t, rfl⟩ := Hv.intIn_of (c.b 23 (f := fb_23) rfl); exact ⟨t, PySem.W.mg_of X G e⟩), (by obtain ⟨v, e, t, rfl⟩ := Hv.intIn_of (c.b 24 (f := fb_24) rfl); exact ⟨t, PySem.W.mg_of X G e⟩), (by obtain ⟨v, e, t, rfl⟩ := Hv.intIn_of (c.b 25 (f := fb_25) rfl); exact ⟨t, PySem.W.mg_of X G e⟩), (by obtain ⟨v, e, t, rfl⟩ := Hv.intIn_of (c.b 26 (f := fb_26) rfl); exact ⟨t, PySem.W.mg_of X G e⟩), (by obtain ⟨v, e, t, rfl⟩ := Hv.intIn_of (c.b 27 (f := fb_27) rfl); exact ⟨t, PySem.W.mg_of X G e⟩), (by obtain ⟨v, e, t, rfl⟩ := Hv.strIn_of (c.b 28 (f := fb_28) rfl); exact ⟨t, PySem.W.mg_of X G e⟩), (by obtain ⟨v, e, t, rfl⟩ := Hv.strIn_of (c.b 29 (f := fb_29) rfl); exact ⟨t, PySem.W.mg_of X G e⟩), (by obtain ⟨v, e, t, rfl⟩ := Hv.strIn_of (c.b 30 (f := fb_30) rfl); exact ⟨t, PySem.W.mg_of X G e⟩), C_Kind.cl, PySem.W.mg_of X G C_Kind.ns, Ev.is_of (c.b 31 (f := fb_31) rfl) C_Kind, Ev.na_of (c.b 32 (f := fb_32) rfl), C_Row.cl, PySem.W.mg_of X G C_Row.ns, Ev.is_of (c.b 33 (f := fb_33) rfl) C_Row, Ev.na_of (c.b 34 (f := fb_34) rfl), C_Rules.cl, PySem.W.mg_of X G C_Rules.ns, Ev.is_of (c.b 35 (f := fb_35) rfl) C_Rules, Ev.na_of (c.b 36 (f := fb_36) rfl), Ev.na_of (c.b 37 (f := fb_37) rfl), Ev.na_of (c.b 38 (f := fb_38) rfl), Ev.eqf_of (c.b 39 (f := fb_39) rfl) (c.b 40 (f := fb_40) rfl) (c.b 41 (f := fb_41) rfl)⟩
  obtain ⟨f_is_integer, fd_is_integer, D_is_integer⟩ := (Hv.defIn_of (c.d 0 (f := Hv.defG "is_integer" s_is_integer) rfl) (of_decide_eq_true (c.b 42 (f := fb_42) rfl))).at X G (ps := P_is_integer) (fun _ _ _ _ _ _ us hl => match us, hl with | [_], _ => rfl)
  obtain ⟨f_is_name, fd_is_name, D_is_name⟩ := (Hv.defIn_of (c.d 1 (f := Hv.defG "is_name" s_is_name) rfl) (of_decide_eq_true (c.b 43 (f := fb_43) rfl))).at X G (ps := P_is_name) (fun _ _ _ _ _ _ us hl => match us, hl with | [_], _ => rfl)
  obtain ⟨f_common_divisor, fd_common_divisor, D_common_divisor⟩ := (Hv.defIn_of (c.d 2 (f := Hv.defG "common_divisor" s_common_divisor) rfl) (of_decide_eq_true (c.b 44 (f := fb_44) rfl))).at X G (ps := P_common_divisor) (fun _ _ _ _ _ _ us hl => match us, hl with | [_, _], _ => rfl)
  obtain ⟨f_number_of, fd_number_of, D_number_of⟩ := (Hv.defIn_of (c.d 3 (f := Hv.defG "number_of" s_number_of) rfl) (of_decide_eq_true (c.b 45 (f := fb_45) rfl))).at X G (ps := P_number_of) (fun _ _ _ _ _ _ us hl => match us, hl with | [_, _], _ => rfl)
  obtain ⟨f_fraction_of, fd_fraction_of, D_fraction_of⟩ := (Hv.defIn_of (c.d 4 (f := Hv.defG "fraction_of" s_fraction_of) rfl) (of_decide_eq_true (c.b 46 (f := fb_46) rfl))).at X G (ps := P_fraction_of) (fun _ _ _ _ _ _ us hl => match us, hl with | [_], _ => rfl)
  obtain ⟨f_is_bound, fd_is_bound, D_is_bound⟩ := (Hv.defIn_of (c.d 5 (f := Hv.defG "is_bound" s_is_bound) rfl) (of_decide_eq_true (c.b 47 (f := fb_47) rfl))).at X G (ps := P_is_bound) (fun _ _ _ _ _ _ us hl => match us, hl with | [_], _ => rfl)
  obtain ⟨f_is_needs, fd_is_needs, D_is_needs⟩ := (Hv.defIn_of (c.d 6 (f := Hv.defG "is_needs" s_is_needs) rfl) (of_decide_eq_true (c.b 48 (f := fb_48) rfl))).at X G (ps := P_is_needs) (fun _ _ _ _ _ _ us hl => match us, hl with | [_], _ => rfl)
  obtain ⟨f_is_closing, fd_is_closing, D_is_closing⟩ := (Hv.defIn_of (c.d 7 (f := Hv.defG "is_closing" s_is_closing) rfl) (of_decide_eq_true (c.b 49 (f := fb_49) rfl))).at X G (ps := P_is_closing) (fun _ _ _ _ _ _ us hl => match us, hl with | [_], _ => rfl)
  obtain ⟨f_sort_of, fd_sort_of, D_sort_of⟩ := (Hv.defIn_of (c.d 8 (f := Hv.defG "sort_of" s_sort_of) rfl) (of_decide_eq_true (c.b 50 (f := fb_50) rfl))).at X G (ps := P_sort_of) (fun _ _ _ _ _ _ us hl => match us, hl with | [_], _ => rfl)
  obtain ⟨f_Kind_name, fd_Kind_name, D_Kind_name⟩ := (Hv.propIn_of (c.b 51 (f := fb_51) rfl) (c.d 9 (f := Hv.defP "Kind" "name" "Kind.name" s_Kind_name) rfl)).at (ps := P_Kind_name) (fun _ _ _ _ _ _ us hl => match us, hl with | [_], _ => rfl)
  obtain ⟨f_Kind_talks, fd_Kind_talks, D_Kind_talks⟩ := (Hv.propIn_of (c.b 52 (f := fb_52) rfl) (c.d 10 (f := Hv.defP "Kind" "talks" "Kind.talks" s_Kind_talks) rfl)).at (ps := P_Kind_talks) (fun _ _ _ _ _ _ us hl => match us, hl with | [_], _ => rfl)
  obtain ⟨f_Kind_needs, fd_Kind_needs, D_Kind_needs⟩ := (Hv.propIn_of (c.b 53 (f := fb_53) rfl) (c.d 11 (f := Hv.defP "Kind" "needs" "Kind.needs" s_Kind_needs) rfl)).at (ps := P_Kind_needs) (fun _ _ _ _ _ _ us hl => match us, hl with | [_], _ => rfl)
  obtain ⟨f_Kind_closing, fd_Kind_closing, D_Kind_closing⟩ := (Hv.propIn_of (c.b 54 (f := fb_54) rfl) (c.d 12 (f := Hv.defP "Kind" "closing" "Kind.closing" s_Kind_closing) rfl)).at (ps := P_Kind_closing) (fun _ _ _ _ _ _ us hl => match us, hl with | [_], _ => rfl)
  obtain ⟨f_Kind_ends, fd_Kind_ends, D_Kind_ends⟩ := (Hv.propIn_of (c.b 55 (f := fb_55) rfl) (c.d 13 (f := Hv.defP "Kind" "ends" "Kind.ends" s_Kind_ends) rfl)).at (ps := P_Kind_ends) (fun _ _ _ _ _ _ us hl => match us, hl with | [_], _ => rfl)
  obtain ⟨f_Row_outer, fd_Row_outer, D_Row_outer⟩ := (Hv.propIn_of (c.b 56 (f := fb_56) rfl) (c.d 14 (f := Hv.defP "Row" "outer" "Row.outer" s_Row_outer) rfl)).at (ps := P_Row_outer) (fun _ _ _ _ _ _ us hl => match us, hl with | [_], _ => rfl)
  obtain ⟨f_Row_inner, fd_Row_inner, D_Row_inner⟩ := (Hv.propIn_of (c.b 57 (f := fb_57) rfl) (c.d 15 (f := Hv.defP "Row" "inner" "Row.inner" s_Row_inner) rfl)).at (ps := P_Row_inner) (fun _ _ _ _ _ _ us hl => match us, hl with | [_], _ => rfl)
  obtain ⟨f_Row_amount, fd_Row_amount, D_Row_amount⟩ := (Hv.propIn_of (c.b 58 (f := fb_58) rfl) (c.d 16 (f := Hv.defP "Row" "amount" "Row.amount" s_Row_amount) rfl)).at (ps := P_Row_amount) (fun _ _ _ _ _ _ us hl => match us, hl with | [_], _ => rfl)
  obtain ⟨f_line_of_kind, fd_line_of_kind, D_line_of_kind⟩ := (Hv.defIn_of (c.d 17 (f := Hv.defG "line_of_kind" s_line_of_kind) rfl) (of_decide_eq_true (c.b 59 (f := fb_59) rfl))).at X G (ps := P_line_of_kind) (fun _ _ _ _ _ _ us hl => match us, hl with | [_], _ => rfl)
  obtain ⟨f_line_of_row, fd_line_of_row, D_line_of_row⟩ := (Hv.defIn_of (c.d 18 (f := Hv.defG "line_of_row" s_line_of_row) rfl) (of_decide_eq_true (c.b 60 (f := fb_60) rfl))).at X G (ps := P_line_of_row) (fun _ _ _ _ _ _ us hl => match us, hl with | [_], _ => rfl)
  obtain ⟨f_after_number, fd_after_number, D_after_number⟩ := (Hv.defIn_of (c.d 19 (f := Hv.defG "after_number" s_after_number) rfl) (of_decide_eq_true (c.b 61 (f := fb_61) rfl))).at X G (ps := P_after_number) (fun _ _ _ _ _ _ us hl => match us, hl with | [_, _, _], _ => rfl)
  obtain ⟨f_after_bound, fd_after_bound, D_after_bound⟩ := (Hv.defIn_of (c.d 20 (f := Hv.defG "after_bound" s_after_bound) rfl) (of_decide_eq_true (c.b 62 (f := fb_62) rfl))).at X G (ps := P_after_bound) (fun _ _ _ _ _ _ us hl => match us, hl with | [_, _], _ => rfl)
  obtain ⟨f_Rules_kinds, fd_Rules_kinds, D_Rules_kinds⟩ := (Hv.propIn_of (c.b 63 (f := fb_63) rfl) (c.d 21 (f := Hv.defP "Rules" "kinds" "Rules.kinds" s_Rules_kinds) rfl)).at (ps := P_Rules_kinds) (fun _ _ _ _ _ _ us hl => match us, hl with | [_], _ => rfl)
  obtain ⟨f_Rules_rows, fd_Rules_rows, D_Rules_rows⟩ := (Hv.propIn_of (c.b 64 (f := fb_64) rfl) (c.d 22 (f := Hv.defP "Rules" "rows" "Rules.rows" s_Rules_rows) rfl)).at (ps := P_Rules_rows) (fun _ _ _ _ _ _ us hl => match us, hl with | [_], _ => rfl)
  obtain ⟨f_check_kinds, fd_check_kinds, D_check_kinds⟩ := (Hv.defIn_of (c.d 23 (f := Hv.defG "check_kinds" s_check_kinds) rfl) (of_decide_eq_true (c.b 65 (f := fb_65) rfl))).at X G (ps := P_check_kinds) (fun _ _ _ _ _ _ us hl => match us, hl with | [_], _ => rfl)
  obtain ⟨f_check_rows, fd_check_rows, D_check_rows⟩ := (Hv.defIn_of (c.d 24 (f := Hv.defG "check_rows" s_check_rows) rfl) (of_decide_eq_true (c.b 66 (f := fb_66) rfl))).at X G (ps := P_check_rows) (fun _ _ _ _ _ _ us hl => match us, hl with | [_, _], _ => rfl)
  obtain ⟨f_Kind_init, fd_Kind_init, D_Kind_init⟩ := Ev.kindK_of (c.b 67 (f := fb_67) rfl) (c.b 68 (f := fb_68) rfl) C_Kind (c.d 25 (f := Hv.defM "Kind" "__init__" "Kind.__init__" s_Kind_init) rfl)
  obtain ⟨f_Row_init, fd_Row_init, D_Row_init⟩ := Ev.init_of (c := "Row") C_Row.ms C_Row.kp ((Hv.methIn_of (c.b 69 (f := fb_69) rfl) (c.d 26 (f := Hv.defM "Row" "__init__" "Row.__init__" s_Row_init) rfl)).at (ps := P_Row_init) (fun _ _ _ _ _ _ us hl => match us, hl with | [_, _, _, _], _ => rfl))
  obtain ⟨ta_Rules_init, f_Rules_init, fd_Rules_init, D_Rules_init⟩ := Ev.initR_of (ps := P_Rules_init) (c.b 70 (f := fb_70) rfl) (c.b 71 (f := fb_71) rfl) C_Rules (c.d 27 (f := Ev.defR "Rules" "Rules.__init__" s_Rules_init) rfl) (fun f fd F => by
    refine ⟨?_, ?_⟩
    · obtain ⟨ds, hv, hb⟩ := F.binds1 (ps := P_Rules_init) 3 1 (by simp) rfl (fun T kV doc pm an cdv ct us its h1 h2 => match us, its, h1, h2 with | [_, _, _], [_], _, _ => ⟨_, rfl, rfl⟩)
      cases hv
      exact hb
    · obtain ⟨ds, hv, hb⟩ := F.binds1 (ps := P_Rules_init) 2 0 (by simp) rfl (fun T kV doc pm an cdv ct us its h1 h2 => match us, its, h1, h2 with | [_, _], [_], _, _ => ⟨_, rfl, rfl⟩)
      cases hv with
      | cons r t =>
        cases t
        cases r; exact hb)
  obtain ⟨f_read_kind, fd_read_kind, D_read_kind⟩ := (Hv.defIn_of (c.d 28 (f := Hv.defG "read_kind" s_read_kind) rfl) (of_decide_eq_true (c.b 72 (f := fb_72) rfl))).at X G (ps := P_read_kind) (fun _ _ _ _ _ _ us hl => match us, hl with | [_], _ => rfl)
  obtain ⟨f_read_row, fd_read_row, D_read_row⟩ := (Hv.defIn_of (c.d 29 (f := Hv.defG "read_row" s_read_row) rfl) (of_decide_eq_true (c.b 73 (f := fb_73) rfl))).at X G (ps := P_read_row) (fun _ _ _ _ _ _ us hl => match us, hl with | [_], _ => rfl)
  obtain ⟨f_Rules_read, fd_Rules_read, D_Rules_read⟩ := Ev.cmeth_of (ps := P_Rules_read) (c.b 74 (f := fb_74) rfl) (c.b 75 (f := fb_75) rfl) (c.d 30 (f := Ev.defCM "Rules" "read" "Rules.read" s_Rules_read) rfl) (fun f fd F => F.binds (fun _ _ _ _ _ _ us hl => match us, hl with | [_, _], _ => rfl))
  obtain ⟨f_take, fd_take, D_take⟩ := (Hv.defIn_of (c.d 31 (f := Hv.defG "_law_take" s_take) rfl) (of_decide_eq_true (c.b 76 (f := fb_76) rfl))).at X G (ps := P_take) (fun _ _ _ _ _ _ us hl => match us, hl with | [_, _], _ => rfl)
  obtain ⟨f_common, fd_common, D_common⟩ := (Hv.defIn_of (c.d 32 (f := Hv.defG "_law_common" s_common) rfl) (of_decide_eq_true (c.b 77 (f := fb_77) rfl))).at X G (ps := P_common) (fun _ _ _ _ _ _ us hl => match us, hl with | [_, _], _ => rfl)
  obtain ⟨f_bounds, fd_bounds, D_bounds⟩ := (Hv.defIn_of (c.d 33 (f := Hv.defG "_law_bounds" s_bounds) rfl) (of_decide_eq_true (c.b 78 (f := fb_78) rfl))).at X G (ps := P_bounds) (fun _ _ _ _ _ _ us hl => match us, hl with | [], _ => rfl)
  obtain ⟨f_tag, fd_tag, D_tag⟩ := (Hv.defIn_of (c.d 34 (f := Hv.defG "_law_tag" s_tag) rfl) (of_decide_eq_true (c.b 79 (f := fb_79) rfl))).at X G (ps := P_tag) (fun _ _ _ _ _ _ us hl => match us, hl with | [_], _ => rfl)
  obtain ⟨f_tags, fd_tags, D_tags⟩ := (Hv.defIn_of (c.d 35 (f := Hv.defG "_law_tags" s_tags) rfl) (of_decide_eq_true (c.b 80 (f := fb_80) rfl))).at X G (ps := P_tags) (fun _ _ _ _ _ _ us hl => match us, hl with | [_, _], _ => rfl)
  obtain ⟨f_kind, fd_kind, D_kind⟩ := (Hv.defIn_of (c.d 36 (f := Hv.defG "_law_kind" s_kind) rfl) (of_decide_eq_true (c.b 81 (f := fb_81) rfl))).at X G (ps := P_kind) (fun _ _ _ _ _ _ us hl => match us, hl with | [_, _, _], _ => rfl)
  obtain ⟨f_amounts, fd_amounts, D_amounts⟩ := (Hv.defIn_of (c.d 37 (f := Hv.defG "_law_amounts" s_amounts) rfl) (of_decide_eq_true (c.b 82 (f := fb_82) rfl))).at X G (ps := P_amounts) (fun _ _ _ _ _ _ us hl => match us, hl with | [], _ => rfl)
  obtain ⟨f_links, fd_links, D_links⟩ := (Hv.defIn_of (c.d 38 (f := Hv.defG "_law_links" s_links) rfl) (of_decide_eq_true (c.b 83 (f := fb_83) rfl))).at X G (ps := P_links) (fun _ _ _ _ _ _ us hl => match us, hl with | [_, _], _ => rfl)
  obtain ⟨f_book, fd_book, D_book⟩ := (Hv.defIn_of (c.d 39 (f := Hv.defG "_law_book" s_book) rfl) (of_decide_eq_true (c.b 84 (f := fb_84) rfl))).at X G (ps := P_book) (fun _ _ _ _ _ _ us hl => match us, hl with | [_, _], _ => rfl)
  obtain ⟨f_kind_line, fd_kind_line, D_kind_line⟩ := (Hv.defIn_of (c.d 40 (f := Hv.defG "_law_kind_line" s_kind_line) rfl) (of_decide_eq_true (c.b 85 (f := fb_85) rfl))).at X G (ps := P_kind_line) (fun _ _ _ _ _ _ us hl => match us, hl with | [_], _ => rfl)
  obtain ⟨f_lines, fd_lines, D_lines⟩ := (Hv.defIn_of (c.d 41 (f := Hv.defG "_law_lines" s_lines) rfl) (of_decide_eq_true (c.b 86 (f := fb_86) rfl))).at X G (ps := P_lines) (fun _ _ _ _ _ _ us hl => match us, hl with | [_], _ => rfl)
  obtain ⟨f_rules, fd_rules, D_rules⟩ := (Hv.defIn_of (c.d 42 (f := Hv.defG "_law_rules" s_rules) rfl) (of_decide_eq_true (c.b 87 (f := fb_87) rfl))).at X G (ps := P_rules) (fun _ _ _ _ _ _ us hl => match us, hl with | [_], _ => rfl)
  obtain ⟨f_seen, fd_seen, D_seen⟩ := (Hv.defIn_of (c.d 43 (f := Hv.defG "_law_seen" s_seen) rfl) (of_decide_eq_true (c.b 88 (f := fb_88) rfl))).at X G (ps := P_seen) (fun _ _ _ _ _ _ us hl => match us, hl with | [_], _ => rfl)
  obtain ⟨f_other, fd_other, D_other⟩ := (Hv.defIn_of (c.d 44 (f := Hv.defG "_law_other" s_other) rfl) (of_decide_eq_true (c.b 89 (f := fb_89) rfl))).at X G (ps := P_other) (fun _ _ _ _ _ _ us hl => match us, hl with | [_, _, _], _ => rfl)
  obtain ⟨f_Rules_eq, fd_Rules_eq, D_Rules_eq⟩ := (Hv.methIn_of (c.b 90 (f := fb_90) rfl) (c.d 45 (f := Hv.defM "Rules" "__eq__" "Rules.__eq__" s_Rules_eq) rfl)).at (ps := P_Rules_eq) (fun _ _ _ _ _ _ us hl => match us, hl with | [_, _], _ => rfl)
  obtain ⟨f_Rules_str, fd_Rules_str, D_Rules_str⟩ := (Hv.methIn_of (c.b 91 (f := fb_91) rfl) (c.d 46 (f := Hv.defM "Rules" "__str__" "Rules.__str__" s_Rules_str) rfl)).at (ps := P_Rules_str) (fun _ _ _ _ _ _ us hl => match us, hl with | [_], _ => rfl)
  obtain ⟨f_back, fd_back, D_back⟩ := (Hv.defIn_of (c.d 47 (f := Hv.defG "_law_back" s_back) rfl) (of_decide_eq_true (c.b 92 (f := fb_92) rfl))).at X G (ps := P_back) (fun _ _ _ _ _ _ us hl => match us, hl with | [_], _ => rfl)
  obtain ⟨f_right, fd_right, D_right⟩ := (Hv.defIn_of (c.d 48 (f := Hv.defG "_law_right" s_right) rfl) (of_decide_eq_true (c.b 93 (f := fb_93) rfl))).at X G (ps := P_right) (fun _ _ _ _ _ _ us hl => match us, hl with | [_, _], _ => rfl)
  obtain ⟨f_longest_right, fd_longest_right, D_longest_right⟩ := (Hv.defIn_of (c.d 49 (f := Hv.defG "_law_longest_right" s_longest_right) rfl) (of_decide_eq_true (c.b 94 (f := fb_94) rfl))).at X G (ps := P_longest_right) (fun _ _ _ _ _ _ us hl => match us, hl with | [], _ => rfl)
  obtain ⟨f_seed, fd_seed, D_seed⟩ := (Hv.defIn_of (c.d 50 (f := Hv.defG "_law_seed" (top 45)) rfl) (of_decide_eq_true (c.b 95 (f := fb_95) rfl))).at X G (ps := P_seed) (fun _ _ _ _ _ _ us hl => match us, hl with | [_, _], _ => rfl)
  obtain ⟨f_bag, fd_bag, D_bag⟩ := (Hv.defIn_of (c.d 51 (f := Hv.defG "_law_bag" (top 46)) rfl) (of_decide_eq_true (c.b 96 (f := fb_96) rfl))).at X G (ps := P_bag) (fun _ _ _ _ _ _ us hl => match us, hl with | [_], _ => rfl)
  have M : Ds K mg := ⟨D_is_integer, D_is_name, D_common_divisor, D_number_of, D_fraction_of, D_is_bound, D_is_needs, D_is_closing, D_sort_of, D_Kind_name, D_Kind_talks, D_Kind_needs, D_Kind_closing, D_Kind_ends, D_Row_outer, D_Row_inner, D_Row_amount, D_line_of_kind, D_line_of_row, D_after_number, D_after_bound, D_Rules_kinds, D_Rules_rows, D_check_kinds, D_check_rows, D_Kind_init, D_Row_init, D_Rules_init, D_read_kind, D_read_row, D_Rules_read, D_take, D_common, D_bounds, D_tag, D_tags, D_kind, D_amounts, D_links, D_book, D_kind_line, D_lines, D_rules, D_seen, D_other, D_Rules_eq, D_Rules_str, D_back, D_right, D_longest_right⟩
  obtain ⟨f_law, oc, od, kV, doc, pm, an, cd, ct, sl, e_law, l_law, c_law, k_law⟩ := Hv.defIn_of (c.d 52 (f := Hv.defG "law" (top 64)) rfl) (of_decide_eq_true (c.b 97 (f := fb_97) rfl))
  have e := hfa.symm.trans (PySem.W.mg_of X G e_law)
  cases e
  have D_law := fun_mk (st := s_law) l_law c_law k_law
  refine ⟨PySem.W.fnOf "law" "law" (defArgs s_law) (defBody s_law) (defScope s_law) .none kV doc pm an cd ct, [], sp_law0 K, (fun p hp => nomatch hp), fun s v => .of_eq rfl, fun H a ns hl hb _ hS => ⟨a, ns, rfl, hS, hb, hl, fun _ => rfl⟩, fun base _ _ _ => ?_⟩
  obtain ⟨l, e1, n0, n4, hb⟩ := bounds_eq9
  obtain ⟨R, e2⟩ := shortest_true
  exact ok_law0 D_law T M.D_right (ok_right M T) M.D_longest_right (ok_longest_right M T) M.D_back ((ok_back M T).mono (by decide)) M.D_bounds ((ok_bounds M T).mono (by decide)) D_seed D_bag e1 longest_true e2 fun s d s0 s1 d0 d1 => right_true9 (n := 0) ⟨s0, s1, d0, d1, Int.le_refl _, Int.le_refl _⟩ (by decide) ⟨n0, n4, hb⟩
end L
open PySem PySem.W PySem.Calls PyProof.Rows in
set_option maxRecDepth 100000 in
set_option maxHeartbeats 0 in
theorem PySem.Challenge.cw_heldvotes_k09_whole_texts_read_back_holds : PySem.Challenge.rw_heldvotes_k09_whole_texts_read_back.Holds := by
  w_on; o_law
  refine HandSHeadRun.head_any (r := OpenLaw.row PySem.Challenge.rw_heldvotes_k09_whole_texts_read_back) (q := view (OpenLaw.row PySem.Challenge.rw_heldvotes_k09_whole_texts_read_back).prog [64]) (H := L.hk) (ob := L.ob) (M := 60000) (loose := L.loose) (d := HandSHeadRun.topDef (OpenLaw.row PySem.Challenge.rw_heldvotes_k09_whole_texts_read_back).prog 64) (kwd := []) L.ob_eq
    (by kernel_rfl) (fun s => by kernel_rfl) L.run (by kernel_rfl) (by kernel_rfl) (by kernel_rfl) (by rfl) (by first | assumption | decide +kernel) (by decide +kernel) ⟨rfl, rfl, rfl, rfl, rfl, by decide +kernel⟩ ?hw ?hc
  case hw => w_witness2
  case hc =>
    refine Hv.walkTE (l := PySem.Challenge.rw_heldvotes_k09_whole_texts_read_back) (n := 63) (k := 11) (x := "_law_script") (fb := L.fbs) (fn := L.fns) L.htf rfl (by decide) (by kernel_rfl) ⟨rfl, by decide, by decide⟩ (fun w h Y => Y) ?F
    intro w mg fa h K c G hmg0
    have hmg : mg ("law" : PySem.Str) = some (.ref fa) := by
      have e : (HandSHeadRun.topDef (OpenLaw.row PySem.Challenge.rw_heldvotes_k09_whole_texts_read_back).prog 64).name = ("law" : PySem.Str) := by kernel_rfl
      rw [← e]
      exact hmg0
    exact L.all_in c G hmg
