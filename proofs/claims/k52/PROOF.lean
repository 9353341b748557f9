import PyProof.Rows.All
import Wide.All
import OpenK.AllK
import Wide.FinOn
import HandS.ForMost
import HandS.HeadEnd
import HandS.Codes
import HandS.Wide
import HandS.Conv
import HandS.Style
import HandS.Deep
import HandS.Defaults
import HandS.Evl
import HandS.Walk
import KE.SortData
import HandS.Head2
import HandS.HeadHook2
import PySem.Challenge.RW_ownlog_k52_classes_by_calls
set_option Elab.async false
set_option linter.all false
set_option maxRecDepth 100000
set_option maxHeartbeats 4000000
/-! Ow, part G: defs that are called where no guard runs (so that repr of data may be told), the law's end for such. -/
namespace Ow
open PySem PySem.Spec PyProof.Rows L2

/-- room for k calls, and no repr that runs already -/
def RoomG (k : Nat) (A : Around) : Prop := Room k A ∧ A.guards = some []
theorem RoomG.r {k : Nat} {A : Around} (h : RoomG k A) : Room k A := h.1
theorem RoomG.g {k : Nat} {A : Around} (h : RoomG k A) : A.guards = some [] := h.2

structure FnG (P : Program) (w : World) (K : PySem.W.Frag) (mg : Str → Option Value) (base : Heap) (CX : CXT) (k : Nat) (f : Addr) (fd : FuncData) (ps : List Str) (sp : Sp) : Prop where
  ln : ∀ vs H Q E, sp vs H Q E → vs.length = ps.length
  go : ∀ (A : Around) (fr : List Env) (s : Shared) (H : Hp) (as : Args) (us : List Value) (vs : List V) (Q : VK) (E : XK), RoomG k A → Env0 P w K mg base A fr s H →
    BindsTo s fd as (ps.zip us) → Vals vs us → sp vs H Q E → codeAny (model P w) A (.call (.ref f) as) (CR CX fr P w H s Q E) s

section
variable {P : Program} {w : World} {K : PySem.W.Frag} {mg : Str → Option Value} {base : Heap} {CX : CXT}
/-- a def by its body: the body may lean on the guards -/
theorem okG {x qual : Str} {st : Stmt} {f : Addr} {fd : FuncData} {N ps : List Str} {k : Nat} {sp : Sp} (F : Fun K x qual st f fd) (S : FnScope N ps (defScope st))
    (ln : ∀ vs H Q E, sp vs H Q E → vs.length = ps.length)
    (body : ∀ (cdv : Value) (A : Around) (fr : List Env) (s : Shared) (H : Hp) (vs : List V) (Q : VK) (E : XK), RoomG k (A.deeper (envOfC qual (defScope st) s.heap.objs.size f cdv)) → sp vs H Q E →
      ∃ t, PSs (cxOf CX P w K mg base N qual (defScope st) f cdv A fr s H E) (defBody st) t ∧ t { nx := fun _ H' => Q .non H', rt := Q } (start N vs) H) :
    FnG P w K mg base CX (k + 1) f fd ps sp := by
  obtain ⟨oc, od, kV, doc, pm, an, cdv, ct, osl, rfl, lk, cd⟩ := F.ex
  refine ⟨ln, fun A fr s H as us vs Q E hr e0 hb rv q => ?_⟩
  have hin : K.In s.heap := e0.mod.kin.keeps fun b o e => (e0.bs b o e).1
  have hno : s.heap.NoLimit := e0.mod.nolimit.keeps fun b o e => (e0.bs b o e).1
  refine codeAny_call_function hr.r.depth (hin _ _ lk) rfl S.co S.gen rfl (PySem.W.codeRec_of hin cd) (hb _ _ _ _ ?_)
  refine wpAny_newFunctionEnv_cells S.kind ?_ fun env he s1 x => ?_
  · rintro ⟨n, v⟩ hy
    rcases S.par n (List.of_mem_zip hy).1 with z | z
    · exact .inl z
    · exact .inr ⟨z, PySem.W.cellsFrom_some _ _ _ (.inl z)⟩
  · subst he
    refine ⟨hno.keeps x.toInCall.keep, codeAny_func ?_⟩
    obtain ⟨t, ht, hq⟩ := body cdv A fr s H vs Q E ⟨hr.r.deeper _, hr.g⟩ q
    refine wpAny_mono (ht.run [] s1 (start N vs) H _ (inv_start S hr.r.hd e0 (ln _ _ _ _ q) rv x) hq) (fun fl s2 hs => ?_) fun e s2 hs => hs
    cases fl with
    | ret u =>
      obtain ⟨v, σ2, H2, J, r2, q2⟩ := hs
      exact ⟨v, H2, J.os, J.bare, J.base, J.hok, r2, q2⟩
    | next =>
      obtain ⟨σ2, H2, J, q2⟩ := hs
      exact ⟨.non, H2, J.os, J.bare, J.base, J.hok, rfl, q2⟩
    | brk =>
      obtain ⟨_, _, _, q2⟩ := hs
      exact q2.elim
    | cont =>
      obtain ⟨_, _, _, q2⟩ := hs
      exact q2.elim
end

section
variable {X : Cx} {CX : CXT} {k : Nat} {f : Addr} {fd : FuncData} {ps : List Str} {sp : Sp} {E : XK} {x : Str} {p pos : Pos} {e : Expr} {es : List Expr} {t : TA}
/-- f(e, ..), f a def that may lean on the guards -/
theorem pe_callG (F : FnG X.prog X.w X.K X.mg X.base CX k f fd ps sp) (hr : RoomG k X.A) (hg : Gl X x) (hm : X.mg x = some (.ref f)) (hk : PySem.W.keepIn X.K (.ref f) = true) (hb : Binds X.K fd ps []) (hx : Passes CX X E)
    (ha : PA X (e :: es) t) (d1 : (x == ("__debug__" : Str)) = false := by decide) (d2 : starEach (e :: es) X.env = (false, eval e X.env) :: starEach es X.env := by rfl) (d3 : (backTo pos (starEach es X.env)).any (·.1) = false := by rfl) :
    PE X (.Call (.Name x p) (e :: es) [] pos) (tCall sp [] E t) := by
  refine ⟨fun pins s σ H Q I h => ?_⟩
  refine wpAny_Call_Name_kw (ld_glob I hg hm ?_ d1)
  refine PySem.W.callWith_K (h₀ := X.base) I.ok.mod.kin hk (thn (ha.run pos pins s σ H _ I h) fun us s1 z => ?_) d2 d3
  obtain ⟨vs, H1, I1, r, q⟩ := z
  refine ⟨I1.kIn, ?_⟩
  have q' : sp vs H1 Q E := by
    have q0 : sp (vs ++ []) H1 Q E := q
    rw [List.append_nil] at q0
    exact q0
  have hl : (us ++ ([] : List Value)).length = ps.length := by rw [List.append_nil, ← r.length]; exact F.ln _ _ _ _ q'
  have hbt := hb s1 us I1.kIn hl
  rw [List.append_nil] at hbt
  refine wpAny_call (codeAny_mono (F.go X.A X.stack s1 H1 ⟨us, []⟩ us vs Q E hr I1.env0 hbt r q') fun r2 s2 hq => ?_)
  cases r2 with
  | error e2 => exact hx pins σ H1 s1 e2 s2 I1 hq
  | ok fl =>
    cases fl with
    | ret u => exact I1.after hq
    | next => exact False.elim hq
    | brk => exact False.elim hq
    | cont => exact False.elim hq
end

/-! ### repr of data -/
section
variable {X : Cx}
def rRepr (K : PySem.W.Frag) : List V → Hp → VK → Prop := fun vs H Q => ∃ v d, vs = [v] ∧ Dp K H v d ∧ d.showable = true ∧ d.canLay0 = true ∧ d.depth ≤ 60 ∧ d.shown.length ≤ sizeLine ∧ Q (.str d.shown) H
theorem cr_repr {k : Nat} (hr : RoomG k X.A) : CallR X (.builtin "repr") (rRepr X.K) := by
  intro pins s σ H vs us Q I r h
  obtain ⟨v, d, rfl, hd, hs, hc, hdp, hz, q⟩ := h
  cases r with
  | cons rv rn =>
    cases rn
    rename_i u
    obtain ⟨as, rd⟩ := Dp.reads I d v u hd rv
    have hnd := PyData.noDict_hsm (as := as) (PyData.hasDict_of_canLay d hc)
    have hu := hr.r.units
    cases rd with
    | none => exact PySem.P.repr_of_none ⟨.str _, H, I.tok _, ⟨_, rfl⟩, q⟩
    | bool b =>
      refine PySem.P.repr_of_bool ⟨.str _, H, I.tok _, ⟨_, rfl⟩, ?_⟩
      cases b <;> exact q
    | int i t => exact PySem.P.repr_of_int (by simpa [PyData.showable] using hs) ⟨.str _, H, I.tok _, ⟨_, rfl⟩, q⟩
    | str x t => exact PySem.P.repr_of_str ⟨.str _, H, I.tok _, ⟨_, rfl⟩, q⟩ hz
    | list h1 h2 h3 h4 =>
      exact repr_of_reads' (.list h1 h2 h3 h4) hs hnd hr.g (by omega) (fun _ _ e => e) (fun h' u tk hk => ⟨.str _, H, I.kept hk, ⟨u, rfl⟩, q⟩) hz
    | tuple h1 h2 h3 h4 =>
      exact repr_of_reads' (.tuple h1 h2 h3 h4) hs hnd hr.g (by omega) (fun _ _ e => e) (fun h' u tk hk => ⟨.str _, H, I.kept hk, ⟨u, rfl⟩, q⟩) hz
    | dict h1 h2 h3 h4 h5 => simp [PyData.canLay0] at hc
end

/-! ### the law's end: the law itself is called where no guard runs -/
section
variable {P : Program} {w : World} {K : PySem.W.Frag} {mg mb : Str → Option Value} {CX : CXT} {k : Nat} {fa a : Addr} {fd : FuncData} {x : Str} {sp : Sp} {s1 : Shared} {its : List Value} {ns : List Int}
/-- what the law's call leaves -/
def Good (s1 : Shared) (r : Result) (s2 : Shared) : Prop := r = .ok (.ret (.bool true)) ∧ OldK s1.heap s2.heap ∧ s2.os = s1.os ∧ AllBare s2.gens
theorem law_at (H : Hp) (kin : K.In s1.heap) (g1 : s1.heap.Ns mainGlobals mg) (g2 : s1.heap.Ns builtinsNs mb) (g3 : ∀ x : Str, x ≠ "__name__" → mb x = bootBuiltins x) (g4 : s1.heap.NoLimit) (g5 : s1.gens = #[])
    (ho : s1.heap.get? a = some { cls := .type "list", data := .seq its.toArray }) (hr : RoomG k callerA)
    (F : ∀ base : Heap, K.In base → base.Ns mainGlobals mg → FnG P w K mg base CX k fa fd [x] sp) (hb : ∀ (s : Shared) (u : Value), BindsTo s fd ⟨[u], []⟩ [(x, u)])
    (q : sp [.ref a] H (fun v _ => v = .bl true) fun _ _ _ => False) (nx : ∀ H e s', CX [] H s1 (fun _ _ _ => False) e s' → False)
    (only : ∀ b, H b = none ∨ (b = a ∧ K.lookup a = none ∧ ∃ o xs, H b = some (.frz o (.lst xs)))) (ok : HOk P w H s1.heap) :
    codeAny (model P w) callerA (.call (.ref fa) ⟨[.ref a], []⟩) (Good s1) s1 := by
  have stay : ∀ (b : Addr) (o : Obj), s1.heap.get? b = some o → (b = a → K.lookup a = none → False) → (hidT s1.heap H).get? b = some o := fun b o e n => hidT_get e (by
    rcases only b with z | ⟨z1, z2, _⟩
    · exact z
    · exact (n z1 z2).elim)
  have nsIn : ∀ {b : Addr} {m : Str → Option Value}, s1.heap.Ns b m → (hidT s1.heap H).Ns b m := by
    intro b m z
    obtain ⟨o, es, ep, e1, e2, e3⟩ := z
    refine ⟨o, es, ep, stay b o e1 fun z1 _ => ?_, e2, e3⟩
    rw [z1, ho] at e1
    cases e1
    cases e2
  have kb : K.In (hidT s1.heap H) := fun b o e => stay b o (kin b o e) fun z1 z2 => by
    rw [z1, z2] at e
    cases e
  have e0 : Env0 P w K mg (hidT s1.heap H) callerA [] s1 H :=
    { frames := rfl, mod := { kin := kb, glob := nsIn g1, blt := ⟨mb, nsIn g2, g3⟩, nolimit := g4.elim fun m z => ⟨m, nsIn z.1, z.2⟩ }, bs := fun b o e => of_hidT e, bsz := Nat.le_of_eq (hidT_size _ _), funs := trivial,
      frf := fun b z => (by cases z), hok := ok, bare := .of_eq g5 }
  refine codeAny_mono ((F _ kb (nsIn g1)).go callerA [] s1 H ⟨[.ref a], []⟩ [.ref a] [.ref a] _ _ hr e0 (hb s1 (.ref a)) (.cons rfl .nil) q) fun r s2 h => ?_
  cases r with
  | error e => exact (nx H e s2 h).elim
  | ok fl =>
    cases fl with
    | ret u =>
      obtain ⟨v, H2, os, bare, un, ok2, rv, qv⟩ := h
      have qv' : v = .bl true := qv
      subst qv'
      have eu : u = Value.bool true := rv
      subst eu
      refine ⟨rfl, OldK.of_keep fun b o e => ?_, os, bare⟩
      rcases only b with z | ⟨_, _, ob, xs, z⟩
      · exact un.keep b o e z (fun y => by cases y) (fun y => by cases y)
      · obtain ⟨e1, _⟩ := ok b _ z
        obtain ⟨e2, _⟩ := ok2 b _ (un.frzs b ob _ z)
        rw [e] at e1
        rw [e2, ← e1]
    | next => exact False.elim h
    | brk => exact False.elim h
    | cont => exact False.elim h
theorem law_G (kin : K.In s1.heap) (g1 : s1.heap.Ns mainGlobals mg) (g2 : s1.heap.Ns builtinsNs mb) (g3 : ∀ x : Str, x ≠ "__name__" → mb x = bootBuiltins x) (g4 : s1.heap.NoLimit) (g5 : s1.gens = #[])
    (ho : s1.heap.get? a = some { cls := .type "list", data := .seq its.toArray }) (hi : IntsAre its ns) (hl : ns.length ≤ sizeLine) (hr : RoomG k callerA)
    (F : ∀ base : Heap, K.In base → base.Ns mainGlobals mg → FnG P w K mg base CX k fa fd [x] sp) (hb : ∀ (s : Shared) (u : Value), BindsTo s fd ⟨[u], []⟩ [(x, u)])
    (q : ∀ H : Hp, SqL K H a (ns.map V.int) → sp [.ref a] H (fun v _ => v = .bl true) fun _ _ _ => False) (nx : ∀ H e s', CX [] H s1 (fun _ _ _ => False) e s' → False) :
    codeAny (model P w) callerA (.call (.ref fa) ⟨[.ref a], []⟩) (Good s1) s1 := by
  have rv := vals_ints hi
  cases hk : K.lookup a with
  | some o =>
    have e := kin a o hk
    rw [ho] at e
    cases e
    refine law_at (fun _ => none) kin g1 g2 g3 g4 g5 ho hr F hb (q _ (.inr ⟨_, its.toArray, _, hk, rfl, rfl, rfl, ?_, by simpa using rv⟩)) nx (fun _ => .inl rfl) fun b u z => by cases z
    rw [List.size_toArray, hi.length]
    exact hl
  | none =>
    refine law_at (fun b => if b = a then some (.frz { cls := .type "list", data := .seq its.toArray } (.lst (ns.map V.int))) else none) kin g1 g2 g3 g4 g5 ho hr F hb
      (q _ (.inl (.inr ⟨{ cls := .type "list", data := .seq its.toArray }, if_pos rfl⟩))) nx (fun b => ?_) fun b u z => ?_
    · by_cases e : b = a
      · exact .inr ⟨e, hk, _, _, if_pos e⟩
      · exact .inl (if_neg e)
    · by_cases e : b = a
      · have z' := (if_pos e).symm.trans z
        cases z'
        rw [e]
        exact ⟨ho, by rw [List.length_map]; exact hl, its, 0, rv, ho⟩
      · have z' := (if_neg e).symm.trans z
        cases z'
end
/-- a law whose def is told by FnG; F gives the written part, the function object, the promise over every base -/
theorem walk_G {l : PySem.W.OpenLaw} {n k : Nat} {q : Program} {loose : List Str} {XP : (Str → Option Value) → Heap → Prop} {YP : World → Heap → Prop} {d : DefRec} {CX : CXT} {x : Str}
    (hn : l.most = some n) (hn2 : n ≤ sizeLine) (hdf : d.params.defaults = []) (hr : Room k callerA)
    (F : ∀ (w : World) (mg : Str → Option Value) (fa : Addr) (h : Heap), YP w h → h.Ns mainGlobals mg → mg d.name = some (.ref fa) →
      ∃ (K : PySem.W.Frag) (fd : FuncData) (sp : Sp), K.In h ∧ (∀ (s : Shared) (u : Value), BindsTo s fd ⟨[u], []⟩ [(x, u)]) ∧
        (∀ (H : Hp) (a : Addr) (ns : List Int), ns.length ≤ n → SqL K H a (ns.map V.int) → sp [.ref a] H (fun v _ => v = .bl true) fun _ _ _ => False) ∧
        ∀ base : Heap, K.In base → base.Ns mainGlobals mg → FnG l.prog w K mg base CX k fa fd [x] sp)
    (nx : ∀ (H : Hp) (s : Shared) (e : Value) (s' : Shared), CX [] H s (fun _ _ _ => False) e s' → False) :
    PySem.W.WalkO q loose XP YP l.row.toRowW d [] (fun f vs => PySem.call f vs) := by
  refine Att.attach_call hn hdf fun w s0 s1 mg mb fa o pm cd doc a vs ns G Y ho hd hcd hmg hobj hints hlen hg => ?_
  obtain ⟨K, fd, sp, kin, hb, hsp, hF⟩ := F w mg fa _ Y G.T.g hmg
  exact law_G kin G.T.g G.T.b G.T.builtins G.T.nolimit hg hobj hints (Nat.le_trans hlen hn2) ⟨hr, rfl⟩ hF hb (fun H hS => hsp H a ns hlen hS) fun H e s' => nx H s1 e s'
end Ow
/-! Ow, part B: short words (defs by name, texts as lists of signs, lists by place), rules that the layer lacks. -/
namespace Ow
open PySem PySem.Spec PyProof.Rows L2

/-! ### the names of the top -/
/-- built-ins that the top leaves alone -/
structure Blt (mg : Str → Option Value) : Prop where
  len : mg "len" = none
  range : mg "range" = none
  zip : mg "zip" = none
  enumerate : mg "enumerate" = none
  sorted : mg "sorted" = none
  list : mg "list" = none
  dict : mg "dict" = none
  set : mg "set" = none
  int : mg "int" = none
  abs : mg "abs" = none
  sum : mg "sum" = none
  min : mg "min" = none
  max : mg "max" = none
  repr : mg "repr" = none
  isinstance : mg "isinstance" = none
  bool : mg "bool" = none
  str : mg "str" = none
  tuple : mg "tuple" = none
  all : mg "all" = none
  any : mg "any" = none
  divmod : mg "divmod" = none
  super : mg "super" = none
  ValueError : mg "ValueError" = none
  reversed : mg "reversed" = none
/-- a def of the top under its name -/
structure Def (K : PySem.W.Frag) (mg : Str → Option Value) (x : Str) (st : Stmt) : Prop where
  ex : ∃ f fd, Fun K x x st f fd ∧ mg x = some (.ref f)
theorem Def.of {K : PySem.W.Frag} {mg : Str → Option Value} {x : Str} {st : Stmt} {f : Addr} {fd : FuncData} (F : FunD K x x (defArgs st) (defBody st) (defScope st) [] [] f fd) (g : mg x = some (.ref f)) : Def K mg x st := by
  obtain ⟨oc, od, dV, kV, doc, pm, an, cdv, ct, osl, e, lk, cd, dd, _⟩ := F.ex
  rcases dd with ⟨_, rfl⟩ | ⟨n, _⟩
  · exact ⟨f, fd, ⟨⟨oc, od, kV, doc, pm, an, cdv, ct, osl, e, lk, cd⟩, F.kp⟩, g⟩
  · exact absurd rfl n
theorem fun_ofD {K : PySem.W.Frag} {x : Str} {st : Stmt} {f : Addr} {fd : FuncData} (F : FunD K x x (defArgs st) (defBody st) (defScope st) [] [] f fd) : Fun K x x st f fd := by
  obtain ⟨oc, od, dV, kV, doc, pm, an, cdv, ct, osl, e, lk, cd, dd, _⟩ := F.ex
  rcases dd with ⟨_, rfl⟩ | ⟨n, _⟩
  · exact ⟨⟨oc, od, kV, doc, pm, an, cdv, ct, osl, e, lk, cd⟩, F.kp⟩
  · exact absurd rfl n
/-- a def that may be called by its name; sp: what it promises -/
structure Dfn (P : Program) (w : World) (K : PySem.W.Frag) (mg : Str → Option Value) (base : Heap) (CX : CXT) (k : Nat) (x : Str) (sp : Sp) : Prop where
  ex : ∃ f fd ps, FnOk P w K mg base CX k f fd ps sp ∧ mg x = some (.ref f) ∧ PySem.W.keepIn K (.ref f) = true ∧ Binds K fd ps []
structure DfnG (P : Program) (w : World) (K : PySem.W.Frag) (mg : Str → Option Value) (base : Heap) (CX : CXT) (k : Nat) (x : Str) (sp : Sp) : Prop where
  ex : ∃ f fd ps, FnG P w K mg base CX k f fd ps sp ∧ mg x = some (.ref f) ∧ PySem.W.keepIn K (.ref f) = true ∧ Binds K fd ps []
section
variable {P : Program} {w : World} {K : PySem.W.Frag} {mg : Str → Option Value} {base : Heap} {CX : CXT} {x : Str} {st : Stmt} {N ps : List Str} {k : Nat} {sp : Sp}
abbrev BindsBy (x : Str) (st : Stmt) (ps : List Str) : Prop := ∀ (kV doc pm : Value) (an : Option Addr) (cdv ct : Value) (us : List Value), us.length = ps.length →
  bindArgs (PySem.W.fnOf x x (defArgs st) (defBody st) (defScope st) .none kV doc pm an cdv ct) ⟨us, []⟩ = pure (ps.zip us)
/-- a def that lets nothing out, by its body -/
theorem def_ok (D : Def K mg x st) (S : FnScope N ps (defScope st)) (b : BindsBy x st ps) (ln : ∀ vs H Q E, sp vs H Q E → vs.length = ps.length)
    (body : ∀ (cdv : Value) (A : Around) (fr : List Env) (s : Shared) (H : Hp) (vs : List V) (Q : VK) (E : XK) (f : Addr), Room k (A.deeper (envOfC x (defScope st) s.heap.objs.size f cdv)) → sp vs H Q E →
      ∃ t, PSs (cxOf CX0 P w K mg base N x (defScope st) f cdv A fr s H E).nox (defBody st) t ∧ t { nx := fun _ H' => Q .non H', rt := Q } (start N vs) H) : Dfn P w K mg base CX0 (k + 1) x sp := by
  obtain ⟨f, fd, F, g⟩ := D.ex
  exact ⟨f, fd, ps, F.ok S ln fun cdv A fr s H vs Q E hr h => body cdv A fr s H vs Q E f hr h, g, F.kp, F.binds b⟩
/-- a def that may raise -/
theorem def_okX (D : Def K mg x st) (S : FnScope N ps (defScope st)) (b : BindsBy x st ps) (ln : ∀ vs H Q E, sp vs H Q E → vs.length = ps.length)
    (body : ∀ (cdv : Value) (A : Around) (fr : List Env) (s : Shared) (H : Hp) (vs : List V) (Q : VK) (E : XK) (f : Addr), Room k (A.deeper (envOfC x (defScope st) s.heap.objs.size f cdv)) → sp vs H Q E →
      ∃ t, PSs (cxOf CX P w K mg base N x (defScope st) f cdv A fr s H E) (defBody st) t ∧ t { nx := fun _ H' => Q .non H', rt := Q } (start N vs) H) : Dfn P w K mg base CX (k + 1) x sp := by
  obtain ⟨f, fd, F, g⟩ := D.ex
  obtain ⟨oc, od, kV, doc, pm, an, cdv, ct, osl, rfl, lk, hcd⟩ := F.ex
  exact ⟨f, _, ps, fn_of lk hcd S ln fun A fr s H vs Q E hr h => body cdv A fr s H vs Q E f hr h, g, F.kp, F.binds b⟩
/-- a def that leans on the guards -/
theorem def_okG (D : Def K mg x st) (S : FnScope N ps (defScope st)) (b : BindsBy x st ps) (ln : ∀ vs H Q E, sp vs H Q E → vs.length = ps.length)
    (body : ∀ (cdv : Value) (A : Around) (fr : List Env) (s : Shared) (H : Hp) (vs : List V) (Q : VK) (E : XK) (f : Addr), RoomG k (A.deeper (envOfC x (defScope st) s.heap.objs.size f cdv)) → sp vs H Q E →
      ∃ t, PSs (cxOf CX P w K mg base N x (defScope st) f cdv A fr s H E).nox (defBody st) t ∧ t { nx := fun _ H' => Q .non H', rt := Q } (start N vs) H) : DfnG P w K mg base CX (k + 1) x sp := by
  obtain ⟨f, fd, F, g⟩ := D.ex
  exact ⟨f, fd, ps, okG F S ln fun cdv A fr s H vs Q E hr h => let ⟨t, h1, h2⟩ := body cdv A fr s H vs Q E f hr h; ⟨t, h1.nox, h2⟩, g, F.kp, F.binds b⟩
/-- the law itself -/
theorem law_okG {f : Addr} {fd : FuncData} (F : Fun K x x st f fd) (S : FnScope N ps (defScope st)) (ln : ∀ vs H Q E, sp vs H Q E → vs.length = ps.length)
    (body : ∀ (cdv : Value) (A : Around) (fr : List Env) (s : Shared) (H : Hp) (vs : List V) (Q : VK) (E : XK), RoomG k (A.deeper (envOfC x (defScope st) s.heap.objs.size f cdv)) → sp vs H Q E →
      ∃ t, PSs (cxOf CX P w K mg base N x (defScope st) f cdv A fr s H E).nox (defBody st) t ∧ t { nx := fun _ H' => Q .non H', rt := Q } (start N vs) H) : FnG P w K mg base CX (k + 1) f fd ps sp :=
  okG F S ln fun cdv A fr s H vs Q E hr h => let ⟨t, h1, h2⟩ := body cdv A fr s H vs Q E hr h; ⟨t, h1.nox, h2⟩
/-- a def that leans on the guards and may raise -/
theorem def_okGX (D : Def K mg x st) (S : FnScope N ps (defScope st)) (b : BindsBy x st ps) (ln : ∀ vs H Q E, sp vs H Q E → vs.length = ps.length)
    (body : ∀ (cdv : Value) (A : Around) (fr : List Env) (s : Shared) (H : Hp) (vs : List V) (Q : VK) (E : XK) (f : Addr), RoomG k (A.deeper (envOfC x (defScope st) s.heap.objs.size f cdv)) → sp vs H Q E →
      ∃ t, PSs (cxOf CX P w K mg base N x (defScope st) f cdv A fr s H E) (defBody st) t ∧ t { nx := fun _ H' => Q .non H', rt := Q } (start N vs) H) : DfnG P w K mg base CX (k + 1) x sp := by
  obtain ⟨f, fd, F, g⟩ := D.ex
  exact ⟨f, fd, ps, okG F S ln fun cdv A fr s H vs Q E hr h => body cdv A fr s H vs Q E f hr h, g, F.kp, F.binds b⟩
end
section
variable {X : Cx} {CX : CXT} {j k : Nat} {x : Str} {sp : Sp} {E : XK} {p pos : Pos} {e : Expr} {es : List Expr} {t : TA}
def tD (sp : Sp) (E : XK) (t : TA) : TE := fun σ H Q => t σ H fun vs H1 => sp vs H1 Q E
theorem tD_of {t : TA} : (fun σ H Q => tCall sp [] E t σ H Q) = tD sp E t := by
  funext σ H Q
  show (t σ H fun vs H1 => sp (vs ++ []) H1 Q E) = _
  simp only [List.append_nil]
  rfl
theorem pe_dx (c : Dfn X.prog X.w X.K X.mg X.base CX k x sp) (hr : Room j X.A) (hx : Passes CX X E) (ha : PA X (e :: es) t) (hk : k ≤ j := by decide) (hg : Gl X x := by rfl)
    (hdb : (x == ("__debug__" : Str)) = false := by decide) (he : starEach (e :: es) X.env = (false, eval e X.env) :: starEach es X.env := by rfl) (hpl : (backTo pos (starEach es X.env)).any (·.1) = false := by rfl) :
    PE X (.Call (.Name x p) (e :: es) [] pos) (tD sp E t) := by
  obtain ⟨f, fd, ps, F, hm, kp, b⟩ := c.ex
  have z : PE X (.Call (.Name x p) (e :: es) [] pos) (tCall sp [] E t) := pe_call F (hr.mono hk) hg hm kp b .nil hx ha hdb he hpl
  rw [← tD_of]
  exact z
/-- a call of a def that raises nothing -/
theorem pe_d (c : Dfn X.prog X.w X.K X.mg X.base CX0 k x sp) (hr : Room j X.A) (ha : PA X (e :: es) t) (hk : k ≤ j := by decide) (hg : Gl X x := by rfl)
    (hdb : (x == ("__debug__" : Str)) = false := by decide) (he : starEach (e :: es) X.env = (false, eval e X.env) :: starEach es X.env := by rfl) (hpl : (backTo pos (starEach es X.env)).any (·.1) = false := by rfl) :
    PE X (.Call (.Name x p) (e :: es) [] pos) (tD sp E0 t) := pe_dx c hr pass0 ha hk hg hdb he hpl
theorem RoomG.mono {A : Around} (h : RoomG j A) (hk : k ≤ j) : RoomG k A := ⟨h.1.mono hk, h.2⟩
theorem pe_dG (c : DfnG X.prog X.w X.K X.mg X.base CX k x sp) (hr : RoomG j X.A) (hx : Passes CX X E) (ha : PA X (e :: es) t) (hk : k ≤ j := by decide) (hg : Gl X x := by rfl)
    (hdb : (x == ("__debug__" : Str)) = false := by decide) (he : starEach (e :: es) X.env = (false, eval e X.env) :: starEach es X.env := by rfl) (hpl : (backTo pos (starEach es X.env)).any (·.1) = false := by rfl) :
    PE X (.Call (.Name x p) (e :: es) [] pos) (tD sp E t) := by
  obtain ⟨f, fd, ps, F, hm, kp, b⟩ := c.ex
  have z : PE X (.Call (.Name x p) (e :: es) [] pos) (tCall sp [] E t) := pe_callG F (hr.mono hk) hg hm kp b hx ha hdb he hpl
  rw [← tD_of]
  exact z
end

/-! ### weaker readings -/
section
variable {X : Cx}
theorem OpR.imp {f : Value → Value → Sem Value} {r r' : R2} (h : OpR X f r) (i : ∀ x y H Q, r' x y H Q → r x y H Q) : OpR X f r' := fun pins s σ H x y v u Q I rx ry q => h pins s σ H x y v u Q I rx ry (i _ _ _ _ q)
theorem CallR.imp {f : Value} {r r' : List V → Hp → VK → Prop} (h : CallR X f r) (i : ∀ xs H Q, r' xs H Q → r xs H Q) : CallR X f r' := fun pins s σ H xs us Q I rs q => h pins s σ H xs us Q I rs (i _ _ _ q)
theorem IxR.imp {r r' : R2} (h : IxR X r) (i : ∀ x y H Q, r' x y H Q → r x y H Q) : IxR X r' := fun value slice pins s σ H x y v u Q I rx ry q hs => h value slice pins s σ H x y v u Q I rx ry (i _ _ _ _ q) hs
theorem SlR.imp {r r' : V → Option Int → Option Int → Hp → VK → Prop} (h : SlR X r) (i : ∀ x lo hi H Q, r' x lo hi H Q → r x lo hi H Q) : SlR X r' := fun pins s σ H x v vl vu lo hi sl Q I rx hs pl pu q => h pins s σ H x v vl vu lo hi sl Q I rx hs pl pu (i _ _ _ _ _ q)
end

/-! ### texts as lists of signs -/
/-- the text of these signs -/
abbrev tx (l : List Nat) : V := .str ⟨l.toArray⟩
theorem tx_inj {a b : List Nat} (h : tx a = tx b) : a = b := by
  have e : (⟨a.toArray⟩ : Str) = ⟨b.toArray⟩ := V.str.inj h
  exact SX.S_inj e
theorem tx_dec (a b : List Nat) : decide (tx a = tx b) = decide (a = b) := by
  by_cases h : a = b
  · rw [decide_eq_true h, decide_eq_true (congrArg tx h)]
  · rw [decide_eq_false h, decide_eq_false fun e => h (tx_inj e)]
/-- a part of a list, as Python's slices cut it -/
def cut {α : Type} (a : List α) (lo hi : Option Int) : List α := (a.drop (HT.sIx a.length 0 lo)).take (HT.sIx a.length a.length hi - HT.sIx a.length 0 lo)
theorem cutV_eq (a : List V) (lo hi : Option Int) : cutV a lo hi = cut a lo hi := rfl
theorem cutS_eq (a : List Nat) (lo hi : Option Int) : cutS ⟨a.toArray⟩ lo hi = ⟨(cut a lo hi).toArray⟩ := by
  unfold cutS cut
  simp [Str.length]
section
variable {α : Type} (a : List α)
theorem cut_to (n : Nat) : cut a none (some (n : Int)) = a.take n := by
  unfold cut
  rw [HT.sIx_none, HT.sIx_nat, List.drop_zero, Nat.sub_zero, Nat.min_def]
  split
  · rfl
  · rw [List.take_length, List.take_of_length_le (by omega)]
theorem cut_from (n : Nat) : cut a (some (n : Int)) none = a.drop n := by
  unfold cut
  rw [HT.sIx_none, HT.sIx_nat, Nat.min_def]
  split
  · exact List.take_of_length_le (by rw [List.length_drop]; omega)
  · rw [List.drop_length, List.drop_eq_nil_of_le (by omega), List.take_nil]
theorem cut_mid (n m : Nat) : cut a (some (n : Int)) (some (m : Int)) = (a.drop n).take (m - n) := by
  unfold cut
  rw [HT.sIx_nat, HT.sIx_nat]
  by_cases h : n ≤ a.length
  · rw [Nat.min_eq_left h]
    by_cases h2 : m ≤ a.length
    · rw [Nat.min_eq_left h2]
    · rw [Nat.min_eq_right (show a.length ≤ m by omega), List.take_of_length_le (by rw [List.length_drop]; omega), List.take_of_length_le (by rw [List.length_drop]; omega)]
  · rw [Nat.min_eq_right (show a.length ≤ n by omega), List.drop_length, List.drop_eq_nil_of_le (show a.length ≤ n by omega), List.take_nil, List.take_nil]
theorem cut_last : cut a none (some (-1)) = a.take (a.length - 1) := by
  unfold cut
  rw [HT.sIx_none, List.drop_zero, Nat.sub_zero]
  congr 1
  unfold HT.sIx
  simp
  omega
theorem cut_all : cut a none none = a := by
  unfold cut
  rw [HT.sIx_none, HT.sIx_none]
  simp
end
theorem cut_toI {α : Type} (a : List α) {i : Int} (h : 0 ≤ i) : cut a none (some i) = a.take i.toNat := by
  obtain ⟨n, rfl⟩ := Int.eq_ofNat_of_zero_le h
  exact cut_to a n
theorem cut_fromI {α : Type} (a : List α) {i : Int} (h : 0 ≤ i) : cut a (some i) none = a.drop i.toNat := by
  obtain ⟨n, rfl⟩ := Int.eq_ofNat_of_zero_le h
  exact cut_from a n
theorem cut_midI {α : Type} (a : List α) {i j : Int} (h : 0 ≤ i) (h2 : 0 ≤ j) : cut a (some i) (some j) = (a.drop i.toNat).take (j.toNat - i.toNat) := by
  obtain ⟨n, rfl⟩ := Int.eq_ofNat_of_zero_le h
  obtain ⟨m, rfl⟩ := Int.eq_ofNat_of_zero_le h2
  exact cut_mid a n m
section
variable {X : Cx} {pos : Pos}
/-- a written text by its signs -/
theorem pe_tx (l : List Nat) {x : Str} {j : Nat} (e : x = ⟨l.toArray⟩ := by decide +kernel) : PE X (.Constant (.str x) j pos) (tC (tx l)) := by
  subst e
  exact pe_str
def rCatT : R2 := fun x y H Q => ∃ a b, x = tx a ∧ y = tx b ∧ a.length + b.length ≤ sizeLine ∧ Q (tx (a ++ b)) H
theorem op_catT : OpR X (binaryOp .Add) rCatT := OpR.imp op_add_str fun x y H Q h => by
  obtain ⟨a, b, rfl, rfl, hz, q⟩ := h
  refine ⟨_, _, rfl, rfl, by simpa [Str.length] using hz, ?_⟩
  rw [SX.S_cat]
  exact q
def rEqT : R2 := fun x y H Q => ∃ a b, x = tx a ∧ y = tx b ∧ Q (.bl (decide (a = b))) H
theorem op_eqT : OpR X (compareOp .Eq) rEqT := OpR.imp op_eq fun x y H Q h => by
  obtain ⟨a, b, rfl, rfl, q⟩ := h
  refine ⟨rfl, ?_⟩
  rw [tx_dec]
  exact q
def rNeT : R2 := fun x y H Q => ∃ a b, x = tx a ∧ y = tx b ∧ Q (.bl (!decide (a = b))) H
theorem op_neT : OpR X (compareOp .NotEq) rNeT := OpR.imp op_ne fun x y H Q h => by
  obtain ⟨a, b, rfl, rfl, q⟩ := h
  refine ⟨rfl, ?_⟩
  rw [tx_dec]
  exact q
def rEqI : R2 := rI0 fun i j => .bl (decide (i = j))
theorem op_eqI : OpR X (compareOp .Eq) rEqI := OpR.imp op_eq fun x y H Q h => by
  obtain ⟨i, j, rfl, rfl, q⟩ := h
  refine ⟨rfl, ?_⟩
  have e : decide (V.int i = V.int j) = decide (i = j) := by
    by_cases z : i = j
    · rw [decide_eq_true z, decide_eq_true (congrArg V.int z)]
    · rw [decide_eq_false z, decide_eq_false fun y => z (V.int.inj y)]
  rw [e]
  exact q
def rNeI : R2 := rI0 fun i j => .bl (!decide (i = j))
theorem op_neI : OpR X (compareOp .NotEq) rNeI := OpR.imp op_ne fun x y H Q h => by
  obtain ⟨i, j, rfl, rfl, q⟩ := h
  refine ⟨rfl, ?_⟩
  have e : decide (V.int i = V.int j) = decide (i = j) := by
    by_cases z : i = j
    · rw [decide_eq_true z, decide_eq_true (congrArg V.int z)]
    · rw [decide_eq_false z, decide_eq_false fun y => z (V.int.inj y)]
  rw [e]
  exact q
def rLtT : R2 := fun x y H Q => ∃ a b, x = tx a ∧ y = tx b ∧ Q (.bl (decide (a < b))) H
theorem op_ltT : OpR X (compareOp .Lt) rLtT := OpR.imp op_lt_str fun x y H Q h => by
  obtain ⟨a, b, rfl, rfl, q⟩ := h
  exact ⟨_, _, rfl, rfl, q⟩
def rInT : R2 := fun x y H Q => ∃ c a, x = tx [c] ∧ y = tx a ∧ Q (.bl (decide (c ∈ a))) H
theorem op_inT : OpR X (compareOp .In) rInT := OpR.imp op_in_sign fun x y H Q h => by
  obtain ⟨c, a, rfl, rfl, q⟩ := h
  exact ⟨_, _, rfl, rfl, q⟩
def rNotInT : R2 := fun x y H Q => ∃ c a, x = tx [c] ∧ y = tx a ∧ Q (.bl (!decide (c ∈ a))) H
theorem op_notInT : OpR X (compareOp .NotIn) rNotInT := OpR.imp op_notIn_sign fun x y H Q h => by
  obtain ⟨c, a, rfl, rfl, q⟩ := h
  exact ⟨_, _, rfl, rfl, q⟩
def rIxTx : R2 := fun x y H Q => ∃ a i c, x = tx a ∧ y = .int i ∧ a.length ≤ sizeLine ∧ atI a i = some c ∧ Q (tx [c]) H
theorem ix_tx : IxR X rIxTx := IxR.imp ix_str fun x y H Q h => by
  obtain ⟨a, i, c, rfl, rfl, hz, e, q⟩ := h
  exact ⟨_, i, c, rfl, rfl, by simpa [Str.length] using hz, e, q⟩
def rSlTx : V → Option Int → Option Int → Hp → VK → Prop := fun x lo hi H Q => ∃ a, x = tx a ∧ a.length ≤ sizeLine ∧ Q (tx (cut a lo hi)) H
theorem sl_tx : SlR X rSlTx := SlR.imp sl_str fun x lo hi H Q h => by
  obtain ⟨a, rfl, hz, q⟩ := h
  refine ⟨_, rfl, by simpa [Str.length] using hz, ?_⟩
  rw [cutS_eq]
  exact q
def rLenT : List V → Hp → VK → Prop := fun xs H Q => ∃ a, xs = [tx a] ∧ a.length ≤ sizeLine ∧ Q (.int (a.length : Int)) H
theorem call_lenT : CallR X (.builtin "len") rLenT := CallR.imp call_len_str fun xs H Q h => by
  obtain ⟨a, rfl, hz, q⟩ := h
  refine ⟨_, rfl, by simpa [Str.length] using hz, ?_⟩
  simpa [Str.length] using q
/-- text * n -/
def rRepT : R2 := fun x y H Q => ∃ a i, x = tx a ∧ y = .int i ∧ 0 ≤ i ∧ i ≤ 16777216 ∧ a.length * i.toNat ≤ sizeLine ∧ Q (tx (List.replicate i.toNat a).flatten) H
theorem fold_app (l : List Nat) : ∀ (n : Nat) (acc : Array Nat), (List.replicate n l.toArray).foldl (· ++ ·) acc = acc ++ ((List.replicate n l).flatten).toArray
  | 0, acc => by simp
  | n + 1, acc => by
    rw [List.replicate_succ, List.foldl_cons, fold_app l n, List.replicate_succ, List.flatten_cons]
    apply Array.ext'
    simp
theorem op_repT : OpR X (binaryOp .Mult) rRepT := by
  intro pins s σ H x y v u Q I rx ry h
  obtain ⟨a, i, rfl, rfl, h0, h1, hz, q⟩ := h
  obtain ⟨t, rfl⟩ := rx
  obtain ⟨t', rfl⟩ := ry
  obtain ⟨n, rfl⟩ := Int.eq_ofNat_of_zero_le h0
  have hn : ((n : Nat) : Int).toNat = n := Int.toNat_natCast n
  rw [hn] at hz q
  have al : (⟨a.toArray⟩ : Str).length = a.length := by simp [Str.length]
  refine PySem.P.mul_str ?_ (fun h2 h3 => ?_) (fun h2 h3 => ?_) ?_
  · rw [decide_eq_false (by omega), decide_eq_false (by omega)]
    rfl
  · rw [al]
    intro h4
    have h5 : ((a.length : Int)) * (n : Int) ≤ 16777216 := by
      have : a.length * n ≤ 16777216 := by rw [sizeLine_eq] at hz; exact hz
      have h8 : ((a.length * n : Nat) : Int) ≤ ((16777216 : Nat) : Int) := Int.ofNat_le.mpr this
      rw [Int.natCast_mul] at h8
      exact h8
    have h6 : (2 ^ 63 - 1 : Int) / (n : Int) * (n : Int) + (n : Int) > (2 ^ 63 - 1) := by
      have := Int.lt_ediv_add_one_mul_self (2 ^ 63 - 1 : Int) (show (0 : Int) < (n : Int) by omega)
      rw [Int.add_mul, Int.one_mul] at this
      omega
    have h7 : ((2 ^ 63 - 1 : Int) / (n : Int) + 1) * (n : Int) ≤ (a.length : Int) * (n : Int) := Int.mul_le_mul_of_nonneg_right (by omega) (by omega)
    rw [Int.add_mul, Int.one_mul] at h7
    omega
  · rw [al, hn]
    unfold Builtin.Str.tooLong
    exact decide_eq_false (Nat.not_lt.mpr hz)
  · by_cases c1 : ((n : Nat) : Int) < 1
    · rw [if_pos c1]
      have e0 : n = 0 := by omega
      subst e0
      exact ⟨by decide, .str _, H, I.tok _, ⟨_, rfl⟩, q⟩
    · rw [if_neg c1]
      by_cases c2 : (((n : Nat) : Int) == 1 || (⟨a.toArray⟩ : Str).length == 0) = true
      · rw [if_pos c2]
        refine ⟨.str ⟨a.toArray⟩, H, I, ⟨_, rfl⟩, ?_⟩
        have e : (List.replicate n a).flatten = a := by
          rw [al] at c2
          simp only [Bool.or_eq_true, beq_iff_eq] at c2
          rcases c2 with c2 | c2
          · have e1 : n = 1 := by omega
            subst e1
            simp
          · have e1 : a = [] := List.length_eq_zero_iff.mp c2
            subst e1
            simp
        rw [e] at q
        exact q
      · rw [if_neg c2, hn]
        have e : (List.replicate n (⟨a.toArray⟩ : Str).cps).foldl (· ++ ·) #[] = ((List.replicate n a).flatten).toArray := by
          have := fold_app a n #[]
          simpa using this
        rw [e]
        refine ⟨?_, .str _, H, I.tok _, ⟨_, rfl⟩, q⟩
        show (List.replicate n a).flatten.toArray.size ≤ sizeLine
        simp
        rw [Nat.mul_comm]
        exact hz
end
end Ow
/-! Ow, part C: a list's item read for an operator in place, a text turned about; heaps that differ at one place; the bag. -/
namespace Ow
open PySem PySem.Spec PyProof.Rows L2

section
variable {X : Cx}
/-- xs[i], for xs[i] op= e -/
theorem pg_list : PGet X (rIxL X.K) := by
  intro pins s σ H o i ov iv Q I ro ri h
  obtain ⟨p, xs, k, z, rfl, rfl, hq, he, q⟩ := h
  cases ro
  obtain ⟨t, rfl⟩ := ri
  obtain ⟨its, r, pl, hz⟩ := I.list hq
  obtain ⟨j, h1, h2, h3, h4, h5⟩ := atI_get he
  obtain ⟨u, eu, ru⟩ := r.get h2
  have hl := r.length
  have hn := line63
  have fin : EP X pins σ Q u s := ⟨z, H, I, ru, q⟩
  by_cases h0 : 0 ≤ k
  · have hj : k.toNat = j := by
      rw [seqIndex_of h0 h5] at h1
      exact Option.some.inj h1
    exact wpAny_getItem_list pl.isList h0 (by omega) (by rw [hj]; simpa using eu) fin
  · have hj : (k + (its.toArray.size : Int)).toNat = j := by
      rw [seqIndex_neg (by omega) h4] at h1
      rw [List.size_toArray, ← hl]
      exact Option.some.inj h1
    exact wpAny_getItem_list_neg pl.isList (by omega) (by rw [List.size_toArray]; omega) (by omega) (by rw [hj]; simpa using eu) fin
theorem get_rev (a : List Nat) : ((List.range a.length).map fun k => a.toArray.getD (a.length - 1 - k) 0) = a.reverse := by
  apply List.ext_getElem
  · simp
  · intro i h1 h2
    simp at h1
    have h3 : a.length - 1 - i < a.length := by omega
    simp [Array.getD, h3, List.getElem_reverse]
/-- s[::-1] -/
def tRevT (te : TE) : TE := fun σ H Q => te σ H fun x H1 => ∃ a, x = tx a ∧ a.length ≤ sizeLine ∧ Q (tx a.reverse) H1
theorem pe_revT {e : Expr} {te : TE} {k : Nat} {p1 p2 p3 pos : Pos} (he : PE X e te) : PE X (.Subscript e (.Slice none none (some (.UnaryOp .USub (.Constant (.int 1) k p1) p2)) p3) pos) (tRevT te) := by
  refine ⟨fun pins s σ H Q I h => ?_⟩
  refine Subscript_ (thn (he.run pins s σ H _ I h) fun v s1 z => ?_)
  obtain ⟨x, H1, I1, r1, a, rfl, hz, q⟩ := z
  obtain ⟨t, rfl⟩ := r1
  have hst : PO X (some (.UnaryOp .USub (.Constant (.int 1) k p1) p2)) (tPart (tUn (rU fun i => .int (-i)) (tC (.int 1)))) := po_some (pe_un un_neg pe_int)
  refine wpAny_Slice (thn (po_none.run pins s1 σ H1 (fun o H2 => o = none ∧ H2 = H1) I1 ⟨rfl, rfl⟩) fun vl s2 z => ?_)
  obtain ⟨l, H2, I2, pl, rfl, rfl⟩ := z
  refine thn (po_none.run pins s2 σ H2 (fun o H3 => o = none ∧ H3 = H2) I2 ⟨rfl, rfl⟩) fun vu s3 z => ?_
  obtain ⟨u, H3, I3, pu, rfl, rfl⟩ := z
  refine thn (hst.run pins s3 σ H3 (fun o H4 => o = some (-1) ∧ H4 = H3) I3 ⟨1, rfl, -1, rfl, rfl, rfl⟩) fun vs s4 z => ?_
  obtain ⟨o, H4, I4, ps, rfl, rfl⟩ := z
  have I5 : Inv X pins σ H4 { s4 with heap := s4.heap.push { cls := .type "slice", data := .fields #[vl, vu, vs] } } := I4.kept (t' := s4.toks) fun b ob q => Heap.get?_push_of_some _ q
  obtain ⟨lo, el, el2⟩ := IsPart.raw pl
  obtain ⟨up, eu, eu2⟩ := IsPart.raw pu
  obtain ⟨st, es, es2⟩ := IsPart.raw ps
  cases lo with
  | some y => cases el2
  | none =>
    cases up with
    | some y => cases eu2
    | none =>
      cases st with
      | none => cases es2
      | some y =>
        obtain ⟨m, tm⟩ := y
        have em : m = -1 := by simpa using es2
        subst em
        subst el eu es
        show wpAny (model X.prog X.w) X.A (subscriptTail e (.Slice none none (some (.UnaryOp .USub (.Constant (.int 1) k p1) p2)) p3) (.str ⟨a.toArray⟩ t) (.ref s4.heap.objs.size)) (EP X pins σ Q) X.xe _
        refine tail_any (ops := [.str ⟨a.toArray⟩ t, .ref s4.heap.objs.size]) (typeIs_str _ _ _) F.slot_str_getitem.lookup ?_ (by with_unfolding_all rfl)
        refine wpAny_getItem_str_slice (l := none) (u := none) (st := some (-1, tm)) ⟨_, Heap.get?_push_size _ rfl, rfl, rfl⟩ rfl ?_
        have hl : (⟨a.toArray⟩ : Str).length = a.length := by simp [Str.length]
        have e2 : Builtin.Str.strSliceIndices none none (-1) a.length = (List.range a.length).map fun k => a.length - 1 - k := picked_rev _
        unfold sliceMade slicePicked
        simp only [Option.map_none, Option.map_some, Option.getD_some, hl, e2]
        rw [if_neg (by simp)]
        have e3 : ((List.range a.length).map fun k => a.length - 1 - k).filterMap (fun x => a.toArray[x]?) = a.reverse := by
          rw [PyProof.Rows.filterMap_get a.toArray _ (fun i hi => by
            obtain ⟨k, hk, rfl⟩ := List.mem_map.mp hi
            have := List.mem_range.mp hk
            simp
            omega), List.map_map]
          exact get_rev a
        rw [e3]
        refine ⟨?_, tx a.reverse, H4, I5.tok _, ⟨_, rfl⟩, q⟩
        show a.reverse.toArray.size ≤ sizeLine
        simpa using hz
end

theorem MtR.imp {id : String} {r r' : V → List V → Hp → VK → Prop} (h : MtR X id r) (i : ∀ x xs H Q, r' x xs H Q → r x xs H Q) : MtR X id r' := fun pins s σ H x xs v us Q I rx rs q => h pins s σ H x xs v us Q I rx rs (i _ _ _ _ q)
theorem joinE : ∀ ls : List (List Nat), TL.joinL [] ls = ls.flatten
  | [] => rfl
  | [p] => by simp [TL.joinL]
  | p :: q :: r => by
    rw [TL.joinL, joinE (q :: r)]
    simp
/-- "".join(xs) -/
def rJoinE (K : PySem.W.Frag) : V → List V → Hp → VK → Prop := fun x xs H Q => ∃ (p : Addr) (ls : List (List Nat)), x = tx [] ∧ xs = [.ref p] ∧ SqL K H p (ls.map tx) ∧ ls.flatten.length ≤ 16777216 ∧ Q (tx ls.flatten) H
theorem mt_joinE : MtR X "str.join" (rJoinE X.K) := MtR.imp mt_join fun x xs H Q h => by
  obtain ⟨p, ls, rfl, rfl, hs, hz, q⟩ := h
  refine ⟨_, p, ls.map SX.S, rfl, rfl, .inl ?_, ?_, ?_⟩
  · rw [List.map_map]
    exact hs
  · rw [SX.lens, List.length_map]
    rw [List.length_flatten] at hz
    rw [SX.S_len]
    simpa using hz
  · have e : Txt.join (SX.S []) (ls.map SX.S) = SX.S ls.flatten := by rw [SX.join_S, joinE]
    rw [e]
    exact q
theorem pe_joinE {to te : TE} {o e : Expr} {apos pos : Pos} (ho : PE X o to) (he : PE X e te) (hs : starEach [e] X.env = [(false, eval e X.env)] := by rfl) (hbase : attributeBase o "join" X.env (eval o X.env) = eval o X.env := by rfl) (hline : (apos.endLine == pos.line) = true := by rfl) :
    PE X (.Call (.Attribute o "join" apos) [e] [] pos) (tM1 (rJoinE X.K) to te) := pe_m1 F.slot_str_join F.type_str_join mt_joinE ho he hs hbase hline
/-- a comprehension without a test -/
theorem yes {σ : L2.St} {H : Hp} {A B : Hp → Prop} (h : A H) : tYes σ H (fun b H3 => if b = true then A H3 else B H3) := by
  show if true = true then A H else B H
  rw [if_pos rfl]
  exact h

theorem walk_tx {a : List Nat} : Walk (Its ⟨a.toArray⟩) a.length (fun _ => True) (fun i H v H' => H' = H ∧ ∃ c, a[i]? = some c ∧ v = tx [c]) := by
  have w := walk_str (z := ⟨a.toArray⟩)
  have e : (⟨a.toArray⟩ : Str).cps.size = a.length := by simp
  rw [e] at w
  refine w.mono (fun _ z => z) fun i H x H' hi _ y => ?_
  obtain ⟨e1, c, e2, e3⟩ := y
  refine ⟨e1, c, ?_, e3⟩
  simpa using e2
/-- a for over a text's signs -/
theorem for_T {a : List Nat} {g : TG} {tb : TS} {D : Ends} {σ : L2.St} {H : Hp} (Pv : Nat → L2.St → Hp → Prop) (h0 : Pv 0 σ H)
    (hs : ∀ i c σ H, a[i]? = some c → Pv i σ H → g (tx [c]) σ H fun σ2 H2 => tb { D with nx := Pv (i + 1), ct := Pv (i + 1), bk := D.nx } σ2 H2) (hd : ∀ σ H, Pv a.length σ H → D.nx σ H) :
    ∃ W : Nat → Nat → L2.St → Hp → Prop, (∃ m, W 0 m σ H) ∧ ∀ i m σ H, W i m σ H →
      ((Its ⟨a.toArray⟩).stop i H ∧ D.nx σ H) ∨ ((Its ⟨a.toArray⟩).go i H ∧ ∃ N : L2.St → Hp → Prop, (∀ σ' H', N σ' H' → ∃ m', m' < m ∧ W (i + 1) m' σ' H') ∧ ∀ x H', (Its ⟨a.toArray⟩).yld i H x H' → g x σ H' fun σ2 H2 => tb { D with nx := N, ct := N, bk := D.nx } σ2 H2) :=
  for_it walk_tx Pv h0 (fun _ _ _ _ _ => trivial) (fun i x σ H H' hi p y => by
    obtain ⟨rfl, c, hc, rfl⟩ := y
    exact hs i c σ _ hc p) hd
/-- a comprehension over a text's signs -/
theorem lc_T {a : List Nat} {g : TG} {tt : TT} {te : TE} {vs : List Nat} {σ : L2.St} {H1 : Hp} {D : Addr} {Qd : Hp → Prop} (Pv : Nat → Hp → Prop) (h0 : Pv 0 (upd H1 D (.lst [])))
    (hs : ∀ i c H, a[i]? = some c → Pv i H → g (tx [c]) (wipe σ vs) H fun σ2 H2 => wipe σ2 vs = wipe σ vs ∧ tt σ2 H2 fun b H3 =>
      if b = true then te σ2 H3 fun y H4 => ∃ acc, H4 D = some (.lst acc) ∧ acc.length < sizeLine ∧ Pv (i + 1) (upd H4 D (.lst (acc ++ [y]))) else Pv (i + 1) H3) (hd : ∀ H, Pv a.length H → Qd H) :
    ∃ W : Nat → Nat → Hp → Prop, (∃ m, W 0 m (upd H1 D (.lst []))) ∧ ∀ i m H, W i m H →
      ((Its ⟨a.toArray⟩).stop i H ∧ Qd H) ∨ ((Its ⟨a.toArray⟩).go i H ∧ ∃ Nx : Hp → Prop, (∀ H', Nx H' → ∃ m', m' < m ∧ W (i + 1) m' H') ∧ ∀ x H', (Its ⟨a.toArray⟩).yld i H x H' → g x (wipe σ vs) H' fun σ2 H2 => wipe σ2 vs = wipe σ vs ∧ tt σ2 H2 fun b H3 =>
        if b = true then te σ2 H3 fun y H4 => ∃ acc, H4 D = some (.lst acc) ∧ acc.length < sizeLine ∧ Nx (upd H4 D (.lst (acc ++ [y]))) else Nx H3) :=
  lc_it walk_tx Pv h0 (fun _ _ _ _ => trivial) (fun i x H H' hi p y => by
    obtain ⟨rfl, c, hc, rfl⟩ := y
    exact hs i c _ hc p) hd
theorem at_nat {α : Type} {xs : List α} {z : Int} {j : Nat} {v : α} (e : z = (j : Int)) (h : xs[j]? = some v) : atI xs z = some v := by
  rw [e]
  exact atI_nat h

/-! ### heaps -/
theorem _root_.L2.Same.new {H : Hp} {p : Addr} {o : HO} (h : H p = none) : Same H (upd H p o) := fun a u e => by
  rw [upd_ne (ne_of_none e h)]
  exact e
theorem _root_.L2.Same.sqT {K : PySem.W.Frag} {H H' : Hp} {a : Addr} {xs : List V} (e : Same H H') (h : SqT K H a xs) : SqT K H' a xs := by
  rcases h with (h | ⟨o, h⟩) | h
  · exact .inl (.inl (e _ _ h))
  · exact .inl (.inr ⟨o, e _ _ h⟩)
  · exact .inr h
mutual
theorem dp_same {K : PySem.W.Frag} {H H' : Hp} (e : Same H H') : ∀ {v : V} {d : PyData}, Dp K H v d → Dp K H' v d
  | _, _, .non => .non
  | _, _, .bl b => .bl b
  | _, _, .int i => .int i
  | _, _, .str x => .str x
  | _, _, .lst h1 h2 => .lst (e.seq h1) (dps_same e h2)
  | _, _, .tup h1 h2 => .tup (L2.Same.sqT e h1) (dps_same e h2)
theorem dps_same {K : PySem.W.Frag} {H H' : Hp} (e : Same H H') : ∀ {vs : List V} {ds : List PyData}, DpAll K H vs ds → DpAll K H' vs ds
  | _, _, .nil => .nil
  | _, _, .cons h1 h2 => .cons (dp_same e h1) (dps_same e h2)
end
/-- all stands but at b -/
def But (b : Addr) (H H' : Hp) : Prop := ∀ a o, a ≠ b → H a = some o → H' a = some o
theorem But.refl (b : Addr) (H : Hp) : But b H H := fun _ _ _ e => e
theorem But.trans {b : Addr} {H H1 H2 : Hp} (h : But b H H1) (h' : But b H1 H2) : But b H H2 := fun a o n e => h' a o n (h a o n e)
theorem But.of {b : Addr} {H H' : Hp} (h : Same H H') : But b H H' := fun a o _ e => h a o e
theorem But.new {b : Addr} {H : Hp} {p : Addr} {o : HO} (h : H p = none) : But b H (upd H p o) := .of (.new h)
theorem But.at {b : Addr} {H : Hp} {o : HO} : But b H (upd H b o) := fun a u n e => by
  rw [upd_ne n]
  exact e
theorem But.free {b : Addr} {H H' : Hp} (h : But b H H') (hb : H b = none) : Same H H' := fun a o e => h a o (ne_of_none e hb) e
theorem sq_new {K : PySem.W.Frag} {H : Hp} {p : Addr} {xs : List V} (h : H p = some (.lst xs)) : SqL K H p xs := .inl (.inl h)
theorem st_new {K : PySem.W.Frag} {H : Hp} {p : Addr} {xs : List V} (h : H p = some (.tup xs)) : SqT K H p xs := .inl (.inl h)
theorem len_lt {n : Nat} (h : n < 16777216) : n < sizeLine := by
  rw [sizeLine_eq]
  exact h
theorem len_le {n : Nat} (h : n ≤ 16777216) : n ≤ sizeLine := by
  rw [sizeLine_eq]
  exact h

/-! ### the bag from which the law draws -/
structure BagAt (H : Hp) (b c : Addr) (cs : List Int) (x0 x1 x2 : Int) : Prop where
  at_ : H b = some (.lst [.int x0, .int x1, .int x2, .ref c])
  cells : H c = some (.lst (cs.map V.int))
  n0 : 0 ≤ x0
  n1 : 0 ≤ x1
  l1 : x1 < 2147483648
  n2 : 0 ≤ x2
  nc : ∀ z ∈ cs, 0 ≤ z
  ne : b ≠ c
def Bag (H : Hp) (b c : Addr) : Prop := ∃ cs x0 x1 x2, BagAt H b c cs x0 x1 x2
theorem Bag.same {H H' : Hp} {b c : Addr} (h : Bag H b c) (e : Same H H') : Bag H' b c := by
  obtain ⟨cs, x0, x1, x2, B⟩ := h
  exact ⟨cs, x0, x1, x2, ⟨e _ _ B.at_, e _ _ B.cells, B.n0, B.n1, B.l1, B.n2, B.nc, B.ne⟩⟩
theorem BagAt.put {H : Hp} {b c : Addr} {cs : List Int} {x0 x1 x2 y0 y1 y2 : Int} (B : BagAt H b c cs x0 x1 x2) (n0 : 0 ≤ y0) (n1 : 0 ≤ y1) (l1 : y1 < 2147483648) (n2 : 0 ≤ y2) :
    BagAt (upd H b (.lst [.int y0, .int y1, .int y2, .ref c])) b c cs y0 y1 y2 :=
  ⟨upd_same, by rw [upd_ne (Ne.symm B.ne)]; exact B.cells, n0, n1, l1, n2, B.nc, B.ne⟩
theorem Bag.ne {H : Hp} {b c p : Addr} (h : Bag H b c) (hp : H p = none) : p ≠ b := by
  obtain ⟨cs, x0, x1, x2, B⟩ := h
  exact (ne_of_none B.at_ hp).symm
theorem Bag.nc {H : Hp} {b c p : Addr} (h : Bag H b c) (hp : H p = none) : p ≠ c := by
  obtain ⟨cs, x0, x1, x2, B⟩ := h
  exact (ne_of_none B.cells hp).symm
theorem Bag.new {H : Hp} {b c p : Addr} {o : HO} (h : Bag H b c) (hp : H p = none) : Bag (upd H p o) b c := h.same (.new hp)
/-- an object that is not the bag's changes -/
theorem Bag.mut {H : Hp} {b c p : Addr} {o : HO} (h : Bag H b c) (n1 : p ≠ b) (n2 : p ≠ c) : Bag (upd H p o) b c := by
  obtain ⟨cs, x0, x1, x2, B⟩ := h
  exact ⟨cs, x0, x1, x2, ⟨by rw [upd_ne (Ne.symm n1)]; exact B.at_, by rw [upd_ne (Ne.symm n2)]; exact B.cells, B.n0, B.n1, B.l1, B.n2, B.nc, B.ne⟩⟩
/-- all that a draw leaves -/
structure Drew (b c : Addr) (H H' : Hp) : Prop where
  bag : Bag H' b c
  but : But b H H'
theorem Drew.trans {b c : Addr} {H H1 H2 : Hp} (x : Drew b c H H1) (y : Drew b c H1 H2) : Drew b c H H2 := ⟨y.bag, x.but.trans y.but⟩
theorem Drew.refl {b c : Addr} {H : Hp} (h : Bag H b c) : Drew b c H H := ⟨h, .refl b H⟩
theorem Drew.same {b c : Addr} {H H1 H2 : Hp} (x : Drew b c H H1) (y : Same H1 H2) : Drew b c H H2 := ⟨x.bag.same y, x.but.trans (.of y)⟩
theorem Drew.new {b c p : Addr} {o : HO} {H H1 : Hp} (x : Drew b c H H1) (hp : H1 p = none) : Drew b c H (upd H1 p o) := x.same (.new hp)
/-- what was new at H changes -/
theorem Drew.mut {b c p : Addr} {o : HO} {H H1 : Hp} (x : Drew b c H H1) (hb : Bag H b c) (hp : H p = none) : Drew b c H (upd H1 p o) :=
  ⟨x.bag.mut (hb.ne hp) (hb.nc hp), fun a u n e => by
    rw [upd_ne (ne_of_none e hp)]
    exact x.but a u n e⟩
theorem Drew.at {b c p : Addr} {o : HO} {H H1 : Hp} (x : Drew b c H H1) (hb : Bag H b c) (hp : H p = some o) (n : p ≠ b) : H1 p = some o := x.but p o n hp
/-- a number below n is drawn -/
def spTake : Sp := fun vs H Q _ => ∃ (b c : Addr) (n : Int), vs = [.ref b, .int n] ∧ Bag H b c ∧ 1 ≤ n ∧ n.natAbs.log2 < 9000 ∧ ∀ (v : Int) (H' : Hp), 0 ≤ v → v < n → Drew b c H H' → Q (.int v) H'
end Ow
/-! Ow, part D: sorted of data, list(range(a, b, c)), tables of lists. -/
namespace Ow
open PySem PySem.Spec PyProof.Rows L2
open PySem.W (EachIs AllAlike Sortable dataLe)

section
variable {X : Cx}
/-- sorted(xs), each item known as data -/
def sortD (bs : List (V × PyData)) : List (V × PyData) := bs.mergeSort (dataLe false fun b => b.2)
def rSortedD (K : PySem.W.Frag) : List V → Hp → VK → Prop := fun vs H Q => ∃ (a : Addr) (bs : List (V × PyData)), vs = [.ref a] ∧ SqL K H a (bs.map (·.1)) ∧ (∀ b ∈ bs, Dp K H b.1 b.2) ∧ AllAlike (bs.map (·.2)) ∧ Sortable (bs.map (·.2)) ∧
  (∀ b ∈ bs, b.2.depth ≤ 40) ∧ ∀ p, H p = none → Q (.ref p) (upd H p (.lst ((sortD bs).map (·.1))))
theorem each_of {bs : List (V × PyData)} : ∀ {its : List Value}, Vals (bs.map (·.1)) its → EachIs (fun v (b : V × PyData) => RelV b.1 v) its bs := by
  induction bs with
  | nil =>
    intro its r
    cases r
    exact .nil
  | cons b bs ih =>
    intro its r
    cases r with
    | cons h t => exact .cons h (ih t)
theorem vals_each : ∀ {its : List Value} {bs : List (V × PyData)}, EachIs (fun v (b : V × PyData) => RelV b.1 v) its bs → Vals (bs.map (·.1)) its
  | _, _, .nil => .nil
  | _, _, .cons h t => .cons h (vals_each t)
theorem each_mem {α β : Type} {R : α → β → Prop} {R' : α → β → Prop} : ∀ {as : List α} {bs : List β}, EachIs R as bs → (∀ a b, b ∈ bs → R a b → R' a b) → EachIs R' as bs
  | _, _, .nil, _ => .nil
  | _, _, .cons h t, f => .cons (f _ _ (List.mem_cons_self ..) h) (each_mem t fun a b m => f a b (List.mem_cons_of_mem _ m))
theorem cr_sortedD {k : Nat} (hr : Room k X.A) : CallR X (.builtin "sorted") (rSortedD X.K) := by
  intro pins s σ H vs us Q I r h
  obtain ⟨a, bs, rfl, hs, hd, hal, hso, hdp, q⟩ := h
  obtain ⟨its, rv, hl, hz⟩ := I.list hs
  rw [Vals.ref1 r]
  have e := each_of rv
  have hlen := rv.length
  rw [List.length_map] at hlen
  rw [List.length_map] at hz
  have hu := hr.un
  refine PySem.W.sorted_data (enc := fun b => b.2) hl.isList e (each_mem e fun v b m rb => ?_) hal hso hz (fun b m => by have := hdp b m; omega) fun out h1 h2 => ?_
  · obtain ⟨as, rd⟩ := Dp.reads I b.2 b.1 v (hd b m) rb
    exact ⟨as, rd⟩
  · obtain ⟨ep, he'⟩ := PyProof.Rows.sortedAll_at s.heap its out.toArray
    have rv2 : Vals ((sortD bs).map (·.1)) out := vals_each h2
    have hz2 : ((sortD bs).map (·.1)).length ≤ sizeLine := by
      rw [List.length_map]
      unfold sortD
      rw [List.length_mergeSort]
      exact hz
    exact ⟨.ref _, upd H (s.heap.objs.size + 1) (.lst ((sortD bs).map (·.1))), I.laid (t' := s.toks) (fun _ _ => PyProof.Rows.sortedAll_old) (Nat.le_succ _) ⟨hz2, out, ep, rv2, he'⟩, rfl, q _ (I.hok.fresh (Nat.le_succ _))⟩

/-- list(range(a, b, c)) -/
def tLstRg3 (ta : TA) : TE := fun σ H Q => ta σ H fun vs H1 => ∃ (i j c : Int) (n : Nat), vs = [.int i, .int j, .int c] ∧ RgC i j c n ∧ n ≤ 2 ^ 24 ∧ ∀ q, H1 q = none → Q (.ref q) (upd H1 q (.lst ((List.range n).map fun k => V.int (i + (k : Nat) * c))))
theorem vals_rg3 {i c : Int} {n : Nat} {acc : Array Value} (h : ItemsOf (fun k v => ∃ t, v = .int (i + k * c) t) acc n) : Vals ((List.range n).map fun k => V.int (i + (k : Nat) * c)) acc.toList := by
  have e : acc.toList.length = n := by rw [Array.length_toList]; exact h.1
  rw [← e]
  refine vals_of_get acc.toList _ fun j u hj => ?_
  obtain ⟨t, rfl⟩ := h.2 j u (by rw [← hj, Array.getElem?_toList])
  exact ⟨t, rfl⟩
theorem pe_listRg3 {a b c : Expr} {ta : TA} {p p2 pos pos2 : Pos} (hg : Gl X "list") (hm : X.mg "list" = none) (hg2 : Gl X "range") (hm2 : X.mg "range" = none) (hc : X.calm = true) (ha : PA X [a, b, c] ta)
    (n1 : starEach [.Call (.Name "range" p2) [a, b, c] [] pos2] X.env = (false, eval (.Call (.Name "range" p2) [a, b, c] [] pos2) X.env) :: starEach [] X.env := by rfl)
    (n2 : starEach [a, b, c] X.env = (false, eval a X.env) :: starEach [b, c] X.env := by rfl) (n3 : (backTo pos2 (starEach [b, c] X.env)).any (·.1) = false := by rfl) :
    PE X (.Call (.Name "list" p) [.Call (.Name "range" p2) [a, b, c] [] pos2] [] pos) (tLstRg3 ta) := by
  refine ⟨fun pins s σ H Q I h => ?_⟩
  refine Call_ (ld_blt I hg hm boot_list (PyProof.Rows.callWith_type1 (args_cons ?_ n1) n1))
  refine Call_ (ld_blt I hg2 hm2 boot_range (PyProof.Rows.callWith_type1 (thn (ha.run pos2 pins s σ H _ I h) fun us s1 z => ?_) n2 n3))
  obtain ⟨vs, H1, I1, r1, i, j, k, n, e, ⟨c0, c1, c2, c3⟩, c4, q⟩ := z
  subst e
  cases r1 with
  | cons r rr =>
    cases rr with
    | cons r' rr =>
      cases rr with
      | cons r'' rr =>
        cases rr
        obtain ⟨t, rfl⟩ := r
        obtain ⟨t', rfl⟩ := r'
        obtain ⟨t'', rfl⟩ := r''
        refine call_range_3 c0 ?_ (.inl (PyProof.noPylong_small c1))
        have I2 : Inv X pins σ H1 { s1 with heap := s1.heap.push { cls := .type "range", data := .fields #[.int i t, .int j t', .int k t''] } } := I1.kept (t' := s1.toks) fun b o e => Heap.get?_push_of_some _ e
        refine args_nil ?_
        refine call_list_range (n := n) (I2.ok.hd hc) (IsRange.new _ _ _ _ _ _ _) c2 c3 c4 fun h' tk acc c' hk e' hi => ?_
        refine ⟨.ref _, upd H1 _ (.lst ((List.range n).map fun m => V.int (i + (m : Nat) * k))), I2.laid hk (Nat.le_refl _) (show ObjOk X.prog X.w _ _ _ (.lst _) from ⟨?_, acc.toList, c', vals_rg3 hi, ?_⟩), rfl, q _ (I2.hok.fresh (Nat.le_refl _))⟩
        · rw [List.length_map, List.length_range, sizeLine_eq]
          exact c4
        · rw [Array.toArray_toList]
          exact e'
end

/-! ### tables of lists -/
section
variable {κ β : Type} [DecidableEq κ]
def look (ks : List (κ × β)) (k : κ) : Option β := (ks.find? fun kv => decide (kv.1 = k)).map (·.2)
def put (ks : List (κ × β)) (k : κ) (v : β) : List (κ × β) := if (ks.any fun kv => decide (kv.1 = k)) = true then ks.map (fun kv => if kv.1 = k then (kv.1, v) else kv) else ks ++ [(k, v)]
theorem look_nil {k : κ} : look ([] : List (κ × β)) k = none := rfl
theorem look_cons {p : κ × β} {r : List (κ × β)} {k : κ} : look (p :: r) k = if p.1 = k then some p.2 else look r k := by
  unfold look
  rw [List.find?_cons]
  by_cases e : p.1 = k
  · rw [decide_eq_true e, if_pos e]
    rfl
  · rw [decide_eq_false e, if_neg e]
theorem look_any {ks : List (κ × β)} {k : κ} : (ks.any fun kv => decide (kv.1 = k)) = (look ks k).isSome := by
  induction ks with
  | nil => rfl
  | cons p r ih =>
    rw [List.any_cons, look_cons]
    by_cases e : p.1 = k
    · rw [decide_eq_true e, if_pos e]
      rfl
    · rw [decide_eq_false e, if_neg e, ih]
      rfl
theorem look_map {ks : List (κ × β)} {k j : κ} {v : β} : look (ks.map fun kv => if kv.1 = k then (kv.1, v) else kv) j = if j = k then (look ks k).map (fun _ => v) else look ks j := by
  induction ks with
  | nil =>
    show none = _
    split <;> rfl
  | cons p r ih =>
    rw [List.map_cons, look_cons, look_cons, look_cons, ih]
    by_cases e : p.1 = k
    · by_cases c : j = k
      · simp [e, c]
      · have d : ¬ p.1 = j := fun z => c (z.symm.trans e)
        have d2 : ¬ k = j := fun z => c z.symm
        simp [e, c, d2]
    · by_cases c : j = k
      · subst c
        simp [e]
      · simp [e, c]
theorem look_app {ks : List (κ × β)} {k j : κ} {v : β} (h : look ks k = none) : look (ks ++ [(k, v)]) j = if j = k then some v else look ks j := by
  induction ks with
  | nil =>
    show look [(k, v)] j = _
    rw [look_cons, look_nil]
    by_cases c : j = k
    · rw [if_pos c, if_pos c.symm]
    · rw [if_neg c, if_neg fun z => c z.symm]
  | cons p r ih =>
    rw [look_cons] at h
    by_cases e : p.1 = k
    · rw [if_pos e] at h
      cases h
    · rw [if_neg e] at h
      rw [List.cons_append, look_cons, ih h, look_cons]
      by_cases d : p.1 = j
      · rw [if_pos d, if_pos d, if_neg fun z => e (d.trans z)]
      · rw [if_neg d, if_neg d]
theorem look_put {ks : List (κ × β)} {k j : κ} {v : β} : look (put ks k v) j = if j = k then some v else look ks j := by
  unfold put
  rw [look_any]
  cases h : look ks k with
  | none =>
    rw [if_neg (by simp)]
    exact look_app h
  | some w =>
    rw [if_pos (by simp), look_map, h]
    rfl
theorem put_keys {ks : List (κ × β)} {k : κ} {v : β} : (put ks k v).map (·.1) = if k ∈ ks.map (·.1) then ks.map (·.1) else ks.map (·.1) ++ [k] := by
  have hm : (ks.any fun kv => decide (kv.1 = k)) = true ↔ k ∈ ks.map (·.1) := by
    rw [List.any_eq_true, List.mem_map]
    constructor
    · rintro ⟨x, h1, h2⟩
      exact ⟨x, h1, of_decide_eq_true h2⟩
    · rintro ⟨x, h1, h2⟩
      exact ⟨x, h1, decide_eq_true h2⟩
  unfold put
  by_cases c : k ∈ ks.map (·.1)
  · rw [if_pos (hm.mpr c), if_pos c, List.map_map]
    apply List.map_congr_left
    intro x _
    show (if x.1 = k then (x.1, v) else x).1 = x.1
    split <;> rfl
  · rw [if_neg (fun z => c (hm.mp z)), if_neg c, List.map_append]
    rfl
theorem put_nodup {ks : List (κ × β)} {k : κ} {v : β} (h : (ks.map (·.1)).Nodup) : ((put ks k v).map (·.1)).Nodup := by
  rw [put_keys]
  split
  · exact h
  · rename_i c
    rw [List.nodup_append]
    refine ⟨h, by simp, fun a ha b hb e => ?_⟩
    rw [List.mem_singleton] at hb
    rw [e, hb] at ha
    exact c ha
theorem mem_look {ks : List (κ × β)} (h : (ks.map (·.1)).Nodup) {k : κ} {g : β} : (k, g) ∈ ks ↔ look ks k = some g := by
  induction ks with
  | nil => simp [look_nil]
  | cons p r ih =>
    rw [List.map_cons, List.nodup_cons] at h
    rw [List.mem_cons, look_cons]
    by_cases e : p.1 = k
    · rw [if_pos e]
      constructor
      · rintro (z | z)
        · rw [← z]
        · exact (h.1 (by rw [e]; exact List.mem_map.mpr ⟨_, z, rfl⟩)).elim
      · intro z
        have z' := Option.some.inj z
        left
        rw [← e, ← z']
    · rw [if_neg e, ← ih h.2]
      constructor
      · rintro (z | z)
        · exact (e (by rw [← z])).elim
        · exact z
      · exact .inr
theorem put_len {ks : List (κ × β)} {k : κ} {v : β} : (put ks k v).length ≤ ks.length + 1 := by
  unfold put
  split
  · rw [List.length_map]; omega
  · rw [List.length_append]; exact Nat.le_refl _
end
/-- the layer's table stands for ks -/
def Tab {β : Type} (R : V → β → Prop) (kvs : List (Key × V)) (ks : List (Key × β)) : Prop := Paired (fun p q => p.1 = q.1 ∧ R p.2 q.2) kvs ks
section
variable {β : Type} {R R' : V → β → Prop} {kvs : List (Key × V)} {ks : List (Key × β)}
theorem Tab.len (h : Tab R kvs ks) : kvs.length = ks.length := Paired.length h
theorem Tab.mono (h : Tab R kvs ks) (f : ∀ v g, R v g → R' v g) : Tab R' kvs ks := Paired.mapP h fun p q z => ⟨z.1, f _ _ z.2⟩
theorem Tab.get (h : Tab R kvs ks) (k : Key) : (valV kvs k = none ∧ look ks k = none) ∨ ∃ v g, valV kvs k = some v ∧ look ks k = some g ∧ R v g := by
  induction h with
  | nil => exact .inl ⟨rfl, rfl⟩
  | @cons p q ps qs z t ih =>
    by_cases e : p.1 = k
    · exact .inr ⟨p.2, q.2, valV_pos e, by rw [look_cons, if_pos (z.1.symm.trans e)], z.2⟩
    · rw [valV_neg e, look_cons, if_neg (fun y => e (z.1.trans y))]
      exact ih
theorem Tab.map (h : Tab R kvs ks) {k : Key} {v : V} {g : β} (r : R v g) : Tab R (kvs.map fun kv => if kv.1 = k then (kv.1, v) else kv) (ks.map fun kv => if kv.1 = k then (kv.1, g) else kv) := by
  induction h with
  | nil => exact .nil
  | @cons p q ps qs z t ih =>
    refine .cons ?_ ih
    dsimp only
    by_cases e : p.1 = k
    · rw [if_pos e, if_pos (z.1.symm.trans e)]
      exact ⟨z.1, r⟩
    · rw [if_neg e, if_neg fun y => e (z.1.trans y)]
      exact z
theorem Tab.app (h : Tab R kvs ks) {k : Key} {v : V} {g : β} (r : R v g) : Tab R (kvs ++ [(k, v)]) (ks ++ [(k, g)]) := by
  induction h with
  | nil => exact .cons ⟨rfl, r⟩ .nil
  | @cons p q ps qs z t ih => exact .cons z ih
theorem Tab.put (h : Tab R kvs ks) {k : Key} {v : V} {g : β} (r : R v g) : Tab R (putK kvs k v) (Ow.put ks k g) := by
  have ha : (kvs.any fun kv => decide (kv.1 = k)) = (ks.any fun kv => decide (kv.1 = k)) := by
    rw [valV_any, look_any]
    rcases h.get k with ⟨e1, e2⟩ | ⟨v, g, e1, e2, _⟩ <;> rw [e1, e2] <;> rfl
  unfold putK Ow.put
  rw [ha]
  split
  · exact h.map r
  · exact h.app r
theorem Tab.at (h : Tab R kvs ks) {i : Nat} {k : Key} {v : V} (e : kvs[i]? = some (k, v)) : ∃ g, ks[i]? = some (k, g) ∧ R v g := by
  induction h generalizing i with
  | nil => simp at e
  | @cons p q ps qs z t ih =>
    cases i with
    | zero =>
      have e' : p = (k, v) := by simpa using e
      subst e'
      exact ⟨q.2, by rw [show (k : Key) = q.1 from z.1]; rfl, z.2⟩
    | succ i => exact ih (by simpa using e)
end
end Ow
/-! Ow: places grouped by what they make; sorted rows of numbers. -/
namespace Ow
open PySem PySem.Spec PyProof.Rows L2
open PySem.W (EachIs AllAlike Sortable dataLe)

section
variable {κ : Type} [DecidableEq κ] (f : Nat → κ)
def grp : Nat → List (κ × List Nat)
  | 0 => []
  | i + 1 => put (grp i) (f i) ((look (grp i) (f i)).getD [] ++ [i])
def same (i : Nat) (k : κ) : List Nat := (List.range i).filter fun q => decide (f q = k)
theorem same_succ (i : Nat) (k : κ) : same f (i + 1) k = if f i = k then same f i k ++ [i] else same f i k := by
  unfold same
  rw [List.range_succ, List.filter_append]
  by_cases e : f i = k
  · rw [if_pos e]
    simp [e]
  · rw [if_neg e]
    simp [e]
theorem look_grp : ∀ (i : Nat) (k : κ), look (grp f i) k = if same f i k = [] then none else some (same f i k)
  | 0, k => by
    rw [if_pos (by unfold same; rfl)]
    rfl
  | i + 1, k => by
    show look (put _ _ _) k = _
    rw [look_put, same_succ]
    by_cases e : f i = k
    · subst e
      rw [if_pos rfl, if_pos rfl, if_neg (by simp), look_grp i]
      split
      · rename_i c
        rw [c]
        rfl
      · rfl
    · rw [if_neg fun z => e z.symm, if_neg e]
      exact look_grp i k
theorem grp_nodup : ∀ i, ((grp f i).map (·.1)).Nodup
  | 0 => List.nodup_nil
  | i + 1 => put_nodup (grp_nodup i)
theorem grp_len : ∀ i, (grp f i).length ≤ i
  | 0 => Nat.le_refl _
  | i + 1 => Nat.le_trans put_len (Nat.add_le_add_right (grp_len i) 1)
theorem mem_same {i q : Nat} {k : κ} : q ∈ same f i k ↔ q < i ∧ f q = k := by
  unfold same
  rw [List.mem_filter, List.mem_range, decide_eq_true_iff]
theorem grp_mem {i : Nat} {k : κ} {g : List Nat} : (k, g) ∈ grp f i ↔ g = same f i k ∧ g ≠ [] := by
  rw [mem_look (grp_nodup f i), look_grp]
  split
  · rename_i c
    constructor
    · intro z
      cases z
    · rintro ⟨z1, z2⟩
      exact (z2 (z1.trans c)).elim
  · rename_i c
    constructor
    · intro z
      have z' := Option.some.inj z
      exact ⟨z'.symm, fun e => c (z'.trans e)⟩
    · rintro ⟨z1, z2⟩
      rw [z1]
/-- the groups themselves -/
def grps (i : Nat) : List (List Nat) := (grp f i).map (·.2)
theorem grps_mem {i : Nat} {g : List Nat} : g ∈ grps f i ↔ ∃ p, p < i ∧ g = same f i (f p) := by
  unfold grps
  rw [List.mem_map]
  constructor
  · rintro ⟨⟨k, g'⟩, h, rfl⟩
    obtain ⟨h1, h2⟩ := (grp_mem f).mp h
    cases hg : g' with
    | nil => exact (h2 hg).elim
    | cons q r =>
      have hq : q ∈ same f i k := by
        rw [← h1, hg]
        exact List.mem_cons_self ..
      obtain ⟨q1, q2⟩ := (mem_same f).mp hq
      exact ⟨q, q1, by rw [q2, ← hg]; exact h1⟩
  · rintro ⟨p, hp, rfl⟩
    refine ⟨(f p, same f i (f p)), (grp_mem f).mpr ⟨rfl, fun e => ?_⟩, rfl⟩
    have : p ∈ same f i (f p) := (mem_same f).mpr ⟨hp, rfl⟩
    rw [e] at this
    cases this
theorem grps_nodup (i : Nat) : (grps f i).Nodup := by
  have h := grp_nodup f i
  unfold List.Nodup at h
  rw [List.pairwise_map] at h
  unfold grps List.Nodup
  rw [List.pairwise_map]
  refine List.Pairwise.imp_of_mem (fun {a b} ha hb hab e => ?_) h
  obtain ⟨k, g⟩ := a
  obtain ⟨k', g'⟩ := b
  obtain ⟨a1, a2⟩ := (grp_mem f).mp ha
  obtain ⟨b1, b2⟩ := (grp_mem f).mp hb
  have e' : g = g' := e
  cases hg : g with
  | nil => exact a2 hg
  | cons q r =>
    have q1 : q ∈ same f i k := by rw [← a1, hg]; exact List.mem_cons_self ..
    have q2 : q ∈ same f i k' := by rw [← b1, ← e', hg]; exact List.mem_cons_self ..
    exact hab (((mem_same f).mp q1).2.symm.trans ((mem_same f).mp q2).2)
end

/-! ### sorted rows of numbers -/
def encR (g : List Nat) : PyData := .list ((g.map fun n : Nat => (n : Int)).map .int)
def leR (a b : List Nat) : Bool := decide ((a.map fun n : Nat => (n : Int)) ≤ (b.map fun n : Nat => (n : Int)))
theorem dataLe_encR : dataLe false encR = leR := by
  have h := PySem.W.dataLe_rows (fun g : List Nat => g.map fun n : Nat => (n : Int))
  exact h
theorem castI_inj {a b : List Nat} (h : (a.map fun n : Nat => (n : Int)) = (b.map fun n : Nat => (n : Int))) : a = b := by
  induction a generalizing b with
  | nil =>
    cases b with
    | nil => rfl
    | cons => cases h
  | cons x r ih =>
    cases b with
    | nil => cases h
    | cons y s =>
      rw [List.map_cons, List.map_cons] at h
      injection h with h1 h2
      rw [ih h2, show x = y by exact_mod_cast h1]
theorem sort_perm {a b : List (List Nat)} (h : a.Perm b) : a.mergeSort leR = b.mergeSort leR := by
  have tr : ∀ x y z : List Nat, leR x y = true → leR y z = true → leR x z = true := fun x y z h1 h2 => decide_eq_true (List.le_trans (of_decide_eq_true h1) (of_decide_eq_true h2))
  have to : ∀ x y : List Nat, (leR x y || leR y x) = true := fun x y => by
    unfold leR
    rcases List.le_total (x.map fun n : Nat => (n : Int)) (y.map fun n : Nat => (n : Int)) with c | c
    · rw [decide_eq_true c]; rfl
    · rw [decide_eq_true c]; simp
  refine List.Perm.eq_of_pairwise (le := fun x y => leR x y = true) ?_ (List.pairwise_mergeSort tr to _) (List.pairwise_mergeSort tr to _) (((List.mergeSort_perm a leR).trans h).trans (List.mergeSort_perm b leR).symm)
  intro x y _ _ h1 h2
  exact castI_inj (List.le_antisymm (of_decide_eq_true h1) (of_decide_eq_true h2))
/-- what sorted makes of rows -/
theorem sortD_rows {bs : List (V × PyData)} {gs : List (List Nat)} (h : bs.map (·.2) = gs.map encR) : (sortD bs).map (·.2) = (gs.mergeSort leR).map encR := by
  unfold sortD
  have e1 : (bs.mergeSort (dataLe false fun b => b.2)).map (·.2) = (bs.map (·.2)).mergeSort (dataLe false fun d => d) := PySem.W.sort_maps (fun b : V × PyData => b.2) fun a _ b _ => rfl
  rw [e1, h]
  have e2 : (gs.mergeSort (dataLe false encR)).map encR = (gs.map encR).mergeSort (dataLe false fun d => d) := PySem.W.sort_maps encR fun a _ b _ => rfl
  rw [← e2, dataLe_encR]
theorem alike_rows (gs : List (List Nat)) : AllAlike (gs.map encR) := AllAlike.of fun b b' => by
  show PySem.W.alikeAll _ _ = true
  exact PySem.W.alike_ints _ _
theorem sortable_rows (gs : List (List Nat)) : Sortable (gs.map encR) := Sortable.others fun b => ⟨(fun e => by cases e), fun xs e => (by cases e)⟩
theorem depth_row (g : List Nat) : (encR g).depth = 1 := by
  show PyData.depthAll _ + 1 = 1
  rw [PySem.W.depth_ints]
end Ow
/-! Ow: rows of numbers that stand in the heap; what fits for == and repr. -/
namespace Ow
open PySem PySem.Spec PyProof.Rows L2
open PySem.W (EachIs AllAlike Sortable dataLe)

/-! ### what == and repr take -/
structure Fit (d : PyData) : Prop where
  lay : d.canLay0 = true
  dep : d.depth ≤ 60
  sho : d.showable = true
  len : d.shown.length ≤ sizeLine
/-- small data: weight ≤ w, depth ≤ k -/
structure Sm (d : PyData) (w k : Nat) : Prop where
  lay : d.canLay0 = true
  sho : d.showable = true
  srt : d.intsShort 13 = true
  wei : d.weight ≤ w
  dep : d.depth ≤ k
structure SmAll (ds : List PyData) (w k : Nat) : Prop where
  lay : PyData.canLayAll0 ds = true
  sho : PyData.showableAll ds = true
  srt : PyData.intsShortAll 13 ds = true
  wei : PyData.weightAll ds ≤ w
  dep : PyData.depthAll ds ≤ k
theorem Sm.fit {d : PyData} {w k : Nat} (h : Sm d w k) (hw : w ≤ 1048576) (hk : k ≤ 60) : Fit d := by
  have h1 := h.wei
  have h2 := h.dep
  refine ⟨h.lay, by omega, h.sho, ?_⟩
  exact PyData.shown_fits (B := 13) (by decide) (by decide) (PyData.leavesShort_of_canLay0 13 d h.lay h.srt) (by rw [show (2 : Nat) ^ 20 = 1048576 by decide]; omega)
theorem SmAll.nil {k : Nat} : SmAll [] 0 k := ⟨rfl, rfl, rfl, Nat.le_refl _, Nat.zero_le _⟩
theorem SmAll.cons {d : PyData} {ds : List PyData} {a b k : Nat} (h : Sm d a k) (t : SmAll ds b k) : SmAll (d :: ds) (a + 1 + b) k := by
  refine ⟨?_, ?_, ?_, ?_, ?_⟩
  · rw [PyData.canLayAll0, h.lay, t.lay]; rfl
  · rw [PyData.showableAll, h.sho, t.sho]; rfl
  · rw [PyData.intsShortAll, h.srt, t.srt]; rfl
  · rw [PyData.weightAll]
    have := h.wei
    have := t.wei
    omega
  · rw [PyData.depthAll]
    exact Nat.max_le.mpr ⟨h.dep, t.dep⟩
theorem SmAll.mono {ds : List PyData} {a b j k : Nat} (h : SmAll ds a j) (hw : a ≤ b) (hk : j ≤ k) : SmAll ds b k := ⟨h.lay, h.sho, h.srt, Nat.le_trans h.wei hw, Nat.le_trans h.dep hk⟩
theorem Sm.mono {d : PyData} {a b j k : Nat} (h : Sm d a j) (hw : a ≤ b) (hk : j ≤ k) : Sm d b k := ⟨h.lay, h.sho, h.srt, Nat.le_trans h.wei hw, Nat.le_trans h.dep hk⟩
theorem SmAll.all {w k : Nat} : ∀ {ds : List PyData}, (∀ d ∈ ds, Sm d w k) → SmAll ds (ds.length * (w + 1)) k
  | [], _ => SmAll.nil.mono (by simp) (Nat.le_refl _)
  | d :: ds, h => ((SmAll.cons (h d (List.mem_cons_self ..)) (SmAll.all fun e m => h e (List.mem_cons_of_mem _ m))).mono (by rw [List.length_cons, Nat.succ_mul]; omega) (Nat.le_refl _))
theorem Sm.list {ds : List PyData} {w k : Nat} (h : SmAll ds w k) : Sm (.list ds) w (k + 1) := by
  refine ⟨?_, ?_, ?_, ?_, ?_⟩
  · rw [PyData.canLay0]; exact h.lay
  · rw [PyData.showable]; exact h.sho
  · rw [PyData.intsShort]; exact h.srt
  · rw [PyData.weight]; exact h.wei
  · rw [PyData.depth]; exact Nat.succ_le_succ h.dep
theorem Sm.tuple {ds : List PyData} {w k : Nat} (h : SmAll ds w k) : Sm (.tuple ds) w (k + 1) := by
  refine ⟨?_, ?_, ?_, ?_, ?_⟩
  · rw [PyData.canLay0]; exact h.lay
  · rw [PyData.showable]; exact h.sho
  · rw [PyData.intsShort]; exact h.srt
  · rw [PyData.weight]; exact h.wei
  · rw [PyData.depth]; exact Nat.succ_le_succ h.dep
theorem log2_lt12 {n : Nat} (h : n < 1000000000000) : n.log2 < 40 := by
  by_cases h0 : n = 0
  · subst h0; decide
  · exact (Nat.log2_lt h0).mpr (Nat.lt_of_lt_of_le h (by decide))
theorem Sm.int {i : Int} {k : Nat} (h : i.natAbs < 1000000000000) : Sm (.int i) 40 k := by
  have hl := log2_lt12 h
  refine ⟨rfl, ?_, ?_, ?_, Nat.zero_le _⟩
  · rw [PyData.showable]; exact decide_eq_true (by omega)
  · rw [PyData.intsShort]; exact decide_eq_true (PyData.shown_int_le (by rw [show (10 : Nat) ^ 12 = 1000000000000 by decide]; exact h))
  · rw [PyData.weight]
    split
    · omega
    · omega
theorem Sm.intS {i : Int} {k : Nat} (h : i.natAbs < 1024) : Sm (.int i) 10 k := by
  have z := Sm.int (k := k) (show i.natAbs < 1000000000000 by omega)
  refine ⟨z.lay, z.sho, z.srt, ?_, z.dep⟩
  rw [PyData.weight]
  split
  · omega
  · by_cases h0 : i.natAbs = 0
    · rw [h0]; decide
    · have := (Nat.log2_lt h0).mpr (show i.natAbs < 2 ^ 10 from h)
      omega
theorem Sm.none {k : Nat} : Sm .none 0 k := ⟨rfl, rfl, rfl, Nat.le_refl _, Nat.zero_le _⟩
theorem Sm.bool {b : Bool} {k : Nat} : Sm (.bool b) 0 k := ⟨rfl, rfl, rfl, Nat.le_refl _, Nat.zero_le _⟩
theorem Sm.str {x : Str} {k : Nat} (h : PyData.strOk x = true) : Sm (.str x) x.cps.size k := ⟨by rw [PyData.canLay0]; exact h, rfl, rfl, Nat.le_refl _, Nat.zero_le _⟩

/-! ### rows in the heap -/
def nums (g : List Nat) : List V := g.map fun n : Nat => .int (n : Int)
def refs {β : Type} (bs : List (Addr × β)) : List V := bs.map fun b => .ref b.1
theorem nums_len (g : List Nat) : (nums g).length = g.length := List.length_map ..
theorem nums_app (g h : List Nat) : nums (g ++ h) = nums g ++ nums h := List.map_append
theorem refs_len {β : Type} (bs : List (Addr × β)) : (refs bs).length = bs.length := List.length_map ..
section
variable {K : PySem.W.Frag} {H : Hp}
theorem dpAll_nums : ∀ g : List Nat, DpAll K H (nums g) ((g.map fun n : Nat => (n : Int)).map .int)
  | [] => .nil
  | n :: g => .cons (.int _) (dpAll_nums g)
theorem dp_row {a : Addr} {g : List Nat} (h : SqL K H a (nums g)) : Dp K H (.ref a) (encR g) := .lst h (dpAll_nums g)
abbrev RowAt (H : Hp) (b : Addr × List Nat) : Prop := H b.1 = some (.lst (nums b.2))
theorem dpAll_rows : ∀ bs : List (Addr × List Nat), (∀ b ∈ bs, RowAt H b) → DpAll K H (refs bs) (bs.map fun b => encR b.2)
  | [], _ => .nil
  | b :: bs, h => .cons (dp_row (sq_new (h b (List.mem_cons_self ..)))) (dpAll_rows bs fun c m => h c (List.mem_cons_of_mem _ m))
theorem dp_rows {p : Addr} {bs : List (Addr × List Nat)} (h : SqL K H p (refs bs)) (hb : ∀ b ∈ bs, RowAt H b) : Dp K H (.ref p) (.list (bs.map fun b => encR b.2)) := .lst h (dpAll_rows bs hb)
end
theorem flat_nums (g : List Nat) : (nums g).all flatV = true := by
  unfold nums
  rw [List.all_map, List.all_eq_true]
  intro n _
  rfl
theorem inV_nums (n : Nat) (g : List Nat) : inV (.int (n : Int)) (nums g) = decide (n ∈ g) := by
  unfold inV nums
  rw [List.any_map]
  by_cases h : n ∈ g
  · rw [decide_eq_true h, List.any_eq_true]
    refine ⟨n, h, ?_⟩
    show ((n : Int) == (n : Int)) = true
    exact beq_self_eq_true _
  · rw [decide_eq_false h, List.any_eq_false]
    intro m hm
    show ¬ ((m : Int) == (n : Int)) = true
    rw [beq_iff_eq]
    intro e
    have : m = n := by omega
    rw [this] at hm
    exact h hm
/-- n not in a list of numbers -/
def rNotInN (K : PySem.W.Frag) : R2 := fun x y H Q => ∃ (p : Addr) (n : Nat) (g : List Nat), x = .int (n : Int) ∧ y = .ref p ∧ SqL K H p (nums g) ∧ Q (.bl (!decide (n ∈ g))) H
theorem op_notInN {X : Cx} {K : PySem.W.Frag} (e : X.K = K := by rfl) : OpR X (compareOp .NotIn) (rNotInN K) := OpR.imp op_notIn_seq fun x y H Q h => by
  subst e
  obtain ⟨p, n, g, rfl, rfl, hs, q⟩ := h
  refine ⟨p, nums g, rfl, .inl hs, rfl, flat_nums g, ?_⟩
  rw [inV_nums]
  exact q
def leB (a b : Addr × List Nat) : Bool := leR a.2 b.2
theorem sortB_snd (bs : List (Addr × List Nat)) : (bs.mergeSort leB).map (·.2) = (bs.map (·.2)).mergeSort leR := PySem.W.sort_maps (fun b : Addr × List Nat => b.2) fun _ _ _ _ => rfl
theorem mem_sortB {bs : List (Addr × List Nat)} {b : Addr × List Nat} : b ∈ bs.mergeSort leB ↔ b ∈ bs := (List.mergeSort_perm bs leB).mem_iff
/-- sorted(xs), xs a list of rows of numbers -/
def rSortedR (K : PySem.W.Frag) : List V → Hp → VK → Prop := fun vs H Q => ∃ (a : Addr) (bs : List (Addr × List Nat)), vs = [.ref a] ∧ SqL K H a (refs bs) ∧ (∀ b ∈ bs, RowAt H b) ∧
  ∀ p, H p = none → Q (.ref p) (upd H p (.lst (refs (bs.mergeSort leB))))
theorem cr_sortedR {X : Cx} {k : Nat} (hr : Room k X.A) : CallR X (.builtin "sorted") (rSortedR X.K) := CallR.imp (cr_sortedD hr) fun vs H Q h => by
  obtain ⟨a, bs, rfl, hs, hb, q⟩ := h
  let enc : Addr × List Nat → V × PyData := fun b => (.ref b.1, encR b.2)
  have e1 : (bs.map enc).map (·.1) = refs bs := by
    rw [List.map_map]
    rfl
  have e2 : (bs.map enc).map (·.2) = (bs.map (·.2)).map encR := by
    rw [List.map_map, List.map_map]
    rfl
  have e3 : sortD (bs.map enc) = (bs.mergeSort leB).map enc := by
    unfold sortD
    refine (PySem.W.sort_maps enc fun x _ y _ => ?_).symm
    have z := congrFun (congrFun dataLe_encR x.2) y.2
    exact z.symm
  refine ⟨a, bs.map enc, rfl, by rw [e1]; exact hs, fun b m => ?_, by rw [e2]; exact alike_rows _, by rw [e2]; exact sortable_rows _, fun b m => ?_, fun p np => ?_⟩
  · obtain ⟨c, hc, rfl⟩ := List.mem_map.mp m
    exact dp_row (sq_new (hb c hc))
  · obtain ⟨c, hc, rfl⟩ := List.mem_map.mp m
    show (encR c.2).depth ≤ 40
    rw [depth_row]
    decide
  · have e4 : (sortD (bs.map enc)).map (·.1) = refs (bs.mergeSort leB) := by
      rw [e3, List.map_map]
      rfl
    rw [e4]
    exact q p np
theorem sm_row {g : List Nat} (h : ∀ n ∈ g, n < 1024) : Sm (encR g) (g.length * 11) 1 := by
  refine Sm.list (k := 0) ((SmAll.all (w := 10) fun d m => ?_).mono (by simp) (Nat.le_refl _))
  obtain ⟨i, hi, rfl⟩ := List.mem_map.mp m
  obtain ⟨n, hn, rfl⟩ := List.mem_map.mp hi
  exact Sm.intS (by have := h n hn; omega)
theorem lay_ints : ∀ xs : List Int, PyData.canLayAll0 (xs.map .int) = true
  | [] => rfl
  | x :: xs => by
    rw [List.map_cons, PyData.canLayAll0, lay_ints xs]
    rfl
theorem shaped_row (g : List Nat) : SeqAt.shaped (encR g) = true := by
  unfold SeqAt.shaped
  rw [depth_row]
  have : (encR g).canLay0 = true := by
    unfold encR
    rw [PyData.canLay0]
    exact lay_ints _
  rw [this]
  rfl
/-- all the numbers of the rows -/
def tot (gs : List (List Nat)) : Nat := (gs.map List.length).sum
theorem tot_perm {a b : List (List Nat)} (h : a.Perm b) : tot a = tot b := by
  induction h with
  | nil => rfl
  | cons x _ ih => unfold tot at *; rw [List.map_cons, List.map_cons, List.sum_cons, List.sum_cons, ih]
  | swap x y l => unfold tot; simp only [List.map_cons, List.sum_cons]; omega
  | trans _ _ i1 i2 => exact i1.trans i2
theorem sm_rows : ∀ gs : List (List Nat), (∀ g ∈ gs, ∀ n ∈ g, n < 1024) → SmAll (gs.map encR) (tot gs * 11 + gs.length) 1
  | [], _ => SmAll.nil.mono (Nat.zero_le _) (Nat.zero_le _)
  | g :: gs, h => ((SmAll.cons (sm_row (h g (List.mem_cons_self ..))) (sm_rows gs fun e m => h e (List.mem_cons_of_mem _ m))).mono (by
      have : tot (g :: gs) = g.length + tot gs := by unfold tot; rw [List.map_cons, List.sum_cons]
      rw [this, List.length_cons]
      omega) (Nat.le_refl _))

/-! ### a table of rows -/
section
variable {κ κ' β : Type} [DecidableEq κ] [DecidableEq κ']
theorem look_keys {e : κ → κ'} (he : ∀ a b, e a = e b → a = b) (ks : List (κ × β)) (k : κ) : look (ks.map fun kv => (e kv.1, kv.2)) (e k) = look ks k := by
  induction ks with
  | nil => rfl
  | cons p r ih =>
    rw [List.map_cons, look_cons, look_cons, ih]
    by_cases c : p.1 = k
    · rw [if_pos c, if_pos (congrArg e c)]
    · rw [if_neg c, if_neg fun z => c (he _ _ z)]
theorem put_keysE {e : κ → κ'} (he : ∀ a b, e a = e b → a = b) (ks : List (κ × β)) (k : κ) (v : β) : put (ks.map fun kv => (e kv.1, kv.2)) (e k) v = (put ks k v).map fun kv => (e kv.1, kv.2) := by
  unfold put
  rw [look_any, look_any, look_keys he]
  split
  · rw [List.map_map, List.map_map]
    apply List.map_congr_left
    intro p _
    show (if e p.1 = e k then (e p.1, v) else (e p.1, p.2)) = (e (if p.1 = k then (p.1, v) else p).1, (if p.1 = k then (p.1, v) else p).2)
    by_cases c : p.1 = k
    · rw [if_pos c, if_pos (congrArg e c)]
    · rw [if_neg c, if_neg fun z => c (he _ _ z)]
  · rw [List.map_append]
    rfl
theorem grp_keys {e : κ → κ'} (he : ∀ a b, e a = e b → a = b) (f : Nat → κ) : ∀ i, grp (fun p => e (f p)) i = (grp f i).map fun kv => (e kv.1, kv.2)
  | 0 => rfl
  | i + 1 => by
    show put _ _ _ = _
    rw [grp_keys he f i, look_keys he, put_keysE he]
    rfl
theorem grps_keys {e : κ → κ'} (he : ∀ a b, e a = e b → a = b) (f : Nat → κ) (i : Nat) : grps (fun p => e (f p)) i = grps f i := by
  unfold grps
  rw [grp_keys he, List.map_map]
  rfl
end
theorem look_len {κ : Type} [DecidableEq κ] (f : Nat → κ) (i : Nat) (k : κ) : ((look (grp f i) k).getD []).length ≤ i := by
  rw [look_grp]
  split
  · exact Nat.zero_le _
  · show (same f i k).length ≤ i
    unfold same
    exact Nat.le_trans (List.length_filter_le _ _) (by rw [List.length_range]; exact Nat.le_refl _)
/-- the value v is the row g -/
def RowV (H : Hp) (v : V) (g : List Nat) : Prop := ∃ a, v = .ref a ∧ RowAt H (a, g)
theorem rowv_same {H H' : Hp} (e : Same H H') (v : V) (g : List Nat) (h : RowV H v g) : RowV H' v g := by
  obtain ⟨a, rfl, h⟩ := h
  exact ⟨a, rfl, e _ _ h⟩
theorem rowv_upd {H : Hp} {d : Addr} {o : HO} {kvs : List (Key × V)} (hd : H d = some (.dK kvs)) (v : V) (g : List Nat) (h : RowV H v g) : RowV (upd H d o) v g := by
  obtain ⟨a, rfl, h⟩ := h
  refine ⟨a, rfl, ?_⟩
  show upd _ _ _ _ = _
  rw [upd_ne fun e => ?_]
  · exact h
  · have h' : H a = some (.lst (nums g)) := h
    rw [show a = d from e, hd] at h'
    cases h'
/-- key of a text -/
abbrev kT (l : List Nat) : Key := .inr ⟨l.toArray⟩
theorem kT_inj (a b : List Nat) (h : kT a = kT b) : a = b := tx_inj (by
  show kV (kT a) = kV (kT b)
  rw [h])
end Ow
namespace Ow
/-! periodic words -/
def HasPer {α : Type} (f : Nat → α) (a : Nat) : Prop := ∀ t, f (t + a) = f t
theorem HasPer.sub {α : Type} {f : Nat → α} {a b : Nat} (ha : HasPer f a) (hb : HasPer f b) (h : b ≤ a) : HasPer f (a - b) := fun t => by
  have e := hb (t + (a - b))
  rw [show t + (a - b) + b = t + a by omega, ha t] at e
  exact e.symm
theorem HasPer.mul {α : Type} {f : Nat → α} {a : Nat} (ha : HasPer f a) : ∀ k, HasPer f (a * k)
  | 0 => fun t => by simp
  | k + 1 => fun t => by
    rw [show t + a * (k + 1) = (t + a * k) + a by rw [Nat.mul_add]; omega, ha, HasPer.mul ha k]
theorem HasPer.dvd {α : Type} {f : Nat → α} {a b : Nat} (ha : HasPer f a) (h : a ∣ b) : HasPer f b := by
  obtain ⟨k, rfl⟩ := h
  exact ha.mul k
theorem HasPer.mod {α : Type} {f : Nat → α} {a : Nat} (ha : HasPer f a) (t : Nat) : f t = f (t % a) := by
  have e := ha.mul (t / a) (t % a)
  rw [Nat.mod_add_div] at e
  exact e
theorem HasPer.gcd {α : Type} {f : Nat → α} : ∀ (n a b : Nat), a + b ≤ n → HasPer f a → HasPer f b → HasPer f (Nat.gcd a b)
  | 0, a, b, h, ha, hb => by
    have e1 : a = 0 := by omega
    have e2 : b = 0 := by omega
    subst e1; subst e2
    exact ha
  | n + 1, a, b, h, ha, hb => by
    by_cases h0 : b = 0
    · subst h0
      rw [Nat.gcd_zero_right]
      exact ha
    · by_cases h1 : a = 0
      · subst h1
        rw [Nat.gcd_zero_left]
        exact hb
      · by_cases hc : b ≤ a
        · have e := HasPer.gcd n (a - b) b (by omega) (ha.sub hb hc) hb
          rw [Nat.gcd_sub_self_left hc] at e
          exact e
        · have e := HasPer.gcd n a (b - a) (by omega) ha (hb.sub ha (by omega))
          rw [Nat.gcd_sub_self_right (by omega)] at e
          exact e
theorem HasPer.gcd2 {α : Type} {f : Nat → α} {a b : Nat} (ha : HasPer f a) (hb : HasPer f b) : HasPer f (Nat.gcd a b) := HasPer.gcd (a + b) a b (Nat.le_refl _) ha hb

/-- the row that a call makes -/
def mkRow (l : List Nat) (p : Nat) : List Nat := l.take p ++ l ++ l.drop (p + 1)
theorem mkRow_len {l : List Nat} {p : Nat} (h : p < l.length) : (mkRow l p).length = 2 * l.length - 1 := by
  unfold mkRow
  rw [List.length_append, List.length_append, List.length_take, List.length_drop]
  omega
theorem mkRow_at {l : List Nat} {p t : Nat} (h : p < l.length) : (mkRow l p)[t]? = if t < p then l[t]? else if t < p + l.length then l[t - p]? else l[t - l.length + 1]? := by
  unfold mkRow
  by_cases h1 : t < p
  · rw [if_pos h1, List.getElem?_append_left (by rw [List.length_append, List.length_take]; omega), List.getElem?_append_left (by rw [List.length_take]; omega), List.getElem?_take_of_lt h1]
  · rw [if_neg h1]
    by_cases h2 : t < p + l.length
    · rw [if_pos h2, List.getElem?_append_left (by rw [List.length_append, List.length_take]; omega), List.getElem?_append_right (by rw [List.length_take]; omega), List.length_take]
      congr 1
      omega
    · rw [if_neg h2, List.getElem?_append_right (by rw [List.length_append, List.length_take]; omega), List.length_append, List.length_take, List.getElem?_drop]
      congr 1
      omega
/-- a distance of equal letters that divides the last place -/
structure JPer (l : List Nat) (s : Nat) : Prop where
  pos : 1 ≤ s
  dvd : s ∣ l.length - 1
  eq : ∀ i, i + s < l.length → l[i]? = l[i + s]?
/-- the word without end -/
def inf (l : List Nat) (d : Nat) (t : Nat) : Nat := (l[t % d]?).getD 0
theorem inf_per (l : List Nat) (d : Nat) : HasPer (inf l d) d := fun t => by
  unfold inf
  rw [Nat.add_mod_right]
theorem per_get {l : List Nat} {d : Nat} (h1 : 1 ≤ d) (h : ∀ i, i + d < l.length → l[i]? = l[i + d]?) : ∀ i, i < l.length → l[i]? = some (inf l d i) := by
  intro i
  induction i using Nat.strongRecOn with
  | ind i ih =>
    intro hi
    by_cases c : i < d
    · unfold inf
      rw [Nat.mod_eq_of_lt c, List.getElem?_eq_getElem hi]
      rfl
    · have e := h (i - d) (by omega)
      rw [show i - d + d = i by omega] at e
      rw [← e, ih (i - d) (by omega) (by omega)]
      have e2 := inf_per l d (i - d)
      rw [show i - d + d = i by omega] at e2
      rw [e2]
theorem getD_of {l : List Nat} {d i x : Nat} (h : l[i]? = some x) (hd : i < d) : inf l d i = x := by
  unfold inf
  rw [Nat.mod_eq_of_lt hd, h]
  rfl
/-- a word that agrees with a periodic one has that period -/
theorem jper_of {l : List Nat} {f : Nat → Nat} {g : Nat} (h1 : 1 ≤ g) (hl : ∀ i, i < l.length → l[i]? = some (f i)) (hf : HasPer f g) (hd : g ∣ l.length - 1) : JPer l g :=
  ⟨h1, hd, fun i hi => by rw [hl i (by omega), hl (i + g) hi, hf]⟩
theorem mk_of_jper {l : List Nat} {s p : Nat} (J : JPer l s) (hp : p < l.length) (dp : s ∣ p) (t : Nat) (ht : t < 2 * l.length - 1) : (mkRow l p)[t]? = some (inf l s t) := by
  rw [mkRow_at hp]
  have G := per_get J.pos J.eq
  have P := inf_per l s
  split
  · exact G t (by omega)
  · split
    · rename_i h1 h2
      rw [G (t - p) (by omega)]
      have e := P.dvd dp (t - p)
      rw [show t - p + p = t by omega] at e
      rw [e]
    · rename_i h1 h2
      rw [G _ (by omega)]
      have e := P.dvd J.dvd (t - l.length + 1)
      rw [show t - l.length + 1 + (l.length - 1) = t by omega] at e
      rw [e]
theorem same_of_jper {l : List Nat} {s p q : Nat} (J : JPer l s) (hp : p < l.length) (hq : q < l.length) (dp : s ∣ p) (dq : s ∣ q) : mkRow l p = mkRow l q := by
  apply List.ext_getElem?
  intro t
  by_cases ht : t < 2 * l.length - 1
  · rw [mk_of_jper J hp dp t ht, mk_of_jper J hq dq t ht]
  · rw [List.getElem?_eq_none (by rw [mkRow_len hp]; omega), List.getElem?_eq_none (by rw [mkRow_len hq]; omega)]
/-- two places whose calls make one row are joints of some distance -/
theorem jper_of_same {l : List Nat} {p q : Nat} (hpq : p < q) (hq : q < l.length) (h : mkRow l p = mkRow l q) : ∃ g, JPer l g ∧ g ∣ p ∧ g ∣ q := by
  have hp : p < l.length := by omega
  have at_ : ∀ t, (if t < p then l[t]? else if t < p + l.length then l[t - p]? else l[t - l.length + 1]?) = (if t < q then l[t]? else if t < q + l.length then l[t - q]? else l[t - l.length + 1]?) := fun t => by
    rw [← mkRow_at hp, ← mkRow_at hq, h]
  obtain ⟨d, rfl⟩ : ∃ d, q = p + d := ⟨q - p, by omega⟩
  have hd : 1 ≤ d := by omega
  have per : ∀ i, i + d < l.length → l[i]? = l[i + d]? := fun i hi => by
    have e := at_ (p + d + i)
    rw [if_neg (by omega), if_pos (by omega), if_neg (by omega), if_pos (by omega)] at e
    rw [show p + d + i - p = i + d by omega, show p + d + i - (p + d) = i by omega] at e
    exact e.symm
  have G := per_get hd per
  have P := inf_per l d
  have per2 : HasPer (inf l d) p := by
    have base : ∀ i, i < d → inf l d (i + p) = inf l d i := fun i hi => by
      have e := at_ (p + i)
      rw [if_neg (by omega), if_pos (by omega), if_pos (by omega), show p + i - p = i by omega, G i (by omega), G (p + i) (by omega)] at e
      have e2 := Option.some.inj e
      rw [Nat.add_comm i p]
      exact e2.symm
    intro t
    rw [P.mod t, ← base (t % d) (Nat.mod_lt _ hd), P.mod (t + p), P.mod (t % d + p), Nat.mod_add_mod]
  have per3 : HasPer (inf l d) (l.length - 1) := by
    have base : ∀ j, j < d → inf l d (p + 1 + j) = inf l d (l.length - d + j) := fun j hj => by
      have e := at_ (p + l.length + j)
      rw [if_neg (by omega), if_neg (by omega), if_neg (by omega), if_pos (by omega), show p + l.length + j - l.length + 1 = p + 1 + j by omega, show p + l.length + j - (p + d) = l.length - d + j by omega,
        G _ (by omega), G _ (by omega)] at e
      exact Option.some.inj e
    have all : ∀ j, inf l d (p + 1 + j) = inf l d (l.length - d + j) := fun j => by
      have e := base (j % d) (Nat.mod_lt _ hd)
      rw [P.mod (p + 1 + j % d), Nat.add_mod_mod, ← P.mod, P.mod (l.length - d + j % d), Nat.add_mod_mod, ← P.mod] at e
      exact e
    have step : ∀ j, inf l d (j + 1 + (l.length - 1)) = inf l d (j + 1) := fun j => by
      have e := all j
      have e1 := per2 (j + 1)
      rw [show j + 1 + p = p + 1 + j by omega] at e1
      have e2 := P (l.length - d + j)
      rw [show l.length - d + j + d = j + 1 + (l.length - 1) by omega] at e2
      rw [e2, ← e, e1]
    intro t
    have e := step (t + (d - 1))
    have e1 := P (t + (l.length - 1))
    rw [show t + (d - 1) + 1 + (l.length - 1) = t + (l.length - 1) + d by omega, e1, show t + (d - 1) + 1 = t + d by omega, P] at e
    exact e
  have g2 := (P.gcd2 per2).gcd2 per3
  refine ⟨Nat.gcd (Nat.gcd d p) (l.length - 1), jper_of ?_ G g2 (Nat.gcd_dvd_right _ _), ?_, ?_⟩
  · exact Nat.gcd_pos_of_pos_left _ (Nat.gcd_pos_of_pos_left _ hd)
  · exact Nat.dvd_trans (Nat.gcd_dvd_left _ _) (Nat.gcd_dvd_right _ _)
  · exact Nat.dvd_add (Nat.dvd_trans (Nat.gcd_dvd_left _ _) (Nat.gcd_dvd_right _ _)) (Nat.dvd_trans (Nat.gcd_dvd_left _ _) (Nat.gcd_dvd_left _ _))
/-- the least such distance divides each -/
theorem jper_gcd {l : List Nat} {a b : Nat} (A : JPer l a) (B : JPer l b) : JPer l (Nat.gcd a b) := by
  have hL : l.length - 1 = 0 ∨ 1 ≤ l.length - 1 := by omega
  have ga := per_get A.pos A.eq
  have gb := per_get B.pos B.eq
  have hg : 1 ≤ Nat.gcd a b := Nat.gcd_pos_of_pos_left _ A.pos
  rcases hL with hL | hL
  · refine ⟨hg, by rw [hL]; exact Nat.dvd_zero _, fun i hi => ?_⟩
    omega
  · have pa : HasPer (inf l (l.length - 1)) a := fun t => by
      have key : ∀ t, inf l (l.length - 1) t = inf l a t := fun t => by
        have hm : t % (l.length - 1) < l.length - 1 := Nat.mod_lt _ hL
        unfold inf
        rw [ga (t % (l.length - 1)) (by omega)]
        show inf l a (t % (l.length - 1)) = inf l a t
        rw [(inf_per l a).mod, Nat.mod_mod_of_dvd _ A.dvd, ← (inf_per l a).mod]
      rw [key, key, inf_per l a]
    have pb : HasPer (inf l (l.length - 1)) b := fun t => by
      have key : ∀ t, inf l (l.length - 1) t = inf l b t := fun t => by
        have hm : t % (l.length - 1) < l.length - 1 := Nat.mod_lt _ hL
        unfold inf
        rw [gb (t % (l.length - 1)) (by omega)]
        show inf l b (t % (l.length - 1)) = inf l b t
        rw [(inf_per l b).mod, Nat.mod_mod_of_dvd _ B.dvd, ← (inf_per l b).mod]
      rw [key, key, inf_per l b]
    refine jper_of hg (f := inf l (l.length - 1)) (fun i hi => ?_) (pa.gcd2 pb) (Nat.dvd_trans (Nat.gcd_dvd_left _ _) A.dvd)
    by_cases c : i < l.length - 1
    · unfold inf
      rw [Nat.mod_eq_of_lt c, List.getElem?_eq_getElem hi]
      rfl
    · have e : i = l.length - 1 := by omega
      subst e
      rw [ga _ hi]
      congr 1
      rw [(inf_per l a).mod, Nat.mod_eq_zero_of_dvd A.dvd]
      unfold inf
      rw [Nat.zero_mod, Nat.mod_self]
/-- the step: least of all -/
def IsStep (l : List Nat) (s : Nat) : Prop := JPer l s ∧ ∀ g, JPer l g → s ≤ g
theorem IsStep.dvd {l : List Nat} {s g : Nat} (S : IsStep l s) (G : JPer l g) : s ∣ g := by
  have h := S.2 _ (jper_gcd S.1 G)
  have h2 : Nat.gcd s g ≤ s := Nat.gcd_le_left _ S.1.pos
  have h3 : Nat.gcd s g = s := by omega
  rw [← h3]
  exact Nat.gcd_dvd_right _ _
/-- which places make the same row -/
theorem same_iff {l : List Nat} {s p q : Nat} (S : IsStep l s) (hp : p < l.length) (hq : q < l.length) : mkRow l p = mkRow l q ↔ p = q ∨ (s ∣ p ∧ s ∣ q) := by
  constructor
  · intro h
    rcases Nat.lt_trichotomy p q with c | c | c
    · obtain ⟨g, G, g1, g2⟩ := jper_of_same c hq h
      exact .inr ⟨Nat.dvd_trans (S.dvd G) g1, Nat.dvd_trans (S.dvd G) g2⟩
    · exact .inl c
    · obtain ⟨g, G, g1, g2⟩ := jper_of_same c hp h.symm
      exact .inr ⟨Nat.dvd_trans (S.dvd G) g2, Nat.dvd_trans (S.dvd G) g1⟩
  · rintro (rfl | ⟨h1, h2⟩)
    · rfl
    · exact same_of_jper S.1 hp hq h1 h2
theorem same_iff0 {l : List Nat} {p q : Nat} (S : ∀ g, ¬ JPer l g) (hp : p < l.length) (hq : q < l.length) : mkRow l p = mkRow l q ↔ p = q := by
  constructor
  · intro h
    rcases Nat.lt_trichotomy p q with c | c | c
    · obtain ⟨g, G, _⟩ := jper_of_same c hq h
      exact (S g G).elim
    · exact c
    · obtain ⟨g, G, _⟩ := jper_of_same c hp h.symm
      exact (S g G).elim
  · rintro rfl
    rfl
end Ow
namespace Ow
open PySem PySem.Spec PyProof.Rows L2
def topS (i : Nat) : Stmt := PySem.Challenge.pw_ownlog_k52_classes_by_calls.main.body.getD i (.Pass ⟨0, 0, 0, 0⟩)
abbrev s_joint_step : Stmt := topS 1
abbrev s_joints : Stmt := topS 2
abbrev s_classes : Stmt := topS 3
abbrev s_law_bag : Stmt := topS 5
abbrev s_law_take : Stmt := topS 6
abbrev s_law_alike : Stmt := topS 7
abbrev s_law_word : Stmt := topS 8
abbrev s_law_row : Stmt := topS 9
abbrev s_law_called : Stmt := topS 10
abbrev s_law_any_row : Stmt := topS 11
abbrev s_law_bound_row : Stmt := topS 12
abbrev s_law : Stmt := topS 13
/-! ### _law_take -/
theorem sc_law_take : FnScope ["_law_bag_here", "_law_many", "_law_cell", "_law_value", "_law_first", "_law_second"] ["_law_bag_here", "_law_many"] (defScope s_law_take) := ⟨rfl, rfl, rfl, by decide +kernel, rfl, by decide +kernel, by decide +kernel⟩
section
variable {P : Program} {w : World} {K : PySem.W.Frag} {mg : Str → Option Value} {base : Heap}
theorem ok__law_take (D : Def K mg "_law_take" s_law_take) (B : Blt mg) : Dfn P w K mg base CX0 1 "_law_take" spTake := by
  refine def_ok D sc_law_take (fun _ _ _ _ _ _ us hl => match us, hl with | [_, _], _ => rfl) (fun vs H Q E h => ?_) (fun cdv A fr s H vs Q E f hr h => ?_)
  · obtain ⟨b, c, n, rfl, _⟩ := h
    rfl
  obtain ⟨b, c, n, rfl, ⟨cs, x0, x1, x2, B0⟩, hn, hlog, q⟩ := h
  refine ⟨_, (Evl.pss_cut (ps_if (pt_cmpR op_eqI (pe_ix ix_list (pv 0) pe_int (fun _ _ => rfl)) pe_int (nomark _))
        (pss_cons (ps_set (i := 2) sc_law_take.nd rfl (Or.inl rfl) pe_int)
        (Evl.pss_cut (ps_if (pt_cmpR op_lt (pe_ix ix_list (pv 0) pe_int (fun _ _ => rfl)) (pe_callB call_len_seq (by rfl) B.len (by decide +kernel) (pa_cons (pe_ix ix_list (pv 0) pe_int (fun _ _ => rfl)) pa_nil)) (nomark _))
          (pss_one (ps_set (i := 2) sc_law_take.nd rfl (Or.inl rfl) (pe_ix ix_list (pe_ix ix_list (pv 0) pe_int (fun _ _ => rfl)) (pe_ix ix_list (pv 0) pe_int (fun _ _ => rfl)) (fun _ _ => rfl))))
          pss_nil)
        (pss_cons (ps_augS (pv 0) pe_int pg_list pe_int ip_add set_list)
        (Evl.pss_cut (ps_if (pt_cmpR op_ge (pv 2) pe_int (nomark _))
          (pss_one (ps_asg (pv 2) (pg_sub (pv 0) pe_int set_list)))
          pss_nil)
        (pss_one (ps_asg (pe_op op_mod (pe_op op_add (pe_op op_add (pe_op op_mul (pe_ix ix_list (pv 0) pe_int (fun _ _ => rfl)) pe_int) (pe_op op_mod (pv 2) pe_int)) (pe_op op_mul pe_int (pe_ix ix_list (pv 0) pe_int (fun _ _ => rfl)))) pe_int) (pg_sub (pv 0) pe_int set_list)))))))
        pss_nil)
      (pss_cons (ps_if (pt_cmpR op_gt (pe_ix ix_list (pv 0) pe_int (fun _ _ => rfl)) pe_int (nomark _))
        (pss_cons (ps_set (i := 3) sc_law_take.nd rfl (Or.inl rfl) (pe_op op_mod (pe_ix ix_list (pv 0) pe_int (fun _ _ => rfl)) (pv 1)))
        (pss_cons (ps_asg (pe_op op_fdivW (pe_ix ix_list (pv 0) pe_int (fun _ _ => rfl)) (pv 1)) (pg_sub (pv 0) pe_int set_list))
        (pss_one (ps_ret (pv 3)))))
        pss_nil)
      (pss_cons (ps_set (i := 4) sc_law_take.nd rfl (Or.inl rfl) (pe_op op_mod (pe_op op_mul (pe_op op_add (pe_ix ix_list (pv 0) pe_int (fun _ _ => rfl)) pe_int) pe_int) pe_int))
      (pss_cons (ps_set (i := 5) sc_law_take.nd rfl (Or.inl rfl) (pe_op op_mod (pe_op op_mul (pe_op op_mod (pe_op op_mul (pv 4) (pv 4)) pe_int) pe_int) pe_int))
      (pss_cons (ps_if (pt_cmpR op_gt (pv 1) pe_int (nomark _))
        (pss_one (ps_ret (pe_op op_mod (pe_op op_add (pe_op op_mul (pv 5) pe_int) (pv 4)) (pv 1))))
        pss_nil)
      (pss_one (ps_ret (pe_op op_mod (pe_op op_fdivW (pv 5) pe_int) (pv 1))))))))), ?_⟩
  have rd : ∀ {H1 : Hp} {y0 y1 y2 : Int}, BagAt H1 b c cs y0 y1 y2 → SqL K H1 b [.int y0, .int y1, .int y2, .ref c] := fun z => sq_new z.at_
  -- what is left once the bag is filled
  refine ⟨fun σ' H' => ∃ (v2 : Option V) (y0 y1 y2 : Int), σ' = [some (.ref b), some (.int n), v2, none, none, none] ∧ BagAt H' b c cs y0 y1 y2 ∧ But b H H', ?_, ?_⟩
  · refine ⟨_, rfl, _, _, _, _, rfl, rfl, rd B0, rfl, _, _, rfl, rfl, _, rfl, ite2 (fun _ => ?_) (fun _ => ?_)⟩
    · refine ⟨fun σ' H' => ∃ z : Int, σ' = [some (.ref b), some (.int n), some (.int z), none, none, none] ∧ H' = H ∧ 0 ≤ z, ?_, ?_⟩
      · refine ⟨_, rfl, _, _, _, _, rfl, rfl, rd B0, rfl, _, rfl, _, _, _, _, rfl, rfl, rd B0, rfl, _, _, rfl, .inl (sq_new B0.cells), _, _, rfl, rfl, _, rfl, ite2 (fun hlt => ?_) (fun _ => ?_)⟩
        · have hlt' : x2 < ((cs.map V.int).length : Int) := of_decide_eq_true hlt
          rw [List.length_map] at hlt'
          have h2 := B0.n2
          have hj : x2.toNat < cs.length := by omega
          have hz := B0.nc _ (List.getElem_mem hj)
          refine ⟨_, rfl, _, _, _, _, rfl, rfl, rd B0, rfl, _, rfl, _, _, _, _, rfl, rfl, rd B0, rfl, _, _, _, _, rfl, rfl, sq_new B0.cells, at_of (j := x2.toNat) (by omega) (v := .int cs[x2.toNat]) (by rw [List.getElem?_map, List.getElem?_eq_getElem hj]; rfl), ?_⟩
          exact ⟨cs[x2.toNat], rfl, rfl, hz⟩
        · exact ⟨0, rfl, rfl, by decide⟩
      · rintro σ' H' ⟨z, rfl, eH, hz⟩
        replace eH := eH.symm
        subst eH
        have B1 := B0.put (y2 := x2 + 1) B0.n0 B0.n1 B0.l1 (by have := B0.n2; omega)
        refine ⟨_, rfl, _, _, _, _, rfl, rfl, rd B0, rfl, _, _, rfl, rfl, _, _, _, _, rfl, rfl, B0.at_, rfl, ?_⟩
        refine ⟨fun σ' H' => ∃ y0 : Int, σ' = [some (.ref b), some (.int n), some (.int z), none, none, none] ∧ BagAt H' b c cs y0 x1 (x2 + 1) ∧ But b H H', ?_, ?_⟩
        · refine ⟨_, rfl, _, _, rfl, rfl, _, rfl, ite2 (fun _ => ?_) (fun _ => ?_)⟩
          · refine ⟨_, rfl, _, rfl, _, _, _, _, rfl, rfl, B1.at_, rfl, z, rfl, ?_, .trans .at .at⟩
            exact B1.put hz B1.n1 B1.l1 B1.n2
          · exact ⟨x0, rfl, B1, .at⟩
        · rintro σ' H' ⟨y0, rfl, B2, b2⟩
          refine ⟨_, rfl, _, _, _, _, rfl, rfl, rd B2, rfl, _, _, rfl, rfl, .inr ⟨by decide, by decide⟩, _, rfl, _, _, rfl, rfl, (by show (0 : Int) < 2147483647; decide), _, _, rfl, rfl, _, rfl, _, _, _, _, rfl, rfl, rd B2, rfl,
            _, _, rfl, rfl, .inl ⟨by decide, by decide⟩, _, _, rfl, rfl, _, _, rfl, rfl, (by show (0 : Int) < 2147483647; decide), _, rfl, _, _, _, _, rfl, rfl, B2.at_, rfl,
            some (.int z), y0, (x1 * 48271 + z % 2147483647 + 7919 * (x2 + 1)) % 2147483647, x2 + 1, rfl, ?_, .trans b2 .at⟩
          exact B2.put B2.n0 (Int.emod_nonneg _ (by decide)) (by have := Int.emod_lt_of_pos (x1 * 48271 + z % 2147483647 + 7919 * (x2 + 1)) (show (0 : Int) < 2147483647 by decide); omega) B2.n2
    · exact ⟨none, x0, x1, x2, rfl, B0, .refl b H⟩
  · rintro σ' H' ⟨v2, y0, y1, y2, rfl, B1, b1⟩
    refine ⟨_, rfl, _, _, _, _, rfl, rfl, rd B1, rfl, _, _, rfl, rfl, _, rfl, ite2 (fun hp => ?_) (fun _ => ?_)⟩
    · have hp' : 0 < y0 := of_decide_eq_true hp
      have B2 := B1.put (y0 := y0 / n) (Int.ediv_nonneg B1.n0 (by omega)) B1.n1 B1.l1 B1.n2
      refine ⟨_, rfl, _, _, _, _, rfl, rfl, rd B1, rfl, _, rfl, _, _, rfl, rfl, (by show (0 : Int) < n; omega), ?_⟩
      refine ⟨_, rfl, _, _, _, _, rfl, rfl, rd B1, rfl, _, rfl, _, _, rfl, rfl, ⟨(by omega), hlog⟩, _, rfl, _, _, _, _, rfl, rfl, B1.at_, rfl, ?_⟩
      exact ⟨_, rfl, q _ _ (Int.emod_nonneg _ (by omega)) (Int.emod_lt_of_pos _ (by omega)) ⟨⟨cs, _, _, _, B2⟩, b1.trans .at⟩⟩
    · refine ⟨_, rfl, _, _, _, _, rfl, rfl, rd B1, rfl, _, _, rfl, rfl, _, _, rfl, rfl, .inr ⟨by decide, by decide⟩, _, _, rfl, rfl, (by show (0 : Int) < 1000000007; decide), ?_⟩
      have f0 := Int.emod_nonneg ((y1 + 1) * 39373) (show (1000000007 : Int) ≠ 0 by decide)
      have f1 := Int.emod_lt_of_pos ((y1 + 1) * 39373) (show (0 : Int) < 1000000007 by decide)
      revert f0 f1
      generalize (y1 + 1) * 39373 % 1000000007 = g
      intro f0 f1
      have s0 := Int.emod_nonneg (g * g) (show (998244353 : Int) ≠ 0 by decide)
      have s1 := Int.emod_lt_of_pos (g * g) (show (0 : Int) < 998244353 by decide)
      refine ⟨_, rfl, _, rfl, _, _, rfl, rfl, .inl ⟨by omega, by omega⟩, _, _, rfl, rfl, (by show (0 : Int) < 998244353; decide), _, _, rfl, rfl, .inr ⟨by decide, by decide⟩, _, _, rfl, rfl, (by show (0 : Int) < 998244353; decide), ?_⟩
      have t0 := Int.emod_nonneg (g * g % 998244353 * 30011) (show (998244353 : Int) ≠ 0 by decide)
      refine ⟨_, rfl, _, _, rfl, rfl, _, rfl, ite2 (fun _ => ?_) (fun _ => ?_)⟩
      · refine ⟨_, rfl, _, _, rfl, rfl, .inr ⟨by decide, by decide⟩, _, rfl, _, _, rfl, rfl, _, rfl, _, _, rfl, rfl, (by show (0 : Int) < n; omega), ?_⟩
        exact q _ _ (Int.emod_nonneg _ (by omega)) (Int.emod_lt_of_pos _ (by omega)) ⟨⟨cs, _, _, _, B1⟩, b1⟩
      · refine ⟨_, rfl, _, _, rfl, rfl, ⟨by decide, by decide⟩, _, rfl, _, _, rfl, rfl, (by show (0 : Int) < n; omega), ?_⟩
        exact q _ _ (Int.emod_nonneg _ (by omega)) (Int.emod_lt_of_pos _ (by omega)) ⟨⟨cs, _, _, _, B1⟩, b1⟩
end

/-! ### _law_word -/
theorem lg {n : Int} (h0 : 1 ≤ n) (h : n < 2 ^ 64) : n.natAbs.log2 < 9000 := by
  have e : n.natAbs.log2 < 64 := (Nat.log2_lt (by omega)).mpr (by omega)
  omega
/-- letters a to z -/
def AZ (l : List Nat) : Prop := ∀ c ∈ l, 97 ≤ c ∧ c ≤ 122
theorem AZ.sub {a b : List Nat} (h : AZ b) (s : ∀ c ∈ a, c ∈ b) : AZ a := fun c m => h c (s c m)
theorem AZ.take {a : List Nat} (h : AZ a) (n : Nat) : AZ (a.take n) := fun c m => h c (List.mem_of_mem_take m)
theorem AZ.drop {a : List Nat} (h : AZ a) (n : Nat) : AZ (a.drop n) := fun c m => h c (List.mem_of_mem_drop m)
theorem AZ.app {a b : List Nat} (h : AZ a) (g : AZ b) : AZ (a ++ b) := fun c m => by
  rcases List.mem_append.mp m with m | m
  · exact h c m
  · exact g c m
theorem AZ.rep {a : List Nat} (h : AZ a) (n : Nat) : AZ (List.replicate n a).flatten := fun c m => by
  obtain ⟨l, h1, h2⟩ := List.mem_flatten.mp m
  rw [(List.mem_replicate.mp h1).2] at h2
  exact h c h2
theorem alph_az : AZ [97, 98, 99, 100, 101, 102, 103, 104, 105, 106, 107, 108, 109, 110, 111, 112, 113, 114, 115, 116, 117, 118, 119, 120, 121, 122] := by
  unfold AZ
  decide
theorem rep_len (n : Nat) (a : List Nat) : (List.replicate n a).flatten.length = n * a.length := by
  rw [List.length_flatten, List.map_replicate, List.sum_replicate_nat]
theorem flat_one (l : List Nat) : (l.map fun c => [c]).flatten = l := by
  induction l with
  | nil => rfl
  | cons c r ih => rw [List.map_cons, List.flatten_cons, ih]; rfl
theorem sc_law_word : FnScope ["_law_bag_here", "_law_most", "_law_start", "_law_few", "_law_letters", "_law_way", "_law_size", "_law_many", "_law_word_here", "_law_k"] ["_law_bag_here", "_law_most"] (defScope s_law_word) := ⟨rfl, rfl, rfl, by decide +kernel, rfl, by decide +kernel, by decide +kernel⟩
def spWord : Sp := fun vs H Q _ => ∃ (b c : Addr) (m : Int), vs = [.ref b, .int m] ∧ Bag H b c ∧ 1 ≤ m ∧ m ≤ 100000 ∧ ∀ (l : List Nat) (H' : Hp), 1 ≤ l.length → (l.length : Int) ≤ m → AZ l → Drew b c H H' → Q (tx l) H'
section
variable {P : Program} {w : World} {K : PySem.W.Frag} {mg : Str → Option Value} {base : Heap}
theorem ok__law_word (D : Def K mg "_law_word" s_law_word) (B : Blt mg) (c__law_take : Dfn P w K mg base CX0 1 "_law_take" spTake) : Dfn P w K mg base CX0 2 "_law_word" spWord := by
  refine def_ok D sc_law_word (fun _ _ _ _ _ _ us hl => match us, hl with | [_, _], _ => rfl) (fun vs H Q E h => ?_) (fun cdv A fr s H vs Q E f hr h => ?_)
  · obtain ⟨b, c, n, rfl, _⟩ := h
    rfl
  obtain ⟨b, c, m, rfl, B0, hm1, hm2, q⟩ := h
  refine ⟨_, (pss_cons (ps_asg (pe_tup (pa_cons (pe_d c__law_take hr (pa_cons (pv 0) (pa_cons pe_int pa_nil))) (pa_cons (pe_op op_add pe_int (pe_d c__law_take hr (pa_cons (pv 0) (pa_cons pe_int pa_nil)))) pa_nil))) (pg_tup (by rfl) (pgs_cons (pg_name (i := 2) sc_law_word.nd rfl (Or.inl rfl)) (pgs_cons (pg_name (i := 3) sc_law_word.nd rfl (Or.inr rfl)) pgs_nil))))
      (pss_cons (ps_set (i := 4) sc_law_word.nd rfl (Or.inr rfl) (pe_slice sl_tx (pe_tx [97, 98, 99, 100, 101, 102, 103, 104, 105, 106, 107, 108, 109, 110, 111, 112, 113, 114, 115, 116, 117, 118, 119, 120, 121, 122]) (po_some (pv 2)) (po_some (pe_op op_add (pv 2) (pv 3)))))
      (pss_cons (ps_par (i := 5) (j := 6) (by rfl) sc_law_word.nd rfl rfl (by decide) rfl rfl (pa_cons (pe_d c__law_take hr (pa_cons (pv 0) (pa_cons pe_int pa_nil))) (pa_cons (pe_op op_add pe_int (pe_d c__law_take hr (pa_cons (pv 0) (pa_cons (pv 1) pa_nil)))) pa_nil)) (by rfl))
      (pss_cons (ps_set (i := 7) sc_law_word.nd rfl (Or.inl rfl) (pe_ix ix_list (pe_lst (pa_cons (pv 6) (pa_cons (pe_op op_add pe_int (pe_d c__law_take hr (pa_cons (pv 0) (pa_cons pe_int pa_nil)))) pa_nil))) (pe_callTy call_int1 (by rfl) B.int (by decide +kernel) (pa_cons (pe_cmpR op_gt (pv 5) pe_int (nomark _)) pa_nil)) (fun _ _ => rfl)))
      (pss_cons (ps_set (i := 8) sc_law_word.nd rfl (Or.inl rfl) (pe_joinE (pe_tx []) (pe_lc (own := [("_law_k", 9)]) (g := gName 9) rfl sc_law_word.nd (pi_range1 rfl B.range (pa_cons (pv 7) pa_nil)) (blkOk_by (own := [("_law_k", 9)]) (N := ["_law_bag_here", "_law_most", "_law_start", "_law_few", "_law_letters", "_law_way", "_law_size", "_law_many", "_law_word_here", "_law_k"]) (sc := defScope s_law_word) (by decide +kernel)) (fun _ _ _ _ _ => (pg_name (i := 9) sc_law_word.nd rfl (Or.inl rfl))) (fun _ _ _ _ _ => pts_nil) (fun _ _ _ _ _ => (pe_ix ix_tx (pv 4) (pe_d c__law_take hr (pa_cons (pv 0) (pa_cons (pv 3) pa_nil))) (fun _ _ => rfl))))))
      (pss_cons (ps_set (i := 8) sc_law_word.nd rfl (Or.inl rfl) (pe_slice sl_tx (pe_op op_repT (pv 8) (pe_op op_add (pe_op op_fdivW (pv 6) (pv 7)) pe_int)) po_none (po_some (pv 6))))
      (pss_one (ps_ret (pe_ix ix_list (pe_lst (pa_cons (pv 8) (pa_cons (pv 8) (pa_cons (pv 8) (pa_cons (pe_revT (pv 8)) pa_nil))))) (pv 5) (fun _ _ => rfl)))))))))), ?_⟩
  -- _law_start, _law_few
  refine ⟨_, rfl, b, c, 24, rfl, B0, by decide, by decide, fun v1 H1 l1 u1 d1 => ?_⟩
  refine ⟨_, rfl, b, c, 3, rfl, d1.bag, by decide, by decide, fun v2 H2 l2 u2 d2 => ?_⟩
  refine ⟨_, _, rfl, rfl, (by show 2 ≤ sizeLine; decide), fun p np => ?_⟩
  have d3 := (d1.trans d2).new (o := .tup [.int v1, .int (1 + v2)]) np
  have hp3 : upd H2 p (.tup [.int v1, .int (1 + v2)]) p = _ := upd_same
  revert d3 hp3
  generalize upd H2 p (.tup [.int v1, .int (1 + v2)]) = H3
  intro d3 hp3
  refine ⟨p, _, rfl, st_new hp3, rfl, _, _, rfl, _, _, rfl, rfl, ?_⟩
  -- _law_letters
  refine ⟨_, rfl, _, rfl, _, rfl, _, rfl, _, _, rfl, rfl, _, rfl, _, rfl, (by show 26 ≤ sizeLine; decide), ?_⟩
  obtain ⟨ls, els, az, ln⟩ : ∃ ls, cut [97, 98, 99, 100, 101, 102, 103, 104, 105, 106, 107, 108, 109, 110, 111, 112, 113, 114, 115, 116, 117, 118, 119, 120, 121, 122] (some v1) (some (v1 + (1 + v2))) = ls ∧ AZ ls ∧ ls.length = (1 + v2).toNat := by
    refine ⟨_, rfl, ?_, ?_⟩
    · rw [cut_midI _ (by omega) (by omega)]
      exact (alph_az.drop _).take _
    · rw [cut_midI _ (by omega) (by omega), List.length_take, List.length_drop]
      show min ((v1 + (1 + v2)).toNat - v1.toNat) (26 - v1.toNat) = _
      omega
  rw [els]
  -- _law_way, _law_size
  refine ⟨_, rfl, b, c, 4, rfl, d3.bag, by decide, by decide, fun v4 H4 l4 u4 d4 => ?_⟩
  refine ⟨_, rfl, _, rfl, b, c, m, rfl, d4.bag, hm1, lg hm1 (by omega), fun v5 H5 l5 u5 d5 => ?_⟩
  refine ⟨_, _, rfl, rfl, _, _, rfl, ?_⟩
  -- _law_many
  refine ⟨_, rfl, _, rfl, b, c, 4, rfl, d5.bag, by decide, by decide, fun v6 H6 l6 u6 d6 => ?_⟩
  refine ⟨_, _, rfl, rfl, (by show 2 ≤ sizeLine; decide), fun r nr => ?_⟩
  have d7 := (((d3.trans d4).trans d5).trans d6).new (o := .lst [.int (1 + v5), .int (1 + v6)]) nr
  have hr7 : upd H6 r (.lst [.int (1 + v5), .int (1 + v6)]) r = _ := upd_same
  revert d7 hr7
  generalize upd H6 r (.lst [.int (1 + v5), .int (1 + v6)]) = H7
  intro d7 hr7
  obtain ⟨many, hmany, hm3, hm4⟩ : ∃ many : Int, atI [V.int (1 + v5), V.int (1 + v6)] (if decide (1 < v4) then 1 else 0) = some (.int many) ∧ 1 ≤ many ∧ many ≤ 100000 := by
    by_cases c : 1 < v4
    · rw [decide_eq_true c]
      exact ⟨1 + v6, rfl, by omega, by omega⟩
    · rw [decide_eq_false c]
      exact ⟨1 + v5, rfl, by omega, by omega⟩
  refine ⟨_, rfl, _, _, rfl, rfl, .inr ⟨_, rfl, r, _, _, _, rfl, rfl, sq_new hr7, hmany, ?_⟩⟩
  -- "".join(..)
  refine ⟨⟨_, rfl⟩, _, rfl, _, rfl, (by omega), (by omega), fun D nD => ?_⟩
  refine lc_range (lo := 0) (n := many.toNat) (fun i H' => ∃ cs : List Nat, cs.length = i ∧ AZ cs ∧ H' D = some (.lst ((cs.map fun c => [c]).map tx)) ∧ Drew b c H7 H') ⟨[], rfl, (fun c m => by cases m), upd_same, (Drew.refl d7.bag).new nD⟩ (fun i H' hi z => ?_) (fun H' z => ?_)
  · obtain ⟨cs, hcs, hz, hD, d8⟩ := z
    refine ⟨rfl, yes ?_⟩
    refine ⟨_, rfl, _, rfl, _, rfl, b, c, _, rfl, d8.bag, by omega, lg (by omega) (by omega), fun v9 H9 l9 u9 d9 => ?_⟩
    have hv : v9.toNat < ls.length := by omega
    refine ⟨_, _, _, rfl, rfl, len_le (by omega), at_nat (j := v9.toNat) (by omega) (List.getElem?_eq_getElem hv), _, d9.but _ _ (d7.bag.ne nD) hD, ?_, ?_⟩
    · rw [List.length_map, List.length_map]
      exact len_lt (by omega)
    · refine ⟨cs ++ [ls[v9.toNat]], by rw [List.length_append, hcs]; rfl, hz.app fun c m => ?_, ?_, (d8.trans d9).mut d7.bag nD⟩
      · rw [List.mem_singleton.mp m]
        exact az _ (List.getElem_mem hv)
      · rw [upd_same, List.map_append, List.map_append]
        rfl
  · obtain ⟨cs, hcs, hz, hD, d8⟩ := z
    refine ⟨D, _, rfl, rfl, sq_new hD, ?_, ?_⟩
    · rw [flat_one]
      omega
    rw [flat_one]
    -- the word repeated and cut
    have hq1 : (1 + v5) / many ≤ 1 + v5 := Int.ediv_le_self _ (by omega)
    have hq0 : 0 ≤ (1 + v5) / many := Int.ediv_nonneg (by omega) (by omega)
    have hq2 : many * ((1 + v5) / many) ≤ 1 + v5 := by
      have := Int.mul_ediv_self_le (x := 1 + v5) (k := many) (by omega)
      exact this
    have hq3 : 1 + v5 < many * ((1 + v5) / many) + many := Int.lt_mul_ediv_self_add (by omega)
    generalize hqq : (1 + v5) / many = qq at hq0 hq1 hq2 hq3
    have hlen : ((List.replicate (qq + 1).toNat cs).flatten.length : Int) = many * qq + many := by
      rw [rep_len, hcs, Int.natCast_mul, Int.toNat_of_nonneg (by omega), Int.toNat_of_nonneg (by omega), Int.mul_comm, Int.mul_add, Int.mul_one]
    refine ⟨_, rfl, _, rfl, _, rfl, _, _, rfl, rfl, ⟨(by show (0 : Int) < many; omega), lg (n := many) (by omega) (by omega)⟩, _, _, rfl, rfl, _, _, rfl, rfl, ?_⟩
    rw [hqq]
    refine ⟨(by omega), (by omega), ?_, _, rfl, _, rfl, _, rfl, ?_, ?_⟩
    · rw [← rep_len (qq + 1).toNat cs |>.trans (Nat.mul_comm _ _)]
      exact len_le (by omega)
    · exact len_le (by omega)
    rw [cut_toI _ (show (0 : Int) ≤ 1 + v5 by omega)]
    obtain ⟨l, el, hl1, hl2, hl3⟩ : ∃ l, (List.replicate (qq + 1).toNat cs).flatten.take (1 + v5).toNat = l ∧ 1 ≤ l.length ∧ (l.length : Int) ≤ m ∧ AZ l := by
      refine ⟨_, rfl, ?_, ?_, (hz.rep _).take _⟩
      · rw [List.length_take]
        omega
      · rw [List.length_take]
        omega
    rw [el]
    -- one of four
    refine ⟨_, rfl, _, rfl, _, rfl, _, rfl, _, rfl, len_le (by omega), (by show 4 ≤ sizeLine; decide), fun t nt => ?_⟩
    have d9 := (d7.trans d8).new (o := .lst [tx l, tx l, tx l, tx l.reverse]) nt
    obtain ⟨l', e1, e2, e3⟩ : ∃ l', atI [tx l, tx l, tx l, tx l.reverse] v4 = some (tx l') ∧ l'.length = l.length ∧ AZ l' := by
      have c4 : v4 = 0 ∨ v4 = 1 ∨ v4 = 2 ∨ v4 = 3 := by omega
      rcases c4 with rfl | rfl | rfl | rfl
      · exact ⟨l, rfl, rfl, hl3⟩
      · exact ⟨l, rfl, rfl, hl3⟩
      · exact ⟨l, rfl, rfl, hl3⟩
      · exact ⟨l.reverse, rfl, List.length_reverse, hl3.sub fun c m => List.mem_reverse.mp m⟩
    refine ⟨_, rfl, t, _, _, _, rfl, rfl, sq_new upd_same, e1, q l' _ (by omega) (by omega) e3 d9⟩
end

/-! ### _law_row -/
theorem sc_law_row : FnScope ["_law_bag_here", "_law_most", "_law_text", "_law_way", "_law_turn", "_law_letter"] ["_law_bag_here", "_law_most"] (defScope s_law_row) := ⟨rfl, rfl, rfl, by decide +kernel, rfl, by decide +kernel, by decide +kernel⟩
def spRow : Sp := fun vs H Q _ => ∃ (b c : Addr) (m : Int), vs = [.ref b, .int m] ∧ Bag H b c ∧ 1 ≤ m ∧ m ≤ 50000 ∧ ∀ (l : List Nat) (H' : Hp), 2 ≤ l.length → ((l.length : Int) ≤ m ∨ l.length = 2) → AZ l → Drew b c H H' → Q (tx l) H'
theorem abc_filter (x : Nat) : 2 ≤ (([97, 98, 99] : List Nat).filter fun c => !decide (c = x)).length := by
  by_cases h1 : x = 97
  · subst h1; decide
  · by_cases h2 : x = 98
    · subst h2; decide
    · rw [List.filter_cons_of_pos (by simpa using fun e => h1 e.symm), List.filter_cons_of_pos (by simpa using fun e => h2 e.symm)]
      rw [List.length_cons, List.length_cons]
      omega
theorem take_filter {α : Type} {l : List α} {f : α → Bool} {i : Nat} {x : α} (h : l[i]? = some x) : (l.take (i + 1)).filter f = (l.take i).filter f ++ if f x then [x] else [] := by
  rw [List.take_add_one, h, List.filter_append]
  congr 1
  show [x].filter f = _
  cases hf : f x <;> simp [hf]
section
variable {P : Program} {w : World} {K : PySem.W.Frag} {mg : Str → Option Value} {base : Heap}
theorem ok__law_row (D : Def K mg "_law_row" s_law_row) (B : Blt mg) (c__law_take : Dfn P w K mg base CX0 1 "_law_take" spTake) (c__law_word : Dfn P w K mg base CX0 2 "_law_word" spWord) : Dfn P w K mg base CX0 3 "_law_row" spRow := by
  refine def_ok D sc_law_row (fun _ _ _ _ _ _ us hl => match us, hl with | [_, _], _ => rfl) (fun vs H Q E h => ?_) (fun cdv A fr s H vs Q E f hr h => ?_)
  · obtain ⟨b, c, n, rfl, _⟩ := h
    rfl
  obtain ⟨b, c, m, rfl, B0, hm1, hm2, q⟩ := h
  refine ⟨_, (pss_cons (ps_set (i := 2) sc_law_row.nd rfl (Or.inr rfl) (pe_d c__law_word hr (pa_cons (pv 0) (pa_cons (pv 1) pa_nil))))
      (Evl.pss_cut (ps_if (pt_cmpR op_lt (pe_callB call_lenT (by rfl) B.len (by decide +kernel) (pa_cons (pv 2) pa_nil)) pe_int (nomark _))
        (pss_one (ps_set (i := 2) sc_law_row.nd rfl (Or.inr rfl) (pe_op op_catT (pv 2) (pv 2))))
        pss_nil)
      (pss_cons (ps_par (i := 3) (j := 4) (by rfl) sc_law_row.nd rfl rfl (by decide) rfl rfl (pa_cons (pe_d c__law_take hr (pa_cons (pv 0) (pa_cons pe_int pa_nil))) (pa_cons (pe_d c__law_take hr (pa_cons (pv 0) (pa_cons pe_int pa_nil))) pa_nil)) (by rfl))
      (pss_cons (ps_if (pt_cmpR op_eqI (pv 3) pe_int (nomark _))
        (pss_one (ps_ret (pe_op op_catT (pe_slice sl_tx (pv 2) po_none (po_some (pe_un un_neg pe_int))) (pe_ix ix_list (pe_lc (own := [("_law_letter", 5)]) (g := gName 5) rfl sc_law_row.nd (pi_str (pe_tx [97, 98, 99])) (blkOk_by (own := [("_law_letter", 5)]) (N := ["_law_bag_here", "_law_most", "_law_text", "_law_way", "_law_turn", "_law_letter"]) (sc := defScope s_law_row) (by decide +kernel)) (fun _ _ _ _ _ => (pg_name (i := 5) sc_law_row.nd rfl (Or.inl rfl))) (fun _ _ _ _ _ => pts_one (pt_cmpR op_neT (pv 5) (pe_ix ix_tx (pv 2) pe_int (fun _ _ => rfl)) (nomark _))) (fun _ _ _ _ _ => (pv 5))) (pv 4) (fun _ _ => rfl)))))
        pss_nil)
      (pss_one (ps_ret (pe_ix ix_list (pe_lst (pa_cons (pv 2) (pa_cons (pv 2) (pa_cons (pe_op op_catT (pe_slice sl_tx (pv 2) po_none (po_some (pe_un un_neg pe_int))) (pe_ix ix_tx (pv 2) pe_int (fun _ _ => rfl))) pa_nil)))) (pv 3) (fun _ _ => rfl)))))))), ?_⟩
  refine ⟨_, rfl, _, rfl, b, c, m, rfl, B0, hm1, by omega, fun l1 H1 a1 a2 a3 d1 => ?_⟩
  -- a text of two letters at least
  refine ⟨fun σ' H' => ∃ l : List Nat, σ' = [some (.ref b), some (.int m), some (tx l), none, none, none] ∧ H' = H1 ∧ 2 ≤ l.length ∧ ((l.length : Int) ≤ m ∨ l.length = 2) ∧ AZ l, ?_, ?_⟩
  · refine ⟨_, rfl, _, rfl, len_le (by omega), _, _, rfl, rfl, _, rfl, ite2 (fun hlt => ?_) (fun hlt => ?_)⟩
    · have hlt' : (l1.length : Int) < 2 := of_decide_eq_true hlt
      refine ⟨_, rfl, _, rfl, _, _, rfl, rfl, len_le (by omega), l1 ++ l1, rfl, rfl, ?_, .inr ?_, a3.app a3⟩ <;> (rw [List.length_append]; omega)
    · have hlt' : ¬ (l1.length : Int) < 2 := fun z => hlt (decide_eq_true z)
      exact ⟨l1, rfl, rfl, by omega, .inl a2, a3⟩
  rintro σ' H' ⟨l, rfl, eH, hl2, hlm, hz⟩
  subst eH
  have hbig : l.length ≤ 50000 := by omega
  have h0 : 0 < l.length := by omega
  refine ⟨_, rfl, b, c, 3, rfl, d1.bag, by decide, by decide, fun v2 H2 l2 u2 d2 => ?_⟩
  refine ⟨_, rfl, b, c, 2, rfl, d2.bag, by decide, by decide, fun v3 H3 l3 u3 d3 => ?_⟩
  have d4 := (d1.trans d2).trans d3
  refine ⟨_, _, rfl, ?_⟩
  refine ⟨_, rfl, _, _, rfl, rfl, _, rfl, ite2 (fun _ => ?_) (fun _ => ?_)⟩
  · refine ⟨_, rfl, _, rfl, _, rfl, _, rfl, len_le (by omega), ?_⟩
    rw [cut_last]
    refine ⟨_, rfl, fun D nD => ?_⟩
    refine lc_T (a := [97, 98, 99]) (fun i H' => Same H3 H' ∧ H' D = some (.lst (((([97, 98, 99] : List Nat).take i).filter fun c => !decide (c = l[0])).map fun c => tx [c]))) ⟨.new nD, upd_same⟩ (fun i x H' hi z => ?_) (fun H' z => ?_)
    · obtain ⟨z1, z2⟩ := z
      refine ⟨rfl, ?_⟩
      refine ⟨_, rfl, _, rfl, _, _, _, rfl, rfl, len_le (by omega), at_nat (j := 0) rfl (List.getElem?_eq_getElem h0), _, _, rfl, rfl, _, rfl, ?_⟩
      have ed : (!decide ([x] = [l[0]])) = !decide (x = l[0]) := by simp
      rw [ed]
      refine ite2 (fun hx => ?_) (fun hx => ?_)
      · refine ⟨_, rfl, _, z2, ?_, fun b' o e => ?_, ?_⟩
        · rw [List.length_map]
          have := List.length_filter_le (fun c => !decide (c = l[0])) (([97, 98, 99] : List Nat).take i)
          have h3 : (([97, 98, 99] : List Nat).take i).length ≤ 3 := by
            rw [List.length_take]
            exact Nat.min_le_right _ _
          exact len_lt (by omega)
        · rw [upd_ne (ne_of_none e nD)]
          exact z1 b' o e
        · rw [upd_same, take_filter hi, if_pos hx, List.map_append]
          rfl
      · refine ⟨z1, ?_⟩
        rw [take_filter hi, if_neg hx, List.append_nil]
        exact z2
    · obtain ⟨z1, z2⟩ := z
      have hf := abc_filter l[0]
      rw [show (([97, 98, 99] : List Nat).take ([97, 98, 99] : List Nat).length) = [97, 98, 99] from rfl] at z2
      have hv : v3.toNat < (([97, 98, 99] : List Nat).filter fun c => !decide (c = l[0])).length := by omega
      refine ⟨_, rfl, D, _, _, tx [(([97, 98, 99] : List Nat).filter fun c => !decide (c = l[0]))[v3.toNat]], rfl, rfl, sq_new z2, at_nat (j := v3.toNat) (by omega) ?_, _, _, rfl, rfl, ?_, q _ _ ?_ ?_ ?_ (d4.same z1)⟩
      · rw [List.getElem?_map, List.getElem?_eq_getElem hv]
        rfl
      · rw [List.length_take, List.length_singleton]
        exact len_le (by omega)
      · rw [List.length_append, List.length_take, List.length_singleton]
        omega
      · rw [List.length_append, List.length_take, List.length_singleton]
        omega
      · refine (hz.take _).app fun c m => ?_
        rw [List.mem_singleton.mp m]
        have h3 := List.mem_filter.mp (List.getElem_mem hv)
        have h4 : ∀ c ∈ ([97, 98, 99] : List Nat), 97 ≤ c ∧ c ≤ 122 := by decide
        exact h4 _ h3.1
  · refine ⟨_, rfl, _, rfl, _, rfl, _, rfl, _, rfl, _, rfl, len_le (by omega), _, rfl, _, _, _, rfl, rfl, len_le (by omega), at_nat (j := 0) rfl (List.getElem?_eq_getElem h0), _, _, rfl, rfl, ?_, (by show 3 ≤ sizeLine; decide), fun t nt => ?_⟩
    · rw [cut_last, List.length_take, List.length_singleton]
      exact len_le (by omega)
    rw [cut_last]
    have d5 := d4.new (o := .lst [tx l, tx l, tx (l.take (l.length - 1) ++ [l[0]])]) nt
    have c3 : v2 = 0 ∨ v2 = 1 ∨ v2 = 2 := by omega
    obtain ⟨l', e1, e2, e3⟩ : ∃ l', atI [tx l, tx l, tx (l.take (l.length - 1) ++ [l[0]])] v2 = some (tx l') ∧ l'.length = l.length ∧ AZ l' := by
      rcases c3 with rfl | rfl | rfl
      · exact ⟨l, rfl, rfl, hz⟩
      · exact ⟨l, rfl, rfl, hz⟩
      · refine ⟨_, rfl, ?_, (hz.take _).app fun c m => ?_⟩
        · rw [List.length_append, List.length_take, List.length_singleton]
          omega
        · rw [List.mem_singleton.mp m]
          exact hz _ (List.getElem_mem h0)
    exact ⟨_, rfl, t, _, _, _, rfl, rfl, sq_new upd_same, e1, q l' _ (by omega) (by rw [e2]; exact hlm) e3 d5⟩
end

/-! ### _law_any_row -/
theorem sc_law_any_row : FnScope ["_law_bag_here", "_law_most", "_law_size", "_law_k"] ["_law_bag_here", "_law_most"] (defScope s_law_any_row) := ⟨rfl, rfl, rfl, by decide +kernel, rfl, by decide +kernel, by decide +kernel⟩
def spAnyRow : Sp := fun vs H Q _ => ∃ (b c : Addr) (m : Int), vs = [.ref b, .int m] ∧ Bag H b c ∧ 2 ≤ m ∧ m ≤ 50000 ∧ ∀ (l : List Nat) (H' : Hp), 2 ≤ l.length → (l.length : Int) ≤ m → AZ l → Drew b c H H' → Q (tx l) H'
section
variable {P : Program} {w : World} {K : PySem.W.Frag} {mg : Str → Option Value} {base : Heap}
theorem ok__law_any_row (D : Def K mg "_law_any_row" s_law_any_row) (B : Blt mg) (c__law_take : Dfn P w K mg base CX0 1 "_law_take" spTake) (c__law_row : Dfn P w K mg base CX0 3 "_law_row" spRow) : Dfn P w K mg base CX0 4 "_law_any_row" spAnyRow := by
  refine def_ok D sc_law_any_row (fun _ _ _ _ _ _ us hl => match us, hl with | [_, _], _ => rfl) (fun vs H Q E h => ?_) (fun cdv A fr s H vs Q E f hr h => ?_)
  · obtain ⟨b, c, n, rfl, _⟩ := h
    rfl
  obtain ⟨b, c, m, rfl, B0, hm1, hm2, q⟩ := h
  refine ⟨_, (pss_cons (ps_if (pt_cmpR op_gt (pe_d c__law_take hr (pa_cons (pv 0) (pa_cons pe_int pa_nil))) pe_int (nomark _))
        (pss_one (ps_ret (pe_d c__law_row hr (pa_cons (pv 0) (pa_cons (pv 1) pa_nil)))))
        pss_nil)
      (pss_cons (ps_set (i := 2) sc_law_any_row.nd rfl (Or.inl rfl) (pe_op op_add pe_int (pe_d c__law_take hr (pa_cons (pv 0) (pa_cons (pe_op op_sub (pv 1) pe_int) pa_nil)))))
      (pss_one (ps_ret (pe_joinE (pe_tx []) (pe_lc (own := [("_law_k", 3)]) (g := gName 3) rfl sc_law_any_row.nd (pi_range1 rfl B.range (pa_cons (pv 2) pa_nil)) (blkOk_by (own := [("_law_k", 3)]) (N := ["_law_bag_here", "_law_most", "_law_size", "_law_k"]) (sc := defScope s_law_any_row) (by decide +kernel)) (fun _ _ _ _ _ => (pg_name (i := 3) sc_law_any_row.nd rfl (Or.inl rfl))) (fun _ _ _ _ _ => pts_nil) (fun _ _ _ _ _ => (pe_ix ix_tx (pe_tx [97, 98, 99, 100, 101, 102, 103, 104, 105, 106, 107, 108, 109, 110, 111, 112, 113, 114, 115, 116, 117, 118, 119, 120, 121, 122]) (pe_d c__law_take hr (pa_cons (pv 0) (pa_cons pe_int pa_nil))) (fun _ _ => rfl))))))))), ?_⟩
  refine ⟨_, rfl, b, c, 3, rfl, B0, by decide, by decide, fun v1 H1 l1 u1 d1 => ?_⟩
  refine ⟨_, _, rfl, rfl, _, rfl, ite2 (fun _ => ?_) (fun _ => ?_)⟩
  · refine ⟨_, rfl, _, rfl, b, c, m, rfl, d1.bag, by omega, hm2, fun l H2 a1 a2 a3 d2 => ?_⟩
    exact q l H2 a1 (by omega) a3 (d1.trans d2)
  refine ⟨_, rfl, _, rfl, _, _, rfl, rfl, b, c, m - 1, rfl, d1.bag, by omega, lg (by omega) (by omega), fun v2 H2 l2 u2 d2 => ?_⟩
  refine ⟨_, _, rfl, rfl, ?_⟩
  have d3 := d1.trans d2
  refine ⟨⟨_, rfl⟩, _, rfl, _, rfl, (by omega), (by omega), fun D nD => ?_⟩
  refine lc_range (lo := 0) (n := (2 + v2).toNat) (fun i H' => ∃ cs : List Nat, cs.length = i ∧ AZ cs ∧ H' D = some (.lst ((cs.map fun c => [c]).map tx)) ∧ Drew b c H2 H') ⟨[], rfl, (fun c m => by cases m), upd_same, (Drew.refl d3.bag).new nD⟩ (fun i H' hi z => ?_) (fun H' z => ?_)
  · obtain ⟨cs, hcs, hz, hD, d8⟩ := z
    refine ⟨rfl, yes ?_⟩
    refine ⟨_, rfl, b, c, 26, rfl, d8.bag, by decide, by decide, fun v9 H9 l9 u9 d9 => ?_⟩
    have hv : v9.toNat < ([97, 98, 99, 100, 101, 102, 103, 104, 105, 106, 107, 108, 109, 110, 111, 112, 113, 114, 115, 116, 117, 118, 119, 120, 121, 122] : List Nat).length := by
      show v9.toNat < 26
      omega
    refine ⟨_, _, _, rfl, rfl, (by show 26 ≤ sizeLine; decide), at_nat (j := v9.toNat) (by omega) (List.getElem?_eq_getElem hv), _, d9.but _ _ (d3.bag.ne nD) hD, ?_, ?_⟩
    · rw [List.length_map, List.length_map]
      exact len_lt (by omega)
    · refine ⟨cs ++ [([97, 98, 99, 100, 101, 102, 103, 104, 105, 106, 107, 108, 109, 110, 111, 112, 113, 114, 115, 116, 117, 118, 119, 120, 121, 122] : List Nat)[v9.toNat]], by rw [List.length_append, hcs]; rfl, hz.app fun c m => ?_, ?_, (d8.trans d9).mut d3.bag nD⟩
      · rw [List.mem_singleton.mp m]
        exact alph_az _ (List.getElem_mem hv)
      · rw [upd_same, List.map_append, List.map_append]
        rfl
  · obtain ⟨cs, hcs, hz, hD, d8⟩ := z
    refine ⟨D, _, rfl, rfl, sq_new hD, ?_, ?_⟩
    · rw [flat_one]
      omega
    rw [flat_one]
    exact q cs H' (by omega) (by omega) hz (d3.trans d8)
end

/-! ### _law_bound_row -/
theorem sc_law_bound_row : FnScope ["_law_bag_here", "_law_row_here", "_law_size", "_law_word_here", "_law_at"] ["_law_bag_here"] (defScope s_law_bound_row) := ⟨rfl, rfl, rfl, by decide +kernel, rfl, by decide +kernel, by decide +kernel⟩
def spBoundRow : Sp := fun vs H Q _ => ∃ (b c : Addr), vs = [.ref b] ∧ Bag H b c ∧ ∀ (l : List Nat) (H' : Hp), 2 ≤ l.length → l.length ≤ 1000 → AZ l → Drew b c H H' → Q (tx l) H'
section
variable {P : Program} {w : World} {K : PySem.W.Frag} {mg : Str → Option Value} {base : Heap}
theorem ok__law_bound_row (D : Def K mg "_law_bound_row" s_law_bound_row) (B : Blt mg) (c__law_take : Dfn P w K mg base CX0 1 "_law_take" spTake) (c__law_word : Dfn P w K mg base CX0 2 "_law_word" spWord)
    (c__law_any_row : Dfn P w K mg base CX0 4 "_law_any_row" spAnyRow) : Dfn P w K mg base CX0 5 "_law_bound_row" spBoundRow := by
  refine def_ok D sc_law_bound_row (fun _ _ _ _ _ _ us hl => match us, hl with | [_], _ => rfl) (fun vs H Q E h => ?_) (fun cdv A fr s H vs Q E f hr h => ?_)
  · obtain ⟨b, c, rfl, _⟩ := h
    rfl
  obtain ⟨b, c, rfl, B0, q⟩ := h
  refine ⟨_, (pss_cons (ps_set (i := 1) sc_law_bound_row.nd rfl (Or.inl rfl) (pe_d c__law_any_row hr (pa_cons (pv 0) (pa_cons pe_int pa_nil))))
      (Evl.pss_cut (ps_if (pt_cmpR op_gt (pe_d c__law_take hr (pa_cons (pv 0) (pa_cons pe_int pa_nil))) pe_int (nomark _))
        (pss_cons (ps_set (i := 2) sc_law_bound_row.nd rfl (Or.inl rfl) (pe_ix ix_list (pe_lst (pa_cons pe_int (pa_cons pe_int (pa_cons pe_int pa_nil)))) (pe_d c__law_take hr (pa_cons (pv 0) (pa_cons pe_int pa_nil))) (fun _ _ => rfl)))
        (pss_cons (ps_set (i := 3) sc_law_bound_row.nd rfl (Or.inl rfl) (pe_d c__law_word hr (pa_cons (pv 0) (pa_cons (pv 2) pa_nil))))
        (pss_one (ps_set (i := 1) sc_law_bound_row.nd rfl (Or.inl rfl) (pe_op op_catT (pe_op op_repT (pv 3) (pe_op op_add pe_int (pe_d c__law_take hr (pa_cons (pv 0) (pa_cons (pe_ix ix_list (pe_lst (pa_cons pe_int (pa_cons pe_int pa_nil))) (pe_callTy call_int1 (by rfl) B.int (by decide +kernel) (pa_cons (pe_cmpR op_gt (pv 2) pe_int (nomark _)) pa_nil)) (fun _ _ => rfl)) pa_nil))))) (pe_ix ix_tx (pv 3) pe_int (fun _ _ => rfl)))))))
        pss_nil)
      (Evl.pss_cut (ps_if (pt_cmpR op_eqI (pe_d c__law_take hr (pa_cons (pv 0) (pa_cons pe_int pa_nil))) pe_int (nomark _))
        (pss_cons (ps_set (i := 4) sc_law_bound_row.nd rfl (Or.inl rfl) (pe_d c__law_take hr (pa_cons (pv 0) (pa_cons (pe_callB call_lenT (by rfl) B.len (by decide +kernel) (pa_cons (pv 1) pa_nil)) pa_nil))))
        (pss_one (ps_set (i := 1) sc_law_bound_row.nd rfl (Or.inl rfl) (pe_op op_catT (pe_op op_catT (pe_slice sl_tx (pv 1) po_none (po_some (pv 4))) (pe_ix ix_tx (pe_tx [97, 98, 122]) (pe_d c__law_take hr (pa_cons (pv 0) (pa_cons pe_int pa_nil))) (fun _ _ => rfl))) (pe_slice sl_tx (pv 1) (po_some (pe_op op_add (pv 4) pe_int)) po_none)))))
        pss_nil)
      (pss_one (ps_ret (pv 1)))))), ?_⟩
  refine ⟨_, rfl, b, c, 65, rfl, B0, by decide, by decide, fun l1 H1 a1 a2 a3 d1 => ?_⟩
  refine ⟨fun σ' H' => ∃ (l : List Nat) (v3 v4 : Option V), σ' = [some (.ref b), some (tx l), v3, v4, none] ∧ 2 ≤ l.length ∧ l.length ≤ 1000 ∧ AZ l ∧ Drew b c H H', ?_, ?_⟩
  · refine ⟨_, rfl, b, c, 3, rfl, d1.bag, by decide, by decide, fun v1 H2 l2 u2 d2 => ?_⟩
    have d3 := d1.trans d2
    refine ⟨_, _, rfl, rfl, _, rfl, ite2 (fun _ => ?_) (fun _ => ?_)⟩
    · refine ⟨(by show 3 ≤ sizeLine; decide), fun p np => ?_⟩
      have d4 := d3.new (o := .lst [.int 8, .int 8, .int 333]) np
      have hp : upd H2 p (.lst [.int 8, .int 8, .int 333]) p = _ := upd_same
      revert d4 hp
      generalize upd H2 p (.lst [.int 8, .int 8, .int 333]) = H3
      intro d4 hp
      refine ⟨_, rfl, b, c, 3, rfl, d4.bag, by decide, by decide, fun v5 H5 l5 u5 d5 => ?_⟩
      obtain ⟨m, em, hm⟩ : ∃ m : Int, atI [V.int 8, V.int 8, V.int 333] v5 = some (.int m) ∧ (m = 8 ∨ m = 333) := by
        have c3 : v5 = 0 ∨ v5 = 1 ∨ v5 = 2 := by omega
        rcases c3 with rfl | rfl | rfl
        · exact ⟨8, rfl, .inl rfl⟩
        · exact ⟨8, rfl, .inl rfl⟩
        · exact ⟨333, rfl, .inr rfl⟩
      refine ⟨p, _, _, _, rfl, rfl, sq_new (d5.but _ _ (d3.bag.ne np) hp), em, ?_⟩
      have d6 := d4.trans d5
      refine ⟨_, rfl, _, rfl, b, c, m, rfl, d6.bag, by omega, by omega, fun l6 H6 a6 b6 z6 d7 => ?_⟩
      have d8 := d6.trans d7
      refine ⟨_, rfl, _, rfl, (by show 2 ≤ sizeLine; decide), fun r nr => ?_⟩
      have d9 := d8.new (o := .lst [.int 8, .int 3]) nr
      obtain ⟨k, ek, hk⟩ : ∃ k : Int, atI [V.int 8, V.int 3] (if decide (8 < m) then 1 else 0) = some (.int k) ∧ ((m = 8 ∧ k = 8) ∨ (m = 333 ∧ k = 3)) := by
        rcases hm with rfl | rfl
        · exact ⟨8, rfl, .inl ⟨rfl, rfl⟩⟩
        · exact ⟨3, rfl, .inr ⟨rfl, rfl⟩⟩
      refine ⟨_, rfl, _, _, rfl, rfl, .inr ⟨_, rfl, r, _, _, _, rfl, rfl, sq_new upd_same, ek, b, c, k, rfl, d9.bag, by omega, lg (by omega) (by omega), fun v9 H9 l9 u9 d10 => ?_⟩⟩
      have hl6 : (l6.length : Int) * (1 + v9) ≤ 999 := by
        rcases hk with ⟨rfl, rfl⟩ | ⟨rfl, rfl⟩
        · have h1 : (l6.length : Int) * (1 + v9) ≤ 8 * 8 := Int.mul_le_mul b6 (by omega) (by omega) (by omega)
          omega
        · have h1 : (l6.length : Int) * (1 + v9) ≤ 333 * 3 := Int.mul_le_mul b6 (by omega) (by omega) (by omega)
          omega
      have hrep : (List.replicate (1 + v9).toNat l6).flatten.length ≤ 999 := by
        rw [rep_len]
        have h1 : (((1 + v9).toNat * l6.length : Nat) : Int) = (l6.length : Int) * (1 + v9) := by rw [Int.natCast_mul, Int.toNat_of_nonneg (by omega), Int.mul_comm]
        omega
      have hrep1 : 1 ≤ (List.replicate (1 + v9).toNat l6).flatten.length := by
        rw [rep_len]
        exact Nat.mul_pos (by omega) (by omega)
      refine ⟨_, _, rfl, rfl, _, _, rfl, rfl, by omega, by omega, ?_, _, rfl, _, _, _, rfl, rfl, len_le (by omega), at_nat (j := 0) rfl (List.getElem?_eq_getElem (by omega)), _, _, rfl, rfl, ?_, ?_⟩
      · rw [Nat.mul_comm, ← rep_len]
        exact len_le (by omega)
      · rw [List.length_singleton]
        exact len_le (by omega)
      · refine ⟨_, _, _, rfl, ?_, ?_, ?_, d9.trans d10⟩
        · rw [List.length_append, List.length_singleton]
          omega
        · rw [List.length_append, List.length_singleton]
          omega
        · exact (z6.rep _).app fun c m => by
            rw [List.mem_singleton.mp m]
            exact z6 _ (List.getElem_mem _)
    · exact ⟨l1, none, none, rfl, a1, by omega, a3, d3⟩
  rintro σ' H' ⟨l, v3, v4, rfl, hl1, hl2, hz, d2⟩
  refine ⟨fun σ' H' => ∃ (l : List Nat) (v3 v4 v5 : Option V), σ' = [some (.ref b), some (tx l), v3, v4, v5] ∧ 2 ≤ l.length ∧ l.length ≤ 1000 ∧ AZ l ∧ Drew b c H H', ?_, ?_⟩
  · refine ⟨_, rfl, b, c, 4, rfl, d2.bag, by decide, by decide, fun v1 H2 l2 u2 d3 => ?_⟩
    have d4 := d2.trans d3
    refine ⟨_, _, rfl, rfl, _, rfl, ite2 (fun _ => ?_) (fun _ => ?_)⟩
    · refine ⟨_, rfl, _, rfl, _, rfl, len_le (by omega), b, c, _, rfl, d4.bag, by omega, lg (by omega) (by omega), fun v5 H5 l5 u5 d5 => ?_⟩
      refine ⟨_, rfl, _, rfl, _, rfl, _, rfl, len_le (by omega), _, rfl, b, c, 3, rfl, d5.bag, by decide, by decide, fun v6 H6 l6 u6 d6 => ?_⟩
      obtain ⟨x, ex, hx⟩ : ∃ x, atI ([97, 98, 122] : List Nat) v6 = some x ∧ 97 ≤ x ∧ x ≤ 122 := by
        have c3 : v6 = 0 ∨ v6 = 1 ∨ v6 = 2 := by omega
        rcases c3 with rfl | rfl | rfl
        · exact ⟨97, rfl, by decide, by decide⟩
        · exact ⟨98, rfl, by decide, by decide⟩
        · exact ⟨122, rfl, by decide, by decide⟩
      have h5 : (cut l none (some v5)).length = v5.toNat := by
        rw [cut_toI _ l5, List.length_take]
        omega
      have h6 : (cut l (some (v5 + 1)) none).length = l.length - (v5.toNat + 1) := by
        rw [cut_fromI _ (by omega), List.length_drop]
        omega
      refine ⟨_, _, _, rfl, rfl, (by show 3 ≤ sizeLine; decide), ex, _, _, rfl, rfl, ?_, _, rfl, _, rfl, _, _, rfl, rfl, _, rfl, _, rfl, len_le (by omega), _, _, rfl, rfl, ?_, ?_⟩
      · rw [List.length_singleton]
        exact len_le (by omega)
      · rw [List.length_append, List.length_singleton]
        exact len_le (by omega)
      · refine ⟨_, v3, v4, _, rfl, ?_, ?_, ?_, (d4.trans d5).trans d6⟩
        · rw [List.length_append, List.length_append, List.length_singleton]
          omega
        · rw [List.length_append, List.length_append, List.length_singleton]
          omega
        · refine (AZ.app ?_ ?_).app ?_
          · rw [cut_toI _ l5]
            exact hz.take _
          · intro c m
            rw [List.mem_singleton.mp m]
            exact hx
          · rw [cut_fromI _ (by omega)]
            exact hz.drop _
    · exact ⟨l, v3, v4, none, rfl, hl1, hl2, hz, d4⟩
  rintro σ' H' ⟨l, v3, v4, v5, rfl, hl1, hl2, hz, d3⟩
  exact ⟨_, rfl, q l H' hl1 hl2 hz d3⟩
end

/-! ### joint_step -/
theorem sc_joint_step : FnScope ["row", "last", "distance"] ["row"] (defScope s_joint_step) := ⟨rfl, rfl, rfl, by decide +kernel, rfl, by decide +kernel, by decide +kernel⟩
theorem drop_take_iff {l : List Nat} {s : Nat} (h1 : 1 ≤ s) (hs : s < l.length) : l.drop s = l.take (l.length - s) ↔ ∀ i, i + s < l.length → l[i]? = l[i + s]? := by
  constructor
  · intro h i hi
    have e : (l.drop s)[i]? = (l.take (l.length - s))[i]? := by rw [h]
    rw [List.getElem?_drop, List.getElem?_take_of_lt (by omega), Nat.add_comm s i] at e
    exact e.symm
  · intro h
    apply List.ext_getElem?
    intro i
    rw [List.getElem?_drop]
    by_cases c : i + s < l.length
    · rw [List.getElem?_take_of_lt (by omega), h i c, Nat.add_comm]
    · rw [List.getElem?_eq_none (by omega), List.getElem?_take_eq_none (by omega)]
def spJointStep : Sp := fun vs H Q _ => ∃ l : List Nat, vs = [tx l] ∧ 2 ≤ l.length ∧ l.length ≤ 1000000 ∧ (∀ s : Nat, IsStep l s → Q (.int (s : Int)) H) ∧ ((∀ g, ¬ JPer l g) → Q .non H)
section
variable {P : Program} {w : World} {K : PySem.W.Frag} {mg : Str → Option Value} {base : Heap}
theorem ok_joint_step (D : Def K mg "joint_step" s_joint_step) (B : Blt mg) : Dfn P w K mg base CX0 1 "joint_step" spJointStep := by
  refine def_ok D sc_joint_step (fun _ _ _ _ _ _ us hl => match us, hl with | [_], _ => rfl) (fun vs H Q E h => ?_) (fun cdv A fr s H vs Q E f hr h => ?_)
  · obtain ⟨l, rfl, _⟩ := h
    rfl
  obtain ⟨l, rfl, hl1, hl2, q1, q2⟩ := h
  refine ⟨_, (pss_cons (ps_set (i := 1) sc_joint_step.nd rfl (Or.inl rfl) (pe_op op_sub (pe_callB call_lenT (by rfl) B.len (by decide +kernel) (pa_cons (pv 0) pa_nil)) pe_int))
      (pss_cons (ps_for PassesOwn.never rfl (pi_range2 (by rfl) B.range (pa_cons pe_int (pa_cons (pe_op op_add (pv 1) pe_int) pa_nil))) (pg_name (i := 2) sc_joint_step.nd rfl (Or.inl rfl))
        (pss_one (ps_if (PW.pt (pw_and (pt_cmpR op_eqI (pe_op op_mod (pv 1) (pv 2)) pe_int (nomark _)) (pw_and1 (pt_cmpR op_eqT (pe_slice sl_tx (pv 0) (po_some (pv 2)) po_none) (pe_slice sl_tx (pv 0) po_none (po_some (pe_op op_sub (pe_op op_add (pv 1) pe_int) (pv 2)))) (nomark _)))))
          (pss_one (ps_ret (pv 2)))
          pss_nil)))
      (pss_one (ps_ret pe_non)))), ?_⟩
  refine ⟨_, rfl, _, rfl, len_le (by omega), _, _, rfl, rfl, ?_⟩
  refine ⟨_, rfl, _, _, rfl, rfl, _, _, rfl, ⟨by decide, by decide, by omega, by omega⟩, for_range (lo := 1) (n := ((l.length : Int) - 1 + 1 - 1).toNat) (fun i σ' H' => ∃ v2 : Option V, σ' = [some (tx l), some (.int ((l.length : Int) - 1)), v2] ∧ H' = H ∧ ∀ g, JPer l g → 1 + i ≤ g) ⟨none, rfl, rfl, fun g G => by have := G.pos; omega⟩ (fun i σ' H' hi z => ?_) (fun σ' H' z => ?_)⟩
  · obtain ⟨v2, rfl, eH, hg⟩ := z
    subst eH
    have e1 : ((l.length : Int) - 1) % (1 + (i : Int)) = (((l.length - 1) % (1 + i) : Nat) : Int) := by
      have : ((l.length : Int) - 1) = ((l.length - 1 : Nat) : Int) := by omega
      rw [this, show (1 + (i : Int)) = ((1 + i : Nat) : Int) by omega]
      exact (Int.natCast_emod _ _).symm
    refine ⟨_, rfl, _, rfl, _, _, rfl, rfl, (by show (0 : Int) < 1 + (i : Int); omega), _, _, rfl, rfl, _, rfl, ite2 (fun h1 => ?_) (fun h1 => iteF ?_)⟩
    · have h1' : (l.length - 1) % (1 + i) = 0 := by
        have z : ((l.length : Int) - 1) % (1 + (i : Int)) = 0 := of_decide_eq_true h1
        rw [e1] at z
        omega
      have dv := Nat.dvd_of_mod_eq_zero h1'
      refine ⟨_, rfl, _, rfl, _, rfl, _, rfl, len_le (by omega), _, rfl, _, rfl, _, _, rfl, rfl, _, rfl, _, _, rfl, rfl, _, rfl, _, rfl, len_le (by omega), _, _, rfl, rfl, _, rfl, ?_⟩
      rw [cut_fromI _ (by omega), cut_toI _ (by omega), show (1 + (i : Int)).toNat = 1 + i by omega, show ((l.length : Int) - 1 + 1 - (1 + (i : Int))).toNat = l.length - (1 + i) by omega]
      refine ite2 (fun h2 => ?_) (fun h2 => ?_)
      · have h2' := (drop_take_iff (by omega) (by omega)).mp (of_decide_eq_true h2)
        have J : JPer l (1 + i) := ⟨by omega, dv, h2'⟩
        have := q1 (1 + i) ⟨J, hg⟩
        exact ⟨_, rfl, by rw [show (1 + (i : Int)) = ((1 + i : Nat) : Int) by omega]; exact this⟩
      · refine ⟨_, rfl, rfl, fun g G => ?_⟩
        have a := hg g G
        by_cases c : g = 1 + i
        · subst c
          exact (h2 (decide_eq_true ((drop_take_iff (by omega) (by omega)).mpr G.eq))).elim
        · omega
    · refine ⟨_, rfl, rfl, fun g G => ?_⟩
      have a := hg g G
      by_cases c : g = 1 + i
      · subst c
        refine (h1 (decide_eq_true ?_)).elim
        rw [e1, Nat.mod_eq_zero_of_dvd G.dvd]
        rfl
      · omega
  · obtain ⟨v2, rfl, eH, hg⟩ := z
    subst eH
    refine q2 fun g G => ?_
    have a := hg g G
    have b := Nat.le_of_dvd (by omega) G.dvd
    omega
end

/-! ### joints -/
theorem sc_joints : FnScope ["row", "distance"] ["row"] (defScope s_joints) := ⟨rfl, rfl, rfl, by decide +kernel, rfl, by decide +kernel, by decide +kernel⟩
/-- the places that s divides -/
def joint (l : List Nat) (s : Nat) : List Nat := (List.range ((l.length - 1) / s + 1)).map (· * s)
theorem mem_joint {l : List Nat} {s : Nat} (S : JPer l s) (hl : 1 ≤ l.length) {p : Nat} : p ∈ joint l s ↔ p < l.length ∧ s ∣ p := by
  unfold joint
  rw [List.mem_map]
  have hs := S.pos
  constructor
  · rintro ⟨k, hk, rfl⟩
    rw [List.mem_range] at hk
    refine ⟨?_, Nat.dvd_mul_left _ _⟩
    have h1 : k * s ≤ (l.length - 1) / s * s := Nat.mul_le_mul_right _ (by omega)
    have h2 := Nat.div_mul_le_self (l.length - 1) s
    omega
  · rintro ⟨h1, k, rfl⟩
    refine ⟨k, ?_, Nat.mul_comm _ _⟩
    rw [List.mem_range]
    have h2 : k ≤ (l.length - 1) / s := by
      rw [Nat.le_div_iff_mul_le hs, Nat.mul_comm]
      omega
    omega
theorem joint_sorted {l : List Nat} {s : Nat} (hs : 1 ≤ s) : (joint l s).Pairwise (· < ·) := by
  unfold joint
  rw [List.pairwise_map]
  refine List.Pairwise.imp (fun {a b} h => ?_) List.pairwise_lt_range
  exact Nat.mul_lt_mul_of_pos_right h hs
theorem joint_ints (l : List Nat) (s : Nat) : (List.range ((l.length - 1) / s + 1)).map (fun k => V.int (0 + (k : Nat) * (s : Int))) = (joint l s).map fun n : Nat => V.int (n : Int) := by
  unfold joint
  rw [List.map_map]
  apply List.map_congr_left
  intro k _
  show V.int (0 + (k : Int) * (s : Int)) = V.int ((k * s : Nat) : Int)
  rw [Int.zero_add, Int.natCast_mul]
theorem fits_up {i : Int} (h : 0 ≤ i) (k : i ≤ 1000000000) : Builtin.Range.rangeFitsLong i = true := by
  unfold Builtin.Range.rangeFitsLong
  rw [Bool.and_eq_true, decide_eq_true_eq, decide_eq_true_eq]
  omega
theorem small_up {n s : Nat} (hn : n ≤ 1000000) (hs : s ≤ 1000000) (h1 : 1 ≤ s) : Builtin.Range.small 0 (n : Int) (s : Int) = true := by
  have e : 0 ≤ Builtin.Range.rangeSize 0 (n : Int) (s : Int) ∧ Builtin.Range.rangeSize 0 (n : Int) (s : Int) ≤ 1000000000 := by
    unfold Builtin.Range.rangeSize
    rw [if_pos (by omega)]
    split
    · rw [show ((n : Int) - 0 - 1) = ((n - 1 : Nat) : Int) by omega]
      have h2 := Nat.div_le_self (n - 1) s
      rw [← Int.natCast_ediv]
      generalize (n - 1) / s = q at h2 ⊢
      omega
    · omega
  unfold Builtin.Range.small
  simp only [fits_up (i := 0) (by omega) (by omega), fits_up (i := (n : Int)) (by omega) (by omega), fits_up (i := (s : Int)) (by omega) (by omega), fits_up e.1 e.2, Bool.and_true, Bool.true_and, Bool.or_eq_true]
  right
  rw [if_pos (by omega)]
  exact fits_up (by omega) (by omega)
/-- cm: the joints of l -/
def JointsOf (l cm : List Nat) : Prop := (∃ s, IsStep l s ∧ cm = joint l s) ∨ ((∀ g, ¬ JPer l g) ∧ cm = [])
def spJoints : Sp := fun vs H Q _ => ∃ l : List Nat, vs = [tx l] ∧ 2 ≤ l.length ∧ l.length ≤ 1000000 ∧ ∀ (cm : List Nat) (p : Addr), JointsOf l cm → H p = none → Q (.ref p) (upd H p (.lst (nums cm)))
section
variable {P : Program} {w : World} {K : PySem.W.Frag} {mg : Str → Option Value} {base : Heap}
theorem ok_joints (D : Def K mg "joints" s_joints) (B : Blt mg) (c_joint_step : Dfn P w K mg base CX0 1 "joint_step" spJointStep) : Dfn P w K mg base CX0 2 "joints" spJoints := by
  refine def_ok D sc_joints (fun _ _ _ _ _ _ us hl => match us, hl with | [_], _ => rfl) (fun vs H Q E h => ?_) (fun cdv A fr s H vs Q E f hr h => ?_)
  · obtain ⟨l, rfl, _⟩ := h
    rfl
  obtain ⟨l, rfl, hl1, hl2, q⟩ := h
  refine ⟨_, (pss_cons (ps_set (i := 1) sc_joints.nd rfl (Or.inl rfl) (pe_d c_joint_step hr (pa_cons (pv 0) pa_nil)))
      (pss_cons (ps_if (pt_cmpR op_isN (pv 1) pe_non (nomark _))
        (pss_one (ps_ret (pe_lst pa_nil)))
        pss_nil)
      (pss_one (ps_ret (pe_listRg3 (by rfl) B.list (by rfl) B.range rfl (pa_cons pe_int (pa_cons (pe_callB call_lenT (by rfl) B.len (by decide +kernel) (pa_cons (pv 0) pa_nil)) (pa_cons (pv 1) pa_nil)))))))), ?_⟩
  refine ⟨_, rfl, l, rfl, hl1, hl2, fun s S => ?_, fun S => ?_⟩
  · have hs := S.1.pos
    have hle := Nat.le_of_dvd (by omega) S.1.dvd
    refine ⟨_, rfl, rfl, _, rfl, iteF ?_⟩
    refine ⟨_, rfl, _, rfl, len_le (by omega), _, rfl, _, _, _, ((l.length - 1) / s + 1), rfl, ⟨by omega, by omega, small_up hl2 (by omega) hs, ?_⟩, ?_, fun p np => ?_⟩
    · unfold Builtin.Range.rangeSize
      rw [if_pos (by omega), if_pos (by omega)]
      have : ((l.length : Int) - 0 - 1) = ((l.length - 1 : Nat) : Int) := by omega
      rw [this]
      push_cast
      rfl
    · have := Nat.div_le_self (l.length - 1) s
      omega
    · have := q _ p (.inl ⟨s, S, rfl⟩) np
      unfold nums at this
      rw [← joint_ints] at this
      exact this
  · refine ⟨_, rfl, rfl, _, rfl, iteT ?_⟩
    exact ⟨Nat.zero_le _, fun p np => q [] p (.inr ⟨S, rfl⟩) np⟩
end

/-! ### classes -/
theorem sc_classes : FnScope ["row", "common", "found", "place"] ["row"] (defScope s_classes) := ⟨rfl, rfl, rfl, by decide +kernel, rfl, by decide +kernel, by decide +kernel⟩
/-- the rows of one place each -/
def ones (ps : List Nat) : List (List Nat) := ps.map fun p => [p]
theorem classes_perm {l : List Nat} {s : Nat} (S : IsStep l s) (hl : 2 ≤ l.length) :
    (ones ((List.range l.length).filter fun p => !decide (p ∈ joint l s)) ++ [joint l s]).Perm (grps (mkRow l) l.length) := by
  have mj := fun p => mem_joint S.1 (show 1 ≤ l.length by omega) (p := p)
  have key : ∀ p, p < l.length → same (mkRow l) l.length (mkRow l p) = if s ∣ p then joint l s else [p] := by
    intro p hp
    have so : (same (mkRow l) l.length (mkRow l p)).Pairwise (· < ·) := List.pairwise_lt_range.filter _
    have so2 : (if s ∣ p then joint l s else [p]).Pairwise (· < ·) := by
      split
      · exact joint_sorted S.1.pos
      · exact List.pairwise_singleton _ _
    refine List.Perm.eq_of_pairwise (le := fun a b => a < b) (fun a b _ _ h1 h2 => by omega) so so2 ((List.perm_ext_iff_of_nodup (so.imp fun h => by omega) (so2.imp fun h => by omega)).mpr fun q => ?_)
    rw [mem_same]
    split
    · rename_i d
      rw [mj]
      constructor
      · rintro ⟨hq, e⟩
        rcases (same_iff S hq hp).mp e with rfl | ⟨d2, _⟩
        · exact ⟨hq, d⟩
        · exact ⟨hq, d2⟩
      · rintro ⟨hq, d2⟩
        exact ⟨hq, (same_iff S hq hp).mpr (.inr ⟨d2, d⟩)⟩
    · rename_i d
      rw [List.mem_singleton]
      constructor
      · rintro ⟨hq, e⟩
        rcases (same_iff S hq hp).mp e with e | ⟨_, d2⟩
        · exact e
        · exact (d d2).elim
      · rintro rfl
        exact ⟨hp, rfl⟩
  refine (List.perm_ext_iff_of_nodup ?_ (grps_nodup _ _)).mpr fun g => ?_
  · rw [List.nodup_append]
    refine ⟨?_, by simp, fun a ha b hb e => ?_⟩
    · unfold ones List.Nodup
      rw [List.pairwise_map]
      refine List.Pairwise.imp (fun {a b} h e => ?_) ((List.pairwise_lt_range (n := l.length)).filter _)
      have : a = b := by simpa using e
      omega
    · rw [List.mem_singleton] at hb
      obtain ⟨q, hq, rfl⟩ := List.mem_map.mp ha
      obtain ⟨_, hq2⟩ := List.mem_filter.mp hq
      have : q ∈ joint l s := by rw [← hb, ← e]; exact List.mem_singleton.mpr rfl
      simp [this] at hq2
  · rw [grps_mem, List.mem_append, List.mem_singleton]
    constructor
    · rintro (h | h)
      · obtain ⟨q, hq, rfl⟩ := List.mem_map.mp h
        obtain ⟨q1, q2⟩ := List.mem_filter.mp hq
        rw [List.mem_range] at q1
        refine ⟨q, q1, ?_⟩
        rw [key q q1, if_neg]
        intro d
        have : q ∈ joint l s := (mj q).mpr ⟨q1, d⟩
        simp [this] at q2
      · refine ⟨0, by omega, ?_⟩
        rw [key 0 (by omega), if_pos (Nat.dvd_zero _), h]
    · rintro ⟨p, hp, rfl⟩
      rw [key p hp]
      split
      · exact .inr rfl
      · rename_i d
        refine .inl (List.mem_map.mpr ⟨p, List.mem_filter.mpr ⟨List.mem_range.mpr hp, ?_⟩, rfl⟩)
        have : ¬ p ∈ joint l s := fun h => d ((mj p).mp h).2
        simp [this]
theorem classes_perm0 {l : List Nat} (S : ∀ g, ¬ JPer l g) : (ones ((List.range l.length).filter fun p => !decide (p ∈ ([] : List Nat)))).Perm (grps (mkRow l) l.length) := by
  have key : ∀ p, p < l.length → same (mkRow l) l.length (mkRow l p) = [p] := by
    intro p hp
    have so : (same (mkRow l) l.length (mkRow l p)).Pairwise (· < ·) := List.pairwise_lt_range.filter _
    refine List.Perm.eq_of_pairwise (le := fun a b => a < b) (fun a b _ _ h1 h2 => by omega) so (List.pairwise_singleton _ _) ((List.perm_ext_iff_of_nodup (so.imp fun h => by omega) (by simp)).mpr fun q => ?_)
    rw [mem_same, List.mem_singleton]
    constructor
    · rintro ⟨hq, e⟩
      exact (same_iff0 S hq hp).mp e
    · rintro rfl
      exact ⟨hp, rfl⟩
  have ef : ((List.range l.length).filter fun p => !decide (p ∈ ([] : List Nat))) = List.range l.length := List.filter_eq_self.mpr fun p _ => by simp
  rw [ef]
  refine (List.perm_ext_iff_of_nodup ?_ (grps_nodup _ _)).mpr fun g => ?_
  · unfold ones List.Nodup
    rw [List.pairwise_map]
    refine List.Pairwise.imp (fun {a b} h e => ?_) (List.pairwise_lt_range (n := l.length))
    have : a = b := by simpa using e
    omega
  · rw [grps_mem]
    constructor
    · intro h
      obtain ⟨q, hq, rfl⟩ := List.mem_map.mp h
      rw [List.mem_range] at hq
      exact ⟨q, hq, (key q hq).symm⟩
    · rintro ⟨p, hp, rfl⟩
      rw [key p hp]
      exact List.mem_map.mpr ⟨p, List.mem_range.mpr hp, rfl⟩
theorem tot_ones (ps : List Nat) : tot (ones ps) = ps.length := by
  unfold tot ones
  rw [List.map_map]
  induction ps with
  | nil => rfl
  | cons p ps ih => rw [List.map_cons, List.sum_cons, ih, List.length_cons]; show 1 + _ = _; omega
theorem tot_app (a b : List (List Nat)) : tot (a ++ b) = tot a + tot b := by
  unfold tot
  rw [List.map_append, List.sum_append]
theorem joint_len {l : List Nat} {s : Nat} (hl : 1 ≤ l.length) : (joint l s).length ≤ l.length := by
  unfold joint
  rw [List.length_map, List.length_range]
  have := Nat.div_le_self (l.length - 1) s
  omega
def spClasses : Sp := fun vs H Q _ => ∃ l : List Nat, vs = [tx l] ∧ 2 ≤ l.length ∧ l.length ≤ 1000000 ∧ ∀ (p : Addr) (bs : List (Addr × List Nat)) (H' : Hp), Same H H' → H p = none → H' p = some (.lst (refs bs)) →
  (∀ b ∈ bs, H b.1 = none ∧ b.1 ≠ p ∧ RowAt H' b) → bs.map (·.2) = (grps (mkRow l) l.length).mergeSort leR → tot (bs.map (·.2)) ≤ 2 * l.length → Q (.ref p) H'
section
variable {P : Program} {w : World} {K : PySem.W.Frag} {mg : Str → Option Value} {base : Heap}
theorem ok_classes (D : Def K mg "classes" s_classes) (B : Blt mg) (c_joints : Dfn P w K mg base CX0 2 "joints" spJoints) : Dfn P w K mg base CX0 3 "classes" spClasses := by
  refine def_ok D sc_classes (fun _ _ _ _ _ _ us hl => match us, hl with | [_], _ => rfl) (fun vs H Q E h => ?_) (fun cdv A fr s H vs Q E f hr h => ?_)
  · obtain ⟨l, rfl, _⟩ := h
    rfl
  obtain ⟨l, rfl, hl1, hl2, q⟩ := h
  refine ⟨_, (pss_cons (ps_set (i := 1) sc_classes.nd rfl (Or.inr rfl) (pe_d c_joints hr (pa_cons (pv 0) pa_nil)))
      (pss_cons (ps_setLc (i := 2) (own := [("place", 3)]) (g := gName 3) rfl sc_classes.nd rfl rfl (sw_true rfl rfl rfl (by decide +kernel)) (pi_range1 rfl B.range (pa_cons (pe_callB call_lenT (by rfl) B.len (by decide +kernel) (pa_cons (pv 0) pa_nil)) pa_nil)) (blkOk_by (own := [("place", 3)]) (N := ["row", "common", "found", "place"]) (sc := defScope s_classes) (by decide +kernel)) (fun _ _ _ _ _ => (pg_name (i := 3) sc_classes.nd rfl (Or.inl rfl))) (fun _ _ _ _ _ => pts_one (pt_cmpR op_notInN (pv 3) (pv 1) (by rfl))) (fun _ _ _ _ _ => (pe_lst (pa_cons (pv 3) pa_nil))))
      (Evl.pss_cut (ps_if (pt_cmpR (op_neD hr.units) (pv 1) (pe_lst pa_nil) (nomark _))
        (pss_one (ps_expr (pe_bm PySem.F.plainAttrs_list PySem.F.slot_list_append PySem.F.type_list_append mt_append (pv 2) (pa_cons (pv 1) pa_nil))))
        pss_nil)
      (pss_one (ps_ret (pe_callB (cr_sortedR hr) (by rfl) B.sorted (by decide +kernel) (pa_cons (pv 2) pa_nil))))))), ?_⟩
  refine ⟨_, rfl, l, rfl, hl1, hl2, fun cm pc hj np => ?_⟩
  have hcm : cm.length ≤ l.length := by
    rcases hj with ⟨s, S, rfl⟩ | ⟨_, rfl⟩
    · exact joint_len (by omega)
    · exact Nat.zero_le _
  have hp : (ones ((List.range l.length).filter fun p => !decide (p ∈ cm)) ++ (if cm = [] then [] else [cm])).Perm (grps (mkRow l) l.length) := by
    rcases hj with ⟨s, S, rfl⟩ | ⟨S, rfl⟩
    · have ne : joint l s ≠ [] := fun e => by
        have := (mem_joint S.1 (show 1 ≤ l.length by omega)).mpr ⟨show 0 < l.length by omega, Nat.dvd_zero _⟩
        rw [e] at this
        cases this
      rw [if_neg ne]
      exact classes_perm S hl1
    · rw [if_pos rfl, List.append_nil]
      exact classes_perm0 S
  have sH := Same.new (o := .lst (nums cm)) np
  refine ⟨_, rfl, _, rfl, len_le (by omega), _, rfl, by omega, by omega, fun D nD => ?_⟩
  refine lc_range (lo := 0) (n := (l.length : Int).toNat) (fun i H' => ∃ bs : List (Addr × List Nat), H' D = some (.lst (refs bs)) ∧ bs.map (·.2) = ones ((List.range i).filter fun p => !decide (p ∈ cm)) ∧
    (∀ b ∈ bs, H b.1 = none ∧ b.1 ≠ D ∧ b.1 ≠ pc ∧ RowAt H' b) ∧ Same (upd H pc (.lst (nums cm))) H') ⟨[], upd_same, rfl, (fun b m => by cases m), .new nD⟩ (fun i H' hi z => ?_) (fun H' z => ?_)
  · obtain ⟨bs, hD, hb, hr9, hs⟩ := z
    have hbl : bs.length ≤ i := by
      have : (bs.map (·.2)).length = ((List.range i).filter fun p => !decide (p ∈ cm)).length := by rw [hb]; unfold ones; rw [List.length_map]
      rw [List.length_map] at this
      rw [this]
      exact Nat.le_trans (List.length_filter_le _ _) (by rw [List.length_range]; exact Nat.le_refl _)
    have er : List.range (i + 1) = List.range i ++ [i] := List.range_succ
    refine ⟨rfl, _, rfl, _, rfl, pc, i, cm, (by rw [Int.zero_add]), rfl, sq_new (hs _ _ upd_same), _, rfl, ite2 (fun h => ?_) (fun h => ?_)⟩
    · have hm : ¬ i ∈ cm := by simpa using h
      refine ⟨_, rfl, len_le (show 1 ≤ 16777216 by decide), fun pl nl => ?_⟩
      have nD' : pl ≠ D := (ne_of_none hD nl).symm
      have nH : H pl = none := L2.Same.free sH (L2.Same.free hs nl)
      have npc : pl ≠ pc := (ne_of_none (hs _ _ upd_same) nl).symm
      refine ⟨refs bs, by rw [upd_ne (Ne.symm nD')]; exact hD, by rw [refs_len]; exact len_lt (by omega), bs ++ [(pl, [i])], ?_, ?_, ?_, ?_⟩
      · rw [upd_same]
        unfold refs
        rw [List.map_append]
        rfl
      · rw [List.map_append, hb, er, List.filter_append]
        unfold ones
        rw [List.map_append]
        simp [hm]
      · intro b mb
        rcases List.mem_append.mp mb with mb | mb
        · obtain ⟨a1, a2, a3, a4⟩ := hr9 b mb
          refine ⟨a1, a2, a3, ?_⟩
          show upd _ _ _ _ = _
          rw [upd_ne a2, upd_ne (ne_of_none a4 nl)]
          exact a4
        · rw [List.mem_singleton] at mb
          subst mb
          refine ⟨nH, nD', npc, ?_⟩
          show upd _ _ _ _ = _
          rw [upd_ne nD', upd_same]
          simp [nums]
      · intro a o e
        have e2 := hs a o e
        rw [upd_ne (ne_of_none e nD), upd_ne (ne_of_none e2 nl)]
        exact e2
    · have hm : i ∈ cm := by simpa using h
      refine ⟨bs, hD, ?_, hr9, hs⟩
      rw [hb, er, List.filter_append]
      simp [hm]
  · obtain ⟨bs, hD, hb, hr9, hs⟩ := z
    have nDH : H D = none := L2.Same.free sH nD
    have npcD : pc ≠ D := ne_of_none upd_same nD
    rw [show (l.length : Int).toNat = l.length by omega] at hb
    have hbl : bs.length ≤ l.length := by
      have : (bs.map (·.2)).length = ((List.range l.length).filter fun p => !decide (p ∈ cm)).length := by rw [hb]; unfold ones; rw [List.length_map]
      rw [List.length_map] at this
      rw [this]
      exact Nat.le_trans (List.length_filter_le _ _) (by rw [List.length_range]; exact Nat.le_refl _)
    have e1 := hs _ _ upd_same
    have sHH := sH.trans hs
    refine ⟨fun σ' H3 => ∃ v3 : Option V, σ' = [some (tx l), some (.ref pc), some (.ref D), v3] ∧ ∃ bs : List (Addr × List Nat), H3 D = some (.lst (refs bs)) ∧ (bs.map (·.2)).Perm (grps (mkRow l) l.length) ∧ tot (bs.map (·.2)) ≤ 2 * l.length ∧
      (∀ b ∈ bs, H b.1 = none ∧ b.1 ≠ D ∧ RowAt H3 b) ∧ Same H H3, ?_, ?_⟩
    · refine ⟨_, rfl, by decide, fun pl nl => ?_⟩
      have e2 : upd H' pl (.lst []) pc = some (.lst (nums cm)) := by rw [upd_ne (ne_of_none e1 nl)]; exact e1
      refine ⟨encR cm, .list [], dp_row (sq_new e2), .lst (sq_new upd_same) .nil, ?_, ?_, _, rfl, ite2 (fun h => ?_) (fun h => ?_)⟩
      · exact shaped_row cm
      · rfl
      · have ne : cm ≠ [] := fun e => by
          rw [e] at h
          exact absurd h (by decide)
        rw [if_neg ne] at hp
        refine ⟨_, rfl, .inl ⟨rfl, refs bs, sq_new (by rw [upd_ne (ne_of_none hD nl)]; exact hD)⟩, _, rfl, D, refs bs, .ref pc, rfl, rfl, ?_, by rw [refs_len]; exact len_lt (by omega), ?_⟩
        · rw [upd_ne (ne_of_none hD nl)]
          exact hD
        · refine ⟨_, rfl, bs ++ [(pc, cm)], ?_, ?_, ?_, ?_, ?_⟩
          · rw [upd_same]
            unfold refs
            rw [List.map_append]
            rfl
          · rw [List.map_append, hb]
            exact hp
          · rw [List.map_append, tot_app, hb, tot_ones]
            have : tot ([(pc, cm)].map (·.2)) = cm.length := by unfold tot; simp
            rw [this]
            have := Nat.le_trans (List.length_filter_le (fun p => !decide (p ∈ cm)) (List.range l.length)) (by rw [List.length_range]; exact Nat.le_refl _)
            omega
          · intro b mb
            rcases List.mem_append.mp mb with mb | mb
            · obtain ⟨a1, a2, a3, a4⟩ := hr9 b mb
              refine ⟨a1, a2, ?_⟩
              show upd _ _ _ _ = _
              rw [upd_ne a2, upd_ne (ne_of_none a4 nl)]
              exact a4
            · rw [List.mem_singleton] at mb
              subst mb
              refine ⟨np, npcD, ?_⟩
              show upd _ _ _ _ = _
              rw [upd_ne npcD]
              exact e2
          · intro a o e
            rw [upd_ne (ne_of_none e nDH), upd_ne (ne_of_none (sHH a o e) nl)]
            exact sHH a o e
      · have ee : cm = [] := by
          cases cm with
          | nil => rfl
          | cons x r => exact absurd h (by unfold encR; rw [PyData.eqv]; simp [PyData.eqvAll])
        rw [if_pos ee, List.append_nil] at hp
        refine ⟨_, rfl, bs, ?_, ?_, ?_, ?_, ?_⟩
        · rw [upd_ne (ne_of_none hD nl)]
          exact hD
        · rw [hb]
          exact hp
        · rw [hb, tot_ones]
          have := Nat.le_trans (List.length_filter_le (fun p => !decide (p ∈ cm)) (List.range l.length)) (by rw [List.length_range]; exact Nat.le_refl _)
          omega
        · intro b mb
          obtain ⟨a1, a2, a3, a4⟩ := hr9 b mb
          refine ⟨a1, a2, ?_⟩
          show upd _ _ _ _ = _
          rw [upd_ne (ne_of_none a4 nl)]
          exact a4
        · intro a o e
          rw [upd_ne (ne_of_none (sHH a o e) nl)]
          exact sHH a o e
    · rintro σ' H3 ⟨v3, rfl, bs, hD, hpm, ht, hr9, hs⟩
      refine ⟨_, rfl, D, bs, rfl, sq_new hD, fun b m => (hr9 b m).2.2, fun p np => ?_⟩
      refine q p (bs.mergeSort leB) _ (hs.trans (.new np)) (L2.Same.free hs np) upd_same (fun b m => ?_) ?_ ?_
      · obtain ⟨a1, a2, a3⟩ := hr9 b (mem_sortB.mp m)
        refine ⟨a1, ne_of_none a3 np, ?_⟩
        show upd _ _ _ _ = _
        rw [upd_ne (ne_of_none a3 np)]
        exact a3
      · rw [sortB_snd]
        exact sort_perm hpm
      · rw [sortB_snd, tot_perm (List.mergeSort_perm _ _)]
        exact ht
end

/-! ### _law_bag -/
theorem sc_law_bag : FnScope ["_law_script", "_law_cell"] ["_law_script"] (defScope s_law_bag) := ⟨rfl, rfl, rfl, by decide +kernel, rfl, by decide +kernel, by decide +kernel⟩
def spBag (K : PySem.W.Frag) : Sp := fun vs H Q _ => ∃ (a : Addr) (ns : List Int), vs = [.ref a] ∧ SqL K H a (ns.map V.int) ∧ ns.length ≤ 63 ∧ ∀ (b c : Addr) (H' : Hp), H b = none → H c = none → Bag H' b c → Same H H' → Q (.ref b) H'
section
variable {P : Program} {w : World} {K : PySem.W.Frag} {mg : Str → Option Value} {base : Heap}
theorem ok__law_bag (D : Def K mg "_law_bag" s_law_bag) (B : Blt mg) : Dfn P w K mg base CX0 1 "_law_bag" (spBag K) := by
  refine def_ok D sc_law_bag (fun _ _ _ _ _ _ us hl => match us, hl with | [_], _ => rfl) (fun vs H Q E h => ?_) (fun cdv A fr s H vs Q E f hr h => ?_)
  · obtain ⟨a, ns, rfl, _⟩ := h
    rfl
  obtain ⟨a, ns, rfl, hS, hlen, q⟩ := h
  refine ⟨_, (pss_one (ps_ret (pe_lst (pa_cons pe_int (pa_cons pe_int (pa_cons pe_int (pa_cons (pe_lc (own := [("_law_cell", 1)]) (g := gName 1) rfl sc_law_bag.nd (pi_list (pe_slice sl_list (pv 0) po_none (po_some pe_int))) (blkOk_by (own := [("_law_cell", 1)]) (N := ["_law_script", "_law_cell"]) (sc := defScope s_law_bag) (by decide +kernel)) (fun _ _ _ _ _ => (pg_name (i := 1) sc_law_bag.nd rfl (Or.inl rfl))) (fun _ _ _ _ _ => pts_nil) (fun _ _ _ _ _ => (pe_callB call_abs (by rfl) B.abs (by decide +kernel) (pa_cons (pv 1) pa_nil)))) pa_nil))))))), ?_⟩
  refine ⟨_, rfl, _, rfl, _, _, rfl, hS, fun p np => ?_⟩
  have ec : cutV (ns.map V.int) none (some (63 : Int)) = ns.map V.int := by
    rw [cutV_eq, cut_toI _ (by decide)]
    exact List.take_of_length_le (by rw [List.length_map]; exact hlen)
  rw [ec]
  have s1 : Same H (upd H p (.lst (ns.map V.int))) := .new np
  refine ⟨p, rfl, ⟨_, sq_new upd_same⟩, fun D nD => ?_⟩
  refine lc_list (xs := ns.map V.int) (fun i H' => Same (upd H p (.lst (ns.map V.int))) H' ∧ H' D = some (.lst (((ns.take i).map fun z => if z < 0 then -z else z).map V.int))) ⟨.new nD, upd_same⟩ (fun i H' _ z => sq_new (z.1 _ _ upd_same)) (fun i x H' hi z => ?_) (fun H' z => ?_)
  · obtain ⟨z1, z2⟩ := z
    obtain ⟨m, hm, rfl⟩ : ∃ m, ns[i]? = some m ∧ x = V.int m := by
      rw [List.getElem?_map] at hi
      cases e : ns[i]? with
      | none => rw [e] at hi; cases hi
      | some m =>
        rw [e] at hi
        exact ⟨m, rfl, (Option.some.inj hi).symm⟩
    refine ⟨rfl, yes ?_⟩
    refine ⟨_, rfl, _, rfl, _, z2, ?_, fun b o e => ?_, ?_⟩
    · rw [List.length_map, List.length_map, List.length_take]
      exact len_lt (by omega)
    · have nb : b ≠ D := ne_of_none e nD
      rw [upd_ne nb]
      exact z1 b o e
    · rw [upd_same, List.take_add_one, hm, List.map_append, List.map_append]
      rfl
  · obtain ⟨z1, z2⟩ := z
    have s2 : Same H H' := s1.trans z1
    refine ⟨(by show 4 ≤ sizeLine; decide), fun b nb => ?_⟩
    have ne : b ≠ D := (ne_of_none z2 nb).symm
    refine q b D _ (s2.free nb) (s1.free nD) ⟨(ns.map fun z => if z < 0 then -z else z), 0, 1234567891, 0, upd_same, ?_, by decide, by decide, by decide, by decide, fun z hz => ?_, ne⟩ (s2.trans (.new nb))
    · rw [upd_ne (Ne.symm ne), z2, List.length_map, List.take_length]
    · obtain ⟨y, _, rfl⟩ := List.mem_map.mp hz
      show 0 ≤ if y < 0 then -y else y
      split <;> omega
end

/-! ### _law_alike -/
theorem sc_law_alike : FnScope ["_law_found", "_law_due"] ["_law_found", "_law_due"] (defScope s_law_alike) := ⟨rfl, rfl, rfl, by decide +kernel, rfl, by decide +kernel, by decide +kernel⟩
def spAlike (K : PySem.W.Frag) : Sp := fun vs H Q _ => ∃ (x y : V) (d : PyData), vs = [x, y] ∧ Dp K H x d ∧ Dp K H y d ∧ Fit d ∧ Q (.bl true) H
section
variable {P : Program} {w : World} {K : PySem.W.Frag} {mg : Str → Option Value} {base : Heap} {CX : CXT}
theorem ok__law_alike (D : Def K mg "_law_alike" s_law_alike) (B : Blt mg) : DfnG P w K mg base CX 1 "_law_alike" (spAlike K) := by
  refine def_okG D sc_law_alike (fun _ _ _ _ _ _ us hl => match us, hl with | [_, _], _ => rfl) (fun vs H Q E h => ?_) (fun cdv A fr s H vs Q E f hr h => ?_)
  · obtain ⟨x, y, d, rfl, _⟩ := h
    rfl
  obtain ⟨x, y, d, rfl, h1, h2, hf, q⟩ := h
  have sh : SeqAt.shaped d = true := by
    unfold SeqAt.shaped
    rw [hf.lay, decide_eq_true (show d.depth ≤ 64 from Nat.le_trans hf.dep (by decide))]
    rfl
  refine ⟨_, (pss_one (ps_ret (pe_and (pe_cmpR (op_eqD hr.r.units) (pv 0) (pv 1) (nomark _)) (pe_one (pe_cmpR op_eqT (pe_callB (cr_repr hr) (by rfl) B.repr (by decide +kernel) (pa_cons (pv 0) pa_nil)) (pe_callB (cr_repr hr) (by rfl) B.repr (by decide +kernel) (pa_cons (pv 1) pa_nil)) (nomark _)))))), ?_⟩
  refine ⟨_, rfl, _, rfl, d, d, h1, h2, sh, sh, _, rfl, ?_⟩
  rw [SeqAt.eqv_refl d hf.lay]
  refine iteT ⟨_, rfl, _, _, rfl, h1, hf.sho, hf.lay, hf.dep, hf.len, _, rfl, _, _, rfl, h2, hf.sho, hf.lay, hf.dep, hf.len, d.shown.cps.toList, d.shown.cps.toList, rfl, rfl, ?_⟩
  rw [decide_eq_true rfl]
  exact q
end

/-! ### _law_called -/
theorem sc_law_called : FnScope ["_law_row_here", "_law_place", "_law_ahead", "_law_behind"] ["_law_row_here", "_law_place"] (defScope s_law_called) := ⟨rfl, rfl, rfl, by decide +kernel, rfl, by decide +kernel, by decide +kernel⟩
/-- the row that a call makes, by slices -/
def calledL (l : List Nat) (p : Nat) : List Nat := l.take p ++ l.take p ++ (l.drop p).take 1 ++ l.drop (p + 1) ++ l.drop (p + 1)
theorem called_made (l : List Nat) (p : Nat) : calledL l p = mkRow l p := by
  unfold calledL mkRow
  have e : l = l.take p ++ ((l.drop p).take 1 ++ l.drop (p + 1)) := by
    have h1 : (l.drop p).take 1 ++ (l.drop p).drop 1 = l.drop p := List.take_append_drop 1 _
    rw [List.drop_drop] at h1
    rw [h1, List.take_append_drop]
  conv => rhs; arg 1; arg 2; rw [e]
  simp only [List.append_assoc]
theorem mkRow_az {l : List Nat} (p : Nat) (h : AZ l) : AZ (mkRow l p) := ((h.take p).app h).app (h.drop (p + 1))
theorem drop_one {l : List Nat} {p : Nat} (h : p < l.length) : (l.drop p).take 1 = [l[p]] := by
  rw [List.drop_eq_getElem_cons h]
  rfl
def spCalled : Sp := fun vs H Q _ => ∃ (l : List Nat) (p : Nat), vs = [tx l, .int (p : Int)] ∧ p < l.length ∧ l.length ≤ 1000000 ∧ Q (tx (mkRow l p)) H
section
variable {P : Program} {w : World} {K : PySem.W.Frag} {mg : Str → Option Value} {base : Heap}
theorem ok__law_called (D : Def K mg "_law_called" s_law_called) : Dfn P w K mg base CX0 1 "_law_called" spCalled := by
  refine def_ok D sc_law_called (fun _ _ _ _ _ _ us hl => match us, hl with | [_, _], _ => rfl) (fun vs H Q E h => ?_) (fun cdv A fr s H vs Q E f hr h => ?_)
  · obtain ⟨l, n, rfl, _⟩ := h
    rfl
  obtain ⟨l, p, rfl, hp, hl, q⟩ := h
  rw [← called_made] at q
  unfold calledL at q
  rw [drop_one hp] at q
  refine ⟨_, (pss_cons (ps_par (i := 2) (j := 3) (by rfl) sc_law_called.nd rfl rfl (by decide) rfl rfl (pa_cons (pe_slice sl_tx (pv 0) po_none (po_some (pv 1))) (pa_cons (pe_slice sl_tx (pv 0) (po_some (pe_op op_add (pv 1) pe_int)) po_none) pa_nil)) (by rfl))
      (pss_one (ps_ret (pe_op op_catT (pe_op op_catT (pe_op op_catT (pe_op op_catT (pv 2) (pv 2)) (pe_ix ix_tx (pv 0) (pv 1) (fun _ _ => rfl))) (pv 3)) (pv 3))))), ?_⟩
  have h1 : (l.take p).length ≤ l.length := by rw [List.length_take]; omega
  have h2 : (l.drop (p + 1)).length ≤ l.length := by rw [List.length_drop]; omega
  refine ⟨_, rfl, _, rfl, _, rfl, _, rfl, len_le (by omega), _, rfl, _, rfl, _, _, rfl, rfl, _, rfl, _, rfl, len_le (by omega), _, _, rfl, ?_⟩
  rw [cut_to, cut_fromI _ (by omega), show ((p : Int) + 1).toNat = p + 1 by omega]
  refine ⟨_, rfl, _, rfl, _, _, rfl, rfl, len_le (by omega), _, rfl, _, rfl, _, _, _, rfl, rfl, len_le (by omega), at_nat rfl (List.getElem?_eq_getElem hp), _, _, rfl, rfl, ?_, _, rfl, _, _, rfl, rfl, ?_, _, rfl, _, _, rfl, rfl, ?_, q⟩
  · rw [List.length_append]
    exact len_le (by rw [List.length_singleton]; omega)
  · rw [List.length_append, List.length_append, List.length_singleton]
    exact len_le (by omega)
  · rw [List.length_append, List.length_append, List.length_append, List.length_singleton]
    exact len_le (by omega)
end

/-! ### law -/
theorem sc_law : FnScope ["_law_script", "_law_bag_here", "_law_turn", "_law_row_here", "_law_due", "_law_place", "_law_later", "_law_again", "_law_found", "_law_some"] ["_law_script"] (defScope s_law) := ⟨rfl, rfl, rfl, by decide +kernel, rfl, by decide +kernel, by decide +kernel⟩
def spLaw (K : PySem.W.Frag) : Sp := fun vs H Q _ => ∃ (a : Addr) (ns : List Int), vs = [.ref a] ∧ SqL K H a (ns.map V.int) ∧ ns.length ≤ 63 ∧ ∀ H', Q (.bl true) H'
section
variable {P : Program} {w : World} {K : PySem.W.Frag} {mg : Str → Option Value} {base : Heap}
theorem ok_law {f : Addr} {fd : FuncData} (F : Fun K "law" "law" s_law f fd) (B : Blt mg) (c__law_bag : Dfn P w K mg base CX0 1 "_law_bag" (spBag K)) (c__law_take : Dfn P w K mg base CX0 1 "_law_take" spTake)
    (c__law_bound_row : Dfn P w K mg base CX0 5 "_law_bound_row" spBoundRow) (c__law_called : Dfn P w K mg base CX0 1 "_law_called" spCalled) (c_classes : Dfn P w K mg base CX0 3 "classes" spClasses)
    (c__law_alike : DfnG P w K mg base CX0 1 "_law_alike" (spAlike K)) : FnG P w K mg base CX0 6 f fd ["_law_script"] (spLaw K) := by
  refine law_okG F sc_law (fun vs H Q E h => ?_) (fun cdv A fr s H vs Q E hr h => ?_)
  · obtain ⟨a, ns, rfl, _⟩ := h
    rfl
  obtain ⟨a, ns, rfl, hS, hlen, q⟩ := h
  refine ⟨_, (pss_cons (ps_set (i := 1) sc_law.nd rfl (Or.inl rfl) (pe_d c__law_bag hr.r (pa_cons (pv 0) pa_nil)))
      (pss_cons (ps_for PassesOwn.never rfl (pi_range1 rfl B.range (pa_cons pe_int pa_nil)) (pg_name (i := 2) sc_law.nd rfl (Or.inl rfl))
        (pss_cons (ps_set (i := 3) sc_law.nd rfl (Or.inl rfl) (pe_d c__law_bound_row hr.r (pa_cons (pv 1) pa_nil)))
        (Evl.pss_cut (ps_if (PW.pt (pw_and (pt_cmpR op_eqI (pv 2) pe_int (nomark _)) (pw_and1 (pt_cmpR op_eqI (pe_d c__law_take hr.r (pa_cons (pv 1) (pa_cons pe_int pa_nil))) pe_int (nomark _)))))
          (pss_one (ps_set (i := 3) sc_law.nd rfl (Or.inl rfl) (pe_op op_catT (pe_slice sl_tx (pe_op op_repT (pv 3) pe_int) po_none (po_some (pe_op op_add pe_int (pe_d c__law_take hr.r (pa_cons (pv 1) (pa_cons pe_int pa_nil)))))) (pe_tx [122]))))
          pss_nil)
        (pss_cons (ps_set (i := 4) sc_law.nd rfl (Or.inr rfl) pe_dnewK)
        (pss_cons (ps_for PassesOwn.never rfl (pi_range1 rfl B.range (pa_cons (pe_callB call_lenT (by rfl) B.len (by decide +kernel) (pa_cons (pv 3) pa_nil)) pa_nil)) (pg_name (i := 5) sc_law.nd rfl (Or.inl rfl))
          (pss_cons (ps_set (i := 6) sc_law.nd rfl (Or.inl rfl) (pe_d c__law_called hr.r (pa_cons (pv 3) (pa_cons (pv 5) pa_nil))))
          (pss_one (ps_dput (hu_of hr.r) (pv 4) (pv 6) (pe_op op_cat (pe_dget2 (hu_of hr.r) (pv 4) (pv 6) (pe_lst pa_nil) ⟨rfl, rfl, rfl, rfl⟩) (pe_lst (pa_cons (pv 5) pa_nil))) rfl))))
        (pss_one (ps_for PassesOwn.never rfl (pi_range1 rfl B.range (pa_cons pe_int pa_nil)) (pg_name (i := 7) sc_law.nd rfl (Or.inl rfl))
          (pss_cons (ps_set (i := 8) sc_law.nd rfl (Or.inl rfl) (pe_d c_classes hr.r (pa_cons (pv 3) pa_nil)))
          (pss_cons (ps_if (pt_not (pt_val (pe_dG c__law_alike hr pass0 (pa_cons (pv 8) (pa_cons (pe_callB (cr_sortedR hr.r) (by rfl) B.sorted (by decide +kernel) (pa_cons (pe_lock (pe_lc (own := [("_law_later", 6)]) (g := gName 6) rfl sc_law.nd (pi_keys (pv 4)) (blkOk_by (own := [("_law_later", 6)]) (N := ["_law_script", "_law_bag_here", "_law_turn", "_law_row_here", "_law_due", "_law_place", "_law_later", "_law_again", "_law_found", "_law_some"]) (sc := defScope s_law) (by decide +kernel)) (fun _ _ _ _ _ => (pg_name (i := 6) sc_law.nd rfl (Or.inl rfl))) (fun _ _ _ _ _ => pts_nil) (fun _ _ _ _ _ => (pe_dget (hu_of hr.r) (pv 4) (pv 6) (fun _ _ => rfl))))) pa_nil)) pa_nil)))))
            (pss_one (ps_ret pe_bl))
            pss_nil)
          (pss_cons (ps_for PassesOwn.never rfl (pi_list (pv 8)) (pg_name (i := 9) sc_law.nd rfl (Or.inl rfl))
            (pss_one (ps_expr (pe_bm PySem.F.plainAttrs_list PySem.F.slot_list_append PySem.F.type_list_append mt_append (pv 9) (pa_cons pe_int pa_nil)))))
          (pss_one (ps_expr (pe_bm0 PySem.F.plainAttrs_list PySem.F.slot_list_reverse PySem.F.type_list_reverse mt_reverse (pv 8))))))))))))))
      (pss_one (ps_ret pe_bl)))), ?_⟩
  refine ⟨_, rfl, a, ns, rfl, hS, hlen, fun b c H1 nb nc B1 _ => ?_⟩
  refine ⟨_, rfl, by decide, by decide, for_range (lo := 0) (n := (5 : Int).toNat) (fun i σ' H' => ∃ v2 v3 v4 v5 v6 v7 v8 v9 : Option V, σ' = [some (.ref a), some (.ref b), v2, v3, v4, v5, v6, v7, v8, v9] ∧ Bag H' b c) ⟨none, none, none, none, none, none, none, none, rfl, B1⟩ (fun i σ' H' hi z => ?_) (fun σ' H' z => ?_)⟩
  · obtain ⟨v2, v3, v4, v5, v6, v7, v8, v9, rfl, B2⟩ := z
    refine ⟨_, rfl, b, c, rfl, B2, fun l H2 l1 l2 az d1 => ?_⟩
    refine ⟨fun σ' H' => ∃ (l : List Nat), σ' = [some (.ref a), some (.ref b), some (.int (0 + (i : Int))), some (tx l), v4, v5, v6, v7, v8, v9] ∧ Bag H' b c ∧ 2 ≤ l.length ∧ l.length ≤ 1000, ?_, ?_⟩
    · refine ⟨_, rfl, _, _, rfl, rfl, _, rfl, ite2 (fun _ => ?_) (fun _ => iteF ?_)⟩
      · refine ⟨_, rfl, b, c, 3, rfl, d1.bag, by decide, by decide, fun v1 H3 l3 u3 d3 => ⟨_, _, rfl, rfl, _, rfl, ite2 (fun _ => ?_) (fun _ => ?_)⟩⟩
        · have hf : (List.replicate (501 : Int).toNat l).flatten.length = 501 * l.length := by
            rw [List.length_flatten, List.map_replicate, List.sum_replicate_nat]
            rfl
          have h5 : l.length * (501 : Int).toNat ≤ 501 * 1000 := by
            rw [Nat.mul_comm]
            exact Nat.mul_le_mul_left 501 l2
          refine ⟨_, rfl, _, _, rfl, rfl, by decide, by decide, len_le (by omega), _, rfl, b, c, 499, rfl, d3.bag, by decide, by decide, fun v4 H4 l4 u4 d4 => ?_⟩
          refine ⟨_, _, rfl, rfl, _, rfl, _, rfl, len_le (by rw [hf]; omega), _, _, rfl, rfl, ?_, ?_⟩
          · rw [cut_toI _ (by omega)]
            exact len_le (by rw [List.length_take, hf]; show min _ _ + 1 ≤ _; omega)
          · rw [cut_toI _ (by omega)]
            refine ⟨_, rfl, (d3.trans d4).bag, ?_, ?_⟩
            · rw [List.length_append, List.length_take, hf]
              show 2 ≤ min _ _ + 1
              omega
            · rw [List.length_append, List.length_take, hf]
              show min _ _ + 1 ≤ 1000
              omega
        · exact ⟨l, rfl, d3.bag, l1, l2⟩
      · exact ⟨l, rfl, d1.bag, l1, l2⟩
    · rintro σ' H3 ⟨l, rfl, B3, l1, l2⟩
      let kf : Nat → Key := fun p => kT (mkRow l p)
      refine fun d nd => ⟨_, rfl, _, rfl, len_le (by omega), _, rfl, by omega, by omega, for_range (lo := 0) (n := (l.length : Int).toNat) (fun j σ' H' => ∃ (v5 v6 : Option V) (kvs : List (Key × V)), σ' = [some (.ref a), some (.ref b), some (.int (0 + (i : Int))), some (tx l), some (.ref d), v5, v6, v7, v8, v9] ∧
        H' d = some (.dK kvs) ∧ Tab (RowV H') kvs (grp kf j) ∧ Same H3 H') ⟨v5, v6, [], rfl, upd_same, .nil, .new nd⟩ (fun j σ' H' hj z => ?_) (fun σ' H' z => ?_)⟩
      · obtain ⟨v5, v6, kvs, rfl, hd, T, s3⟩ := z
        have hkl : kvs.length ≤ j := by
          rw [T.len]
          exact grp_len _ _
        refine ⟨_, rfl, _, rfl, l, j, (by rw [Int.zero_add]), by omega, by omega, ?_⟩
        refine ⟨_, rfl, _, rfl, .inl ⟨kvs, .inl hd⟩, _, rfl, len_le (by decide), fun p1 n1 => ?_⟩
        have hd1 : upd H' p1 (.lst []) d = some (.dK kvs) := by
          rw [upd_ne (ne_of_none hd n1)]
          exact hd
        obtain ⟨o, a0, g, h1, h2, h3, h4⟩ : ∃ (o : Option V) (a0 : Addr) (g : List Nat), DGet (upd H' p1 (.lst [])) d (tx (mkRow l j)) o ∧ o.getD (.ref p1) = .ref a0 ∧ upd H' p1 (.lst []) a0 = some (.lst (nums g)) ∧ (look (grp kf j) (kf j)).getD [] = g := by
          rcases T.get (kf j) with ⟨e1, e2⟩ | ⟨v, g, e1, e2, a0, rfl, e3⟩
          · exact ⟨none, p1, [], .inl ⟨kvs, kf j, .inl hd1, rfl, e1.symm⟩, rfl, upd_same, by rw [e2]; rfl⟩
          · exact ⟨some (.ref a0), a0, g, .inl ⟨kvs, kf j, .inl hd1, rfl, e1.symm⟩, rfl, by rw [upd_ne (ne_of_none e3 n1)]; exact e3, by rw [e2]; rfl⟩
        refine ⟨o, h1, ?_⟩
        rw [h2]
        refine ⟨_, rfl, len_le (show 1 ≤ 16777216 by decide), fun p2 n2 => ?_⟩
        have hg : g.length ≤ j := by
          rw [← h4]
          exact look_len _ _ _
        have h3' : upd (upd H' p1 (.lst [])) p2 (.lst [.int (0 + (j : Int))]) a0 = some (.lst (nums g)) := by
          rw [upd_ne (ne_of_none h3 n2)]
          exact h3
        have hd2 : upd (upd H' p1 (.lst [])) p2 (.lst [.int (0 + (j : Int))]) d = some (.dK kvs) := by
          rw [upd_ne (ne_of_none hd1 n2)]
          exact hd1
        refine ⟨a0, p2, nums g, [.int (0 + (j : Int))], rfl, rfl, h3', upd_same, by rw [nums_len]; exact len_le (show g.length + 1 ≤ _ by omega), fun p3 n3 => ?_⟩
        have hd3 : upd (upd (upd H' p1 (.lst [])) p2 (.lst [.int (0 + (j : Int))])) p3 (.lst (nums g ++ [.int (0 + (j : Int))])) d = some (.dK kvs) := by
          rw [upd_ne (ne_of_none hd2 n3)]
          exact hd2
        have s4 : Same H' (upd (upd (upd H' p1 (.lst [])) p2 (.lst [.int (0 + (j : Int))])) p3 (.lst (nums g ++ [.int (0 + (j : Int))]))) := ((Same.new n1).trans (.new n2)).trans (.new n3)
        refine ⟨_, rfl, _, rfl, d, _, rfl, DPut.k (k := kf j) hd3 (len_lt (by omega)), _, _, _, rfl, upd_same, ?_, fun x y e => ?_⟩
        · refine Tab.put ((T.mono (rowv_same s4)).mono (rowv_upd hd3)) ⟨p3, rfl, ?_⟩
          show upd (upd (upd (upd H' p1 (.lst [])) p2 (.lst [.int (0 + (j : Int))])) p3 (.lst (nums g ++ [.int (0 + (j : Int))]))) d _ p3 = _
          rw [upd_ne (ne_of_none hd2 n3).symm, upd_same, h4, nums_app, Int.zero_add]
          rfl
        · rw [upd_ne (ne_of_none e nd)]
          exact s4 _ _ (s3 _ _ e)
      · obtain ⟨v5, v6, kvs, rfl, hd, T, s3⟩ := z
        rw [show (l.length : Int).toNat = l.length by omega] at T
        have nks := grp_nodup kf l.length
        have hkl : (grp kf l.length).length ≤ l.length := grp_len _ _
        have hgk : (grp kf l.length).map (·.2) = grps (mkRow l) l.length := grps_keys (e := kT) kT_inj (mkRow l) l.length
        generalize hks : grp kf l.length = ks at T nks hkl hgk
        refine ⟨_, rfl, by decide, by decide, for_range (lo := 0) (n := (2 : Int).toNat) (fun j σ' H5 => ∃ (v6 v7 v8 v9 : Option V), σ' = [some (.ref a), some (.ref b), some (.int (0 + (i : Int))), some (tx l), some (.ref d), v5, v6, v7, v8, v9] ∧ Same H' H5) ⟨v6, v7, v8, v9, rfl, L2.Same.refl _⟩ (fun j σ' H5 hj z => ?_) (fun σ' H5 z => ?_)⟩
        · obtain ⟨v6, v7, v8, v9, rfl, s5⟩ := z
          refine ⟨_, rfl, l, rfl, l1, by omega, fun p bs H6 s6 np hp hbs hsnd htot => ?_⟩
          have hd6 := s6 _ _ (s5 _ _ hd)
          have T6 := (T.mono (rowv_same s5)).mono (rowv_same s6)
          refine ⟨_, rfl, d, .dK kvs, hd6, trivial, fun od => ?_⟩
          have T7 := T6.mono (rowv_upd (o := .frz od (.dK kvs)) hd6)
          refine ⟨_, rfl, d, od, rfl, .inl ⟨kvs, upd_same, fun Dl nD => ?_⟩⟩
          have hdD : d ≠ Dl := ne_of_none (upd_same (H := H6) (a := d) (o := .frz od (.dK kvs))) nD
          refine lc_it walk_keys (fun m H7 => ∃ bs2 : List (Addr × List Nat), H7 Dl = some (.lst (refs bs2)) ∧ bs2.map (·.2) = (ks.take m).map (·.2) ∧ (∀ b ∈ bs2, RowAt (upd H6 d (.frz od (.dK kvs))) b) ∧ Same (upd H6 d (.frz od (.dK kvs))) H7)
            ⟨[], upd_same, rfl, (fun b m => by cases m), .new nD⟩ (fun m H7 _ z => by obtain ⟨_, _, _, _, h4⟩ := z; exact h4 _ _ upd_same) (fun m x H7 H8 hm z y => ?_) (fun H7 z => ?_)
          · obtain ⟨bs2, h1, h2, h3, h4⟩ := z
            obtain ⟨rfl, k, v, hk, rfl⟩ := y
            obtain ⟨g, hg, hv⟩ := T7.at hk
            have hmk : m < ks.length := by
              rw [← T7.len]
              exact hm
            have hl2 : bs2.length ≤ m := by
              have : (bs2.map (·.2)).length = ((ks.take m).map (·.2)).length := by rw [h2]
              rw [List.length_map, List.length_map, List.length_take] at this
              omega
            refine ⟨rfl, yes ?_⟩
            obtain ⟨v', g', e1, e2, e3⟩ : ∃ v' g', valV kvs k = some v' ∧ look ks k = some g' ∧ RowV (upd H6 d (.frz od (.dK kvs))) v' g' := by
              have := (mem_look nks).mp (List.mem_of_getElem? hg)
              rcases T7.get k with ⟨_, z⟩ | z
              · rw [this] at z
                cases z
              · exact z
            have eg : g' = g := by
              have := (mem_look nks).mp (List.mem_of_getElem? hg)
              rw [e2] at this
              exact Option.some.inj this
            subst eg
            obtain ⟨a9, rfl, e3⟩ := e3
            have e4 : H8 a9 = some (.lst (nums g')) := h4 _ _ e3
            refine ⟨_, rfl, _, rfl, d, .ref a9, rfl, .inl ⟨kvs, k, .inr ⟨od, h4 _ _ upd_same⟩, rfl, e1.symm⟩, refs bs2, h1, by rw [refs_len]; exact len_lt (by omega), bs2 ++ [(a9, g')], ?_, ?_, ?_, ?_⟩
            · rw [upd_same]
              unfold refs
              rw [List.map_append]
              rfl
            · rw [List.map_append, h2, List.take_add_one, hg, List.map_append]
              rfl
            · intro b mb
              rcases List.mem_append.mp mb with mb | mb
              · exact h3 b mb
              · rw [List.mem_singleton] at mb
                subst mb
                exact e3
            · intro x y e
              rw [upd_ne (ne_of_none e nD)]
              exact h4 _ _ e
          · obtain ⟨bs2, h1, h2, h3, h4⟩ := z
            rw [T7.len, List.take_length, hgk] at h2
            have s8 : Same H6 (upd H7 d (.dK kvs)) := fun x o e => by
              by_cases c : x = d
              · subst c
                rw [hd6] at e
                rw [← e]
                exact upd_same
              · rw [upd_ne c]
                refine h4 _ _ ?_
                rw [upd_ne c]
                exact e
            have r8 : ∀ b ∈ bs2, RowAt (upd H7 d (.dK kvs)) b := fun b m => by
              have z := h3 b m
              have c : b.1 ≠ d := fun e => by
                have z' : upd H6 d (.frz od (.dK kvs)) b.1 = _ := z
                rw [e, upd_same] at z'
                cases z'
              show upd _ _ _ _ = _
              rw [upd_ne c]
              exact h4 _ _ z
            have hl8 : upd H7 d (.dK kvs) Dl = some (.lst (refs bs2)) := by
              rw [upd_ne (Ne.symm hdD)]
              exact h1
            have e8 : (bs2.mergeSort leB).map (·.2) = bs.map (·.2) := by rw [sortB_snd, h2, hsnd]
            refine ⟨h4 _ _ upd_same, Dl, bs2, rfl, sq_new hl8, r8, fun p2 n2 => ?_⟩
            have s9 := s8.trans (Same.new (o := .lst (refs (bs2.mergeSort leB))) n2)
            have hgl : (bs.map (·.2)).length ≤ 1000 := by
              rw [hsnd, List.length_mergeSort]
              unfold grps
              rw [List.length_map]
              exact Nat.le_trans (grp_len _ _) l2
            have hbl : bs.length ≤ 1000 := by
              rw [List.length_map] at hgl
              exact hgl
            have fit : Fit (.list ((bs.map (·.2)).map encR)) := by
              refine (Sm.list (sm_rows _ fun g hg n hn => ?_)).fit (by omega) (by decide)
              rw [hsnd] at hg
              obtain ⟨q9, hq, rfl⟩ := (grps_mem _).mp ((List.mergeSort_perm _ _).mem_iff.mp hg)
              have := ((mem_same _).mp hn).1
              omega
            refine ⟨.ref p, .ref p2, .list ((bs.map (·.2)).map encR), rfl, ?_, ?_, fit, true, rfl, iteF ?_⟩
            · have z := dp_rows (K := K) (bs := bs) (sq_new (s9 _ _ hp)) fun b m => s9 _ _ (hbs b m).2.2
              rw [List.map_map]
              exact z
            · have z := dp_rows (K := K) (bs := bs2.mergeSort leB) (sq_new upd_same) fun b m => (Same.new (o := .lst (refs (bs2.mergeSort leB))) n2) _ _ (r8 b (mem_sortB.mp m))
              rw [← e8, List.map_map]
              exact z
            · generalize hH9 : upd (upd H7 d (.dK kvs)) p2 (.lst (refs (bs2.mergeSort leB))) = H9 at s9
              have s59 := s6.trans s9
              refine ⟨_, rfl, _, rfl, ⟨_, sq_new (s9 _ _ hp)⟩, for_list (xs := refs bs) (fun m σ' H' => ∃ v9 : Option V, σ' = [some (.ref a), some (.ref b), some (.int (0 + (i : Int))), some (tx l), some (.ref d), v5, v6, some (.int (0 + (j : Int))), some (.ref p), v9] ∧
                H' p = some (.lst (refs bs)) ∧ Same H5 H' ∧ ∀ b ∈ bs, ∃ xs, H' b.1 = some (.lst xs) ∧ xs.length ≤ 1000 + m) ⟨v9, rfl, s9 _ _ hp, s59, fun b m => ⟨_, s9 _ _ (hbs b m).2.2, ?_⟩⟩ (fun m σ' H' _ z => ?_) (fun m x σ' H' hm z => ?_) (fun σ' H' z => ?_)⟩
              · rw [nums_len]
                have hg : b.2 ∈ bs.map (·.2) := List.mem_map.mpr ⟨b, m, rfl⟩
                rw [hsnd] at hg
                obtain ⟨q9, hq, e⟩ := (grps_mem _).mp ((List.mergeSort_perm _ _).mem_iff.mp hg)
                rw [e]
                unfold same
                exact Nat.le_trans (List.length_filter_le _ _) (by rw [List.length_range]; omega)
              · obtain ⟨_, _, z, _⟩ := z
                exact sq_new z
              · obtain ⟨v9, rfl, z1, z2, z3⟩ := z
                obtain ⟨b9, hb9, rfl⟩ : ∃ b9 ∈ bs, x = .ref b9.1 := by
                  obtain ⟨b9, h1, h2⟩ := List.mem_map.mp (List.mem_of_getElem? hm)
                  exact ⟨b9, h1, h2.symm⟩
                have hml : m < bs.length := by
                  have := (List.getElem?_eq_some_iff.mp hm).1
                  rw [refs_len] at this
                  exact this
                obtain ⟨xs, hx1, hx2⟩ := z3 b9 hb9
                obtain ⟨n9, p9, _⟩ := hbs b9 hb9
                refine ⟨_, rfl, .inl ⟨rfl, xs, sq_new hx1⟩, b9.1, xs, _, rfl, rfl, hx1, ?_, _, rfl, ?_, fun y o e => ?_, fun b8 h8 => ?_⟩
                · exact len_lt (by omega)
                · rw [upd_ne (Ne.symm p9)]
                  exact z1
                · rw [upd_ne (ne_of_none e n9)]
                  exact z2 _ _ e
                · by_cases c : b8.1 = b9.1
                  · refine ⟨_, by rw [c]; exact upd_same, ?_⟩
                    rw [List.length_append]
                    show xs.length + 1 ≤ _
                    omega
                  · obtain ⟨ys, y1, y2⟩ := z3 b8 h8
                    exact ⟨ys, by rw [upd_ne c]; exact y1, by omega⟩
              · obtain ⟨v9, rfl, z1, z2, z3⟩ := z
                refine ⟨_, rfl, .inl ⟨rfl, _, sq_new z1⟩, p, refs bs, rfl, rfl, z1, _, _, _, _, rfl, fun y o e => ?_⟩
                have e5 := s5 _ _ e
                rw [upd_ne (ne_of_none e5 np)]
                exact z2 _ _ e5
        · obtain ⟨v6, v7, v8, v9, rfl, s5⟩ := z
          exact ⟨_, _, _, _, _, _, _, _, rfl, (B3.same s3).same s5⟩
  · obtain ⟨v2, v3, v4, v5, v6, v7, v8, v9, rfl, _⟩ := z
    exact q H'
end

end Ow
set_option maxHeartbeats 0
namespace Ow
open PySem PySem.Spec PyProof.Rows L2
def d_joint_step : He.DefD := ⟨("joint_step", none), "joint_step", "joint_step", defArgs s_joint_step, defBody s_joint_step, defScope s_joint_step, [], []⟩
def d_joints : He.DefD := ⟨("joints", none), "joints", "joints", defArgs s_joints, defBody s_joints, defScope s_joints, [], []⟩
def d_classes : He.DefD := ⟨("classes", none), "classes", "classes", defArgs s_classes, defBody s_classes, defScope s_classes, [], []⟩
def d_law_bag : He.DefD := ⟨("_law_bag", none), "_law_bag", "_law_bag", defArgs s_law_bag, defBody s_law_bag, defScope s_law_bag, [], []⟩
def d_law_take : He.DefD := ⟨("_law_take", none), "_law_take", "_law_take", defArgs s_law_take, defBody s_law_take, defScope s_law_take, [], []⟩
def d_law_alike : He.DefD := ⟨("_law_alike", none), "_law_alike", "_law_alike", defArgs s_law_alike, defBody s_law_alike, defScope s_law_alike, [], []⟩
def d_law_word : He.DefD := ⟨("_law_word", none), "_law_word", "_law_word", defArgs s_law_word, defBody s_law_word, defScope s_law_word, [], []⟩
def d_law_row : He.DefD := ⟨("_law_row", none), "_law_row", "_law_row", defArgs s_law_row, defBody s_law_row, defScope s_law_row, [], []⟩
def d_law_called : He.DefD := ⟨("_law_called", none), "_law_called", "_law_called", defArgs s_law_called, defBody s_law_called, defScope s_law_called, [], []⟩
def d_law_any_row : He.DefD := ⟨("_law_any_row", none), "_law_any_row", "_law_any_row", defArgs s_law_any_row, defBody s_law_any_row, defScope s_law_any_row, [], []⟩
def d_law_bound_row : He.DefD := ⟨("_law_bound_row", none), "_law_bound_row", "_law_bound_row", defArgs s_law_bound_row, defBody s_law_bound_row, defScope s_law_bound_row, [], []⟩
def d_law : He.DefD := ⟨("law", none), "law", "law", defArgs s_law, defBody s_law, defScope s_law, [], []⟩
def fn : List He.DefD := [d_joint_step, d_joints, d_classes, d_law_bag, d_law_take, d_law_alike, d_law_word, d_law_row, d_law_called, d_law_any_row, d_law_bound_row, d_law]
def fa0 : List He.Fa := [.free "len", .free "range", .free "zip", .free "enumerate", .free "sorted", .free "list", .free "dict", .free "set", .free "int", .free "abs", .free "sum", .free "min", .free "max", .free "repr", .free "isinstance", .free "bool", .free "str", .free "tuple", .free "all", .free "any", .free "divmod", .free "super", .free "ValueError", .free "reversed", .glo "joint_step", .glo "joints", .glo "classes", .glo "_law_bag", .glo "_law_take", .glo "_law_alike"]
def fa1 : List He.Fa := [.glo "_law_word", .glo "_law_row", .glo "_law_called", .glo "_law_any_row", .glo "_law_bound_row", .glo "law"]
def fa : List He.Fa := fa0 ++ fa1
def loose0 : List Str := ["joint_step", "joints", "classes", "_law_bag", "_law_take", "_law_alike", "_law_word", "_law_row", "_law_called", "_law_any_row", "_law_bound_row"]
def loose : List Str := loose0
abbrev R : PySem.W.OpenRow := PySem.W.OpenLaw.row PySem.Challenge.rw_ownlog_k52_classes_by_calls
abbrev hk : PySem.W.Hook := He.hookD 5 fa fn
def ob (s : PySem.W.SharedT) : He.AlD := He.obsDG 5 fa fn (HandSHeadRun.getT s)
theorem ob_eq (s : PySem.W.SharedT) : ob s = hk.obs s.abs := He.obsDG_eq (HandSHeadRun.getT_eq s)
theorem run (w : World) : HandSHeadRun.RunEq R (PySem.W.view R.prog [13]) hk ob 4000 loose w := by
  intro os
  kernel_rfl
theorem facts {P : Program} {w : World} {K : PySem.W.Frag} {h : Heap} {mg : Str → Option Value} {f : Addr} (X : K.In h) (G : h.Ns mainGlobals mg) (hfa : mg ("law" : Str) = some (.ref f)) (c : He.SaysD fa fn K) :
    ∃ fd : FuncData, (∀ (s : Shared) (v : Value), BindsTo s fd ⟨[v], []⟩ [("_law_script", v)]) ∧ ∀ base : Heap, K.In base → base.Ns mainGlobals mg → FnG P w K mg base CX0 6 f fd ["_law_script"] (spLaw K) := by
  have B : Blt mg := ⟨He.free_ok X G (c.fact 0 (f := .free "len") rfl), He.free_ok X G (c.fact 1 (f := .free "range") rfl), He.free_ok X G (c.fact 2 (f := .free "zip") rfl), He.free_ok X G (c.fact 3 (f := .free "enumerate") rfl), He.free_ok X G (c.fact 4 (f := .free "sorted") rfl), He.free_ok X G (c.fact 5 (f := .free "list") rfl), He.free_ok X G (c.fact 6 (f := .free "dict") rfl), He.free_ok X G (c.fact 7 (f := .free "set") rfl), He.free_ok X G (c.fact 8 (f := .free "int") rfl), He.free_ok X G (c.fact 9 (f := .free "abs") rfl), He.free_ok X G (c.fact 10 (f := .free "sum") rfl), He.free_ok X G (c.fact 11 (f := .free "min") rfl), He.free_ok X G (c.fact 12 (f := .free "max") rfl), He.free_ok X G (c.fact 13 (f := .free "repr") rfl), He.free_ok X G (c.fact 14 (f := .free "isinstance") rfl), He.free_ok X G (c.fact 15 (f := .free "bool") rfl), He.free_ok X G (c.fact 16 (f := .free "str") rfl), He.free_ok X G (c.fact 17 (f := .free "tuple") rfl), He.free_ok X G (c.fact 18 (f := .free "all") rfl), He.free_ok X G (c.fact 19 (f := .free "any") rfl), He.free_ok X G (c.fact 20 (f := .free "divmod") rfl), He.free_ok X G (c.fact 21 (f := .free "super") rfl), He.free_ok X G (c.fact 22 (f := .free "ValueError") rfl), He.free_ok X G (c.fact 23 (f := .free "reversed") rfl)⟩
  have D__law_take : Def K mg "_law_take" s_law_take := by
    obtain ⟨fd, F⟩ := c.def_ 4 (d := d_law_take) rfl
    exact Def.of F (He.glo_ok X G (c.fact 28 (f := .glo "_law_take") rfl))
  have D__law_word : Def K mg "_law_word" s_law_word := by
    obtain ⟨fd, F⟩ := c.def_ 6 (d := d_law_word) rfl
    exact Def.of F (He.glo_ok X G (c.fact 30 (f := .glo "_law_word") rfl))
  have D__law_row : Def K mg "_law_row" s_law_row := by
    obtain ⟨fd, F⟩ := c.def_ 7 (d := d_law_row) rfl
    exact Def.of F (He.glo_ok X G (c.fact 31 (f := .glo "_law_row") rfl))
  have D__law_any_row : Def K mg "_law_any_row" s_law_any_row := by
    obtain ⟨fd, F⟩ := c.def_ 9 (d := d_law_any_row) rfl
    exact Def.of F (He.glo_ok X G (c.fact 33 (f := .glo "_law_any_row") rfl))
  have D__law_bound_row : Def K mg "_law_bound_row" s_law_bound_row := by
    obtain ⟨fd, F⟩ := c.def_ 10 (d := d_law_bound_row) rfl
    exact Def.of F (He.glo_ok X G (c.fact 34 (f := .glo "_law_bound_row") rfl))
  have D_joint_step : Def K mg "joint_step" s_joint_step := by
    obtain ⟨fd, F⟩ := c.def_ 0 (d := d_joint_step) rfl
    exact Def.of F (He.glo_ok X G (c.fact 24 (f := .glo "joint_step") rfl))
  have D_joints : Def K mg "joints" s_joints := by
    obtain ⟨fd, F⟩ := c.def_ 1 (d := d_joints) rfl
    exact Def.of F (He.glo_ok X G (c.fact 25 (f := .glo "joints") rfl))
  have D_classes : Def K mg "classes" s_classes := by
    obtain ⟨fd, F⟩ := c.def_ 2 (d := d_classes) rfl
    exact Def.of F (He.glo_ok X G (c.fact 26 (f := .glo "classes") rfl))
  have D__law_bag : Def K mg "_law_bag" s_law_bag := by
    obtain ⟨fd, F⟩ := c.def_ 3 (d := d_law_bag) rfl
    exact Def.of F (He.glo_ok X G (c.fact 27 (f := .glo "_law_bag") rfl))
  have D__law_alike : Def K mg "_law_alike" s_law_alike := by
    obtain ⟨fd, F⟩ := c.def_ 5 (d := d_law_alike) rfl
    exact Def.of F (He.glo_ok X G (c.fact 29 (f := .glo "_law_alike") rfl))
  have D__law_called : Def K mg "_law_called" s_law_called := by
    obtain ⟨fd, F⟩ := c.def_ 8 (d := d_law_called) rfl
    exact Def.of F (He.glo_ok X G (c.fact 32 (f := .glo "_law_called") rfl))
  obtain ⟨fd, F⟩ := c.def_ 11 (d := d_law) rfl
  have e := hfa.symm.trans (He.glo_ok X G (c.fact 35 (f := .glo "law") rfl))
  cases e
  refine ⟨fd, fun s v => (FunD.bindsA (ps := ["_law_script"]) F fun _ _ _ _ _ _ us hl => match us, hl with | [_], _ => rfl) s [v] rfl, fun base _ _ => ?_⟩
  have c__law_take := ok__law_take (P := P) (w := w) (base := base) D__law_take B
  have c__law_word := ok__law_word (P := P) (w := w) (base := base) D__law_word B c__law_take
  have c__law_row := ok__law_row (P := P) (w := w) (base := base) D__law_row B c__law_take c__law_word
  have c__law_any_row := ok__law_any_row (P := P) (w := w) (base := base) D__law_any_row B c__law_take c__law_row
  have c__law_bound_row := ok__law_bound_row (P := P) (w := w) (base := base) D__law_bound_row B c__law_take c__law_word c__law_any_row
  have c_joint_step := ok_joint_step (P := P) (w := w) (base := base) D_joint_step B
  have c_joints := ok_joints (P := P) (w := w) (base := base) D_joints B c_joint_step
  have c_classes := ok_classes (P := P) (w := w) (base := base) D_classes B c_joints
  have c__law_bag := ok__law_bag (P := P) (w := w) (base := base) D__law_bag B
  have c__law_alike := ok__law_alike (P := P) (w := w) (base := base) (CX := CX0) D__law_alike B
  have c__law_called := ok__law_called (P := P) (w := w) (base := base) D__law_called
  exact ok_law (fun_ofD F) B c__law_bag c__law_take c__law_bound_row c__law_called c_classes c__law_alike
end Ow
open PySem PySem.W PySem.Calls PyProof.Rows
theorem PySem.Challenge.cw_ownlog_k52_classes_by_calls_holds : PySem.Challenge.rw_ownlog_k52_classes_by_calls.Holds := by
  w_on; o_law
  refine HandSHeadRun.head_any (r := OpenLaw.row PySem.Challenge.rw_ownlog_k52_classes_by_calls) (q := view (OpenLaw.row PySem.Challenge.rw_ownlog_k52_classes_by_calls).prog [13]) (H := Ow.hk) (ob := Ow.ob) (M := 4000) (loose := Ow.loose) (d := HandSHeadRun.topDef (OpenLaw.row PySem.Challenge.rw_ownlog_k52_classes_by_calls).prog 13) (kwd := []) Ow.ob_eq
    (by kernel_rfl) (fun s => by kernel_rfl) Ow.run (by kernel_rfl) (by kernel_rfl) (by kernel_rfl) (by rfl) (by first | assumption | decide +kernel) (by decide +kernel) ⟨rfl, rfl, rfl, rfl, rfl, by decide +kernel⟩ ?hw ?hc
  case hw => w_witness2
  case hc =>
    refine Ow.walk_G (l := PySem.Challenge.rw_ownlog_k52_classes_by_calls) (n := 63) (k := 6) (x := "_law_script") (CX := L2.CX0) rfl (by decide) (by kernel_rfl) ⟨rfl, by decide, by decide⟩ ?F ?nx
    case nx => exact fun _ _ _ _ z => z
    case F =>
      intro w mg fa h Y G hmg0
      obtain ⟨K, KX, c⟩ := Y
      have hmg : mg ("law" : PySem.Str) = some (.ref fa) := by
        have e : (HandSHeadRun.topDef (OpenLaw.row PySem.Challenge.rw_ownlog_k52_classes_by_calls).prog 13).name = ("law" : PySem.Str) := by kernel_rfl
        rw [← e]
        exact hmg0
      obtain ⟨fd, hb, hF⟩ := Ow.facts (P := (PySem.Challenge.rw_ownlog_k52_classes_by_calls).prog) (w := w) KX G hmg c
      exact ⟨K, fd, Ow.spLaw K, KX, hb, fun H a ns hl hS => ⟨a, ns, rfl, hS, hl, fun _ => rfl⟩, hF⟩
