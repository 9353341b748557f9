import PyProof.Rows.All
import Wide.All
import OpenK.AllK
import Wide.FinOn
import HandS.ForMost
import HandS.HeadEnd
import HandS.Codes
import HandS.Wide
import HandS.Conv
import HandS.Style
import HandS.Deep
import HandS.Defaults
import HandS.Evl
import HandS.Walk
import KE.SortData
import HandS.SetKeys
import HandS.ListItems
import HandS.Head2
import HandS.HeadHook2
import HandS.Set
import HandS.SetFor
import HandS.Strs
import HandS.IsInst
import HandS.Sort
import HandS.SortInts
import PySem.Challenge.RW_ownlog_k49_whole_at_most_three_elders
set_option Elab.async false
set_option linter.all false
set_option maxRecDepth 100000
set_option maxHeartbeats 4000000
/-! Ow, part G: defs that are called where no guard runs (so that repr of data may be told), the law's end for such. -/
namespace Ow
open PySem PySem.Spec PyProof.Rows L2

/-- room for k calls, and no repr that runs already -/
def RoomG (k : Nat) (A : Around) : Prop := Room k A ∧ A.guards = some []
theorem RoomG.r {k : Nat} {A : Around} (h : RoomG k A) : Room k A := h.1
theorem RoomG.g {k : Nat} {A : Around} (h : RoomG k A) : A.guards = some [] := h.2

structure FnG (P : Program) (w : World) (K : PySem.W.Frag) (mg : Str → Option Value) (base : Heap) (CX : CXT) (k : Nat) (f : Addr) (fd : FuncData) (ps : List Str) (sp : Sp) : Prop where
  ln : ∀ vs H Q E, sp vs H Q E → vs.length = ps.length
  go : ∀ (A : Around) (fr : List Env) (s : Shared) (H : Hp) (as : Args) (us : List Value) (vs : List V) (Q : VK) (E : XK), RoomG k A → Env0 P w K mg base A fr s H →
    BindsTo s fd as (ps.zip us) → Vals vs us → sp vs H Q E → codeAny (model P w) A (.call (.ref f) as) (CR CX fr P w H s Q E) s

section
variable {P : Program} {w : World} {K : PySem.W.Frag} {mg : Str → Option Value} {base : Heap} {CX : CXT}
/-- a def by its body: the body may lean on the guards -/
theorem okG {x qual : Str} {st : Stmt} {f : Addr} {fd : FuncData} {N ps : List Str} {k : Nat} {sp : Sp} (F : Fun K x qual st f fd) (S : FnScope N ps (defScope st))
    (ln : ∀ vs H Q E, sp vs H Q E → vs.length = ps.length)
    (body : ∀ (cdv : Value) (A : Around) (fr : List Env) (s : Shared) (H : Hp) (vs : List V) (Q : VK) (E : XK), RoomG k (A.deeper (envOfC qual (defScope st) s.heap.objs.size f cdv)) → sp vs H Q E →
      ∃ t, PSs (cxOf CX P w K mg base N qual (defScope st) f cdv A fr s H E) (defBody st) t ∧ t { nx := fun _ H' => Q .non H', rt := Q } (start N vs) H) :
    FnG P w K mg base CX (k + 1) f fd ps sp := by
  obtain ⟨oc, od, kV, doc, pm, an, cdv, ct, osl, rfl, lk, cd⟩ := F.ex
  refine ⟨ln, fun A fr s H as us vs Q E hr e0 hb rv q => ?_⟩
  have hin : K.In s.heap := e0.mod.kin.keeps fun b o e => (e0.bs b o e).1
  have hno : s.heap.NoLimit := e0.mod.nolimit.keeps fun b o e => (e0.bs b o e).1
  refine codeAny_call_function hr.r.depth (hin _ _ lk) rfl S.co S.gen rfl (PySem.W.codeRec_of hin cd) (hb _ _ _ _ ?_)
  refine wpAny_newFunctionEnv_cells S.kind ?_ fun env he s1 x => ?_
  · rintro ⟨n, v⟩ hy
    rcases S.par n (List.of_mem_zip hy).1 with z | z
    · exact .inl z
    · exact .inr ⟨z, PySem.W.cellsFrom_some _ _ _ (.inl z)⟩
  · subst he
    refine ⟨hno.keeps x.toInCall.keep, codeAny_func ?_⟩
    obtain ⟨t, ht, hq⟩ := body cdv A fr s H vs Q E ⟨hr.r.deeper _, hr.g⟩ q
    refine wpAny_mono (ht.run [] s1 (start N vs) H _ (inv_start S hr.r.hd e0 (ln _ _ _ _ q) rv x) hq) (fun fl s2 hs => ?_) fun e s2 hs => hs
    cases fl with
    | ret u =>
      obtain ⟨v, σ2, H2, J, r2, q2⟩ := hs
      exact ⟨v, H2, J.os, J.bare, J.base, J.hok, r2, q2⟩
    | next =>
      obtain ⟨σ2, H2, J, q2⟩ := hs
      exact ⟨.non, H2, J.os, J.bare, J.base, J.hok, rfl, q2⟩
    | brk =>
      obtain ⟨_, _, _, q2⟩ := hs
      exact q2.elim
    | cont =>
      obtain ⟨_, _, _, q2⟩ := hs
      exact q2.elim
end

section
variable {X : Cx} {CX : CXT} {k : Nat} {f : Addr} {fd : FuncData} {ps : List Str} {sp : Sp} {E : XK} {x : Str} {p pos : Pos} {e : Expr} {es : List Expr} {t : TA}
/-- f(e, ..), f a def that may lean on the guards -/
theorem pe_callG (F : FnG X.prog X.w X.K X.mg X.base CX k f fd ps sp) (hr : RoomG k X.A) (hg : Gl X x) (hm : X.mg x = some (.ref f)) (hk : PySem.W.keepIn X.K (.ref f) = true) (hb : Binds X.K fd ps []) (hx : Passes CX X E)
    (ha : PA X (e :: es) t) (d1 : (x == ("__debug__" : Str)) = false := by decide) (d2 : starEach (e :: es) X.env = (false, eval e X.env) :: starEach es X.env := by rfl) (d3 : (backTo pos (starEach es X.env)).any (·.1) = false := by rfl) :
    PE X (.Call (.Name x p) (e :: es) [] pos) (tCall sp [] E t) := by
  refine ⟨fun pins s σ H Q I h => ?_⟩
  refine wpAny_Call_Name_kw (ld_glob I hg hm ?_ d1)
  refine PySem.W.callWith_K (h₀ := X.base) I.ok.mod.kin hk (thn (ha.run pos pins s σ H _ I h) fun us s1 z => ?_) d2 d3
  obtain ⟨vs, H1, I1, r, q⟩ := z
  refine ⟨I1.kIn, ?_⟩
  have q' : sp vs H1 Q E := by
    have q0 : sp (vs ++ []) H1 Q E := q
    rw [List.append_nil] at q0
    exact q0
  have hl : (us ++ ([] : List Value)).length = ps.length := by rw [List.append_nil, ← r.length]; exact F.ln _ _ _ _ q'
  have hbt := hb s1 us I1.kIn hl
  rw [List.append_nil] at hbt
  refine wpAny_call (codeAny_mono (F.go X.A X.stack s1 H1 ⟨us, []⟩ us vs Q E hr I1.env0 hbt r q') fun r2 s2 hq => ?_)
  cases r2 with
  | error e2 => exact hx pins σ H1 s1 e2 s2 I1 hq
  | ok fl =>
    cases fl with
    | ret u => exact I1.after hq
    | next => exact False.elim hq
    | brk => exact False.elim hq
    | cont => exact False.elim hq
end

/-! ### repr of data -/
section
variable {X : Cx}
def rRepr (K : PySem.W.Frag) : List V → Hp → VK → Prop := fun vs H Q => ∃ v d, vs = [v] ∧ Dp K H v d ∧ d.showable = true ∧ d.canLay0 = true ∧ d.depth ≤ 60 ∧ d.shown.length ≤ sizeLine ∧ Q (.str d.shown) H
theorem cr_repr {k : Nat} (hr : RoomG k X.A) : CallR X (.builtin "repr") (rRepr X.K) := by
  intro pins s σ H vs us Q I r h
  obtain ⟨v, d, rfl, hd, hs, hc, hdp, hz, q⟩ := h
  cases r with
  | cons rv rn =>
    cases rn
    rename_i u
    obtain ⟨as, rd⟩ := Dp.reads I d v u hd rv
    have hnd := PyData.noDict_hsm (as := as) (PyData.hasDict_of_canLay d hc)
    have hu := hr.r.units
    cases rd with
    | none => exact PySem.P.repr_of_none ⟨.str _, H, I.tok _, ⟨_, rfl⟩, q⟩
    | bool b =>
      refine PySem.P.repr_of_bool ⟨.str _, H, I.tok _, ⟨_, rfl⟩, ?_⟩
      cases b <;> exact q
    | int i t => exact PySem.P.repr_of_int (by simpa [PyData.showable] using hs) ⟨.str _, H, I.tok _, ⟨_, rfl⟩, q⟩
    | str x t => exact PySem.P.repr_of_str ⟨.str _, H, I.tok _, ⟨_, rfl⟩, q⟩ hz
    | list h1 h2 h3 h4 =>
      exact repr_of_reads' (.list h1 h2 h3 h4) hs hnd hr.g (by omega) (fun _ _ e => e) (fun h' u tk hk => ⟨.str _, H, I.kept hk, ⟨u, rfl⟩, q⟩) hz
    | tuple h1 h2 h3 h4 =>
      exact repr_of_reads' (.tuple h1 h2 h3 h4) hs hnd hr.g (by omega) (fun _ _ e => e) (fun h' u tk hk => ⟨.str _, H, I.kept hk, ⟨u, rfl⟩, q⟩) hz
    | dict h1 h2 h3 h4 h5 => simp [PyData.canLay0] at hc
end

/-! ### the law's end: the law itself is called where no guard runs -/
section
variable {P : Program} {w : World} {K : PySem.W.Frag} {mg mb : Str → Option Value} {CX : CXT} {k : Nat} {fa a : Addr} {fd : FuncData} {x : Str} {sp : Sp} {s1 : Shared} {its : List Value} {ns : List Int}
/-- what the law's call leaves -/
def Good (s1 : Shared) (r : Result) (s2 : Shared) : Prop := r = .ok (.ret (.bool true)) ∧ OldK s1.heap s2.heap ∧ s2.os = s1.os ∧ AllBare s2.gens
theorem law_at (H : Hp) (kin : K.In s1.heap) (g1 : s1.heap.Ns mainGlobals mg) (g2 : s1.heap.Ns builtinsNs mb) (g3 : ∀ x : Str, x ≠ "__name__" → mb x = bootBuiltins x) (g4 : s1.heap.NoLimit) (g5 : s1.gens = #[])
    (ho : s1.heap.get? a = some { cls := .type "list", data := .seq its.toArray }) (hr : RoomG k callerA)
    (F : ∀ base : Heap, K.In base → base.Ns mainGlobals mg → FnG P w K mg base CX k fa fd [x] sp) (hb : ∀ (s : Shared) (u : Value), BindsTo s fd ⟨[u], []⟩ [(x, u)])
    (q : sp [.ref a] H (fun v _ => v = .bl true) fun _ _ _ => False) (nx : ∀ H e s', CX [] H s1 (fun _ _ _ => False) e s' → False)
    (only : ∀ b, H b = none ∨ (b = a ∧ K.lookup a = none ∧ ∃ o xs, H b = some (.frz o (.lst xs)))) (ok : HOk P w H s1.heap) :
    codeAny (model P w) callerA (.call (.ref fa) ⟨[.ref a], []⟩) (Good s1) s1 := by
  have stay : ∀ (b : Addr) (o : Obj), s1.heap.get? b = some o → (b = a → K.lookup a = none → False) → (hidT s1.heap H).get? b = some o := fun b o e n => hidT_get e (by
    rcases only b with z | ⟨z1, z2, _⟩
    · exact z
    · exact (n z1 z2).elim)
  have nsIn : ∀ {b : Addr} {m : Str → Option Value}, s1.heap.Ns b m → (hidT s1.heap H).Ns b m := by
    intro b m z
    obtain ⟨o, es, ep, e1, e2, e3⟩ := z
    refine ⟨o, es, ep, stay b o e1 fun z1 _ => ?_, e2, e3⟩
    rw [z1, ho] at e1
    cases e1
    cases e2
  have kb : K.In (hidT s1.heap H) := fun b o e => stay b o (kin b o e) fun z1 z2 => by
    rw [z1, z2] at e
    cases e
  have e0 : Env0 P w K mg (hidT s1.heap H) callerA [] s1 H :=
    { frames := rfl, mod := { kin := kb, glob := nsIn g1, blt := ⟨mb, nsIn g2, g3⟩, nolimit := g4.elim fun m z => ⟨m, nsIn z.1, z.2⟩ }, bs := fun b o e => of_hidT e, bsz := Nat.le_of_eq (hidT_size _ _), funs := trivial,
      frf := fun b z => (by cases z), hok := ok, bare := .of_eq g5 }
  refine codeAny_mono ((F _ kb (nsIn g1)).go callerA [] s1 H ⟨[.ref a], []⟩ [.ref a] [.ref a] _ _ hr e0 (hb s1 (.ref a)) (.cons rfl .nil) q) fun r s2 h => ?_
  cases r with
  | error e => exact (nx H e s2 h).elim
  | ok fl =>
    cases fl with
    | ret u =>
      obtain ⟨v, H2, os, bare, un, ok2, rv, qv⟩ := h
      have qv' : v = .bl true := qv
      subst qv'
      have eu : u = Value.bool true := rv
      subst eu
      refine ⟨rfl, OldK.of_keep fun b o e => ?_, os, bare⟩
      rcases only b with z | ⟨_, _, ob, xs, z⟩
      · exact un.keep b o e z (fun y => by cases y) (fun y => by cases y)
      · obtain ⟨e1, _⟩ := ok b _ z
        obtain ⟨e2, _⟩ := ok2 b _ (un.frzs b ob _ z)
        rw [e] at e1
        rw [e2, ← e1]
    | next => exact False.elim h
    | brk => exact False.elim h
    | cont => exact False.elim h
theorem law_G (kin : K.In s1.heap) (g1 : s1.heap.Ns mainGlobals mg) (g2 : s1.heap.Ns builtinsNs mb) (g3 : ∀ x : Str, x ≠ "__name__" → mb x = bootBuiltins x) (g4 : s1.heap.NoLimit) (g5 : s1.gens = #[])
    (ho : s1.heap.get? a = some { cls := .type "list", data := .seq its.toArray }) (hi : IntsAre its ns) (hl : ns.length ≤ sizeLine) (hr : RoomG k callerA)
    (F : ∀ base : Heap, K.In base → base.Ns mainGlobals mg → FnG P w K mg base CX k fa fd [x] sp) (hb : ∀ (s : Shared) (u : Value), BindsTo s fd ⟨[u], []⟩ [(x, u)])
    (q : ∀ H : Hp, SqL K H a (ns.map V.int) → sp [.ref a] H (fun v _ => v = .bl true) fun _ _ _ => False) (nx : ∀ H e s', CX [] H s1 (fun _ _ _ => False) e s' → False) :
    codeAny (model P w) callerA (.call (.ref fa) ⟨[.ref a], []⟩) (Good s1) s1 := by
  have rv := vals_ints hi
  cases hk : K.lookup a with
  | some o =>
    have e := kin a o hk
    rw [ho] at e
    cases e
    refine law_at (fun _ => none) kin g1 g2 g3 g4 g5 ho hr F hb (q _ (.inr ⟨_, its.toArray, _, hk, rfl, rfl, rfl, ?_, by simpa using rv⟩)) nx (fun _ => .inl rfl) fun b u z => by cases z
    rw [List.size_toArray, hi.length]
    exact hl
  | none =>
    refine law_at (fun b => if b = a then some (.frz { cls := .type "list", data := .seq its.toArray } (.lst (ns.map V.int))) else none) kin g1 g2 g3 g4 g5 ho hr F hb
      (q _ (.inl (.inr ⟨{ cls := .type "list", data := .seq its.toArray }, if_pos rfl⟩))) nx (fun b => ?_) fun b u z => ?_
    · by_cases e : b = a
      · exact .inr ⟨e, hk, _, _, if_pos e⟩
      · exact .inl (if_neg e)
    · by_cases e : b = a
      · have z' := (if_pos e).symm.trans z
        cases z'
        rw [e]
        exact ⟨ho, by rw [List.length_map]; exact hl, its, 0, rv, ho⟩
      · have z' := (if_neg e).symm.trans z
        cases z'
end
/-- a law whose def is told by FnG; F gives the written part, the function object, the promise over every base -/
theorem walk_G {l : PySem.W.OpenLaw} {n k : Nat} {q : Program} {loose : List Str} {XP : (Str → Option Value) → Heap → Prop} {YP : World → Heap → Prop} {d : DefRec} {CX : CXT} {x : Str}
    (hn : l.most = some n) (hn2 : n ≤ sizeLine) (hdf : d.params.defaults = []) (hr : Room k callerA)
    (F : ∀ (w : World) (mg : Str → Option Value) (fa : Addr) (h : Heap), YP w h → h.Ns mainGlobals mg → mg d.name = some (.ref fa) →
      ∃ (K : PySem.W.Frag) (fd : FuncData) (sp : Sp), K.In h ∧ (∀ (s : Shared) (u : Value), BindsTo s fd ⟨[u], []⟩ [(x, u)]) ∧
        (∀ (H : Hp) (a : Addr) (ns : List Int), ns.length ≤ n → SqL K H a (ns.map V.int) → sp [.ref a] H (fun v _ => v = .bl true) fun _ _ _ => False) ∧
        ∀ base : Heap, K.In base → base.Ns mainGlobals mg → FnG l.prog w K mg base CX k fa fd [x] sp)
    (nx : ∀ (H : Hp) (s : Shared) (e : Value) (s' : Shared), CX [] H s (fun _ _ _ => False) e s' → False) :
    PySem.W.WalkO q loose XP YP l.row.toRowW d [] (fun f vs => PySem.call f vs) := by
  refine Att.attach_call hn hdf fun w s0 s1 mg mb fa o pm cd doc a vs ns G Y ho hd hcd hmg hobj hints hlen hg => ?_
  obtain ⟨K, fd, sp, kin, hb, hsp, hF⟩ := F w mg fa _ Y G.T.g hmg
  exact law_G kin G.T.g G.T.b G.T.builtins G.T.nolimit hg hobj hints (Nat.le_trans hlen hn2) ⟨hr, rfl⟩ hF hb (fun H hS => hsp H a ns hlen hS) fun H e s' => nx H s1 e s'
end Ow
/-! Ow, part B: short words (defs by name, texts as lists of signs, lists by place), rules that the layer lacks. -/
namespace Ow
open PySem PySem.Spec PyProof.Rows L2

/-! ### the names of the top -/
/-- built-ins that the top leaves alone -/
structure Blt (mg : Str → Option Value) : Prop where
  len : mg "len" = none
  range : mg "range" = none
  zip : mg "zip" = none
  enumerate : mg "enumerate" = none
  sorted : mg "sorted" = none
  list : mg "list" = none
  dict : mg "dict" = none
  set : mg "set" = none
  int : mg "int" = none
  abs : mg "abs" = none
  sum : mg "sum" = none
  min : mg "min" = none
  max : mg "max" = none
  repr : mg "repr" = none
  isinstance : mg "isinstance" = none
  bool : mg "bool" = none
  str : mg "str" = none
  tuple : mg "tuple" = none
  all : mg "all" = none
  any : mg "any" = none
  divmod : mg "divmod" = none
  super : mg "super" = none
  ValueError : mg "ValueError" = none
  reversed : mg "reversed" = none
/-- a def of the top under its name -/
structure Def (K : PySem.W.Frag) (mg : Str → Option Value) (x : Str) (st : Stmt) : Prop where
  ex : ∃ f fd, Fun K x x st f fd ∧ mg x = some (.ref f)
theorem Def.of {K : PySem.W.Frag} {mg : Str → Option Value} {x : Str} {st : Stmt} {f : Addr} {fd : FuncData} (F : FunD K x x (defArgs st) (defBody st) (defScope st) [] [] f fd) (g : mg x = some (.ref f)) : Def K mg x st := by
  obtain ⟨oc, od, dV, kV, doc, pm, an, cdv, ct, osl, e, lk, cd, dd, _⟩ := F.ex
  rcases dd with ⟨_, rfl⟩ | ⟨n, _⟩
  · exact ⟨f, fd, ⟨⟨oc, od, kV, doc, pm, an, cdv, ct, osl, e, lk, cd⟩, F.kp⟩, g⟩
  · exact absurd rfl n
theorem fun_ofD {K : PySem.W.Frag} {x : Str} {st : Stmt} {f : Addr} {fd : FuncData} (F : FunD K x x (defArgs st) (defBody st) (defScope st) [] [] f fd) : Fun K x x st f fd := by
  obtain ⟨oc, od, dV, kV, doc, pm, an, cdv, ct, osl, e, lk, cd, dd, _⟩ := F.ex
  rcases dd with ⟨_, rfl⟩ | ⟨n, _⟩
  · exact ⟨⟨oc, od, kV, doc, pm, an, cdv, ct, osl, e, lk, cd⟩, F.kp⟩
  · exact absurd rfl n
/-- a def that may be called by its name; sp: what it promises -/
structure Dfn (P : Program) (w : World) (K : PySem.W.Frag) (mg : Str → Option Value) (base : Heap) (CX : CXT) (k : Nat) (x : Str) (sp : Sp) : Prop where
  ex : ∃ f fd ps, FnOk P w K mg base CX k f fd ps sp ∧ mg x = some (.ref f) ∧ PySem.W.keepIn K (.ref f) = true ∧ Binds K fd ps []
structure DfnG (P : Program) (w : World) (K : PySem.W.Frag) (mg : Str → Option Value) (base : Heap) (CX : CXT) (k : Nat) (x : Str) (sp : Sp) : Prop where
  ex : ∃ f fd ps, FnG P w K mg base CX k f fd ps sp ∧ mg x = some (.ref f) ∧ PySem.W.keepIn K (.ref f) = true ∧ Binds K fd ps []
section
variable {P : Program} {w : World} {K : PySem.W.Frag} {mg : Str → Option Value} {base : Heap} {CX : CXT} {x : Str} {st : Stmt} {N ps : List Str} {k : Nat} {sp : Sp}
abbrev BindsBy (x : Str) (st : Stmt) (ps : List Str) : Prop := ∀ (kV doc pm : Value) (an : Option Addr) (cdv ct : Value) (us : List Value), us.length = ps.length →
  bindArgs (PySem.W.fnOf x x (defArgs st) (defBody st) (defScope st) .none kV doc pm an cdv ct) ⟨us, []⟩ = pure (ps.zip us)
/-- a def that lets nothing out, by its body -/
theorem def_ok (D : Def K mg x st) (S : FnScope N ps (defScope st)) (b : BindsBy x st ps) (ln : ∀ vs H Q E, sp vs H Q E → vs.length = ps.length)
    (body : ∀ (cdv : Value) (A : Around) (fr : List Env) (s : Shared) (H : Hp) (vs : List V) (Q : VK) (E : XK) (f : Addr), Room k (A.deeper (envOfC x (defScope st) s.heap.objs.size f cdv)) → sp vs H Q E →
      ∃ t, PSs (cxOf CX0 P w K mg base N x (defScope st) f cdv A fr s H E).nox (defBody st) t ∧ t { nx := fun _ H' => Q .non H', rt := Q } (start N vs) H) : Dfn P w K mg base CX0 (k + 1) x sp := by
  obtain ⟨f, fd, F, g⟩ := D.ex
  exact ⟨f, fd, ps, F.ok S ln fun cdv A fr s H vs Q E hr h => body cdv A fr s H vs Q E f hr h, g, F.kp, F.binds b⟩
/-- a def that may raise -/
theorem def_okX (D : Def K mg x st) (S : FnScope N ps (defScope st)) (b : BindsBy x st ps) (ln : ∀ vs H Q E, sp vs H Q E → vs.length = ps.length)
    (body : ∀ (cdv : Value) (A : Around) (fr : List Env) (s : Shared) (H : Hp) (vs : List V) (Q : VK) (E : XK) (f : Addr), Room k (A.deeper (envOfC x (defScope st) s.heap.objs.size f cdv)) → sp vs H Q E →
      ∃ t, PSs (cxOf CX P w K mg base N x (defScope st) f cdv A fr s H E) (defBody st) t ∧ t { nx := fun _ H' => Q .non H', rt := Q } (start N vs) H) : Dfn P w K mg base CX (k + 1) x sp := by
  obtain ⟨f, fd, F, g⟩ := D.ex
  obtain ⟨oc, od, kV, doc, pm, an, cdv, ct, osl, rfl, lk, hcd⟩ := F.ex
  exact ⟨f, _, ps, fn_of lk hcd S ln fun A fr s H vs Q E hr h => body cdv A fr s H vs Q E f hr h, g, F.kp, F.binds b⟩
/-- a def that leans on the guards -/
theorem def_okG (D : Def K mg x st) (S : FnScope N ps (defScope st)) (b : BindsBy x st ps) (ln : ∀ vs H Q E, sp vs H Q E → vs.length = ps.length)
    (body : ∀ (cdv : Value) (A : Around) (fr : List Env) (s : Shared) (H : Hp) (vs : List V) (Q : VK) (E : XK) (f : Addr), RoomG k (A.deeper (envOfC x (defScope st) s.heap.objs.size f cdv)) → sp vs H Q E →
      ∃ t, PSs (cxOf CX P w K mg base N x (defScope st) f cdv A fr s H E).nox (defBody st) t ∧ t { nx := fun _ H' => Q .non H', rt := Q } (start N vs) H) : DfnG P w K mg base CX (k + 1) x sp := by
  obtain ⟨f, fd, F, g⟩ := D.ex
  exact ⟨f, fd, ps, okG F S ln fun cdv A fr s H vs Q E hr h => let ⟨t, h1, h2⟩ := body cdv A fr s H vs Q E f hr h; ⟨t, h1.nox, h2⟩, g, F.kp, F.binds b⟩
/-- the law itself -/
theorem law_okG {f : Addr} {fd : FuncData} (F : Fun K x x st f fd) (S : FnScope N ps (defScope st)) (ln : ∀ vs H Q E, sp vs H Q E → vs.length = ps.length)
    (body : ∀ (cdv : Value) (A : Around) (fr : List Env) (s : Shared) (H : Hp) (vs : List V) (Q : VK) (E : XK), RoomG k (A.deeper (envOfC x (defScope st) s.heap.objs.size f cdv)) → sp vs H Q E →
      ∃ t, PSs (cxOf CX P w K mg base N x (defScope st) f cdv A fr s H E).nox (defBody st) t ∧ t { nx := fun _ H' => Q .non H', rt := Q } (start N vs) H) : FnG P w K mg base CX (k + 1) f fd ps sp :=
  okG F S ln fun cdv A fr s H vs Q E hr h => let ⟨t, h1, h2⟩ := body cdv A fr s H vs Q E hr h; ⟨t, h1.nox, h2⟩
/-- a def that leans on the guards and may raise -/
theorem def_okGX (D : Def K mg x st) (S : FnScope N ps (defScope st)) (b : BindsBy x st ps) (ln : ∀ vs H Q E, sp vs H Q E → vs.length = ps.length)
    (body : ∀ (cdv : Value) (A : Around) (fr : List Env) (s : Shared) (H : Hp) (vs : List V) (Q : VK) (E : XK) (f : Addr), RoomG k (A.deeper (envOfC x (defScope st) s.heap.objs.size f cdv)) → sp vs H Q E →
      ∃ t, PSs (cxOf CX P w K mg base N x (defScope st) f cdv A fr s H E) (defBody st) t ∧ t { nx := fun _ H' => Q .non H', rt := Q } (start N vs) H) : DfnG P w K mg base CX (k + 1) x sp := by
  obtain ⟨f, fd, F, g⟩ := D.ex
  exact ⟨f, fd, ps, okG F S ln fun cdv A fr s H vs Q E hr h => body cdv A fr s H vs Q E f hr h, g, F.kp, F.binds b⟩
end
section
variable {X : Cx} {CX : CXT} {j k : Nat} {x : Str} {sp : Sp} {E : XK} {p pos : Pos} {e : Expr} {es : List Expr} {t : TA}
def tD (sp : Sp) (E : XK) (t : TA) : TE := fun σ H Q => t σ H fun vs H1 => sp vs H1 Q E
theorem tD_of {t : TA} : (fun σ H Q => tCall sp [] E t σ H Q) = tD sp E t := by
  funext σ H Q
  show (t σ H fun vs H1 => sp (vs ++ []) H1 Q E) = _
  simp only [List.append_nil]
  rfl
theorem pe_dx (c : Dfn X.prog X.w X.K X.mg X.base CX k x sp) (hr : Room j X.A) (hx : Passes CX X E) (ha : PA X (e :: es) t) (hk : k ≤ j := by decide) (hg : Gl X x := by rfl)
    (hdb : (x == ("__debug__" : Str)) = false := by decide) (he : starEach (e :: es) X.env = (false, eval e X.env) :: starEach es X.env := by rfl) (hpl : (backTo pos (starEach es X.env)).any (·.1) = false := by rfl) :
    PE X (.Call (.Name x p) (e :: es) [] pos) (tD sp E t) := by
  obtain ⟨f, fd, ps, F, hm, kp, b⟩ := c.ex
  have z : PE X (.Call (.Name x p) (e :: es) [] pos) (tCall sp [] E t) := pe_call F (hr.mono hk) hg hm kp b .nil hx ha hdb he hpl
  rw [← tD_of]
  exact z
/-- a call of a def that raises nothing -/
theorem pe_d (c : Dfn X.prog X.w X.K X.mg X.base CX0 k x sp) (hr : Room j X.A) (ha : PA X (e :: es) t) (hk : k ≤ j := by decide) (hg : Gl X x := by rfl)
    (hdb : (x == ("__debug__" : Str)) = false := by decide) (he : starEach (e :: es) X.env = (false, eval e X.env) :: starEach es X.env := by rfl) (hpl : (backTo pos (starEach es X.env)).any (·.1) = false := by rfl) :
    PE X (.Call (.Name x p) (e :: es) [] pos) (tD sp E0 t) := pe_dx c hr pass0 ha hk hg hdb he hpl
theorem RoomG.mono {A : Around} (h : RoomG j A) (hk : k ≤ j) : RoomG k A := ⟨h.1.mono hk, h.2⟩
theorem pe_dG (c : DfnG X.prog X.w X.K X.mg X.base CX k x sp) (hr : RoomG j X.A) (hx : Passes CX X E) (ha : PA X (e :: es) t) (hk : k ≤ j := by decide) (hg : Gl X x := by rfl)
    (hdb : (x == ("__debug__" : Str)) = false := by decide) (he : starEach (e :: es) X.env = (false, eval e X.env) :: starEach es X.env := by rfl) (hpl : (backTo pos (starEach es X.env)).any (·.1) = false := by rfl) :
    PE X (.Call (.Name x p) (e :: es) [] pos) (tD sp E t) := by
  obtain ⟨f, fd, ps, F, hm, kp, b⟩ := c.ex
  have z : PE X (.Call (.Name x p) (e :: es) [] pos) (tCall sp [] E t) := pe_callG F (hr.mono hk) hg hm kp b hx ha hdb he hpl
  rw [← tD_of]
  exact z
end

/-! ### weaker readings -/
section
variable {X : Cx}
theorem OpR.imp {f : Value → Value → Sem Value} {r r' : R2} (h : OpR X f r) (i : ∀ x y H Q, r' x y H Q → r x y H Q) : OpR X f r' := fun pins s σ H x y v u Q I rx ry q => h pins s σ H x y v u Q I rx ry (i _ _ _ _ q)
theorem CallR.imp {f : Value} {r r' : List V → Hp → VK → Prop} (h : CallR X f r) (i : ∀ xs H Q, r' xs H Q → r xs H Q) : CallR X f r' := fun pins s σ H xs us Q I rs q => h pins s σ H xs us Q I rs (i _ _ _ q)
theorem IxR.imp {r r' : R2} (h : IxR X r) (i : ∀ x y H Q, r' x y H Q → r x y H Q) : IxR X r' := fun value slice pins s σ H x y v u Q I rx ry q hs => h value slice pins s σ H x y v u Q I rx ry (i _ _ _ _ q) hs
theorem SlR.imp {r r' : V → Option Int → Option Int → Hp → VK → Prop} (h : SlR X r) (i : ∀ x lo hi H Q, r' x lo hi H Q → r x lo hi H Q) : SlR X r' := fun pins s σ H x v vl vu lo hi sl Q I rx hs pl pu q => h pins s σ H x v vl vu lo hi sl Q I rx hs pl pu (i _ _ _ _ _ q)
end

/-! ### texts as lists of signs -/
/-- the text of these signs -/
abbrev tx (l : List Nat) : V := .str ⟨l.toArray⟩
theorem tx_inj {a b : List Nat} (h : tx a = tx b) : a = b := by
  have e : (⟨a.toArray⟩ : Str) = ⟨b.toArray⟩ := V.str.inj h
  exact SX.S_inj e
theorem tx_dec (a b : List Nat) : decide (tx a = tx b) = decide (a = b) := by
  by_cases h : a = b
  · rw [decide_eq_true h, decide_eq_true (congrArg tx h)]
  · rw [decide_eq_false h, decide_eq_false fun e => h (tx_inj e)]
/-- a part of a list, as Python's slices cut it -/
def cut {α : Type} (a : List α) (lo hi : Option Int) : List α := (a.drop (HT.sIx a.length 0 lo)).take (HT.sIx a.length a.length hi - HT.sIx a.length 0 lo)
theorem cutV_eq (a : List V) (lo hi : Option Int) : cutV a lo hi = cut a lo hi := rfl
theorem cutS_eq (a : List Nat) (lo hi : Option Int) : cutS ⟨a.toArray⟩ lo hi = ⟨(cut a lo hi).toArray⟩ := by
  unfold cutS cut
  simp [Str.length]
section
variable {α : Type} (a : List α)
theorem cut_to (n : Nat) : cut a none (some (n : Int)) = a.take n := by
  unfold cut
  rw [HT.sIx_none, HT.sIx_nat, List.drop_zero, Nat.sub_zero, Nat.min_def]
  split
  · rfl
  · rw [List.take_length, List.take_of_length_le (by omega)]
theorem cut_from (n : Nat) : cut a (some (n : Int)) none = a.drop n := by
  unfold cut
  rw [HT.sIx_none, HT.sIx_nat, Nat.min_def]
  split
  · exact List.take_of_length_le (by rw [List.length_drop]; omega)
  · rw [List.drop_length, List.drop_eq_nil_of_le (by omega), List.take_nil]
theorem cut_mid (n m : Nat) : cut a (some (n : Int)) (some (m : Int)) = (a.drop n).take (m - n) := by
  unfold cut
  rw [HT.sIx_nat, HT.sIx_nat]
  by_cases h : n ≤ a.length
  · rw [Nat.min_eq_left h]
    by_cases h2 : m ≤ a.length
    · rw [Nat.min_eq_left h2]
    · rw [Nat.min_eq_right (show a.length ≤ m by omega), List.take_of_length_le (by rw [List.length_drop]; omega), List.take_of_length_le (by rw [List.length_drop]; omega)]
  · rw [Nat.min_eq_right (show a.length ≤ n by omega), List.drop_length, List.drop_eq_nil_of_le (show a.length ≤ n by omega), List.take_nil, List.take_nil]
theorem cut_last : cut a none (some (-1)) = a.take (a.length - 1) := by
  unfold cut
  rw [HT.sIx_none, List.drop_zero, Nat.sub_zero]
  congr 1
  unfold HT.sIx
  simp
  omega
theorem cut_all : cut a none none = a := by
  unfold cut
  rw [HT.sIx_none, HT.sIx_none]
  simp
end
theorem cut_toI {α : Type} (a : List α) {i : Int} (h : 0 ≤ i) : cut a none (some i) = a.take i.toNat := by
  obtain ⟨n, rfl⟩ := Int.eq_ofNat_of_zero_le h
  exact cut_to a n
theorem cut_fromI {α : Type} (a : List α) {i : Int} (h : 0 ≤ i) : cut a (some i) none = a.drop i.toNat := by
  obtain ⟨n, rfl⟩ := Int.eq_ofNat_of_zero_le h
  exact cut_from a n
theorem cut_midI {α : Type} (a : List α) {i j : Int} (h : 0 ≤ i) (h2 : 0 ≤ j) : cut a (some i) (some j) = (a.drop i.toNat).take (j.toNat - i.toNat) := by
  obtain ⟨n, rfl⟩ := Int.eq_ofNat_of_zero_le h
  obtain ⟨m, rfl⟩ := Int.eq_ofNat_of_zero_le h2
  exact cut_mid a n m
section
variable {X : Cx} {pos : Pos}
/-- a written text by its signs -/
theorem pe_tx (l : List Nat) {x : Str} {j : Nat} (e : x = ⟨l.toArray⟩ := by decide +kernel) : PE X (.Constant (.str x) j pos) (tC (tx l)) := by
  subst e
  exact pe_str
def rCatT : R2 := fun x y H Q => ∃ a b, x = tx a ∧ y = tx b ∧ a.length + b.length ≤ sizeLine ∧ Q (tx (a ++ b)) H
theorem op_catT : OpR X (binaryOp .Add) rCatT := OpR.imp op_add_str fun x y H Q h => by
  obtain ⟨a, b, rfl, rfl, hz, q⟩ := h
  refine ⟨_, _, rfl, rfl, by simpa [Str.length] using hz, ?_⟩
  rw [SX.S_cat]
  exact q
def rEqT : R2 := fun x y H Q => ∃ a b, x = tx a ∧ y = tx b ∧ Q (.bl (decide (a = b))) H
theorem op_eqT : OpR X (compareOp .Eq) rEqT := OpR.imp op_eq fun x y H Q h => by
  obtain ⟨a, b, rfl, rfl, q⟩ := h
  refine ⟨rfl, ?_⟩
  rw [tx_dec]
  exact q
def rNeT : R2 := fun x y H Q => ∃ a b, x = tx a ∧ y = tx b ∧ Q (.bl (!decide (a = b))) H
theorem op_neT : OpR X (compareOp .NotEq) rNeT := OpR.imp op_ne fun x y H Q h => by
  obtain ⟨a, b, rfl, rfl, q⟩ := h
  refine ⟨rfl, ?_⟩
  rw [tx_dec]
  exact q
def rEqI : R2 := rI0 fun i j => .bl (decide (i = j))
theorem op_eqI : OpR X (compareOp .Eq) rEqI := OpR.imp op_eq fun x y H Q h => by
  obtain ⟨i, j, rfl, rfl, q⟩ := h
  refine ⟨rfl, ?_⟩
  have e : decide (V.int i = V.int j) = decide (i = j) := by
    by_cases z : i = j
    · rw [decide_eq_true z, decide_eq_true (congrArg V.int z)]
    · rw [decide_eq_false z, decide_eq_false fun y => z (V.int.inj y)]
  rw [e]
  exact q
def rNeI : R2 := rI0 fun i j => .bl (!decide (i = j))
theorem op_neI : OpR X (compareOp .NotEq) rNeI := OpR.imp op_ne fun x y H Q h => by
  obtain ⟨i, j, rfl, rfl, q⟩ := h
  refine ⟨rfl, ?_⟩
  have e : decide (V.int i = V.int j) = decide (i = j) := by
    by_cases z : i = j
    · rw [decide_eq_true z, decide_eq_true (congrArg V.int z)]
    · rw [decide_eq_false z, decide_eq_false fun y => z (V.int.inj y)]
  rw [e]
  exact q
def rLtT : R2 := fun x y H Q => ∃ a b, x = tx a ∧ y = tx b ∧ Q (.bl (decide (a < b))) H
theorem op_ltT : OpR X (compareOp .Lt) rLtT := OpR.imp op_lt_str fun x y H Q h => by
  obtain ⟨a, b, rfl, rfl, q⟩ := h
  exact ⟨_, _, rfl, rfl, q⟩
def rInT : R2 := fun x y H Q => ∃ c a, x = tx [c] ∧ y = tx a ∧ Q (.bl (decide (c ∈ a))) H
theorem op_inT : OpR X (compareOp .In) rInT := OpR.imp op_in_sign fun x y H Q h => by
  obtain ⟨c, a, rfl, rfl, q⟩ := h
  exact ⟨_, _, rfl, rfl, q⟩
def rNotInT : R2 := fun x y H Q => ∃ c a, x = tx [c] ∧ y = tx a ∧ Q (.bl (!decide (c ∈ a))) H
theorem op_notInT : OpR X (compareOp .NotIn) rNotInT := OpR.imp op_notIn_sign fun x y H Q h => by
  obtain ⟨c, a, rfl, rfl, q⟩ := h
  exact ⟨_, _, rfl, rfl, q⟩
def rIxTx : R2 := fun x y H Q => ∃ a i c, x = tx a ∧ y = .int i ∧ a.length ≤ sizeLine ∧ atI a i = some c ∧ Q (tx [c]) H
theorem ix_tx : IxR X rIxTx := IxR.imp ix_str fun x y H Q h => by
  obtain ⟨a, i, c, rfl, rfl, hz, e, q⟩ := h
  exact ⟨_, i, c, rfl, rfl, by simpa [Str.length] using hz, e, q⟩
def rSlTx : V → Option Int → Option Int → Hp → VK → Prop := fun x lo hi H Q => ∃ a, x = tx a ∧ a.length ≤ sizeLine ∧ Q (tx (cut a lo hi)) H
theorem sl_tx : SlR X rSlTx := SlR.imp sl_str fun x lo hi H Q h => by
  obtain ⟨a, rfl, hz, q⟩ := h
  refine ⟨_, rfl, by simpa [Str.length] using hz, ?_⟩
  rw [cutS_eq]
  exact q
def rLenT : List V → Hp → VK → Prop := fun xs H Q => ∃ a, xs = [tx a] ∧ a.length ≤ sizeLine ∧ Q (.int (a.length : Int)) H
theorem call_lenT : CallR X (.builtin "len") rLenT := CallR.imp call_len_str fun xs H Q h => by
  obtain ⟨a, rfl, hz, q⟩ := h
  refine ⟨_, rfl, by simpa [Str.length] using hz, ?_⟩
  simpa [Str.length] using q
/-- text * n -/
def rRepT : R2 := fun x y H Q => ∃ a i, x = tx a ∧ y = .int i ∧ 0 ≤ i ∧ i ≤ 16777216 ∧ a.length * i.toNat ≤ sizeLine ∧ Q (tx (List.replicate i.toNat a).flatten) H
theorem fold_app (l : List Nat) : ∀ (n : Nat) (acc : Array Nat), (List.replicate n l.toArray).foldl (· ++ ·) acc = acc ++ ((List.replicate n l).flatten).toArray
  | 0, acc => by simp
  | n + 1, acc => by
    rw [List.replicate_succ, List.foldl_cons, fold_app l n, List.replicate_succ, List.flatten_cons]
    apply Array.ext'
    simp
theorem op_repT : OpR X (binaryOp .Mult) rRepT := by
  intro pins s σ H x y v u Q I rx ry h
  obtain ⟨a, i, rfl, rfl, h0, h1, hz, q⟩ := h
  obtain ⟨t, rfl⟩ := rx
  obtain ⟨t', rfl⟩ := ry
  obtain ⟨n, rfl⟩ := Int.eq_ofNat_of_zero_le h0
  have hn : ((n : Nat) : Int).toNat = n := Int.toNat_natCast n
  rw [hn] at hz q
  have al : (⟨a.toArray⟩ : Str).length = a.length := by simp [Str.length]
  refine PySem.P.mul_str ?_ (fun h2 h3 => ?_) (fun h2 h3 => ?_) ?_
  · rw [decide_eq_false (by omega), decide_eq_false (by omega)]
    rfl
  · rw [al]
    intro h4
    have h5 : ((a.length : Int)) * (n : Int) ≤ 16777216 := by
      have : a.length * n ≤ 16777216 := by rw [sizeLine_eq] at hz; exact hz
      have h8 : ((a.length * n : Nat) : Int) ≤ ((16777216 : Nat) : Int) := Int.ofNat_le.mpr this
      rw [Int.natCast_mul] at h8
      exact h8
    have h6 : (2 ^ 63 - 1 : Int) / (n : Int) * (n : Int) + (n : Int) > (2 ^ 63 - 1) := by
      have := Int.lt_ediv_add_one_mul_self (2 ^ 63 - 1 : Int) (show (0 : Int) < (n : Int) by omega)
      rw [Int.add_mul, Int.one_mul] at this
      omega
    have h7 : ((2 ^ 63 - 1 : Int) / (n : Int) + 1) * (n : Int) ≤ (a.length : Int) * (n : Int) := Int.mul_le_mul_of_nonneg_right (by omega) (by omega)
    rw [Int.add_mul, Int.one_mul] at h7
    omega
  · rw [al, hn]
    unfold Builtin.Str.tooLong
    exact decide_eq_false (Nat.not_lt.mpr hz)
  · by_cases c1 : ((n : Nat) : Int) < 1
    · rw [if_pos c1]
      have e0 : n = 0 := by omega
      subst e0
      exact ⟨by decide, .str _, H, I.tok _, ⟨_, rfl⟩, q⟩
    · rw [if_neg c1]
      by_cases c2 : (((n : Nat) : Int) == 1 || (⟨a.toArray⟩ : Str).length == 0) = true
      · rw [if_pos c2]
        refine ⟨.str ⟨a.toArray⟩, H, I, ⟨_, rfl⟩, ?_⟩
        have e : (List.replicate n a).flatten = a := by
          rw [al] at c2
          simp only [Bool.or_eq_true, beq_iff_eq] at c2
          rcases c2 with c2 | c2
          · have e1 : n = 1 := by omega
            subst e1
            simp
          · have e1 : a = [] := List.length_eq_zero_iff.mp c2
            subst e1
            simp
        rw [e] at q
        exact q
      · rw [if_neg c2, hn]
        have e : (List.replicate n (⟨a.toArray⟩ : Str).cps).foldl (· ++ ·) #[] = ((List.replicate n a).flatten).toArray := by
          have := fold_app a n #[]
          simpa using this
        rw [e]
        refine ⟨?_, .str _, H, I.tok _, ⟨_, rfl⟩, q⟩
        show (List.replicate n a).flatten.toArray.size ≤ sizeLine
        simp
        rw [Nat.mul_comm]
        exact hz
end
end Ow
/-! Ow, part C: a list's item read for an operator in place, a text turned about; heaps that differ at one place; the bag. -/
namespace Ow
open PySem PySem.Spec PyProof.Rows L2

section
variable {X : Cx}
/-- xs[i], for xs[i] op= e -/
theorem pg_list : PGet X (rIxL X.K) := by
  intro pins s σ H o i ov iv Q I ro ri h
  obtain ⟨p, xs, k, z, rfl, rfl, hq, he, q⟩ := h
  cases ro
  obtain ⟨t, rfl⟩ := ri
  obtain ⟨its, r, pl, hz⟩ := I.list hq
  obtain ⟨j, h1, h2, h3, h4, h5⟩ := atI_get he
  obtain ⟨u, eu, ru⟩ := r.get h2
  have hl := r.length
  have hn := line63
  have fin : EP X pins σ Q u s := ⟨z, H, I, ru, q⟩
  by_cases h0 : 0 ≤ k
  · have hj : k.toNat = j := by
      rw [seqIndex_of h0 h5] at h1
      exact Option.some.inj h1
    exact wpAny_getItem_list pl.isList h0 (by omega) (by rw [hj]; simpa using eu) fin
  · have hj : (k + (its.toArray.size : Int)).toNat = j := by
      rw [seqIndex_neg (by omega) h4] at h1
      rw [List.size_toArray, ← hl]
      exact Option.some.inj h1
    exact wpAny_getItem_list_neg pl.isList (by omega) (by rw [List.size_toArray]; omega) (by omega) (by rw [hj]; simpa using eu) fin
theorem get_rev (a : List Nat) : ((List.range a.length).map fun k => a.toArray.getD (a.length - 1 - k) 0) = a.reverse := by
  apply List.ext_getElem
  · simp
  · intro i h1 h2
    simp at h1
    have h3 : a.length - 1 - i < a.length := by omega
    simp [Array.getD, h3, List.getElem_reverse]
/-- s[::-1] -/
def tRevT (te : TE) : TE := fun σ H Q => te σ H fun x H1 => ∃ a, x = tx a ∧ a.length ≤ sizeLine ∧ Q (tx a.reverse) H1
theorem pe_revT {e : Expr} {te : TE} {k : Nat} {p1 p2 p3 pos : Pos} (he : PE X e te) : PE X (.Subscript e (.Slice none none (some (.UnaryOp .USub (.Constant (.int 1) k p1) p2)) p3) pos) (tRevT te) := by
  refine ⟨fun pins s σ H Q I h => ?_⟩
  refine Subscript_ (thn (he.run pins s σ H _ I h) fun v s1 z => ?_)
  obtain ⟨x, H1, I1, r1, a, rfl, hz, q⟩ := z
  obtain ⟨t, rfl⟩ := r1
  have hst : PO X (some (.UnaryOp .USub (.Constant (.int 1) k p1) p2)) (tPart (tUn (rU fun i => .int (-i)) (tC (.int 1)))) := po_some (pe_un un_neg pe_int)
  refine wpAny_Slice (thn (po_none.run pins s1 σ H1 (fun o H2 => o = none ∧ H2 = H1) I1 ⟨rfl, rfl⟩) fun vl s2 z => ?_)
  obtain ⟨l, H2, I2, pl, rfl, rfl⟩ := z
  refine thn (po_none.run pins s2 σ H2 (fun o H3 => o = none ∧ H3 = H2) I2 ⟨rfl, rfl⟩) fun vu s3 z => ?_
  obtain ⟨u, H3, I3, pu, rfl, rfl⟩ := z
  refine thn (hst.run pins s3 σ H3 (fun o H4 => o = some (-1) ∧ H4 = H3) I3 ⟨1, rfl, -1, rfl, rfl, rfl⟩) fun vs s4 z => ?_
  obtain ⟨o, H4, I4, ps, rfl, rfl⟩ := z
  have I5 : Inv X pins σ H4 { s4 with heap := s4.heap.push { cls := .type "slice", data := .fields #[vl, vu, vs] } } := I4.kept (t' := s4.toks) fun b ob q => Heap.get?_push_of_some _ q
  obtain ⟨lo, el, el2⟩ := IsPart.raw pl
  obtain ⟨up, eu, eu2⟩ := IsPart.raw pu
  obtain ⟨st, es, es2⟩ := IsPart.raw ps
  cases lo with
  | some y => cases el2
  | none =>
    cases up with
    | some y => cases eu2
    | none =>
      cases st with
      | none => cases es2
      | some y =>
        obtain ⟨m, tm⟩ := y
        have em : m = -1 := by simpa using es2
        subst em
        subst el eu es
        show wpAny (model X.prog X.w) X.A (subscriptTail e (.Slice none none (some (.UnaryOp .USub (.Constant (.int 1) k p1) p2)) p3) (.str ⟨a.toArray⟩ t) (.ref s4.heap.objs.size)) (EP X pins σ Q) X.xe _
        refine tail_any (ops := [.str ⟨a.toArray⟩ t, .ref s4.heap.objs.size]) (typeIs_str _ _ _) F.slot_str_getitem.lookup ?_ (by with_unfolding_all rfl)
        refine wpAny_getItem_str_slice (l := none) (u := none) (st := some (-1, tm)) ⟨_, Heap.get?_push_size _ rfl, rfl, rfl⟩ rfl ?_
        have hl : (⟨a.toArray⟩ : Str).length = a.length := by simp [Str.length]
        have e2 : Builtin.Str.strSliceIndices none none (-1) a.length = (List.range a.length).map fun k => a.length - 1 - k := picked_rev _
        unfold sliceMade slicePicked
        simp only [Option.map_none, Option.map_some, Option.getD_some, hl, e2]
        rw [if_neg (by simp)]
        have e3 : ((List.range a.length).map fun k => a.length - 1 - k).filterMap (fun x => a.toArray[x]?) = a.reverse := by
          rw [PyProof.Rows.filterMap_get a.toArray _ (fun i hi => by
            obtain ⟨k, hk, rfl⟩ := List.mem_map.mp hi
            have := List.mem_range.mp hk
            simp
            omega), List.map_map]
          exact get_rev a
        rw [e3]
        refine ⟨?_, tx a.reverse, H4, I5.tok _, ⟨_, rfl⟩, q⟩
        show a.reverse.toArray.size ≤ sizeLine
        simpa using hz
end

theorem MtR.imp {id : String} {r r' : V → List V → Hp → VK → Prop} (h : MtR X id r) (i : ∀ x xs H Q, r' x xs H Q → r x xs H Q) : MtR X id r' := fun pins s σ H x xs v us Q I rx rs q => h pins s σ H x xs v us Q I rx rs (i _ _ _ _ q)
theorem joinE : ∀ ls : List (List Nat), TL.joinL [] ls = ls.flatten
  | [] => rfl
  | [p] => by simp [TL.joinL]
  | p :: q :: r => by
    rw [TL.joinL, joinE (q :: r)]
    simp
/-- "".join(xs) -/
def rJoinE (K : PySem.W.Frag) : V → List V → Hp → VK → Prop := fun x xs H Q => ∃ (p : Addr) (ls : List (List Nat)), x = tx [] ∧ xs = [.ref p] ∧ SqL K H p (ls.map tx) ∧ ls.flatten.length ≤ 16777216 ∧ Q (tx ls.flatten) H
theorem mt_joinE : MtR X "str.join" (rJoinE X.K) := MtR.imp mt_join fun x xs H Q h => by
  obtain ⟨p, ls, rfl, rfl, hs, hz, q⟩ := h
  refine ⟨_, p, ls.map SX.S, rfl, rfl, .inl ?_, ?_, ?_⟩
  · rw [List.map_map]
    exact hs
  · rw [SX.lens, List.length_map]
    rw [List.length_flatten] at hz
    rw [SX.S_len]
    simpa using hz
  · have e : Txt.join (SX.S []) (ls.map SX.S) = SX.S ls.flatten := by rw [SX.join_S, joinE]
    rw [e]
    exact q
theorem pe_joinE {to te : TE} {o e : Expr} {apos pos : Pos} (ho : PE X o to) (he : PE X e te) (hs : starEach [e] X.env = [(false, eval e X.env)] := by rfl) (hbase : attributeBase o "join" X.env (eval o X.env) = eval o X.env := by rfl) (hline : (apos.endLine == pos.line) = true := by rfl) :
    PE X (.Call (.Attribute o "join" apos) [e] [] pos) (tM1 (rJoinE X.K) to te) := pe_m1 F.slot_str_join F.type_str_join mt_joinE ho he hs hbase hline
/-- a comprehension without a test -/
theorem yes {σ : L2.St} {H : Hp} {A B : Hp → Prop} (h : A H) : tYes σ H (fun b H3 => if b = true then A H3 else B H3) := by
  show if true = true then A H else B H
  rw [if_pos rfl]
  exact h

theorem walk_tx {a : List Nat} : Walk (Its ⟨a.toArray⟩) a.length (fun _ => True) (fun i H v H' => H' = H ∧ ∃ c, a[i]? = some c ∧ v = tx [c]) := by
  have w := walk_str (z := ⟨a.toArray⟩)
  have e : (⟨a.toArray⟩ : Str).cps.size = a.length := by simp
  rw [e] at w
  refine w.mono (fun _ z => z) fun i H x H' hi _ y => ?_
  obtain ⟨e1, c, e2, e3⟩ := y
  refine ⟨e1, c, ?_, e3⟩
  simpa using e2
/-- a for over a text's signs -/
theorem for_T {a : List Nat} {g : TG} {tb : TS} {D : Ends} {σ : L2.St} {H : Hp} (Pv : Nat → L2.St → Hp → Prop) (h0 : Pv 0 σ H)
    (hs : ∀ i c σ H, a[i]? = some c → Pv i σ H → g (tx [c]) σ H fun σ2 H2 => tb { D with nx := Pv (i + 1), ct := Pv (i + 1), bk := D.nx } σ2 H2) (hd : ∀ σ H, Pv a.length σ H → D.nx σ H) :
    ∃ W : Nat → Nat → L2.St → Hp → Prop, (∃ m, W 0 m σ H) ∧ ∀ i m σ H, W i m σ H →
      ((Its ⟨a.toArray⟩).stop i H ∧ D.nx σ H) ∨ ((Its ⟨a.toArray⟩).go i H ∧ ∃ N : L2.St → Hp → Prop, (∀ σ' H', N σ' H' → ∃ m', m' < m ∧ W (i + 1) m' σ' H') ∧ ∀ x H', (Its ⟨a.toArray⟩).yld i H x H' → g x σ H' fun σ2 H2 => tb { D with nx := N, ct := N, bk := D.nx } σ2 H2) :=
  for_it walk_tx Pv h0 (fun _ _ _ _ _ => trivial) (fun i x σ H H' hi p y => by
    obtain ⟨rfl, c, hc, rfl⟩ := y
    exact hs i c σ _ hc p) hd
/-- a comprehension over a text's signs -/
theorem lc_T {a : List Nat} {g : TG} {tt : TT} {te : TE} {vs : List Nat} {σ : L2.St} {H1 : Hp} {D : Addr} {Qd : Hp → Prop} (Pv : Nat → Hp → Prop) (h0 : Pv 0 (upd H1 D (.lst [])))
    (hs : ∀ i c H, a[i]? = some c → Pv i H → g (tx [c]) (wipe σ vs) H fun σ2 H2 => wipe σ2 vs = wipe σ vs ∧ tt σ2 H2 fun b H3 =>
      if b = true then te σ2 H3 fun y H4 => ∃ acc, H4 D = some (.lst acc) ∧ acc.length < sizeLine ∧ Pv (i + 1) (upd H4 D (.lst (acc ++ [y]))) else Pv (i + 1) H3) (hd : ∀ H, Pv a.length H → Qd H) :
    ∃ W : Nat → Nat → Hp → Prop, (∃ m, W 0 m (upd H1 D (.lst []))) ∧ ∀ i m H, W i m H →
      ((Its ⟨a.toArray⟩).stop i H ∧ Qd H) ∨ ((Its ⟨a.toArray⟩).go i H ∧ ∃ Nx : Hp → Prop, (∀ H', Nx H' → ∃ m', m' < m ∧ W (i + 1) m' H') ∧ ∀ x H', (Its ⟨a.toArray⟩).yld i H x H' → g x (wipe σ vs) H' fun σ2 H2 => wipe σ2 vs = wipe σ vs ∧ tt σ2 H2 fun b H3 =>
        if b = true then te σ2 H3 fun y H4 => ∃ acc, H4 D = some (.lst acc) ∧ acc.length < sizeLine ∧ Nx (upd H4 D (.lst (acc ++ [y]))) else Nx H3) :=
  lc_it walk_tx Pv h0 (fun _ _ _ _ => trivial) (fun i x H H' hi p y => by
    obtain ⟨rfl, c, hc, rfl⟩ := y
    exact hs i c _ hc p) hd
theorem at_nat {α : Type} {xs : List α} {z : Int} {j : Nat} {v : α} (e : z = (j : Int)) (h : xs[j]? = some v) : atI xs z = some v := by
  rw [e]
  exact atI_nat h

/-! ### heaps -/
theorem _root_.L2.Same.new {H : Hp} {p : Addr} {o : HO} (h : H p = none) : Same H (upd H p o) := fun a u e => by
  rw [upd_ne (ne_of_none e h)]
  exact e
theorem _root_.L2.Same.sqT {K : PySem.W.Frag} {H H' : Hp} {a : Addr} {xs : List V} (e : Same H H') (h : SqT K H a xs) : SqT K H' a xs := by
  rcases h with (h | ⟨o, h⟩) | h
  · exact .inl (.inl (e _ _ h))
  · exact .inl (.inr ⟨o, e _ _ h⟩)
  · exact .inr h
mutual
theorem dp_same {K : PySem.W.Frag} {H H' : Hp} (e : Same H H') : ∀ {v : V} {d : PyData}, Dp K H v d → Dp K H' v d
  | _, _, .non => .non
  | _, _, .bl b => .bl b
  | _, _, .int i => .int i
  | _, _, .str x => .str x
  | _, _, .lst h1 h2 => .lst (e.seq h1) (dps_same e h2)
  | _, _, .tup h1 h2 => .tup (L2.Same.sqT e h1) (dps_same e h2)
theorem dps_same {K : PySem.W.Frag} {H H' : Hp} (e : Same H H') : ∀ {vs : List V} {ds : List PyData}, DpAll K H vs ds → DpAll K H' vs ds
  | _, _, .nil => .nil
  | _, _, .cons h1 h2 => .cons (dp_same e h1) (dps_same e h2)
end
/-- all stands but at b -/
def But (b : Addr) (H H' : Hp) : Prop := ∀ a o, a ≠ b → H a = some o → H' a = some o
theorem But.refl (b : Addr) (H : Hp) : But b H H := fun _ _ _ e => e
theorem But.trans {b : Addr} {H H1 H2 : Hp} (h : But b H H1) (h' : But b H1 H2) : But b H H2 := fun a o n e => h' a o n (h a o n e)
theorem But.of {b : Addr} {H H' : Hp} (h : Same H H') : But b H H' := fun a o _ e => h a o e
theorem But.new {b : Addr} {H : Hp} {p : Addr} {o : HO} (h : H p = none) : But b H (upd H p o) := .of (.new h)
theorem But.at {b : Addr} {H : Hp} {o : HO} : But b H (upd H b o) := fun a u n e => by
  rw [upd_ne n]
  exact e
theorem But.free {b : Addr} {H H' : Hp} (h : But b H H') (hb : H b = none) : Same H H' := fun a o e => h a o (ne_of_none e hb) e
theorem sq_new {K : PySem.W.Frag} {H : Hp} {p : Addr} {xs : List V} (h : H p = some (.lst xs)) : SqL K H p xs := .inl (.inl h)
theorem st_new {K : PySem.W.Frag} {H : Hp} {p : Addr} {xs : List V} (h : H p = some (.tup xs)) : SqT K H p xs := .inl (.inl h)
theorem len_lt {n : Nat} (h : n < 16777216) : n < sizeLine := by
  rw [sizeLine_eq]
  exact h
theorem len_le {n : Nat} (h : n ≤ 16777216) : n ≤ sizeLine := by
  rw [sizeLine_eq]
  exact h

/-! ### the bag from which the law draws -/
structure BagAt (H : Hp) (b c : Addr) (cs : List Int) (x0 x1 x2 : Int) : Prop where
  at_ : H b = some (.lst [.int x0, .int x1, .int x2, .ref c])
  cells : H c = some (.lst (cs.map V.int))
  n0 : 0 ≤ x0
  n1 : 0 ≤ x1
  l1 : x1 < 2147483648
  n2 : 0 ≤ x2
  nc : ∀ z ∈ cs, 0 ≤ z
  ne : b ≠ c
def Bag (H : Hp) (b c : Addr) : Prop := ∃ cs x0 x1 x2, BagAt H b c cs x0 x1 x2
theorem Bag.same {H H' : Hp} {b c : Addr} (h : Bag H b c) (e : Same H H') : Bag H' b c := by
  obtain ⟨cs, x0, x1, x2, B⟩ := h
  exact ⟨cs, x0, x1, x2, ⟨e _ _ B.at_, e _ _ B.cells, B.n0, B.n1, B.l1, B.n2, B.nc, B.ne⟩⟩
theorem BagAt.put {H : Hp} {b c : Addr} {cs : List Int} {x0 x1 x2 y0 y1 y2 : Int} (B : BagAt H b c cs x0 x1 x2) (n0 : 0 ≤ y0) (n1 : 0 ≤ y1) (l1 : y1 < 2147483648) (n2 : 0 ≤ y2) :
    BagAt (upd H b (.lst [.int y0, .int y1, .int y2, .ref c])) b c cs y0 y1 y2 :=
  ⟨upd_same, by rw [upd_ne (Ne.symm B.ne)]; exact B.cells, n0, n1, l1, n2, B.nc, B.ne⟩
theorem Bag.ne {H : Hp} {b c p : Addr} (h : Bag H b c) (hp : H p = none) : p ≠ b := by
  obtain ⟨cs, x0, x1, x2, B⟩ := h
  exact (ne_of_none B.at_ hp).symm
theorem Bag.nc {H : Hp} {b c p : Addr} (h : Bag H b c) (hp : H p = none) : p ≠ c := by
  obtain ⟨cs, x0, x1, x2, B⟩ := h
  exact (ne_of_none B.cells hp).symm
theorem Bag.new {H : Hp} {b c p : Addr} {o : HO} (h : Bag H b c) (hp : H p = none) : Bag (upd H p o) b c := h.same (.new hp)
/-- an object that is not the bag's changes -/
theorem Bag.mut {H : Hp} {b c p : Addr} {o : HO} (h : Bag H b c) (n1 : p ≠ b) (n2 : p ≠ c) : Bag (upd H p o) b c := by
  obtain ⟨cs, x0, x1, x2, B⟩ := h
  exact ⟨cs, x0, x1, x2, ⟨by rw [upd_ne (Ne.symm n1)]; exact B.at_, by rw [upd_ne (Ne.symm n2)]; exact B.cells, B.n0, B.n1, B.l1, B.n2, B.nc, B.ne⟩⟩
/-- all that a draw leaves -/
structure Drew (b c : Addr) (H H' : Hp) : Prop where
  bag : Bag H' b c
  but : But b H H'
theorem Drew.trans {b c : Addr} {H H1 H2 : Hp} (x : Drew b c H H1) (y : Drew b c H1 H2) : Drew b c H H2 := ⟨y.bag, x.but.trans y.but⟩
theorem Drew.refl {b c : Addr} {H : Hp} (h : Bag H b c) : Drew b c H H := ⟨h, .refl b H⟩
theorem Drew.same {b c : Addr} {H H1 H2 : Hp} (x : Drew b c H H1) (y : Same H1 H2) : Drew b c H H2 := ⟨x.bag.same y, x.but.trans (.of y)⟩
theorem Drew.new {b c p : Addr} {o : HO} {H H1 : Hp} (x : Drew b c H H1) (hp : H1 p = none) : Drew b c H (upd H1 p o) := x.same (.new hp)
/-- what was new at H changes -/
theorem Drew.mut {b c p : Addr} {o : HO} {H H1 : Hp} (x : Drew b c H H1) (hb : Bag H b c) (hp : H p = none) : Drew b c H (upd H1 p o) :=
  ⟨x.bag.mut (hb.ne hp) (hb.nc hp), fun a u n e => by
    rw [upd_ne (ne_of_none e hp)]
    exact x.but a u n e⟩
theorem Drew.at {b c p : Addr} {o : HO} {H H1 : Hp} (x : Drew b c H H1) (hb : Bag H b c) (hp : H p = some o) (n : p ≠ b) : H1 p = some o := x.but p o n hp
/-- a number below n is drawn -/
def spTake : Sp := fun vs H Q _ => ∃ (b c : Addr) (n : Int), vs = [.ref b, .int n] ∧ Bag H b c ∧ 1 ≤ n ∧ n.natAbs.log2 < 9000 ∧ ∀ (v : Int) (H' : Hp), 0 ≤ v → v < n → Drew b c H H' → Q (.int v) H'
end Ow
/-! Ow, part D: sorted of data, list(range(a, b, c)), tables of lists. -/
namespace Ow
open PySem PySem.Spec PyProof.Rows L2
open PySem.W (EachIs AllAlike Sortable dataLe)

section
variable {X : Cx}
/-- sorted(xs), each item known as data -/
def sortD (bs : List (V × PyData)) : List (V × PyData) := bs.mergeSort (dataLe false fun b => b.2)
def rSortedD (K : PySem.W.Frag) : List V → Hp → VK → Prop := fun vs H Q => ∃ (a : Addr) (bs : List (V × PyData)), vs = [.ref a] ∧ SqL K H a (bs.map (·.1)) ∧ (∀ b ∈ bs, Dp K H b.1 b.2) ∧ AllAlike (bs.map (·.2)) ∧ Sortable (bs.map (·.2)) ∧
  (∀ b ∈ bs, b.2.depth ≤ 40) ∧ ∀ p, H p = none → Q (.ref p) (upd H p (.lst ((sortD bs).map (·.1))))
theorem each_of {bs : List (V × PyData)} : ∀ {its : List Value}, Vals (bs.map (·.1)) its → EachIs (fun v (b : V × PyData) => RelV b.1 v) its bs := by
  induction bs with
  | nil =>
    intro its r
    cases r
    exact .nil
  | cons b bs ih =>
    intro its r
    cases r with
    | cons h t => exact .cons h (ih t)
theorem vals_each : ∀ {its : List Value} {bs : List (V × PyData)}, EachIs (fun v (b : V × PyData) => RelV b.1 v) its bs → Vals (bs.map (·.1)) its
  | _, _, .nil => .nil
  | _, _, .cons h t => .cons h (vals_each t)
theorem each_mem {α β : Type} {R : α → β → Prop} {R' : α → β → Prop} : ∀ {as : List α} {bs : List β}, EachIs R as bs → (∀ a b, b ∈ bs → R a b → R' a b) → EachIs R' as bs
  | _, _, .nil, _ => .nil
  | _, _, .cons h t, f => .cons (f _ _ (List.mem_cons_self ..) h) (each_mem t fun a b m => f a b (List.mem_cons_of_mem _ m))
theorem cr_sortedD {k : Nat} (hr : Room k X.A) : CallR X (.builtin "sorted") (rSortedD X.K) := by
  intro pins s σ H vs us Q I r h
  obtain ⟨a, bs, rfl, hs, hd, hal, hso, hdp, q⟩ := h
  obtain ⟨its, rv, hl, hz⟩ := I.list hs
  rw [Vals.ref1 r]
  have e := each_of rv
  have hlen := rv.length
  rw [List.length_map] at hlen
  rw [List.length_map] at hz
  have hu := hr.un
  refine PySem.W.sorted_data (enc := fun b => b.2) hl.isList e (each_mem e fun v b m rb => ?_) hal hso hz (fun b m => by have := hdp b m; omega) fun out h1 h2 => ?_
  · obtain ⟨as, rd⟩ := Dp.reads I b.2 b.1 v (hd b m) rb
    exact ⟨as, rd⟩
  · obtain ⟨ep, he'⟩ := PyProof.Rows.sortedAll_at s.heap its out.toArray
    have rv2 : Vals ((sortD bs).map (·.1)) out := vals_each h2
    have hz2 : ((sortD bs).map (·.1)).length ≤ sizeLine := by
      rw [List.length_map]
      unfold sortD
      rw [List.length_mergeSort]
      exact hz
    exact ⟨.ref _, upd H (s.heap.objs.size + 1) (.lst ((sortD bs).map (·.1))), I.laid (t' := s.toks) (fun _ _ => PyProof.Rows.sortedAll_old) (Nat.le_succ _) ⟨hz2, out, ep, rv2, he'⟩, rfl, q _ (I.hok.fresh (Nat.le_succ _))⟩

/-- list(range(a, b, c)) -/
def tLstRg3 (ta : TA) : TE := fun σ H Q => ta σ H fun vs H1 => ∃ (i j c : Int) (n : Nat), vs = [.int i, .int j, .int c] ∧ RgC i j c n ∧ n ≤ 2 ^ 24 ∧ ∀ q, H1 q = none → Q (.ref q) (upd H1 q (.lst ((List.range n).map fun k => V.int (i + (k : Nat) * c))))
theorem vals_rg3 {i c : Int} {n : Nat} {acc : Array Value} (h : ItemsOf (fun k v => ∃ t, v = .int (i + k * c) t) acc n) : Vals ((List.range n).map fun k => V.int (i + (k : Nat) * c)) acc.toList := by
  have e : acc.toList.length = n := by rw [Array.length_toList]; exact h.1
  rw [← e]
  refine vals_of_get acc.toList _ fun j u hj => ?_
  obtain ⟨t, rfl⟩ := h.2 j u (by rw [← hj, Array.getElem?_toList])
  exact ⟨t, rfl⟩
theorem pe_listRg3 {a b c : Expr} {ta : TA} {p p2 pos pos2 : Pos} (hg : Gl X "list") (hm : X.mg "list" = none) (hg2 : Gl X "range") (hm2 : X.mg "range" = none) (hc : X.calm = true) (ha : PA X [a, b, c] ta)
    (n1 : starEach [.Call (.Name "range" p2) [a, b, c] [] pos2] X.env = (false, eval (.Call (.Name "range" p2) [a, b, c] [] pos2) X.env) :: starEach [] X.env := by rfl)
    (n2 : starEach [a, b, c] X.env = (false, eval a X.env) :: starEach [b, c] X.env := by rfl) (n3 : (backTo pos2 (starEach [b, c] X.env)).any (·.1) = false := by rfl) :
    PE X (.Call (.Name "list" p) [.Call (.Name "range" p2) [a, b, c] [] pos2] [] pos) (tLstRg3 ta) := by
  refine ⟨fun pins s σ H Q I h => ?_⟩
  refine Call_ (ld_blt I hg hm boot_list (PyProof.Rows.callWith_type1 (args_cons ?_ n1) n1))
  refine Call_ (ld_blt I hg2 hm2 boot_range (PyProof.Rows.callWith_type1 (thn (ha.run pos2 pins s σ H _ I h) fun us s1 z => ?_) n2 n3))
  obtain ⟨vs, H1, I1, r1, i, j, k, n, e, ⟨c0, c1, c2, c3⟩, c4, q⟩ := z
  subst e
  cases r1 with
  | cons r rr =>
    cases rr with
    | cons r' rr =>
      cases rr with
      | cons r'' rr =>
        cases rr
        obtain ⟨t, rfl⟩ := r
        obtain ⟨t', rfl⟩ := r'
        obtain ⟨t'', rfl⟩ := r''
        refine call_range_3 c0 ?_ (.inl (PyProof.noPylong_small c1))
        have I2 : Inv X pins σ H1 { s1 with heap := s1.heap.push { cls := .type "range", data := .fields #[.int i t, .int j t', .int k t''] } } := I1.kept (t' := s1.toks) fun b o e => Heap.get?_push_of_some _ e
        refine args_nil ?_
        refine call_list_range (n := n) (I2.ok.hd hc) (IsRange.new _ _ _ _ _ _ _) c2 c3 c4 fun h' tk acc c' hk e' hi => ?_
        refine ⟨.ref _, upd H1 _ (.lst ((List.range n).map fun m => V.int (i + (m : Nat) * k))), I2.laid hk (Nat.le_refl _) (show ObjOk X.prog X.w _ _ _ (.lst _) from ⟨?_, acc.toList, c', vals_rg3 hi, ?_⟩), rfl, q _ (I2.hok.fresh (Nat.le_refl _))⟩
        · rw [List.length_map, List.length_range, sizeLine_eq]
          exact c4
        · rw [Array.toArray_toList]
          exact e'
end

/-! ### tables of lists -/
section
variable {κ β : Type} [DecidableEq κ]
def look (ks : List (κ × β)) (k : κ) : Option β := (ks.find? fun kv => decide (kv.1 = k)).map (·.2)
def put (ks : List (κ × β)) (k : κ) (v : β) : List (κ × β) := if (ks.any fun kv => decide (kv.1 = k)) = true then ks.map (fun kv => if kv.1 = k then (kv.1, v) else kv) else ks ++ [(k, v)]
theorem look_nil {k : κ} : look ([] : List (κ × β)) k = none := rfl
theorem look_cons {p : κ × β} {r : List (κ × β)} {k : κ} : look (p :: r) k = if p.1 = k then some p.2 else look r k := by
  unfold look
  rw [List.find?_cons]
  by_cases e : p.1 = k
  · rw [decide_eq_true e, if_pos e]
    rfl
  · rw [decide_eq_false e, if_neg e]
theorem look_any {ks : List (κ × β)} {k : κ} : (ks.any fun kv => decide (kv.1 = k)) = (look ks k).isSome := by
  induction ks with
  | nil => rfl
  | cons p r ih =>
    rw [List.any_cons, look_cons]
    by_cases e : p.1 = k
    · rw [decide_eq_true e, if_pos e]
      rfl
    · rw [decide_eq_false e, if_neg e, ih]
      rfl
theorem look_map {ks : List (κ × β)} {k j : κ} {v : β} : look (ks.map fun kv => if kv.1 = k then (kv.1, v) else kv) j = if j = k then (look ks k).map (fun _ => v) else look ks j := by
  induction ks with
  | nil =>
    show none = _
    split <;> rfl
  | cons p r ih =>
    rw [List.map_cons, look_cons, look_cons, look_cons, ih]
    by_cases e : p.1 = k
    · by_cases c : j = k
      · simp [e, c]
      · have d : ¬ p.1 = j := fun z => c (z.symm.trans e)
        have d2 : ¬ k = j := fun z => c z.symm
        simp [e, c, d2]
    · by_cases c : j = k
      · subst c
        simp [e]
      · simp [e, c]
theorem look_app {ks : List (κ × β)} {k j : κ} {v : β} (h : look ks k = none) : look (ks ++ [(k, v)]) j = if j = k then some v else look ks j := by
  induction ks with
  | nil =>
    show look [(k, v)] j = _
    rw [look_cons, look_nil]
    by_cases c : j = k
    · rw [if_pos c, if_pos c.symm]
    · rw [if_neg c, if_neg fun z => c z.symm]
  | cons p r ih =>
    rw [look_cons] at h
    by_cases e : p.1 = k
    · rw [if_pos e] at h
      cases h
    · rw [if_neg e] at h
      rw [List.cons_append, look_cons, ih h, look_cons]
      by_cases d : p.1 = j
      · rw [if_pos d, if_pos d, if_neg fun z => e (d.trans z)]
      · rw [if_neg d, if_neg d]
theorem look_put {ks : List (κ × β)} {k j : κ} {v : β} : look (put ks k v) j = if j = k then some v else look ks j := by
  unfold put
  rw [look_any]
  cases h : look ks k with
  | none =>
    rw [if_neg (by simp)]
    exact look_app h
  | some w =>
    rw [if_pos (by simp), look_map, h]
    rfl
theorem put_keys {ks : List (κ × β)} {k : κ} {v : β} : (put ks k v).map (·.1) = if k ∈ ks.map (·.1) then ks.map (·.1) else ks.map (·.1) ++ [k] := by
  have hm : (ks.any fun kv => decide (kv.1 = k)) = true ↔ k ∈ ks.map (·.1) := by
    rw [List.any_eq_true, List.mem_map]
    constructor
    · rintro ⟨x, h1, h2⟩
      exact ⟨x, h1, of_decide_eq_true h2⟩
    · rintro ⟨x, h1, h2⟩
      exact ⟨x, h1, decide_eq_true h2⟩
  unfold put
  by_cases c : k ∈ ks.map (·.1)
  · rw [if_pos (hm.mpr c), if_pos c, List.map_map]
    apply List.map_congr_left
    intro x _
    show (if x.1 = k then (x.1, v) else x).1 = x.1
    split <;> rfl
  · rw [if_neg (fun z => c (hm.mp z)), if_neg c, List.map_append]
    rfl
theorem put_nodup {ks : List (κ × β)} {k : κ} {v : β} (h : (ks.map (·.1)).Nodup) : ((put ks k v).map (·.1)).Nodup := by
  rw [put_keys]
  split
  · exact h
  · rename_i c
    rw [List.nodup_append]
    refine ⟨h, by simp, fun a ha b hb e => ?_⟩
    rw [List.mem_singleton] at hb
    rw [e, hb] at ha
    exact c ha
theorem mem_look {ks : List (κ × β)} (h : (ks.map (·.1)).Nodup) {k : κ} {g : β} : (k, g) ∈ ks ↔ look ks k = some g := by
  induction ks with
  | nil => simp [look_nil]
  | cons p r ih =>
    rw [List.map_cons, List.nodup_cons] at h
    rw [List.mem_cons, look_cons]
    by_cases e : p.1 = k
    · rw [if_pos e]
      constructor
      · rintro (z | z)
        · rw [← z]
        · exact (h.1 (by rw [e]; exact List.mem_map.mpr ⟨_, z, rfl⟩)).elim
      · intro z
        have z' := Option.some.inj z
        left
        rw [← e, ← z']
    · rw [if_neg e, ← ih h.2]
      constructor
      · rintro (z | z)
        · exact (e (by rw [← z])).elim
        · exact z
      · exact .inr
theorem put_len {ks : List (κ × β)} {k : κ} {v : β} : (put ks k v).length ≤ ks.length + 1 := by
  unfold put
  split
  · rw [List.length_map]; omega
  · rw [List.length_append]; exact Nat.le_refl _
end
/-- the layer's table stands for ks -/
def Tab {β : Type} (R : V → β → Prop) (kvs : List (Key × V)) (ks : List (Key × β)) : Prop := Paired (fun p q => p.1 = q.1 ∧ R p.2 q.2) kvs ks
section
variable {β : Type} {R R' : V → β → Prop} {kvs : List (Key × V)} {ks : List (Key × β)}
theorem Tab.len (h : Tab R kvs ks) : kvs.length = ks.length := Paired.length h
theorem Tab.mono (h : Tab R kvs ks) (f : ∀ v g, R v g → R' v g) : Tab R' kvs ks := Paired.mapP h fun p q z => ⟨z.1, f _ _ z.2⟩
theorem Tab.get (h : Tab R kvs ks) (k : Key) : (valV kvs k = none ∧ look ks k = none) ∨ ∃ v g, valV kvs k = some v ∧ look ks k = some g ∧ R v g := by
  induction h with
  | nil => exact .inl ⟨rfl, rfl⟩
  | @cons p q ps qs z t ih =>
    by_cases e : p.1 = k
    · exact .inr ⟨p.2, q.2, valV_pos e, by rw [look_cons, if_pos (z.1.symm.trans e)], z.2⟩
    · rw [valV_neg e, look_cons, if_neg (fun y => e (z.1.trans y))]
      exact ih
theorem Tab.map (h : Tab R kvs ks) {k : Key} {v : V} {g : β} (r : R v g) : Tab R (kvs.map fun kv => if kv.1 = k then (kv.1, v) else kv) (ks.map fun kv => if kv.1 = k then (kv.1, g) else kv) := by
  induction h with
  | nil => exact .nil
  | @cons p q ps qs z t ih =>
    refine .cons ?_ ih
    dsimp only
    by_cases e : p.1 = k
    · rw [if_pos e, if_pos (z.1.symm.trans e)]
      exact ⟨z.1, r⟩
    · rw [if_neg e, if_neg fun y => e (z.1.trans y)]
      exact z
theorem Tab.app (h : Tab R kvs ks) {k : Key} {v : V} {g : β} (r : R v g) : Tab R (kvs ++ [(k, v)]) (ks ++ [(k, g)]) := by
  induction h with
  | nil => exact .cons ⟨rfl, r⟩ .nil
  | @cons p q ps qs z t ih => exact .cons z ih
theorem Tab.put (h : Tab R kvs ks) {k : Key} {v : V} {g : β} (r : R v g) : Tab R (putK kvs k v) (Ow.put ks k g) := by
  have ha : (kvs.any fun kv => decide (kv.1 = k)) = (ks.any fun kv => decide (kv.1 = k)) := by
    rw [valV_any, look_any]
    rcases h.get k with ⟨e1, e2⟩ | ⟨v, g, e1, e2, _⟩ <;> rw [e1, e2] <;> rfl
  unfold putK Ow.put
  rw [ha]
  split
  · exact h.map r
  · exact h.app r
theorem Tab.at (h : Tab R kvs ks) {i : Nat} {k : Key} {v : V} (e : kvs[i]? = some (k, v)) : ∃ g, ks[i]? = some (k, g) ∧ R v g := by
  induction h generalizing i with
  | nil => simp at e
  | @cons p q ps qs z t ih =>
    cases i with
    | zero =>
      have e' : p = (k, v) := by simpa using e
      subst e'
      exact ⟨q.2, by rw [show (k : Key) = q.1 from z.1]; rfl, z.2⟩
    | succ i => exact ih (by simpa using e)
end
end Ow
/-! Ow: places grouped by what they make; sorted rows of numbers. -/
namespace Ow
open PySem PySem.Spec PyProof.Rows L2
open PySem.W (EachIs AllAlike Sortable dataLe)

section
variable {κ : Type} [DecidableEq κ] (f : Nat → κ)
def grp : Nat → List (κ × List Nat)
  | 0 => []
  | i + 1 => put (grp i) (f i) ((look (grp i) (f i)).getD [] ++ [i])
def same (i : Nat) (k : κ) : List Nat := (List.range i).filter fun q => decide (f q = k)
theorem same_succ (i : Nat) (k : κ) : same f (i + 1) k = if f i = k then same f i k ++ [i] else same f i k := by
  unfold same
  rw [List.range_succ, List.filter_append]
  by_cases e : f i = k
  · rw [if_pos e]
    simp [e]
  · rw [if_neg e]
    simp [e]
theorem look_grp : ∀ (i : Nat) (k : κ), look (grp f i) k = if same f i k = [] then none else some (same f i k)
  | 0, k => by
    rw [if_pos (by unfold same; rfl)]
    rfl
  | i + 1, k => by
    show look (put _ _ _) k = _
    rw [look_put, same_succ]
    by_cases e : f i = k
    · subst e
      rw [if_pos rfl, if_pos rfl, if_neg (by simp), look_grp i]
      split
      · rename_i c
        rw [c]
        rfl
      · rfl
    · rw [if_neg fun z => e z.symm, if_neg e]
      exact look_grp i k
theorem grp_nodup : ∀ i, ((grp f i).map (·.1)).Nodup
  | 0 => List.nodup_nil
  | i + 1 => put_nodup (grp_nodup i)
theorem grp_len : ∀ i, (grp f i).length ≤ i
  | 0 => Nat.le_refl _
  | i + 1 => Nat.le_trans put_len (Nat.add_le_add_right (grp_len i) 1)
theorem mem_same {i q : Nat} {k : κ} : q ∈ same f i k ↔ q < i ∧ f q = k := by
  unfold same
  rw [List.mem_filter, List.mem_range, decide_eq_true_iff]
theorem grp_mem {i : Nat} {k : κ} {g : List Nat} : (k, g) ∈ grp f i ↔ g = same f i k ∧ g ≠ [] := by
  rw [mem_look (grp_nodup f i), look_grp]
  split
  · rename_i c
    constructor
    · intro z
      cases z
    · rintro ⟨z1, z2⟩
      exact (z2 (z1.trans c)).elim
  · rename_i c
    constructor
    · intro z
      have z' := Option.some.inj z
      exact ⟨z'.symm, fun e => c (z'.trans e)⟩
    · rintro ⟨z1, z2⟩
      rw [z1]
/-- the groups themselves -/
def grps (i : Nat) : List (List Nat) := (grp f i).map (·.2)
theorem grps_mem {i : Nat} {g : List Nat} : g ∈ grps f i ↔ ∃ p, p < i ∧ g = same f i (f p) := by
  unfold grps
  rw [List.mem_map]
  constructor
  · rintro ⟨⟨k, g'⟩, h, rfl⟩
    obtain ⟨h1, h2⟩ := (grp_mem f).mp h
    cases hg : g' with
    | nil => exact (h2 hg).elim
    | cons q r =>
      have hq : q ∈ same f i k := by
        rw [← h1, hg]
        exact List.mem_cons_self ..
      obtain ⟨q1, q2⟩ := (mem_same f).mp hq
      exact ⟨q, q1, by rw [q2, ← hg]; exact h1⟩
  · rintro ⟨p, hp, rfl⟩
    refine ⟨(f p, same f i (f p)), (grp_mem f).mpr ⟨rfl, fun e => ?_⟩, rfl⟩
    have : p ∈ same f i (f p) := (mem_same f).mpr ⟨hp, rfl⟩
    rw [e] at this
    cases this
theorem grps_nodup (i : Nat) : (grps f i).Nodup := by
  have h := grp_nodup f i
  unfold List.Nodup at h
  rw [List.pairwise_map] at h
  unfold grps List.Nodup
  rw [List.pairwise_map]
  refine List.Pairwise.imp_of_mem (fun {a b} ha hb hab e => ?_) h
  obtain ⟨k, g⟩ := a
  obtain ⟨k', g'⟩ := b
  obtain ⟨a1, a2⟩ := (grp_mem f).mp ha
  obtain ⟨b1, b2⟩ := (grp_mem f).mp hb
  have e' : g = g' := e
  cases hg : g with
  | nil => exact a2 hg
  | cons q r =>
    have q1 : q ∈ same f i k := by rw [← a1, hg]; exact List.mem_cons_self ..
    have q2 : q ∈ same f i k' := by rw [← b1, ← e', hg]; exact List.mem_cons_self ..
    exact hab (((mem_same f).mp q1).2.symm.trans ((mem_same f).mp q2).2)
end

/-! ### sorted rows of numbers -/
def encR (g : List Nat) : PyData := .list ((g.map fun n : Nat => (n : Int)).map .int)
def leR (a b : List Nat) : Bool := decide ((a.map fun n : Nat => (n : Int)) ≤ (b.map fun n : Nat => (n : Int)))
theorem dataLe_encR : dataLe false encR = leR := by
  have h := PySem.W.dataLe_rows (fun g : List Nat => g.map fun n : Nat => (n : Int))
  exact h
theorem castI_inj {a b : List Nat} (h : (a.map fun n : Nat => (n : Int)) = (b.map fun n : Nat => (n : Int))) : a = b := by
  induction a generalizing b with
  | nil =>
    cases b with
    | nil => rfl
    | cons => cases h
  | cons x r ih =>
    cases b with
    | nil => cases h
    | cons y s =>
      rw [List.map_cons, List.map_cons] at h
      injection h with h1 h2
      rw [ih h2, show x = y by exact_mod_cast h1]
theorem sort_perm {a b : List (List Nat)} (h : a.Perm b) : a.mergeSort leR = b.mergeSort leR := by
  have tr : ∀ x y z : List Nat, leR x y = true → leR y z = true → leR x z = true := fun x y z h1 h2 => decide_eq_true (List.le_trans (of_decide_eq_true h1) (of_decide_eq_true h2))
  have to : ∀ x y : List Nat, (leR x y || leR y x) = true := fun x y => by
    unfold leR
    rcases List.le_total (x.map fun n : Nat => (n : Int)) (y.map fun n : Nat => (n : Int)) with c | c
    · rw [decide_eq_true c]; rfl
    · rw [decide_eq_true c]; simp
  refine List.Perm.eq_of_pairwise (le := fun x y => leR x y = true) ?_ (List.pairwise_mergeSort tr to _) (List.pairwise_mergeSort tr to _) (((List.mergeSort_perm a leR).trans h).trans (List.mergeSort_perm b leR).symm)
  intro x y _ _ h1 h2
  exact castI_inj (List.le_antisymm (of_decide_eq_true h1) (of_decide_eq_true h2))
/-- what sorted makes of rows -/
theorem sortD_rows {bs : List (V × PyData)} {gs : List (List Nat)} (h : bs.map (·.2) = gs.map encR) : (sortD bs).map (·.2) = (gs.mergeSort leR).map encR := by
  unfold sortD
  have e1 : (bs.mergeSort (dataLe false fun b => b.2)).map (·.2) = (bs.map (·.2)).mergeSort (dataLe false fun d => d) := PySem.W.sort_maps (fun b : V × PyData => b.2) fun a _ b _ => rfl
  rw [e1, h]
  have e2 : (gs.mergeSort (dataLe false encR)).map encR = (gs.map encR).mergeSort (dataLe false fun d => d) := PySem.W.sort_maps encR fun a _ b _ => rfl
  rw [← e2, dataLe_encR]
theorem alike_rows (gs : List (List Nat)) : AllAlike (gs.map encR) := AllAlike.of fun b b' => by
  show PySem.W.alikeAll _ _ = true
  exact PySem.W.alike_ints _ _
theorem sortable_rows (gs : List (List Nat)) : Sortable (gs.map encR) := Sortable.others fun b => ⟨(fun e => by cases e), fun xs e => (by cases e)⟩
theorem depth_row (g : List Nat) : (encR g).depth = 1 := by
  show PyData.depthAll _ + 1 = 1
  rw [PySem.W.depth_ints]
end Ow
/-! Ow: rows of numbers that stand in the heap; what fits for == and repr. -/
namespace Ow
open PySem PySem.Spec PyProof.Rows L2
open PySem.W (EachIs AllAlike Sortable dataLe)

/-! ### what == and repr take -/
structure Fit (d : PyData) : Prop where
  lay : d.canLay0 = true
  dep : d.depth ≤ 60
  sho : d.showable = true
  len : d.shown.length ≤ sizeLine
/-- small data: weight ≤ w, depth ≤ k -/
structure Sm (d : PyData) (w k : Nat) : Prop where
  lay : d.canLay0 = true
  sho : d.showable = true
  srt : d.intsShort 13 = true
  wei : d.weight ≤ w
  dep : d.depth ≤ k
structure SmAll (ds : List PyData) (w k : Nat) : Prop where
  lay : PyData.canLayAll0 ds = true
  sho : PyData.showableAll ds = true
  srt : PyData.intsShortAll 13 ds = true
  wei : PyData.weightAll ds ≤ w
  dep : PyData.depthAll ds ≤ k
theorem Sm.fit {d : PyData} {w k : Nat} (h : Sm d w k) (hw : w ≤ 1048576) (hk : k ≤ 60) : Fit d := by
  have h1 := h.wei
  have h2 := h.dep
  refine ⟨h.lay, by omega, h.sho, ?_⟩
  exact PyData.shown_fits (B := 13) (by decide) (by decide) (PyData.leavesShort_of_canLay0 13 d h.lay h.srt) (by rw [show (2 : Nat) ^ 20 = 1048576 by decide]; omega)
theorem SmAll.nil {k : Nat} : SmAll [] 0 k := ⟨rfl, rfl, rfl, Nat.le_refl _, Nat.zero_le _⟩
theorem SmAll.cons {d : PyData} {ds : List PyData} {a b k : Nat} (h : Sm d a k) (t : SmAll ds b k) : SmAll (d :: ds) (a + 1 + b) k := by
  refine ⟨?_, ?_, ?_, ?_, ?_⟩
  · rw [PyData.canLayAll0, h.lay, t.lay]; rfl
  · rw [PyData.showableAll, h.sho, t.sho]; rfl
  · rw [PyData.intsShortAll, h.srt, t.srt]; rfl
  · rw [PyData.weightAll]
    have := h.wei
    have := t.wei
    omega
  · rw [PyData.depthAll]
    exact Nat.max_le.mpr ⟨h.dep, t.dep⟩
theorem SmAll.mono {ds : List PyData} {a b j k : Nat} (h : SmAll ds a j) (hw : a ≤ b) (hk : j ≤ k) : SmAll ds b k := ⟨h.lay, h.sho, h.srt, Nat.le_trans h.wei hw, Nat.le_trans h.dep hk⟩
theorem Sm.mono {d : PyData} {a b j k : Nat} (h : Sm d a j) (hw : a ≤ b) (hk : j ≤ k) : Sm d b k := ⟨h.lay, h.sho, h.srt, Nat.le_trans h.wei hw, Nat.le_trans h.dep hk⟩
theorem SmAll.all {w k : Nat} : ∀ {ds : List PyData}, (∀ d ∈ ds, Sm d w k) → SmAll ds (ds.length * (w + 1)) k
  | [], _ => SmAll.nil.mono (by simp) (Nat.le_refl _)
  | d :: ds, h => ((SmAll.cons (h d (List.mem_cons_self ..)) (SmAll.all fun e m => h e (List.mem_cons_of_mem _ m))).mono (by rw [List.length_cons, Nat.succ_mul]; omega) (Nat.le_refl _))
theorem Sm.list {ds : List PyData} {w k : Nat} (h : SmAll ds w k) : Sm (.list ds) w (k + 1) := by
  refine ⟨?_, ?_, ?_, ?_, ?_⟩
  · rw [PyData.canLay0]; exact h.lay
  · rw [PyData.showable]; exact h.sho
  · rw [PyData.intsShort]; exact h.srt
  · rw [PyData.weight]; exact h.wei
  · rw [PyData.depth]; exact Nat.succ_le_succ h.dep
theorem Sm.tuple {ds : List PyData} {w k : Nat} (h : SmAll ds w k) : Sm (.tuple ds) w (k + 1) := by
  refine ⟨?_, ?_, ?_, ?_, ?_⟩
  · rw [PyData.canLay0]; exact h.lay
  · rw [PyData.showable]; exact h.sho
  · rw [PyData.intsShort]; exact h.srt
  · rw [PyData.weight]; exact h.wei
  · rw [PyData.depth]; exact Nat.succ_le_succ h.dep
theorem log2_lt12 {n : Nat} (h : n < 1000000000000) : n.log2 < 40 := by
  by_cases h0 : n = 0
  · subst h0; decide
  · exact (Nat.log2_lt h0).mpr (Nat.lt_of_lt_of_le h (by decide))
theorem Sm.int {i : Int} {k : Nat} (h : i.natAbs < 1000000000000) : Sm (.int i) 40 k := by
  have hl := log2_lt12 h
  refine ⟨rfl, ?_, ?_, ?_, Nat.zero_le _⟩
  · rw [PyData.showable]; exact decide_eq_true (by omega)
  · rw [PyData.intsShort]; exact decide_eq_true (PyData.shown_int_le (by rw [show (10 : Nat) ^ 12 = 1000000000000 by decide]; exact h))
  · rw [PyData.weight]
    split
    · omega
    · omega
theorem Sm.intS {i : Int} {k : Nat} (h : i.natAbs < 1024) : Sm (.int i) 10 k := by
  have z := Sm.int (k := k) (show i.natAbs < 1000000000000 by omega)
  refine ⟨z.lay, z.sho, z.srt, ?_, z.dep⟩
  rw [PyData.weight]
  split
  · omega
  · by_cases h0 : i.natAbs = 0
    · rw [h0]; decide
    · have := (Nat.log2_lt h0).mpr (show i.natAbs < 2 ^ 10 from h)
      omega
theorem Sm.none {k : Nat} : Sm .none 0 k := ⟨rfl, rfl, rfl, Nat.le_refl _, Nat.zero_le _⟩
theorem Sm.bool {b : Bool} {k : Nat} : Sm (.bool b) 0 k := ⟨rfl, rfl, rfl, Nat.le_refl _, Nat.zero_le _⟩
theorem Sm.str {x : Str} {k : Nat} (h : PyData.strOk x = true) : Sm (.str x) x.cps.size k := ⟨by rw [PyData.canLay0]; exact h, rfl, rfl, Nat.le_refl _, Nat.zero_le _⟩

theorem Drew.free {b c t : Addr} {H H1 : Hp} (d : Drew b c H H1) (h : H1 t = none) : H t = none := by
  cases e : H t with
  | none => rfl
  | some o =>
    have n : t ≠ b := d.bag.ne h
    rw [d.but t o n e] at h
    cases h
theorem le24 {n : Nat} (h : n ≤ 16777216) : (n : Int) ≤ 16777216 := by omega
theorem mulS {i j : Int} (h0 : -1000000000000 ≤ i) (h1 : i ≤ 1000000000000) : CMul i j := .inl ⟨by omega, by omega⟩
/-! ### rows in the heap -/
def nums (g : List Nat) : List V := g.map fun n : Nat => .int (n : Int)
def refs {β : Type} (bs : List (Addr × β)) : List V := bs.map fun b => .ref b.1
theorem nums_len (g : List Nat) : (nums g).length = g.length := List.length_map ..
theorem nums_app (g h : List Nat) : nums (g ++ h) = nums g ++ nums h := List.map_append
theorem refs_len {β : Type} (bs : List (Addr × β)) : (refs bs).length = bs.length := List.length_map ..
section
variable {K : PySem.W.Frag} {H : Hp}
theorem dpAll_nums : ∀ g : List Nat, DpAll K H (nums g) ((g.map fun n : Nat => (n : Int)).map .int)
  | [] => .nil
  | n :: g => .cons (.int _) (dpAll_nums g)
theorem dp_row {a : Addr} {g : List Nat} (h : SqL K H a (nums g)) : Dp K H (.ref a) (encR g) := .lst h (dpAll_nums g)
abbrev RowAt (H : Hp) (b : Addr × List Nat) : Prop := H b.1 = some (.lst (nums b.2))
theorem dpAll_rows : ∀ bs : List (Addr × List Nat), (∀ b ∈ bs, RowAt H b) → DpAll K H (refs bs) (bs.map fun b => encR b.2)
  | [], _ => .nil
  | b :: bs, h => .cons (dp_row (sq_new (h b (List.mem_cons_self ..)))) (dpAll_rows bs fun c m => h c (List.mem_cons_of_mem _ m))
theorem dp_rows {p : Addr} {bs : List (Addr × List Nat)} (h : SqL K H p (refs bs)) (hb : ∀ b ∈ bs, RowAt H b) : Dp K H (.ref p) (.list (bs.map fun b => encR b.2)) := .lst h (dpAll_rows bs hb)
end
theorem flat_nums (g : List Nat) : (nums g).all flatV = true := by
  unfold nums
  rw [List.all_map, List.all_eq_true]
  intro n _
  rfl
theorem inV_nums (n : Nat) (g : List Nat) : inV (.int (n : Int)) (nums g) = decide (n ∈ g) := by
  unfold inV nums
  rw [List.any_map]
  by_cases h : n ∈ g
  · rw [decide_eq_true h, List.any_eq_true]
    refine ⟨n, h, ?_⟩
    show ((n : Int) == (n : Int)) = true
    exact beq_self_eq_true _
  · rw [decide_eq_false h, List.any_eq_false]
    intro m hm
    show ¬ ((m : Int) == (n : Int)) = true
    rw [beq_iff_eq]
    intro e
    have : m = n := by omega
    rw [this] at hm
    exact h hm
/-- n not in a list of numbers -/
def rNotInN (K : PySem.W.Frag) : R2 := fun x y H Q => ∃ (p : Addr) (n : Nat) (g : List Nat), x = .int (n : Int) ∧ y = .ref p ∧ SqL K H p (nums g) ∧ Q (.bl (!decide (n ∈ g))) H
theorem op_notInN {X : Cx} {K : PySem.W.Frag} (e : X.K = K := by rfl) : OpR X (compareOp .NotIn) (rNotInN K) := OpR.imp op_notIn_seq fun x y H Q h => by
  subst e
  obtain ⟨p, n, g, rfl, rfl, hs, q⟩ := h
  refine ⟨p, nums g, rfl, .inl hs, rfl, flat_nums g, ?_⟩
  rw [inV_nums]
  exact q
def leB (a b : Addr × List Nat) : Bool := leR a.2 b.2
theorem sortB_snd (bs : List (Addr × List Nat)) : (bs.mergeSort leB).map (·.2) = (bs.map (·.2)).mergeSort leR := PySem.W.sort_maps (fun b : Addr × List Nat => b.2) fun _ _ _ _ => rfl
theorem mem_sortB {bs : List (Addr × List Nat)} {b : Addr × List Nat} : b ∈ bs.mergeSort leB ↔ b ∈ bs := (List.mergeSort_perm bs leB).mem_iff
/-- sorted(xs), xs a list of rows of numbers -/
def rSortedR (K : PySem.W.Frag) : List V → Hp → VK → Prop := fun vs H Q => ∃ (a : Addr) (bs : List (Addr × List Nat)), vs = [.ref a] ∧ SqL K H a (refs bs) ∧ (∀ b ∈ bs, RowAt H b) ∧
  ∀ p, H p = none → Q (.ref p) (upd H p (.lst (refs (bs.mergeSort leB))))
theorem cr_sortedR {X : Cx} {k : Nat} (hr : Room k X.A) : CallR X (.builtin "sorted") (rSortedR X.K) := CallR.imp (cr_sortedD hr) fun vs H Q h => by
  obtain ⟨a, bs, rfl, hs, hb, q⟩ := h
  let enc : Addr × List Nat → V × PyData := fun b => (.ref b.1, encR b.2)
  have e1 : (bs.map enc).map (·.1) = refs bs := by
    rw [List.map_map]
    rfl
  have e2 : (bs.map enc).map (·.2) = (bs.map (·.2)).map encR := by
    rw [List.map_map, List.map_map]
    rfl
  have e3 : sortD (bs.map enc) = (bs.mergeSort leB).map enc := by
    unfold sortD
    refine (PySem.W.sort_maps enc fun x _ y _ => ?_).symm
    have z := congrFun (congrFun dataLe_encR x.2) y.2
    exact z.symm
  refine ⟨a, bs.map enc, rfl, by rw [e1]; exact hs, fun b m => ?_, by rw [e2]; exact alike_rows _, by rw [e2]; exact sortable_rows _, fun b m => ?_, fun p np => ?_⟩
  · obtain ⟨c, hc, rfl⟩ := List.mem_map.mp m
    exact dp_row (sq_new (hb c hc))
  · obtain ⟨c, hc, rfl⟩ := List.mem_map.mp m
    show (encR c.2).depth ≤ 40
    rw [depth_row]
    decide
  · have e4 : (sortD (bs.map enc)).map (·.1) = refs (bs.mergeSort leB) := by
      rw [e3, List.map_map]
      rfl
    rw [e4]
    exact q p np
theorem sm_row {g : List Nat} (h : ∀ n ∈ g, n < 1024) : Sm (encR g) (g.length * 11) 1 := by
  refine Sm.list (k := 0) ((SmAll.all (w := 10) fun d m => ?_).mono (by simp) (Nat.le_refl _))
  obtain ⟨i, hi, rfl⟩ := List.mem_map.mp m
  obtain ⟨n, hn, rfl⟩ := List.mem_map.mp hi
  exact Sm.intS (by have := h n hn; omega)
theorem lay_ints : ∀ xs : List Int, PyData.canLayAll0 (xs.map .int) = true
  | [] => rfl
  | x :: xs => by
    rw [List.map_cons, PyData.canLayAll0, lay_ints xs]
    rfl
theorem shaped_row (g : List Nat) : SeqAt.shaped (encR g) = true := by
  unfold SeqAt.shaped
  rw [depth_row]
  have : (encR g).canLay0 = true := by
    unfold encR
    rw [PyData.canLay0]
    exact lay_ints _
  rw [this]
  rfl
/-- all the numbers of the rows -/
def tot (gs : List (List Nat)) : Nat := (gs.map List.length).sum
theorem tot_perm {a b : List (List Nat)} (h : a.Perm b) : tot a = tot b := by
  induction h with
  | nil => rfl
  | cons x _ ih => unfold tot at *; rw [List.map_cons, List.map_cons, List.sum_cons, List.sum_cons, ih]
  | swap x y l => unfold tot; simp only [List.map_cons, List.sum_cons]; omega
  | trans _ _ i1 i2 => exact i1.trans i2
theorem sm_rows : ∀ gs : List (List Nat), (∀ g ∈ gs, ∀ n ∈ g, n < 1024) → SmAll (gs.map encR) (tot gs * 11 + gs.length) 1
  | [], _ => SmAll.nil.mono (Nat.zero_le _) (Nat.zero_le _)
  | g :: gs, h => ((SmAll.cons (sm_row (h g (List.mem_cons_self ..))) (sm_rows gs fun e m => h e (List.mem_cons_of_mem _ m))).mono (by
      have : tot (g :: gs) = g.length + tot gs := by unfold tot; rw [List.map_cons, List.sum_cons]
      rw [this, List.length_cons]
      omega) (Nat.le_refl _))

/-! ### a table of rows -/
section
variable {κ κ' β : Type} [DecidableEq κ] [DecidableEq κ']
theorem look_keys {e : κ → κ'} (he : ∀ a b, e a = e b → a = b) (ks : List (κ × β)) (k : κ) : look (ks.map fun kv => (e kv.1, kv.2)) (e k) = look ks k := by
  induction ks with
  | nil => rfl
  | cons p r ih =>
    rw [List.map_cons, look_cons, look_cons, ih]
    by_cases c : p.1 = k
    · rw [if_pos c, if_pos (congrArg e c)]
    · rw [if_neg c, if_neg fun z => c (he _ _ z)]
theorem put_keysE {e : κ → κ'} (he : ∀ a b, e a = e b → a = b) (ks : List (κ × β)) (k : κ) (v : β) : put (ks.map fun kv => (e kv.1, kv.2)) (e k) v = (put ks k v).map fun kv => (e kv.1, kv.2) := by
  unfold put
  rw [look_any, look_any, look_keys he]
  split
  · rw [List.map_map, List.map_map]
    apply List.map_congr_left
    intro p _
    show (if e p.1 = e k then (e p.1, v) else (e p.1, p.2)) = (e (if p.1 = k then (p.1, v) else p).1, (if p.1 = k then (p.1, v) else p).2)
    by_cases c : p.1 = k
    · rw [if_pos c, if_pos (congrArg e c)]
    · rw [if_neg c, if_neg fun z => c (he _ _ z)]
  · rw [List.map_append]
    rfl
theorem grp_keys {e : κ → κ'} (he : ∀ a b, e a = e b → a = b) (f : Nat → κ) : ∀ i, grp (fun p => e (f p)) i = (grp f i).map fun kv => (e kv.1, kv.2)
  | 0 => rfl
  | i + 1 => by
    show put _ _ _ = _
    rw [grp_keys he f i, look_keys he, put_keysE he]
    rfl
theorem grps_keys {e : κ → κ'} (he : ∀ a b, e a = e b → a = b) (f : Nat → κ) (i : Nat) : grps (fun p => e (f p)) i = grps f i := by
  unfold grps
  rw [grp_keys he, List.map_map]
  rfl
end
theorem look_len {κ : Type} [DecidableEq κ] (f : Nat → κ) (i : Nat) (k : κ) : ((look (grp f i) k).getD []).length ≤ i := by
  rw [look_grp]
  split
  · exact Nat.zero_le _
  · show (same f i k).length ≤ i
    unfold same
    exact Nat.le_trans (List.length_filter_le _ _) (by rw [List.length_range]; exact Nat.le_refl _)
/-- the value v is the row g -/
def RowV (H : Hp) (v : V) (g : List Nat) : Prop := ∃ a, v = .ref a ∧ RowAt H (a, g)
theorem rowv_same {H H' : Hp} (e : Same H H') (v : V) (g : List Nat) (h : RowV H v g) : RowV H' v g := by
  obtain ⟨a, rfl, h⟩ := h
  exact ⟨a, rfl, e _ _ h⟩
theorem rowv_upd {H : Hp} {d : Addr} {o : HO} {kvs : List (Key × V)} (hd : H d = some (.dK kvs)) (v : V) (g : List Nat) (h : RowV H v g) : RowV (upd H d o) v g := by
  obtain ⟨a, rfl, h⟩ := h
  refine ⟨a, rfl, ?_⟩
  show upd _ _ _ _ = _
  rw [upd_ne fun e => ?_]
  · exact h
  · have h' : H a = some (.lst (nums g)) := h
    rw [show a = d from e, hd] at h'
    cases h'
/-- key of a text -/
abbrev kT (l : List Nat) : Key := .inr ⟨l.toArray⟩
theorem kT_inj (a b : List Nat) (h : kT a = kT b) : a = b := tx_inj (by
  show kV (kT a) = kV (kT b)
  rw [h])

/-! ### tuples in the heap -/
section
variable {β : Type} {K : PySem.W.Frag} {H H' : Hp}
abbrev TupAt (enc : β → List V) (H : Hp) (b : Addr × β) : Prop := H b.1 = some (.tup (enc b.2))
theorem dp_tups {enc : β → List V} {encD : β → List PyData} : ∀ bs : List (Addr × β), (∀ b ∈ bs, TupAt enc H b) → (∀ b ∈ bs, DpAll K H (enc b.2) (encD b.2)) → DpAll K H (refs bs) (bs.map fun b => .tuple (encD b.2))
  | [], _, _ => .nil
  | b :: bs, h, h' => .cons (.tup (st_new (h b (List.mem_cons_self ..))) (h' b (List.mem_cons_self ..))) (dp_tups bs (fun c m => h c (List.mem_cons_of_mem _ m)) fun c m => h' c (List.mem_cons_of_mem _ m))
theorem refs_get {bs : List (Addr × β)} {i : Nat} {x : V} (h : (refs bs)[i]? = some x) : ∃ b, bs[i]? = some b ∧ x = .ref b.1 := by
  unfold refs at h
  rw [List.getElem?_map] at h
  cases e : bs[i]? with
  | none => rw [e] at h; cases h
  | some b =>
    rw [e] at h
    exact ⟨b, rfl, (Option.some.inj h).symm⟩
theorem refs_app (bs cs : List (Addr × β)) : refs (bs ++ cs) = refs bs ++ refs cs := List.map_append
end
end Ow
namespace Ow
/-! periodic words -/
def HasPer {α : Type} (f : Nat → α) (a : Nat) : Prop := ∀ t, f (t + a) = f t
theorem HasPer.sub {α : Type} {f : Nat → α} {a b : Nat} (ha : HasPer f a) (hb : HasPer f b) (h : b ≤ a) : HasPer f (a - b) := fun t => by
  have e := hb (t + (a - b))
  rw [show t + (a - b) + b = t + a by omega, ha t] at e
  exact e.symm
theorem HasPer.mul {α : Type} {f : Nat → α} {a : Nat} (ha : HasPer f a) : ∀ k, HasPer f (a * k)
  | 0 => fun t => by simp
  | k + 1 => fun t => by
    rw [show t + a * (k + 1) = (t + a * k) + a by rw [Nat.mul_add]; omega, ha, HasPer.mul ha k]
theorem HasPer.dvd {α : Type} {f : Nat → α} {a b : Nat} (ha : HasPer f a) (h : a ∣ b) : HasPer f b := by
  obtain ⟨k, rfl⟩ := h
  exact ha.mul k
theorem HasPer.mod {α : Type} {f : Nat → α} {a : Nat} (ha : HasPer f a) (t : Nat) : f t = f (t % a) := by
  have e := ha.mul (t / a) (t % a)
  rw [Nat.mod_add_div] at e
  exact e
theorem HasPer.gcd {α : Type} {f : Nat → α} : ∀ (n a b : Nat), a + b ≤ n → HasPer f a → HasPer f b → HasPer f (Nat.gcd a b)
  | 0, a, b, h, ha, hb => by
    have e1 : a = 0 := by omega
    have e2 : b = 0 := by omega
    subst e1; subst e2
    exact ha
  | n + 1, a, b, h, ha, hb => by
    by_cases h0 : b = 0
    · subst h0
      rw [Nat.gcd_zero_right]
      exact ha
    · by_cases h1 : a = 0
      · subst h1
        rw [Nat.gcd_zero_left]
        exact hb
      · by_cases hc : b ≤ a
        · have e := HasPer.gcd n (a - b) b (by omega) (ha.sub hb hc) hb
          rw [Nat.gcd_sub_self_left hc] at e
          exact e
        · have e := HasPer.gcd n a (b - a) (by omega) ha (hb.sub ha (by omega))
          rw [Nat.gcd_sub_self_right (by omega)] at e
          exact e
theorem HasPer.gcd2 {α : Type} {f : Nat → α} {a b : Nat} (ha : HasPer f a) (hb : HasPer f b) : HasPer f (Nat.gcd a b) := HasPer.gcd (a + b) a b (Nat.le_refl _) ha hb

/-- the row that a call makes -/
def mkRow (l : List Nat) (p : Nat) : List Nat := l.take p ++ l ++ l.drop (p + 1)
theorem mkRow_len {l : List Nat} {p : Nat} (h : p < l.length) : (mkRow l p).length = 2 * l.length - 1 := by
  unfold mkRow
  rw [List.length_append, List.length_append, List.length_take, List.length_drop]
  omega
theorem mkRow_at {l : List Nat} {p t : Nat} (h : p < l.length) : (mkRow l p)[t]? = if t < p then l[t]? else if t < p + l.length then l[t - p]? else l[t - l.length + 1]? := by
  unfold mkRow
  by_cases h1 : t < p
  · rw [if_pos h1, List.getElem?_append_left (by rw [List.length_append, List.length_take]; omega), List.getElem?_append_left (by rw [List.length_take]; omega), List.getElem?_take_of_lt h1]
  · rw [if_neg h1]
    by_cases h2 : t < p + l.length
    · rw [if_pos h2, List.getElem?_append_left (by rw [List.length_append, List.length_take]; omega), List.getElem?_append_right (by rw [List.length_take]; omega), List.length_take]
      congr 1
      omega
    · rw [if_neg h2, List.getElem?_append_right (by rw [List.length_append, List.length_take]; omega), List.length_append, List.length_take, List.getElem?_drop]
      congr 1
      omega
/-- a distance of equal letters that divides the last place -/
structure JPer (l : List Nat) (s : Nat) : Prop where
  pos : 1 ≤ s
  dvd : s ∣ l.length - 1
  eq : ∀ i, i + s < l.length → l[i]? = l[i + s]?
/-- the word without end -/
def inf (l : List Nat) (d : Nat) (t : Nat) : Nat := (l[t % d]?).getD 0
theorem inf_per (l : List Nat) (d : Nat) : HasPer (inf l d) d := fun t => by
  unfold inf
  rw [Nat.add_mod_right]
theorem per_get {l : List Nat} {d : Nat} (h1 : 1 ≤ d) (h : ∀ i, i + d < l.length → l[i]? = l[i + d]?) : ∀ i, i < l.length → l[i]? = some (inf l d i) := by
  intro i
  induction i using Nat.strongRecOn with
  | ind i ih =>
    intro hi
    by_cases c : i < d
    · unfold inf
      rw [Nat.mod_eq_of_lt c, List.getElem?_eq_getElem hi]
      rfl
    · have e := h (i - d) (by omega)
      rw [show i - d + d = i by omega] at e
      rw [← e, ih (i - d) (by omega) (by omega)]
      have e2 := inf_per l d (i - d)
      rw [show i - d + d = i by omega] at e2
      rw [e2]
theorem getD_of {l : List Nat} {d i x : Nat} (h : l[i]? = some x) (hd : i < d) : inf l d i = x := by
  unfold inf
  rw [Nat.mod_eq_of_lt hd, h]
  rfl
/-- a word that agrees with a periodic one has that period -/
theorem jper_of {l : List Nat} {f : Nat → Nat} {g : Nat} (h1 : 1 ≤ g) (hl : ∀ i, i < l.length → l[i]? = some (f i)) (hf : HasPer f g) (hd : g ∣ l.length - 1) : JPer l g :=
  ⟨h1, hd, fun i hi => by rw [hl i (by omega), hl (i + g) hi, hf]⟩
theorem mk_of_jper {l : List Nat} {s p : Nat} (J : JPer l s) (hp : p < l.length) (dp : s ∣ p) (t : Nat) (ht : t < 2 * l.length - 1) : (mkRow l p)[t]? = some (inf l s t) := by
  rw [mkRow_at hp]
  have G := per_get J.pos J.eq
  have P := inf_per l s
  split
  · exact G t (by omega)
  · split
    · rename_i h1 h2
      rw [G (t - p) (by omega)]
      have e := P.dvd dp (t - p)
      rw [show t - p + p = t by omega] at e
      rw [e]
    · rename_i h1 h2
      rw [G _ (by omega)]
      have e := P.dvd J.dvd (t - l.length + 1)
      rw [show t - l.length + 1 + (l.length - 1) = t by omega] at e
      rw [e]
theorem same_of_jper {l : List Nat} {s p q : Nat} (J : JPer l s) (hp : p < l.length) (hq : q < l.length) (dp : s ∣ p) (dq : s ∣ q) : mkRow l p = mkRow l q := by
  apply List.ext_getElem?
  intro t
  by_cases ht : t < 2 * l.length - 1
  · rw [mk_of_jper J hp dp t ht, mk_of_jper J hq dq t ht]
  · rw [List.getElem?_eq_none (by rw [mkRow_len hp]; omega), List.getElem?_eq_none (by rw [mkRow_len hq]; omega)]
/-- two places whose calls make one row are joints of some distance -/
theorem jper_of_same {l : List Nat} {p q : Nat} (hpq : p < q) (hq : q < l.length) (h : mkRow l p = mkRow l q) : ∃ g, JPer l g ∧ g ∣ p ∧ g ∣ q := by
  have hp : p < l.length := by omega
  have at_ : ∀ t, (if t < p then l[t]? else if t < p + l.length then l[t - p]? else l[t - l.length + 1]?) = (if t < q then l[t]? else if t < q + l.length then l[t - q]? else l[t - l.length + 1]?) := fun t => by
    rw [← mkRow_at hp, ← mkRow_at hq, h]
  obtain ⟨d, rfl⟩ : ∃ d, q = p + d := ⟨q - p, by omega⟩
  have hd : 1 ≤ d := by omega
  have per : ∀ i, i + d < l.length → l[i]? = l[i + d]? := fun i hi => by
    have e := at_ (p + d + i)
    rw [if_neg (by omega), if_pos (by omega), if_neg (by omega), if_pos (by omega)] at e
    rw [show p + d + i - p = i + d by omega, show p + d + i - (p + d) = i by omega] at e
    exact e.symm
  have G := per_get hd per
  have P := inf_per l d
  have per2 : HasPer (inf l d) p := by
    have base : ∀ i, i < d → inf l d (i + p) = inf l d i := fun i hi => by
      have e := at_ (p + i)
      rw [if_neg (by omega), if_pos (by omega), if_pos (by omega), show p + i - p = i by omega, G i (by omega), G (p + i) (by omega)] at e
      have e2 := Option.some.inj e
      rw [Nat.add_comm i p]
      exact e2.symm
    intro t
    rw [P.mod t, ← base (t % d) (Nat.mod_lt _ hd), P.mod (t + p), P.mod (t % d + p), Nat.mod_add_mod]
  have per3 : HasPer (inf l d) (l.length - 1) := by
    have base : ∀ j, j < d → inf l d (p + 1 + j) = inf l d (l.length - d + j) := fun j hj => by
      have e := at_ (p + l.length + j)
      rw [if_neg (by omega), if_neg (by omega), if_neg (by omega), if_pos (by omega), show p + l.length + j - l.length + 1 = p + 1 + j by omega, show p + l.length + j - (p + d) = l.length - d + j by omega,
        G _ (by omega), G _ (by omega)] at e
      exact Option.some.inj e
    have all : ∀ j, inf l d (p + 1 + j) = inf l d (l.length - d + j) := fun j => by
      have e := base (j % d) (Nat.mod_lt _ hd)
      rw [P.mod (p + 1 + j % d), Nat.add_mod_mod, ← P.mod, P.mod (l.length - d + j % d), Nat.add_mod_mod, ← P.mod] at e
      exact e
    have step : ∀ j, inf l d (j + 1 + (l.length - 1)) = inf l d (j + 1) := fun j => by
      have e := all j
      have e1 := per2 (j + 1)
      rw [show j + 1 + p = p + 1 + j by omega] at e1
      have e2 := P (l.length - d + j)
      rw [show l.length - d + j + d = j + 1 + (l.length - 1) by omega] at e2
      rw [e2, ← e, e1]
    intro t
    have e := step (t + (d - 1))
    have e1 := P (t + (l.length - 1))
    rw [show t + (d - 1) + 1 + (l.length - 1) = t + (l.length - 1) + d by omega, e1, show t + (d - 1) + 1 = t + d by omega, P] at e
    exact e
  have g2 := (P.gcd2 per2).gcd2 per3
  refine ⟨Nat.gcd (Nat.gcd d p) (l.length - 1), jper_of ?_ G g2 (Nat.gcd_dvd_right _ _), ?_, ?_⟩
  · exact Nat.gcd_pos_of_pos_left _ (Nat.gcd_pos_of_pos_left _ hd)
  · exact Nat.dvd_trans (Nat.gcd_dvd_left _ _) (Nat.gcd_dvd_right _ _)
  · exact Nat.dvd_add (Nat.dvd_trans (Nat.gcd_dvd_left _ _) (Nat.gcd_dvd_right _ _)) (Nat.dvd_trans (Nat.gcd_dvd_left _ _) (Nat.gcd_dvd_left _ _))
/-- the least such distance divides each -/
theorem jper_gcd {l : List Nat} {a b : Nat} (A : JPer l a) (B : JPer l b) : JPer l (Nat.gcd a b) := by
  have hL : l.length - 1 = 0 ∨ 1 ≤ l.length - 1 := by omega
  have ga := per_get A.pos A.eq
  have gb := per_get B.pos B.eq
  have hg : 1 ≤ Nat.gcd a b := Nat.gcd_pos_of_pos_left _ A.pos
  rcases hL with hL | hL
  · refine ⟨hg, by rw [hL]; exact Nat.dvd_zero _, fun i hi => ?_⟩
    omega
  · have pa : HasPer (inf l (l.length - 1)) a := fun t => by
      have key : ∀ t, inf l (l.length - 1) t = inf l a t := fun t => by
        have hm : t % (l.length - 1) < l.length - 1 := Nat.mod_lt _ hL
        unfold inf
        rw [ga (t % (l.length - 1)) (by omega)]
        show inf l a (t % (l.length - 1)) = inf l a t
        rw [(inf_per l a).mod, Nat.mod_mod_of_dvd _ A.dvd, ← (inf_per l a).mod]
      rw [key, key, inf_per l a]
    have pb : HasPer (inf l (l.length - 1)) b := fun t => by
      have key : ∀ t, inf l (l.length - 1) t = inf l b t := fun t => by
        have hm : t % (l.length - 1) < l.length - 1 := Nat.mod_lt _ hL
        unfold inf
        rw [gb (t % (l.length - 1)) (by omega)]
        show inf l b (t % (l.length - 1)) = inf l b t
        rw [(inf_per l b).mod, Nat.mod_mod_of_dvd _ B.dvd, ← (inf_per l b).mod]
      rw [key, key, inf_per l b]
    refine jper_of hg (f := inf l (l.length - 1)) (fun i hi => ?_) (pa.gcd2 pb) (Nat.dvd_trans (Nat.gcd_dvd_left _ _) A.dvd)
    by_cases c : i < l.length - 1
    · unfold inf
      rw [Nat.mod_eq_of_lt c, List.getElem?_eq_getElem hi]
      rfl
    · have e : i = l.length - 1 := by omega
      subst e
      rw [ga _ hi]
      congr 1
      rw [(inf_per l a).mod, Nat.mod_eq_zero_of_dvd A.dvd]
      unfold inf
      rw [Nat.zero_mod, Nat.mod_self]
/-- the step: least of all -/
def IsStep (l : List Nat) (s : Nat) : Prop := JPer l s ∧ ∀ g, JPer l g → s ≤ g
theorem IsStep.dvd {l : List Nat} {s g : Nat} (S : IsStep l s) (G : JPer l g) : s ∣ g := by
  have h := S.2 _ (jper_gcd S.1 G)
  have h2 : Nat.gcd s g ≤ s := Nat.gcd_le_left _ S.1.pos
  have h3 : Nat.gcd s g = s := by omega
  rw [← h3]
  exact Nat.gcd_dvd_right _ _
/-- which places make the same row -/
theorem same_iff {l : List Nat} {s p q : Nat} (S : IsStep l s) (hp : p < l.length) (hq : q < l.length) : mkRow l p = mkRow l q ↔ p = q ∨ (s ∣ p ∧ s ∣ q) := by
  constructor
  · intro h
    rcases Nat.lt_trichotomy p q with c | c | c
    · obtain ⟨g, G, g1, g2⟩ := jper_of_same c hq h
      exact .inr ⟨Nat.dvd_trans (S.dvd G) g1, Nat.dvd_trans (S.dvd G) g2⟩
    · exact .inl c
    · obtain ⟨g, G, g1, g2⟩ := jper_of_same c hp h.symm
      exact .inr ⟨Nat.dvd_trans (S.dvd G) g2, Nat.dvd_trans (S.dvd G) g1⟩
  · rintro (rfl | ⟨h1, h2⟩)
    · rfl
    · exact same_of_jper S.1 hp hq h1 h2
theorem same_iff0 {l : List Nat} {p q : Nat} (S : ∀ g, ¬ JPer l g) (hp : p < l.length) (hq : q < l.length) : mkRow l p = mkRow l q ↔ p = q := by
  constructor
  · intro h
    rcases Nat.lt_trichotomy p q with c | c | c
    · obtain ⟨g, G, _⟩ := jper_of_same c hq h
      exact (S g G).elim
    · exact c
    · obtain ⟨g, G, _⟩ := jper_of_same c hp h.symm
      exact (S g G).elim
  · rintro rfl
    rfl
end Ow
namespace Ow
/-! ### periods on a stretch -/
/-- places of one remainder within a stretch hold the same -/
def PerC {α : Type} (f : Nat → α) (lo hi d : Nat) : Prop := ∀ x y, lo ≤ x → x < hi → lo ≤ y → y < hi → x % d = y % d → f x = f y
def PerOn {α : Type} (f : Nat → α) (lo hi d : Nat) : Prop := ∀ j, lo ≤ j → j + d < hi → f j = f (j + d)
section
variable {α : Type} {f : Nat → α} {lo hi lo' hi' d g a b : Nat}
theorem PerC.on (h : PerC f lo hi d) : PerOn f lo hi d := fun j h1 h2 => h j (j + d) h1 (by omega) (by omega) h2 (by rw [Nat.add_mod_right])
theorem PerOn.steps (h : PerOn f lo hi d) : ∀ (k j : Nat), lo ≤ j → j + d * k < hi → f j = f (j + d * k)
  | 0, j, _, _ => by simp
  | k + 1, j, h1, h2 => by
    rw [Nat.mul_succ] at h2 ⊢
    rw [PerOn.steps h k j h1 (by omega), ← Nat.add_assoc]
    exact h _ (by omega) (by omega)
theorem mod_step {x y d : Nat} (h : x ≤ y) (e : x % d = y % d) : ∃ k, y = x + d * k := by
  refine ⟨y / d - x / d, ?_⟩
  have h1 := Nat.mod_add_div x d
  have h2 := Nat.mod_add_div y d
  have h3 : x / d ≤ y / d := Nat.div_le_div_right h
  rw [Nat.mul_sub]
  have h4 : d * (x / d) ≤ d * (y / d) := Nat.mul_le_mul_left _ h3
  omega
theorem PerOn.c (h : PerOn f lo hi d) : PerC f lo hi d := by
  have key : ∀ x y, x ≤ y → lo ≤ x → y < hi → x % d = y % d → f x = f y := fun x y h1 h2 h3 h4 => by
    obtain ⟨k, rfl⟩ := mod_step h1 h4
    exact h.steps k x h2 h3
  intro x y h1 h2 h3 h4 h5
  rcases Nat.le_total x y with c | c
  · exact key x y c h1 h4 h5
  · exact (key y x c h3 h2 h5.symm).symm
theorem PerC.sub (h : PerC f lo hi d) (h1 : lo ≤ lo') (h2 : hi' ≤ hi) : PerC f lo' hi' d := fun x y a1 a2 a3 a4 e => h x y (by omega) (by omega) (by omega) (by omega) e
theorem PerC.dvd (h : PerC f lo hi g) (hg : g ∣ d) : PerC f lo hi d := fun x y a1 a2 a3 a4 e => h x y a1 a2 a3 a4 (by
  rw [← Nat.mod_mod_of_dvd x hg, e, Nat.mod_mod_of_dvd y hg])
/-- a place of this remainder in a stretch of one period -/
theorem in_window (l x : Nat) (h : 1 ≤ a) : ∃ z, l ≤ z ∧ z < l + a ∧ z % a = x % a := by
  have h0 : l % a < a := Nat.mod_lt _ h
  have h1 : x % a < a := Nat.mod_lt _ h
  have h2 := Nat.mod_add_div l a
  by_cases c : l % a ≤ x % a
  · refine ⟨a * (l / a) + x % a, by omega, by omega, ?_⟩
    rw [Nat.mul_add_mod, Nat.mod_mod]
  · refine ⟨a * (l / a) + a + x % a, by omega, by omega, ?_⟩
    rw [← Nat.mul_succ, Nat.mul_add_mod, Nat.mod_mod]
/-- a part as long as the period has a smaller one, then the whole has it -/
theorem PerC.extend (h : PerC f lo hi a) (h' : PerC f lo' hi' g) (hg : g ∣ a) (ha : 1 ≤ a) (h1 : lo ≤ lo') (h2 : hi' ≤ hi) (h3 : lo' + a ≤ hi') : PerC f lo hi g := by
  intro x y a1 a2 a3 a4 e
  obtain ⟨x', x1, x2, x3⟩ := in_window lo' x ha
  obtain ⟨y', y1, y2, y3⟩ := in_window lo' y ha
  rw [h x x' a1 a2 (by omega) (by omega) x3.symm, h y y' a3 a4 (by omega) (by omega) y3.symm]
  refine h' x' y' x1 (by omega) y1 (by omega) ?_
  rw [← Nat.mod_mod_of_dvd x' hg, x3, Nat.mod_mod_of_dvd x hg, e, ← Nat.mod_mod_of_dvd y hg, ← y3, Nat.mod_mod_of_dvd y' hg]
theorem PerC.merge (h : PerC f lo hi g) (h' : PerC f lo' hi' g) (h1 : lo ≤ lo') (h3 : lo' + g ≤ hi) : PerC f lo hi' g :=
  PerOn.c fun j j1 j2 => by
    by_cases c : j + g < hi
    · exact h.on j j1 c
    · exact h'.on j (by omega) j2
/-- Fine and Wilf -/
theorem PerC.gcd : ∀ (n a b lo hi : Nat), a + b ≤ n → 1 ≤ a → 1 ≤ b → PerC f lo hi a → PerC f lo hi b → lo + (a + b) ≤ hi + Nat.gcd a b → PerC f lo hi (Nat.gcd a b)
  | 0, a, b, lo, hi, hn, ha, hb, _, _, _ => by omega
  | n + 1, a, b, lo, hi, hn, ha, hb, A, B, hl => by
    have main : ∀ (a b : Nat), a + b ≤ n + 1 → 1 ≤ a → a < b → PerC f lo hi a → PerC f lo hi b → lo + (a + b) ≤ hi + Nat.gcd a b → PerC f lo hi (Nat.gcd a b) := by
      intro a b hn ha hab A B hl
      have eg : Nat.gcd a (b - a) = Nat.gcd a b := Nat.gcd_sub_self_right (by omega)
      have hgb : Nat.gcd a (b - a) ≤ b - a := Nat.gcd_le_right _ (by omega)
      have D : PerC f lo (hi - a) (b - a) := PerOn.c fun j j1 j2 => by
        have e1 := B.on j j1 (by omega)
        have e2 := A.on (j + (b - a)) (by omega) (by omega)
        rw [show j + (b - a) + a = j + b by omega] at e2
        rw [e1, e2]
      have r := PerC.gcd n a (b - a) lo (hi - a) (by omega) ha (by omega) (A.sub (Nat.le_refl _) (by omega)) D (by rw [eg]; omega)
      rw [eg] at r hgb
      exact A.extend r (Nat.gcd_dvd_left _ _) ha (Nat.le_refl _) (by omega) (by omega)
    rcases Nat.lt_trichotomy a b with c | c | c
    · exact main a b hn ha c A B hl
    · subst c
      rw [Nat.gcd_self]
      exact A
    · rw [Nat.gcd_comm]
      exact main b a (by omega) hb c B A (by rw [Nat.gcd_comm]; omega)
end

/-! ### elders' places -/
/-- p is a place whose call made f (2 n + 1 letters) -/
structure Sq {α : Type} (f : Nat → α) (n p : Nat) : Prop where
  le : p ≤ n
  pre : ∀ i, i < p → f i = f (i + p)
  suf : ∀ i, 2 * p + 1 ≤ i → i ≤ n + p → f i = f (i + (n - p))
/-- the rows of two places are equal -/
def RowEq {α : Type} (f : Nat → α) (n p q : Nat) : Prop := ∀ i, i ≤ n → f (p + i) = f (q + i)
/-- the row told from behind -/
def rv {α : Type} (f : Nat → α) (n : Nat) (i : Nat) : α := f (2 * n - i)
section
variable {α : Type} {f : Nat → α} {n p q r g : Nat}
theorem RowEq.symm (h : RowEq f n p q) : RowEq f n q p := fun i hi => (h i hi).symm
theorem RowEq.trans (h : RowEq f n p q) (h' : RowEq f n q r) : RowEq f n p r := fun i hi => (h i hi).trans (h' i hi)
theorem Sq.rv (h : Sq f n p) : Sq (rv f n) n (n - p) := by
  have hp := h.le
  refine ⟨by omega, fun i hi => ?_, fun i h1 h2 => ?_⟩
  · show f (2 * n - i) = f (2 * n - (i + (n - p)))
    have e := h.suf (2 * n - (i + (n - p))) (by omega) (by omega)
    rw [e]
    congr 1
    omega
  · show f (2 * n - i) = f (2 * n - (i + (n - (n - p))))
    have e := h.pre (2 * n - (i + (n - (n - p)))) (by omega)
    rw [e]
    congr 1
    omega
theorem RowEq.of_rv (h1 : p ≤ n) (h2 : q ≤ n) (h : RowEq (rv f n) n (n - p) (n - q)) : RowEq f n p q := fun i hi => by
  have e := h (n - i) (by omega)
  have e' : f (2 * n - (n - p + (n - i))) = f (2 * n - (n - q + (n - i))) := e
  rw [show 2 * n - (n - p + (n - i)) = p + i by omega, show 2 * n - (n - q + (n - i)) = q + i by omega] at e'
  exact e'
theorem PerC.rv {lo hi : Nat} (h : PerC f lo hi g) (hh : hi ≤ 2 * n + 1) : PerC (rv f n) (2 * n + 1 - hi) (2 * n + 1 - lo) g := PerOn.c fun j j1 j2 => by
  show f (2 * n - j) = f (2 * n - (j + g))
  have e := h.on (2 * n - (j + g)) (by omega) (by omega)
  rw [show 2 * n - (j + g) + g = 2 * n - j by omega] at e
  exact e.symm
theorem PerC.of_rv {lo hi : Nat} (h : PerC (Ow.rv f n) (2 * n + 1 - hi) (2 * n + 1 - lo) g) (hh : hi ≤ 2 * n + 1) (hl : lo ≤ 2 * n + 1) : PerC f lo hi g := PerOn.c fun j j1 j2 => by
  have e := h.on (2 * n - (j + g)) (by omega) (by omega)
  have e' : f (2 * n - (2 * n - (j + g))) = f (2 * n - (2 * n - (j + g) + g)) := e
  rw [show 2 * n - (2 * n - (j + g)) = j + g by omega, show 2 * n - (2 * n - (j + g) + g) = j by omega] at e'
  exact e'.symm
theorem pair_pre (P : Sq f n p) (Q : Sq f n q) (h : p < q) : PerC f p (p + q) (q - p) := PerOn.c fun j h1 h2 => by
  have e1 := P.pre (j - p) (by omega)
  have e2 := Q.pre (j - p) (by omega)
  rw [show j - p + p = j by omega] at e1
  rw [show j - p + q = j + (q - p) by omega] at e2
  rw [← e1, e2]
theorem pair_suf (P : Sq f n p) (Q : Sq f n q) (h : p < q) : PerC f (p + q + 1) (n + q + 1) (q - p) := PerOn.c fun j h1 h2 => by
  have hq := Q.le
  have e1 := P.suf j (by omega) (by omega)
  have e2 := Q.suf (j + (q - p)) (by omega) (by omega)
  rw [e1, e2]
  congr 1
  omega
/-- all of the two rows' stretch has a period that divides their distance: the rows are equal -/
theorem row_of_per (h : p < q) (hg : g ∣ q - p) (H : PerC f p (n + q + 1) g) : RowEq f n p q := fun i hi => H _ _ (by omega) (by omega) (by omega) (by omega) (by
  obtain ⟨k, hk⟩ := hg
  rw [show q + i = p + i + g * k by omega, Nat.add_mul_mod_self_left])
/-- g is the least period of the stretch among the divisors of itself -/
structure Prim (f : Nat → α) (lo hi g : Nat) : Prop where
  pos : 1 ≤ g
  per : PerC f lo hi g
  least : ∀ e, e ∣ g → PerC f lo hi e → e = g
theorem small_side (P : Sq f n p) (Q : Sq f n q) (h : p < q) (hg : g ∣ q - p) (R : Prim f q (n + q + 1) g) (ne : ¬ RowEq f n p q) : p < g := by
  have hq := Q.le
  have hga : g ≤ q - p := Nat.le_of_dvd (by omega) hg
  have gpos := R.pos
  refine Classical.byContradiction fun hpg => ?_
  have hpg : g ≤ p := by omega
  have a1 : ¬ q - p ≤ p := fun c => by
    have w : PerC f q (p + q) g := R.per.sub (Nat.le_refl _) (by omega)
    have z := (pair_pre P Q h).extend w hg (by omega) (by omega) (by omega) (by omega)
    exact ne (row_of_per h hg (z.merge R.per (by omega) (by omega)))
  have front : PerC f 0 q g := PerOn.c fun j j1 j2 => by
    rw [Q.pre j (by omega), Q.pre (j + g) (by omega)]
    have e := R.per.on (j + q) (by omega) (by omega)
    rw [e]
    congr 1
    omega
  have pp : PerC f 0 (2 * p) p := PerOn.c fun j j1 j2 => P.pre j (by omega)
  have e1 := PerC.gcd (p + g) p g 0 (2 * p) (Nat.le_refl _) (by omega) gpos pp (front.sub (Nat.le_refl _) (by omega)) (by omega)
  have e2 := front.extend e1 (Nat.gcd_dvd_right _ _) gpos (Nat.le_refl _) (by omega) (by omega)
  have e3 : PerC f q (2 * q) (Nat.gcd p g) := PerOn.c fun j j1 j2 => by
    have z1 := Q.pre (j - q) (by omega)
    have z2 := Q.pre (j + Nat.gcd p g - q) (by omega)
    rw [show j - q + q = j by omega] at z1
    rw [show j + Nat.gcd p g - q + q = j + Nat.gcd p g by omega] at z2
    rw [← z1, ← z2]
    have z3 := e2.on (j - q) (by omega) (by omega)
    rw [z3]
    congr 1
    omega
  have e4 := R.per.extend e3 (Nat.gcd_dvd_right _ _) gpos (Nat.le_refl _) (by omega) (by omega)
  have e5 := R.least _ (Nat.gcd_dvd_right p g) e4
  have gp : g ∣ p := by
    rw [← e5]
    exact Nat.gcd_dvd_left _ _
  have gq : g ∣ q := by
    have := Nat.dvd_add hg gp
    rwa [Nat.sub_add_cancel (by omega)] at this
  refine ne (row_of_per h hg ?_)
  refine PerOn.c fun j j1 j2 => ?_
  by_cases c1 : q ≤ j
  · exact R.per.on j c1 j2
  · by_cases c2 : j + g < q
    · exact front.on j (by omega) c2
    · rw [Q.pre j (by omega)]
      refine R.per _ _ (by omega) (by omega) (by omega) j2 ?_
      obtain ⟨k, rfl⟩ := gq
      rw [Nat.add_mul_mod_self_left, Nat.add_mod_right]
theorem prim_of (hg : 1 ≤ g) (h : PerC f p q g) : ∃ e, e ∣ g ∧ Prim f p q e := by
  induction g using Nat.strongRecOn with
  | ind g ih =>
    by_cases c : ∃ e, e ∣ g ∧ e ≠ g ∧ PerC f p q e
    · obtain ⟨e, h1, h2, h3⟩ := c
      have h4 : 1 ≤ e := Nat.pos_of_dvd_of_pos h1 hg
      have h5 : e ≤ g := Nat.le_of_dvd hg h1
      obtain ⟨e', d1, d2⟩ := ih e (by omega) h4 h3
      exact ⟨e', Nat.dvd_trans d1 h1, d2⟩
    · refine ⟨g, Nat.dvd_refl _, hg, h, fun e h1 h2 => Classical.byContradiction fun h3 => c ⟨e, h1, h3, h2⟩⟩
theorem three_half (P : Sq f n p) (Q : Sq f n q) (R : Sq f n r) (h1 : p < q) (h2 : q < r) (n1 : ¬ RowEq f n p q) (n2 : ¬ RowEq f n q r) : ¬ p < n - r := by
  intro hpm
  have hr := R.le
  have z1 : PerC f (p + q + 1) (q + r) (q - p) := (pair_suf P Q h1).sub (Nat.le_refl _) (by omega)
  have z2 : PerC f (p + q + 1) (q + r) (r - q) := (pair_pre Q R h2).sub (by omega) (Nat.le_refl _)
  have g1 : 1 ≤ Nat.gcd (q - p) (r - q) := Nat.gcd_pos_of_pos_left _ (by omega)
  have g2 : Nat.gcd (q - p) (r - q) ≤ q - p := Nat.gcd_le_left _ (by omega)
  have g3 : Nat.gcd (q - p) (r - q) ≤ r - q := Nat.gcd_le_right _ (by omega)
  have z3 := PerC.gcd _ _ _ _ _ (Nat.le_refl _) (by omega) (by omega) z1 z2 (by omega)
  have z4 := (pair_pre Q R h2).extend z3 (Nat.gcd_dvd_right _ _) (by omega) (by omega) (by omega) (by omega)
  have z5 := (pair_suf P Q h1).extend z3 (Nat.gcd_dvd_left _ _) (by omega) (by omega) (by omega) (by omega)
  have z6 := z4.merge z5 (by omega) (by omega)
  obtain ⟨g, dg, G⟩ := prim_of g1 z6
  have da : g ∣ q - p := Nat.dvd_trans dg (Nat.gcd_dvd_left _ _)
  have db : g ∣ r - q := Nat.dvd_trans dg (Nat.gcd_dvd_right _ _)
  have gpos := G.pos
  have hga : g ≤ q - p := Nat.le_of_dvd (by omega) da
  have hgb : g ≤ r - q := Nat.le_of_dvd (by omega) db
  have hp : p < g := small_side P Q h1 da G n1
  have hm : n - r < g := by
    have G' : Prim (rv f n) (n - q) (n + (n - q) + 1) g := by
      have e1 : 2 * n + 1 - (n + q + 1) = n - q := by omega
      have e2 : 2 * n + 1 - q = n + (n - q) + 1 := by omega
      refine ⟨gpos, ?_, fun e he H => G.least e he ?_⟩
      · have z := G.per.rv (n := n) (by omega)
        rw [e1, e2] at z
        exact z
      · rw [← e2] at H
        exact PerC.of_rv (by rw [e1]; exact H) (by omega) (by omega)
    refine small_side R.rv Q.rv (by omega) ?_ G' fun H => n2 (RowEq.of_rv (by omega) (by omega) H).symm
    rw [show n - q - (n - r) = r - q by omega]
    exact db
  -- the word without end
  have U : ∀ i, i ≤ n → f (q + i) = f (q + i % g) := fun i hi => by
    have : i % g ≤ i := Nat.mod_le _ _
    exact G.per _ _ (by omega) (by omega) (by omega) (by omega) (by rw [Nat.add_mod, Nat.add_mod q, Nat.mod_mod])
  obtain ⟨ka, hka⟩ := da
  obtain ⟨kb, hkb⟩ := db
  have modr : ∀ x y k, x = y + g * k → x % g = y % g := fun x y k e => by rw [e, Nat.add_mul_mod_self_left]
  -- equal letters at the distance n - r - p
  have step : ∀ y, p ≤ y → y < q → f (q + y % g) = f (q + (y + (n - r - p)) % g) := by
    intro y y1 y2
    by_cases c : y ≤ 2 * p
    · obtain ⟨i, rfl⟩ : ∃ i, y = p + i := ⟨y - p, by omega⟩
      have e4 := R.pre (q + i) (by omega)
      rw [show q + i + r = q + (r + i) by omega, U i (by omega), U (r + i) (by omega)] at e4
      have m4 : (r + i) % g = (p + i) % g := modr _ _ (ka + kb) (by rw [Nat.mul_add]; omega)
      rw [m4] at e4
      have e3 := P.suf (q + i) (by omega) (by omega)
      rw [show q + i + (n - p) = q + (i + (n - p)) by omega, U i (by omega), U (i + (n - p)) (by omega)] at e3
      have m3 : (i + (n - p)) % g = (p + i + (n - r - p)) % g := modr _ _ (ka + kb) (by rw [Nat.mul_add]; omega)
      rw [m3] at e3
      rw [← e4, e3]
    · have e2 := P.suf y (by omega) (by omega)
      have e1 := Q.pre y y2
      rw [show y + q = q + y by omega, U y (by omega)] at e1
      rw [show y + (n - p) = q + (y + (n - p) - q) by omega, U _ (by omega)] at e2
      have m2 : (y + (n - r - p)) % g = (y + (n - p) - q) % g := by
        refine (modr _ _ kb ?_).symm
        omega
      rw [m2, ← e2, e1]
  let u : Nat → α := fun i => f (q + i % g)
  have ug : HasPer u g := fun t => by
    show f (q + (t + g) % g) = f (q + t % g)
    rw [Nat.add_mod_right]
  have ud : HasPer u (n - r - p) := fun t => by
    obtain ⟨y, y1, y2, y3⟩ := in_window p t gpos
    have e := step y y1 (by omega)
    show f (q + (t + (n - r - p)) % g) = f (q + t % g)
    rw [← y3, e]
    congr 2
    rw [Nat.add_mod, ← y3, ← Nat.add_mod]
  have ue := ud.gcd2 ug
  have e9 := G.least (Nat.gcd (n - r - p) g) (Nat.gcd_dvd_right _ _) (PerOn.c fun j j1 j2 => by
    have hj : ∀ x, q ≤ x → x < n + q + 1 → f x = u (x - q) := fun x x1 x2 => by
      have := U (x - q) (by omega)
      rw [show q + (x - q) = x by omega] at this
      exact this
    rw [hj j j1 (by omega), hj _ (by omega) j2, show j + Nat.gcd (n - r - p) g - q = j - q + Nat.gcd (n - r - p) g by omega, ue])
  have : Nat.gcd (n - r - p) g ≤ n - r - p := Nat.gcd_le_left _ (by omega)
  omega
/-- the outer ones of three elders' places add up to the last one -/
theorem three_sum (P : Sq f n p) (Q : Sq f n q) (R : Sq f n r) (h1 : p < q) (h2 : q < r) (n1 : ¬ RowEq f n p q) (n2 : ¬ RowEq f n q r) : p + r = n := by
  have hr := R.le
  have a := three_half P Q R h1 h2 n1 n2
  have b := three_half R.rv Q.rv P.rv (by omega) (by omega) (fun H => n2 (RowEq.of_rv (by omega) (by omega) H).symm) (fun H => n1 (RowEq.of_rv (by omega) (by omega) H).symm)
  omega
/-- a second place beside 0: the same row -/
theorem zero_row (Z : Sq f n 0) (Q : Sq f n q) (h : 1 ≤ q) : RowEq f n 0 q := by
  have hq := Q.le
  -- letters on the ring of n places
  have hn : 1 ≤ n := by omega
  let x : Nat → α := fun i => f (i % n + 1)
  have xi : ∀ i, 1 ≤ i → i ≤ 2 * n → f i = x (i - 1) := fun i i1 i2 => by
    show f i = f ((i - 1) % n + 1)
    by_cases c : i ≤ n
    · rw [Nat.mod_eq_of_lt (show i - 1 < n by omega)]
      congr 1
      omega
    · have e := Z.suf (i - n) (by omega) (by omega)
      rw [show i - n + (n - 0) = i by omega] at e
      rw [← e]
      congr 1
      rw [show i - 1 = (i - n - 1) + n by omega, Nat.add_mod_right, Nat.mod_eq_of_lt (by omega)]
      omega
  have xn : HasPer x n := fun t => by
    show f ((t + n) % n + 1) = f (t % n + 1)
    rw [Nat.add_mod_right]
  -- all steps by q but one
  have st : ∀ i, q + 1 ≤ i → i ≤ n + q → i ≠ 2 * q → x (i - 1) = x (i - 1 - q) := fun i i1 i2 i3 => by
    by_cases c : i < 2 * q
    · have e := Q.pre (i - q) (by omega)
      rw [show i - q + q = i by omega] at e
      rw [← xi i (by omega) (by omega), ← e, xi (i - q) (by omega) (by omega)]
      congr 1
      omega
    · have e := Q.suf i (by omega) (by omega)
      rw [← xi i (by omega) (by omega), e, xi (i + (n - q)) (by omega) (by omega)]
      rw [show i + (n - q) - 1 = (i - 1 - q) + n by omega, xn]
  -- the ring: from 2 q - 1 on, until the way comes back
  have walk : ∃ k, x (2 * q - 1 + k * q) = x (2 * q - 1) ∧ (2 * q - 1 + (k + 1) * q) % n = (2 * q - 1) % n := by
    refine Classical.byContradiction fun no => ?_
    have all : ∀ k, x (2 * q - 1 + k * q) = x (2 * q - 1) := by
      intro k
      induction k with
      | zero => simp
      | succ k ih =>
        have c : ¬ (2 * q - 1 + (k + 1) * q) % n = (2 * q - 1) % n := fun c => no ⟨k, ih, c⟩
        rw [← ih]
        obtain ⟨z, z1, z2, z3⟩ := in_window (q + 1) (2 * q - 1 + (k + 1) * q + 1) hn
        have ne : z ≠ 2 * q := fun e => by
          apply c
          rw [e] at z3
          have := congrArg (fun t => (t + (n - 1)) % n) z3
          simp only [Nat.mod_add_mod] at this
          rw [show 2 * q + (n - 1) = 2 * q - 1 + n by omega, show 2 * q - 1 + (k + 1) * q + 1 + (n - 1) = 2 * q - 1 + (k + 1) * q + n by omega, Nat.add_mod_right, Nat.add_mod_right] at this
          exact this.symm
        have e := st z z1 (by omega) ne
        have hk : (k + 1) * q = k * q + q := Nat.succ_mul _ _
        have m1 : (z - 1) % n = (2 * q - 1 + (k + 1) * q) % n := by
          have := congrArg (fun t => (t + (n - 1)) % n) z3
          simp only [Nat.mod_add_mod] at this
          rw [show z + (n - 1) = z - 1 + n by omega, show 2 * q - 1 + (k + 1) * q + 1 + (n - 1) = 2 * q - 1 + (k + 1) * q + n by omega, Nat.add_mod_right, Nat.add_mod_right] at this
          exact this
        have m2 : (z - 1 - q) % n = (2 * q - 1 + k * q) % n := by
          have := congrArg (fun t => (t + (n - q)) % n) m1
          simp only [Nat.mod_add_mod] at this
          rw [show z - 1 + (n - q) = z - 1 - q + n by omega, show 2 * q - 1 + (k + 1) * q + (n - q) = 2 * q - 1 + k * q + n by omega, Nat.add_mod_right, Nat.add_mod_right] at this
          exact this
        rw [xn.mod (2 * q - 1 + (k + 1) * q), xn.mod (2 * q - 1 + k * q), ← m1, ← m2, ← xn.mod, ← xn.mod]
        exact e
    refine no ⟨n - 1, all _, ?_⟩
    rw [show n - 1 + 1 = n by omega, Nat.add_mul_mod_self_left]
  obtain ⟨k, k1, k2⟩ := walk
  have eq2 : f q = f (2 * q) := by
    have hk : (k + 1) * q = k * q + q := Nat.succ_mul _ _
    have m : (q - 1) % n = (2 * q - 1 + k * q) % n := by
      have := congrArg (fun t => (t + (n - q)) % n) k2
      simp only [Nat.mod_add_mod] at this
      rw [show 2 * q - 1 + (k + 1) * q + (n - q) = 2 * q - 1 + k * q + n by omega, show 2 * q - 1 + (n - q) = q - 1 + n by omega, Nat.add_mod_right, Nat.add_mod_right] at this
      exact this.symm
    rw [xi q h (by omega), xi (2 * q) (by omega) (by omega), ← k1, xn.mod (q - 1), m, ← xn.mod]
  intro i hi
  rw [Nat.zero_add]
  rcases Nat.lt_trichotomy i q with c | c | c
  · rw [Q.pre i c, Nat.add_comm]
  · subst c
    rw [eq2]
    congr 1
    omega
  · have e := st (i + q) (by omega) (by omega) (by omega)
    rw [show i + q - 1 - q = i - 1 by omega, ← xi (i + q) (by omega) (by omega), ← xi i (by omega) (by omega)] at e
    rw [← e, Nat.add_comm]
end
end Ow
namespace Ow
/-! ### elders as lists -/
def rowAt (c : List Nat) (n p : Nat) : List Nat := (c.drop p).take (n + 1)
def El (c : List Nat) (n p : Nat) : Prop := p ≤ n ∧ mkRow (rowAt c n p) p = c
instance (c : List Nat) (n p : Nat) : Decidable (El c n p) := inferInstanceAs (Decidable (_ ∧ _))
section
variable {c : List Nat} {n p q : Nat}
theorem rowAt_len (hc : c.length = 2 * n + 1) (hp : p ≤ n) : (rowAt c n p).length = n + 1 := by
  unfold rowAt
  rw [List.length_take, List.length_drop]
  omega
theorem rowAt_get {i : Nat} (hi : i ≤ n) : (rowAt c n p)[i]? = c[p + i]? := by
  unfold rowAt
  rw [List.getElem?_take_of_lt (by omega), List.getElem?_drop]
theorem el_sq (hc : c.length = 2 * n + 1) : El c n p ↔ Sq (fun i => c[i]?) n p := by
  constructor
  · rintro ⟨hp, e⟩
    have hl := rowAt_len hc hp
    have at_ : ∀ t, c[t]? = if t < p then (rowAt c n p)[t]? else if t < p + (n + 1) then (rowAt c n p)[t - p]? else (rowAt c n p)[t - (n + 1) + 1]? := fun t => by
      have z := mkRow_at (l := rowAt c n p) (p := p) (t := t) (by omega)
      rw [e, hl] at z
      exact z
    refine ⟨hp, fun i hi => ?_, fun i h1 h2 => ?_⟩
    · have z := at_ i
      rw [if_pos hi, rowAt_get (by omega)] at z
      show c[i]? = c[i + p]?
      rw [z, Nat.add_comm]
    · have z := at_ (i + (n - p))
      rw [if_neg (by omega), if_neg (by omega), rowAt_get (by omega)] at z
      show c[i]? = c[i + (n - p)]?
      rw [z]
      congr 1
      omega
  · intro S
    have hp := S.le
    refine ⟨hp, ?_⟩
    have hl := rowAt_len hc hp
    apply List.ext_getElem?
    intro t
    rw [mkRow_at (by omega), hl]
    by_cases h1 : t < p
    · rw [if_pos h1, rowAt_get (by omega), Nat.add_comm]
      exact (S.pre t h1).symm
    · rw [if_neg h1]
      by_cases h2 : t < p + (n + 1)
      · rw [if_pos h2, rowAt_get (by omega)]
        congr 1
        omega
      · rw [if_neg h2]
        by_cases h3 : t ≤ 2 * n
        · rw [rowAt_get (by omega)]
          have z := S.suf (p + (t - (n + 1) + 1)) (by omega) (by omega)
          have z' : c[p + (t - (n + 1) + 1)]? = c[p + (t - (n + 1) + 1) + (n - p)]? := z
          rw [z']
          congr 1
          omega
        · rw [List.getElem?_eq_none (by omega), List.getElem?_eq_none (by omega)]
theorem rowAt_eq (hc : c.length = 2 * n + 1) (hp : p ≤ n) (hq : q ≤ n) : rowAt c n p = rowAt c n q ↔ RowEq (fun i => c[i]?) n p q := by
  constructor
  · intro h i hi
    show c[p + i]? = c[q + i]?
    rw [← rowAt_get hi, ← rowAt_get hi, h]
  · intro h
    apply List.ext_getElem?
    intro i
    by_cases c : i ≤ n
    · rw [rowAt_get c, rowAt_get c]
      exact h i c
    · rw [List.getElem?_eq_none (by rw [rowAt_len hc hp]; omega), List.getElem?_eq_none (by rw [rowAt_len hc hq]; omega)]
theorem mkRow_row (l : List Nat) {p : Nat} (hp : p < l.length) : rowAt (mkRow l p) (l.length - 1) p = l := by
  unfold rowAt mkRow
  rw [List.append_assoc, List.drop_append, List.drop_eq_nil_of_le (by rw [List.length_take]; omega), List.nil_append, List.length_take, show p - min p l.length = 0 by omega, List.drop_zero, List.take_append_of_le_length (by omega)]
  exact List.take_of_length_le (by omega)
theorem mkRow_el (l : List Nat) {p : Nat} (hp : p < l.length) : El (mkRow l p) (l.length - 1) p := ⟨by omega, by rw [mkRow_row l hp]⟩
/-- the places of all elders -/
def pls (c : List Nat) (n : Nat) : List Nat := (List.range (n + 1)).filter fun p => decide (El c n p)
theorem mem_pls : p ∈ pls c n ↔ El c n p := by
  unfold pls
  rw [List.mem_filter, List.mem_range, decide_eq_true_iff]
  exact ⟨fun h => h.2, fun h => ⟨by have := h.1; omega, h⟩⟩
theorem pls_sorted : (pls c n).Pairwise (· < ·) := List.pairwise_lt_range.filter _
/-- one row for two places: 0 and the last place, and that row for all -/
theorem one_row (hc : c.length = 2 * n + 1) (hp : El c n p) (hq : El c n q) (h : p < q) (e : rowAt c n p = rowAt c n q) : El c n 0 ∧ El c n n ∧ ∀ r, El c n r → rowAt c n r = rowAt c n p := by
  have hl := rowAt_len hc hp.1
  obtain ⟨g, J, g1, g2⟩ := jper_of_same (l := rowAt c n p) h (by have := hq.1; omega) (by rw [hp.2, e, hq.2])
  have hd : g ∣ n := by
    have := J.dvd
    rw [hl] at this
    simpa using this
  have e0 : mkRow (rowAt c n p) 0 = c := by rw [same_of_jper J (by omega) (by have := hp.1; omega) (Nat.dvd_zero _) g1, hp.2]
  have en : mkRow (rowAt c n p) n = c := by rw [same_of_jper J (by omega) (by have := hp.1; omega) hd g1, hp.2]
  have r0 : rowAt c n 0 = rowAt c n p := by
    have z := mkRow_row (rowAt c n p) (p := 0) (by omega)
    rw [e0, hl] at z
    exact z
  have rn : rowAt c n n = rowAt c n p := by
    have z := mkRow_row (rowAt c n p) (p := n) (by omega)
    rw [en, hl] at z
    exact z
  have E0 : El c n 0 := ⟨Nat.zero_le _, by rw [r0]; exact e0⟩
  refine ⟨E0, ⟨Nat.le_refl _, by rw [rn]; exact en⟩, fun r hr => ?_⟩
  by_cases c0 : r = 0
  · rw [c0, r0]
  · rw [← r0]
    exact ((rowAt_eq hc (Nat.zero_le _) hr.1).mpr (zero_row ((el_sq hc).mp E0) ((el_sq hc).mp hr) (by omega))).symm
theorem el_zero (hc : c.length = 2 * n + 1) (h0 : El c n 0) (hq : El c n q) : rowAt c n q = rowAt c n 0 := by
  by_cases c0 : q = 0
  · rw [c0]
  · exact ((rowAt_eq hc (Nat.zero_le _) hq.1).mpr (zero_row ((el_sq hc).mp h0) ((el_sq hc).mp hq) (by omega))).symm
theorem el_last (hc : c.length = 2 * n + 1) (hn : El c n n) (hq : El c n q) : rowAt c n q = rowAt c n n := by
  by_cases c0 : q = n
  · rw [c0]
  · have h1 := ((el_sq hc).mp hn).rv
    have h2 := ((el_sq hc).mp hq).rv
    rw [Nat.sub_self] at h1
    have hq1 := hq.1
    have z := zero_row h1 h2 (by omega)
    have z2 : RowEq (rv (fun i => c[i]?) n) n (n - n) (n - q) := by rw [Nat.sub_self]; exact z
    exact (rowAt_eq hc hq1 (Nat.le_refl _)).mpr (RowEq.of_rv (Nat.le_refl _) hq1 z2).symm
theorem eld_cases (hc : c.length = 2 * n + 1) :
    ((∀ p q, El c n p → El c n q → rowAt c n p = rowAt c n q) ∧ (∀ p q, El c n p → El c n q → p ≠ q → El c n 0 ∧ El c n n)) ∨
    ((∀ p q, El c n p → El c n q → p ≠ q → rowAt c n p ≠ rowAt c n q) ∧ ¬ El c n 0 ∧ ¬ El c n n ∧ (∃ p q, El c n p ∧ El c n q ∧ p ≠ q) ∧ ∀ p q r, El c n p → El c n q → El c n r → p < q → q < r → p + r = n) := by
  by_cases h : ∃ p q, El c n p ∧ El c n q ∧ p < q ∧ rowAt c n p = rowAt c n q
  · obtain ⟨p, q, hp, hq, hpq, e⟩ := h
    obtain ⟨h0, hn, ha⟩ := one_row hc hp hq hpq e
    exact .inl ⟨fun a b A B => (ha a A).trans (ha b B).symm, fun _ _ _ _ _ => ⟨h0, hn⟩⟩
  · have dis : ∀ p q, El c n p → El c n q → p ≠ q → rowAt c n p ≠ rowAt c n q := fun p q hp hq ne e => by
      rcases Nat.lt_or_gt_of_ne ne with z | z
      · exact h ⟨p, q, hp, hq, z, e⟩
      · exact h ⟨q, p, hq, hp, z, e.symm⟩
    by_cases two : ∃ p q, El c n p ∧ El c n q ∧ p ≠ q
    · right
      obtain ⟨p, q, hp, hq, ne⟩ := two
      refine ⟨dis, fun h0 => ?_, fun hn => ?_, ⟨p, q, hp, hq, ne⟩, fun a b d A B D h1 h2 => ?_⟩
      · exact dis p q hp hq ne ((el_zero hc h0 hp).trans (el_zero hc h0 hq).symm)
      · exact dis p q hp hq ne ((el_last hc hn hp).trans (el_last hc hn hq).symm)
      · exact three_sum ((el_sq hc).mp A) ((el_sq hc).mp B) ((el_sq hc).mp D) h1 h2 (fun z => dis a b A B (by omega) ((rowAt_eq hc A.1 B.1).mpr z)) (fun z => dis b d B D (by omega) ((rowAt_eq hc B.1 D.1).mpr z))
    · left
      have one : ∀ p q, El c n p → El c n q → p = q := fun p q hp hq => Classical.byContradiction fun ne => two ⟨p, q, hp, hq, ne⟩
      exact ⟨fun p q hp hq => by rw [one p q hp hq], fun p q hp hq ne => (ne (one p q hp hq)).elim⟩
theorem short_sorted : ∀ {ps : List Nat}, ps.Pairwise (· < ·) → (∀ p q r, p ∈ ps → q ∈ ps → r ∈ ps → p < q → q < r → p + r = n) → ps.length ≤ 3
  | [], _, _ => by simp
  | [_], _, _ => by simp
  | [_, _], _, _ => by simp
  | [_, _, _], _, _ => by simp
  | a :: b :: d :: e :: r, h, s => by
    simp only [List.pairwise_cons, List.mem_cons] at h
    have h1 := s a b d (by simp) (by simp) (by simp) (h.1 b (by simp)) (h.2.1 d (by simp))
    have h2 := s a b e (by simp) (by simp) (by simp) (h.1 b (by simp)) (h.2.1 e (by simp))
    have h3 := h.2.2.1 e (by simp)
    omega
end

/-! ### tables filled in order -/
section
variable {κ : Type} [DecidableEq κ] (f : Nat → κ)
def putP (ks : List (κ × List Nat)) (p : Nat) : List (κ × List Nat) := put ks (f p) ((look ks (f p)).getD [] ++ [p])
def grpL (ps : List Nat) : List (κ × List Nat) := ps.foldl (putP f) []
theorem grpL_snoc (ps : List Nat) (p : Nat) : grpL f (ps ++ [p]) = putP f (grpL f ps) p := by
  unfold grpL
  rw [List.foldl_append]
  rfl
theorem look_none {ks : List (κ × List Nat)} {k : κ} (h : k ∉ ks.map (·.1)) : look ks k = none := by
  induction ks with
  | nil => rfl
  | cons a r ih =>
    rw [List.map_cons, List.mem_cons, not_or] at h
    rw [look_cons, if_neg (Ne.symm h.1), ih h.2]
theorem put_new {ks : List (κ × List Nat)} {k : κ} {v : List Nat} (h : look ks k = none) : put ks k v = ks ++ [(k, v)] := by
  unfold put
  rw [look_any, h]
  rfl
theorem grpL_apart : ∀ (ps : List Nat) (acc : List (κ × List Nat)), (∀ p q, p ∈ ps → q ∈ ps → p ≠ q → f p ≠ f q) → ps.Nodup → (∀ p ∈ ps, f p ∉ acc.map (·.1)) → ps.foldl (putP f) acc = acc ++ ps.map fun p => (f p, [p])
  | [], acc, _, _, _ => by simp
  | p :: ps, acc, h, hn, ha => by
    rw [List.nodup_cons] at hn
    have l0 := look_none (ha p (List.mem_cons_self ..))
    have e : putP f acc p = acc ++ [(f p, [p])] := by
      unfold putP
      rw [l0, put_new l0]
      rfl
    rw [List.foldl_cons, e, grpL_apart ps _ (fun a b A B => h a b (List.mem_cons_of_mem _ A) (List.mem_cons_of_mem _ B)) hn.2 (fun q hq => ?_), List.map_cons, List.append_assoc]
    · rfl
    · rw [List.map_append, List.mem_append, not_or]
      refine ⟨ha q (List.mem_cons_of_mem _ hq), ?_⟩
      show f q ∉ [f p]
      rw [List.mem_singleton]
      exact h q p (List.mem_cons_of_mem _ hq) (List.mem_cons_self ..) fun e => hn.1 (e ▸ hq)
theorem grpL_one {r : κ} : ∀ (ps qs : List Nat), (∀ p ∈ ps, f p = r) → ps.foldl (putP f) [(r, qs)] = [(r, qs ++ ps)]
  | [], qs, _ => by simp
  | p :: ps, qs, h => by
    have e : putP f [(r, qs)] p = [(r, qs ++ [p])] := by
      unfold putP
      rw [h p (List.mem_cons_self ..)]
      simp [put, look]
    rw [List.foldl_cons, e, grpL_one ps _ fun q hq => h q (List.mem_cons_of_mem _ hq), List.append_assoc]
    rfl
theorem grpL_all {r : κ} {ps : List Nat} (h : ∀ p ∈ ps, f p = r) : grpL f ps = if ps = [] then [] else [(r, ps)] := by
  cases ps with
  | nil => rfl
  | cons p ps =>
    rw [if_neg (by simp)]
    have e : putP f [] p = [(r, [p])] := by
      unfold putP
      rw [h p (List.mem_cons_self ..)]
      simp [put, look]
    show (p :: ps).foldl (putP f) [] = _
    rw [List.foldl_cons, e, grpL_one f ps _ fun q hq => h q (List.mem_cons_of_mem _ hq)]
    rfl
theorem grpL_dis {ps : List Nat} (h : ∀ p q, p ∈ ps → q ∈ ps → p ≠ q → f p ≠ f q) (hn : ps.Nodup) : grpL f ps = ps.map fun p => (f p, [p]) := by
  have := grpL_apart f ps [] h hn (by simp)
  unfold grpL
  simpa using this
theorem grpL_nodup (ps : List Nat) : ((grpL f ps).map (·.1)).Nodup := by
  unfold grpL
  have : ∀ (ps : List Nat) (acc : List (κ × List Nat)), (acc.map (·.1)).Nodup → ((ps.foldl (putP f) acc).map (·.1)).Nodup := by
    intro ps
    induction ps with
    | nil => exact fun _ h => h
    | cons p ps ih => exact fun acc h => ih _ (put_nodup h)
  exact this ps [] List.nodup_nil
theorem grpL_len (ps : List Nat) : (grpL f ps).length ≤ ps.length := by
  unfold grpL
  have : ∀ (ps : List Nat) (acc : List (κ × List Nat)), (ps.foldl (putP f) acc).length ≤ acc.length + ps.length := by
    intro ps
    induction ps with
    | nil => exact fun _ => Nat.le_refl _
    | cons p ps ih =>
      intro acc
      rw [List.foldl_cons, List.length_cons]
      have h1 := ih (putP f acc p)
      have h2 : (putP f acc p).length ≤ acc.length + 1 := put_len
      omega
  have := this ps []
  simpa using this
theorem put_mem {ks : List (κ × List Nat)} {k : κ} {v : List Nat} {e : κ × List Nat} (h : e ∈ put ks k v) : e.1 = k ∨ e ∈ ks := by
  unfold put at h
  split at h
  · obtain ⟨x, hx, rfl⟩ := List.mem_map.mp h
    by_cases c : x.1 = k
    · rw [if_pos c]
      exact .inl c
    · rw [if_neg c]
      exact .inr hx
  · rcases List.mem_append.mp h with h | h
    · exact .inr h
    · rw [List.mem_singleton] at h
      exact .inl (by rw [h])
theorem grpL_mem {ps : List Nat} {e : κ × List Nat} (h : e ∈ grpL f ps) : ∃ p ∈ ps, e.1 = f p := by
  have : ∀ (ps : List Nat) (acc : List (κ × List Nat)), e ∈ ps.foldl (putP f) acc → e ∈ acc ∨ ∃ p ∈ ps, e.1 = f p := by
    intro ps
    induction ps with
    | nil => exact fun _ h => .inl h
    | cons p ps ih =>
      intro acc h
      rcases ih _ h with h | ⟨q, hq, h⟩
      · rcases put_mem h with h | h
        · exact .inr ⟨p, List.mem_cons_self .., h⟩
        · exact .inl h
      · exact .inr ⟨q, List.mem_cons_of_mem _ hq, h⟩
  rcases this ps [] h with h | h
  · cases h
  · exact h
theorem grpL_look {ps : List Nat} {k : κ} {g : List Nat} (h : look (grpL f ps) k = some g) : g.length ≤ ps.length := by
  have : ∀ (ps : List Nat) (acc : List (κ × List Nat)) (m : Nat), (∀ k g, look acc k = some g → g.length ≤ m) → ∀ k g, look (ps.foldl (putP f) acc) k = some g → g.length ≤ m + ps.length := by
    intro ps
    induction ps with
    | nil => exact fun _ m h k g hk => h k g hk
    | cons p ps ih =>
      intro acc m h k g hk
      have z := ih (putP f acc p) (m + 1) (fun k g hk => by
        unfold putP at hk
        rw [look_put] at hk
        by_cases c : k = f p
        · rw [if_pos c] at hk
          rw [← Option.some.inj hk, List.length_append, List.length_singleton]
          cases e : look acc (f p) with
          | none => simp
          | some w => exact Nat.succ_le_succ (h _ _ e)
        · rw [if_neg c] at hk
          exact Nat.le_succ_of_le (h _ _ hk)) k g hk
      rw [List.length_cons]
      omega
  have z := this ps [] 0 (fun k g hk => by cases hk) k g h
  omega
end
section
variable {κ κ' : Type} [DecidableEq κ] [DecidableEq κ'] {e : κ → κ'}
theorem grpL_keys (he : ∀ a b, e a = e b → a = b) (f : Nat → κ) (ps : List Nat) : grpL (fun p => e (f p)) ps = (grpL f ps).map fun kv => (e kv.1, kv.2) := by
  unfold grpL
  have : ∀ (ps : List Nat) (acc : List (κ × List Nat)), ps.foldl (putP fun p => e (f p)) (acc.map fun kv => (e kv.1, kv.2)) = (ps.foldl (putP f) acc).map fun kv => (e kv.1, kv.2) := by
    intro ps
    induction ps with
    | nil => exact fun _ => rfl
    | cons p ps ih =>
      intro acc
      rw [List.foldl_cons, List.foldl_cons, ← ih]
      congr 1
      unfold putP
      rw [look_keys he, put_keysE he]
  exact this ps []
end
/-- the elders: rows, each with its places -/
def eldL (c : List Nat) (n : Nat) : List (List Nat × List Nat) := grpL (rowAt c n) (pls c n)

/-! ### roots -/
structure Rt (l : List Nat) (s : Nat) : Prop where
  pos : 1 ≤ s
  dvd : s ∣ l.length
  eq : ∀ i, i + s < l.length → l[i]? = l[i + s]?
def IsRoot (l : List Nat) (s : Nat) : Prop := Rt l s ∧ ∀ g, Rt l g → s ≤ g
theorem root_one {l : List Nat} {s t : Nat} (h : IsRoot l s) (h' : IsRoot l t) : s = t := Nat.le_antisymm (h.2 _ h'.1) (h'.2 _ h.1)
theorem rt_self {l : List Nat} (h : 1 ≤ l.length) : Rt l l.length := ⟨h, Nat.dvd_refl _, fun i hi => by omega⟩
open Classical in
noncomputable def rootSz (l : List Nat) : Nat := if h : ∃ s, IsRoot l s then Classical.choose h else 0
theorem rootSz_eq {l : List Nat} {s : Nat} (h : IsRoot l s) : rootSz l = s := by
  have h' : ∃ s, IsRoot l s := ⟨s, h⟩
  unfold rootSz
  rw [dif_pos h']
  exact root_one (Classical.choose_spec h') h
noncomputable def rootOf (l : List Nat) : List Nat := l.take (rootSz l)
theorem rootOf_eq {l : List Nat} {s : Nat} (h : IsRoot l s) : rootOf l = l.take s := by
  unfold rootOf
  rw [rootSz_eq h]

/-! ### partners -/
abbrev dst (a b : Nat) : Nat := ((a : Int) - (b : Int)).natAbs
noncomputable def prtOf (l : List Nat) (p : Nat) (o : List Nat) (q : Nat) : List Nat × Nat × List Nat := (o, q, rootOf ((if p < q then l else o).take (dst q p)))
def prtIn (l : List Nat) (p q : Nat) : Prop := rowAt (mkRow l p) (l.length - 1) q ≠ l ∧ El (mkRow l p) (l.length - 1) q
instance (l : List Nat) (p q : Nat) : Decidable (prtIn l p q) := inferInstanceAs (Decidable (_ ∧ _))
noncomputable def prt (l : List Nat) (p : Nat) : List (List Nat × Nat × List Nat) := ((List.range l.length).filter fun q => decide (prtIn l p q)).map fun q => prtOf l p (rowAt (mkRow l p) (l.length - 1) q) q
section
variable {l : List Nat} {p : Nat}
theorem mk_odd (hp : p < l.length) : (mkRow l p).length = 2 * (l.length - 1) + 1 := by
  rw [mkRow_len hp]
  omega
/-- what the program makes of the elders -/
theorem prt_elders (hp : p < l.length) : ((eldL (mkRow l p) (l.length - 1)).filter fun e => !decide (e.1 = l)).map (fun e => prtOf l p e.1 (e.2.getD 0 0)) = prt l p ∧ ∀ e ∈ eldL (mkRow l p) (l.length - 1), e.1 ≠ l → ∃ q, e.2 = [q] ∧ prtIn l p q ∧ e.1 = rowAt (mkRow l p) (l.length - 1) q := by
  have hc := mk_odd hp
  have hself := mkRow_el l hp
  have hrow := mkRow_row l hp
  have hr : l.length - 1 + 1 = l.length := by omega
  rcases eld_cases hc with ⟨h1, _⟩ | ⟨h1, _⟩
  · have all : ∀ q ∈ pls (mkRow l p) (l.length - 1), rowAt (mkRow l p) (l.length - 1) q = l := fun q hq => (h1 q p (mem_pls.mp hq) hself).trans hrow
    have e1 : eldL (mkRow l p) (l.length - 1) = [(l, pls (mkRow l p) (l.length - 1))] := by
      unfold eldL
      rw [grpL_all _ all, if_neg]
      intro e
      have := mem_pls.mpr hself
      rw [e] at this
      cases this
    have e2 : ((List.range l.length).filter fun q => decide (prtIn l p q)) = [] := List.filter_eq_nil_iff.mpr fun q _ => by
      rw [decide_eq_true_iff]
      rintro ⟨z1, z2⟩
      exact z1 (all q (mem_pls.mpr z2))
    constructor
    · rw [e1]
      unfold prt
      rw [e2]
      simp
    · intro e he ne
      rw [e1, List.mem_singleton] at he
      rw [he] at ne
      exact (ne rfl).elim
  · have e1 : eldL (mkRow l p) (l.length - 1) = (pls (mkRow l p) (l.length - 1)).map fun q => (rowAt (mkRow l p) (l.length - 1) q, [q]) := grpL_dis _ (fun a b A B => h1 a b (mem_pls.mp A) (mem_pls.mp B)) (pls_sorted.imp fun h => by omega)
    constructor
    · rw [e1, List.filter_map, List.map_map]
      unfold prt
      have e3 : ((pls (mkRow l p) (l.length - 1)).filter ((fun e : List Nat × List Nat => !decide (e.1 = l)) ∘ fun q => (rowAt (mkRow l p) (l.length - 1) q, [q]))) = (List.range l.length).filter fun q => decide (prtIn l p q) := by
        unfold pls
        rw [List.filter_filter, hr]
        apply List.filter_congr
        intro q _
        unfold prtIn
        by_cases a : rowAt (mkRow l p) (l.length - 1) q = l <;> by_cases b : El (mkRow l p) (l.length - 1) q <;> simp [a, b]
      rw [e3]
      rfl
    · intro e he ne
      rw [e1] at he
      obtain ⟨q, hq, rfl⟩ := List.mem_map.mp he
      exact ⟨q, rfl, ⟨ne, mem_pls.mp hq⟩, rfl⟩
theorem prt_len (hp : p < l.length) : (prt l p).length ≤ 2 := by
  have hc := mk_odd hp
  have hself := mkRow_el l hp
  have hrow := mkRow_row l hp
  unfold prt
  rw [List.length_map]
  rcases eld_cases hc with ⟨h1, _⟩ | ⟨h1, _, _, _, h3⟩
  · rw [List.filter_eq_nil_iff.mpr fun q _ => by
      rw [decide_eq_true_iff]
      rintro ⟨z1, z2⟩
      exact z1 ((h1 q p z2 hself).trans hrow)]
    simp
  · have hs := short_sorted (n := l.length - 1) (ps := pls (mkRow l p) (l.length - 1)) pls_sorted (fun a b d A B D => h3 a b d (mem_pls.mp A) (mem_pls.mp B) (mem_pls.mp D))
    have hm := mem_pls.mpr hself
    have e : ((List.range l.length).filter fun q => decide (prtIn l p q)) = (pls (mkRow l p) (l.length - 1)).filter fun q => decide (q ≠ p) := by
      unfold pls
      rw [List.filter_filter, show l.length - 1 + 1 = l.length by omega]
      apply List.filter_congr
      intro q _
      by_cases b : El (mkRow l p) (l.length - 1) q
      · by_cases a : q = p
        · subst a
          have : ¬ prtIn l q q := fun z => z.1 hrow
          simp [this]
        · have : prtIn l p q := ⟨fun e => h1 q p b hself a (e.trans hrow.symm), b⟩
          simp [this, a, b]
      · have : ¬ prtIn l p q := fun z => b z.2
        simp [this, b]
    rw [e]
    have lt : ((pls (mkRow l p) (l.length - 1)).filter fun q => decide (q ≠ p)).length < (pls (mkRow l p) (l.length - 1)).length := by
      refine List.length_filter_lt_length_iff_exists.mpr ⟨p, hm, by simp⟩
    omega
/-- each partner has this row among its own -/
theorem prt_back (hp : p < l.length) {o : List Nat} {q : Nat} {w : List Nat} (h : (o, q, w) ∈ prt l p) : o.length = l.length ∧ q < l.length ∧ (l, p, w) ∈ prt o q := by
  have hc := mk_odd hp
  have hself := mkRow_el l hp
  have hrow := mkRow_row l hp
  unfold prt at h
  obtain ⟨q', h1, h2⟩ := List.mem_map.mp h
  obtain ⟨h3, h4⟩ := List.mem_filter.mp h1
  rw [List.mem_range] at h3
  have h4 := of_decide_eq_true h4
  unfold prtOf at h2
  obtain ⟨e1, e2⟩ := Prod.mk.inj h2
  obtain ⟨e2, e3⟩ := Prod.mk.inj e2
  subst e2
  have ol : o.length = l.length := by
    rw [← e1, rowAt_len hc h4.2.1]
    omega
  have mo : mkRow o q' = mkRow l p := by rw [← e1]; exact h4.2.2
  refine ⟨ol, h3, ?_⟩
  unfold prt
  refine List.mem_map.mpr ⟨p, List.mem_filter.mpr ⟨List.mem_range.mpr (by omega), decide_eq_true ?_⟩, ?_⟩
  · unfold prtIn
    rw [mo, ol, hrow]
    exact ⟨fun e => h4.1 (e1.trans e.symm), hself⟩
  · unfold prtOf
    rw [mo, ol, hrow]
    have ne : p ≠ q' := fun e => h4.1 (by rw [← e]; exact hrow)
    refine Prod.ext rfl (Prod.ext rfl ?_)
    show rootOf _ = w
    rw [← e3, e1]
    have d : dst p q' = dst q' p := by
      unfold dst
      omega
    rw [d]
    rcases Nat.lt_or_gt_of_ne ne with z | z
    · rw [if_neg (show ¬ q' < p by omega), if_pos z]
    · rw [if_pos z, if_neg (show ¬ p < q' by omega)]
end
end Ow
/-! Ow: a dict whose values are lists of numbers that grow in place. -/
namespace Ow
open PySem PySem.Spec PyProof.Rows L2
section
variable {κ β γ : Type} [DecidableEq κ]
theorem look_snd (f : β → γ) (ks : List (κ × β)) (k : κ) : look (ks.map fun e => (e.1, f e.2)) k = (look ks k).map f := by
  induction ks with
  | nil => rfl
  | cons p r ih =>
    rw [List.map_cons, look_cons, look_cons, ih]
    by_cases c : p.1 = k
    · rw [if_pos c, if_pos c]
      rfl
    · rw [if_neg c, if_neg c]
theorem look_mem {ks : List (κ × β)} {k : κ} {x : β} (h : look ks k = some x) : (k, x) ∈ ks := by
  induction ks with
  | nil => cases h
  | cons p r ih =>
    rw [look_cons] at h
    by_cases c : p.1 = k
    · rw [if_pos c] at h
      have := Option.some.inj h
      rw [← c, ← this]
      exact List.mem_cons_self ..
    · rw [if_neg c] at h
      exact List.mem_cons_of_mem _ (ih h)
end
theorem nodup_inj {α β : Type} {f : α → β} : ∀ {l : List α} {a b : α}, (l.map f).Nodup → a ∈ l → b ∈ l → f a = f b → a = b
  | x :: l, a, b, nd, ha, hb, e => by
    rw [List.map_cons, List.nodup_cons] at nd
    rcases List.mem_cons.mp ha with e1 | ha2
    · rcases List.mem_cons.mp hb with e2 | hb2
      · rw [e1, e2]
      · exact (nd.1 (by rw [← e1, e]; exact List.mem_map.mpr ⟨_, hb2, rfl⟩)).elim
    · rcases List.mem_cons.mp hb with e2 | hb2
      · exact (nd.1 (by rw [← e2, ← e]; exact List.mem_map.mpr ⟨_, ha2, rfl⟩)).elim
      · exact nodup_inj nd.2 ha2 hb2 e
theorem iteT' {b : Bool} {A B : Prop} (e : b = true) (h : A) : if b = true then A else B := by rw [if_pos e]; exact h
theorem iteF' {b : Bool} {A B : Prop} (e : b = false) (h : B) : if b = true then A else B := by
  rw [if_neg (by rw [e]; exact Bool.false_ne_true)]
  exact h
/-- the dict's entries: key, the list's address, its numbers -/
structure TabL (H0 H : Hp) (its : List (Key × Addr × List Nat)) (kvs : List (Key × V)) (ks : List (Key × List Nat)) : Prop where
  kv : kvs = its.map fun e => (e.1, .ref e.2.1)
  ks : ks = its.map fun e => (e.1, e.2.2)
  nd : (its.map (·.2.1)).Nodup
  new : ∀ e ∈ its, H0 e.2.1 = none
  at_ : ∀ e ∈ its, H e.2.1 = some (.lst (nums e.2.2))
section
variable {H0 H H' : Hp} {its : List (Key × Addr × List Nat)} {kvs : List (Key × V)} {ks : List (Key × List Nat)} {k : Key}
theorem TabL.nil : TabL H0 H [] [] [] := ⟨rfl, rfl, List.nodup_nil, (fun _ m => by cases m), fun _ m => by cases m⟩
theorem TabL.mono (T : TabL H0 H its kvs ks) (h : ∀ e ∈ its, H' e.2.1 = H e.2.1) : TabL H0 H' its kvs ks := ⟨T.kv, T.ks, T.nd, T.new, fun e m => (h e m).trans (T.at_ e m)⟩
theorem TabL.same (T : TabL H0 H its kvs ks) (h : Same H H') : TabL H0 H' its kvs ks := ⟨T.kv, T.ks, T.nd, T.new, fun e m => h _ _ (T.at_ e m)⟩
theorem TabL.len (T : TabL H0 H its kvs ks) : kvs.length = ks.length := by rw [T.kv, T.ks, List.length_map, List.length_map]
theorem TabL.val (T : TabL H0 H its kvs ks) : valV kvs k = (look its k).map fun x => .ref x.1 := by
  rw [T.kv]
  clear T
  induction its with
  | nil => rfl
  | cons p r ih =>
    rw [List.map_cons, look_cons]
    by_cases c : p.1 = k
    · rw [if_pos c]
      exact valV_pos c
    · rw [if_neg c, valV_neg c]
      exact ih
theorem TabL.lookK (T : TabL H0 H its kvs ks) : look ks k = (look its k).map fun x => x.2 := by
  rw [T.ks]
  exact look_snd (fun x : Addr × List Nat => x.2) its k
/-- the key is there: its list grows -/
theorem TabL.old (T : TabL H0 H its kvs ks) (hn : (ks.map (·.1)).Nodup) {v : V} (e : valV kvs k = some v) : ∃ a g, v = .ref a ∧ look ks k = some g ∧ H0 a = none ∧ H a = some (.lst (nums g)) ∧
    ∀ p : Nat, ∃ its', TabL H0 (upd H a (.lst (nums (g ++ [p])))) its' kvs (put ks k (g ++ [p])) := by
  rw [T.val] at e
  cases h : look its k with
  | none => rw [h] at e; cases e
  | some x =>
    obtain ⟨a, g⟩ := x
    rw [h] at e
    have hl : look ks k = some g := by rw [T.lookK, h]; rfl
    have hm := look_mem h
    refine ⟨a, g, (Option.some.inj e).symm, hl, T.new _ hm, T.at_ _ hm, fun p => ⟨its.map fun e => if e.1 = k then (e.1, e.2.1, g ++ [p]) else e, ?_, ?_, ?_, fun e m => ?_, fun e m => ?_⟩⟩
    · rw [T.kv, List.map_map]
      apply List.map_congr_left
      intro e _
      show (e.1, V.ref e.2.1) = _
      simp only [Function.comp]
      split <;> rfl
    · unfold put
      rw [look_any, hl]
      simp only [Option.isSome_some, if_true]
      rw [T.ks, List.map_map, List.map_map]
      apply List.map_congr_left
      intro e _
      simp only [Function.comp]
      split <;> rfl
    · rw [List.map_map]
      have : (its.map ((fun x : Key × Addr × List Nat => x.2.1) ∘ fun e => if e.1 = k then (e.1, e.2.1, g ++ [p]) else e)) = its.map (·.2.1) := by
        apply List.map_congr_left
        intro e _
        simp only [Function.comp]
        split <;> rfl
      rw [this]
      exact T.nd
    · obtain ⟨e', m', rfl⟩ := List.mem_map.mp m
      split
      · exact T.new e' m'
      · exact T.new e' m'
    · obtain ⟨e', m', rfl⟩ := List.mem_map.mp m
      -- one entry bears the key
      have same1 : ∀ e', e' ∈ its → e'.2.1 = a → e' = (k, a, g) := fun e' m' z => by
        exact nodup_inj (f := fun x : Key × Addr × List Nat => x.2.1) T.nd m' hm z
      by_cases c : e'.1 = k
      · have hk : ks.map (·.1) = its.map (·.1) := by rw [T.ks, List.map_map]; rfl
        rw [hk] at hn
        have e0 : look its k = some e'.2 := (mem_look hn).mp (by rw [← c]; exact m')
        rw [h] at e0
        have e1 : (a, g) = e'.2 := Option.some.inj e0
        rw [if_pos c]
        show upd H a _ e'.2.1 = _
        rw [← e1]
        exact upd_same
      · rw [if_neg c]
        show upd H a _ e'.2.1 = _
        rw [upd_ne]
        · exact T.at_ e' m'
        · intro z
          have := same1 e' m' z
          rw [this] at c
          exact c rfl
/-- the key is new -/
theorem TabL.add (T : TabL H0 H its kvs ks) (e : valV kvs k = none) : look ks k = none ∧ ∀ (l : Addr) (p : Nat), H l = none → H0 l = none → ∀ H' : Hp, (∀ e ∈ its, H' e.2.1 = H e.2.1) → H' l = some (.lst (nums [p])) →
    ∃ its', TabL H0 H' its' (putK kvs k (.ref l)) (put ks k [p]) := by
  have e' := e
  rw [T.val] at e
  have hl : look its k = none := by
    cases h : look its k with
    | none => rfl
    | some x => rw [h] at e; cases e
  have hk : look ks k = none := by rw [T.lookK, hl]; rfl
  refine ⟨hk, fun l p nl n0 H' hH hp => ⟨its ++ [(k, l, [p])], ?_, ?_, ?_, fun e m => ?_, fun e m => ?_⟩⟩
  · unfold putK
    rw [valV_any, e']
    simp only [Option.isSome_none, Bool.false_eq_true, if_false]
    rw [List.map_append, ← T.kv]
    rfl
  · rw [put_new hk, List.map_append, ← T.ks]
    rfl
  · rw [List.map_append, List.nodup_append]
    refine ⟨T.nd, by simp, fun x hx y hy z => ?_⟩
    rw [show y = l by simpa using hy] at z
    obtain ⟨e9, m9, rfl⟩ := List.mem_map.mp hx
    have := T.at_ e9 m9
    rw [z, nl] at this
    cases this
  · rcases List.mem_append.mp m with m | m
    · exact T.new e m
    · rw [List.mem_singleton] at m
      subst m
      exact n0
  · rcases List.mem_append.mp m with m | m
    · rw [hH e m]
      exact T.at_ e m
    · rw [List.mem_singleton] at m
      subst m
      exact hp
end
/-- an item of the list of elders -/
structure EldAt (H0 H : Hp) (b : Addr × Addr × List Nat × List Nat) : Prop where
  new : H0 b.1 = none
  newL : H0 b.2.1 = none
  tup : H b.1 = some (.tup [tx b.2.2.1, .ref b.2.1])
  lst : H b.2.1 = some (.lst (nums b.2.2.2))
theorem eld_items {H0 H : Hp} : ∀ {ts : List Addr} {its : List (Key × Addr × List Nat)} {el : List (List Nat × List Nat)}, Paired (fun (t : Addr) (q : Key × V) => H t = some (.tup [kV q.1, q.2])) ts (its.map fun e => (e.1, .ref e.2.1)) →
    its.map (fun e => (e.1, e.2.2)) = el.map (fun e => (kT e.1, e.2)) → (∀ t ∈ ts, H0 t = none) → (∀ e ∈ its, H0 e.2.1 = none ∧ H e.2.1 = some (.lst (nums e.2.2))) →
    ∃ bs : List (Addr × Addr × List Nat × List Nat), ts.map V.ref = refs bs ∧ bs.map (·.2.2) = el ∧ (∀ b ∈ bs, EldAt H0 H b) ∧ ∀ b ∈ bs, b.1 ∈ ts ∧ ∃ e ∈ its, b.2.1 = e.2.1
  | [], [], el, _, h, _, _ => by
    cases el with
    | nil => exact ⟨[], rfl, rfl, (fun _ m => by cases m), fun _ m => by cases m⟩
    | cons => cases h
  | [], _ :: _, _, h, _, _, _ => by cases h
  | _ :: _, [], _, h, _, _, _ => by cases h
  | t :: ts, e :: its, el, h, h2, h3, h4 => by
    cases el with
    | nil => cases h2
    | cons x el =>
      cases h with
      | cons p ps =>
        rw [List.map_cons, List.map_cons] at h2
        injection h2 with e1 e2
        obtain ⟨bs, b1, b2, b3, b4⟩ := eld_items ps e2 (fun u m => h3 u (List.mem_cons_of_mem _ m)) fun u m => h4 u (List.mem_cons_of_mem _ m)
        obtain ⟨ea, eb⟩ := Prod.mk.inj e1
        obtain ⟨n1, n2⟩ := h4 e (List.mem_cons_self ..)
        refine ⟨(t, e.2.1, x.1, x.2) :: bs, ?_, ?_, fun b m => ?_, fun b m => ?_⟩
        · rw [List.map_cons, b1]
          rfl
        · rw [List.map_cons, b2]
        · rcases List.mem_cons.mp m with rfl | m
          · refine ⟨h3 t (List.mem_cons_self ..), n1, ?_, ?_⟩
            · show H t = _
              rw [p]
              show some (HO.tup [kV e.1, .ref e.2.1]) = _
              rw [ea]
              rfl
            · show H e.2.1 = some (.lst (nums x.2))
              rw [← eb]
              exact n2
          · exact b3 b m
        · rcases List.mem_cons.mp m with rfl | m
          · exact ⟨List.mem_cons_self .., e, List.mem_cons_self .., rfl⟩
          · obtain ⟨z1, e9, z2, z3⟩ := b4 b m
            exact ⟨List.mem_cons_of_mem _ z1, e9, List.mem_cons_of_mem _ z2, z3⟩
theorem int_bl (b : Bool) : (if b = true then (1 : Int) else 0) = ((if b = true then 1 else 0 : Nat) : Int) := by cases b <;> rfl
theorem u65 {k : Nat} {A : Around} (hr : Room k A) : A.units + 65 < cLine := by
  have := hr.un
  omega
theorem strOk_of {l : List Nat} (h : ∀ c ∈ l, c ≤ 122) : PyData.strOk ⟨l.toArray⟩ = true := by
  unfold PyData.strOk
  rw [Array.all_eq_true_iff_forall_mem]
  intro c m
  have := h c (by simpa using m)
  exact decide_eq_true (by omega)
end Ow
/-! Ow: enumerate over a text. -/
namespace Ow
open PySem PySem.Spec PyProof.Rows L2
/-- the signs of a text, each with its number in a new pair -/
def Itn2 (a : List Nat) : It :=
  ⟨fun i _ => i < a.length, fun i H v H' => ∃ T c, v = .ref T ∧ H T = none ∧ H' = upd H T (.tup [.int (i : Nat), tx [c]]) ∧ a[i]? = some c, fun i _ => a.length ≤ i⟩
theorem strType_or (x : Str) : strIterType x = "str_ascii_iterator" ∨ strIterType x = "str_iterator" := by
  unfold strIterType
  split
  · exact .inl rfl
  · exact .inr rfl
section
variable {P : Program} {w : World} {K : PySem.W.Frag} {elts : List Expr} {kk : Nat} {tp : Pos}
theorem draw_text {prog : Program} {w : World} {A : Around} (hh : A.handled = none) (it : Addr) (a : List Nat) (t : Tok) {ty : String} (hty : ty = "str_ascii_iterator" ∨ ty = "str_iterator") :
    Draws prog w A it [it] a.length (fun i v => ∃ c u, a[i]? = some c ∧ v = .str ⟨#[c]⟩ u) (fun i h => h.IsStrIter it ty ⟨a.toArray⟩ t i) := by
  rcases hty with z | z
  · have d := Draws.strAscii (prog := prog) (w := w) hh it ⟨a.toArray⟩ t
    subst z
    simpa using d
  · have d := Draws.strWide (prog := prog) (w := w) hh it ⟨a.toArray⟩ t
    subst z
    simpa using d
theorem turn_text2 (a : List Nat) (e it : Addr) (t : Tok) {ty : String} (hty : ty = "str_ascii_iterator" ∨ ty = "str_iterator") :
    Turn P w K (.Tuple elts kk tp) (Itn2 a) [e, it] e (fun i h => (∃ old, IsEnum h e it (i : Int) old) ∧ h.IsStrIter it ty ⟨a.toArray⟩ t i ∧ e ≠ it) := by
  have two : ∀ {b : Addr}, b ∈ [e, it] → b = e ∨ b = it := fun h => by simpa using h
  refine { mem := List.mem_cons_self .., obj := ?_, keep := ?_, item := ?_, done := ?_, self := ?_ }
  · rintro i h ⟨⟨old, he⟩, ⟨o, ho, hc, hd⟩, _⟩ b hb
    rcases two hb with rfl | rfl
    · exact ⟨_, he, fun v z => by cases z⟩
    · exact ⟨o, ho, fun v z => by
        rw [hd] at z
        cases z⟩
  · rintro i h h' ⟨⟨old, he⟩, ⟨o, ho, r⟩, ne⟩ kp
    exact ⟨⟨old, kp e (by simp) _ he⟩, ⟨o, kp it (by simp) o ho, r⟩, ne⟩
  · rintro X rfl rfl rfl hc i pins s σ H E I hf ⟨⟨old, he⟩, hit, ne⟩ hg
    have hg' : i < a.length := hg
    have le : e < s.heap.objs.size := Heap.lt_size he
    have li : it < s.heap.objs.size := by
      obtain ⟨o, ho, _⟩ := hit
      exact Heap.lt_size ho
    have D := draw_text (prog := X.prog) (w := X.w) (A := X.A.in1) (by show X.A.handled = none; exact I.ok.hd hc) it a t hty
    refine wpAny_pyNext_enum_itemD D he hit hg' ne (by simpa using ne) fun u h1 tk hu ho hs hT hsz kp => ?_
    obtain ⟨c, ut, hcx, rfl⟩ := hu
    refine ⟨_, rfl, ?_⟩
    refine wpAny_letOwnedTupleGo_enum (s := ⟨h1, s.gens, s.drawn, tk + 1, s.os⟩) ho fun h2 he2 sb => ?_
    have hT2 : h2.get? s.heap.objs.size = some { cls := .type "tuple", data := .seq #[.int i tk, .str ⟨#[c]⟩ ut] } := (sb.2 _ (Nat.ne_of_gt le)).trans hT
    have fresh : H s.heap.objs.size = none := I.hok.fresh (Nat.le_refl _)
    have ok2 : ObjOk X.prog X.w (upd H s.heap.objs.size (.tup [.int (i : Nat), tx [c]])) h2 s.heap.objs.size (.tup [.int (i : Nat), tx [c]]) := by
      refine ⟨by show 2 ≤ sizeLine; decide, [.int i tk, .str ⟨#[c]⟩ ut], ?_, _, hT2, rfl, _, rfl⟩
      exact .cons ⟨tk, rfl⟩ (.cons ⟨ut, rfl⟩ .nil)
    have J : Inv X pins σ (upd H s.heap.objs.size (.tup [.int (i : Nat), tx [c]])) ⟨h2, s.gens, s.drawn, tk + 1, s.os⟩ := by
      refine I.turnedNew (ch := [e, it]) (fun b o hb q => ?_) hf (Nat.le_refl _) ok2
      have b1 : b ≠ e := fun z => hb (by rw [z]; simp)
      have b2 : b ≠ it := fun z => hb (by rw [z]; simp)
      exact (sb.2 b b1).trans (kp b o b1 b2 q)
    refine ⟨.ref s.heap.objs.size, _, J, rfl, ⟨_, c, rfl, fresh, rfl, hcx⟩, ⟨⟨.str ⟨#[c]⟩ ut, ?_⟩, ?_, ne⟩, fun b hb => ?_⟩
    · rw [show ((i + 1 : Nat) : Int) = (i : Int) + 1 by omega]
      exact he2
    · exact D.frame _ _ _ hs fun b hb o q => by
        have b1 : b = it := by simpa using hb
        rw [b1] at q ⊢
        exact (sb.2 it (Ne.symm ne)).trans q
    · have lt : b < s.heap.objs.size := by
        rcases two hb with rfl | rfl
        · exact le
        · exact li
      rw [upd_ne (Nat.ne_of_lt lt)]
      exact (hf b hb).1
  · rintro X rfl rfl rfl hc i pins s σ H E I hf ⟨⟨old, he⟩, hit, ne⟩ hg
    have hg' : a.length ≤ i := hg
    obtain ⟨f0, f1, f2, f3, f4, f5⟩ := hf it (by simp)
    -- the iterator is through: as at its end
    have D0 : Draws X.prog X.w X.A.in1 it [it] i (fun _ _ => True) (fun j h => j = i ∧ h.IsStrIter it ty ⟨a.toArray⟩ t j) :=
      { live := fun j h z => (by
          obtain ⟨o, ho, _⟩ := z.2
          exact ⟨o, ho⟩)
        frame := fun j h h' z kp => by
          obtain ⟨z1, o, ho, r⟩ := z
          exact ⟨z1, o, kp it (by simp) o ho, r⟩
        item := fun j s Q E hj z _ => by
          have := z.1
          omega
        done := fun s Q E z hE => by
          have hx : (⟨a.toArray⟩ : Str).cps[i]? = none := Array.getElem?_eq_none (by simpa using hg')
          have hh : X.A.in1.handled = none := by show X.A.handled = none; exact I.ok.hd hc
          rcases hty with y | y
          · subst y
            exact wpAny_nextOf_ascii_end hh z.2 hx hE
          · subst y
            exact wpAny_nextOf_wide_end hh z.2 hx hE }
    exact wpAny_pyNext_enum_endD D0 he ⟨rfl, hit⟩ fun h' eb => ⟨rfl, I.turned (t' := s.toks) (fun b o hb q => eb b o hb q) f0 f1 f3 f4 f5⟩
  · rintro A i s Q E ⟨⟨old, he⟩, _⟩ h
    exact wpAny_pyIter_enum he h
end
def iEnumT (ta : TA) : TI := fun σ H R => ta σ H fun vs H1 => ∃ a, vs = [tx a] ∧ R (Itn2 a) H1
theorem pi_enumT {X : Cx} {e : Expr} {ta : TA} {p pos tpos : Pos} {elts : List Expr} {kk : Nat} (hg : Gl X "enumerate") (hm : X.mg "enumerate" = none) (ha : PA X [e] ta) (hs : starEach [e] X.env = [(false, eval e X.env)] := by rfl) :
    PI X (.Tuple elts kk tpos) (.Call (.Name "enumerate" p) [e] [] pos) (iEnumT ta) := by
  refine ⟨fun pins s σ H R I h => Call_ (ld_blt I hg hm boot_enumerate (PyProof.Rows.callWith_type1 (thn (ha.run pos pins s σ H _ I h) fun us s1 z => ?_) hs rfl))⟩
  obtain ⟨vs, H1, I1, r1, a, rfl, q⟩ := z
  cases r1 with
  | cons r rr =>
    cases rr
    obtain ⟨t, rfl⟩ := r
    refine call_enumerate_str fun h' he hit hsz kp => wpAny_pyIter_enum he ?_
    have I2 : Inv X pins σ H1 { s1 with heap := h' } := I1.kept (t' := s1.toks) kp
    refine ⟨_, [s1.heap.objs.size + 1, s1.heap.objs.size], _, Itn2 a, H1, rfl, I2, turn_text2 a _ _ t (strType_or _), ⟨⟨.none, he⟩, hit, Nat.succ_ne_self _⟩, fun b hb => ?_, q⟩
    have lo : s1.heap.objs.size ≤ b := by
      have z : b = s1.heap.objs.size + 1 ∨ b = s1.heap.objs.size := by simpa using hb
      rcases z with z | z <;> rw [z]
      · exact Nat.le_succ _
      · exact Nat.le_refl _
    exact I1.fpOk lo (I1.hok.fresh lo)
theorem walk_enumT {a : List Nat} : Walk (Itn2 a) a.length (fun _ => True) (fun i H v H' => ∃ T c, v = .ref T ∧ H T = none ∧ H' = upd H T (.tup [.int (i : Nat), tx [c]]) ∧ a[i]? = some c) :=
  ⟨fun _ _ h _ => h, fun _ _ => Nat.le_refl _, fun _ _ _ _ _ _ y => y⟩
end Ow
namespace Ow
/-! ### old places, obstacles -/
/-- the place of the elder that place i shows -/
def shO (n p i : Nat) : Nat := if i < p then i else if i ≤ p + n then i - p else i - n
/-- the places that show o -/
def shw (n p o : Nat) : List Nat := if o < p then [o, o + p] else if o = p then [2 * p] else [o + p, o + n]
section
variable {n p : Nat}
theorem shO_le (hp : p ≤ n) {i : Nat} (hi : i < 2 * n + 1) : shO n p i ≤ n := by
  unfold shO
  split
  · omega
  · split <;> omega
theorem shw_mem (hp : p ≤ n) {o i : Nat} (ho : o ≤ n) : i ∈ shw n p o ↔ i < 2 * n + 1 ∧ shO n p i = o := by
  unfold shw shO
  by_cases c1 : o < p
  · rw [if_pos c1]
    simp only [List.mem_cons, List.not_mem_nil, or_false]
    constructor
    · rintro (rfl | rfl)
      · rw [if_pos c1]
        omega
      · rw [if_neg (by omega), if_pos (by omega)]
        omega
    · rintro ⟨h1, h2⟩
      split at h2
      · omega
      · split at h2 <;> omega
  · rw [if_neg c1]
    by_cases c2 : o = p
    · rw [if_pos c2]
      simp only [List.mem_cons, List.not_mem_nil, or_false]
      constructor
      · rintro rfl
        rw [if_neg (by omega), if_pos (by omega)]
        omega
      · rintro ⟨h1, h2⟩
        split at h2
        · omega
        · split at h2 <;> omega
    · rw [if_neg c2]
      simp only [List.mem_cons, List.not_mem_nil, or_false]
      constructor
      · rintro (rfl | rfl)
        · rw [if_neg (by omega), if_pos (by omega)]
          omega
        · rw [if_neg (by omega), if_neg (by omega)]
          omega
      · rintro ⟨h1, h2⟩
        split at h2
        · omega
        · split at h2 <;> omega
theorem shw_sorted (hp : p ≤ n) {o : Nat} (ho : o ≤ n) : (shw n p o).Pairwise (· < ·) := by
  unfold shw
  split
  · simp
    omega
  · split
    · simp
    · simp
      omega
/-- the places of one old place, as a table tells them -/
theorem same_shw (hp : p ≤ n) {o : Nat} (ho : o ≤ n) : same (shO n p) (2 * n + 1) o = shw n p o := by
  have s1 : (same (shO n p) (2 * n + 1) o).Pairwise (· < ·) := List.pairwise_lt_range.filter _
  refine List.Perm.eq_of_pairwise (le := fun a b => a < b) (fun a b _ _ h1 h2 => by omega) s1 (shw_sorted hp ho) ((List.perm_ext_iff_of_nodup (s1.imp fun h => by omega) ((shw_sorted hp ho).imp fun h => by omega)).mpr fun i => ?_)
  rw [mem_same, shw_mem hp ho]
theorem mk_range (hp : p ≤ n) : mkRow (List.range (n + 1)) p = (List.range (2 * n + 1)).map (shO n p) := by
  apply List.ext_getElem?
  intro t
  rw [mkRow_at (by rw [List.length_range]; omega), List.length_range, List.getElem?_map]
  by_cases ht : t < 2 * n + 1
  · rw [List.getElem?_range ht]
    show _ = some (shO n p t)
    unfold shO
    by_cases c1 : t < p
    · rw [if_pos c1, if_pos c1, List.getElem?_range (by omega)]
    · rw [if_neg c1, if_neg c1]
      by_cases c2 : t < p + (n + 1)
      · rw [if_pos c2, if_pos (by omega), List.getElem?_range (by omega)]
      · rw [if_neg c2, if_neg (by omega), List.getElem?_range (by omega)]
        congr 1
        omega
  · rw [List.getElem?_eq_none (l := List.range (2 * n + 1)) (by rw [List.length_range]; omega)]
    rw [if_neg (by omega), if_neg (by omega), List.getElem?_eq_none (by rw [List.length_range]; omega)]
    rfl
end
/-- the first other place that shows the same and differs -/
def obsAt (c : List Nat) (n p i : Nat) : Option Nat := (shw n p (shO n p i)).find? fun o => decide (i < o) && !decide (c[o]? = c[i]?)
def obsF (c : List Nat) (n p : Nat) : Option (Nat × Nat) := (List.range (2 * n + 1)).findSome? fun i => (obsAt c n p i).map fun o => (i, o)
section
variable {c : List Nat} {n p : Nat}
theorem obsF_at {i o : Nat} (hi : i < 2 * n + 1) (h : obsAt c n p i = some o) (hb : ∀ j, j < i → obsAt c n p j = none) : obsF c n p = some (i, o) := by
  unfold obsF
  have e : List.range (2 * n + 1) = List.range i ++ (i :: (List.range (2 * n + 1)).drop (i + 1)) := by
    have h1 := List.take_append_drop i (List.range (2 * n + 1))
    have h2 : (List.range (2 * n + 1)).take i = List.range i := by rw [List.take_range]; congr 1; omega
    have h3 : (List.range (2 * n + 1)).drop i = i :: (List.range (2 * n + 1)).drop (i + 1) := by
      rw [List.drop_eq_getElem_cons (by rw [List.length_range]; exact hi)]
      congr 1
      exact List.getElem_range _
    rw [h2, h3] at h1
    exact h1.symm
  rw [e, List.findSome?_append]
  have none1 : (List.range i).findSome? (fun i => (obsAt c n p i).map fun o => (i, o)) = none := by
    rw [List.findSome?_eq_none_iff]
    intro j hj
    rw [hb j (List.mem_range.mp hj)]
    rfl
  rw [none1, List.findSome?_cons, h]
  rfl
theorem obsF_no (hb : ∀ j, j < 2 * n + 1 → obsAt c n p j = none) : obsF c n p = none := by
  unfold obsF
  rw [List.findSome?_eq_none_iff]
  intro j hj
  rw [hb j (List.mem_range.mp hj)]
  rfl
theorem obsF_some {x : Nat × Nat} (h : obsF c n p = some x) : x.1 < 2 * n + 1 ∧ obsAt c n p x.1 = some x.2 := by
  unfold obsF at h
  obtain ⟨i, hi, h2⟩ := List.exists_of_findSome?_eq_some h
  cases e : obsAt c n p i with
  | none => rw [e] at h2; cases h2
  | some o =>
    rw [e] at h2
    have := Option.some.inj h2
    rw [← this]
    exact ⟨List.mem_range.mp hi, e⟩
theorem obs_none (hp : p ≤ n) : obsF c n p = none ↔ Sq (fun i => c[i]?) n p := by
  have at_ : obsF c n p = none ↔ ∀ i o, i < 2 * n + 1 → o < 2 * n + 1 → i < o → shO n p o = shO n p i → c[o]? = c[i]? := by
    constructor
    · intro h i o hi ho hio e
      unfold obsF at h
      rw [List.findSome?_eq_none_iff] at h
      have z := h i (List.mem_range.mpr hi)
      have z1 : obsAt c n p i = none := by
        cases e1 : obsAt c n p i with
        | none => rfl
        | some _ => rw [e1] at z; cases z
      unfold obsAt at z1
      rw [List.find?_eq_none] at z1
      have z2 := z1 o ((shw_mem hp (shO_le hp hi)).mpr ⟨ho, e⟩)
      rw [decide_eq_true hio] at z2
      simpa using z2
    · intro h
      refine obsF_no fun i hi => ?_
      unfold obsAt
      rw [List.find?_eq_none]
      intro o ho
      obtain ⟨h1, h2⟩ := (shw_mem hp (shO_le hp hi)).mp ho
      by_cases c1 : i < o
      · rw [h i o hi h1 c1 h2]
        simp
      · simp [c1]
  rw [at_]
  constructor
  · intro h
    refine ⟨hp, fun i hi => ?_, fun i h1 h2 => ?_⟩
    · refine (h i (i + p) (by omega) (by omega) (by omega) ?_).symm
      unfold shO
      rw [if_neg (by omega), if_pos (by omega), if_pos hi]
      omega
    · by_cases e : p = n
      · subst e
        rw [Nat.sub_self, Nat.add_zero]
      refine (h i (i + (n - p)) (by omega) (by omega) (by omega) ?_).symm
      unfold shO
      rw [if_neg (by omega), if_neg (by omega), if_neg (by omega), if_pos (by omega)]
      omega
  · intro S i o hi ho hio e
    unfold shO at e
    split at e
    · split at e
      · omega
      · split at e <;> omega
    · split at e
      · split at e
        · have z := S.pre i (by omega)
          have z' : c[i]? = c[i + p]? := z
          rw [z']
          congr 1
          omega
        · split at e <;> omega
      · split at e
        · omega
        · split at e
          · have z := S.suf i (by omega) (by omega)
            have z' : c[i]? = c[i + (n - p)]? := z
            rw [z']
            congr 1
            omega
          · omega
end
/-- the obstacles of a row: none where some place has none -/
def obR (c : List Nat) : Option (List (Nat × Nat × Nat)) :=
  if c.length % 2 = 0 then some []
  else if (List.range ((c.length - 1) / 2 + 1)).any (fun p => (obsF c ((c.length - 1) / 2) p).isNone) then none
  else some ((List.range ((c.length - 1) / 2 + 1)).map fun p => (p, (obsF c ((c.length - 1) / 2) p).getD (0, 0)))
theorem eldL_nil {c : List Nat} {n : Nat} (hc : c.length = 2 * n + 1) : eldL c n = [] ↔ pls c n = [] := by
  constructor
  · intro z
    unfold eldL at z
    rcases eld_cases hc with ⟨h1, _⟩ | ⟨h1, _⟩
    · cases hp : pls c n with
      | nil => rfl
      | cons p r =>
        have hm : p ∈ pls c n := by rw [hp]; exact List.mem_cons_self ..
        rw [grpL_all (r := rowAt c n p) _ fun q hq => h1 q p (mem_pls.mp hq) (mem_pls.mp hm), if_neg (by rw [hp]; simp)] at z
        cases z
    · rw [grpL_dis _ (fun a b A B => h1 a b (mem_pls.mp A) (mem_pls.mp B)) (pls_sorted.imp fun h => by omega)] at z
      simpa using z
  · intro z
    unfold eldL
    rw [z]
    rfl
theorem obR_elders {c : List Nat} : obR c = none ↔ (if c.length % 2 = 1 then eldL c ((c.length - 1) / 2) else []) ≠ [] := by
  unfold obR
  by_cases h : c.length % 2 = 0
  · rw [if_pos h, if_neg (by omega)]
    simp
  · rw [if_neg h, if_pos (show c.length % 2 = 1 by omega)]
    have hc : c.length = 2 * ((c.length - 1) / 2) + 1 := by omega
    generalize (c.length - 1) / 2 = n at hc
    have key : ((List.range (n + 1)).any fun p => (obsF c n p).isNone) = true ↔ ∃ p, El c n p := by
      rw [List.any_eq_true]
      constructor
      · rintro ⟨p, h1, h2⟩
        have hp : p ≤ n := by have := List.mem_range.mp h1; omega
        exact ⟨p, (el_sq hc).mpr ((obs_none hp).mp (Option.isNone_iff_eq_none.mp h2))⟩
      · rintro ⟨p, h1⟩
        have hp := h1.1
        exact ⟨p, List.mem_range.mpr (by omega), Option.isNone_iff_eq_none.mpr ((obs_none hp).mpr ((el_sq hc).mp h1))⟩
    by_cases e : ((List.range (n + 1)).any fun p => (obsF c n p).isNone) = true
    · rw [if_pos e]
      obtain ⟨p, hp⟩ := key.mp e
      refine ⟨fun _ z => ?_, fun _ => rfl⟩
      have hm := mem_pls.mpr hp
      rw [(eldL_nil hc).mp z] at hm
      cases hm
    · rw [if_neg e]
      refine ⟨fun z => (by cases z), fun z => (z ?_).elim⟩
      exact (eldL_nil hc).mpr (List.eq_nil_iff_forall_not_mem.mpr fun p hp => e (key.mpr ⟨p, mem_pls.mp hp⟩))
end Ow
/-! Ow: sets of ints and of texts by their keys: made of a list or a text, sorted. -/
namespace Ow
open PySem PySem.Spec PyProof.Rows L2
open PySem.Builtin (sorted)

/-! ### permuted beside -/
theorem paired_perm {α β : Type} {R : α → β → Prop} {l l' : List α} (p : l.Perm l') : ∀ {ks : List β}, Paired R l ks → ∃ ks', Paired R l' ks' ∧ ks.Perm ks' := by
  induction p with
  | nil => exact fun {ks} h => ⟨ks, h, .refl _⟩
  | cons x _ ih =>
    intro ks h
    cases h with
    | cons r t =>
      obtain ⟨ks', h1, h2⟩ := ih t
      exact ⟨_ :: ks', .cons r h1, h2.cons _⟩
  | swap x y l =>
    intro ks h
    cases h with
    | cons r1 t =>
      cases t with
      | cons r2 t => exact ⟨_ :: _ :: _, .cons r2 (.cons r1 t), .swap ..⟩
  | trans _ _ i1 i2 =>
    intro ks h
    obtain ⟨k1, h1, h2⟩ := i1 h
    obtain ⟨k2, h3, h4⟩ := i2 h1
    exact ⟨k2, h3, h2.trans h4⟩
theorem paired_left {α β : Type} {R : α → β → Prop} : ∀ {l : List α} {ks : List β}, Paired R l ks → ∀ x ∈ l, ∃ k ∈ ks, R x k
  | _, _, .cons r t, x, m => by
    rcases List.mem_cons.mp m with rfl | m
    · exact ⟨_, List.mem_cons_self .., r⟩
    · obtain ⟨k, h1, h2⟩ := paired_left t x m
      exact ⟨k, List.mem_cons_of_mem _ h1, h2⟩
theorem paired_right {α β : Type} {R : α → β → Prop} : ∀ {l : List α} {ks : List β}, Paired R l ks → ∀ k ∈ ks, ∃ x ∈ l, R x k
  | _, _, .cons r t, k, m => by
    rcases List.mem_cons.mp m with rfl | m
    · exact ⟨_, List.mem_cons_self .., r⟩
    · obtain ⟨x, h1, h2⟩ := paired_right t k m
      exact ⟨x, List.mem_cons_of_mem _ h1, h2⟩

/-! ### sets by keys -/
/-- an entry of the key k -/
def EntK (w : World) (e : Int × Value) (k : Key) : Prop := keyIs k e.2 = true ∧ e.1 = keyH w k ∧ e.2.scannable = true
/-- a set's object: its members' keys in the table's order -/
structure SetO' (w : World) (h : Heap) (a : Addr) (o : Obj) (es : Array (Int × Value)) (ep : Nat) (t : SetTable) (ks : List Key) : Prop where
  at_ : h.get? a = some o
  ex : o.ExactSet
  dat : o.data = .set es ep t
  ent : Paired (EntK w) es.toList ks
  nd : ks.Nodup
  few : es.size < scanBound
  fits : t.fits es.size = true
  ris : Ris t.place.toList
  led : w.params.followText "set-order" = true ∨ t.led = true
def SetG (w : World) (h : Heap) (a : Addr) (ks : List Key) : Prop := ∃ o es ep t, SetO' w h a o es ep t ks
section
variable {P : Program} {w : World} {A : Around} {E : Value → Shared → Prop} {s : Shared} {a : Addr}
theorem SetG.keep {h h' : Heap} {ks : List Key} (R : SetG w h a ks) (k : ∀ o, h.get? a = some o → h'.get? a = some o) : SetG w h' a ks := by
  obtain ⟨o, es, ep, t, R⟩ := R
  exact ⟨o, es, ep, t, k o R.at_, R.ex, R.dat, R.ent, R.nd, R.few, R.fits, R.ris, R.led⟩
theorem ent_elems {es : List (Int × Value)} {ks : List Key} (h : Paired (EntK w) es ks) : ElemsOf (mixKind P w) es := fun e m => by
  obtain ⟨k, _, h1, h2, h3⟩ := paired_left h e m
  exact ⟨⟨k, h1, h2⟩, h3⟩
theorem SetO'.len {h : Heap} {o : Obj} {es : Array (Int × Value)} {ep : Nat} {t : SetTable} {ks : List Key} (R : SetO' w h a o es ep t ks) : es.size = ks.length := by
  rw [← Array.length_toList]
  exact Paired.length R.ent
/-- what follows once the entries are laid -/
theorem setG_lay {g : Bool → Sem Unit} (hg : ∀ (b : Bool) (s₁ : Shared) (Q' : Unit → Shared → Prop), Q' () s₁ → wpAny (model P w) A (g b) Q' E s₁) {o : Obj} {es es1 : Array (Int × Value)} {ep : Nat} {t t2 : SetTable} {ks1 : List Key} {dm : Bool} {R : Option Bool → Shared → Prop}
    (ho : s.heap.get? a = some o) (hx : o.ExactSet) (hd : o.data = .set es ep t) (g1 : Paired (EntK w) es1.toList ks1) (nd1 : ks1.Nodup) (hb1 : es1.size < scanBound) (hf2 : t2.fits es1.size = true) (hr : Ris t2.place.toList)
    (hl : w.params.followText "set-order" = true ∨ t2.led = true) (hR : ∀ h' ks', Heap.SameBut a s.heap h' → SetG w h' a ks' → ks1.Perm ks' → R (some true) { s with heap := h' }) :
    wpAny (model P w) A (storeSet a es1 t2 >>= fun _ =>
      if (!dm && t2.tooFull) = true then g (relayAll t2 es1 (SetTable.grown es1.size)).2.2 >>= fun _ => storeSet a (relayAll t2 es1 (SetTable.grown es1.size)).1 (relayAll t2 es1 (SetTable.grown es1.size)).2.1 >>= fun _ => pure (some true)
      else pure (some true)) R E s := by
  refine wpAny_bind (wpAny_storeSet_of ho hd ?_ (fits_of_scanBound hb1))
  have u1 := store_at (es' := es1) (t' := t2) ho hd
  have b1 := Heap.SameBut.update s.heap a (Obj.putSet es1 t2)
  by_cases c : (!dm && t2.tooFull) = true
  · rw [if_pos c]
    have pm := relayAll_perm t2 es1 (SetTable.grown es1.size)
    have f3 := relayAll_fits t2 es1 (SetTable.grown es1.size)
    have r3 := relayAll_ris t2 es1 (SetTable.grown es1.size)
    have l3 := relayAll_led t2 es1 (SetTable.grown es1.size)
    obtain ⟨⟨es2, t3, gave⟩, hz⟩ : ∃ z, relayAll t2 es1 (SetTable.grown es1.size) = z := ⟨_, rfl⟩
    rw [hz] at pm f3 r3 l3
    rw [hz]
    dsimp only at pm f3 r3 l3 ⊢
    have sz : es2.size = es1.size := by rw [← Array.length_toList, pm.length_eq, Array.length_toList]
    obtain ⟨ks2, g2, p2⟩ := paired_perm pm.symm g1
    refine wpAny_bind (hg _ _ _ ?_)
    refine wpAny_bind (wpAny_storeSet_of u1 rfl ?_ (fits_of_scanBound (by rw [sz]; exact hb1)))
    have u2 := store_at (es' := es2) (t' := t3) u1 rfl
    exact wpAny_pure (hR _ ks2 (b1.trans (Heap.SameBut.update _ a _)) ⟨_, es2, _, t3, u2, hx, rfl, g2, p2.nodup_iff.mp nd1, by rw [sz]; exact hb1, f3, r3, hl.imp id fun z => by rw [l3]; exact z⟩ p2)
  · rw [if_neg c]
    exact wpAny_pure (hR _ ks1 b1 ⟨_, es1, _, t2, u1, hx, rfl, g1, nd1, hb1, hf2, hr, hl⟩ (.refl _))
/-- a key put in -/
theorem setG_add {k : Key} {v : Value} {ks : List Key} {Q : Bool → Shared → Prop} (hk : keyIs k v = true) (hsc : v.scannable = true) (R : SetG w s.heap a ks) (room : ks.length + 1 < scanBound)
    (hQ : ∀ b h' ks', Heap.SameBut a s.heap h' → SetG w h' a ks' → (∀ j, j ∈ ks' ↔ j ∈ ks ∨ j = k) → ks'.length ≤ ks.length + 1 → Q b { s with heap := h' }) :
    wpAny (model P w) A (setAddHashed a v (keyH w k)) Q E s := by
  obtain ⟨o, es, ep, t, R⟩ := R
  have sz := R.len
  have hel := ent_elems (P := P) R.ent
  have hkm : (mixKind P w).is k v = true := hk
  unfold setAddHashed setAddHashedIn
  refine wpAny_holding (wpAny_bind (wpAny_setState_of R.at_ R.dat R.fits ?_))
  dsimp only
  rw [byScan_of hsc R.few hel, if_pos rfl]
  unfold setAddByScan
  refine wpAny_bind (wpAny_bind (wpAny_rule ?_))
  refine wpAny_bind (wpAny_setScan_of (knd := mixKind P w) hkm R.at_ R.dat R.fits hel ?_)
  cases hfi : List.findIdx? (fun e => (mixKind P w).is k e.2) es.toList with
  | some j =>
    obtain ⟨hj, pj, _⟩ := List.findIdx?_eq_some_iff_getElem.mp hfi
    obtain ⟨k', m', e1, _⟩ := paired_left R.ent _ (List.getElem_mem hj)
    have ek : k' = k := (mixKind P w).inj _ _ _ e1 pj
    subst ek
    refine wpAny_pure (wpAny_pure (hQ _ s.heap ks (Heap.SameBut.refl a s.heap) ⟨o, es, ep, t, R⟩ (fun j => ?_) (Nat.le_succ _)))
    exact ⟨.inl, fun z => z.elim id fun e => by rw [e]; exact m'⟩
  | none =>
    have hnk : k ∉ ks := fun m => by
      obtain ⟨e, he, e1, _⟩ := paired_right R.ent k m
      have c := List.findIdx?_eq_none_iff.mp hfi e he
      have e1' : (mixKind P w).is k e.2 = true := e1
      rw [e1'] at c
      cases c
    have pm := layNew_perm t es (keyH w k) v
    have f1 := layNew_fits t es (keyH w k) v
    have r1 := layNew_ris t es (keyH w k) v R.ris
    have d1 := layNew_led t es (keyH w k) v
    have eH : (mixKind P w).hash k = keyH w k := rfl
    obtain ⟨⟨es1, t1, wd, gave⟩, hz⟩ : ∃ z, layNew t es (keyH w k) v = z := ⟨_, rfl⟩
    rw [hz] at pm f1 r1 d1
    dsimp only at pm f1 r1 d1 ⊢
    rw [hz]
    rw [Array.toList_push] at pm
    have pc : ((keyH w k, v) :: es.toList).Perm es1.toList := (pm.trans (List.perm_append_singleton _ _)).symm
    obtain ⟨ks1, g1, p1⟩ := paired_perm pc (Paired.cons (F := EntK w) (a := (keyH w k, v)) (b := k) ⟨hk, rfl, hsc⟩ R.ent)
    have n1 : ks1.Nodup := p1.nodup_iff.mp (List.nodup_cons.mpr ⟨hnk, R.nd⟩)
    have s1 : es1.size = ks.length + 1 := by rw [← Array.length_toList, ← pc.length_eq, List.length_cons, Array.length_toList, sz]
    have b1 : es1.size < scanBound := by rw [s1]; exact room
    have led1 : w.params.followText "set-order" = true ∨ t1.led = true := R.led.imp id fun z => by rw [d1]; exact z
    have fin : ∀ b h' ks', Heap.SameBut a s.heap h' → SetG w h' a ks' → ks1.Perm ks' → Q b { s with heap := h' } := fun b h' ks' sb r p => by
      have pp := p1.trans p
      refine hQ b h' ks' sb r (fun j => ?_) (by rw [← pp.length_eq, List.length_cons]; exact Nat.le_refl _)
      rw [← pp.mem_iff, List.mem_cons]
      exact Or.comm
    have hgw : ∀ (b : Bool) {s₁ : Shared} {Q' : Unit → Shared → Prop}, Q' () s₁ → wpAny (model P w) A (match b with | true => rule "set.scan.the-table-gave-way" | false => pure ()) Q' E s₁ := fun b s₁ Q' q => by
      cases b
      · exact wpAny_pure q
      · exact wpAny_rule q
    refine wpAny_bind (hgw _ ?_)
    dsimp only
    have ht : ∀ (b : Bool) (s₁ : Shared) (Q' : Unit → Shared → Prop), Q' () s₁ → wpAny (model P w) A (match b with | true => rule "set.scan.the-table-gave-way" | false => pure ()) Q' E s₁ := fun b s₁ Q' q => hgw b q
    split
    · refine wpAny_bind ?_
      rw [hashByValue_scannable 8 hsc]
      refine wpAny_pure ?_
      refine setG_lay ht R.at_ R.ex R.dat g1 n1 b1 ?_ ?_ ?_ ?_
      · split
        · exact f1
        · exact SetTable.fits_plain_off f1
      · split
        · exact r1
        · exact r1
      · split
        · exact led1
        · exact led1
      · intro h' ks' sb r p
        exact wpAny_pure (fin _ h' ks' sb r p)
    · refine wpAny_bind (wpAny_pure ?_)
      rw [if_pos rfl]
      refine setG_lay ht R.at_ R.ex R.dat g1 n1 b1 f1 r1 led1 ?_
      intro h' ks' sb r p
      exact wpAny_pure (fin _ h' ks' sb r p)
/-- the loop of set.update over what an iterator yields -/
theorem setG_loop {I : Addr} {fp wr : List Addr} {G : Array GenState → Array GenState → Prop} {n : Nat} {Pv : Nat → Value → Prop} {St : Nat → Shared → Prop} {R : Result → Shared → Prop} (W : WalksS P w A.in1 I fp wr G n Pv St) (S : Addr) (nf : S ∉ fp) (vs : List Key) (hn : n = vs.length)
    (hb : vs.length + 1 < scanBound) (hval : ∀ i v, Pv i v → ∃ k, vs[i]? = some k ∧ keyIs k v = true ∧ v.scannable = true) :
    ∀ (m i : Nat) (s : Shared) (ks : List Key), n - i = m → i ≤ n → St i s → SetG w s.heap S ks → (∀ j, j ∈ ks ↔ j ∈ vs.take i) → ks.length ≤ i →
      (∀ s' ks', Moved (S :: wr) G s s' → SetG w s'.heap S ks' → (∀ j, j ∈ ks' ↔ j ∈ vs) → R (.ok (.ret .none)) s') → codeAny (model P w) A (.builtin "set.update.loop" ⟨[.ref S, .ref I], []⟩) R s := by
  have nw : S ∉ wr := fun z => nf (W.sub _ z)
  have up : ∀ b ∈ wr, b ∈ S :: wr := fun b z => List.mem_cons_of_mem _ z
  intro m
  induction m with
  | zero =>
    intro i s ks e hi st hS mem hlen fin
    have ei : i = n := by omega
    subst ei
    refine codeAny_builtin F.entry_set_update_loop ?_
    rw [Around.under_plainId F.plain_set_update_loop _]
    show wpAny _ A.in1 (pyNext (.ref I) >>= _) _ _ s
    refine wpAny_bind (W.done s _ _ st fun s' mv => ?_)
    show wpAny _ A.in1 (ret Value.none) _ _ s'
    rw [List.take_of_length_le (by omega)] at mem
    exact wpAny_pure (fin s' ks (mv.mono up) (hS.keep fun o z => mv.heap S o nw z) mem)
  | succ m ih =>
    intro i s ks e hi st hS mem hlen fin
    refine codeAny_builtin F.entry_set_update_loop ?_
    rw [Around.under_plainId F.plain_set_update_loop _]
    show wpAny _ A.in1 (pyNext (.ref I) >>= _) _ _ s
    refine wpAny_bind (W.item i s _ _ (by omega) st fun v s' pv st' mv => ?_)
    obtain ⟨k, hk, ki, sc⟩ := hval i v pv
    have hS' := hS.keep fun o z => mv.heap S o nw z
    show wpAny _ A.in1 (holding [v] (setAdd S v) >>= _) _ _ s'
    refine wpAny_bind (wpAny_holding ?_)
    unfold setAdd
    refine wpAny_holding (wpAny_bind ((mixKind P w).pyHash (k := k) ki ?_))
    refine setG_add (s := { s' with toks := s'.toks + 1 }) ki sc hS' (by omega) fun b h' ks' sb hS2 mem2 len2 => ?_
    refine wpAny_pure ⟨plainId_quiet F.plain_set_update_loop _, ih (i + 1) _ ks' (by omega) (by omega) (W.frame _ s' _ _ st' (Nat.le_succ _) fun c hc o z => ?_) hS2 (fun j => ?_) (by omega) fun s2 k2 mv2 hS3 mem3 => ?_⟩
    · rw [sb.2 c fun z => nf (by rw [← z]; exact hc)]
      exact z
    · rw [mem2, mem, List.take_add_one, hk]
      simp
    · refine fin s2 k2 (Moved.trans W.gtrans ((mv.mono up).then_heap (Nat.le_succ _) fun c o hc z => ?_) mv2) hS3 mem3
      rw [sb.2 c fun y => hc (by rw [y]; exact List.mem_cons_self ..)]
      exact z
/-- the new set's object -/
abbrev set0 (w : World) : Obj := { cls := .type "set", dict := none, data := .set #[] 0 (.fresh 0 0 (!w.params.followText "set-order")) }
theorem setG_new {h : Heap} (ho : h.get? a = some (set0 w)) : SetG w h a [] := by
  refine ⟨_, #[], 0, _, ho, ⟨rfl, rfl, rfl⟩, rfl, .nil, List.nodup_nil, by decide, rfl, List.Pairwise.nil, ?_⟩
  show _ ∨ (!w.params.followText "set-order") = true
  cases w.params.followText "set-order"
  · exact .inr rfl
  · exact .inl rfl
/-- set(v): v a value of the class T, walked by an iterator that is laid just now; D: what the loop is given -/
theorem call_setG {v : Value} {T : String} {vs : List Key} {Q : Value → Shared → Prop} {o1 : Obj} {n : Nat} {Pv : Nat → Value → Prop} {fp : Addr → List Addr} {St : Addr → Nat → Heap → Prop}
    (ty : ∀ s' : Shared, (∀ b o, s.heap.get? b = some o → s'.heap.get? b = some o) → s'.TypeIs v T) (n1 : isSubtype (.type T) (.type "set") = pure false) (n2 : isSubtype (.type T) (.type "frozenset") = pure false) (n3 : (Value.type T == Value.type "dict") = false)
    (it : ∀ (A' : Around) (E' : Value → Shared → Prop) (s' : Shared) (Q' : Value → Shared → Prop), (∀ b o, s.heap.get? b = some o → s'.heap.get? b = some o) → Q' (.ref s'.heap.objs.size) { s' with heap := s'.heap.push o1 } → wpAny (model P w) A' (pyIter v) Q' E' s')
    (wk : ∀ (A' : Around) (I : Addr), A'.handled = none → (∀ b ∈ fp I, b ≠ I → b < s.heap.objs.size) → s.heap.objs.size < I → Walks P w A' I (fp I) [I] n Pv (St I)) (fpi : ∀ I, ∀ b ∈ fp I, b = I ∨ b < s.heap.objs.size)
    (st0 : ∀ (h' : Heap) (I : Addr), (∀ b o, s.heap.get? b = some o → h'.get? b = some o) → h'.get? I = some o1 → s.heap.objs.size < I → St I 0 h') (o1c : o1.isFreed = false) (hn : n = vs.length) (hb : vs.length + 1 < scanBound) (hh : A.handled = none)
    (hval : ∀ i u, Pv i u → ∃ k, vs[i]? = some k ∧ keyIs k u = true ∧ u.scannable = true)
    (h : ∀ (h' : Heap) (tk : Nat) (ks : List Key), SetG w h' s.heap.objs.size ks → (∀ j, j ∈ ks ↔ j ∈ vs) → (∀ b o, s.heap.get? b = some o → h'.get? b = some o) → Q (.ref s.heap.objs.size) { s with heap := h', toks := tk }) :
    wpAny (model P w) A (call (.type "set") [v]) Q E s := by
  obtain ⟨c, tl, hmro⟩ := F.called_set.mro
  have hmade := F.called_set.made
  have hsub := F.called_set.sub
  have h1 := F.called_set.notType
  have h2 := F.called_set.canCreate
  have hct := F.typeCall_set_1 v
  refine wpAny_call (codeAny_of_tree ?_); show wpAny _ _ (callAny (.type "set") _) _ _ _
  refine wpAny_pure ⟨Code.quiet_builtin _ (by decide +kernel), codeAny_builtin F.entry_type_call ?_⟩; rw [Around.under_plain (weight_type_call_type "set" [v] []) rfl]
  repeat (any_goals (first | assumption | wp_step))
  have laid : codeAny (model P w) A.in1 (.call (.builtin "set.__new__") ⟨[.type "set", v], []⟩) (wants (fun obj s₁ => obj = .ref s.heap.objs.size ∧ s₁ = { s with heap := s.heap.push (set0 w) }) E) s := code_set_led1 v ⟨rfl, rfl⟩
  refine codeAny_mono laid fun r s₁ hr => ?_
  cases r with
  | error e => exact hr
  | ok fl =>
    cases fl with
    | next => exact hr.elim
    | brk => exact hr.elim
    | cont => exact hr.elim
    | ret obj =>
      obtain ⟨rfl, rfl⟩ := hr
      have k0 : ∀ b o, s.heap.get? b = some o → (s.heap.push (set0 w)).get? b = some o := fun b o z => Heap.get?_push_of_some _ z
      have hS : (s.heap.push (set0 w)).get? s.heap.objs.size = some (set0 w) := Heap.get?_push_size _ rfl
      have hT : Shared.TypeIs { s with heap := s.heap.push (set0 w) } (.ref s.heap.objs.size) "set" := ⟨_, hS, rfl⟩
      have hli := F.called_set.init.lookup
      have hbi := F.called_set.init.bind (.ref s.heap.objs.size)
      repeat (any_goals (first | assumption | wp_step))
      have init : codeAny (model P w) A.in1 (.call (.builtin "set.__init__") ⟨[.ref s.heap.objs.size, v], []⟩) (wants (fun r s₂ => r = .none ∧ ∃ h' tk ks, s₂ = { s with heap := h', toks := tk } ∧ SetG w h' s.heap.objs.size ks ∧ (∀ j, j ∈ ks ↔ j ∈ vs) ∧
          (∀ b o, s.heap.get? b = some o → h'.get? b = some o)) E) { s with heap := s.heap.push (set0 w) } := by
        refine codeAny_call_builtin F.called_set.init.plain F.entry_set_init (check_set_init_1 hT ?_)
        have tv := ty { s with heap := s.heap.push (set0 w) } k0
        unfold Builtin.«set.__init__» noKeywords Builtin.Frozenset.updateFrom
        generalize hPI : pyIter = PI
        wp_walk
        subst hPI
        have z0 : (s.heap.push (set0 w)).objs.size = s.heap.objs.size + 1 := Heap.size_push ..
        refine it _ _ _ _ k0 (wpAny_bind (wpAny_runValue ?_))
        have lt : s.heap.objs.size < (s.heap.push (set0 w)).objs.size := by rw [z0]; exact Nat.lt_succ_self _
        have W := wk A.in1.in1.in1 (s.heap.push (set0 w)).objs.size (by show A.handled = none; exact hh) (fun b hb ne => (fpi _ b hb).resolve_left ne) lt
        have nf : s.heap.objs.size ∉ fp (s.heap.push (set0 w)).objs.size := fun z => by
          rcases fpi _ _ z with y | y
          · rw [z0] at y
            exact absurd y (Nat.ne_of_lt (Nat.lt_succ_self _))
          · exact Nat.lt_irrefl _ y
        have k1 : ∀ b o, s.heap.get? b = some o → ((s.heap.push (set0 w)).push o1).get? b = some o := fun b o z => Heap.get?_push_of_some _ (k0 b o z)
        have I1 : ((s.heap.push (set0 w)).push o1).get? (s.heap.push (set0 w)).objs.size = some o1 := Heap.get?_push_size _ o1c
        refine setG_loop W.toS s.heap.objs.size nf vs hn hb hval n 0 _ [] rfl (Nat.zero_le _) (st0 _ _ k1 I1 lt) (setG_new (Heap.get?_push_of_some _ hS)) (fun j => by simp) (Nat.le_refl _) fun s' ks' mv hG hm => ?_
        obtain ⟨h', g2, d', tk', os'⟩ := s'
        have eg : g2 = s.gens := mv.gens
        have ed : d' = s.drawn := mv.drawn
        have eo : os' = s.os := mv.os
        subst eg ed eo
        refine wpAny_pure ?_
        show wpAny _ _ (ret Value.none) _ _ _
        refine wpAny_pure ⟨rfl, h', tk', ks', rfl, hG, hm, fun b o z => ?_⟩
        have b0 : b < s.heap.objs.size := Heap.lt_size z
        refine mv.heap b o (fun y => ?_) (k1 b o z)
        rcases List.mem_cons.mp y with y | y
        · exact Nat.lt_irrefl _ (by rw [y] at b0; exact b0)
        · rw [List.mem_singleton] at y
          rw [y, z0] at b0
          exact Nat.lt_irrefl _ (Nat.lt_of_succ_lt b0)
      refine codeAny_mono init fun r₂ s₂ hr₂ => ?_
      cases r₂ with
      | error e => exact hr₂
      | ok fl₂ =>
        cases fl₂ with
        | next => exact hr₂.elim
        | brk => exact hr₂.elim
        | cont => exact hr₂.elim
        | ret r =>
          obtain ⟨rfl, h', tk, ks, rfl, z1, z2, z3⟩ := hr₂
          repeat (any_goals (first | assumption | wp_step))
          exact h h' tk ks z1 z2 z3
/-- set(xs) of a list of keys -/
theorem call_setL {l : Addr} {us : List Value} {vs : List Key} {Q : Value → Shared → Prop} (hl : s.heap.IsList l us.toArray) (hv : Paired (fun u k => keyIs k u = true ∧ u.scannable = true) us vs) (hb : vs.length + 1 < scanBound) (hh : A.handled = none)
    (h : ∀ (h' : Heap) (tk : Nat) (ks : List Key), SetG w h' s.heap.objs.size ks → (∀ j, j ∈ ks ↔ j ∈ vs) → (∀ b o, s.heap.get? b = some o → h'.get? b = some o) → Q (.ref s.heap.objs.size) { s with heap := h', toks := tk }) :
    wpAny (model P w) A (call (.type "set") [.ref l]) Q E s := by
  have hll : l < s.heap.objs.size := by
    obtain ⟨o, ho, _⟩ := hl
    exact Heap.lt_size ho
  have ll : ∀ h' : Heap, (∀ b o, s.heap.get? b = some o → h'.get? b = some o) → h'.IsList l us.toArray := fun h' k => hl.at fun o z => k l o z
  refine call_setG (T := "list") (o1 := { cls := .type "list_iterator", data := .fields #[.ref l, .int 0 0] }) (n := us.toArray.size) (Pv := fun i u => us.toArray[i]? = some u) (fp := fun I => [I, l]) (St := fun I i h' => h'.IsListIter I l i ∧ h'.IsList l us.toArray)
    (fun s' k => (ll s'.heap k).typeIs) (by rw [isSubtype_type]; kernel_rfl) (by rw [isSubtype_type]; kernel_rfl) (by decide) (fun A' E' s' Q' k q => wpAny_pyIter_list (ll s'.heap k) q) (fun A' I hA _ lt => Walks.list hA I l (fun e => by rw [e] at hll; exact Nat.lt_irrefl _ (Nat.lt_trans hll lt)) us.toArray) (fun I b hb => ?_)
    (fun h' I k e _ => ⟨⟨_, e, rfl, rfl⟩, ll h' k⟩) rfl (by rw [List.size_toArray]; exact Paired.length hv) hb hh (fun i u hu => ?_) h
  · rcases List.mem_cons.mp hb with z | z
    · exact .inl z
    · rw [List.mem_singleton] at z
      rw [z]
      exact .inr hll
  · have hu' : us[i]? = some u := by simpa using hu
    obtain ⟨k, e, z⟩ := LiI.paired_get hv hu'
    exact ⟨k, e, z⟩
/-- set(text) -/
theorem call_setT {a : List Nat} {t : Tok} {Q : Value → Shared → Prop} (hb : a.length + 1 < scanBound) (hh : A.handled = none)
    (h : ∀ (h' : Heap) (tk : Nat) (ks : List Key), SetG w h' s.heap.objs.size ks → (∀ j, j ∈ ks ↔ j ∈ a.map fun c => (.inr ⟨#[c]⟩ : Key)) → (∀ b o, s.heap.get? b = some o → h'.get? b = some o) → Q (.ref s.heap.objs.size) { s with heap := h', toks := tk }) :
    wpAny (model P w) A (call (.type "set") [.str ⟨a.toArray⟩ t]) Q E s := by
  have val : ∀ (i : Nat) (u : Value), SignAt ⟨a.toArray⟩ i u → ∃ k, (a.map fun c => (.inr ⟨#[c]⟩ : Key))[i]? = some k ∧ keyIs k u = true ∧ u.scannable = true := fun i u z => by
    obtain ⟨c, tt, e, rfl⟩ := z
    refine ⟨.inr ⟨#[c]⟩, ?_, ?_, rfl⟩
    · rw [List.getElem?_map]
      have e' : a[i]? = some c := by simpa using e
      rw [e']
      rfl
    · exact keyIs_str _ _
  cases ha : (⟨a.toArray⟩ : Str).cps.all (· < 128) with
  | true =>
    refine call_setG (T := "str") (o1 := { cls := .type "str_ascii_iterator", data := .fields #[.str ⟨a.toArray⟩ t, .int 0 0] }) (n := (⟨a.toArray⟩ : Str).cps.size) (Pv := SignAt ⟨a.toArray⟩) (fp := fun I => [I]) (St := fun I i h' => h'.IsStrIter I "str_ascii_iterator" ⟨a.toArray⟩ t i)
      (fun s' _ => typeIs_str s' _ t) (by rw [isSubtype_type]; kernel_rfl) (by rw [isSubtype_type]; kernel_rfl) (by decide) (fun A' E' s' Q' _ q => wpAny_pyIter_ascii ha q) (fun A' I hA _ _ => Walks.strAscii hA I ⟨a.toArray⟩ t) (fun I b hb => .inl (List.mem_singleton.mp hb))
      (fun h' I _ e _ => ⟨_, e, rfl, rfl⟩) rfl (by simp) (by rw [List.length_map]; exact hb) hh val h
  | false =>
    refine call_setG (T := "str") (o1 := { cls := .type "str_iterator", data := .fields #[.str ⟨a.toArray⟩ t, .int 0 0] }) (n := (⟨a.toArray⟩ : Str).cps.size) (Pv := SignAt ⟨a.toArray⟩) (fp := fun I => [I]) (St := fun I i h' => h'.IsStrIter I "str_iterator" ⟨a.toArray⟩ t i)
      (fun s' _ => typeIs_str s' _ t) (by rw [isSubtype_type]; kernel_rfl) (by rw [isSubtype_type]; kernel_rfl) (by decide) (fun A' E' s' Q' _ q => wpAny_pyIter_wide ha q) (fun A' I hA _ _ => Walks.strWide hA I ⟨a.toArray⟩ t) (fun I b hb => .inl (List.mem_singleton.mp hb))
      (fun h' I _ e _ => ⟨_, e, rfl, rfl⟩) rfl (by simp) (by rw [List.length_map]; exact hb) hh val h
open PySem.W (EachIs AllAlike Sortable dataLe) in
/-- sorted(s), s a set of keys of one kind -/
theorem sorted_G {β : Type} (key : β → Key) (enc : β → PyData) (inj : ∀ b c, key b = key c → b = c) (rd : ∀ (h : Heap) (b : β) (v : Value), keyIs (key b) v = true → Reads h v (enc b) []) (al : ∀ b c, PySem.W.alike (enc b) (enc c) = true) (so : ∀ bs : List β, Sortable (bs.map enc)) (dp : ∀ b, (enc b).depth = 0)
    {bs0 : List β} {Q : Value → Shared → Prop} (R : SetG w s.heap a (bs0.map key)) (hh : A.handled = none) (hu : A.units + 5 < cLine)
    (hQ : ∀ s' p (out : List Value) (c : Nat) (bs : List β), (∀ b o, s.heap.get? b = some o → s'.heap.get? b = some o) → s'.gens = s.gens → s'.os = s.os → s.heap.objs.size ≤ p → s'.heap.get? p = some (seqObj "list" out.toArray c) → bs.Perm bs0 →
      EachIs (fun v b => keyIs (key b) v = true) out (bs.mergeSort (dataLe false enc)) → out.length = bs0.length → Q (.ref p) s') : wpAny (model P w) A (call (.builtin "sorted") [.ref a]) Q E s := by
  obtain ⟨o, es, ep, t, R⟩ := R
  have sz := R.len
  rw [List.length_map] at sz
  have few := R.few
  refine Calls.call_function_entry kind_sorted plain_sorted entry_sorted (args_sorted1 _) ?_
  unfold Builtin.«sorted»
  refine wpAny_bind (m := checkCount "sorted" 1 1 _) (wpAny_pure (wpAny_bind (collect_set (A := A.in1) hh ⟨o, R.at_, R.ex.1, R.dat⟩ R.fits R.few R.ris R.led fun s1 vs k1 hz g1 o1 pm => ?_)))
  have vl : vs.length = bs0.length := by rw [pm.length_eq, List.length_map, Array.length_toList, sz]
  have p0 : Paired (fun v k => keyIs k v = true) (es.toList.map (·.2)) (bs0.map key) := by
    have := R.ent
    generalize es.toList = l at this
    generalize bs0.map key = kl at this
    clear vl pm
    induction this with
    | nil => exact .nil
    | cons r _ ih => exact .cons r.1 ih
  obtain ⟨kl, p1, p2⟩ := paired_perm pm.symm p0
  obtain ⟨bs, hbs, hp⟩ : ∃ bs : List β, bs.map key = kl ∧ bs.Perm bs0 := by
    have : ∀ (l : List Key) (cs : List β), (cs.map key).Perm l → ∃ bs : List β, bs.map key = l ∧ bs.Perm cs := fun l => by
      induction l with
      | nil =>
        intro cs z
        have := z.length_eq
        rw [List.length_map] at this
        exact ⟨[], rfl, by rw [List.length_eq_zero_iff.mp this]⟩
      | cons k l ih =>
        intro cs z
        obtain ⟨b, hb, rfl⟩ := List.mem_map.mp (z.mem_iff.mpr (List.mem_cons_self ..))
        obtain ⟨u1, u2, rfl⟩ := List.append_of_mem hb
        have z2 : ((u1 ++ u2).map key).Perm l := by
          have z3 : (key b :: (u1 ++ u2).map key).Perm (key b :: l) := by
            refine List.Perm.trans ?_ z
            rw [List.map_append, List.map_append, List.map_cons]
            exact List.perm_middle.symm
          exact List.Perm.cons_inv z3
        obtain ⟨bs, e1, e2⟩ := ih _ z2
        exact ⟨b :: bs, by rw [List.map_cons, e1], (e2.cons b).trans List.perm_middle.symm⟩
    exact this kl bs0 p2
  have each : EachIs (fun v b => keyIs (key b) v = true) vs bs := by
    rw [← hbs] at p1
    have gen : ∀ (bs : List β) (us : List Value), Paired (fun v k => keyIs k v = true) us (bs.map key) → EachIs (fun v b => keyIs (key b) v = true) us bs := fun bs => by
      induction bs with
      | nil =>
        intro us z
        cases z
        exact .nil
      | cons b bs ih =>
        intro us z
        cases z with
        | cons r t => exact .cons r (ih _ t)
    exact gen bs vs p1
  have hs : vs.length ≤ sizeLine := by
    rw [vl, ← sz, sizeLine_eq]
    have : (4096 : Nat) = scanBound := rfl
    omega
  refine wpAny_bind (wpAny_newList ?_ hs)
  have hoL : (s1.heap.push (seqObj "list" vs.toArray 0)).get? s1.heap.objs.size = some (seqObj "list" vs.toArray 0) := Heap.get?_push_size _ rfl
  refine wpAny_bind (wpAny_holding (PySem.W.list_sort_data (enc := enc) hoL each (each_mem each fun v b _ r => ⟨[], rd _ b v r, by simp⟩) (AllAlike.of fun b c => al b c) (so bs) (by rw [hp.length_eq, ← vl]; exact hs) (fun b _ => by rw [dp]; show A.units + 1 + 1 + 0 < cLine; omega) fun out h1 h2 => ?_))
  obtain ⟨c, hc⟩ := sortedHeap_at (vs := vs) (out := out.toArray) hoL
  refine wpAny_pure ⟨_, rfl, hQ _ s1.heap.objs.size out c bs (fun b u e => ?_) g1 o1 hz hc hp h2 (h1.trans hp.length_eq)⟩
  have q := k1 b u e
  have hlt := Heap.lt_size q
  show (sortedHeap (s1.heap.push (seqObj "list" vs.toArray 0)) s1.heap.objs.size vs out.toArray).get? b = some u
  rw [sortedHeap_old (Nat.ne_of_lt hlt) (by rw [size_push']; exact Nat.lt_succ_of_lt hlt)]
  exact Heap.get?_push_of_some _ q
end
end Ow
/-! Ow: sorted(set(..)) of a text and of a list of numbers. -/
namespace Ow
open PySem PySem.Spec PyProof.Rows L2
open PySem.Builtin (sorted)
open PySem.W (EachIs dataLe) in
theorem sorted_nums {bs cs : List Nat} {le : Nat → Nat → Bool} (hl : ∀ b c, le b c = true ↔ b ≤ c) (nd : bs.Nodup) (e : cs = bs.mergeSort le) : cs.Pairwise (· < ·) ∧ cs.Perm bs := by
  have p : cs.Perm bs := by rw [e]; exact List.mergeSort_perm ..
  have s : cs.Pairwise (fun b c => le b c = true) := by
    rw [e]
    refine List.pairwise_mergeSort (fun a b c h1 h2 => ?_) (fun a b => ?_) _
    · rw [hl] at *
      omega
    · rw [Bool.or_eq_true, hl, hl]
      omega
  have n : cs.Nodup := p.nodup_iff.mpr nd
  refine ⟨?_, p⟩
  unfold List.Nodup at n
  exact (List.pairwise_and_iff.mpr ⟨s, n⟩).imp fun h => by
    obtain ⟨h1, h2⟩ := h
    rw [hl] at h1
    omega
theorem keys_back {β : Type} {key : β → Key} {l : List β} : ∀ {ks : List Key}, (∀ j ∈ ks, j ∈ l.map key) → ∃ bs : List β, bs.map key = ks ∧ ∀ b ∈ bs, b ∈ l
  | [], _ => ⟨[], rfl, fun _ m => by cases m⟩
  | k :: ks, h => by
    obtain ⟨b, hb, rfl⟩ := List.mem_map.mp (h k (List.mem_cons_self ..))
    obtain ⟨bs, e, h2⟩ := keys_back (ks := ks) fun j m => h j (List.mem_cons_of_mem _ m)
    refine ⟨b :: bs, by rw [List.map_cons, e], fun c m => ?_⟩
    rcases List.mem_cons.mp m with rfl | m
    · exact hb
    · exact h2 c m
/-- the letters of a text in order, each once -/
def Asc (cs a : List Nat) : Prop := cs.Pairwise (· < ·) ∧ ∀ c, c ∈ cs ↔ c ∈ a
theorem asc_one {cs ds a : List Nat} (h : Asc cs a) (h' : Asc ds a) : cs = ds :=
  List.Perm.eq_of_pairwise (le := fun a b => a < b) (fun a b _ _ h1 h2 => by omega) h.1 h'.1 ((List.perm_ext_iff_of_nodup (h.1.imp fun h => by omega) (h'.1.imp fun h => by omega)).mpr fun c => (h.2 c).trans (h'.2 c).symm)
section
variable {X : Cx} {e : Expr} {ta : TA} {p p2 pos pos2 : Pos}
def tSortedSetT (ta : TA) : TE := fun σ H Q => ta σ H fun vs H1 => ∃ a, vs = [tx a] ∧ a.length + 1 < 4096 ∧ ∀ (cs : List Nat) (r : Addr), Asc cs a → H1 r = none → Q (.ref r) (upd H1 r (.lst (cs.map fun c => tx [c])))
def tSortedSetN (K : PySem.W.Frag) (ta : TA) : TE := fun σ H Q => ta σ H fun vs H1 => ∃ (l : Addr) (g : List Nat), vs = [.ref l] ∧ SqL K H1 l (nums g) ∧ g.length + 1 < 4096 ∧ ∀ (cs : List Nat) (r : Addr), Asc cs g → H1 r = none → Q (.ref r) (upd H1 r (.lst (nums cs)))
open PySem.W (EachIs dataLe) in
theorem sorted_end {key : Nat → Key} {enc : Nat → PyData} {pins : List (Addr × Obj)} {s : Shared} {σ : L2.St} {H : Hp} {g : List Nat} {h' : Heap} {tk : Nat} {a : Addr} {ks : List Key} {Q : VK} (inj : ∀ b c, key b = key c → b = c) (rd : ∀ (h : Heap) (b : Nat) (v : Value), keyIs (key b) v = true → Reads h v (enc b) [])
    (al : ∀ b c, PySem.W.alike (enc b) (enc c) = true) (so : ∀ bs : List Nat, PySem.W.Sortable (bs.map enc)) (dp : ∀ b, (enc b).depth = 0) (le : ∀ b c, dataLe false enc b c = true ↔ b ≤ c) (hu : X.A.units + 5 < cLine) (hc : X.calm = true) (I : Inv X pins σ H s)
    (ha : a = s.heap.objs.size) (hG : SetG X.w h' a ks) (hm : ∀ j, j ∈ ks ↔ j ∈ g.map key) (hk : ∀ b o, s.heap.get? b = some o → h'.get? b = some o) (q : ∀ (cs : List Nat) (r : Addr), Asc cs g → H r = none → Q (.ref r) (upd H r (.lst (cs.map fun c => kV (key c))))) :
    wpAny (model X.prog X.w) X.A (call (.builtin "sorted") [.ref a]) (EP X pins σ Q) X.xe { s with heap := h', toks := tk } := by
  obtain ⟨bs0, e0, _⟩ := keys_back (key := key) (l := g) fun j m => (hm j).mp m
  have nd0 : bs0.Nodup := by
    have hG' := hG
    obtain ⟨o, es, ep, t, R⟩ := hG'
    have n := R.nd
    rw [← e0] at n
    unfold List.Nodup at n ⊢
    rw [List.pairwise_map] at n
    exact n.imp fun h z => h (by rw [z])
  have len0 : bs0.length < 4096 := by
    obtain ⟨o, es, ep, t, R⟩ := hG
    have := R.few
    rw [R.len, ← e0, List.length_map] at this
    exact this
  rw [← e0] at hG
  refine sorted_G (s := { s with heap := h', toks := tk }) key enc inj rd al so dp hG (I.ok.hd hc) hu fun s' r out c bs kp g1 o1 hr hget pm each ol => ?_
  obtain ⟨c1, c2⟩ := sorted_nums le (pm.nodup_iff.mpr nd0) rfl
  have asc : Asc (bs.mergeSort (dataLe false enc)) g := by
    refine ⟨c1, fun c => ?_⟩
    rw [c2.mem_iff, pm.mem_iff]
    have z := hm (key c)
    rw [← e0] at z
    constructor
    · intro m
      obtain ⟨d, hd, e⟩ := List.mem_map.mp (z.mp (List.mem_map.mpr ⟨c, m, rfl⟩))
      rw [← inj _ _ e]
      exact hd
    · intro m
      obtain ⟨d, hd, e⟩ := List.mem_map.mp (z.mpr (List.mem_map.mpr ⟨c, m, rfl⟩))
      rw [← inj _ _ e]
      exact hd
  have keep : ∀ b o, s.heap.get? b = some o → s'.heap.get? b = some o := fun b o z => kp b o (hk b o z)
  have szl : s.heap.objs.size ≤ r := by
    refine Nat.le_trans ?_ hr
    obtain ⟨o, es, ep, t, R⟩ := hG
    have := Heap.lt_size R.at_
    rw [← ha]
    exact Nat.le_of_lt this
  have hn : H r = none := I.hok.fresh szl
  have vals : Vals ((bs.mergeSort (dataLe false enc)).map fun c => kV (key c)) out := by
    clear asc c1 c2 hget ol
    generalize bs.mergeSort (dataLe false enc) = cs at each
    induction each with
    | nil => exact .nil
    | cons r _ ih => exact .cons (relV_key r) ih
  have hlen : ((bs.mergeSort (dataLe false enc)).map fun c => kV (key c)).length ≤ sizeLine := by
    rw [List.length_map, List.length_mergeSort, pm.length_eq, sizeLine_eq]
    omega
  have J : Inv X pins σ (upd H r (.lst ((bs.mergeSort (dataLe false enc)).map fun c => kV (key c)))) { s with heap := s'.heap, gens := s'.gens, drawn := s'.drawn, toks := s'.toks } :=
    I.call (ch := []) (Un.laid keep szl hn) (I.hok.laid keep szl ⟨hlen, out, c, vals, hget⟩) (by rw [g1]; exact I.bare) (fun _ z => nomatch z)
  have es : s' = { s with heap := s'.heap, gens := s'.gens, drawn := s'.drawn, toks := s'.toks } := by
    have o2 : s'.os = s.os := o1
    cases s'
    cases s
    cases o2
    rfl
  rw [es]
  exact ⟨.ref r, _, J, rfl, q _ r asc hn⟩
/-- sorted(set(text)) -/
theorem pe_sortedSetT {k : Nat} (hr : Room k X.A) (hg : Gl X "sorted") (hm : X.mg "sorted" = none) (hg2 : Gl X "set") (hm2 : X.mg "set" = none) (hc : X.calm = true) (ha : PA X [e] ta)
    (n1 : starEach [.Call (.Name "set" p2) [e] [] pos2] X.env = (false, eval (.Call (.Name "set" p2) [e] [] pos2) X.env) :: starEach [] X.env := by rfl) (n2 : starEach [e] X.env = (false, eval e X.env) :: starEach [] X.env := by rfl) :
    PE X (.Call (.Name "sorted" p) [.Call (.Name "set" p2) [e] [] pos2] [] pos) (tSortedSetT ta) := by
  refine ⟨fun pins s σ H Q I h => Call_ (ld_blt (u := .builtin "sorted") I hg hm (by decide +kernel) (PyProof.Rows.callWith_builtin1 (args_cons ?_ n1) n1))⟩
  refine Call_ (ld_blt I hg2 hm2 boot_set (PyProof.Rows.callWith_type1 (thn (ha.run pos2 pins s σ H _ I h) fun us s1 z => ?_) n2))
  obtain ⟨vs, H1, I1, r1, a, rfl, hz, q⟩ := z
  cases r1 with
  | cons r rr =>
    cases rr
    obtain ⟨t, rfl⟩ := r
    have hu := hr.un
    refine call_setT (show a.length + 1 < scanBound from hz) (I1.ok.hd hc) fun h' tk ks hG hmem hk => args_nil ?_
    refine sorted_end (key := fun c => .inr ⟨#[c]⟩) (enc := fun c => .str ⟨#[c]⟩) (fun b c z => ?_) (fun h b v z => ?_) (fun b c => rfl) (fun bs => .others fun b => ⟨(fun z => by cases z), fun xs z => (by cases z)⟩) (fun b => rfl) (fun b c => ?_) (by omega) hc I1 rfl hG hmem hk q
    · have := Sum.inr.inj z
      simpa using this
    · obtain ⟨u, rfl⟩ := Value.isStrOf_shape (show Value.isStrOf _ v = true from z)
      exact .str _ _
    · rw [PySem.W.dataLe_str (fun c : Nat => (⟨#[c]⟩ : Str)), decide_eq_true_iff]
      show ([b] : List Nat) ≤ [c] ↔ b ≤ c
      rw [List.cons_le_cons_iff]
      constructor
      · rintro (h | ⟨h, _⟩) <;> omega
      · intro h
        by_cases z : b < c
        · exact .inl z
        · exact .inr ⟨by omega, List.le_refl _⟩
/-- sorted(set(xs)) of a list of numbers -/
theorem pe_sortedSetN {k : Nat} (hr : Room k X.A) (hg : Gl X "sorted") (hm : X.mg "sorted" = none) (hg2 : Gl X "set") (hm2 : X.mg "set" = none) (hc : X.calm = true) (ha : PA X [e] ta)
    (n1 : starEach [.Call (.Name "set" p2) [e] [] pos2] X.env = (false, eval (.Call (.Name "set" p2) [e] [] pos2) X.env) :: starEach [] X.env := by rfl) (n2 : starEach [e] X.env = (false, eval e X.env) :: starEach [] X.env := by rfl) :
    PE X (.Call (.Name "sorted" p) [.Call (.Name "set" p2) [e] [] pos2] [] pos) (tSortedSetN X.K ta) := by
  refine ⟨fun pins s σ H Q I h => Call_ (ld_blt (u := .builtin "sorted") I hg hm (by decide +kernel) (PyProof.Rows.callWith_builtin1 (args_cons ?_ n1) n1))⟩
  refine Call_ (ld_blt I hg2 hm2 boot_set (PyProof.Rows.callWith_type1 (thn (ha.run pos2 pins s σ H _ I h) fun us s1 z => ?_) n2))
  obtain ⟨vs, H1, I1, r1, l, g, rfl, hs, hz, q⟩ := z
  cases r1 with
  | cons r rr =>
    cases rr
    cases r
    have hu := hr.un
    obtain ⟨its, rv, hl, hz9⟩ := I1.list hs
    have pk : Paired (fun u (k : Key) => keyIs k u = true ∧ u.scannable = true) its (g.map fun n : Nat => (.inl (n : Int) : Key)) := by
      clear hs hz q hl hz9
      unfold nums at rv
      induction g generalizing its with
      | nil =>
        cases rv
        exact .nil
      | cons n g ih =>
        cases rv with
        | cons r t =>
          obtain ⟨tk, rfl⟩ := r
          exact .cons ⟨keyIs_int _ _, rfl⟩ (ih _ t)
    refine call_setL hl.isList pk (by rw [List.length_map]; exact hz) (I1.ok.hd hc) fun h' tk ks hG hmem hk => args_nil ?_
    refine sorted_end (key := fun n => .inl (n : Int)) (enc := fun n => .int (n : Int)) (fun b c z => ?_) (fun h b v z => ?_) (fun b c => rfl) (fun bs => .others fun b => ⟨(fun z => by cases z), fun xs z => (by cases z)⟩) (fun b => rfl) (fun b c => ?_) (by omega) hc I1 rfl hG hmem hk q
    · have := Sum.inl.inj z
      omega
    · obtain ⟨u, rfl⟩ := Value.isInt_shape (show Value.isInt _ v = true from z)
      exact .int _ _
    · rw [PySem.W.dataLe_int (fun n : Nat => (n : Int)), decide_eq_true_iff]
      omega
end
end Ow
/-! Ow: ranges as values, isinstance of built-in classes, statements that are never reached. -/
namespace Ow
open PySem PySem.Spec PyProof.Rows L2
section
variable {X : Cx}
/-- range(n) as a value -/
theorem cr_range1 : CallR X (.type "range") (fun vs H Q => ∃ i, vs = [V.int i] ∧ ∀ p, H p = none → Q (.ref p) (upd H p (.rng 0 i))) := by
  intro pins s σ H vs us Q I r h
  obtain ⟨i, rfl, q⟩ := h
  cases r with
  | cons rv rr =>
    cases rr
    obtain ⟨t, rfl⟩ := rv
    refine call_range_1 ⟨.ref s.heap.objs.size, upd H s.heap.objs.size (.rng 0 i), I.laid (t' := s.toks + 1 + 1) (fun b o e => Heap.get?_push_of_some _ e) (Nat.le_refl _) ?_, rfl, q _ (I.hok.fresh (Nat.le_refl _))⟩
    exact ⟨s.toks, t, s.toks + 1, Heap.get?_push_size _ rfl⟩
/-- i not in r -/
theorem op_notInRg : OpR X (compareOp .NotIn) (fun x y H Q => ∃ i a lo hi, x = V.int i ∧ y = V.ref a ∧ H a = some (.rng lo hi) ∧ Q (.bl (!decide (lo ≤ i ∧ i < hi))) H) := by
  intro pins s σ H x y v u Q I rx ry h
  obtain ⟨i, a, lo, hi, rfl, rfl, ha, q⟩ := h
  obtain ⟨k, rfl⟩ := rx
  cases ry
  obtain ⟨t1, t2, t3, ho⟩ := I.hok a _ ha
  show wpAny _ _ (do return Value.bool (!(← contains (Value.ref a) (Value.int i k)))) _ _ s
  have sl := F.slot_range_contains
  refine wpAny_bind (wpAny_contains_slot (T := "range") ⟨_, ho, rfl⟩ sl (call_meets sl ⟨_, ho, rfl⟩ F.entry_range_contains (F.args_range_contains_2 _ _) (q_contains a lo hi i t1 t2 t3 k) ⟨ho, ?_⟩))
  refine wpAny_truthy_bool (wpAny_pure ⟨.bl _, H, I, rfl, ?_⟩)
  rw [place1]
  exact q
/-- what is never reached -/
theorem ps_never {st : Stmt} : PS X st (fun _ _ _ => False) := ⟨fun _ _ _ _ _ _ h => h.elim⟩
/-- isinstance(x, T) for a value of a built-in class -/
theorem ty_str {K : PySem.W.Frag} {H : Hp} {x : Str} : TyX K H (.str x) (.type "str") := .base (.str _)
theorem ty_int {K : PySem.W.Frag} {H : Hp} {i : Int} : TyX K H (.int i) (.type "int") := .base (.int _)
theorem ty_bl {K : PySem.W.Frag} {H : Hp} {b : Bool} : TyX K H (.bl b) (.type "bool") := .base (.bl _)
theorem ty_lst {K : PySem.W.Frag} {H : Hp} {a : Addr} {xs : List V} (h : H a = some (.lst xs)) : TyX K H (.ref a) (.type "list") := .base (.lst h)
theorem ty_tup {K : PySem.W.Frag} {H : Hp} {a : Addr} {xs : List V} (h : H a = some (.tup xs)) : TyX K H (.ref a) (.type "tuple") := .base (.tup h)
def rIsB (K : PySem.W.Frag) : List V → Hp → VK → Prop := fun vs H Q => ∃ (x : V) (T U : String), vs = [x, .ty T] ∧ TyX K H x (.type U) ∧ ∃ b, PySem.W.kitOne K (.type U) (.type T) = some b ∧ Q (.bl b) H
theorem call_isB : CallR X (.builtin "isinstance") (rIsB X.K) := CallR.imp call_isi fun vs H Q h => by
  obtain ⟨x, T, U, rfl, ty, b, e, q⟩ := h
  exact ⟨x, .ty T, .type U, .type T, b, rfl, .ty T, ty, e, q⟩
theorem kit_same {K : PySem.W.Frag} {T : String} : PySem.W.kitOne K (.type T) (.type T) = some true := by
  unfold PySem.W.kitOne
  rw [if_pos (by simp)]
end
end Ow
/-! M49: the elders' table as law k49 sees it (pure). -/
namespace Ow
variable {c : List Nat} {n : Nat}
def hds (es : List (List Nat × List Nat)) : List Nat := es.map fun e => e.2.headD 0
structure EGood (c : List Nat) (n : Nat) (es : List (List Nat × List Nat)) : Prop where
  each : ∀ e ∈ es, e.1.length = n + 1 ∧ e.2 ≠ [] ∧ e.2.Pairwise (· < ·) ∧ (∀ p ∈ e.2, p ≤ n ∧ mkRow e.1 p = c) ∧ (1 < e.2.length → es.length = 1 ∧ e.2[0]? = some 0 ∧ e.2[e.2.length - 1]? = some n)
  few : es.length ≤ 3
  inner : 1 < es.length → 0 ∉ hds es ∧ n ∉ hds es
  sum : ∀ a b d, hds es = [a, b, d] → a + d = n
  asc : (hds es).Pairwise (· < ·)
  flat : es.flatMap (·.2) = pls c n
theorem asc_first {ps : List Nat} (h : ps.Pairwise (· < ·)) (m : 0 ∈ ps) : ps[0]? = some 0 := by
  cases ps with
  | nil => cases m
  | cons a r =>
    rcases List.mem_cons.mp m with e | e
    · rw [← e]; rfl
    · have := (List.pairwise_cons.mp h).1 0 e
      omega
theorem asc_last {ps : List Nat} (h : ps.Pairwise (· < ·)) (m : n ∈ ps) (le : ∀ p ∈ ps, p ≤ n) : ps[ps.length - 1]? = some n := by
  obtain ⟨i, hi, e⟩ := List.mem_iff_getElem.mp m
  have hl : ps.length - 1 < ps.length := by omega
  rw [List.getElem?_eq_getElem hl]
  congr 1
  have h1 := le _ (List.getElem_mem hl)
  by_cases z : i = ps.length - 1
  · subst z; exact e
  · have := (List.pairwise_iff_getElem.mp h) i (ps.length - 1) hi hl (by omega)
    omega
theorem asc_ge {ps : List Nat} (h : ps.Pairwise (· < ·)) : ∀ i (hi : i < ps.length), i ≤ ps[i]
  | 0, _ => Nat.zero_le _
  | i + 1, hi => by
    have h1 := asc_ge h i (by omega)
    have h2 := (List.pairwise_iff_getElem.mp h) i (i + 1) (by omega) hi (by omega)
    omega
theorem asc_len {ps : List Nat} (h : ps.Pairwise (· < ·)) (le : ∀ p ∈ ps, p ≤ n) : ps.length ≤ n + 1 := by
  by_cases z : ps.length = 0
  · omega
  · have h1 := asc_ge h (ps.length - 1) (by omega)
    have h2 := le _ (List.getElem_mem (l := ps) (n := ps.length - 1) (by omega))
    omega
theorem egood (hc : c.length = 2 * n + 1) : EGood c n (eldL c n) := by
  have hle : ∀ p ∈ pls c n, p ≤ n := fun p m => (mem_pls.mp m).1
  rcases eld_cases hc with ⟨h1, h2⟩ | ⟨h1, h2, h3, _, h5⟩
  · cases hp : pls c n with
    | nil =>
      have e : eldL c n = [] := by unfold eldL; rw [hp]; rfl
      rw [e]
      exact ⟨(fun _ m => by cases m), by simp, by simp, by simp [hds], by simp [hds], by rw [hp]; rfl⟩
    | cons a r =>
      have am : El c n a := mem_pls.mp (by rw [hp]; simp)
      have e : eldL c n = [(rowAt c n a, pls c n)] := by
        unfold eldL
        rw [grpL_all _ (r := rowAt c n a) (fun p m => h1 p a (mem_pls.mp m) am), if_neg (by rw [hp]; simp)]
      rw [e]
      refine ⟨fun e m => ?_, by simp, by simp, by simp [hds], by simp [hds], by simp⟩
      rw [List.mem_singleton] at m
      subst m
      refine ⟨rowAt_len hc am.1, by rw [hp]; simp, pls_sorted, fun p m => ⟨hle p m, ?_⟩, fun h => ?_⟩
      · have := mem_pls.mp m
        rw [← h1 p a this am]
        exact this.2
      · obtain ⟨z0, zn⟩ : El c n 0 ∧ El c n n := by
          have hs := @pls_sorted c n
          cases r with
          | nil => rw [hp] at h; exact absurd h (by simp)
          | cons b r =>
            refine h2 a b am (mem_pls.mp (by rw [hp]; simp)) ?_
            rw [hp] at hs
            have := (List.pairwise_cons.mp hs).1 b (by simp)
            omega
        exact ⟨rfl, asc_first pls_sorted (mem_pls.mpr z0), asc_last pls_sorted (mem_pls.mpr zn) hle⟩
  · have e : eldL c n = (pls c n).map fun q => (rowAt c n q, [q]) := grpL_dis _ (fun a b A B => h1 a b (mem_pls.mp A) (mem_pls.mp B)) (pls_sorted.imp fun h => by omega)
    have eh : hds (eldL c n) = pls c n := by
      rw [e]
      unfold hds
      rw [List.map_map]
      exact List.map_id'' (fun _ => rfl) _
    rw [e] at eh ⊢
    refine ⟨fun e m => ?_, ?_, fun _ => ?_, fun a b d z => ?_, ?_, ?_⟩
    · obtain ⟨q, hq, rfl⟩ := List.mem_map.mp m
      have hq := mem_pls.mp hq
      refine ⟨rowAt_len hc hq.1, by simp, by simp, fun p m => ?_, fun h => by simp at h⟩
      rw [List.mem_singleton] at m
      subst m
      exact hq
    · rw [List.length_map]
      exact short_sorted (n := n) pls_sorted fun a b d A B D => h5 a b d (mem_pls.mp A) (mem_pls.mp B) (mem_pls.mp D)
    · rw [eh]
      exact ⟨fun m => h2 (mem_pls.mp m), fun m => h3 (mem_pls.mp m)⟩
    · rw [eh] at z
      have hs := @pls_sorted c n
      rw [z] at hs
      simp only [List.pairwise_cons, List.mem_cons] at hs
      exact h5 a b d (mem_pls.mp (by rw [z]; simp)) (mem_pls.mp (by rw [z]; simp)) (mem_pls.mp (by rw [z]; simp)) (hs.1 b (by simp)) (hs.2.1 d (by simp))
    · rw [eh]
      exact pls_sorted
    · rw [List.flatMap_map]
      simp
end Ow
namespace Ow
open PySem PySem.Spec PyProof.Rows L2
def topS (i : Nat) : Stmt := PySem.Challenge.pw_ownlog_k49_whole_at_most_three_elders.main.body.getD i (.Pass ⟨0, 0, 0, 0⟩)
abbrev s_elder_last : Stmt := topS 1
abbrev s_is_called : Stmt := topS 2
abbrev s_elders : Stmt := topS 3
abbrev s_law_bag : Stmt := topS 5
abbrev s_law_take : Stmt := topS 6
abbrev s_law_word : Stmt := topS 7
abbrev s_law_row : Stmt := topS 8
abbrev s_law_called : Stmt := topS 9
abbrev s_law_repeated : Stmt := topS 10
abbrev s_law_root : Stmt := topS 11
abbrev s_law_twin_case : Stmt := topS 12
abbrev s_law_triple_case : Stmt := topS 13
abbrev s_law_twins : Stmt := topS 14
abbrev s_law_place : Stmt := topS 15
abbrev s_law_wide : Stmt := topS 16
abbrev s_law_child : Stmt := topS 17
abbrev s_law_right : Stmt := topS 18
abbrev s_law_no_others : Stmt := topS 19
abbrev s_law : Stmt := topS 20
/-! ### _law_take -/
theorem sc_law_take : FnScope ["_law_bag_here", "_law_many", "_law_cell", "_law_value", "_law_first", "_law_second"] ["_law_bag_here", "_law_many"] (defScope s_law_take) := ⟨rfl, rfl, rfl, by decide +kernel, rfl, by decide +kernel, by decide +kernel⟩
section
variable {P : Program} {w : World} {K : PySem.W.Frag} {mg : Str → Option Value} {base : Heap}
theorem ok__law_take (D : Def K mg "_law_take" s_law_take) (B : Blt mg) : Dfn P w K mg base CX0 1 "_law_take" spTake := by
  refine def_ok D sc_law_take (fun _ _ _ _ _ _ us hl => match us, hl with | [_, _], _ => rfl) (fun vs H Q E h => ?_) (fun cdv A fr s H vs Q E f hr h => ?_)
  · obtain ⟨b, c, n, rfl, _⟩ := h
    rfl
  obtain ⟨b, c, n, rfl, ⟨cs, x0, x1, x2, B0⟩, hn, hlog, q⟩ := h
  refine ⟨_, (Evl.pss_cut (ps_if (pt_cmpR op_eqI (pe_ix ix_list (pv 0) pe_int (fun _ _ => rfl)) pe_int (nomark _))
        (pss_cons (ps_set (i := 2) sc_law_take.nd rfl (Or.inl rfl) pe_int)
        (Evl.pss_cut (ps_if (pt_cmpR op_lt (pe_ix ix_list (pv 0) pe_int (fun _ _ => rfl)) (pe_callB call_len_seq (by rfl) B.len (by decide +kernel) (pa_cons (pe_ix ix_list (pv 0) pe_int (fun _ _ => rfl)) pa_nil)) (nomark _))
          (pss_one (ps_set (i := 2) sc_law_take.nd rfl (Or.inl rfl) (pe_ix ix_list (pe_ix ix_list (pv 0) pe_int (fun _ _ => rfl)) (pe_ix ix_list (pv 0) pe_int (fun _ _ => rfl)) (fun _ _ => rfl))))
          pss_nil)
        (pss_cons (ps_augS (pv 0) pe_int pg_list pe_int ip_add set_list)
        (Evl.pss_cut (ps_if (pt_cmpR op_ge (pv 2) pe_int (nomark _))
          (pss_one (ps_asg (pv 2) (pg_sub (pv 0) pe_int set_list)))
          pss_nil)
        (pss_one (ps_asg (pe_op op_mod (pe_op op_add (pe_op op_add (pe_op op_mul (pe_ix ix_list (pv 0) pe_int (fun _ _ => rfl)) pe_int) (pe_op op_mod (pv 2) pe_int)) (pe_op op_mul pe_int (pe_ix ix_list (pv 0) pe_int (fun _ _ => rfl)))) pe_int) (pg_sub (pv 0) pe_int set_list)))))))
        pss_nil)
      (pss_cons (ps_if (pt_cmpR op_gt (pe_ix ix_list (pv 0) pe_int (fun _ _ => rfl)) pe_int (nomark _))
        (pss_cons (ps_set (i := 3) sc_law_take.nd rfl (Or.inl rfl) (pe_op op_mod (pe_ix ix_list (pv 0) pe_int (fun _ _ => rfl)) (pv 1)))
        (pss_cons (ps_asg (pe_op op_fdivW (pe_ix ix_list (pv 0) pe_int (fun _ _ => rfl)) (pv 1)) (pg_sub (pv 0) pe_int set_list))
        (pss_one (ps_ret (pv 3)))))
        pss_nil)
      (pss_cons (ps_set (i := 4) sc_law_take.nd rfl (Or.inl rfl) (pe_op op_mod (pe_op op_mul (pe_op op_add (pe_ix ix_list (pv 0) pe_int (fun _ _ => rfl)) pe_int) pe_int) pe_int))
      (pss_cons (ps_set (i := 5) sc_law_take.nd rfl (Or.inl rfl) (pe_op op_mod (pe_op op_mul (pe_op op_mod (pe_op op_mul (pv 4) (pv 4)) pe_int) pe_int) pe_int))
      (pss_cons (ps_if (pt_cmpR op_gt (pv 1) pe_int (nomark _))
        (pss_one (ps_ret (pe_op op_mod (pe_op op_add (pe_op op_mul (pv 5) pe_int) (pv 4)) (pv 1))))
        pss_nil)
      (pss_one (ps_ret (pe_op op_mod (pe_op op_fdivW (pv 5) pe_int) (pv 1))))))))), ?_⟩
  have rd : ∀ {H1 : Hp} {y0 y1 y2 : Int}, BagAt H1 b c cs y0 y1 y2 → SqL K H1 b [.int y0, .int y1, .int y2, .ref c] := fun z => sq_new z.at_
  -- what is left once the bag is filled
  refine ⟨fun σ' H' => ∃ (v2 : Option V) (y0 y1 y2 : Int), σ' = [some (.ref b), some (.int n), v2, none, none, none] ∧ BagAt H' b c cs y0 y1 y2 ∧ But b H H', ?_, ?_⟩
  · refine ⟨_, rfl, _, _, _, _, rfl, rfl, rd B0, rfl, _, _, rfl, rfl, _, rfl, ite2 (fun _ => ?_) (fun _ => ?_)⟩
    · refine ⟨fun σ' H' => ∃ z : Int, σ' = [some (.ref b), some (.int n), some (.int z), none, none, none] ∧ H' = H ∧ 0 ≤ z, ?_, ?_⟩
      · refine ⟨_, rfl, _, _, _, _, rfl, rfl, rd B0, rfl, _, rfl, _, _, _, _, rfl, rfl, rd B0, rfl, _, _, rfl, .inl (sq_new B0.cells), _, _, rfl, rfl, _, rfl, ite2 (fun hlt => ?_) (fun _ => ?_)⟩
        · have hlt' : x2 < ((cs.map V.int).length : Int) := of_decide_eq_true hlt
          rw [List.length_map] at hlt'
          have h2 := B0.n2
          have hj : x2.toNat < cs.length := by omega
          have hz := B0.nc _ (List.getElem_mem hj)
          refine ⟨_, rfl, _, _, _, _, rfl, rfl, rd B0, rfl, _, rfl, _, _, _, _, rfl, rfl, rd B0, rfl, _, _, _, _, rfl, rfl, sq_new B0.cells, at_of (j := x2.toNat) (by omega) (v := .int cs[x2.toNat]) (by rw [List.getElem?_map, List.getElem?_eq_getElem hj]; rfl), ?_⟩
          exact ⟨cs[x2.toNat], rfl, rfl, hz⟩
        · exact ⟨0, rfl, rfl, by decide⟩
      · rintro σ' H' ⟨z, rfl, eH, hz⟩
        replace eH := eH.symm
        subst eH
        have B1 := B0.put (y2 := x2 + 1) B0.n0 B0.n1 B0.l1 (by have := B0.n2; omega)
        refine ⟨_, rfl, _, _, _, _, rfl, rfl, rd B0, rfl, _, _, rfl, rfl, _, _, _, _, rfl, rfl, B0.at_, rfl, ?_⟩
        refine ⟨fun σ' H' => ∃ y0 : Int, σ' = [some (.ref b), some (.int n), some (.int z), none, none, none] ∧ BagAt H' b c cs y0 x1 (x2 + 1) ∧ But b H H', ?_, ?_⟩
        · refine ⟨_, rfl, _, _, rfl, rfl, _, rfl, ite2 (fun _ => ?_) (fun _ => ?_)⟩
          · refine ⟨_, rfl, _, rfl, _, _, _, _, rfl, rfl, B1.at_, rfl, z, rfl, ?_, .trans .at .at⟩
            exact B1.put hz B1.n1 B1.l1 B1.n2
          · exact ⟨x0, rfl, B1, .at⟩
        · rintro σ' H' ⟨y0, rfl, B2, b2⟩
          refine ⟨_, rfl, _, _, _, _, rfl, rfl, rd B2, rfl, _, _, rfl, rfl, .inr ⟨by decide, by decide⟩, _, rfl, _, _, rfl, rfl, (by show (0 : Int) < 2147483647; decide), _, _, rfl, rfl, _, rfl, _, _, _, _, rfl, rfl, rd B2, rfl,
            _, _, rfl, rfl, .inl ⟨by decide, by decide⟩, _, _, rfl, rfl, _, _, rfl, rfl, (by show (0 : Int) < 2147483647; decide), _, rfl, _, _, _, _, rfl, rfl, B2.at_, rfl,
            some (.int z), y0, (x1 * 48271 + z % 2147483647 + 7919 * (x2 + 1)) % 2147483647, x2 + 1, rfl, ?_, .trans b2 .at⟩
          exact B2.put B2.n0 (Int.emod_nonneg _ (by decide)) (by have := Int.emod_lt_of_pos (x1 * 48271 + z % 2147483647 + 7919 * (x2 + 1)) (show (0 : Int) < 2147483647 by decide); omega) B2.n2
    · exact ⟨none, x0, x1, x2, rfl, B0, .refl b H⟩
  · rintro σ' H' ⟨v2, y0, y1, y2, rfl, B1, b1⟩
    refine ⟨_, rfl, _, _, _, _, rfl, rfl, rd B1, rfl, _, _, rfl, rfl, _, rfl, ite2 (fun hp => ?_) (fun _ => ?_)⟩
    · have hp' : 0 < y0 := of_decide_eq_true hp
      have B2 := B1.put (y0 := y0 / n) (Int.ediv_nonneg B1.n0 (by omega)) B1.n1 B1.l1 B1.n2
      refine ⟨_, rfl, _, _, _, _, rfl, rfl, rd B1, rfl, _, rfl, _, _, rfl, rfl, (by show (0 : Int) < n; omega), ?_⟩
      refine ⟨_, rfl, _, _, _, _, rfl, rfl, rd B1, rfl, _, rfl, _, _, rfl, rfl, ⟨(by omega), hlog⟩, _, rfl, _, _, _, _, rfl, rfl, B1.at_, rfl, ?_⟩
      exact ⟨_, rfl, q _ _ (Int.emod_nonneg _ (by omega)) (Int.emod_lt_of_pos _ (by omega)) ⟨⟨cs, _, _, _, B2⟩, b1.trans .at⟩⟩
    · refine ⟨_, rfl, _, _, _, _, rfl, rfl, rd B1, rfl, _, _, rfl, rfl, _, _, rfl, rfl, .inr ⟨by decide, by decide⟩, _, _, rfl, rfl, (by show (0 : Int) < 1000000007; decide), ?_⟩
      have f0 := Int.emod_nonneg ((y1 + 1) * 39373) (show (1000000007 : Int) ≠ 0 by decide)
      have f1 := Int.emod_lt_of_pos ((y1 + 1) * 39373) (show (0 : Int) < 1000000007 by decide)
      revert f0 f1
      generalize (y1 + 1) * 39373 % 1000000007 = g
      intro f0 f1
      have s0 := Int.emod_nonneg (g * g) (show (998244353 : Int) ≠ 0 by decide)
      have s1 := Int.emod_lt_of_pos (g * g) (show (0 : Int) < 998244353 by decide)
      refine ⟨_, rfl, _, rfl, _, _, rfl, rfl, .inl ⟨by omega, by omega⟩, _, _, rfl, rfl, (by show (0 : Int) < 998244353; decide), _, _, rfl, rfl, .inr ⟨by decide, by decide⟩, _, _, rfl, rfl, (by show (0 : Int) < 998244353; decide), ?_⟩
      have t0 := Int.emod_nonneg (g * g % 998244353 * 30011) (show (998244353 : Int) ≠ 0 by decide)
      refine ⟨_, rfl, _, _, rfl, rfl, _, rfl, ite2 (fun _ => ?_) (fun _ => ?_)⟩
      · refine ⟨_, rfl, _, _, rfl, rfl, .inr ⟨by decide, by decide⟩, _, rfl, _, _, rfl, rfl, _, rfl, _, _, rfl, rfl, (by show (0 : Int) < n; omega), ?_⟩
        exact q _ _ (Int.emod_nonneg _ (by omega)) (Int.emod_lt_of_pos _ (by omega)) ⟨⟨cs, _, _, _, B1⟩, b1⟩
      · refine ⟨_, rfl, _, _, rfl, rfl, ⟨by decide, by decide⟩, _, rfl, _, _, rfl, rfl, (by show (0 : Int) < n; omega), ?_⟩
        exact q _ _ (Int.emod_nonneg _ (by omega)) (Int.emod_lt_of_pos _ (by omega)) ⟨⟨cs, _, _, _, B1⟩, b1⟩
end

/-! ### _law_word -/
theorem lg {n : Int} (h0 : 1 ≤ n) (h : n < 2 ^ 64) : n.natAbs.log2 < 9000 := by
  have e : n.natAbs.log2 < 64 := (Nat.log2_lt (by omega)).mpr (by omega)
  omega
/-- letters a to z -/
def AZ (l : List Nat) : Prop := ∀ c ∈ l, 97 ≤ c ∧ c ≤ 122
theorem AZ.sub {a b : List Nat} (h : AZ b) (s : ∀ c ∈ a, c ∈ b) : AZ a := fun c m => h c (s c m)
theorem AZ.take {a : List Nat} (h : AZ a) (n : Nat) : AZ (a.take n) := fun c m => h c (List.mem_of_mem_take m)
theorem AZ.drop {a : List Nat} (h : AZ a) (n : Nat) : AZ (a.drop n) := fun c m => h c (List.mem_of_mem_drop m)
theorem AZ.app {a b : List Nat} (h : AZ a) (g : AZ b) : AZ (a ++ b) := fun c m => by
  rcases List.mem_append.mp m with m | m
  · exact h c m
  · exact g c m
theorem AZ.rep {a : List Nat} (h : AZ a) (n : Nat) : AZ (List.replicate n a).flatten := fun c m => by
  obtain ⟨l, h1, h2⟩ := List.mem_flatten.mp m
  rw [(List.mem_replicate.mp h1).2] at h2
  exact h c h2
theorem alph_az : AZ [97, 98, 99, 100, 101, 102, 103, 104, 105, 106, 107, 108, 109, 110, 111, 112, 113, 114, 115, 116, 117, 118, 119, 120, 121, 122] := by
  unfold AZ
  decide
theorem rep_len (n : Nat) (a : List Nat) : (List.replicate n a).flatten.length = n * a.length := by
  rw [List.length_flatten, List.map_replicate, List.sum_replicate_nat]
theorem flat_one (l : List Nat) : (l.map fun c => [c]).flatten = l := by
  induction l with
  | nil => rfl
  | cons c r ih => rw [List.map_cons, List.flatten_cons, ih]; rfl
theorem sc_law_word : FnScope ["_law_bag_here", "_law_most", "_law_start", "_law_few", "_law_letters", "_law_way", "_law_size", "_law_many", "_law_word_here", "_law_k"] ["_law_bag_here", "_law_most"] (defScope s_law_word) := ⟨rfl, rfl, rfl, by decide +kernel, rfl, by decide +kernel, by decide +kernel⟩
def spWord : Sp := fun vs H Q _ => ∃ (b c : Addr) (m : Int), vs = [.ref b, .int m] ∧ Bag H b c ∧ 1 ≤ m ∧ m ≤ 100000 ∧ ∀ (l : List Nat) (H' : Hp), 1 ≤ l.length → (l.length : Int) ≤ m → AZ l → Drew b c H H' → Q (tx l) H'
section
variable {P : Program} {w : World} {K : PySem.W.Frag} {mg : Str → Option Value} {base : Heap}
theorem ok__law_word (D : Def K mg "_law_word" s_law_word) (B : Blt mg) (c__law_take : Dfn P w K mg base CX0 1 "_law_take" spTake) : Dfn P w K mg base CX0 2 "_law_word" spWord := by
  refine def_ok D sc_law_word (fun _ _ _ _ _ _ us hl => match us, hl with | [_, _], _ => rfl) (fun vs H Q E h => ?_) (fun cdv A fr s H vs Q E f hr h => ?_)
  · obtain ⟨b, c, n, rfl, _⟩ := h
    rfl
  obtain ⟨b, c, m, rfl, B0, hm1, hm2, q⟩ := h
  refine ⟨_, (pss_cons (ps_asg (pe_tup (pa_cons (pe_d c__law_take hr (pa_cons (pv 0) (pa_cons pe_int pa_nil))) (pa_cons (pe_op op_add pe_int (pe_d c__law_take hr (pa_cons (pv 0) (pa_cons pe_int pa_nil)))) pa_nil))) (pg_tup (by rfl) (pgs_cons (pg_name (i := 2) sc_law_word.nd rfl (Or.inl rfl)) (pgs_cons (pg_name (i := 3) sc_law_word.nd rfl (Or.inr rfl)) pgs_nil))))
      (pss_cons (ps_set (i := 4) sc_law_word.nd rfl (Or.inr rfl) (pe_slice sl_tx (pe_tx [97, 98, 99, 100, 101, 102, 103, 104, 105, 106, 107, 108, 109, 110, 111, 112, 113, 114, 115, 116, 117, 118, 119, 120, 121, 122]) (po_some (pv 2)) (po_some (pe_op op_add (pv 2) (pv 3)))))
      (pss_cons (ps_par (i := 5) (j := 6) (by rfl) sc_law_word.nd rfl rfl (by decide) rfl rfl (pa_cons (pe_d c__law_take hr (pa_cons (pv 0) (pa_cons pe_int pa_nil))) (pa_cons (pe_op op_add pe_int (pe_d c__law_take hr (pa_cons (pv 0) (pa_cons (pv 1) pa_nil)))) pa_nil)) (by rfl))
      (pss_cons (ps_set (i := 7) sc_law_word.nd rfl (Or.inl rfl) (pe_ix ix_list (pe_lst (pa_cons (pv 6) (pa_cons (pe_op op_add pe_int (pe_d c__law_take hr (pa_cons (pv 0) (pa_cons pe_int pa_nil)))) pa_nil))) (pe_callTy call_int1 (by rfl) B.int (by decide +kernel) (pa_cons (pe_cmpR op_gt (pv 5) pe_int (nomark _)) pa_nil)) (fun _ _ => rfl)))
      (pss_cons (ps_set (i := 8) sc_law_word.nd rfl (Or.inl rfl) (pe_joinE (pe_tx []) (pe_lc (own := [("_law_k", 9)]) (g := gName 9) rfl sc_law_word.nd (pi_range1 rfl B.range (pa_cons (pv 7) pa_nil)) (blkOk_by (own := [("_law_k", 9)]) (N := ["_law_bag_here", "_law_most", "_law_start", "_law_few", "_law_letters", "_law_way", "_law_size", "_law_many", "_law_word_here", "_law_k"]) (sc := defScope s_law_word) (by decide +kernel)) (fun _ _ _ _ _ => (pg_name (i := 9) sc_law_word.nd rfl (Or.inl rfl))) (fun _ _ _ _ _ => pts_nil) (fun _ _ _ _ _ => (pe_ix ix_tx (pv 4) (pe_d c__law_take hr (pa_cons (pv 0) (pa_cons (pv 3) pa_nil))) (fun _ _ => rfl))))))
      (pss_cons (ps_set (i := 8) sc_law_word.nd rfl (Or.inl rfl) (pe_slice sl_tx (pe_op op_repT (pv 8) (pe_op op_add (pe_op op_fdivW (pv 6) (pv 7)) pe_int)) po_none (po_some (pv 6))))
      (pss_one (ps_ret (pe_ix ix_list (pe_lst (pa_cons (pv 8) (pa_cons (pv 8) (pa_cons (pv 8) (pa_cons (pe_revT (pv 8)) pa_nil))))) (pv 5) (fun _ _ => rfl)))))))))), ?_⟩
  -- _law_start, _law_few
  refine ⟨_, rfl, b, c, 24, rfl, B0, by decide, by decide, fun v1 H1 l1 u1 d1 => ?_⟩
  refine ⟨_, rfl, b, c, 3, rfl, d1.bag, by decide, by decide, fun v2 H2 l2 u2 d2 => ?_⟩
  refine ⟨_, _, rfl, rfl, (by show 2 ≤ sizeLine; decide), fun p np => ?_⟩
  have d3 := (d1.trans d2).new (o := .tup [.int v1, .int (1 + v2)]) np
  have hp3 : upd H2 p (.tup [.int v1, .int (1 + v2)]) p = _ := upd_same
  revert d3 hp3
  generalize upd H2 p (.tup [.int v1, .int (1 + v2)]) = H3
  intro d3 hp3
  refine ⟨p, _, rfl, st_new hp3, rfl, _, _, rfl, _, _, rfl, rfl, ?_⟩
  -- _law_letters
  refine ⟨_, rfl, _, rfl, _, rfl, _, rfl, _, _, rfl, rfl, _, rfl, _, rfl, (by show 26 ≤ sizeLine; decide), ?_⟩
  obtain ⟨ls, els, az, ln⟩ : ∃ ls, cut [97, 98, 99, 100, 101, 102, 103, 104, 105, 106, 107, 108, 109, 110, 111, 112, 113, 114, 115, 116, 117, 118, 119, 120, 121, 122] (some v1) (some (v1 + (1 + v2))) = ls ∧ AZ ls ∧ ls.length = (1 + v2).toNat := by
    refine ⟨_, rfl, ?_, ?_⟩
    · rw [cut_midI _ (by omega) (by omega)]
      exact (alph_az.drop _).take _
    · rw [cut_midI _ (by omega) (by omega), List.length_take, List.length_drop]
      show min ((v1 + (1 + v2)).toNat - v1.toNat) (26 - v1.toNat) = _
      omega
  rw [els]
  -- _law_way, _law_size
  refine ⟨_, rfl, b, c, 4, rfl, d3.bag, by decide, by decide, fun v4 H4 l4 u4 d4 => ?_⟩
  refine ⟨_, rfl, _, rfl, b, c, m, rfl, d4.bag, hm1, lg hm1 (by omega), fun v5 H5 l5 u5 d5 => ?_⟩
  refine ⟨_, _, rfl, rfl, _, _, rfl, ?_⟩
  -- _law_many
  refine ⟨_, rfl, _, rfl, b, c, 4, rfl, d5.bag, by decide, by decide, fun v6 H6 l6 u6 d6 => ?_⟩
  refine ⟨_, _, rfl, rfl, (by show 2 ≤ sizeLine; decide), fun r nr => ?_⟩
  have d7 := (((d3.trans d4).trans d5).trans d6).new (o := .lst [.int (1 + v5), .int (1 + v6)]) nr
  have hr7 : upd H6 r (.lst [.int (1 + v5), .int (1 + v6)]) r = _ := upd_same
  revert d7 hr7
  generalize upd H6 r (.lst [.int (1 + v5), .int (1 + v6)]) = H7
  intro d7 hr7
  obtain ⟨many, hmany, hm3, hm4⟩ : ∃ many : Int, atI [V.int (1 + v5), V.int (1 + v6)] (if decide (1 < v4) then 1 else 0) = some (.int many) ∧ 1 ≤ many ∧ many ≤ 100000 := by
    by_cases c : 1 < v4
    · rw [decide_eq_true c]
      exact ⟨1 + v6, rfl, by omega, by omega⟩
    · rw [decide_eq_false c]
      exact ⟨1 + v5, rfl, by omega, by omega⟩
  refine ⟨_, rfl, _, _, rfl, rfl, .inr ⟨_, rfl, r, _, _, _, rfl, rfl, sq_new hr7, hmany, ?_⟩⟩
  -- "".join(..)
  refine ⟨⟨_, rfl⟩, _, rfl, _, rfl, (by omega), (by omega), fun D nD => ?_⟩
  refine lc_range (lo := 0) (n := many.toNat) (fun i H' => ∃ cs : List Nat, cs.length = i ∧ AZ cs ∧ H' D = some (.lst ((cs.map fun c => [c]).map tx)) ∧ Drew b c H7 H') ⟨[], rfl, (fun c m => by cases m), upd_same, (Drew.refl d7.bag).new nD⟩ (fun i H' hi z => ?_) (fun H' z => ?_)
  · obtain ⟨cs, hcs, hz, hD, d8⟩ := z
    refine ⟨rfl, yes ?_⟩
    refine ⟨_, rfl, _, rfl, _, rfl, b, c, _, rfl, d8.bag, by omega, lg (by omega) (by omega), fun v9 H9 l9 u9 d9 => ?_⟩
    have hv : v9.toNat < ls.length := by omega
    refine ⟨_, _, _, rfl, rfl, len_le (by omega), at_nat (j := v9.toNat) (by omega) (List.getElem?_eq_getElem hv), _, d9.but _ _ (d7.bag.ne nD) hD, ?_, ?_⟩
    · rw [List.length_map, List.length_map]
      exact len_lt (by omega)
    · refine ⟨cs ++ [ls[v9.toNat]], by rw [List.length_append, hcs]; rfl, hz.app fun c m => ?_, ?_, (d8.trans d9).mut d7.bag nD⟩
      · rw [List.mem_singleton.mp m]
        exact az _ (List.getElem_mem hv)
      · rw [upd_same, List.map_append, List.map_append]
        rfl
  · obtain ⟨cs, hcs, hz, hD, d8⟩ := z
    refine ⟨D, _, rfl, rfl, sq_new hD, ?_, ?_⟩
    · rw [flat_one]
      omega
    rw [flat_one]
    -- the word repeated and cut
    have hq1 : (1 + v5) / many ≤ 1 + v5 := Int.ediv_le_self _ (by omega)
    have hq0 : 0 ≤ (1 + v5) / many := Int.ediv_nonneg (by omega) (by omega)
    have hq2 : many * ((1 + v5) / many) ≤ 1 + v5 := by
      have := Int.mul_ediv_self_le (x := 1 + v5) (k := many) (by omega)
      exact this
    have hq3 : 1 + v5 < many * ((1 + v5) / many) + many := Int.lt_mul_ediv_self_add (by omega)
    generalize hqq : (1 + v5) / many = qq at hq0 hq1 hq2 hq3
    have hlen : ((List.replicate (qq + 1).toNat cs).flatten.length : Int) = many * qq + many := by
      rw [rep_len, hcs, Int.natCast_mul, Int.toNat_of_nonneg (by omega), Int.toNat_of_nonneg (by omega), Int.mul_comm, Int.mul_add, Int.mul_one]
    refine ⟨_, rfl, _, rfl, _, rfl, _, _, rfl, rfl, ⟨(by show (0 : Int) < many; omega), lg (n := many) (by omega) (by omega)⟩, _, _, rfl, rfl, _, _, rfl, rfl, ?_⟩
    rw [hqq]
    refine ⟨(by omega), (by omega), ?_, _, rfl, _, rfl, _, rfl, ?_, ?_⟩
    · rw [← rep_len (qq + 1).toNat cs |>.trans (Nat.mul_comm _ _)]
      exact len_le (by omega)
    · exact len_le (by omega)
    rw [cut_toI _ (show (0 : Int) ≤ 1 + v5 by omega)]
    obtain ⟨l, el, hl1, hl2, hl3⟩ : ∃ l, (List.replicate (qq + 1).toNat cs).flatten.take (1 + v5).toNat = l ∧ 1 ≤ l.length ∧ (l.length : Int) ≤ m ∧ AZ l := by
      refine ⟨_, rfl, ?_, ?_, (hz.rep _).take _⟩
      · rw [List.length_take]
        omega
      · rw [List.length_take]
        omega
    rw [el]
    -- one of four
    refine ⟨_, rfl, _, rfl, _, rfl, _, rfl, _, rfl, len_le (by omega), (by show 4 ≤ sizeLine; decide), fun t nt => ?_⟩
    have d9 := (d7.trans d8).new (o := .lst [tx l, tx l, tx l, tx l.reverse]) nt
    obtain ⟨l', e1, e2, e3⟩ : ∃ l', atI [tx l, tx l, tx l, tx l.reverse] v4 = some (tx l') ∧ l'.length = l.length ∧ AZ l' := by
      have c4 : v4 = 0 ∨ v4 = 1 ∨ v4 = 2 ∨ v4 = 3 := by omega
      rcases c4 with rfl | rfl | rfl | rfl
      · exact ⟨l, rfl, rfl, hl3⟩
      · exact ⟨l, rfl, rfl, hl3⟩
      · exact ⟨l, rfl, rfl, hl3⟩
      · exact ⟨l.reverse, rfl, List.length_reverse, hl3.sub fun c m => List.mem_reverse.mp m⟩
    refine ⟨_, rfl, t, _, _, _, rfl, rfl, sq_new upd_same, e1, q l' _ (by omega) (by omega) e3 d9⟩
end

/-! ### _law_row -/
theorem sc_law_row : FnScope ["_law_bag_here", "_law_most", "_law_text", "_law_way", "_law_turn", "_law_letter"] ["_law_bag_here", "_law_most"] (defScope s_law_row) := ⟨rfl, rfl, rfl, by decide +kernel, rfl, by decide +kernel, by decide +kernel⟩
def spRow : Sp := fun vs H Q _ => ∃ (b c : Addr) (m : Int), vs = [.ref b, .int m] ∧ Bag H b c ∧ 1 ≤ m ∧ m ≤ 50000 ∧ ∀ (l : List Nat) (H' : Hp), 2 ≤ l.length → ((l.length : Int) ≤ m ∨ l.length = 2) → AZ l → Drew b c H H' → Q (tx l) H'
theorem abc_filter (x : Nat) : 2 ≤ (([97, 98, 99] : List Nat).filter fun c => !decide (c = x)).length := by
  by_cases h1 : x = 97
  · subst h1; decide
  · by_cases h2 : x = 98
    · subst h2; decide
    · rw [List.filter_cons_of_pos (by simpa using fun e => h1 e.symm), List.filter_cons_of_pos (by simpa using fun e => h2 e.symm)]
      rw [List.length_cons, List.length_cons]
      omega
theorem take_filter {α : Type} {l : List α} {f : α → Bool} {i : Nat} {x : α} (h : l[i]? = some x) : (l.take (i + 1)).filter f = (l.take i).filter f ++ if f x then [x] else [] := by
  rw [List.take_add_one, h, List.filter_append]
  congr 1
  show [x].filter f = _
  cases hf : f x <;> simp [hf]
section
variable {P : Program} {w : World} {K : PySem.W.Frag} {mg : Str → Option Value} {base : Heap}
theorem ok__law_row (D : Def K mg "_law_row" s_law_row) (B : Blt mg) (c__law_take : Dfn P w K mg base CX0 1 "_law_take" spTake) (c__law_word : Dfn P w K mg base CX0 2 "_law_word" spWord) : Dfn P w K mg base CX0 3 "_law_row" spRow := by
  refine def_ok D sc_law_row (fun _ _ _ _ _ _ us hl => match us, hl with | [_, _], _ => rfl) (fun vs H Q E h => ?_) (fun cdv A fr s H vs Q E f hr h => ?_)
  · obtain ⟨b, c, n, rfl, _⟩ := h
    rfl
  obtain ⟨b, c, m, rfl, B0, hm1, hm2, q⟩ := h
  refine ⟨_, (pss_cons (ps_set (i := 2) sc_law_row.nd rfl (Or.inr rfl) (pe_d c__law_word hr (pa_cons (pv 0) (pa_cons (pv 1) pa_nil))))
      (Evl.pss_cut (ps_if (pt_cmpR op_lt (pe_callB call_lenT (by rfl) B.len (by decide +kernel) (pa_cons (pv 2) pa_nil)) pe_int (nomark _))
        (pss_one (ps_set (i := 2) sc_law_row.nd rfl (Or.inr rfl) (pe_op op_catT (pv 2) (pv 2))))
        pss_nil)
      (pss_cons (ps_par (i := 3) (j := 4) (by rfl) sc_law_row.nd rfl rfl (by decide) rfl rfl (pa_cons (pe_d c__law_take hr (pa_cons (pv 0) (pa_cons pe_int pa_nil))) (pa_cons (pe_d c__law_take hr (pa_cons (pv 0) (pa_cons pe_int pa_nil))) pa_nil)) (by rfl))
      (pss_cons (ps_if (pt_cmpR op_eqI (pv 3) pe_int (nomark _))
        (pss_one (ps_ret (pe_op op_catT (pe_slice sl_tx (pv 2) po_none (po_some (pe_un un_neg pe_int))) (pe_ix ix_list (pe_lc (own := [("_law_letter", 5)]) (g := gName 5) rfl sc_law_row.nd (pi_str (pe_tx [97, 98, 99])) (blkOk_by (own := [("_law_letter", 5)]) (N := ["_law_bag_here", "_law_most", "_law_text", "_law_way", "_law_turn", "_law_letter"]) (sc := defScope s_law_row) (by decide +kernel)) (fun _ _ _ _ _ => (pg_name (i := 5) sc_law_row.nd rfl (Or.inl rfl))) (fun _ _ _ _ _ => pts_one (pt_cmpR op_neT (pv 5) (pe_ix ix_tx (pv 2) pe_int (fun _ _ => rfl)) (nomark _))) (fun _ _ _ _ _ => (pv 5))) (pv 4) (fun _ _ => rfl)))))
        pss_nil)
      (pss_one (ps_ret (pe_ix ix_list (pe_lst (pa_cons (pv 2) (pa_cons (pv 2) (pa_cons (pe_op op_catT (pe_slice sl_tx (pv 2) po_none (po_some (pe_un un_neg pe_int))) (pe_ix ix_tx (pv 2) pe_int (fun _ _ => rfl))) pa_nil)))) (pv 3) (fun _ _ => rfl)))))))), ?_⟩
  refine ⟨_, rfl, _, rfl, b, c, m, rfl, B0, hm1, by omega, fun l1 H1 a1 a2 a3 d1 => ?_⟩
  -- a text of two letters at least
  refine ⟨fun σ' H' => ∃ l : List Nat, σ' = [some (.ref b), some (.int m), some (tx l), none, none, none] ∧ H' = H1 ∧ 2 ≤ l.length ∧ ((l.length : Int) ≤ m ∨ l.length = 2) ∧ AZ l, ?_, ?_⟩
  · refine ⟨_, rfl, _, rfl, len_le (by omega), _, _, rfl, rfl, _, rfl, ite2 (fun hlt => ?_) (fun hlt => ?_)⟩
    · have hlt' : (l1.length : Int) < 2 := of_decide_eq_true hlt
      refine ⟨_, rfl, _, rfl, _, _, rfl, rfl, len_le (by omega), l1 ++ l1, rfl, rfl, ?_, .inr ?_, a3.app a3⟩ <;> (rw [List.length_append]; omega)
    · have hlt' : ¬ (l1.length : Int) < 2 := fun z => hlt (decide_eq_true z)
      exact ⟨l1, rfl, rfl, by omega, .inl a2, a3⟩
  rintro σ' H' ⟨l, rfl, eH, hl2, hlm, hz⟩
  subst eH
  have hbig : l.length ≤ 50000 := by omega
  have h0 : 0 < l.length := by omega
  refine ⟨_, rfl, b, c, 3, rfl, d1.bag, by decide, by decide, fun v2 H2 l2 u2 d2 => ?_⟩
  refine ⟨_, rfl, b, c, 2, rfl, d2.bag, by decide, by decide, fun v3 H3 l3 u3 d3 => ?_⟩
  have d4 := (d1.trans d2).trans d3
  refine ⟨_, _, rfl, ?_⟩
  refine ⟨_, rfl, _, _, rfl, rfl, _, rfl, ite2 (fun _ => ?_) (fun _ => ?_)⟩
  · refine ⟨_, rfl, _, rfl, _, rfl, _, rfl, len_le (by omega), ?_⟩
    rw [cut_last]
    refine ⟨_, rfl, fun D nD => ?_⟩
    refine lc_T (a := [97, 98, 99]) (fun i H' => Same H3 H' ∧ H' D = some (.lst (((([97, 98, 99] : List Nat).take i).filter fun c => !decide (c = l[0])).map fun c => tx [c]))) ⟨.new nD, upd_same⟩ (fun i x H' hi z => ?_) (fun H' z => ?_)
    · obtain ⟨z1, z2⟩ := z
      refine ⟨rfl, ?_⟩
      refine ⟨_, rfl, _, rfl, _, _, _, rfl, rfl, len_le (by omega), at_nat (j := 0) rfl (List.getElem?_eq_getElem h0), _, _, rfl, rfl, _, rfl, ?_⟩
      have ed : (!decide ([x] = [l[0]])) = !decide (x = l[0]) := by simp
      rw [ed]
      refine ite2 (fun hx => ?_) (fun hx => ?_)
      · refine ⟨_, rfl, _, z2, ?_, fun b' o e => ?_, ?_⟩
        · rw [List.length_map]
          have := List.length_filter_le (fun c => !decide (c = l[0])) (([97, 98, 99] : List Nat).take i)
          have h3 : (([97, 98, 99] : List Nat).take i).length ≤ 3 := by
            rw [List.length_take]
            exact Nat.min_le_right _ _
          exact len_lt (by omega)
        · rw [upd_ne (ne_of_none e nD)]
          exact z1 b' o e
        · rw [upd_same, take_filter hi, if_pos hx, List.map_append]
          rfl
      · refine ⟨z1, ?_⟩
        rw [take_filter hi, if_neg hx, List.append_nil]
        exact z2
    · obtain ⟨z1, z2⟩ := z
      have hf := abc_filter l[0]
      rw [show (([97, 98, 99] : List Nat).take ([97, 98, 99] : List Nat).length) = [97, 98, 99] from rfl] at z2
      have hv : v3.toNat < (([97, 98, 99] : List Nat).filter fun c => !decide (c = l[0])).length := by omega
      refine ⟨_, rfl, D, _, _, tx [(([97, 98, 99] : List Nat).filter fun c => !decide (c = l[0]))[v3.toNat]], rfl, rfl, sq_new z2, at_nat (j := v3.toNat) (by omega) ?_, _, _, rfl, rfl, ?_, q _ _ ?_ ?_ ?_ (d4.same z1)⟩
      · rw [List.getElem?_map, List.getElem?_eq_getElem hv]
        rfl
      · rw [List.length_take, List.length_singleton]
        exact len_le (by omega)
      · rw [List.length_append, List.length_take, List.length_singleton]
        omega
      · rw [List.length_append, List.length_take, List.length_singleton]
        omega
      · refine (hz.take _).app fun c m => ?_
        rw [List.mem_singleton.mp m]
        have h3 := List.mem_filter.mp (List.getElem_mem hv)
        have h4 : ∀ c ∈ ([97, 98, 99] : List Nat), 97 ≤ c ∧ c ≤ 122 := by decide
        exact h4 _ h3.1
  · refine ⟨_, rfl, _, rfl, _, rfl, _, rfl, _, rfl, _, rfl, len_le (by omega), _, rfl, _, _, _, rfl, rfl, len_le (by omega), at_nat (j := 0) rfl (List.getElem?_eq_getElem h0), _, _, rfl, rfl, ?_, (by show 3 ≤ sizeLine; decide), fun t nt => ?_⟩
    · rw [cut_last, List.length_take, List.length_singleton]
      exact len_le (by omega)
    rw [cut_last]
    have d5 := d4.new (o := .lst [tx l, tx l, tx (l.take (l.length - 1) ++ [l[0]])]) nt
    have c3 : v2 = 0 ∨ v2 = 1 ∨ v2 = 2 := by omega
    obtain ⟨l', e1, e2, e3⟩ : ∃ l', atI [tx l, tx l, tx (l.take (l.length - 1) ++ [l[0]])] v2 = some (tx l') ∧ l'.length = l.length ∧ AZ l' := by
      rcases c3 with rfl | rfl | rfl
      · exact ⟨l, rfl, rfl, hz⟩
      · exact ⟨l, rfl, rfl, hz⟩
      · refine ⟨_, rfl, ?_, (hz.take _).app fun c m => ?_⟩
        · rw [List.length_append, List.length_take, List.length_singleton]
          omega
        · rw [List.mem_singleton.mp m]
          exact hz _ (List.getElem_mem h0)
    exact ⟨_, rfl, t, _, _, _, rfl, rfl, sq_new upd_same, e1, q l' _ (by omega) (by rw [e2]; exact hlm) e3 d5⟩
end

/-! ### _law_bag -/
theorem sc_law_bag : FnScope ["_law_script", "_law_cell"] ["_law_script"] (defScope s_law_bag) := ⟨rfl, rfl, rfl, by decide +kernel, rfl, by decide +kernel, by decide +kernel⟩
def spBag (K : PySem.W.Frag) : Sp := fun vs H Q _ => ∃ (a : Addr) (ns : List Int), vs = [.ref a] ∧ SqL K H a (ns.map V.int) ∧ ns.length ≤ 63 ∧ ∀ (b c : Addr) (H' : Hp), H b = none → H c = none → Bag H' b c → Same H H' → Q (.ref b) H'
section
variable {P : Program} {w : World} {K : PySem.W.Frag} {mg : Str → Option Value} {base : Heap}
theorem ok__law_bag (D : Def K mg "_law_bag" s_law_bag) (B : Blt mg) : Dfn P w K mg base CX0 1 "_law_bag" (spBag K) := by
  refine def_ok D sc_law_bag (fun _ _ _ _ _ _ us hl => match us, hl with | [_], _ => rfl) (fun vs H Q E h => ?_) (fun cdv A fr s H vs Q E f hr h => ?_)
  · obtain ⟨a, ns, rfl, _⟩ := h
    rfl
  obtain ⟨a, ns, rfl, hS, hlen, q⟩ := h
  refine ⟨_, (pss_one (ps_ret (pe_lst (pa_cons pe_int (pa_cons pe_int (pa_cons pe_int (pa_cons (pe_lc (own := [("_law_cell", 1)]) (g := gName 1) rfl sc_law_bag.nd (pi_list (pe_slice sl_list (pv 0) po_none (po_some pe_int))) (blkOk_by (own := [("_law_cell", 1)]) (N := ["_law_script", "_law_cell"]) (sc := defScope s_law_bag) (by decide +kernel)) (fun _ _ _ _ _ => (pg_name (i := 1) sc_law_bag.nd rfl (Or.inl rfl))) (fun _ _ _ _ _ => pts_nil) (fun _ _ _ _ _ => (pe_callB call_abs (by rfl) B.abs (by decide +kernel) (pa_cons (pv 1) pa_nil)))) pa_nil))))))), ?_⟩
  refine ⟨_, rfl, _, rfl, _, _, rfl, hS, fun p np => ?_⟩
  have ec : cutV (ns.map V.int) none (some (63 : Int)) = ns.map V.int := by
    rw [cutV_eq, cut_toI _ (by decide)]
    exact List.take_of_length_le (by rw [List.length_map]; exact hlen)
  rw [ec]
  have s1 : Same H (upd H p (.lst (ns.map V.int))) := .new np
  refine ⟨p, rfl, ⟨_, sq_new upd_same⟩, fun D nD => ?_⟩
  refine lc_list (xs := ns.map V.int) (fun i H' => Same (upd H p (.lst (ns.map V.int))) H' ∧ H' D = some (.lst (((ns.take i).map fun z => if z < 0 then -z else z).map V.int))) ⟨.new nD, upd_same⟩ (fun i H' _ z => sq_new (z.1 _ _ upd_same)) (fun i x H' hi z => ?_) (fun H' z => ?_)
  · obtain ⟨z1, z2⟩ := z
    obtain ⟨m, hm, rfl⟩ : ∃ m, ns[i]? = some m ∧ x = V.int m := by
      rw [List.getElem?_map] at hi
      cases e : ns[i]? with
      | none => rw [e] at hi; cases hi
      | some m =>
        rw [e] at hi
        exact ⟨m, rfl, (Option.some.inj hi).symm⟩
    refine ⟨rfl, yes ?_⟩
    refine ⟨_, rfl, _, rfl, _, z2, ?_, fun b o e => ?_, ?_⟩
    · rw [List.length_map, List.length_map, List.length_take]
      exact len_lt (by omega)
    · have nb : b ≠ D := ne_of_none e nD
      rw [upd_ne nb]
      exact z1 b o e
    · rw [upd_same, List.take_add_one, hm, List.map_append, List.map_append]
      rfl
  · obtain ⟨z1, z2⟩ := z
    have s2 : Same H H' := s1.trans z1
    refine ⟨(by show 4 ≤ sizeLine; decide), fun b nb => ?_⟩
    have ne : b ≠ D := (ne_of_none z2 nb).symm
    refine q b D _ (s2.free nb) (s1.free nD) ⟨(ns.map fun z => if z < 0 then -z else z), 0, 1234567891, 0, upd_same, ?_, by decide, by decide, by decide, by decide, fun z hz => ?_, ne⟩ (s2.trans (.new nb))
    · rw [upd_ne (Ne.symm ne), z2, List.length_map, List.take_length]
    · obtain ⟨y, _, rfl⟩ := List.mem_map.mp hz
      show 0 ≤ if y < 0 then -y else y
      split <;> omega
end

/-! ### _law_called -/
theorem sc_law_called : FnScope ["_law_row_here", "_law_place_here", "_law_ahead", "_law_behind"] ["_law_row_here", "_law_place_here"] (defScope s_law_called) := ⟨rfl, rfl, rfl, by decide +kernel, rfl, by decide +kernel, by decide +kernel⟩
/-- the row that a call makes, by slices -/
def calledL (l : List Nat) (p : Nat) : List Nat := l.take p ++ l.take p ++ (l.drop p).take 1 ++ l.drop (p + 1) ++ l.drop (p + 1)
theorem called_made (l : List Nat) (p : Nat) : calledL l p = mkRow l p := by
  unfold calledL mkRow
  have e : l = l.take p ++ ((l.drop p).take 1 ++ l.drop (p + 1)) := by
    have h1 : (l.drop p).take 1 ++ (l.drop p).drop 1 = l.drop p := List.take_append_drop 1 _
    rw [List.drop_drop] at h1
    rw [h1, List.take_append_drop]
  conv => rhs; arg 1; arg 2; rw [e]
  simp only [List.append_assoc]
theorem mkRow_az {l : List Nat} (p : Nat) (h : AZ l) : AZ (mkRow l p) := ((h.take p).app h).app (h.drop (p + 1))
theorem drop_one {l : List Nat} {p : Nat} (h : p < l.length) : (l.drop p).take 1 = [l[p]] := by
  rw [List.drop_eq_getElem_cons h]
  rfl
def spCalled : Sp := fun vs H Q _ => ∃ (l : List Nat) (p : Nat), vs = [tx l, .int (p : Int)] ∧ p < l.length ∧ l.length ≤ 1000000 ∧ Q (tx (mkRow l p)) H
section
variable {P : Program} {w : World} {K : PySem.W.Frag} {mg : Str → Option Value} {base : Heap}
theorem ok__law_called (D : Def K mg "_law_called" s_law_called) : Dfn P w K mg base CX0 1 "_law_called" spCalled := by
  refine def_ok D sc_law_called (fun _ _ _ _ _ _ us hl => match us, hl with | [_, _], _ => rfl) (fun vs H Q E h => ?_) (fun cdv A fr s H vs Q E f hr h => ?_)
  · obtain ⟨l, n, rfl, _⟩ := h
    rfl
  obtain ⟨l, p, rfl, hp, hl, q⟩ := h
  rw [← called_made] at q
  unfold calledL at q
  rw [drop_one hp] at q
  refine ⟨_, (pss_cons (ps_par (i := 2) (j := 3) (by rfl) sc_law_called.nd rfl rfl (by decide) rfl rfl (pa_cons (pe_slice sl_tx (pv 0) po_none (po_some (pv 1))) (pa_cons (pe_slice sl_tx (pv 0) (po_some (pe_op op_add (pv 1) pe_int)) po_none) pa_nil)) (by rfl))
      (pss_one (ps_ret (pe_op op_catT (pe_op op_catT (pe_op op_catT (pe_op op_catT (pv 2) (pv 2)) (pe_ix ix_tx (pv 0) (pv 1) (fun _ _ => rfl))) (pv 3)) (pv 3))))), ?_⟩
  have h1 : (l.take p).length ≤ l.length := by rw [List.length_take]; omega
  have h2 : (l.drop (p + 1)).length ≤ l.length := by rw [List.length_drop]; omega
  refine ⟨_, rfl, _, rfl, _, rfl, _, rfl, len_le (by omega), _, rfl, _, rfl, _, _, rfl, rfl, _, rfl, _, rfl, len_le (by omega), _, _, rfl, ?_⟩
  rw [cut_to, cut_fromI _ (by omega), show ((p : Int) + 1).toNat = p + 1 by omega]
  refine ⟨_, rfl, _, rfl, _, _, rfl, rfl, len_le (by omega), _, rfl, _, rfl, _, _, _, rfl, rfl, len_le (by omega), at_nat rfl (List.getElem?_eq_getElem hp), _, _, rfl, rfl, ?_, _, rfl, _, _, rfl, rfl, ?_, _, rfl, _, _, rfl, rfl, ?_, q⟩
  · rw [List.length_append]
    exact len_le (by rw [List.length_singleton]; omega)
  · rw [List.length_append, List.length_append, List.length_singleton]
    exact len_le (by omega)
  · rw [List.length_append, List.length_append, List.length_append, List.length_singleton]
    exact len_le (by omega)
end

/-! ### elder_last -/
theorem sc_elder_last : FnScope ["row"] ["row"] (defScope s_elder_last) := ⟨rfl, rfl, rfl, by decide +kernel, rfl, by decide +kernel, by decide +kernel⟩
def spElderLast : Sp := fun vs H Q _ => ∃ l : List Nat, vs = [tx l] ∧ 1 ≤ l.length ∧ l.length ≤ 1000000 ∧ Q (.int (((l.length - 1) / 2 : Nat) : Int)) H
section
variable {P : Program} {w : World} {K : PySem.W.Frag} {mg : Str → Option Value} {base : Heap}
theorem ok_elder_last (D : Def K mg "elder_last" s_elder_last) (B : Blt mg) : Dfn P w K mg base CX0 1 "elder_last" spElderLast := by
  refine def_ok D sc_elder_last (fun _ _ _ _ _ _ us hl => match us, hl with | [_], _ => rfl) (fun vs H Q E h => ?_) (fun cdv A fr s H vs Q E f hr h => ?_)
  · obtain ⟨l, rfl, _⟩ := h
    rfl
  obtain ⟨l, rfl, h1, h2, q⟩ := h
  refine ⟨_, (pss_one (ps_ret (pe_op op_fdivW (pe_op op_sub (pe_callB call_lenT (by rfl) B.len (by decide +kernel) (pa_cons (pv 0) pa_nil)) pe_int) pe_int))), ?_⟩
  refine ⟨_, rfl, _, rfl, len_le (by omega), _, _, rfl, rfl, _, _, rfl, rfl, ⟨by decide, by decide⟩, ?_⟩
  have e : ((l.length : Int) - 1) / 2 = (((l.length - 1) / 2 : Nat) : Int) := by omega
  show Q (.int (((l.length : Int) - 1) / 2)) H
  rw [e]
  exact q
end

/-! ### is_called -/
theorem sc_is_called : FnScope ["row", "place", "middle"] ["row", "place"] (defScope s_is_called) := ⟨rfl, rfl, rfl, by decide +kernel, rfl, by decide +kernel, by decide +kernel⟩
theorem el_cuts {c : List Nat} {n p : Nat} (hc : c.length = 2 * n + 1) (hp : p ≤ n) : (c.take p = (c.drop p).take (2 * p - p) ∧ (c.drop (2 * p + 1)).take (p + n + 1 - (2 * p + 1)) = c.drop (p + n + 1)) ↔ El c n p := by
  rw [el_sq hc]
  constructor
  · rintro ⟨h1, h2⟩
    refine ⟨hp, fun i hi => ?_, fun i i1 i2 => ?_⟩
    · have e : (c.take p)[i]? = ((c.drop p).take (2 * p - p))[i]? := by rw [h1]
      rw [List.getElem?_take_of_lt hi, List.getElem?_take_of_lt (by omega), List.getElem?_drop, Nat.add_comm] at e
      exact e
    · have e : ((c.drop (2 * p + 1)).take (p + n + 1 - (2 * p + 1)))[i - (2 * p + 1)]? = (c.drop (p + n + 1))[i - (2 * p + 1)]? := by rw [h2]
      rw [List.getElem?_take_of_lt (by omega), List.getElem?_drop, List.getElem?_drop, show 2 * p + 1 + (i - (2 * p + 1)) = i by omega, show p + n + 1 + (i - (2 * p + 1)) = i + (n - p) by omega] at e
      exact e
  · intro S
    constructor
    · apply List.ext_getElem?
      intro i
      by_cases hi : i < p
      · rw [List.getElem?_take_of_lt hi, List.getElem?_take_of_lt (by omega), List.getElem?_drop, Nat.add_comm]
        exact S.pre i hi
      · rw [List.getElem?_eq_none (by rw [List.length_take]; omega), List.getElem?_eq_none (by rw [List.length_take, List.length_drop]; omega)]
    · apply List.ext_getElem?
      intro i
      by_cases hi : i < n - p
      · rw [List.getElem?_take_of_lt (by omega), List.getElem?_drop, List.getElem?_drop]
        have e := S.suf (2 * p + 1 + i) (by omega) (by omega)
        have e' : c[2 * p + 1 + i]? = c[2 * p + 1 + i + (n - p)]? := e
        rw [e']
        congr 1
        omega
      · rw [List.getElem?_eq_none (by rw [List.length_take, List.length_drop]; omega), List.getElem?_eq_none (by rw [List.length_drop]; omega)]
def spIsCalled : Sp := fun vs H Q _ => ∃ (c : List Nat) (n p : Nat), vs = [tx c, .int (p : Int)] ∧ c.length = 2 * n + 1 ∧ p ≤ n ∧ n ≤ 400000 ∧ Q (.bl (decide (El c n p))) H
section
variable {P : Program} {w : World} {K : PySem.W.Frag} {mg : Str → Option Value} {base : Heap}
theorem ok_is_called (D : Def K mg "is_called" s_is_called) (B : Blt mg) (c_elder_last : Dfn P w K mg base CX0 1 "elder_last" spElderLast) : Dfn P w K mg base CX0 2 "is_called" spIsCalled := by
  refine def_ok D sc_is_called (fun _ _ _ _ _ _ us hl => match us, hl with | [_, _], _ => rfl) (fun vs H Q E h => ?_) (fun cdv A fr s H vs Q E f hr h => ?_)
  · obtain ⟨c, n, p, rfl, _⟩ := h
    rfl
  obtain ⟨c, n, p, rfl, hc, hp, hn, q⟩ := h
  refine ⟨_, (pss_cons (ps_set (i := 2) sc_is_called.nd rfl (Or.inl rfl) (pe_op op_add (pe_op op_add (pv 1) (pe_d c_elder_last hr (pa_cons (pv 0) pa_nil))) pe_int))
      (pss_one (ps_ret (pe_and (pe_cmpR op_eqT (pe_slice sl_tx (pv 0) po_none (po_some (pv 1))) (pe_slice sl_tx (pv 0) (po_some (pv 1)) (po_some (pe_op op_mul pe_int (pv 1)))) (nomark _)) (pe_one (pe_cmpR op_eqT (pe_slice sl_tx (pv 0) (po_some (pe_op op_add (pe_op op_mul pe_int (pv 1)) pe_int)) (po_some (pv 2))) (pe_slice sl_tx (pv 0) (po_some (pv 2)) po_none) (nomark _))))))), ?_⟩
  refine ⟨_, rfl, _, rfl, c, rfl, by omega, by omega, _, _, rfl, rfl, _, _, rfl, rfl, ?_⟩
  have e : (p : Int) + (((c.length - 1) / 2 : Nat) : Int) + 1 = ((p + n + 1 : Nat) : Int) := by omega
  dsimp only
  rw [e]
  refine ⟨_, rfl, _, rfl, _, rfl, _, rfl, len_le (by omega), _, rfl, _, rfl, _, rfl, _, rfl, _, _, rfl, rfl, mulS (by omega) (by omega), _, rfl, _, rfl, len_le (by omega), _, _, rfl, rfl, _, rfl, ?_⟩
  have e2 : (2 : Int) * (p : Int) = ((2 * p : Nat) : Int) := by omega
  rw [e2, cut_to, cut_mid]
  refine ite2 (fun h => ?_) (fun h => ?_)
  · refine ⟨_, rfl, _, rfl, _, _, rfl, rfl, mulS (by omega) (by omega), _, _, rfl, rfl, _, rfl, _, rfl, _, rfl, _, rfl, len_le (by omega), _, rfl, _, rfl, _, rfl, _, rfl, len_le (by omega), _, _, rfl, rfl, ?_⟩
    have e3 : (2 : Int) * (p : Int) + 1 = ((2 * p + 1 : Nat) : Int) := by omega
    rw [e3, cut_mid, cut_from]
    have z : decide ((c.drop (2 * p + 1)).take (p + n + 1 - (2 * p + 1)) = c.drop (p + n + 1)) = decide (El c n p) := by
      have h' := of_decide_eq_true h
      by_cases k : El c n p
      · rw [decide_eq_true k, decide_eq_true ((el_cuts hc hp).mpr k).2]
      · rw [decide_eq_false k, decide_eq_false fun z => k ((el_cuts hc hp).mp ⟨h', z⟩)]
    rw [z]
    exact q
  · have k : ¬ El c n p := fun k => by
      exact h (decide_eq_true ((el_cuts hc hp).mpr k).1)
    rw [decide_eq_false k] at q
    exact q
end

/-! ### elders -/
theorem sc_elders : FnScope ["row", "found", "last", "place"] ["row"] (defScope s_elders) := ⟨rfl, rfl, rfl, by decide +kernel, rfl, by decide +kernel, by decide +kernel⟩
/-- the elders, none of rows of even length -/
def eldO (c : List Nat) : List (List Nat × List Nat) := if c.length % 2 = 1 then eldL c ((c.length - 1) / 2) else []
theorem eldO_mem {c : List Nat} {e : List Nat × List Nat} (h : e ∈ eldO c) : ∃ p, e.1 = rowAt c ((c.length - 1) / 2) p := by
  unfold eldO at h
  split at h
  · obtain ⟨p, _, e⟩ := grpL_mem _ h
    exact ⟨p, e⟩
  · cases h
def eldD (b : Addr × Addr × List Nat × List Nat) : PyData := .tuple [.str ⟨b.2.2.1.toArray⟩, encR b.2.2.2]
theorem dp_eld {K : PySem.W.Frag} {H0 H : Hp} : ∀ its : List (Addr × Addr × List Nat × List Nat), (∀ b ∈ its, EldAt H0 H b) → DpAll K H (refs its) (its.map eldD)
  | [], _ => .nil
  | b :: its, h => .cons (.tup (st_new (h b (List.mem_cons_self ..)).tup) (.cons (.str _) (.cons (dp_row (sq_new (h b (List.mem_cons_self ..)).lst)) .nil))) (dp_eld its fun c m => h c (List.mem_cons_of_mem _ m))
theorem eld_lay : ∀ its : List (Addr × Addr × List Nat × List Nat), (∀ b ∈ its, ∀ c ∈ b.2.2.1, c ≤ 122) → PyData.canLayAll0 (its.map eldD) = true ∧ PyData.depthAll (its.map eldD) ≤ 2
  | [], _ => ⟨rfl, Nat.zero_le _⟩
  | b :: its, h => by
    obtain ⟨h1, h2⟩ := eld_lay its fun c m => h c (List.mem_cons_of_mem _ m)
    have so := strOk_of (h b (List.mem_cons_self ..))
    have le : (encR b.2.2.2).canLay0 = true := SeqAt.canLay_of_shaped (shaped_row _)
    rw [List.map_cons, PyData.canLayAll0, h1, PyData.depthAll]
    constructor
    · unfold eldD
      rw [PyData.canLay0, PyData.canLayAll0, PyData.canLayAll0, PyData.canLayAll0, PyData.canLay0, so, le]
      rfl
    · refine Nat.max_le.mpr ⟨?_, h2⟩
      unfold eldD
      rw [PyData.depth, PyData.depthAll, PyData.depthAll, PyData.depthAll, PyData.depth, depth_row]
      exact Nat.le_refl _
theorem eld_shaped {its : List (Addr × Addr × List Nat × List Nat)} (h : ∀ b ∈ its, ∀ c ∈ b.2.2.1, c ≤ 122) : SeqAt.shaped (.list (its.map eldD)) = true := by
  obtain ⟨h1, h2⟩ := eld_lay its h
  unfold SeqAt.shaped
  rw [PyData.canLay0, h1, PyData.depth, decide_eq_true (show _ ≤ 64 by omega)]
  rfl
theorem eqv_nil (ds : List PyData) : PyData.eqv (.list ds) (.list []) = ds.isEmpty := by
  cases ds with
  | nil => rfl
  | cons d ds => rw [PyData.eqv]; rfl
theorem its_az {its : List (Addr × Addr × List Nat × List Nat)} {c : List Nat} (h : its.map (·.2.2) = eldO c) (hz : AZ c) : ∀ b ∈ its, AZ b.2.2.1 := fun b m => by
  have hm : b.2.2 ∈ eldO c := by rw [← h]; exact List.mem_map.mpr ⟨b, m, rfl⟩
  obtain ⟨p, e⟩ := eldO_mem hm
  rw [e]
  exact (hz.drop _).take _
def spElders : Sp := fun vs H Q _ => ∃ c : List Nat, vs = [tx c] ∧ 1 ≤ c.length ∧ c.length ≤ 800000 ∧ ∀ (a : Addr) (its : List (Addr × Addr × List Nat × List Nat)) (H' : Hp), Same H H' → H a = none → H' a = some (.lst (refs its)) →
  (∀ b ∈ its, EldAt H H' b) → (∀ b ∈ its, b.1 ≠ a ∧ b.2.1 ≠ a) → its.map (·.2.2) = eldO c → Q (.ref a) H'
section
variable {P : Program} {w : World} {K : PySem.W.Frag} {mg : Str → Option Value} {base : Heap}
theorem ok_elders (D : Def K mg "elders" s_elders) (B : Blt mg) (c_elder_last : Dfn P w K mg base CX0 1 "elder_last" spElderLast) (c_is_called : Dfn P w K mg base CX0 2 "is_called" spIsCalled) : Dfn P w K mg base CX0 3 "elders" spElders := by
  refine def_ok D sc_elders (fun _ _ _ _ _ _ us hl => match us, hl with | [_], _ => rfl) (fun vs H Q E h => ?_) (fun cdv A fr s H vs Q E f hr h => ?_)
  · obtain ⟨c, rfl, _⟩ := h
    rfl
  obtain ⟨c, rfl, hc1, hc2, q⟩ := h
  refine ⟨_, (pss_cons (ps_set (i := 1) sc_elders.nd rfl (Or.inl rfl) pe_dnewK)
      (Evl.pss_cut (ps_if (pt_cmpR op_eqI (pe_op op_mod (pe_callB call_lenT (by rfl) B.len (by decide +kernel) (pa_cons (pv 0) pa_nil)) pe_int) pe_int (nomark _))
        (pss_cons (ps_set (i := 2) sc_elders.nd rfl (Or.inl rfl) (pe_d c_elder_last hr (pa_cons (pv 0) pa_nil)))
        (pss_one (ps_for PassesOwn.never rfl (pi_range1 rfl B.range (pa_cons (pe_op op_add (pv 2) pe_int) pa_nil)) (pg_name (i := 3) sc_elders.nd rfl (Or.inl rfl))
          (pss_one (ps_if (pt_val (pe_d c_is_called hr (pa_cons (pv 0) (pa_cons (pv 3) pa_nil))))
            (pss_one (ps_expr (pe_bm PySem.F.plainAttrs_list PySem.F.slot_list_append PySem.F.type_list_append mt_append (pe_dsetd (pv 1) (pe_slice sl_tx (pv 0) (po_some (pv 3)) (po_some (pe_op op_add (pe_op op_add (pv 3) (pv 2)) pe_int))) (pe_lst pa_nil) ⟨rfl, rfl, rfl, rfl⟩) (pa_cons (pv 3) pa_nil))))
            pss_nil)))))
        pss_nil)
      (pss_one (ps_ret (LiI.pe_listItems rfl (pv 1) (by rfl) B.list (by rfl)))))), ?_⟩
  intro d nd
  refine ⟨fun σ' H' => ∃ (v2 v3 : Option V) (its : List (Key × Addr × List Nat)) (kvs : List (Key × V)) (ks : List (Key × List Nat)), σ' = [some (tx c), some (.ref d), v2, v3] ∧ H' d = some (.dK kvs) ∧ TabL H H' its kvs ks ∧ ks = (eldO c).map (fun e => (kT e.1, e.2)) ∧ Same H H', ?_, ?_⟩
  · refine ⟨_, rfl, _, rfl, len_le (by omega), _, _, rfl, rfl, (by show (0 : Int) < 2; decide), _, _, rfl, rfl, _, rfl, ite2 (fun h => ?_) (fun h => ?_)⟩
    · have h1 : c.length % 2 = 1 := by
        have z : (c.length : Int) % 2 = 1 := of_decide_eq_true h
        omega
      obtain ⟨n, hn⟩ : ∃ n, c.length = 2 * n + 1 := ⟨(c.length - 1) / 2, by omega⟩
      have hn2 : (c.length - 1) / 2 = n := by omega
      refine ⟨_, rfl, c, rfl, hc1, by omega, ?_⟩
      dsimp only
      rw [hn2]
      refine ⟨_, rfl, _, _, rfl, rfl, _, rfl, by omega, by omega, for_range (lo := 0) (n := ((n : Int) + 1).toNat) (fun i σ' H' => ∃ (v3 : Option V) (its : List (Key × Addr × List Nat)) (kvs : List (Key × V)), σ' = [some (tx c), some (.ref d), some (.int (n : Int)), v3] ∧
        H' d = some (.dK kvs) ∧ TabL H H' its kvs (grpL (fun p => kT (rowAt c n p)) ((List.range i).filter fun p => decide (El c n p))) ∧ Same H H') ⟨none, [], [], rfl, upd_same, TabL.nil, .new nd⟩ (fun i σ' H' hi z => ?_) (fun σ' H' z => ?_)⟩
      · obtain ⟨v3, its, kvs, rfl, hd, T, sH⟩ := z
        have hin : i ≤ n := by omega
        refine ⟨_, rfl, _, rfl, c, n, i, (by rw [Int.zero_add]), hn, hin, by omega, _, rfl, ?_⟩
        have er : List.range (i + 1) = List.range i ++ [i] := List.range_succ
        by_cases k : El c n i
        · refine iteT' (decide_eq_true k) ?_
          have eg : grpL (fun p => kT (rowAt c n p)) ((List.range (i + 1)).filter fun p => decide (El c n p)) = putP (fun p => kT (rowAt c n p)) (grpL (fun p => kT (rowAt c n p)) ((List.range i).filter fun p => decide (El c n p))) i := by
            rw [er, List.filter_append, ← grpL_snoc]
            simp [k]
          have nks := grpL_nodup (fun p => kT (rowAt c n p)) ((List.range i).filter fun p => decide (El c n p))
          have lks := grpL_len (fun p => kT (rowAt c n p)) ((List.range i).filter fun p => decide (El c n p))
          have lks2 := List.length_filter_le (fun p => decide (El c n p)) (List.range i)
          rw [List.length_range] at lks2
          have hgl : ∀ (k : Key) (g : List Nat), look (grpL (fun p => kT (rowAt c n p)) ((List.range i).filter fun p => decide (El c n p))) k = some g → g.length ≤ i := fun k g h => Nat.le_trans (grpL_look _ h) lks2
          generalize grpL (fun p => kT (rowAt c n p)) ((List.range i).filter fun p => decide (El c n p)) = ks at eg nks lks T hgl
          refine ⟨_, rfl, _, rfl, .inl ⟨kvs, .inl hd⟩, _, rfl, _, rfl, _, rfl, _, rfl, _, rfl, _, _, rfl, rfl, _, _, rfl, rfl, _, rfl, _, rfl, len_le (by omega), len_le (by decide), fun p1 n1 => ?_⟩
          have hd1 : upd H' p1 (.lst []) d = some (.dK kvs) := by
            rw [upd_ne (ne_of_none hd n1)]
            exact hd
          have s1 : Same H' (upd H' p1 (.lst [])) := .new n1
          have T1 := T.same s1
          have hrow : cut c (some (0 + (i : Int))) (some (0 + (i : Int) + (n : Int) + 1)) = rowAt c n i := by
            rw [cut_midI _ (by omega) (by omega)]
            unfold rowAt
            congr 1
            · omega
            · congr 1
              omega
          rw [hrow]
          refine ⟨kvs, kT (rowAt c n i), hd1, rfl, len_lt (by rw [T.len]; omega), fun v hv => ?_, fun hv => ?_⟩
          · obtain ⟨a, g, rfl, hl, na, ha, T2⟩ := T1.old nks hv
            have hda : a ≠ d := fun e => by rw [e, hd1] at ha; cases ha
            refine ⟨.inl ⟨rfl, _, sq_new ha⟩, _, rfl, a, nums g, _, rfl, rfl, ha, ?_, ?_⟩
            · rw [nums_len]
              exact len_lt (by have := hgl _ _ hl; omega)
            · obtain ⟨its', T3⟩ := T2 i
              have e9 : nums g ++ [V.int (0 + (i : Int))] = nums (g ++ [i]) := by rw [nums_app, Int.zero_add]; rfl
              rw [e9]
              refine ⟨_, its', kvs, rfl, ?_, ?_, ?_⟩
              · rw [upd_ne (Ne.symm hda)]
                exact hd1
              · rw [eg]
                unfold putP
                rw [hl]
                exact T3
              · intro x y e
                rw [upd_ne (ne_of_none e na)]
                exact s1 _ _ (sH _ _ e)
          · obtain ⟨hl, T2⟩ := T.add hv
            refine ⟨.inl ⟨rfl, [], sq_new ?_⟩, _, rfl, p1, [], _, rfl, rfl, ?_, by decide, ?_⟩
            · rw [upd_ne (ne_of_none hd n1).symm, upd_same]
            · rw [upd_ne (ne_of_none hd n1).symm, upd_same]
            · have nH : H p1 = none := L2.Same.free sH n1
              have hne : ∀ e ∈ its, e.2.1 ≠ p1 ∧ e.2.1 ≠ d := fun e m => ⟨ne_of_none (T.at_ e m) n1, fun z => by
                have := T.at_ e m
                rw [z, hd] at this
                cases this⟩
              have e9 : ([] : List V) ++ [V.int (0 + (i : Int))] = nums [i] := by rw [Int.zero_add]; rfl
              rw [e9]
              obtain ⟨its', T3⟩ := T2 p1 i n1 nH (upd (upd (upd H' p1 (.lst [])) d (.dK (putK kvs (kT (rowAt c n i)) (.ref p1)))) p1 (.lst (nums [i]))) (fun e m => by rw [upd_ne (hne e m).1, upd_ne (hne e m).2, upd_ne (hne e m).1]) upd_same
              refine ⟨_, its', putK kvs (kT (rowAt c n i)) (.ref p1), rfl, ?_, ?_, ?_⟩
              · rw [upd_ne (ne_of_none hd n1), upd_same]
              · rw [eg]
                unfold putP
                rw [hl]
                exact T3
              · intro x y e
                rw [upd_ne (ne_of_none e nH), upd_ne (ne_of_none e nd), upd_ne (ne_of_none e nH)]
                exact sH _ _ e
        · refine iteF' (decide_eq_false k) ?_
          refine ⟨_, its, kvs, rfl, hd, ?_, sH⟩
          have eg : (List.range (i + 1)).filter (fun p => decide (El c n p)) = (List.range i).filter fun p => decide (El c n p) := by
            rw [er, List.filter_append]
            simp [k]
          rw [eg]
          exact T
      · obtain ⟨v3, its, kvs, rfl, hd, T, sH⟩ := z
        refine ⟨_, _, its, kvs, _, rfl, hd, T, ?_, sH⟩
        unfold eldO
        rw [if_pos h1, hn2]
        unfold eldL pls
        rw [show ((n : Int) + 1).toNat = n + 1 by omega]
        exact grpL_keys kT_inj _ _
    · have h1 : ¬ c.length % 2 = 1 := fun z => h (decide_eq_true (by show (c.length : Int) % 2 = 1; omega))
      refine ⟨_, _, [], [], [], rfl, upd_same, TabL.nil, ?_, .new nd⟩
      unfold eldO
      rw [if_neg h1]
      rfl
  · rintro σ' H3 ⟨v2, v3, its, kvs, ks, rfl, hd, T, hks, sH⟩
    refine ⟨_, rfl, d, kvs, rfl, hd, fun H4 p ts s4 np nts pn hp hts => ?_⟩
    rw [T.kv] at hts
    have hks2 := T.ks.symm.trans hks
    have s4' : Same H3 H4 := s4
    obtain ⟨bs, b1, b2, b3, b4⟩ := eld_items (H0 := H) hts hks2 (fun t m => L2.Same.free sH (nts t m)) (fun e m => ⟨T.new e m, s4' _ _ (T.at_ e m)⟩)
    refine q p bs H4 (sH.trans s4') (L2.Same.free sH np) (by rw [← b1]; exact hp) b3 (fun b m => ?_) b2
    obtain ⟨z1, e, z2, z3⟩ := b4 b m
    refine ⟨fun z => pn (by rw [← z]; exact z1), fun z => ?_⟩
    have := T.at_ e z2
    rw [← z3, z, np] at this
    cases this
end

/-! ### _law_repeated -/
theorem sc_law_repeated : FnScope ["_law_word_here", "_law_many"] ["_law_word_here", "_law_many"] (defScope s_law_repeated) := ⟨rfl, rfl, rfl, by decide +kernel, rfl, by decide +kernel, by decide +kernel⟩
/-- the first m letters of w, repeated without end -/
def repW (w : List Nat) (m : Nat) : List Nat := (List.replicate (m / w.length + 1) w).flatten.take m
theorem repW_len {w : List Nat} (hw : 1 ≤ w.length) (m : Nat) : (repW w m).length = m := by
  unfold repW
  rw [List.length_take, rep_len]
  have h1 := Nat.mod_add_div m w.length
  have h2 := Nat.mod_lt m hw
  have h3 : (m / w.length + 1) * w.length = w.length * (m / w.length) + w.length := by rw [Nat.add_mul, Nat.one_mul, Nat.mul_comm]
  omega
theorem repW_az {w : List Nat} (h : AZ w) (m : Nat) : AZ (repW w m) := (h.rep _).take _
def spRepeated : Sp := fun vs H Q _ => ∃ (l : List Nat) (m : Nat), vs = [tx l, .int (m : Int)] ∧ 1 ≤ l.length ∧ l.length ≤ 10000 ∧ m ≤ 100000 ∧ Q (tx (repW l m)) H
section
variable {P : Program} {w : World} {K : PySem.W.Frag} {mg : Str → Option Value} {base : Heap}
theorem ok__law_repeated (D : Def K mg "_law_repeated" s_law_repeated) (B : Blt mg) : Dfn P w K mg base CX0 1 "_law_repeated" spRepeated := by
  refine def_ok D sc_law_repeated (fun _ _ _ _ _ _ us hl => match us, hl with | [_, _], _ => rfl) (fun vs H Q E h => ?_) (fun cdv A fr s H vs Q E f hr h => ?_)
  · obtain ⟨l, m, rfl, _⟩ := h
    rfl
  obtain ⟨l, m, rfl, h1, h2, h3, q⟩ := h
  refine ⟨_, (pss_one (ps_ret (pe_slice sl_tx (pe_op op_repT (pv 0) (pe_op op_add (pe_op op_fdivW (pv 1) (pe_callB call_lenT (by rfl) B.len (by decide +kernel) (pa_cons (pv 0) pa_nil))) pe_int)) po_none (po_some (pv 1))))), ?_⟩
  have e : (m : Int) / (l.length : Int) + 1 = ((m / l.length + 1 : Nat) : Int) := by
    rw [Int.natCast_add, Int.natCast_ediv]
    rfl
  have h4 : m / l.length ≤ m := Nat.div_le_self _ _
  have h5 : (m / l.length + 1) * l.length = l.length * (m / l.length) + l.length := by rw [Nat.add_mul, Nat.one_mul, Nat.mul_comm]
  have h6 : l.length * (m / l.length) ≤ m := Nat.mul_div_le _ _
  refine ⟨_, rfl, _, rfl, _, rfl, _, rfl, len_le (by omega), _, _, rfl, rfl, ⟨by omega, lg (by omega) (by omega)⟩, _, _, rfl, rfl, ?_⟩
  dsimp only
  rw [e]
  have h7 : ((m / l.length + 1 : Nat) : Int) ≤ 16777216 := by
    have : m / l.length + 1 ≤ 16777216 := by omega
    exact le24 this
  refine ⟨_, _, rfl, rfl, Int.natCast_nonneg _, h7, len_le ?_, _, rfl, _, rfl, _, rfl, len_le ?_, ?_⟩
  · rw [Int.toNat_natCast, Nat.mul_comm]
    omega
  · rw [Int.toNat_natCast, rep_len]
    omega
  · rw [Int.toNat_natCast, cut_to]
    exact q
end

/-! ### _law_root -/
theorem sc_law_root : FnScope ["_law_text", "_law_size"] ["_law_text"] (defScope s_law_root) := ⟨rfl, rfl, rfl, by decide +kernel, rfl, by decide +kernel, by decide +kernel⟩
theorem rep_iff {l : List Nat} {s : Nat} (h1 : 1 ≤ s) (h2 : s ≤ l.length) (hd : s ∣ l.length) : (List.replicate (l.length / s) (l.take s)).flatten = l ↔ Rt l s := by
  have per : ∀ (k : Nat) (w : List Nat), ∀ i, i + w.length < k * w.length → ((List.replicate k w).flatten)[i]? = ((List.replicate k w).flatten)[i + w.length]? := by
    intro k w
    induction k with
    | zero =>
      intro i hi
      rw [Nat.zero_mul] at hi
      omega
    | succ k ih =>
      intro i hi
      rw [Nat.succ_mul] at hi
      rw [List.replicate_succ, List.flatten_cons, List.getElem?_append_right (l₁ := w) (i := i + w.length) (by omega), Nat.add_sub_cancel]
      by_cases c : i < w.length
      · rw [List.getElem?_append_left c]
        cases k with
        | zero => rw [Nat.zero_mul] at hi; omega
        | succ k => rw [List.replicate_succ, List.flatten_cons, List.getElem?_append_left c]
      · rw [List.getElem?_append_right (by omega), ih (i - w.length) (by omega)]
        congr 1
        omega
  have ht : (l.take s).length = s := by rw [List.length_take]; omega
  have hk : l.length / s * s = l.length := Nat.div_mul_cancel hd
  constructor
  · intro e
    refine ⟨h1, hd, fun i hi => ?_⟩
    have z := per (l.length / s) (l.take s) i (by rw [ht, hk]; omega)
    rw [e, ht] at z
    exact z
  · intro R
    have hl : (List.replicate (l.length / s) (l.take s)).flatten.length = l.length := by rw [rep_len, ht, hk]
    have p1 : PerC (fun i => l[i]?) 0 l.length s := PerOn.c fun j _ h => R.eq j h
    have p2 : PerC (fun i => ((List.replicate (l.length / s) (l.take s)).flatten)[i]?) 0 l.length s := PerOn.c fun j _ h => by
      have z := per (l.length / s) (l.take s) j (by rw [ht, hk]; omega)
      rw [ht] at z
      exact z
    apply List.ext_getElem?
    intro i
    by_cases c : i < l.length
    · have hm : i % s < s := Nat.mod_lt _ h1
      have a1 : l[i]? = l[i % s]? := p1 i (i % s) (by omega) c (by omega) (by omega) (Nat.mod_mod _ _).symm
      have a2 : ((List.replicate (l.length / s) (l.take s)).flatten)[i]? = ((List.replicate (l.length / s) (l.take s)).flatten)[i % s]? := p2 i (i % s) (by omega) c (by omega) (by omega) (Nat.mod_mod _ _).symm
      rw [a1, a2]
      cases hk2 : l.length / s with
      | zero => rw [hk2, Nat.zero_mul] at hk; omega
      | succ k => rw [List.replicate_succ, List.flatten_cons, List.getElem?_append_left (by rw [ht]; exact hm), List.getElem?_take_of_lt hm]
    · rw [List.getElem?_eq_none (by omega), List.getElem?_eq_none (by omega)]
theorem rt_le {l : List Nat} {s : Nat} (h : Rt l s) (hl : 1 ≤ l.length) : s ≤ l.length := Nat.le_of_dvd hl h.dvd
def spRoot : Sp := fun vs H Q _ => ∃ l : List Nat, vs = [tx l] ∧ 1 ≤ l.length ∧ l.length ≤ 100000 ∧ (∀ s, IsRoot l s → Q (tx (l.take s)) H)
section
variable {P : Program} {w : World} {K : PySem.W.Frag} {mg : Str → Option Value} {base : Heap}
theorem ok__law_root (D : Def K mg "_law_root" s_law_root) (B : Blt mg) : Dfn P w K mg base CX0 1 "_law_root" spRoot := by
  refine def_ok D sc_law_root (fun _ _ _ _ _ _ us hl => match us, hl with | [_], _ => rfl) (fun vs H Q E h => ?_) (fun cdv A fr s H vs Q E f hr h => ?_)
  · obtain ⟨l, rfl, _⟩ := h
    rfl
  obtain ⟨l, rfl, h1, h2, q⟩ := h
  refine ⟨_, (pss_cons (ps_for PassesOwn.never rfl (pi_range2 (by rfl) B.range (pa_cons pe_int (pa_cons (pe_callB call_lenT (by rfl) B.len (by decide +kernel) (pa_cons (pv 0) pa_nil)) pa_nil))) (pg_name (i := 1) sc_law_root.nd rfl (Or.inl rfl))
        (pss_one (ps_if (PW.pt (pw_and (pt_cmpR op_eqI (pe_op op_mod (pe_callB call_lenT (by rfl) B.len (by decide +kernel) (pa_cons (pv 0) pa_nil)) (pv 1)) pe_int (nomark _)) (pw_and1 (pt_cmpR op_eqT (pe_op op_repT (pe_slice sl_tx (pv 0) po_none (po_some (pv 1))) (pe_op op_fdivW (pe_callB call_lenT (by rfl) B.len (by decide +kernel) (pa_cons (pv 0) pa_nil)) (pv 1))) (pv 0) (nomark _)))))
          (pss_one (ps_ret (pe_slice sl_tx (pv 0) po_none (po_some (pv 1)))))
          pss_nil)))
      (pss_one (ps_ret (pv 0)))), ?_⟩
  refine ⟨_, rfl, _, rfl, len_le (by omega), _, _, rfl, ⟨by decide, by decide, by omega, by omega⟩, for_range (lo := 1) (n := ((l.length : Int) - 1).toNat) (fun i σ' H' => ∃ v1 : Option V, σ' = [some (tx l), v1] ∧ H' = H ∧ ∀ g, Rt l g → 1 + i ≤ g) ⟨none, rfl, rfl, fun g G => by have := G.pos; omega⟩ (fun i σ' H' hi z => ?_) (fun σ' H' z => ?_)⟩
  · obtain ⟨v1, rfl, rfl, hg⟩ := z
    have e1 : (l.length : Int) % (1 + (i : Int)) = ((l.length % (1 + i) : Nat) : Int) := by
      rw [show (1 + (i : Int)) = ((1 + i : Nat) : Int) by omega]
      exact (Int.natCast_emod _ _).symm
    have e2 : (l.length : Int) / (1 + (i : Int)) = ((l.length / (1 + i) : Nat) : Int) := by
      rw [show (1 + (i : Int)) = ((1 + i : Nat) : Int) by omega]
      exact (Int.natCast_ediv _ _).symm
    have h5 : l.length / (1 + i) * (1 + i) ≤ l.length := Nat.div_mul_le_self _ _
    refine ⟨_, rfl, _, rfl, len_le (by omega), _, rfl, _, _, rfl, rfl, (by show (0 : Int) < 1 + (i : Int); omega), _, _, rfl, rfl, _, rfl, ite2 (fun k1 => ?_) (fun k1 => iteF ?_)⟩
    · have d1 : (1 + i) ∣ l.length := by
        have z : (l.length : Int) % (1 + (i : Int)) = 0 := of_decide_eq_true k1
        rw [e1] at z
        exact Nat.dvd_of_mod_eq_zero (by omega)
      refine ⟨_, rfl, _, rfl, _, rfl, _, rfl, len_le (by omega), _, rfl, _, rfl, len_le (by omega), _, rfl, _, _, rfl, rfl, ⟨by omega, lg (by omega) (by omega)⟩, ?_⟩
      dsimp only
      rw [cut_toI _ (by omega), e2, show (1 + (i : Int)).toNat = 1 + i by omega]
      have h6 : l.length / (1 + i) ≤ l.length := Nat.div_le_self _ _
      have h7 : ((l.length / (1 + i) : Nat) : Int) ≤ 16777216 := by
        have : l.length / (1 + i) ≤ 16777216 := by omega
        exact le24 this
      refine ⟨_, _, rfl, rfl, Int.natCast_nonneg _, h7, len_le ?_, _, rfl, _, _, rfl, rfl, ?_⟩
      · rw [Int.toNat_natCast, List.length_take, Nat.min_eq_left (by omega), Nat.mul_comm]
        omega
      rw [Int.toNat_natCast]
      refine ⟨_, rfl, ite2 (fun k2 => ?_) (fun k2 => ?_)⟩
      · have R := (rep_iff (l := l) (s := 1 + i) (by omega) (by omega) d1).mp (of_decide_eq_true k2)
        refine ⟨_, rfl, _, rfl, _, rfl, _, rfl, len_le (by omega), ?_⟩
        rw [cut_toI _ (by omega), show (1 + (i : Int)).toNat = 1 + i by omega]
        exact q _ ⟨R, hg⟩
      · refine ⟨_, rfl, rfl, fun g G => ?_⟩
        have := hg g G
        by_cases c : g = 1 + i
        · subst c
          exact (k2 (decide_eq_true ((rep_iff (by omega) (by omega) d1).mpr G))).elim
        · omega
    · refine ⟨_, rfl, rfl, fun g G => ?_⟩
      have := hg g G
      by_cases c : g = 1 + i
      · subst c
        refine (k1 (decide_eq_true ?_)).elim
        show (l.length : Int) % (1 + (i : Int)) = 0
        rw [e1, Nat.mod_eq_zero_of_dvd G.dvd]
        rfl
      · omega
  · obtain ⟨v1, rfl, rfl, hg⟩ := z
    refine ⟨_, rfl, ?_⟩
    have z := q l.length ⟨rt_self h1, fun g G => by have := hg g G; have := rt_le G h1; omega⟩
    rw [List.take_length] at z
    exact z
end

/-! ### _law_twins -/
theorem sc_law_twins : FnScope ["_law_case", "_law_word_here", "_law_one", "_law_other", "_law_last", "_law_first"] ["_law_case"] (defScope s_law_twins) := ⟨rfl, rfl, rfl, by decide +kernel, rfl, by decide +kernel, by decide +kernel⟩
def twA (w : List Nat) (b z : Nat) : List Nat := repW w b ++ repW w (z - b + 1)
theorem twA_len {w : List Nat} {b z : Nat} (hw : 1 ≤ w.length) (h : b ≤ z) : (twA w b z).length = z + 1 := by
  unfold twA
  rw [List.length_append, repW_len hw, repW_len hw]
  omega
theorem twA_az {w : List Nat} (h : AZ w) (b z : Nat) : AZ (twA w b z) := (repW_az h _).app (repW_az h _)
def caseV (w : List Nat) (a b z : Nat) : List V := [tx w, .int (a : Int), .int (b : Int), .int (z : Int)]
def spTwins (K : PySem.W.Frag) : Sp := fun vs H Q _ => ∃ (t : Addr) (l : List Nat) (a b z : Nat), vs = [.ref t] ∧ SqT K H t (caseV l a b z) ∧ 1 ≤ l.length ∧ l.length ≤ 10000 ∧ a ≤ z ∧ b ≤ z ∧ z ≤ 90000 ∧
  ∀ p : Addr, H p = none → Q (.ref p) (upd H p (.tup [tx (twA l b z), tx (twA l a z)]))
section
variable {P : Program} {w : World} {K : PySem.W.Frag} {mg : Str → Option Value} {base : Heap}
theorem ok__law_twins (D : Def K mg "_law_twins" s_law_twins) (c__law_repeated : Dfn P w K mg base CX0 1 "_law_repeated" spRepeated) : Dfn P w K mg base CX0 2 "_law_twins" (spTwins K) := by
  refine def_ok D sc_law_twins (fun _ _ _ _ _ _ us hl => match us, hl with | [_], _ => rfl) (fun vs H Q E h => ?_) (fun cdv A fr s H vs Q E f hr h => ?_)
  · obtain ⟨t, l, a, b, z, rfl, _⟩ := h
    rfl
  obtain ⟨t, l, a, b, z, rfl, hS, h1, h2, h3, h4, h5, q⟩ := h
  refine ⟨_, (pss_cons (ps_asg (pv 0) (pg_tup (by rfl) (pgs_cons (pg_name (i := 1) sc_law_twins.nd rfl (Or.inl rfl)) (pgs_cons (pg_name (i := 2) sc_law_twins.nd rfl (Or.inl rfl)) (pgs_cons (pg_name (i := 3) sc_law_twins.nd rfl (Or.inl rfl)) (pgs_cons (pg_name (i := 4) sc_law_twins.nd rfl (Or.inl rfl)) pgs_nil))))))
      (pss_cons (ps_set (i := 5) sc_law_twins.nd rfl (Or.inl rfl) (pe_op op_catT (pe_d c__law_repeated hr (pa_cons (pv 1) (pa_cons (pv 3) pa_nil))) (pe_d c__law_repeated hr (pa_cons (pv 1) (pa_cons (pe_op op_add (pe_op op_sub (pv 4) (pv 3)) pe_int) pa_nil)))))
      (pss_one (ps_ret (pe_tup (pa_cons (pv 5) (pa_cons (pe_op op_catT (pe_d c__law_repeated hr (pa_cons (pv 1) (pa_cons (pv 2) pa_nil))) (pe_d c__law_repeated hr (pa_cons (pv 1) (pa_cons (pe_op op_add (pe_op op_sub (pv 4) (pv 2)) pe_int) pa_nil)))) pa_nil))))))), ?_⟩
  refine ⟨_, rfl, t, _, rfl, hS, rfl, _, _, rfl, _, _, rfl, _, _, rfl, _, _, rfl, rfl, ?_⟩
  refine ⟨_, rfl, _, rfl, l, b, rfl, h1, h2, by omega, _, rfl, _, rfl, _, rfl, _, _, rfl, rfl, _, _, rfl, rfl, l, z - b + 1, ?_, h1, h2, by omega, _, _, rfl, rfl, ?_, ?_⟩
  · have : (z : Int) - (b : Int) + 1 = ((z - b + 1 : Nat) : Int) := by omega
    dsimp only
    rw [this]
  · rw [repW_len h1, repW_len h1]
    exact len_le (by omega)
  refine ⟨_, rfl, _, rfl, _, rfl, l, a, rfl, h1, h2, by omega, _, rfl, _, rfl, _, rfl, _, _, rfl, rfl, _, _, rfl, rfl, l, z - a + 1, ?_, h1, h2, by omega, _, _, rfl, rfl, ?_, (by show 2 ≤ sizeLine; decide), fun p np => ?_⟩
  · have : (z : Int) - (a : Int) + 1 = ((z - a + 1 : Nat) : Int) := by omega
    dsimp only
    rw [this]
  · rw [repW_len h1, repW_len h1]
    exact len_le (by omega)
  · exact q p np
end

/-! ### _law_twin_case -/
theorem sc_law_twin_case : FnScope ["_law_bag_here", "_law_most", "_law_size", "_law_shift", "_law_start", "_law_letters", "_law_text", "_law_k", "_law_word_here", "_law_one", "_law_other", "_law_least", "_law_last"] ["_law_bag_here", "_law_most"] (defScope s_law_twin_case) := ⟨rfl, rfl, rfl, by decide +kernel, rfl, by decide +kernel, by decide +kernel⟩
theorem AZ.one {c : Nat} {l : List Nat} (h : AZ l) (m : c ∈ l) : AZ [c] := fun d hd => by
  rw [List.mem_singleton.mp hd]
  exact h c m
def spTwinCase : Sp := fun vs H Q _ => ∃ (b c : Addr) (m : Int), vs = [.ref b, .int m] ∧ Bag H b c ∧ 0 ≤ m ∧ m ≤ 5000 ∧ ∀ (t : Addr) (l : List Nat) (x y z : Nat) (H' : Hp), H t = none → H' t = some (.tup (caseV l x y z)) → 1 ≤ l.length → l.length ≤ 6 → l.length ≤ z → AZ l → 1 ≤ x → x < y → y ≤ z → (z : Int) ≤ 60 + m →
  Drew b c H H' → Q (.ref t) H'
section
variable {P : Program} {w : World} {K : PySem.W.Frag} {mg : Str → Option Value} {base : Heap}
theorem ok__law_twin_case (D : Def K mg "_law_twin_case" s_law_twin_case) (B : Blt mg) (c__law_take : Dfn P w K mg base CX0 1 "_law_take" spTake) (c__law_root : Dfn P w K mg base CX0 1 "_law_root" spRoot) : Dfn P w K mg base CX0 2 "_law_twin_case" spTwinCase := by
  refine def_ok D sc_law_twin_case (fun _ _ _ _ _ _ us hl => match us, hl with | [_, _], _ => rfl) (fun vs H Q E h => ?_) (fun cdv A fr s H vs Q E f hr h => ?_)
  · obtain ⟨b, c, n, rfl, _⟩ := h
    rfl
  obtain ⟨b, c, m, rfl, B0, hm1, hm2, q⟩ := h
  refine ⟨_, (pss_cons (ps_set (i := 2) sc_law_twin_case.nd rfl (Or.inl rfl) (pe_op op_add pe_int (pe_d c__law_take hr (pa_cons (pv 0) (pa_cons pe_int pa_nil)))))
      (pss_cons (ps_set (i := 3) sc_law_twin_case.nd rfl (Or.inl rfl) (pe_op op_add pe_int (pe_d c__law_take hr (pa_cons (pv 0) (pa_cons (pe_op op_sub (pv 2) pe_int) pa_nil)))))
      (pss_cons (ps_set (i := 4) sc_law_twin_case.nd rfl (Or.inl rfl) (pe_d c__law_take hr (pa_cons (pv 0) (pa_cons pe_int pa_nil))))
      (pss_cons (ps_set (i := 5) sc_law_twin_case.nd rfl (Or.inr rfl) (pe_slice sl_tx (pe_tx [97, 98, 99, 100, 101, 102, 103, 104, 105, 106, 107, 108, 109, 110, 111, 112, 113, 114, 115, 116, 117, 118, 119, 120, 121, 122]) (po_some (pv 4)) (po_some (pe_op op_add (pv 4) pe_int))))
      (pss_cons (ps_set (i := 6) sc_law_twin_case.nd rfl (Or.inl rfl) (pe_joinE (pe_tx []) (pe_lc (own := [("_law_k", 7)]) (g := gName 7) rfl sc_law_twin_case.nd (pi_range1 rfl B.range (pa_cons (pv 2) pa_nil)) (blkOk_by (own := [("_law_k", 7)]) (N := ["_law_bag_here", "_law_most", "_law_size", "_law_shift", "_law_start", "_law_letters", "_law_text", "_law_k", "_law_word_here", "_law_one", "_law_other", "_law_least", "_law_last"]) (sc := defScope s_law_twin_case) (by decide +kernel)) (fun _ _ _ _ _ => (pg_name (i := 7) sc_law_twin_case.nd rfl (Or.inl rfl))) (fun _ _ _ _ _ => pts_nil) (fun _ _ _ _ _ => (pe_ix ix_tx (pv 5) (pe_d c__law_take hr (pa_cons (pv 0) (pa_cons pe_int pa_nil))) (fun _ _ => rfl))))))
      (pss_cons (ps_set (i := 8) sc_law_twin_case.nd rfl (Or.inl rfl) (pe_op op_catT (pe_op op_catT (pe_slice sl_tx (pv 6) po_none (po_some (pv 3))) (pe_ix ix_tx (pv 6) pe_int (fun _ _ => rfl))) (pe_slice sl_tx (pv 6) (po_some (pe_op op_add (pv 3) pe_int)) po_none)))
      (Evl.pss_cut (ps_if (pt_cmpR op_neT (pe_d c__law_root hr (pa_cons (pv 8) pa_nil)) (pv 8) (nomark _))
        (pss_cons (ps_set (i := 8) sc_law_twin_case.nd rfl (Or.inl rfl) (pe_op op_catT (pe_op op_repT (pe_ix ix_tx (pv 5) pe_int (fun _ _ => rfl)) (pe_op op_add (pv 3) pe_int)) (pe_op op_repT (pe_ix ix_tx (pv 5) pe_int (fun _ _ => rfl)) (pe_op op_sub (pe_op op_sub (pv 2) (pv 3)) pe_int))))
        (pss_one (ps_if (pt_cmpR op_eqI (pv 3) (pe_op op_sub (pv 2) pe_int) (nomark _))
          (pss_one (ps_set (i := 8) sc_law_twin_case.nd rfl (Or.inl rfl) (pe_op op_catT (pe_op op_catT (pe_ix ix_tx (pv 5) pe_int (fun _ _ => rfl)) (pe_op op_repT (pe_ix ix_tx (pv 5) pe_int (fun _ _ => rfl)) (pe_op op_sub (pv 2) pe_int))) (pe_ix ix_tx (pv 5) pe_int (fun _ _ => rfl)))))
          pss_nil)))
        pss_nil)
      (pss_cons (ps_set (i := 9) sc_law_twin_case.nd rfl (Or.inl rfl) (pe_op op_add (pv 3) (pe_op op_mul (pv 2) (pe_d c__law_take hr (pa_cons (pv 0) (pa_cons pe_int pa_nil))))))
      (pss_cons (ps_set (i := 10) sc_law_twin_case.nd rfl (Or.inl rfl) (pe_op op_add (pv 9) (pe_op op_mul (pv 2) (pe_op op_add pe_int (pe_d c__law_take hr (pa_cons (pv 0) (pa_cons pe_int pa_nil)))))))
      (pss_cons (ps_set (i := 11) sc_law_twin_case.nd rfl (Or.inl rfl) (pe_op op_mul pe_int (pv 9)))
      (pss_cons (ps_while PassesOwn.never (pt_cmpR op_lt (pv 11) (pv 10) (nomark _))
        (pss_one (ps_set (i := 11) sc_law_twin_case.nd rfl (Or.inl rfl) (pe_op op_add (pv 11) (pv 2)))))
      (pss_cons (ps_while PassesOwn.never (pt_cmpR op_ge (pe_op op_sub (pv 11) (pv 2)) (pv 10) (nomark _))
        (pss_one (ps_set (i := 11) sc_law_twin_case.nd rfl (Or.inl rfl) (pe_op op_sub (pv 11) (pv 2)))))
      (pss_cons (ps_set (i := 12) sc_law_twin_case.nd rfl (Or.inl rfl) (pe_op op_add (pv 11) (pe_op op_mul (pv 2) (pe_d c__law_take hr (pa_cons (pv 0) (pa_cons (pe_op op_add pe_int (pe_op op_fdivW (pe_callB (call_max2 rfl) (by rfl) B.max (by decide +kernel) (pa_cons pe_int (pa_cons (pe_op op_sub (pv 1) (pv 11)) pa_nil))) (pv 2))) pa_nil))))))
      (pss_one (ps_ret (pe_tup (pa_cons (pv 8) (pa_cons (pv 9) (pa_cons (pv 10) (pa_cons (pv 12) pa_nil)))))))))))))))))))), ?_⟩
  refine ⟨_, rfl, b, c, 4, rfl, B0, by decide, by decide, fun v1 H1 l1 u1 d1 => ⟨_, _, rfl, rfl, ?_⟩⟩
  refine ⟨_, rfl, _, rfl, _, _, rfl, rfl, b, c, 3 + v1 - 1, rfl, d1.bag, by omega, lg (by omega) (by omega), fun v2 H2 l2 u2 d2 => ⟨_, _, rfl, rfl, ?_⟩⟩
  refine ⟨_, rfl, b, c, 24, rfl, d2.bag, by decide, by decide, fun v3 H3 l3 u3 d3 => ?_⟩
  have d03 := (d1.trans d2).trans d3
  refine ⟨_, rfl, _, rfl, _, rfl, _, _, rfl, rfl, _, rfl, _, rfl, (by show 26 ≤ sizeLine; decide), ?_⟩
  rw [cut_midI _ (by omega) (by omega)]
  generalize hlt : (List.drop v3.toNat [97, 98, 99, 100, 101, 102, 103, 104, 105, 106, 107, 108, 109, 110, 111, 112, 113, 114, 115, 116, 117, 118, 119, 120, 121, 122]).take ((v3 + 3).toNat - v3.toNat) = lt
  have ltl : lt.length = 3 := by
    rw [← hlt, List.length_take, List.length_drop]
    show min _ (26 - _) = 3
    omega
  have ltz : AZ lt := by
    rw [← hlt]
    exact (alph_az.drop _).take _
  refine ⟨⟨_, rfl⟩, _, rfl, _, rfl, (by omega), (by omega), fun Dl nD => ?_⟩
  refine lc_range (lo := 0) (n := (3 + v1).toNat) (fun i H' => ∃ cs : List Nat, cs.length = i ∧ AZ cs ∧ H' Dl = some (.lst ((cs.map fun c => [c]).map tx)) ∧ Drew b c H3 H') ⟨[], rfl, (fun c m => by cases m), upd_same, (Drew.refl d3.bag).new nD⟩ (fun i H' hi z => ?_) (fun H' z => ?_)
  · obtain ⟨cs, hcs, hz, hD, d8⟩ := z
    refine ⟨rfl, yes ?_⟩
    refine ⟨_, rfl, _, rfl, b, c, 3, rfl, d8.bag, by decide, by decide, fun v9 H9 l9 u9 d9 => ?_⟩
    have hv : v9.toNat < lt.length := by omega
    refine ⟨_, _, _, rfl, rfl, len_le (by omega), at_nat (j := v9.toNat) (by omega) (List.getElem?_eq_getElem hv), _, d9.but _ _ (d3.bag.ne nD) hD, ?_, ?_⟩
    · rw [List.length_map, List.length_map]
      exact len_lt (by omega)
    · refine ⟨cs ++ [lt[v9.toNat]], by rw [List.length_append, hcs]; rfl, hz.app (ltz.one (List.getElem_mem hv)), ?_, (d8.trans d9).mut d3.bag nD⟩
      rw [upd_same, List.map_append, List.map_append]
      rfl
  obtain ⟨cs, hcs, hz, hD, d8⟩ := z
  refine ⟨Dl, _, rfl, rfl, sq_new hD, by rw [flat_one]; omega, ?_⟩
  rw [flat_one]
  have d04 := d03.trans d8
  clear hD d8
  have hcl : (cs.length : Int) = 3 + v1 := by omega
  have hc0 : 0 < cs.length := by omega
  refine ⟨_, rfl, _, rfl, _, rfl, _, rfl, len_le (by omega), _, rfl, _, _, _, rfl, rfl, len_le (by omega), at_nat (j := 0) rfl (List.getElem?_eq_getElem hc0), _, _, rfl, rfl, ?_, _, rfl, _, rfl, _, _, rfl, rfl, _, rfl, _, rfl, len_le (by omega), _, _, rfl, rfl, ?_, ?_⟩
  · rw [cut_toI _ (by omega), List.length_take]
    exact len_le (by rw [List.length_singleton]; omega)
  · rw [cut_toI _ (by omega), cut_fromI _ (by omega), List.length_append, List.length_take, List.length_drop]
    exact len_le (by rw [List.length_singleton]; omega)
  rw [cut_toI _ (by omega), cut_fromI _ (by omega)]
  generalize hw0 : List.take (1 + v2).toNat cs ++ [cs[0]] ++ List.drop (1 + v2 + 1).toNat cs = w0
  have w0l : w0.length = cs.length := by
    rw [← hw0, List.length_append, List.length_append, List.length_take, List.length_drop, List.length_singleton]
    omega
  have w0z : AZ w0 := by
    rw [← hw0]
    exact ((hz.take _).app (hz.one (List.getElem_mem hc0))).app (hz.drop _)
  clear hw0
  refine ⟨fun σ' H9 => ∃ (l : List Nat) (v7 : Option V), σ' = [some (.ref b), some (.int m), some (.int (3 + v1)), some (.int (1 + v2)), some (.int v3), some (tx lt), some (tx cs), v7, some (tx l), none, none, none, none] ∧ (l.length : Int) = 3 + v1 ∧ AZ l ∧ H9 = H', ?_, ?_⟩
  · refine ⟨_, rfl, w0, rfl, by omega, by omega, fun s hs => ?_⟩
    refine ⟨_, rfl, _, _, rfl, rfl, _, rfl, ite2 (fun _ => ?_) (fun _ => ?_)⟩
    · have i0 : 0 < lt.length := by omega
      have i1 : 1 < lt.length := by omega
      refine ⟨_, rfl, _, _, _, rfl, rfl, len_le (by omega), at_nat (j := 0) rfl (List.getElem?_eq_getElem i0), _, rfl, _, _, rfl, rfl, _, _, rfl, rfl, by omega, by omega, len_le (by rw [List.length_singleton]; omega), ?_⟩
      refine ⟨_, rfl, _, _, _, rfl, rfl, len_le (by omega), at_nat (j := 1) rfl (List.getElem?_eq_getElem i1), _, rfl, _, rfl, _, _, rfl, rfl, _, _, rfl, rfl, _, _, rfl, rfl, by omega, by omega, len_le (by rw [List.length_singleton]; omega), _, _, rfl, rfl, ?_, ?_⟩
      · rw [rep_len, rep_len, List.length_singleton, List.length_singleton]
        exact len_le (by omega)
      refine ⟨_, rfl, _, rfl, _, _, rfl, rfl, _, _, rfl, rfl, _, rfl, ite2 (fun _ => ?_) (fun _ => ?_)⟩
      · refine ⟨_, rfl, _, _, _, rfl, rfl, len_le (by omega), at_nat (j := 0) rfl (List.getElem?_eq_getElem i0), _, rfl, _, _, _, rfl, rfl, len_le (by omega), at_nat (j := 1) rfl (List.getElem?_eq_getElem i1), _, rfl, _, _, rfl, rfl, _, _, rfl, rfl, by omega, by omega, len_le (by rw [List.length_singleton]; omega), _, _, rfl, rfl, ?_, ?_⟩
        · rw [rep_len, List.length_singleton, List.length_singleton]
          exact len_le (by omega)
        refine ⟨_, rfl, _, _, _, rfl, rfl, len_le (by omega), at_nat (j := 0) rfl (List.getElem?_eq_getElem i0), _, _, rfl, rfl, ?_, _, _, rfl, ?_, ?_, rfl⟩
        · rw [List.length_append, rep_len, List.length_singleton, List.length_singleton]
          exact len_le (by omega)
        · rw [List.length_append, List.length_append, rep_len, List.length_singleton, List.length_singleton]
          omega
        · exact ((ltz.one (List.getElem_mem i0)).app ((ltz.one (List.getElem_mem i1)).rep _)).app (ltz.one (List.getElem_mem i0))
      · refine ⟨_, _, rfl, ?_, ?_, rfl⟩
        · rw [List.length_append, rep_len, rep_len, List.length_singleton, List.length_singleton]
          omega
        · exact ((ltz.one (List.getElem_mem i0)).rep _).app ((ltz.one (List.getElem_mem i1)).rep _)
    · exact ⟨w0, _, rfl, by omega, w0z, rfl⟩
  · rintro σ' H9 ⟨l, v7, rfl, wl, wz, rfl⟩
    refine ⟨_, rfl, _, rfl, _, rfl, b, c, 4, rfl, d04.bag, by decide, by decide, fun v4 H4 l4 u4 d4 => ⟨_, _, rfl, rfl, mulS (by omega) (by omega), _, _, rfl, rfl, ?_⟩⟩
    refine ⟨_, rfl, _, rfl, _, rfl, b, c, 2, rfl, d4.bag, by decide, by decide, fun v5 H5 l5 u5 d5 => ⟨_, _, rfl, rfl, _, _, rfl, rfl, mulS (by omega) (by omega), _, _, rfl, rfl, ?_⟩⟩
    have d05 := (d04.trans d4).trans d5
    dsimp only
    have s1 : 3 ≤ 3 + v1 := by omega
    have s2 : 3 + v1 ≤ 6 := by omega
    have h1 : 1 + v2 < 3 + v1 := by omega
    have h0 : 1 ≤ 1 + v2 := by omega
    have p1 : 0 ≤ (3 + v1) * v4 := Int.mul_nonneg (by omega) l4
    have p2 : (3 + v1) * v4 ≤ 6 * 3 := Int.mul_le_mul s2 (by omega) l4 (by decide)
    have p3 : (3 + v1) * 1 ≤ (3 + v1) * (1 + v5) := Int.mul_le_mul_of_nonneg_left (by omega) (by omega)
    have p4 : (3 + v1) * (1 + v5) ≤ 6 * 2 := Int.mul_le_mul s2 (by omega) (by omega) (by decide)
    generalize (3 + v1) * v4 = m1 at p1 p2 ⊢
    generalize (3 + v1) * (1 + v5) = m2 at p3 p4 ⊢
    generalize 3 + v1 = sz at s1 s2 h1 p3 wl ⊢
    generalize 1 + v2 = sh at h1 h0 ⊢
    obtain ⟨one, ho⟩ : ∃ one : Int, sh + m1 = one := ⟨_, rfl⟩
    rw [ho]
    obtain ⟨oth, ht⟩ : ∃ oth : Int, one + m2 = oth := ⟨_, rfl⟩
    rw [ht]
    refine ⟨_, rfl, _, _, rfl, rfl, mulS (by omega) (by omega), ?_⟩
    dsimp only
    refine ⟨fun k σ' H9 => ∃ le : Int, σ' = [some (.ref b), some (.int m), some (.int sz), some (.int sh), some (.int v3), some (tx lt), some (tx cs), v7, some (tx l), some (.int one), some (.int oth), some (.int le), none] ∧ H9 = H5 ∧ 0 ≤ le ∧ le ≤ 46 ∧ k = (100 - le).toNat,
      ⟨_, 2 * one, rfl, rfl, by omega, by omega, rfl⟩, fun k σ' H9 z => ?_⟩
    obtain ⟨le, rfl, rfl, e1, e2, rfl⟩ := z
    refine ⟨_, rfl, _, rfl, _, _, rfl, rfl, _, rfl, ite2 (fun k1 => ?_) (fun k1 => ?_)⟩
    · have k1 : le < oth := of_decide_eq_true k1
      exact ⟨_, fun _ _ h => h, _, rfl, _, rfl, _, _, rfl, rfl, _, (by omega), _, rfl, rfl, by omega, by omega, rfl⟩
    have k1 : ¬ le < oth := fun z => k1 (decide_eq_true z)
    refine ⟨fun k σ' H => ∃ le : Int, σ' = [some (.ref b), some (.int m), some (.int sz), some (.int sh), some (.int v3), some (tx lt), some (tx cs), v7, some (tx l), some (.int one), some (.int oth), some (.int le), none] ∧ H = H9 ∧ oth ≤ le ∧ le ≤ 46 ∧ k = le.toNat,
      ⟨_, le, rfl, rfl, by omega, by omega, rfl⟩, fun k σ' H z => ?_⟩
    obtain ⟨le, rfl, rfl, e1, e2, rfl⟩ := z
    refine ⟨_, rfl, _, rfl, _, _, rfl, rfl, _, rfl, _, _, rfl, rfl, _, rfl, ite2 (fun k2 => ?_) (fun _ => ?_)⟩
    · have k2 : le - sz ≥ oth := of_decide_eq_true k2
      exact ⟨_, fun _ _ h => h, _, rfl, _, rfl, _, _, rfl, rfl, _, (by omega), _, rfl, rfl, by omega, by omega, rfl⟩
    obtain ⟨mx, hmx, x1, x2⟩ : ∃ mx : Int, (if m - le > 0 then m - le else 0) = mx ∧ 0 ≤ mx ∧ le + mx ≤ 46 + m := by
      by_cases c : m - le > 0
      · exact ⟨m - le, if_pos c, by omega, by omega⟩
      · exact ⟨0, if_neg c, by omega, by omega⟩
    have y1 : 0 ≤ mx / sz := Int.ediv_nonneg x1 (by omega)
    have y2 : sz * (mx / sz) ≤ mx := Int.mul_ediv_self_le (by omega)
    have y3 : mx / sz ≤ mx := Int.ediv_le_self _ x1
    refine ⟨_, rfl, _, rfl, _, rfl, _, rfl, _, rfl, _, _, rfl, rfl, _, _, rfl, _, rfl, _, _, rfl, rfl, ⟨by omega, lg (by omega) (by omega)⟩, _, _, rfl, rfl, ?_⟩
    dsimp only
    rw [hmx]
    refine ⟨b, c, 1 + mx / sz, rfl, d05.bag, by omega, lg (by omega) (by omega), fun v6 H6 l6 u6 d6 => ⟨_, _, rfl, rfl, mulS (by omega) (by omega), _, _, rfl, rfl, ?_⟩⟩
    have z1 : 0 ≤ sz * v6 := Int.mul_nonneg (by omega) l6
    have z2 : sz * v6 ≤ sz * (mx / sz) := Int.mul_le_mul_of_nonneg_left (by omega) (by omega)
    refine ⟨_, rfl, _, rfl, _, rfl, _, rfl, (by show 4 ≤ sizeLine; decide), fun t nt => ?_⟩
    dsimp only
    generalize sz * v6 = m3 at z1 z2 ⊢
    refine q t l one.toNat oth.toNat (le + m3).toNat _ ?_ ?_ (by omega) (by omega) (by omega) wz (by omega) (by omega) (by omega) (by omega) ((d05.trans d6).new nt)
    · exact (d05.trans d6).free nt
    · rw [upd_same]
      unfold caseV
      rw [show ((one.toNat : Nat) : Int) = one by omega, show ((oth.toNat : Nat) : Int) = oth by omega, show (((le + m3).toNat : Nat) : Int) = le + m3 by omega]
end

/-! ### _law_triple_case -/
theorem sc_law_triple_case : FnScope ["_law_bag_here", "_law_one", "_law_more", "_law_front", "_law_k", "_law_middle", "_law_word_here", "_law_many", "_law_other"] ["_law_bag_here"] (defScope s_law_triple_case) := ⟨rfl, rfl, rfl, by decide +kernel, rfl, by decide +kernel, by decide +kernel⟩
theorem ab_az : AZ [97, 98] := by
  unfold AZ
  decide
theorem abc_az : AZ [97, 98, 99] := by
  unfold AZ
  decide
def spTripleCase : Sp := fun vs H Q _ => ∃ (b c : Addr), vs = [.ref b] ∧ Bag H b c ∧ ∀ (t : Addr) (l : List Nat) (x y z : Nat) (H' : Hp), H t = none → H' t = some (.tup (caseV l x y z)) → 1 ≤ l.length → l.length ≤ 12 → AZ l → 1 ≤ x → x < y → x + y ≤ z → z ≤ 60 →
  Drew b c H H' → Q (.ref t) H'
section
variable {P : Program} {w : World} {K : PySem.W.Frag} {mg : Str → Option Value} {base : Heap}
theorem ok__law_triple_case (D : Def K mg "_law_triple_case" s_law_triple_case) (B : Blt mg) (c__law_take : Dfn P w K mg base CX0 1 "_law_take" spTake) (c__law_root : Dfn P w K mg base CX0 1 "_law_root" spRoot) : Dfn P w K mg base CX0 2 "_law_triple_case" spTripleCase := by
  refine def_ok D sc_law_triple_case (fun _ _ _ _ _ _ us hl => match us, hl with | [_], _ => rfl) (fun vs H Q E h => ?_) (fun cdv A fr s H vs Q E f hr h => ?_)
  · obtain ⟨b, c, rfl, _⟩ := h
    rfl
  obtain ⟨b, c, rfl, B0, q⟩ := h
  refine ⟨_, (pss_cons (ps_par (i := 1) (j := 2) (by rfl) sc_law_triple_case.nd rfl rfl (by decide) rfl rfl (pa_cons (pe_op op_add pe_int (pe_d c__law_take hr (pa_cons (pv 0) (pa_cons pe_int pa_nil)))) (pa_cons (pe_op op_add pe_int (pe_d c__law_take hr (pa_cons (pv 0) (pa_cons pe_int pa_nil)))) pa_nil)) (by rfl))
      (pss_cons (ps_set (i := 3) sc_law_triple_case.nd rfl (Or.inl rfl) (pe_joinE (pe_tx []) (pe_lc (own := [("_law_k", 4)]) (g := gName 4) rfl sc_law_triple_case.nd (pi_range1 rfl B.range (pa_cons (pv 1) pa_nil)) (blkOk_by (own := [("_law_k", 4)]) (N := ["_law_bag_here", "_law_one", "_law_more", "_law_front", "_law_k", "_law_middle", "_law_word_here", "_law_many", "_law_other"]) (sc := defScope s_law_triple_case) (by decide +kernel)) (fun _ _ _ _ _ => (pg_name (i := 4) sc_law_triple_case.nd rfl (Or.inl rfl))) (fun _ _ _ _ _ => pts_nil) (fun _ _ _ _ _ => (pe_ix ix_tx (pe_tx [97, 98]) (pe_d c__law_take hr (pa_cons (pv 0) (pa_cons pe_int pa_nil))) (fun _ _ => rfl))))))
      (pss_cons (ps_set (i := 5) sc_law_triple_case.nd rfl (Or.inl rfl) (pe_op op_catT (pe_ix ix_tx (pv 3) pe_int (fun _ _ => rfl)) (pe_joinE (pe_tx []) (pe_lc (own := [("_law_k", 4)]) (g := gName 4) rfl sc_law_triple_case.nd (pi_range1 rfl B.range (pa_cons (pv 2) pa_nil)) (blkOk_by (own := [("_law_k", 4)]) (N := ["_law_bag_here", "_law_one", "_law_more", "_law_front", "_law_k", "_law_middle", "_law_word_here", "_law_many", "_law_other"]) (sc := defScope s_law_triple_case) (by decide +kernel)) (fun _ _ _ _ _ => (pg_name (i := 4) sc_law_triple_case.nd rfl (Or.inl rfl))) (fun _ _ _ _ _ => pts_nil) (fun _ _ _ _ _ => (pe_ix ix_tx (pe_tx [97, 98, 99]) (pe_d c__law_take hr (pa_cons (pv 0) (pa_cons pe_int pa_nil))) (fun _ _ => rfl)))))))
      (pss_cons (ps_set (i := 6) sc_law_triple_case.nd rfl (Or.inl rfl) (pe_op op_catT (pe_op op_catT (pv 3) (pv 5)) (pv 3)))
      (Evl.pss_cut (ps_if (pt_cmpR op_neT (pe_d c__law_root hr (pa_cons (pv 6) pa_nil)) (pv 6) (nomark _))
        (pss_one (ps_set (i := 6) sc_law_triple_case.nd rfl (Or.inl rfl) (pe_op op_catT (pe_op op_catT (pe_op op_repT (pe_tx [97]) (pe_op op_add (pv 1) pe_int)) (pe_op op_repT (pe_tx [98]) (pv 2))) (pe_op op_repT (pe_tx [97]) (pv 1)))))
        pss_nil)
      (pss_cons (ps_set (i := 7) sc_law_triple_case.nd rfl (Or.inl rfl) (pe_op op_add pe_int (pe_d c__law_take hr (pa_cons (pv 0) (pa_cons pe_int pa_nil)))))
      (pss_cons (ps_set (i := 8) sc_law_triple_case.nd rfl (Or.inl rfl) (pe_op op_add (pv 1) (pe_op op_mul (pe_callB call_lenT (by rfl) B.len (by decide +kernel) (pa_cons (pv 6) pa_nil)) (pe_op op_add pe_int (pe_d c__law_take hr (pa_cons (pv 0) (pa_cons (pe_op op_sub (pv 7) pe_int) pa_nil)))))))
      (pss_one (ps_ret (pe_tup (pa_cons (pv 6) (pa_cons (pv 1) (pa_cons (pv 8) (pa_cons (pe_op op_add (pe_op op_mul pe_int (pv 1)) (pe_op op_mul (pe_callB call_lenT (by rfl) B.len (by decide +kernel) (pa_cons (pv 6) pa_nil)) (pv 7))) pa_nil)))))))))))))), ?_⟩
  refine ⟨_, rfl, b, c, 4, rfl, B0, by decide, by decide, fun v1 H1 l1 u1 d1 => ⟨_, _, rfl, rfl, ?_⟩⟩
  refine ⟨_, rfl, b, c, 3, rfl, d1.bag, by decide, by decide, fun v2 H2 l2 u2 d2 => ⟨_, _, rfl, rfl, _, _, rfl, ?_⟩⟩
  have d02 := d1.trans d2
  refine ⟨⟨_, rfl⟩, _, rfl, _, rfl, (by omega), (by omega), fun Dl nD => ?_⟩
  refine lc_range (lo := 0) (n := (1 + v1).toNat) (fun i H' => ∃ cs : List Nat, cs.length = i ∧ AZ cs ∧ H' Dl = some (.lst ((cs.map fun c => [c]).map tx)) ∧ Drew b c H2 H') ⟨[], rfl, (fun c m => by cases m), upd_same, (Drew.refl d2.bag).new nD⟩ (fun i H' hi z => ?_) (fun H' z => ?_)
  · obtain ⟨cs, hcs, hz, hD, d8⟩ := z
    refine ⟨rfl, yes ?_⟩
    refine ⟨_, rfl, b, c, 2, rfl, d8.bag, by decide, by decide, fun v9 H9 l9 u9 d9 => ?_⟩
    have hv : v9.toNat < ([97, 98] : List Nat).length := by show v9.toNat < 2; omega
    refine ⟨_, _, _, rfl, rfl, (by show 2 ≤ sizeLine; decide), at_nat (j := v9.toNat) (by omega) (List.getElem?_eq_getElem hv), _, d9.but _ _ (d2.bag.ne nD) hD, ?_, ?_⟩
    · rw [List.length_map, List.length_map]
      exact len_lt (by omega)
    · refine ⟨cs ++ [([97, 98] : List Nat)[v9.toNat]], by rw [List.length_append, hcs]; rfl, hz.app (fun c m => ?_), ?_, (d8.trans d9).mut d2.bag nD⟩
      · rw [List.mem_singleton.mp m]
        exact ab_az _ (List.getElem_mem hv)
      rw [upd_same, List.map_append, List.map_append]
      rfl
  obtain ⟨cs, hcs, hz, hD, d8⟩ := z
  refine ⟨Dl, _, rfl, rfl, sq_new hD, by rw [flat_one]; omega, ?_⟩
  rw [flat_one]
  have d03 := d02.trans d8
  clear hD d8
  have hcl : (cs.length : Int) = 1 + v1 := by omega
  have hc0 : 0 < cs.length := by omega
  refine ⟨_, rfl, _, _, _, rfl, rfl, len_le (by omega), at_nat (j := 0) rfl (List.getElem?_eq_getElem hc0), ?_⟩
  refine ⟨⟨_, rfl⟩, _, rfl, _, rfl, (by omega), (by omega), fun Dm nM => ?_⟩
  refine lc_range (lo := 0) (n := (1 + v2).toNat) (fun i H9 => ∃ cs : List Nat, cs.length = i ∧ AZ cs ∧ H9 Dm = some (.lst ((cs.map fun c => [c]).map tx)) ∧ Drew b c H' H9) ⟨[], rfl, (fun c m => by cases m), upd_same, (Drew.refl d03.bag).new nM⟩ (fun i H9 hi z => ?_) (fun H9 z => ?_)
  · obtain ⟨cs, hcs, hz, hD, d8⟩ := z
    refine ⟨rfl, yes ?_⟩
    refine ⟨_, rfl, b, c, 3, rfl, d8.bag, by decide, by decide, fun v9 H8 l9 u9 d9 => ?_⟩
    have hv : v9.toNat < ([97, 98, 99] : List Nat).length := by show v9.toNat < 3; omega
    refine ⟨_, _, _, rfl, rfl, (by show 3 ≤ sizeLine; decide), at_nat (j := v9.toNat) (by omega) (List.getElem?_eq_getElem hv), _, d9.but _ _ (d03.bag.ne nM) hD, ?_, ?_⟩
    · rw [List.length_map, List.length_map]
      exact len_lt (by omega)
    · refine ⟨cs ++ [([97, 98, 99] : List Nat)[v9.toNat]], by rw [List.length_append, hcs]; rfl, hz.app (fun c m => ?_), ?_, (d8.trans d9).mut d03.bag nM⟩
      · rw [List.mem_singleton.mp m]
        exact abc_az _ (List.getElem_mem hv)
      rw [upd_same, List.map_append, List.map_append]
      rfl
  obtain ⟨ms, hms, hmz, hM, d8⟩ := z
  refine ⟨Dm, _, rfl, rfl, sq_new hM, by rw [flat_one]; omega, ?_⟩
  rw [flat_one]
  have d04 := d03.trans d8
  clear hM d8
  have hml : (ms.length : Int) = 1 + v2 := by omega
  refine ⟨_, _, rfl, rfl, len_le (by rw [List.length_singleton]; omega), ?_⟩
  have mz : AZ ([cs[0]] ++ ms) := (hz.one (List.getElem_mem hc0)).app hmz
  have ml : ([cs[0]] ++ ms).length = ms.length + 1 := by rw [List.length_append, List.length_singleton]; omega
  generalize [cs[0]] ++ ms = md at mz ml
  refine ⟨_, rfl, _, rfl, _, _, rfl, rfl, len_le (by omega), _, rfl, _, _, rfl, rfl, len_le (by rw [List.length_append]; omega), ?_⟩
  have wz : AZ (cs ++ md ++ cs) := (hz.app mz).app hz
  have wl : (cs ++ md ++ cs).length = 2 * cs.length + ms.length + 1 := by rw [List.length_append, List.length_append]; omega
  generalize cs ++ md ++ cs = w0 at wz wl
  refine ⟨fun σ' H' => ∃ (l : List Nat) (v4 : Option V), σ' = [some (.ref b), some (.int (1 + v1)), some (.int (1 + v2)), some (tx cs), v4, some (tx md), some (tx l), none, none] ∧ l.length = 2 * cs.length + ms.length + 1 ∧ AZ l ∧ H' = H9, ?_, ?_⟩
  · refine ⟨_, rfl, w0, rfl, by omega, by omega, fun s hs => ?_⟩
    refine ⟨_, rfl, _, _, rfl, rfl, _, rfl, ite2 (fun _ => ?_) (fun _ => ⟨w0, _, rfl, wl, wz, rfl⟩)⟩
    refine ⟨_, rfl, _, _, rfl, rfl, _, _, rfl, rfl, by omega, by omega, len_le (by rw [List.length_singleton]; omega), _, rfl, _, _, rfl, rfl, by omega, by omega, len_le (by rw [List.length_singleton]; omega), _, _, rfl, rfl, ?_, _, rfl, _, _, rfl, rfl, by omega, by omega, len_le (by rw [List.length_singleton]; omega), _, _, rfl, rfl, ?_, _, _, rfl, ?_, ?_, rfl⟩
    · rw [rep_len, rep_len, List.length_singleton, List.length_singleton]
      exact len_le (by omega)
    · rw [List.length_append, rep_len, rep_len, rep_len, List.length_singleton, List.length_singleton]
      exact len_le (by omega)
    · rw [List.length_append, List.length_append, rep_len, rep_len, rep_len, List.length_singleton, List.length_singleton]
      omega
    · have a1 : AZ [97] := ab_az.one (by simp)
      have b1 : AZ [98] := ab_az.one (by simp)
      exact ((a1.rep _).app (b1.rep _)).app (a1.rep _)
  · rintro σ' H' ⟨l, v4, rfl, ll, lz, rfl⟩
    refine ⟨_, rfl, b, c, 2, rfl, d04.bag, by decide, by decide, fun v5 H5 l5 u5 d5 => ⟨_, _, rfl, rfl, ?_⟩⟩
    refine ⟨_, rfl, _, rfl, _, rfl, len_le (by omega), _, rfl, _, rfl, _, _, rfl, rfl, b, c, 2 + v5 - 1, rfl, d5.bag, by omega, lg (by omega) (by omega), fun v6 H6 l6 u6 d6 => ⟨_, _, rfl, rfl, _, _, rfl, rfl, mulS (by omega) (by omega), _, _, rfl, rfl, ?_⟩⟩
    refine ⟨_, rfl, _, rfl, _, rfl, _, rfl, _, _, rfl, rfl, mulS (by omega) (by omega), _, rfl, _, rfl, len_le (by omega), _, rfl, _, _, rfl, rfl, mulS (by omega) (by omega), _, _, rfl, rfl, (by show 4 ≤ sizeLine; decide), fun t nt => ?_⟩
    have d06 := (d04.trans d5).trans d6
    dsimp only
    have p1 : (l.length : Int) * (1 + v6) ≤ (l.length : Int) * (2 + v5 - 1) := Int.mul_le_mul_of_nonneg_left (by omega) (by omega)
    have p2 : (l.length : Int) * 1 ≤ (l.length : Int) * (1 + v6) := Int.mul_le_mul_of_nonneg_left (by omega) (by omega)
    have p3 : (l.length : Int) * (2 + v5) = (l.length : Int) * (2 + v5 - 1) + (l.length : Int) := by
      have e := Int.mul_add (l.length : Int) (2 + v5 - 1) 1
      rw [Int.mul_one, show (2 + v5 - 1 + 1 : Int) = 2 + v5 by omega] at e
      exact e
    have p4 : (l.length : Int) * (2 + v5) ≤ 12 * 3 := Int.mul_le_mul (by omega) (by omega) (by omega) (by decide)
    generalize (l.length : Int) * (1 + v6) = m1 at p1 p2 ⊢
    generalize (l.length : Int) * (2 + v5) = m2 at p3 p4 ⊢
    generalize (l.length : Int) * (2 + v5 - 1) = m3 at p1 p3
    refine q t l (1 + v1).toNat (1 + v1 + m1).toNat (2 * (1 + v1) + m2).toNat _ (d06.free nt) ?_ (by omega) (by omega) lz (by omega) (by omega) (by omega) (by omega) (d06.new nt)
    rw [upd_same]
    unfold caseV
    rw [show (((1 + v1).toNat : Nat) : Int) = 1 + v1 by omega, show (((1 + v1 + m1).toNat : Nat) : Int) = 1 + v1 + m1 by omega, show (((2 * (1 + v1) + m2).toNat : Nat) : Int) = 2 * (1 + v1) + m2 by omega]
end

/-! ### _law_place -/
theorem sc_law_place : FnScope ["_law_bag_here", "_law_last"] ["_law_bag_here", "_law_last"] (defScope s_law_place) := ⟨rfl, rfl, rfl, by decide +kernel, rfl, by decide +kernel, by decide +kernel⟩
def spPlace : Sp := fun vs H Q _ => ∃ (b c : Addr) (n : Nat), vs = [.ref b, .int (n : Int)] ∧ Bag H b c ∧ n ≤ 1000000 ∧ ∀ (p : Nat) (H' : Hp), p ≤ n → Drew b c H H' → Q (.int (p : Int)) H'
section
variable {P : Program} {w : World} {K : PySem.W.Frag} {mg : Str → Option Value} {base : Heap}
theorem ok__law_place (D : Def K mg "_law_place" s_law_place) (c__law_take : Dfn P w K mg base CX0 1 "_law_take" spTake) : Dfn P w K mg base CX0 2 "_law_place" spPlace := by
  refine def_ok D sc_law_place (fun _ _ _ _ _ _ us hl => match us, hl with | [_, _], _ => rfl) (fun vs H Q E h => ?_) (fun cdv A fr s H vs Q E f hr h => ?_)
  · obtain ⟨b, c, n, rfl, _⟩ := h
    rfl
  obtain ⟨b, c, n, rfl, B0, hn, q⟩ := h
  refine ⟨_, (pss_one (ps_ret (pe_ix ix_list (pe_lst (pa_cons pe_int (pa_cons (pv 1) (pa_cons (pe_op op_fdivW (pv 1) pe_int) (pa_cons (pe_d c__law_take hr (pa_cons (pv 0) (pa_cons (pe_op op_add (pv 1) pe_int) pa_nil))) (pa_cons (pe_d c__law_take hr (pa_cons (pv 0) (pa_cons (pe_op op_add (pv 1) pe_int) pa_nil))) pa_nil)))))) (pe_d c__law_take hr (pa_cons (pv 0) (pa_cons pe_int pa_nil))) (fun _ _ => rfl)))), ?_⟩
  have n1 : (1 : Int) ≤ (n : Int) + 1 := by omega
  have n2 : ((n : Int) + 1).natAbs.log2 < 9000 := lg n1 (by omega)
  refine ⟨_, rfl, _, rfl, _, _, rfl, rfl, ⟨by decide, by decide⟩, _, rfl, _, rfl, _, _, rfl, rfl, b, c, (n : Int) + 1, rfl, B0, n1, n2, fun v1 H1 l1 u1 d1 => ?_⟩
  refine ⟨_, rfl, _, rfl, _, _, rfl, rfl, b, c, (n : Int) + 1, rfl, d1.bag, n1, n2, fun v2 H2 l2 u2 d2 => ⟨(by show 5 ≤ sizeLine; decide), fun l nl => ?_⟩⟩
  have d3 := (d1.trans d2).new (o := .lst [.int 0, .int (n : Int), .int ((n : Int) / 2), .int v1, .int v2]) nl
  refine ⟨_, rfl, b, c, 5, rfl, d3.bag, by decide, by decide, fun v3 H3 l3 u3 d4 => ?_⟩
  have d5 := d3.trans d4
  have hl : H3 l = some (.lst [.int 0, .int (n : Int), .int ((n : Int) / 2), .int v1, .int v2]) := d4.but _ _ ((d1.trans d2).bag.ne nl) upd_same
  obtain ⟨j, hj⟩ : ∃ j : Nat, v3 = (j : Int) := ⟨v3.toNat, by omega⟩
  obtain ⟨p, hp, e⟩ : ∃ p : Nat, p ≤ n ∧ [V.int 0, V.int (n : Int), V.int ((n : Int) / 2), V.int v1, V.int v2][j]? = some (.int (p : Int)) := by
    rcases (show j = 0 ∨ j = 1 ∨ j = 2 ∨ j = 3 ∨ j = 4 by omega) with e | e | e | e | e
    · exact ⟨0, by omega, by rw [e]; rfl⟩
    · exact ⟨n, by omega, by rw [e]; rfl⟩
    · exact ⟨n / 2, by omega, by rw [e]; rfl⟩
    · exact ⟨v1.toNat, by omega, by rw [e, show ((v1.toNat : Nat) : Int) = v1 by omega]; rfl⟩
    · exact ⟨v2.toNat, by omega, by rw [e, show ((v2.toNat : Nat) : Int) = v2 by omega]; rfl⟩
  exact ⟨_, _, _, _, rfl, rfl, sq_new hl, at_nat hj e, q p H3 hp d5⟩
end

/-! ### _law_wide -/
theorem sc_law_wide : FnScope ["_law_bag_here", "_law_case", "_law_by", "_law_wide_here", "_law_letter"] ["_law_bag_here", "_law_case"] (defScope s_law_wide) := ⟨rfl, rfl, rfl, by decide +kernel, rfl, by decide +kernel, by decide +kernel⟩
theorem widen_len (l : List Nat) (k : Nat) : (l.map fun c => List.replicate k c).flatten.length = l.length * k := by
  induction l with
  | nil => simp
  | cons c r ih =>
    rw [List.map_cons, List.flatten_cons, List.length_append, ih, List.length_replicate, List.length_cons, Nat.succ_mul, Nat.add_comm]
theorem rep_one (k c : Nat) : (List.replicate k [c]).flatten = List.replicate k c := by
  induction k with
  | zero => rfl
  | succ k ih =>
    rw [List.replicate_succ, List.flatten_cons, ih, List.replicate_succ]
    rfl
theorem Bag.tne {H : Hp} {b c k : Addr} {xs : List V} (h : Bag H b c) (hk : H k = some (.tup xs)) : k ≠ b := by
  obtain ⟨cs, x0, x1, x2, B⟩ := h
  intro e
  rw [e, B.at_] at hk
  cases hk
def spWide : Sp := fun vs H Q _ => ∃ (b c cs : Addr) (l : List Nat) (x y z : Nat), vs = [.ref b, .ref cs] ∧ Bag H b c ∧ H cs = some (.tup (caseV l x y z)) ∧ 1 ≤ l.length ∧ l.length ≤ 12 ∧ AZ l ∧ 1 ≤ x ∧ x < y ∧ y ≤ z ∧ z ≤ 60 ∧
  ∀ (t : Addr) (l : List Nat) (x y z : Nat) (H' : Hp), H t = none → H' t = some (.tup (caseV l x y z)) → 1 ≤ l.length → l.length ≤ 6000 → AZ l → 1 ≤ x → x < y → y ≤ z → z ≤ 499 →
  Drew b c H H' → Q (.ref t) H'
section
variable {P : Program} {w : World} {K : PySem.W.Frag} {mg : Str → Option Value} {base : Heap}
theorem ok__law_wide (D : Def K mg "_law_wide" s_law_wide) (c__law_take : Dfn P w K mg base CX0 1 "_law_take" spTake) : Dfn P w K mg base CX0 2 "_law_wide" spWide := by
  refine def_ok D sc_law_wide (fun _ _ _ _ _ _ us hl => match us, hl with | [_, _], _ => rfl) (fun vs H Q E h => ?_) (fun cdv A fr s H vs Q E f hr h => ?_)
  · obtain ⟨b, c, cs, l, x, y, z, rfl, _⟩ := h
    rfl
  obtain ⟨b, c, k, l, x, y, z, rfl, B0, hk, w1, w2, wz, x1, x2, x3, x4, q⟩ := h
  refine ⟨_, (pss_cons (ps_set (i := 2) sc_law_wide.nd rfl (Or.inr rfl) (pe_op op_add pe_int (pe_d c__law_take hr (pa_cons (pv 0) (pa_cons (pe_op op_fdivW pe_int (pe_ix ix_tup (pv 1) pe_int (fun _ _ => rfl))) pa_nil)))))
      (pss_cons (ps_set (i := 3) sc_law_wide.nd rfl (Or.inl rfl) (pe_joinE (pe_tx []) (pe_lc (own := [("_law_letter", 4)]) (g := gName 4) rfl sc_law_wide.nd (pi_str (pe_ix ix_tup (pv 1) pe_int (fun _ _ => rfl))) (blkOk_by (own := [("_law_letter", 4)]) (N := ["_law_bag_here", "_law_case", "_law_by", "_law_wide_here", "_law_letter"]) (sc := defScope s_law_wide) (by decide +kernel)) (fun _ _ _ _ _ => (pg_name (i := 4) sc_law_wide.nd rfl (Or.inl rfl))) (fun _ _ _ _ _ => pts_nil) (fun _ _ _ _ _ => (pe_op op_repT (pv 4) (pv 2))))))
      (pss_one (ps_ret (pe_tup (pa_cons (pv 3) (pa_cons (pe_op op_mul (pe_ix ix_tup (pv 1) pe_int (fun _ _ => rfl)) (pv 2)) (pa_cons (pe_op op_mul (pe_ix ix_tup (pv 1) pe_int (fun _ _ => rfl)) (pv 2)) (pa_cons (pe_op op_mul (pe_ix ix_tup (pv 1) pe_int (fun _ _ => rfl)) (pv 2)) pa_nil))))))))), ?_⟩
  have e : (499 : Int) / (z : Int) = ((499 / z : Nat) : Int) := (Int.natCast_ediv 499 z).symm
  have y1 : 499 / z ≤ 499 := Nat.div_le_self _ _
  have y2 : 499 / z * z ≤ 499 := Nat.div_mul_le_self _ _
  have y3 : 1 ≤ 499 / z := (Nat.le_div_iff_mul_le (by omega)).mpr (by omega)
  refine ⟨_, rfl, _, rfl, _, _, _, _, rfl, rfl, st_new hk, rfl, _, _, rfl, rfl, ⟨by omega, lg (by omega) (by omega)⟩, ?_⟩
  dsimp only
  rw [e]
  generalize 499 / z = dv at y1 y2 y3
  refine ⟨b, c, (dv : Int), rfl, B0, by omega, lg (by omega) (by omega), fun v3 H3 l3 u3 d3 => ⟨_, _, rfl, rfl, ?_⟩⟩
  have hk3 := d3.but _ _ (B0.tne hk) hk
  obtain ⟨by_, hby, b1, b2⟩ : ∃ by_ : Nat, 1 + v3 = (by_ : Int) ∧ 1 ≤ by_ ∧ by_ ≤ dv := ⟨(1 + v3).toNat, by omega, by omega, by omega⟩
  dsimp only
  rw [hby]
  refine ⟨⟨_, rfl⟩, _, rfl, _, _, _, _, rfl, rfl, st_new hk3, rfl, _, rfl, fun Dl nD => ?_⟩
  refine lc_T (fun i H' => Same H3 H' ∧ H' Dl = some (.lst (((l.take i).map fun c => List.replicate by_ c).map tx))) ⟨.new nD, upd_same⟩ (fun i ch H' hi zz => ?_) (fun H' zz => ?_)
  · obtain ⟨s9, h9⟩ := zz
    refine ⟨rfl, yes ?_⟩
    have hil : i < l.length := (List.getElem?_eq_some_iff.mp hi).1
    refine ⟨_, rfl, _, rfl, _, _, rfl, rfl, by omega, by omega, len_le (by rw [List.length_singleton, Int.toNat_natCast]; omega), _, h9, ?_, fun a o e => ?_, ?_⟩
    · rw [List.length_map, List.length_map, List.length_take]
      exact len_lt (by omega)
    · rw [upd_ne (ne_of_none e nD)]
      exact s9 _ _ e
    · rw [upd_same, List.take_add_one, hi, Int.toNat_natCast, rep_one, List.map_append, List.map_append]
      rfl
  obtain ⟨s9, h9⟩ := zz
  rw [List.take_length] at h9
  have hz : AZ (l.map fun c => List.replicate by_ c).flatten := fun c m => by
    obtain ⟨r, h1, h2⟩ := List.mem_flatten.mp m
    obtain ⟨c', h3, rfl⟩ := List.mem_map.mp h1
    rw [List.eq_of_mem_replicate h2]
    exact wz c' h3
  have hl := widen_len l by_
  have hl1 : l.length * by_ ≤ 12 * 499 := Nat.mul_le_mul w2 (by omega)
  have hl2 : 1 * 1 ≤ l.length * by_ := Nat.mul_le_mul w1 b1
  refine ⟨Dl, _, rfl, rfl, sq_new h9, by rw [hl]; omega, ?_⟩
  generalize (l.map fun c => List.replicate by_ c).flatten = wd at hz hl
  have hk4 := s9 _ _ hk3
  refine ⟨_, rfl, _, rfl, _, _, _, _, rfl, rfl, st_new hk4, rfl, _, rfl, _, _, rfl, rfl, mulS (by omega) (by omega), _, rfl, _, _, _, _, rfl, rfl, st_new hk4, rfl, _, rfl, _, _, rfl, rfl, mulS (by omega) (by omega), _, rfl, _, _, _, _, rfl, rfl, st_new hk4, rfl, _, rfl, _, _, rfl, rfl, mulS (by omega) (by omega), (by show 4 ≤ sizeLine; decide), fun t nt => ?_⟩
  have d04 := d3.same s9
  have m1 : 1 * 1 ≤ x * by_ := Nat.mul_le_mul x1 b1
  have m2 : x * by_ < y * by_ := Nat.mul_lt_mul_of_pos_right x2 b1
  have m3 : y * by_ ≤ z * by_ := Nat.mul_le_mul_right _ x3
  have m4 : z * by_ ≤ z * dv := Nat.mul_le_mul_left _ b2
  have m5 : z * dv = dv * z := Nat.mul_comm _ _
  refine q t wd (x * by_) (y * by_) (z * by_) _ (d04.free nt) ?_ (by omega) (by omega) hz (by omega) m2 m3 (by omega) (d04.new nt)
  rw [upd_same]
  unfold caseV
  rw [Int.natCast_mul, Int.natCast_mul, Int.natCast_mul]
end

/-! ### _law_child -/
theorem sc_law_child : FnScope ["_law_bag_here", "_law_way", "_law_case", "_law_row_here", "_law_place_here"] ["_law_bag_here"] (defScope s_law_child) := ⟨rfl, rfl, rfl, by decide +kernel, rfl, by decide +kernel, by decide +kernel⟩
def spChild : Sp := fun vs H Q _ => ∃ (b c : Addr), vs = [.ref b] ∧ Bag H b c ∧ ∀ (r : List Nat) (p : Nat) (H' : Hp), 2 ≤ r.length → r.length ≤ 500 → p < r.length → AZ r → Drew b c H H' → Q (tx (mkRow r p)) H'
section
variable {P : Program} {w : World} {K : PySem.W.Frag} {mg : Str → Option Value} {base : Heap}
theorem ok__law_child (D : Def K mg "_law_child" s_law_child) (B : Blt mg) (c__law_take : Dfn P w K mg base CX0 1 "_law_take" spTake) (c__law_row : Dfn P w K mg base CX0 3 "_law_row" spRow) (c__law_called : Dfn P w K mg base CX0 1 "_law_called" spCalled) (c__law_place : Dfn P w K mg base CX0 2 "_law_place" spPlace)
    (c__law_twin_case : Dfn P w K mg base CX0 2 "_law_twin_case" spTwinCase) (c__law_triple_case : Dfn P w K mg base CX0 2 "_law_triple_case" spTripleCase) (c__law_twins : Dfn P w K mg base CX0 2 "_law_twins" (spTwins K)) (c__law_wide : Dfn P w K mg base CX0 2 "_law_wide" spWide) : Dfn P w K mg base CX0 4 "_law_child" spChild := by
  refine def_ok D sc_law_child (fun _ _ _ _ _ _ us hl => match us, hl with | [_], _ => rfl) (fun vs H Q E h => ?_) (fun cdv A fr s H vs Q E f hr h => ?_)
  · obtain ⟨b, c, rfl, _⟩ := h
    rfl
  obtain ⟨b, c, rfl, B0, q⟩ := h
  refine ⟨_, (pss_cons (ps_set (i := 1) sc_law_child.nd rfl (Or.inl rfl) (pe_d c__law_take hr (pa_cons (pv 0) (pa_cons pe_int pa_nil))))
      (pss_cons (ps_if (pt_cmpR op_lt (pv 1) pe_int (nomark _))
        (pss_cons (ps_set (i := 2) sc_law_child.nd rfl (Or.inl rfl) (pe_ix ix_list (pe_lst (pa_cons (pe_d c__law_twin_case hr (pa_cons (pv 0) (pa_cons pe_int pa_nil))) (pa_cons (pe_d c__law_twin_case hr (pa_cons (pv 0) (pa_cons pe_int pa_nil))) (pa_cons (pe_d c__law_triple_case hr (pa_cons (pv 0) pa_nil)) pa_nil)))) (pv 1) (fun _ _ => rfl)))
        (Evl.pss_cut (ps_if (PW.pt (pw_and (pt_cmpR op_eqI (pv 1) pe_int (nomark _)) (pw_and1 (pt_cmpR op_eqI (pe_d c__law_take hr (pa_cons (pv 0) (pa_cons pe_int pa_nil))) pe_int (nomark _)))))
          (pss_one (ps_set (i := 2) sc_law_child.nd rfl (Or.inl rfl) (pe_d c__law_wide hr (pa_cons (pv 0) (pa_cons (pv 2) pa_nil)))))
          pss_nil)
        (pss_cons (ps_par (i := 3) (j := 4) (by rfl) sc_law_child.nd rfl rfl (by decide) rfl rfl (pa_cons (pe_ix ix_tup (pe_d c__law_twins hr (pa_cons (pv 2) pa_nil)) (pe_d c__law_take hr (pa_cons (pv 0) (pa_cons pe_int pa_nil))) (fun _ _ => rfl)) (pa_cons (pe_ix ix_tup (pv 2) pe_int (fun _ _ => rfl)) pa_nil)) (by rfl))
        (Evl.pss_cut (ps_if (pt_cmpR op_neT (pv 3) (pe_ix ix_tup (pe_d c__law_twins hr (pa_cons (pv 2) pa_nil)) pe_int (fun _ _ => rfl)) (nomark _))
          (pss_one (ps_set (i := 4) sc_law_child.nd rfl (Or.inl rfl) (pe_ix ix_tup (pv 2) pe_int (fun _ _ => rfl))))
          pss_nil)
        (pss_one (ps_ret (pe_d c__law_called hr (pa_cons (pv 3) (pa_cons (pv 4) pa_nil)))))))))
        pss_nil)
      (pss_cons (ps_set (i := 3) sc_law_child.nd rfl (Or.inl rfl) (pe_d c__law_row hr (pa_cons (pv 0) (pa_cons (pe_ix ix_list (pe_lst (pa_cons pe_int (pa_cons pe_int pa_nil))) (pe_op op_sub (pv 1) pe_int) (fun _ _ => rfl)) pa_nil))))
      (pss_one (ps_ret (pe_d c__law_called hr (pa_cons (pv 3) (pa_cons (pe_d c__law_place hr (pa_cons (pv 0) (pa_cons (pe_op op_sub (pe_callB call_lenT (by rfl) B.len (by decide +kernel) (pa_cons (pv 3) pa_nil)) pe_int) pa_nil))) pa_nil)))))))), ?_⟩
  refine ⟨_, rfl, b, c, 5, rfl, B0, by decide, by decide, fun v1 H1 l1 u1 d1 => ?_⟩
  refine ⟨_, rfl, _, _, rfl, rfl, _, rfl, ite2 (fun k3 => ?_) (fun k3 => ?_)⟩
  · have k3 : v1 < 3 := of_decide_eq_true k3
    refine ⟨_, rfl, b, c, 40, rfl, d1.bag, by decide, by decide, fun ta la xa ya za H2 na ha a1 a2 a3 az a4 a5 a6 a7 d2 => ?_⟩
    refine ⟨_, rfl, b, c, 300, rfl, d2.bag, by decide, by decide, fun tb lb xb yb zb H3 nb hb b1 b2 b3 bz b4 b5 b6 b7 d3 => ?_⟩
    refine ⟨_, rfl, b, c, rfl, d3.bag, fun tc lc xc yc zc H4 nc hc c1 c2 cz c4 c5 c6 c7 d4 => ⟨(by show 3 ≤ sizeLine; decide), fun li nli => ?_⟩⟩
    have d04 := ((d1.trans d2).trans d3).trans d4
    have d05 := d04.new (o := .lst [.ref ta, .ref tb, .ref tc]) nli
    have ha4 := (d3.trans d4).but _ _ (d1.bag.ne na) ha
    have hb4 := d4.but _ _ (d2.bag.ne nb) hb
    obtain ⟨j, hj, hj3⟩ : ∃ j : Nat, v1 = (j : Int) ∧ j < 3 := ⟨v1.toNat, by omega, by omega⟩
    obtain ⟨t, l, x, y, z, e, ht, w1, w2, wz, x1, x2, x3, x4, x5⟩ : ∃ (t : Addr) (l : List Nat) (x y z : Nat), [V.ref ta, V.ref tb, V.ref tc][j]? = some (.ref t) ∧ H4 t = some (.tup (caseV l x y z)) ∧ 1 ≤ l.length ∧ l.length ≤ 12 ∧ AZ l ∧ 1 ≤ x ∧ x < y ∧ y ≤ z ∧ z ≤ 400 ∧ (j = 2 → z ≤ 60) := by
      rcases (show j = 0 ∨ j = 1 ∨ j = 2 by omega) with e | e | e <;> subst e
      · exact ⟨ta, la, xa, ya, za, rfl, ha4, a1, by omega, az, a4, a5, a6, by omega, by omega⟩
      · exact ⟨tb, lb, xb, yb, zb, rfl, hb4, b1, by omega, bz, b4, b5, b6, by omega, by omega⟩
      · exact ⟨tc, lc, xc, yc, zc, rfl, hc, c1, c2, cz, c4, c5, by omega, by omega, fun _ => c7⟩
    refine ⟨_, rfl, _, _, _, _, rfl, rfl, sq_new upd_same, at_nat hj e, ?_⟩
    have ht5 : upd H4 li (.lst [.ref ta, .ref tb, .ref tc]) t = some (.tup (caseV l x y z)) := Same.new nli _ _ ht
    refine ⟨fun σ' H' => ∃ (t : Addr) (l : List Nat) (x y z : Nat), σ' = [some (.ref b), some (.int v1), some (.ref t), none, none] ∧ Drew b c H H' ∧ H' t = some (.tup (caseV l x y z)) ∧ 1 ≤ l.length ∧ l.length ≤ 6000 ∧ AZ l ∧ 1 ≤ x ∧ x < y ∧ y ≤ z ∧ z ≤ 499, ?_, ?_⟩
    · have done : ∀ H', Drew b c H H' → H' t = some (.tup (caseV l x y z)) → ∃ (t' : Addr) (l : List Nat) (x y z : Nat), [some (V.ref b), some (.int v1), some (.ref t), none, none] = [some (.ref b), some (.int v1), some (.ref t'), none, none] ∧ Drew b c H H' ∧ H' t' = some (.tup (caseV l x y z)) ∧ 1 ≤ l.length ∧ l.length ≤ 6000 ∧ AZ l ∧ 1 ≤ x ∧ x < y ∧ y ≤ z ∧ z ≤ 499 := fun H' d h => ⟨t, l, x, y, z, rfl, d, h, w1, by omega, wz, x1, x2, x3, by omega⟩
      refine ⟨_, rfl, _, _, rfl, rfl, _, rfl, ?_⟩
      refine ite2 (fun k2 => ?_) (fun _ => iteF (done _ d05 ht5))
      have k2 : v1 = 2 := of_decide_eq_true k2
      refine ⟨_, rfl, b, c, 3, rfl, d05.bag, by decide, by decide, fun v6 H6 l6 u6 d6 => ⟨_, _, rfl, rfl, _, rfl, ?_⟩⟩
      have ht6 := d6.but _ _ (d05.bag.tne ht5) ht5
      refine ite2 (fun _ => ?_) (fun _ => done _ (d05.trans d6) ht6)
      refine ⟨_, rfl, _, rfl, b, c, t, l, x, y, z, rfl, d6.bag, ht6, w1, w2, wz, x1, x2, x3, x5 (by omega), fun t l x y z H7 nt h7 e1 e2 e3 e4 e5 e6 e7 d7 => ?_⟩
      exact ⟨t, l, x, y, z, rfl, (d05.trans d6).trans d7, h7, e1, e2, e3, e4, e5, e6, e7⟩
    · clear ht5 ht w1 w2 wz x1 x2 x3 x4 x5 e d05
      rintro σ' H5 ⟨t, l, x, y, z, rfl, d5, h5, w1, w2, wz, x1, x2, x3, x4⟩
      refine ⟨_, rfl, t, l, x, y, z, rfl, st_new h5, w1, by omega, by omega, by omega, by omega, fun p np => ?_⟩
      have d6 := d5.new (o := .tup [tx (twA l y z), tx (twA l x z)]) np
      have h6 := Same.new (o := .tup [tx (twA l y z), tx (twA l x z)]) np _ _ h5
      refine ⟨_, rfl, b, c, 2, rfl, d6.bag, by decide, by decide, fun v7 H7 l7 u7 d7 => ?_⟩
      have hp7 := d7.but _ _ (d5.bag.ne np) upd_same
      have h7 := d7.but _ _ (d6.bag.tne h6) h6
      have d07 := d6.trans d7
      obtain ⟨r, e, rl, rz⟩ : ∃ r : List Nat, [tx (twA l y z), tx (twA l x z)][v7.toNat]? = some (tx r) ∧ r.length = z + 1 ∧ AZ r := by
        rcases (show v7.toNat = 0 ∨ v7.toNat = 1 by omega) with e | e <;> rw [e]
        · exact ⟨_, rfl, twA_len w1 (by omega), twA_az wz _ _⟩
        · exact ⟨_, rfl, twA_len w1 (by omega), twA_az wz _ _⟩
      refine ⟨_, _, _, _, rfl, rfl, st_new hp7, at_nat (by omega) e, ?_⟩
      refine ⟨_, rfl, _, _, _, _, rfl, rfl, st_new h7, rfl, _, _, rfl, ?_⟩
      refine ⟨fun σ' H' => ∃ p : Nat, σ' = [some (.ref b), some (.int v1), some (.ref t), some (tx r), some (.int (p : Int))] ∧ Drew b c H H' ∧ p ≤ z, ?_, ?_⟩
      · refine ⟨_, rfl, _, rfl, t, l, x, y, z, rfl, st_new h7, w1, by omega, by omega, by omega, by omega, fun p2 np2 => ?_⟩
        refine ⟨_, _, _, _, rfl, rfl, st_new upd_same, rfl, _, _, rfl, rfl, _, rfl, ite2 (fun _ => ?_) (fun _ => ⟨x, rfl, d07.new np2, by omega⟩)⟩
        exact ⟨_, rfl, _, _, _, _, rfl, rfl, st_new (Same.new np2 _ _ h7), rfl, y, rfl, d07.new np2, x3⟩
      · rintro σ' H8 ⟨p3, rfl, d8, hp3⟩
        exact ⟨_, rfl, _, rfl, r, p3, rfl, by omega, by omega, q r p3 _ (by omega) (by omega) (by omega) rz d8⟩
  · have k3 : ¬ v1 < 3 := fun z => k3 (decide_eq_true z)
    refine ⟨_, rfl, (by show 2 ≤ sizeLine; decide), fun li nli => ⟨_, rfl, _, _, rfl, rfl, ?_⟩⟩
    have d05 := d1.new (o := .lst [.int 40, .int 300]) nli
    obtain ⟨m, e, m1, m2⟩ : ∃ m : Int, [V.int 40, V.int 300][(v1 - 3).toNat]? = some (.int m) ∧ 1 ≤ m ∧ m ≤ 300 := by
      rcases (show (v1 - 3).toNat = 0 ∨ (v1 - 3).toNat = 1 by omega) with e | e <;> rw [e]
      · exact ⟨40, rfl, by decide, by decide⟩
      · exact ⟨300, rfl, by decide, by decide⟩
    refine ⟨_, _, _, _, rfl, rfl, sq_new upd_same, at_nat (by omega) e, b, c, m, rfl, d05.bag, m1, by omega, fun l H2 r1 r2 rz d2 => ?_⟩
    have d06 := d05.trans d2
    refine ⟨_, rfl, _, rfl, _, rfl, _, rfl, len_le (by omega), _, _, rfl, rfl, b, c, l.length - 1, ?_, d06.bag, by omega, fun p H3 hp3 d3 => ⟨l, p, rfl, by omega, by omega, q l p _ r1 (by omega) (by omega) rz (d06.trans d3)⟩⟩
    dsimp only
    rw [show (l.length : Int) - 1 = ((l.length - 1 : Nat) : Int) by omega]
end

/-! ### _law_right -/
theorem sc_law_right : FnScope ["_law_row_here", "_law_found", "_law_last", "_law_places_all", "_law_one", "_law_places", "_law_place_here"] ["_law_row_here", "_law_found"] (defScope s_law_right) := ⟨rfl, rfl, rfl, by decide +kernel, rfl, by decide +kernel, by decide +kernel⟩
theorem at_neg1 {α : Type} {xs : List α} {v : α} (h0 : xs ≠ []) (h : xs[xs.length - 1]? = some v) : atI xs (-1) = some v := by
  have hl : 1 ≤ xs.length := by
    cases xs with
    | nil => exact absurd rfl h0
    | cons => simp
  unfold atI ixN
  rw [if_neg (by omega), if_pos (by omega)]
  rw [show ((-1 : Int) + xs.length).toNat = xs.length - 1 by omega]
  exact h
def spRight : Sp := fun vs H Q _ => ∃ (c : List Nat) (n : Nat) (H0 : Hp) (a : Addr) (its : List (Addr × Addr × List Nat × List Nat)), vs = [tx c, .ref a] ∧ c.length = 2 * n + 1 ∧ n ≤ 1000 ∧ H a = some (.lst (refs its)) ∧ (∀ b ∈ its, EldAt H0 H b) ∧ its.map (·.2.2) = eldL c n ∧ ∀ H', Same H H' → Q (.bl true) H'
section
variable {P : Program} {w : World} {K : PySem.W.Frag} {mg : Str → Option Value} {base : Heap}
theorem ok__law_right (D : Def K mg "_law_right" s_law_right) (B : Blt mg) (c__law_called : Dfn P w K mg base CX0 1 "_law_called" spCalled) : Dfn P w K mg base CX0 2 "_law_right" spRight := by
  refine def_ok D sc_law_right (fun _ _ _ _ _ _ us hl => match us, hl with | [_, _], _ => rfl) (fun vs H Q E h => ?_) (fun cdv A fr s H vs Q E f hr h => ?_)
  · obtain ⟨c, n, H0, a, its, rfl, _⟩ := h
    rfl
  obtain ⟨c, n, H0, a, its, rfl, hc, hn, ha, hit, hel, q⟩ := h
  have G := egood hc
  rw [← hel] at G
  have hll : its.length = (its.map (·.2.2)).length := (List.length_map ..).symm
  refine ⟨_, (pss_cons (ps_par (i := 2) (j := 3) (by rfl) sc_law_right.nd rfl rfl (by decide) rfl rfl (pa_cons (pe_op op_fdivW (pe_op op_sub (pe_callB call_lenT (by rfl) B.len (by decide +kernel) (pa_cons (pv 0) pa_nil)) pe_int) pe_int) (pa_cons (pe_lst pa_nil) pa_nil)) (by rfl))
      (pss_cons (ps_for PassesOwn.never rfl (pi_list (pv 1)) (pg_tup (by rfl) (pgs_cons (pg_name (i := 4) sc_law_right.nd rfl (Or.inl rfl)) (pgs_cons (pg_name (i := 5) sc_law_right.nd rfl (Or.inl rfl)) pgs_nil)))
        (pss_cons (ps_if (PW.pt (pw_or (pt_not (pt_val (pe_callB call_isB (by rfl) B.isinstance (by decide +kernel) (pa_cons (pv 4) (pa_cons (pe_bltn (v := .ty "str") (by rfl) B.str (by decide +kernel) rfl) pa_nil))))) (pw_or (pt_not (pt_val (pe_callB call_isB (by rfl) B.isinstance (by decide +kernel) (pa_cons (pv 5) (pa_cons (pe_bltn (v := .ty "list") (by rfl) B.list (by decide +kernel) rfl) pa_nil))))) (pw_or (pt_cmpR (op_eqD hr.units) (pv 5) (pe_lst pa_nil) (nomark _)) (pw_or1 (pt_cmpR op_neI (pe_callB call_lenT (by rfl) B.len (by decide +kernel) (pa_cons (pv 4) pa_nil)) (pe_op op_add (pv 2) pe_int) (nomark _)))))))
          (pss_one (ps_ret pe_bl))
          pss_nil)
        (pss_cons (ps_if (pt_cmpR (op_neD hr.units) (pv 5) (pe_sortedSetN hr (by rfl) B.sorted (by rfl) B.set rfl (pa_cons (pv 5) pa_nil)) (nomark _))
          (pss_one (ps_ret pe_bl))
          pss_nil)
        (pss_cons (ps_for PassesOwn.never rfl (pi_list (pv 5)) (pg_name (i := 6) sc_law_right.nd rfl (Or.inl rfl))
          (pss_one (ps_if (PW.pt (pw_or (pt_cmpR op_notInRg (pv 6) (pe_callTy cr_range1 (by rfl) B.range (by decide +kernel) (pa_cons (pe_op op_add (pv 2) pe_int) pa_nil)) (by rfl)) (pw_or1 (pt_cmpR op_neT (pe_d c__law_called hr (pa_cons (pv 4) (pa_cons (pv 6) pa_nil))) (pv 0) (nomark _)))))
            (pss_one (ps_ret pe_bl))
            pss_nil)))
        (pss_cons (ps_if (PW.pt (pw_and (pt_cmpR op_gt (pe_callB call_len_seq (by rfl) B.len (by decide +kernel) (pa_cons (pv 5) pa_nil)) pe_int (nomark _)) (pw_and1 (PW.pt (pw_or (pt_cmpR op_gt (pe_callB call_len_seq (by rfl) B.len (by decide +kernel) (pa_cons (pv 1) pa_nil)) pe_int (nomark _)) (pw_or (pt_cmpR op_neI (pe_ix ix_list (pv 5) pe_int (fun _ _ => rfl)) pe_int (nomark _)) (pw_or1 (pt_cmpR op_neI (pe_ix ix_list (pv 5) (pe_un un_neg pe_int) (fun _ _ => rfl)) (pv 2) (nomark _)))))))))
          (pss_one (ps_ret pe_bl))
          pss_nil)
        (pss_one (ps_expr (pe_bm PySem.F.plainAttrs_list PySem.F.slot_list_append PySem.F.type_list_append mt_append (pv 3) (pa_cons (pe_ix ix_list (pv 5) pe_int (fun _ _ => rfl)) pa_nil)))))))))
      (pss_cons (ps_if (PW.pt (pw_and (pt_cmpR op_gt (pe_callB call_len_seq (by rfl) B.len (by decide +kernel) (pa_cons (pv 1) pa_nil)) pe_int (nomark _)) (pw_and1 (PW.pt (pw_or (pt_cmpR op_in_seq pe_int (pv 3) (by rfl)) (pw_or1 (pt_cmpR op_in_seq (pv 2) (pv 3) (by rfl))))))))
        (pss_one (ps_ret pe_bl))
        pss_nil)
      (pss_cons (ps_if (PW.pt (pw_and (pt_cmpR op_eqI (pe_callB call_len_seq (by rfl) B.len (by decide +kernel) (pa_cons (pv 1) pa_nil)) pe_int (nomark _)) (pw_and1 (pt_cmpR op_neI (pe_op op_add (pe_ix ix_list (pv 3) pe_int (fun _ _ => rfl)) (pe_ix ix_list (pv 3) pe_int (fun _ _ => rfl))) (pv 2) (nomark _)))))
        (pss_one (ps_ret pe_bl))
        pss_nil)
      (pss_one (ps_ret (pe_and (pe_cmpR op_lt (pe_callB call_len_seq (by rfl) B.len (by decide +kernel) (pa_cons (pv 1) pa_nil)) pe_int (nomark _)) (pe_one (pe_cmpR (op_eqD hr.units) (pv 3) (pe_sortedSetN hr (by rfl) B.sorted (by rfl) B.set rfl (pa_cons (pv 3) pa_nil)) (nomark _)))))))))), ?_⟩
  refine ⟨_, rfl, _, rfl, len_le (by omega), _, _, rfl, rfl, _, _, rfl, rfl, ⟨by decide, by decide⟩, (by show 0 ≤ sizeLine; decide), fun la nla => ⟨_, _, rfl, ?_⟩⟩
  have en : ((c.length : Int) - 1) / 2 = (n : Int) := by omega
  dsimp only
  rw [en]
  have hala : a ≠ la := ne_of_none ha nla
  have hbla : ∀ b ∈ its, b.1 ≠ la ∧ b.2.1 ≠ la := fun b m => ⟨ne_of_none (hit b m).tup nla, ne_of_none (hit b m).lst nla⟩
  refine ⟨_, rfl, _, rfl, ⟨_, sq_new (Same.new nla _ _ ha)⟩, for_list (xs := refs its) (fun i σ' H' => ∃ v4 v5 v6 : Option V, σ' = [some (tx c), some (.ref a), some (.int (n : Int)), some (.ref la), v4, v5, v6] ∧ H' la = some (.lst (nums ((hds (its.map (·.2.2))).take i))) ∧ But la H H') ⟨none, none, none, rfl, upd_same, .new nla⟩ (fun i σ' H' _ z => ?_) (fun i x σ' H' hi z => ?_) (fun σ' H' z => ?_)⟩
  · obtain ⟨_, _, _, _, _, bu⟩ := z
    exact sq_new (bu _ _ hala ha)
  · obtain ⟨v4, v5, v6, rfl, hla, bu⟩ := z
    obtain ⟨b, hb, rfl⟩ := refs_get hi
    have hbm := List.mem_of_getElem? hb
    obtain ⟨r, g, he, g1, g2, g3, g4, g5⟩ : ∃ r g, b.2.2 = (r, g) ∧ r.length = n + 1 ∧ g ≠ [] ∧ g.Pairwise (· < ·) ∧ (∀ p ∈ g, p ≤ n ∧ mkRow r p = c) ∧ (1 < g.length → its.length = 1 ∧ g[0]? = some 0 ∧ g[g.length - 1]? = some n) := by
      obtain ⟨a1, a2, a3, a4, a5⟩ := G.each b.2.2 (List.mem_map.mpr ⟨b, hbm, rfl⟩)
      rw [← hll] at a5
      exact ⟨_, _, rfl, a1, a2, a3, a4, a5⟩
    obtain ⟨b1, b2, r', g'⟩ := b
    obtain ⟨rfl, rfl⟩ : r' = r ∧ g' = g := by
      have := Prod.mk.inj he
      exact this
    have ht := bu _ _ (hbla _ hbm).1 (hit _ hbm).tup
    have hg := bu _ _ (hbla _ hbm).2 (hit _ hbm).lst
    have hb2 : b2 ≠ la := (hbla _ hbm).2
    have ha' := bu _ _ hala ha
    clear he hit hel
    have gl : g'.length ≤ n + 1 := asc_len g3 fun p m => (g4 p m).1
    obtain ⟨p0, gr, hgc⟩ : ∃ p0 gr, g' = p0 :: gr := by
      cases g' with
      | nil => exact absurd rfl g2
      | cons p0 gr => exact ⟨p0, gr, rfl⟩
    have hg0 : (nums g')[0]? = some (.int (p0 : Int)) := by rw [hgc]; rfl
    refine ⟨b1, _, rfl, st_new ht, rfl, _, _, rfl, _, _, rfl, rfl, ?_⟩
    have eqr : PyData.eqv (encR g') (encR g') = true := SeqAt.eqv_refl _ (SeqAt.canLay_of_shaped (shaped_row _))
    have nenil : PyData.eqv (encR g') (.list []) = false := by
      unfold encR
      rw [eqv_nil, hgc]
      rfl
    refine ⟨_, rfl, _, _, _, rfl, ty_str, true, kit_same, _, rfl, iteF ?_⟩
    refine ⟨_, rfl, _, _, _, rfl, ty_lst hg, true, kit_same, _, rfl, iteF ?_⟩
    refine ⟨_, rfl, (by show 0 ≤ sizeLine; decide), fun l1 nl1 => ?_⟩
    have hg1 := Same.new (o := .lst []) nl1 _ _ hg
    refine ⟨_, _, dp_row (sq_new hg1), .lst (sq_new upd_same) .nil, shaped_row _, rfl, _, rfl, iteF' nenil ?_⟩
    refine ⟨_, rfl, _, rfl, len_le (show r'.length ≤ 16777216 by omega), _, rfl, _, _, rfl, rfl, _, _, rfl, rfl, _, rfl, iteF' (by show (!decide ((r'.length : Int) = (n : Int) + 1)) = false; rw [decide_eq_true (show (r'.length : Int) = (n : Int) + 1 by omega)]; rfl) ?_⟩
    refine ⟨_, rfl, _, rfl, b2, g', rfl, sq_new hg1, by omega, fun cs l2 hcs nl2 => ?_⟩
    have ecs : cs = g' := asc_one hcs ⟨g3, fun _ => Iff.rfl⟩
    subst ecs
    refine ⟨_, _, dp_row (sq_new (Same.new nl2 _ _ hg1)), dp_row (sq_new upd_same), shaped_row _, shaped_row _, _, rfl, iteF' (by rw [eqr]; rfl) ?_⟩
    have sA : Same H' (upd (upd H' l1 (.lst [])) l2 (.lst (nums cs))) := (Same.new nl1).trans (.new nl2)
    generalize upd (upd H' l1 (.lst [])) l2 (.lst (nums cs)) = HA at sA
    have hgA := sA _ _ hg
    refine ⟨_, rfl, _, rfl, ⟨_, sq_new hgA⟩, for_list (xs := nums cs) (fun j σ' H2 => ∃ v6 : Option V, σ' = [some (tx c), some (.ref a), some (.int (n : Int)), some (.ref la), some (tx r'), some (.ref b2), v6] ∧ Same HA H2) ⟨v6, rfl, L2.Same.refl _⟩ (fun j σ' H2 _ z => ?_) (fun j x σ' H2 hj z => ?_) (fun σ' H2 z => ?_)⟩
    · obtain ⟨_, _, s2⟩ := z
      exact sq_new (s2 _ _ hgA)
    · obtain ⟨v6, rfl, s2⟩ := z
      obtain ⟨p, hp, rfl⟩ : ∃ p, cs[j]? = some p ∧ x = .int (p : Int) := by
        unfold nums at hj
        rw [List.getElem?_map] at hj
        cases e : cs[j]? with
        | none => rw [e] at hj; cases hj
        | some p =>
          rw [e] at hj
          exact ⟨p, rfl, (Option.some.inj hj).symm⟩
      obtain ⟨p1, p2⟩ := g4 p (List.mem_of_getElem? hp)
      refine ⟨_, rfl, _, rfl, _, _, rfl, rfl, _, rfl, fun l3 nl3 => ⟨_, _, _, _, rfl, rfl, upd_same, _, rfl, iteF' ?_ ?_⟩⟩
      · rw [decide_eq_true (show (0 : Int) ≤ (p : Int) ∧ (p : Int) < (n : Int) + 1 by omega)]
        rfl
      refine ⟨_, rfl, _, rfl, r', p, rfl, by omega, by omega, _, rfl, _, _, rfl, rfl, _, rfl, iteF' ?_ ?_⟩
      · rw [decide_eq_true p2]
        rfl
      exact ⟨_, rfl, s2.trans (.new nl3)⟩
    obtain ⟨v6, rfl, s2⟩ := z
    have sB := sA.trans s2
    have hgB := sB _ _ hg
    have haB := sB _ _ ha'
    clear hgA s2 sA ha' hg ht
    have laB : H2 la = some (.lst (nums ((hds (its.map (·.2.2))).take i))) := sB _ _ hla
    have hib : i < its.length := (List.getElem?_eq_some_iff.mp hb).1
    have il := G.few
    rw [← hll] at il
    have fin : ∀ v6 : Option V, ∃ v4 v5 v6' : Option V, [some (tx c), some (.ref a), some (.int (n : Int)), some (.ref la), some (tx r'), some (.ref b2), v6] = [some (tx c), some (.ref a), some (.int (n : Int)), some (.ref la), v4, v5, v6'] ∧ upd H2 la (.lst (nums ((hds (its.map (·.2.2))).take i) ++ [.int (p0 : Int)])) la = some (.lst (nums ((hds (its.map (·.2.2))).take (i + 1)))) ∧ But la H (upd H2 la (.lst (nums ((hds (its.map (·.2.2))).take i) ++ [.int (p0 : Int)]))) := fun v6 => by
      refine ⟨_, _, _, rfl, ?_, (bu.trans (.of sB)).trans .at⟩
      rw [upd_same, List.take_add_one]
      have : (hds (its.map (·.2.2)))[i]? = some p0 := by
        unfold hds
        rw [List.getElem?_map, List.getElem?_map, hb, hgc]
        rfl
      rw [this, nums_app]
      rfl
    have app : (nums ((hds (its.map (·.2.2))).take i)).length < sizeLine := by
      rw [nums_len, List.length_take]
      exact len_lt (by omega)
    refine ⟨_, rfl, _, _, rfl, .inl (sq_new hgB), _, _, rfl, rfl, _, rfl, ite2 (fun h1 => ?_) (fun _ => iteF ?_)⟩
    · have h1 : (1 : Int) < ((nums cs).length : Int) := of_decide_eq_true h1
      rw [nums_len] at h1
      obtain ⟨z1, z2, z3⟩ := g5 (by omega)
      have z4 : p0 = 0 := by
        rw [hgc] at z2
        exact Option.some.inj z2
      have z5 : (nums cs)[(nums cs).length - 1]? = some (.int (n : Int)) := by
        rw [nums_len]
        unfold nums
        rw [List.getElem?_map, z3]
        rfl
      refine ⟨_, rfl, _, _, rfl, .inl (sq_new haB), _, _, rfl, rfl, _, rfl, iteF' ?_ ?_⟩
      · rw [refs_len, z1]
        rfl
      refine ⟨_, rfl, _, _, _, _, rfl, rfl, sq_new hgB, at_nat (j := 0) rfl hg0, _, _, rfl, rfl, _, rfl, iteF' (by rw [z4]; rfl) ?_⟩
      refine ⟨_, rfl, _, rfl, _, _, _, _, rfl, rfl, sq_new hgB, at_neg1 (by rw [hgc]; simp [nums]) z5, _, rfl, _, _, rfl, rfl, _, rfl, iteF' (by rw [decide_eq_true rfl]; rfl) ?_⟩
      refine ⟨_, rfl, .inl ⟨rfl, _, sq_new laB⟩, _, rfl, _, _, _, _, rfl, rfl, sq_new hgB, at_nat (j := 0) rfl hg0, _, _, _, rfl, rfl, laB, app, fin _⟩
    · refine ⟨_, rfl, .inl ⟨rfl, _, sq_new laB⟩, _, rfl, _, _, _, _, rfl, rfl, sq_new hgB, at_nat (j := 0) rfl hg0, _, _, _, rfl, rfl, laB, app, fin _⟩
  · obtain ⟨v4, v5, v6, rfl, hla, bu⟩ := z
    have ha' := bu _ _ hala ha
    have hdl : (hds (its.map (·.2.2))).length = its.length := by
      unfold hds
      rw [List.length_map, List.length_map]
    rw [List.take_of_length_le (by rw [refs_len, hdl]; exact Nat.le_refl _)] at hla
    have sH := bu.free nla
    have G1 := G.inner
    have G2 := G.few
    have G3 := G.sum
    have G4 := G.asc
    rw [← hll] at G1 G2
    generalize hds (its.map (·.2.2)) = hs at hla hdl G1 G3 G4
    clear G hel hll hit hbla bu
    refine ⟨_, rfl, _, _, rfl, .inl (sq_new ha'), _, _, rfl, rfl, _, rfl, (fun hx => ite2 (fun h1 => ?_) (fun h1 => iteF hx)) ?_⟩
    · have h1 : (1 : Int) < ((refs its).length : Int) := of_decide_eq_true h1
      rw [refs_len] at h1
      obtain ⟨z0, zn⟩ := G1 (by omega)
      have i0 : inV (.int 0) (nums hs) = false := (inV_nums 0 hs).trans (decide_eq_false z0)
      have in_ : inV (.int (n : Int)) (nums hs) = false := (inV_nums n hs).trans (decide_eq_false zn)
      refine ⟨_, rfl, _, _, rfl, .inl (sq_new hla), rfl, flat_nums _, _, rfl, iteF' i0 ?_⟩
      exact ⟨_, rfl, _, rfl, _, _, rfl, .inl (sq_new hla), rfl, flat_nums _, _, rfl, iteF' in_ hx⟩
    refine ⟨_, rfl, _, _, rfl, .inl (sq_new ha'), _, _, rfl, rfl, _, rfl, (fun hx => ite2 (fun h1 => ?_) (fun h1 => iteF hx)) ?_⟩
    · have h1 : ((refs its).length : Int) = (3 : Int) := of_decide_eq_true h1
      rw [refs_len] at h1
      match hs, hdl, G3, hla with
      | [x, y, z], _, G3, hla =>
        have := G3 x y z rfl
        refine ⟨_, rfl, _, _, _, _, rfl, rfl, sq_new hla, at_nat (j := 0) rfl rfl, _, rfl, _, _, _, _, rfl, rfl, sq_new hla, at_nat (j := 2) rfl rfl, _, _, rfl, rfl, _, rfl, _, _, rfl, rfl, _, rfl, iteF' ?_ hx⟩
        rw [decide_eq_true (show (x : Int) + (z : Int) = (n : Int) by omega)]
        rfl
      | [], hl, _, _ => exfalso; simp at hl; omega
      | [_], hl, _, _ => exfalso; simp at hl; omega
      | [_, _], hl, _, _ => exfalso; simp at hl; omega
      | _ :: _ :: _ :: _ :: _, hl, _, _ => exfalso; simp at hl; omega
    refine ⟨_, rfl, _, _, rfl, .inl (sq_new ha'), _, _, rfl, rfl, _, rfl, iteT' ?_ ?_⟩
    · rw [refs_len]
      exact decide_eq_true (by omega)
    refine ⟨_, rfl, _, rfl, la, hs, rfl, sq_new hla, by omega, fun cs l2 hcs nl2 => ?_⟩
    have ecs : cs = hs := asc_one hcs ⟨G4, fun _ => Iff.rfl⟩
    subst ecs
    refine ⟨_, _, dp_row (sq_new (Same.new nl2 _ _ hla)), dp_row (sq_new upd_same), shaped_row _, shaped_row _, ?_⟩
    rw [SeqAt.eqv_refl _ (SeqAt.canLay_of_shaped (shaped_row _))]
    exact q _ (sH.trans (.new nl2))
end

/-! ### _law_no_others -/
theorem sc_law_no_others : FnScope ["_law_row_here", "_law_found", "_law_last", "_law_known", "_law_one", "_law_places", "_law_place_here"] ["_law_row_here", "_law_found"] (defScope s_law_no_others) := ⟨rfl, rfl, rfl, by decide +kernel, rfl, by decide +kernel, by decide +kernel⟩
section
variable {P : Program} {w : World} {K : PySem.W.Frag} {mg : Str → Option Value} {base : Heap}
theorem ok__law_no_others (D : Def K mg "_law_no_others" s_law_no_others) (B : Blt mg) (c__law_called : Dfn P w K mg base CX0 1 "_law_called" spCalled) : Dfn P w K mg base CX0 2 "_law_no_others" spRight := by
  refine def_ok D sc_law_no_others (fun _ _ _ _ _ _ us hl => match us, hl with | [_, _], _ => rfl) (fun vs H Q E h => ?_) (fun cdv A fr s H vs Q E f hr h => ?_)
  · obtain ⟨c, n, H0, a, its, rfl, _⟩ := h
    rfl
  obtain ⟨c, n, H0, a, its, rfl, hc, hn, ha, hit, hel, q⟩ := h
  have G := egood hc
  rw [← hel] at G
  have GF := G.flat
  have hpl : (pls c n).length ≤ n + 1 := asc_len pls_sorted fun p m => (mem_pls.mp m).1
  refine ⟨_, (pss_cons (ps_par (i := 2) (j := 3) (by rfl) sc_law_no_others.nd rfl rfl (by decide) rfl rfl (pa_cons (pe_op op_fdivW (pe_op op_sub (pe_callB call_lenT (by rfl) B.len (by decide +kernel) (pa_cons (pv 0) pa_nil)) pe_int) pe_int) (pa_cons (pe_lst pa_nil) pa_nil)) (by rfl))
      (pss_cons (ps_for PassesOwn.never rfl (pi_list (pv 1)) (pg_tup (by rfl) (pgs_cons (pg_name (i := 4) sc_law_no_others.nd rfl (Or.inl rfl)) (pgs_cons (pg_name (i := 5) sc_law_no_others.nd rfl (Or.inl rfl)) pgs_nil)))
        (pss_one (ps_set (i := 3) sc_law_no_others.nd rfl (Or.inl rfl) (pe_op op_cat (pv 3) (pv 5)))))
      (pss_cons (ps_for PassesOwn.never rfl (pi_range1 rfl B.range (pa_cons (pe_op op_add (pv 2) pe_int) pa_nil)) (pg_name (i := 6) sc_law_no_others.nd rfl (Or.inl rfl))
        (pss_cons (ps_set (i := 4) sc_law_no_others.nd rfl (Or.inl rfl) (pe_slice sl_tx (pv 0) (po_some (pv 6)) (po_some (pe_op op_add (pe_op op_add (pv 6) (pv 2)) pe_int))))
        (pss_one (ps_if (PW.pt (pw_and (pt_cmpR op_notIn_seq (pv 6) (pv 3) (by rfl)) (pw_and1 (pt_cmpR op_eqT (pe_d c__law_called hr (pa_cons (pv 4) (pa_cons (pv 6) pa_nil))) (pv 0) (nomark _)))))
          (pss_one (ps_ret pe_bl))
          pss_nil))))
      (pss_one (ps_ret (pe_or (pe_cmpR (op_eqD hr.units) (pv 3) (pe_callB cr_sortedI (by rfl) B.sorted (by decide +kernel) (pa_cons (pv 3) pa_nil)) (nomark _)) (pe_one (pe_cmpR op_gt (pe_callB call_len_seq (by rfl) B.len (by decide +kernel) (pa_cons (pv 1) pa_nil)) pe_int (nomark _))))))))), ?_⟩
  refine ⟨_, rfl, _, rfl, len_le (by omega), _, _, rfl, rfl, _, _, rfl, rfl, ⟨by decide, by decide⟩, (by show 0 ≤ sizeLine; decide), fun la nla => ⟨_, _, rfl, ?_⟩⟩
  have en : ((c.length : Int) - 1) / 2 = (n : Int) := by omega
  dsimp only
  rw [en]
  refine ⟨_, rfl, _, rfl, ⟨_, sq_new (Same.new nla _ _ ha)⟩, for_list (xs := refs its) (fun i σ' H' => ∃ (k : Addr) (v4 v5 v6 : Option V), σ' = [some (tx c), some (.ref a), some (.int (n : Int)), some (.ref k), v4, v5, v6] ∧ H' k = some (.lst (nums (((its.map (·.2.2)).take i).flatMap (·.2)))) ∧ Same H H') ⟨la, none, none, none, rfl, upd_same, .new nla⟩ (fun i σ' H' _ z => ?_) (fun i x σ' H' hi z => ?_) (fun σ' H' z => ?_)⟩
  · obtain ⟨_, _, _, _, _, _, sH⟩ := z
    exact sq_new (sH _ _ ha)
  · obtain ⟨k, v4, v5, v6, rfl, hk, sH⟩ := z
    obtain ⟨b, hb, rfl⟩ := refs_get hi
    have hbm := List.mem_of_getElem? hb
    have e2 : (its.map (·.2.2))[i]? = some b.2.2 := by rw [List.getElem?_map, hb]; rfl
    have e1 : (its.map (·.2.2)).take (i + 1) = (its.map (·.2.2)).take i ++ [b.2.2] := by rw [List.take_add_one, e2]; rfl
    have e3 : (((its.map (·.2.2)).take (i + 1)).flatMap (·.2)).length ≤ n + 1 := by
      refine Nat.le_trans ?_ hpl
      rw [← GF]
      have z := congrArg List.length (congrArg (List.flatMap (·.2)) (List.take_append_drop (i + 1) (its.map (·.2.2))))
      rw [List.flatMap_append, List.length_append] at z
      omega
    have e4 : nums (((its.map (·.2.2)).take (i + 1)).flatMap (·.2)) = nums (((its.map (·.2.2)).take i).flatMap (·.2)) ++ nums b.2.2.2 := by
      rw [e1, List.flatMap_append, nums_app]
      simp
    refine ⟨b.1, _, rfl, st_new (sH _ _ (hit b hbm).tup), rfl, _, _, rfl, _, _, rfl, rfl, ?_⟩
    refine ⟨_, rfl, _, rfl, k, b.2.1, _, _, rfl, rfl, hk, sH _ _ (hit b hbm).lst, ?_, fun p np => ?_⟩
    · rw [← List.length_append, ← e4, nums_len]
      exact len_le (by omega)
    · refine ⟨p, _, _, _, rfl, ?_, sH.trans (.new np)⟩
      rw [upd_same, e4]
  obtain ⟨k, v4, v5, v6, rfl, hk, sH⟩ := z
  rw [List.take_of_length_le (by rw [refs_len, List.length_map]; exact Nat.le_refl _), GF] at hk
  have ha' := sH _ _ ha
  refine ⟨_, rfl, _, _, rfl, rfl, _, rfl, by omega, by omega, for_range (lo := 0) (n := ((n : Int) + 1).toNat) (fun i σ' H2 => ∃ (v4 v6 : Option V), σ' = [some (tx c), some (.ref a), some (.int (n : Int)), some (.ref k), v4, v5, v6] ∧ H2 = H') ⟨v4, v6, rfl, rfl⟩ (fun i σ' H2 hi z => ?_) (fun σ' H2 z => ?_)⟩
  · obtain ⟨v4, v6, rfl, rfl⟩ := z
    have hin : i ≤ n := by omega
    refine ⟨_, rfl, _, rfl, _, rfl, _, rfl, _, rfl, _, _, rfl, rfl, _, _, rfl, rfl, _, rfl, _, rfl, len_le (by omega), ?_⟩
    rw [cut_midI _ (by omega) (by omega), show (0 + (i : Int) + (n : Int) + 1).toNat - (0 + (i : Int)).toNat = n + 1 by omega, show (0 + (i : Int)).toNat = i by omega]
    have er : List.take (n + 1) (List.drop i c) = rowAt c n i := rfl
    rw [er, Int.zero_add]
    refine ⟨_, rfl, _, rfl, _, _, rfl, .inl (sq_new hk), rfl, flat_nums _, _, rfl, ite2 (fun h1 => ?_) (fun _ => iteF ⟨_, _, rfl, rfl⟩)⟩
    have h2 : ¬ El c n i := fun e => by
      have h3 : inV (.int (i : Int)) (nums (pls c n)) = true := (inV_nums i _).trans (decide_eq_true (mem_pls.mpr e))
      have h4 : (!inV (.int (i : Int)) (nums (pls c n))) = true := h1
      rw [h3] at h4
      cases h4
    have rl := rowAt_len hc hin
    refine ⟨_, rfl, _, rfl, rowAt c n i, i, rfl, by omega, by omega, _, rfl, _, _, rfl, rfl, _, rfl, iteF' ?_ ⟨_, _, rfl, rfl⟩⟩
    exact decide_eq_false fun e => h2 ⟨hin, e⟩
  obtain ⟨v4, v6, rfl, rfl⟩ := z
  refine ⟨_, rfl, _, rfl, k, (pls c n).map fun p : Nat => (p : Int), rfl, sq_new (by rw [List.map_map]; exact hk), fun ns p hp hs np => ?_⟩
  have e : ns = (pls c n).map fun p : Nat => (p : Int) := by
    refine List.Perm.eq_of_pairwise (le := fun a b => a ≤ b) (fun a b _ _ h1 h2 => by omega) hs ?_ hp
    exact List.pairwise_map.mpr (pls_sorted.imp fun h => by omega)
  subst e
  refine ⟨_, _, dp_row (sq_new (Same.new np _ _ hk)), dp_row (sq_new (by rw [upd_same, List.map_map]; rfl)), shaped_row _, shaped_row _, _, rfl, iteT' (SeqAt.eqv_refl _ (SeqAt.canLay_of_shaped (shaped_row _))) ?_⟩
  exact q _ (sH.trans (.new np))
end

/-! ### law -/
theorem sc_law : FnScope ["_law_script", "_law_bag_here", "_law_turn", "_law_row_here", "_law_found", "_law_at", "_law_bent", "_law_told"] ["_law_script"] (defScope s_law) := ⟨rfl, rfl, rfl, by decide +kernel, rfl, by decide +kernel, by decide +kernel⟩
def spLaw (K : PySem.W.Frag) : Sp := fun vs H Q _ => ∃ (a : Addr) (ns : List Int), vs = [.ref a] ∧ SqL K H a (ns.map V.int) ∧ ns.length ≤ 63 ∧ ∀ H', Q (.bl true) H'
section
variable {P : Program} {w : World} {K : PySem.W.Frag} {mg : Str → Option Value} {base : Heap}
theorem ok_law {f : Addr} {fd : FuncData} (F : Fun K "law" "law" s_law f fd) (B : Blt mg) (c__law_bag : Dfn P w K mg base CX0 1 "_law_bag" (spBag K)) (c__law_take : Dfn P w K mg base CX0 1 "_law_take" spTake)
    (c__law_child : Dfn P w K mg base CX0 4 "_law_child" spChild) (c__law_right : Dfn P w K mg base CX0 2 "_law_right" spRight) (c__law_no_others : Dfn P w K mg base CX0 2 "_law_no_others" spRight)
    (c_elders : Dfn P w K mg base CX0 3 "elders" spElders) : FnG P w K mg base CX0 5 f fd ["_law_script"] (spLaw K) := by
  refine law_okG F sc_law (fun vs H Q E h => ?_) (fun cdv A fr s H vs Q E hr h => ?_)
  · obtain ⟨a, ns, rfl, _⟩ := h
    rfl
  obtain ⟨a, ns, rfl, hS, hlen, q⟩ := h
  have hr := hr.r
  refine ⟨_, (pss_cons (ps_set (i := 1) sc_law.nd rfl (Or.inl rfl) (pe_d c__law_bag hr (pa_cons (pv 0) pa_nil)))
      (pss_cons (ps_for PassesOwn.never rfl (pi_range1 rfl B.range (pa_cons pe_int pa_nil)) (pg_name (i := 2) sc_law.nd rfl (Or.inl rfl))
        (pss_cons (ps_set (i := 3) sc_law.nd rfl (Or.inl rfl) (pe_d c__law_child hr (pa_cons (pv 1) pa_nil)))
        (pss_cons (ps_set (i := 4) sc_law.nd rfl (Or.inl rfl) (pe_d c_elders hr (pa_cons (pv 3) pa_nil)))
        (pss_cons (ps_if (PW.pt (pw_or (pt_cmpR (op_eqD hr.units) (pv 4) (pe_lst pa_nil) (nomark _)) (pw_or (pt_not (pt_val (pe_d c__law_right hr (pa_cons (pv 3) (pa_cons (pv 4) pa_nil))))) (pw_or1 (pt_not (pt_val (pe_d c__law_no_others hr (pa_cons (pv 3) (pa_cons (pv 4) pa_nil)))))))))
          (pss_one (ps_ret pe_bl))
          pss_nil)
        (pss_cons (ps_set (i := 5) sc_law.nd rfl (Or.inl rfl) (pe_d c__law_take hr (pa_cons (pv 1) (pa_cons (pe_callB call_lenT (by rfl) B.len (by decide +kernel) (pa_cons (pv 3) pa_nil)) pa_nil))))
        (pss_cons (ps_set (i := 6) sc_law.nd rfl (Or.inl rfl) (pe_op op_catT (pe_op op_catT (pe_slice sl_tx (pv 3) po_none (po_some (pv 5))) (pe_ix ix_tx (pe_tx [97, 98, 122]) (pe_d c__law_take hr (pa_cons (pv 1) (pa_cons pe_int pa_nil))) (fun _ _ => rfl))) (pe_slice sl_tx (pv 3) (po_some (pe_op op_add (pv 5) pe_int)) po_none)))
        (pss_cons (ps_set (i := 7) sc_law.nd rfl (Or.inl rfl) (pe_d c_elders hr (pa_cons (pv 6) pa_nil)))
        (pss_one (ps_if (PW.pt (pw_or (pt_not (pt_val (pe_d c__law_right hr (pa_cons (pv 6) (pa_cons (pv 7) pa_nil))))) (pw_or1 (pt_not (pt_val (pe_d c__law_no_others hr (pa_cons (pv 6) (pa_cons (pv 7) pa_nil))))))))
          (pss_one (ps_ret pe_bl))
          pss_nil)))))))))
      (pss_one (ps_ret pe_bl)))), ?_⟩
  refine ⟨_, rfl, a, ns, rfl, hS, hlen, fun b c H1 nb nc B1 _ => ?_⟩
  refine ⟨_, rfl, by decide, by decide, for_range (lo := 0) (n := (4 : Int).toNat) (fun i σ' H' => ∃ v2 v3 v4 v5 v6 v7 : Option V, σ' = [some (.ref a), some (.ref b), v2, v3, v4, v5, v6, v7] ∧ Bag H' b c) ⟨none, none, none, none, none, none, rfl, B1⟩ (fun i σ' H' hi z => ?_) (fun σ' H' z => ?_)⟩
  · obtain ⟨v2, v3, v4, v5, v6, v7, rfl, B2⟩ := z
    refine ⟨_, rfl, b, c, rfl, B2, fun r p H2 r1 r2 hp rz d1 => ?_⟩
    obtain ⟨n, hn, n1⟩ : ∃ n, r.length = n + 1 ∧ n ≤ 500 := ⟨r.length - 1, by omega, by omega⟩
    have kl : (mkRow r p).length = 2 * n + 1 := by rw [mkRow_len hp]; omega
    have kz := mkRow_az p rz
    have ke : El (mkRow r p) n p := by
      have := mkRow_el r hp
      rw [hn] at this
      exact this
    have eo : ∀ x : List Nat, x.length = 2 * n + 1 → eldO x = eldL x n := fun x hx => by
      unfold eldO
      rw [if_pos (by omega), hx, show (2 * n + 1 - 1) / 2 = n by omega]
    generalize mkRow r p = k at kl kz ke
    refine ⟨_, rfl, k, rfl, by omega, by omega, fun ea its H3 s3 nea hea hit hne hel => ?_⟩
    rw [eo k kl] at hel
    have hne0 : its ≠ [] := fun e => by
      have G := (egood kl).flat
      rw [← hel, e] at G
      have := mem_pls.mpr ke
      rw [← G] at this
      cases this
    refine ⟨_, rfl, (by show 0 ≤ sizeLine; decide), fun li nli => ?_⟩
    have s4 : Same H3 (upd H3 li (.lst [])) := .new nli
    have hit4 : ∀ b ∈ its, EldAt H2 (upd H3 li (.lst [])) b := fun b m => ⟨(hit b m).new, (hit b m).newL, s4 _ _ (hit b m).tup, s4 _ _ (hit b m).lst⟩
    have hde : Dp K (upd H3 li (.lst [])) (.ref ea) (.list (its.map eldD)) := .lst (sq_new (s4 _ _ hea)) (dp_eld its hit4)
    refine ⟨_, _, hde, .lst (sq_new upd_same) .nil, eld_shaped fun b m c hc => (its_az (hel.trans (eo k kl).symm) kz b m c hc).2, rfl, _, rfl, iteF' ?_ ?_⟩
    · rw [eqv_nil]
      cases its with
      | nil => exact absurd rfl hne0
      | cons => rfl
    refine ⟨_, rfl, _, rfl, k, n, H2, ea, its, rfl, kl, by omega, s4 _ _ hea, hit4, hel, fun H5 s5 => ⟨_, rfl, iteF ?_⟩⟩
    refine ⟨_, rfl, _, rfl, k, n, H2, ea, its, rfl, kl, by omega, s5 _ _ (s4 _ _ hea), (fun b m => ⟨(hit4 b m).new, (hit4 b m).newL, s5 _ _ (hit4 b m).tup, s5 _ _ (hit4 b m).lst⟩), hel, fun H6 s6 => ⟨_, rfl, iteF ?_⟩⟩
    have B6 : Bag H6 b c := (((d1.bag.same s3).same s4).same s5).same s6
    refine ⟨_, rfl, _, rfl, _, rfl, len_le (by omega), b, c, (k.length : Int), rfl, B6, by omega, lg (by omega) (by omega), fun at_ H7 l7 u7 d7 => ?_⟩
    refine ⟨_, rfl, _, rfl, _, rfl, _, rfl, len_le (by omega), _, rfl, b, c, 3, rfl, d7.bag, by decide, by decide, fun v8 H8 l8 u8 d8 => ?_⟩
    have hv : v8.toNat < ([97, 98, 122] : List Nat).length := by show v8.toNat < 3; omega
    refine ⟨_, _, _, rfl, rfl, (by show 3 ≤ sizeLine; decide), at_nat (j := v8.toNat) (by omega) (List.getElem?_eq_getElem hv), _, _, rfl, rfl, ?_, _, rfl, _, rfl, _, _, rfl, rfl, _, rfl, _, rfl, len_le (by omega), _, _, rfl, rfl, ?_, ?_⟩
    · rw [cut_toI _ (by omega), List.length_take, List.length_singleton]
      exact len_le (by omega)
    · rw [cut_toI _ (by omega), cut_fromI _ (by omega), List.length_append, List.length_take, List.length_singleton, List.length_drop]
      exact len_le (by omega)
    rw [cut_toI _ (by omega), cut_fromI _ (by omega)]
    have bl : (List.take at_.toNat k ++ [([97, 98, 122] : List Nat)[v8.toNat]] ++ List.drop (at_ + 1).toNat k).length = 2 * n + 1 := by
      rw [List.length_append, List.length_append, List.length_take, List.length_singleton, List.length_drop]
      omega
    generalize List.take at_.toNat k ++ [([97, 98, 122] : List Nat)[v8.toNat]] ++ List.drop (at_ + 1).toNat k = bt at bl
    refine ⟨_, rfl, bt, rfl, by omega, by omega, fun ta its2 H9 s9 nta hta hit2 hne2 hel2 => ?_⟩
    rw [eo bt bl] at hel2
    refine ⟨_, rfl, _, rfl, bt, n, H8, ta, its2, rfl, bl, by omega, hta, hit2, hel2, fun Ha sa => ⟨_, rfl, iteF ?_⟩⟩
    refine ⟨_, rfl, _, rfl, bt, n, H8, ta, its2, rfl, bl, by omega, sa _ _ hta, (fun b m => ⟨(hit2 b m).new, (hit2 b m).newL, sa _ _ (hit2 b m).tup, sa _ _ (hit2 b m).lst⟩), hel2, fun Hb sb => ⟨_, rfl, iteF ?_⟩⟩
    exact ⟨_, _, _, _, _, _, rfl, ((d8.bag.same s9).same sa).same sb⟩
  · obtain ⟨v2, v3, v4, v5, v6, v7, rfl, _⟩ := z
    exact q H'
end

end Ow
set_option maxHeartbeats 0
namespace Ow
open PySem PySem.Spec PyProof.Rows L2
def d_elder_last : He.DefD := ⟨("elder_last", none), "elder_last", "elder_last", defArgs s_elder_last, defBody s_elder_last, defScope s_elder_last, [], []⟩
def d_is_called : He.DefD := ⟨("is_called", none), "is_called", "is_called", defArgs s_is_called, defBody s_is_called, defScope s_is_called, [], []⟩
def d_elders : He.DefD := ⟨("elders", none), "elders", "elders", defArgs s_elders, defBody s_elders, defScope s_elders, [], []⟩
def d_law_bag : He.DefD := ⟨("_law_bag", none), "_law_bag", "_law_bag", defArgs s_law_bag, defBody s_law_bag, defScope s_law_bag, [], []⟩
def d_law_take : He.DefD := ⟨("_law_take", none), "_law_take", "_law_take", defArgs s_law_take, defBody s_law_take, defScope s_law_take, [], []⟩
def d_law_word : He.DefD := ⟨("_law_word", none), "_law_word", "_law_word", defArgs s_law_word, defBody s_law_word, defScope s_law_word, [], []⟩
def d_law_row : He.DefD := ⟨("_law_row", none), "_law_row", "_law_row", defArgs s_law_row, defBody s_law_row, defScope s_law_row, [], []⟩
def d_law_called : He.DefD := ⟨("_law_called", none), "_law_called", "_law_called", defArgs s_law_called, defBody s_law_called, defScope s_law_called, [], []⟩
def d_law_repeated : He.DefD := ⟨("_law_repeated", none), "_law_repeated", "_law_repeated", defArgs s_law_repeated, defBody s_law_repeated, defScope s_law_repeated, [], []⟩
def d_law_root : He.DefD := ⟨("_law_root", none), "_law_root", "_law_root", defArgs s_law_root, defBody s_law_root, defScope s_law_root, [], []⟩
def d_law_twin_case : He.DefD := ⟨("_law_twin_case", none), "_law_twin_case", "_law_twin_case", defArgs s_law_twin_case, defBody s_law_twin_case, defScope s_law_twin_case, [], []⟩
def d_law_triple_case : He.DefD := ⟨("_law_triple_case", none), "_law_triple_case", "_law_triple_case", defArgs s_law_triple_case, defBody s_law_triple_case, defScope s_law_triple_case, [], []⟩
def d_law_twins : He.DefD := ⟨("_law_twins", none), "_law_twins", "_law_twins", defArgs s_law_twins, defBody s_law_twins, defScope s_law_twins, [], []⟩
def d_law_place : He.DefD := ⟨("_law_place", none), "_law_place", "_law_place", defArgs s_law_place, defBody s_law_place, defScope s_law_place, [], []⟩
def d_law_wide : He.DefD := ⟨("_law_wide", none), "_law_wide", "_law_wide", defArgs s_law_wide, defBody s_law_wide, defScope s_law_wide, [], []⟩
def d_law_child : He.DefD := ⟨("_law_child", none), "_law_child", "_law_child", defArgs s_law_child, defBody s_law_child, defScope s_law_child, [], []⟩
def d_law_right : He.DefD := ⟨("_law_right", none), "_law_right", "_law_right", defArgs s_law_right, defBody s_law_right, defScope s_law_right, [], []⟩
def d_law_no_others : He.DefD := ⟨("_law_no_others", none), "_law_no_others", "_law_no_others", defArgs s_law_no_others, defBody s_law_no_others, defScope s_law_no_others, [], []⟩
def d_law : He.DefD := ⟨("law", none), "law", "law", defArgs s_law, defBody s_law, defScope s_law, [], []⟩
def fn : List He.DefD := [d_elder_last, d_is_called, d_elders, d_law_bag, d_law_take, d_law_word, d_law_row, d_law_called, d_law_repeated, d_law_root, d_law_twin_case, d_law_triple_case, d_law_twins, d_law_place, d_law_wide, d_law_child, d_law_right, d_law_no_others, d_law]
def fa0 : List He.Fa := [.free "len", .free "range", .free "zip", .free "enumerate", .free "sorted", .free "list", .free "dict", .free "set", .free "int", .free "abs", .free "sum", .free "min", .free "max", .free "repr", .free "isinstance", .free "bool", .free "str", .free "tuple", .free "all", .free "any", .free "divmod", .free "super", .free "ValueError", .free "reversed", .glo "elder_last", .glo "is_called", .glo "elders", .glo "_law_bag", .glo "_law_take", .glo "_law_word"]
def fa1 : List He.Fa := [.glo "_law_row", .glo "_law_called", .glo "_law_repeated", .glo "_law_root", .glo "_law_twin_case", .glo "_law_triple_case", .glo "_law_twins", .glo "_law_place", .glo "_law_wide", .glo "_law_child", .glo "_law_right", .glo "_law_no_others", .glo "law"]
def fa : List He.Fa := fa0 ++ fa1
def loose0 : List Str := ["elder_last", "is_called", "elders", "_law_bag", "_law_take", "_law_word", "_law_row", "_law_called", "_law_repeated", "_law_root", "_law_twin_case", "_law_triple_case", "_law_twins", "_law_place", "_law_wide", "_law_child", "_law_right", "_law_no_others"]
def loose : List Str := loose0
abbrev R : PySem.W.OpenRow := PySem.W.OpenLaw.row PySem.Challenge.rw_ownlog_k49_whole_at_most_three_elders
abbrev hk : PySem.W.Hook := He.hookD 5 fa fn
def ob (s : PySem.W.SharedT) : He.AlD := He.obsDG 5 fa fn (HandSHeadRun.getT s)
theorem ob_eq (s : PySem.W.SharedT) : ob s = hk.obs s.abs := He.obsDG_eq (HandSHeadRun.getT_eq s)
theorem run (w : World) : HandSHeadRun.RunEq R (PySem.W.view R.prog [20]) hk ob 4000 loose w := by
  intro os
  kernel_rfl
theorem facts {P : Program} {w : World} {K : PySem.W.Frag} {h : Heap} {mg : Str → Option Value} {f : Addr} (X : K.In h) (G : h.Ns mainGlobals mg) (hfa : mg ("law" : Str) = some (.ref f)) (c : He.SaysD fa fn K) :
    ∃ fd : FuncData, (∀ (s : Shared) (v : Value), BindsTo s fd ⟨[v], []⟩ [("_law_script", v)]) ∧ ∀ base : Heap, K.In base → base.Ns mainGlobals mg → FnG P w K mg base CX0 5 f fd ["_law_script"] (spLaw K) := by
  have B : Blt mg := ⟨He.free_ok X G (c.fact 0 (f := .free "len") rfl), He.free_ok X G (c.fact 1 (f := .free "range") rfl), He.free_ok X G (c.fact 2 (f := .free "zip") rfl), He.free_ok X G (c.fact 3 (f := .free "enumerate") rfl), He.free_ok X G (c.fact 4 (f := .free "sorted") rfl), He.free_ok X G (c.fact 5 (f := .free "list") rfl), He.free_ok X G (c.fact 6 (f := .free "dict") rfl), He.free_ok X G (c.fact 7 (f := .free "set") rfl), He.free_ok X G (c.fact 8 (f := .free "int") rfl), He.free_ok X G (c.fact 9 (f := .free "abs") rfl), He.free_ok X G (c.fact 10 (f := .free "sum") rfl), He.free_ok X G (c.fact 11 (f := .free "min") rfl), He.free_ok X G (c.fact 12 (f := .free "max") rfl), He.free_ok X G (c.fact 13 (f := .free "repr") rfl), He.free_ok X G (c.fact 14 (f := .free "isinstance") rfl), He.free_ok X G (c.fact 15 (f := .free "bool") rfl), He.free_ok X G (c.fact 16 (f := .free "str") rfl), He.free_ok X G (c.fact 17 (f := .free "tuple") rfl), He.free_ok X G (c.fact 18 (f := .free "all") rfl), He.free_ok X G (c.fact 19 (f := .free "any") rfl), He.free_ok X G (c.fact 20 (f := .free "divmod") rfl), He.free_ok X G (c.fact 21 (f := .free "super") rfl), He.free_ok X G (c.fact 22 (f := .free "ValueError") rfl), He.free_ok X G (c.fact 23 (f := .free "reversed") rfl)⟩
  have D__law_take : Def K mg "_law_take" s_law_take := by
    obtain ⟨fd, F⟩ := c.def_ 4 (d := d_law_take) rfl
    exact Def.of F (He.glo_ok X G (c.fact 28 (f := .glo "_law_take") rfl))
  have D__law_word : Def K mg "_law_word" s_law_word := by
    obtain ⟨fd, F⟩ := c.def_ 5 (d := d_law_word) rfl
    exact Def.of F (He.glo_ok X G (c.fact 29 (f := .glo "_law_word") rfl))
  have D__law_row : Def K mg "_law_row" s_law_row := by
    obtain ⟨fd, F⟩ := c.def_ 6 (d := d_law_row) rfl
    exact Def.of F (He.glo_ok X G (c.fact 30 (f := .glo "_law_row") rfl))
  have D__law_bag : Def K mg "_law_bag" s_law_bag := by
    obtain ⟨fd, F⟩ := c.def_ 3 (d := d_law_bag) rfl
    exact Def.of F (He.glo_ok X G (c.fact 27 (f := .glo "_law_bag") rfl))
  have D__law_called : Def K mg "_law_called" s_law_called := by
    obtain ⟨fd, F⟩ := c.def_ 7 (d := d_law_called) rfl
    exact Def.of F (He.glo_ok X G (c.fact 31 (f := .glo "_law_called") rfl))
  have D_elder_last : Def K mg "elder_last" s_elder_last := by
    obtain ⟨fd, F⟩ := c.def_ 0 (d := d_elder_last) rfl
    exact Def.of F (He.glo_ok X G (c.fact 24 (f := .glo "elder_last") rfl))
  have D_is_called : Def K mg "is_called" s_is_called := by
    obtain ⟨fd, F⟩ := c.def_ 1 (d := d_is_called) rfl
    exact Def.of F (He.glo_ok X G (c.fact 25 (f := .glo "is_called") rfl))
  have D_elders : Def K mg "elders" s_elders := by
    obtain ⟨fd, F⟩ := c.def_ 2 (d := d_elders) rfl
    exact Def.of F (He.glo_ok X G (c.fact 26 (f := .glo "elders") rfl))
  have D__law_repeated : Def K mg "_law_repeated" s_law_repeated := by
    obtain ⟨fd, F⟩ := c.def_ 8 (d := d_law_repeated) rfl
    exact Def.of F (He.glo_ok X G (c.fact 32 (f := .glo "_law_repeated") rfl))
  have D__law_root : Def K mg "_law_root" s_law_root := by
    obtain ⟨fd, F⟩ := c.def_ 9 (d := d_law_root) rfl
    exact Def.of F (He.glo_ok X G (c.fact 33 (f := .glo "_law_root") rfl))
  have D__law_twins : Def K mg "_law_twins" s_law_twins := by
    obtain ⟨fd, F⟩ := c.def_ 12 (d := d_law_twins) rfl
    exact Def.of F (He.glo_ok X G (c.fact 36 (f := .glo "_law_twins") rfl))
  have D__law_twin_case : Def K mg "_law_twin_case" s_law_twin_case := by
    obtain ⟨fd, F⟩ := c.def_ 10 (d := d_law_twin_case) rfl
    exact Def.of F (He.glo_ok X G (c.fact 34 (f := .glo "_law_twin_case") rfl))
  have D__law_triple_case : Def K mg "_law_triple_case" s_law_triple_case := by
    obtain ⟨fd, F⟩ := c.def_ 11 (d := d_law_triple_case) rfl
    exact Def.of F (He.glo_ok X G (c.fact 35 (f := .glo "_law_triple_case") rfl))
  have D__law_place : Def K mg "_law_place" s_law_place := by
    obtain ⟨fd, F⟩ := c.def_ 13 (d := d_law_place) rfl
    exact Def.of F (He.glo_ok X G (c.fact 37 (f := .glo "_law_place") rfl))
  have D__law_wide : Def K mg "_law_wide" s_law_wide := by
    obtain ⟨fd, F⟩ := c.def_ 14 (d := d_law_wide) rfl
    exact Def.of F (He.glo_ok X G (c.fact 38 (f := .glo "_law_wide") rfl))
  have D__law_child : Def K mg "_law_child" s_law_child := by
    obtain ⟨fd, F⟩ := c.def_ 15 (d := d_law_child) rfl
    exact Def.of F (He.glo_ok X G (c.fact 39 (f := .glo "_law_child") rfl))
  have D__law_right : Def K mg "_law_right" s_law_right := by
    obtain ⟨fd, F⟩ := c.def_ 16 (d := d_law_right) rfl
    exact Def.of F (He.glo_ok X G (c.fact 40 (f := .glo "_law_right") rfl))
  have D__law_no_others : Def K mg "_law_no_others" s_law_no_others := by
    obtain ⟨fd, F⟩ := c.def_ 17 (d := d_law_no_others) rfl
    exact Def.of F (He.glo_ok X G (c.fact 41 (f := .glo "_law_no_others") rfl))
  obtain ⟨fd, F⟩ := c.def_ 18 (d := d_law) rfl
  have e := hfa.symm.trans (He.glo_ok X G (c.fact 42 (f := .glo "law") rfl))
  cases e
  refine ⟨fd, fun s v => (FunD.bindsA (ps := ["_law_script"]) F fun _ _ _ _ _ _ us hl => match us, hl with | [_], _ => rfl) s [v] rfl, fun base _ _ => ?_⟩
  have c__law_take := ok__law_take (P := P) (w := w) (base := base) D__law_take B
  have c__law_word := ok__law_word (P := P) (w := w) (base := base) D__law_word B c__law_take
  have c__law_row := ok__law_row (P := P) (w := w) (base := base) D__law_row B c__law_take c__law_word
  have c__law_bag := ok__law_bag (P := P) (w := w) (base := base) D__law_bag B
  have c__law_called := ok__law_called (P := P) (w := w) (base := base) D__law_called
  have c_elder_last := ok_elder_last (P := P) (w := w) (base := base) D_elder_last B
  have c_is_called := ok_is_called (P := P) (w := w) (base := base) D_is_called B c_elder_last
  have c_elders := ok_elders (P := P) (w := w) (base := base) D_elders B c_elder_last c_is_called
  have c__law_repeated := ok__law_repeated (P := P) (w := w) (base := base) D__law_repeated B
  have c__law_root := ok__law_root (P := P) (w := w) (base := base) D__law_root B
  have c__law_twins := ok__law_twins (P := P) (w := w) (base := base) D__law_twins c__law_repeated
  have c__law_twin_case := ok__law_twin_case (P := P) (w := w) (base := base) D__law_twin_case B c__law_take c__law_root
  have c__law_triple_case := ok__law_triple_case (P := P) (w := w) (base := base) D__law_triple_case B c__law_take c__law_root
  have c__law_place := ok__law_place (P := P) (w := w) (base := base) D__law_place c__law_take
  have c__law_wide := ok__law_wide (P := P) (w := w) (base := base) D__law_wide c__law_take
  have c__law_child := ok__law_child (P := P) (w := w) (base := base) D__law_child B c__law_take c__law_row c__law_called c__law_place c__law_twin_case c__law_triple_case c__law_twins c__law_wide
  have c__law_right := ok__law_right (P := P) (w := w) (base := base) D__law_right B c__law_called
  have c__law_no_others := ok__law_no_others (P := P) (w := w) (base := base) D__law_no_others B c__law_called
  exact ok_law (fun_ofD F) B c__law_bag c__law_take c__law_child c__law_right c__law_no_others c_elders
end Ow
open PySem PySem.W PySem.Calls PyProof.Rows
theorem PySem.Challenge.cw_ownlog_k49_whole_at_most_three_elders_holds : PySem.Challenge.rw_ownlog_k49_whole_at_most_three_elders.Holds := by
  w_on; o_law
  refine HandSHeadRun.head_any (r := OpenLaw.row PySem.Challenge.rw_ownlog_k49_whole_at_most_three_elders) (q := view (OpenLaw.row PySem.Challenge.rw_ownlog_k49_whole_at_most_three_elders).prog [20]) (H := Ow.hk) (ob := Ow.ob) (M := 4000) (loose := Ow.loose) (d := HandSHeadRun.topDef (OpenLaw.row PySem.Challenge.rw_ownlog_k49_whole_at_most_three_elders).prog 20) (kwd := []) Ow.ob_eq
    (by kernel_rfl) (fun s => by kernel_rfl) Ow.run (by kernel_rfl) (by kernel_rfl) (by kernel_rfl) (by rfl) (by first | assumption | decide +kernel) (by decide +kernel) ⟨rfl, rfl, rfl, rfl, rfl, by decide +kernel⟩ ?hw ?hc
  case hw => w_witness2
  case hc =>
    refine Ow.walk_G (l := PySem.Challenge.rw_ownlog_k49_whole_at_most_three_elders) (n := 63) (k := 5) (x := "_law_script") (CX := L2.CX0) rfl (by decide) (by kernel_rfl) ⟨rfl, by decide, by decide⟩ ?F ?nx
    case nx => exact fun _ _ _ _ z => z
    case F =>
      intro w mg fa h Y G hmg0
      obtain ⟨K, KX, c⟩ := Y
      have hmg : mg ("law" : PySem.Str) = some (.ref fa) := by
        have e : (HandSHeadRun.topDef (OpenLaw.row PySem.Challenge.rw_ownlog_k49_whole_at_most_three_elders).prog 20).name = ("law" : PySem.Str) := by kernel_rfl
        rw [← e]
        exact hmg0
      obtain ⟨fd, hb, hF⟩ := Ow.facts (P := (PySem.Challenge.rw_ownlog_k49_whole_at_most_three_elders).prog) (w := w) KX G hmg c
      exact ⟨K, fd, Ow.spLaw K, KX, hb, fun H a ns hl hS => ⟨a, ns, rfl, hS, hl, fun _ => rfl⟩, hF⟩
