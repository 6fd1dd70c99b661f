import PyProof.Rows.All
import Wide.All
import OpenK.AllK
import Wide.FinOn
import Lean
import PyProof.ReprRoads
import HandS.Walk
import HandS.Conv
import HandS.ForMost
import HandS.Defaults
import HandS.WideBits
import HandS.Style
import HandS.IsInst
import HandS.TupAny
import HandS.SortInts
import HandS.Head0
import HandS.Head1
import HandS.Head2
import HandS.HeadEnd
import HandS.HeadHook1
import HandS.HeadHook2
import PySem.Challenge.RW_divisorsums_k86_whole_meet_tables
set_option Elab.async false
set_option linter.all false
set_option maxRecDepth 100000
set_option maxHeartbeats 16000000
/-! A layer of my own over HandS: defs called where no repr is under way, repr of data, keyword calls. -/
namespace G
open PySem PySem.Spec PyProof.Rows L2

/-! ### defs that may use repr -/
/-- what a def promises where no guarded code runs around it -/
structure FnG (P : Program) (w : World) (K : PySem.W.Frag) (mg : Str → Option Value) (base : Heap) (CX : CXT) (k : Nat) (f : Addr) (fd : FuncData) (ps : List Str) (sp : Sp) : Prop where
  arity : ∀ vs H Q E, sp vs H Q E → vs.length = ps.length
  go : ∀ {A : Around} {outer : List Env} {s : Shared} {H : Hp} {args : Args} {us : List Value} {vs : List V} {Q : VK} {E : XK},
    A.guards = some [] → Room k A → Env0 P w K mg base A outer s H → BindsTo s fd args (ps.zip us) → Vals vs us → sp vs H Q E →
      codeAny (model P w) A (.call (.ref f) args) (CR CX outer P w H s Q E) s

section
variable {P : Program} {w : World} {K : PySem.W.Frag} {mg : Str → Option Value} {base : Heap} {CX : CXT} {k : Nat} {f : Addr} {fd : FuncData} {ps : List Str} {sp : Sp}
theorem FnG.up {j : Nat} (F : FnG P w K mg base CX k f fd ps sp) (h : k ≤ j) : FnG P w K mg base CX j f fd ps sp :=
  ⟨F.arity, fun g r => F.go g (r.mono h)⟩
theorem FnG.weak {sp' : Sp} (F : FnG P w K mg base CX k f fd ps sp) (h : ∀ vs H Q E, sp' vs H Q E → sp vs H Q E) : FnG P w K mg base CX k f fd ps sp' :=
  ⟨fun vs H Q E q => F.arity vs H Q E (h _ _ _ _ q), fun g r e b v q => F.go g r e b v (h _ _ _ _ q)⟩
/-- how a body's end is a call's end -/
theorem ends_of {N : List Str} {qual : Str} {scope : Scope} {cdv : Value} {A : Around} {outer : List Env} {s s' : Shared} {H : Hp} {Q : VK} {E : XK} {fl : Flow}
    (hs : SP (cxOf CX P w K mg base N qual scope f cdv A outer s H E) [] { nx := fun _ H' => Q .non H', rt := Q } fl s') :
    ∃ u, (fl = .ret u ∨ (fl = .next ∧ u = Value.none)) ∧ CE outer P w H s Q u s' := by
  match fl, hs with
  | .ret u, ⟨v, _, H', J, rv, q⟩ => exact ⟨u, .inl rfl, v, H', J.os, J.bare, J.base, J.hok, rv, q⟩
  | .next, ⟨_, H', J, q⟩ => exact ⟨.none, .inr ⟨rfl, rfl⟩, .non, H', J.os, J.bare, J.base, J.hok, rfl, q⟩
  | .brk, ⟨_, _, _, q⟩ => exact False.elim q
  | .cont, ⟨_, _, _, q⟩ => exact False.elim q
/-- a def by its body, told that no guarded code runs around it -/
theorem okG {x qual : Str} {params : Arguments} {body : List Stmt} {scope : Scope} {dvs : List V} {kws : List (Str × V)} {N : List Str}
    (F : FunD K x qual params body scope dvs kws f fd) (S : FnScope N ps scope) (hl : ∀ vs H Q E, sp vs H Q E → vs.length = ps.length)
    (hb : ∀ (cdv : Value) (A : Around) (outer : List Env) (s : Shared) (H : Hp) (vs : List V) (Q : VK) (E : XK),
      A.guards = some [] → Room k (A.deeper (envOfC qual scope s.heap.objs.size f cdv)) → sp vs H Q E →
      ∃ t, PSs (cxOf CX P w K mg base N qual scope f cdv A outer s H E) body t ∧ t { nx := fun _ H' => Q .non H', rt := Q } (start N vs) H) :
    FnG P w K mg base CX (k + 1) f fd ps sp := by
  obtain ⟨oc, od, dV, kV, doc, pm, an, cdv, ct, osl, rfl, lk, hcd, _, _⟩ := F.ex
  constructor
  · exact hl
  intro A outer s H args us vs Q E g r e0 bd rv q
  have inK : K.In s.heap := PySem.W.Frag.In.keeps e0.mod.kin fun b o z => (e0.bs b o z).1
  have nl : s.heap.NoLimit := e0.mod.nolimit.keeps fun b o z => (e0.bs b o z).1
  have cellOf : ∀ n : Str, scope.names.lookup n = some .cell → ((cellsFrom (s.heap.objs.size + 1) scope.names []).lookup n).isSome = true :=
    fun n z => PySem.W.cellsFrom_some _ _ _ (.inl z)
  refine codeAny_call_function r.depth (inK _ _ lk) rfl S.co S.gen rfl (PySem.W.codeRec_of inK hcd) (bd _ _ _ _ ?_)
  refine wpAny_newFunctionEnv_cells S.kind (fun y hy => (S.par y.1 (List.of_mem_zip (a := y.1) (b := y.2) hy).1).imp (fun z => z) fun z => ⟨z, cellOf _ z⟩) ?_
  intro env he s1 x
  subst he
  obtain ⟨t, ht, hq⟩ := hb cdv A outer s H vs Q E g (r.deeper _) q
  have J := inv_start (CX := CX) (E := E) S r.hd e0 (hl _ _ _ _ q) rv x
  refine ⟨nl.keeps x.toInCall.keep, codeAny_func (wpAny_mono (ht.run [] s1 (start N vs) H _ J hq) ?_ fun _ _ z => z)⟩
  intro fl s' hs
  obtain ⟨u, z | ⟨z, z'⟩, c⟩ := ends_of hs
  · subst z; exact c
  · subst z; subst z'; exact c
end

/-- a def of the module that may be called by its name: ds are the values that its defaults fill in behind the written ones -/
structure Cl (P : Program) (w : World) (K : PySem.W.Frag) (mg : Str → Option Value) (base : Heap) (k : Nat) (x : Str) (n : Nat) (ds : List V) (sp : Sp) : Prop where
  ex : ∃ (f : Addr) (fd : FuncData) (ps : List Str) (us : List Value), FnG P w K mg base CX0 k f fd ps sp ∧ ps.length = n + ds.length ∧ mg x = some (.ref f) ∧ PySem.W.keepIn K (.ref f) = true ∧ Binds K fd ps us ∧ Vals ds us
/-- .. with keywords ks alone: gV puts the keywords' values in the parameters' order -/
structure Clk (P : Program) (w : World) (K : PySem.W.Frag) (mg : Str → Option Value) (base : Heap) (k : Nat) (x : Str) (ks : List Str) (gV : List V → List V) (sp : Sp) : Prop where
  ex : ∃ (f : Addr) (fd : FuncData) (ps : List Str) (g : List Value → List Value), FnG P w K mg base CX0 k f fd ps sp ∧ mg x = some (.ref f) ∧ PySem.W.keepIn K (.ref f) = true ∧
    (∀ (s : Shared) (ws : List Value), K.In s.heap → ws.length = ks.length → BindsTo s fd ⟨[], ks.zip ws⟩ (ps.zip (g ws))) ∧ ∀ {zs : List V} {ws : List Value}, Vals zs ws → Vals (gV zs) (g ws)

theorem kw_len1 {ta : TE} {a : Str} (σ : L2.St) (H : Hp) (Q : List V → Hp → Prop) (h : tCons ta tNil σ H Q) : tCons ta tNil σ H fun zs H1 => zs.length = [a].length ∧ Q zs H1 := by
  have e : (fun (v : V) (H1 : Hp) => ([v] : List V).length = [a].length ∧ Q [v] H1) = fun v H1 => Q [v] H1 := by
    funext v H1
    simp
  show ta σ H fun (v : V) (H1 : Hp) => ([v] : List V).length = [a].length ∧ Q [v] H1
  rw [e]
  exact h
theorem kw_len2 {ta tb : TE} {a b : Str} (σ : L2.St) (H : Hp) (Q : List V → Hp → Prop) (h : tCons ta (tCons tb tNil) σ H Q) : tCons ta (tCons tb tNil) σ H fun zs H1 => zs.length = [a, b].length ∧ Q zs H1 := by
  have e : (fun (v : V) (H1 : Hp) => tb σ H1 fun (u : V) (H2 : Hp) => ([v, u] : List V).length = [a, b].length ∧ Q [v, u] H2) = fun v H1 => tb σ H1 fun u H2 => Q [v, u] H2 := by
    funext v H1
    have e2 : (fun (u : V) (H2 : Hp) => ([v, u] : List V).length = [a, b].length ∧ Q [v, u] H2) = fun u H2 => Q [v, u] H2 := by
      funext u H2
      simp
    rw [e2]
  show ta σ H fun (v : V) (H1 : Hp) => tb σ H1 fun (u : V) (H2 : Hp) => ([v, u] : List V).length = [a, b].length ∧ Q [v, u] H2
  rw [e]
  exact h

section
variable {X : Cx} {CX : CXT} {k j n : Nat} {f : Addr} {fd : FuncData} {ps ks : List Str} {sp : Sp} {dvs : List V} {ds : List Value} {E : XK} {x : Str} {p pos : Pos} {e : Expr} {es : List Expr} {t tk : TA} {kws : List Keyword} {gV : List V → List V}
/-- behind a callee -/
theorem after {pins : List (Addr × Obj)} {σ : L2.St} {H : Hp} {s s' : Shared} {Q : VK} {r : Result} (I : Inv X pins σ H s) (h : CR CX0 X.stack X.prog X.w H s Q E r s') : ∃ u, r = .ok (.ret u) ∧ EP X pins σ Q u s' := by
  match r, h with
  | .ok (.ret u), q => exact ⟨u, rfl, I.after q⟩
  | .ok .next, q => exact False.elim q
  | .ok .brk, q => exact False.elim q
  | .ok .cont, q => exact False.elim q
  | .error _, q => exact False.elim q
def tCl (sp : Sp) (dvs : List V) (n : Nat) (t : TA) : TE := fun σ H Q => t σ H fun vs H1 => sp (vs ++ dvs) H1 Q E0
/-- f(e, ..) -/
theorem pe_cl (C : Cl X.prog X.w X.K X.mg X.base k x n dvs sp) (g : X.A.guards = some []) (hr : Room j X.A) (hkj : k ≤ j) (hg : Gl X x) (ha : PA X (e :: es) t)
    (hdb : (x == ("__debug__" : Str)) = false := by decide) (he : starEach (e :: es) X.env = (false, eval e X.env) :: starEach es X.env := by rfl) (hpl : (backTo pos (starEach es X.env)).any (·.1) = false := by rfl) :
    PE X (.Call (.Name x p) (e :: es) [] pos) (tCl sp dvs n t) := by
  obtain ⟨f, fd, ps, us0, F, _, hm, hk, hb, hd⟩ := C.ex
  constructor
  intro pins s σ H Q I h
  refine wpAny_Call_Name_kw (ld_glob I hg hm ?_ hdb)
  refine PySem.W.callWith_K (h₀ := X.base) I.ok.mod.kin hk ?_ he hpl
  refine thn (ha.run pos pins s σ H _ I h) ?_
  rintro us s1 ⟨vs, H1, I1, r, q⟩
  have r2 : Vals (vs ++ dvs) (us ++ us0) := r.append hd
  have hl : (us ++ us0).length = ps.length := r2.length.symm.trans (F.arity _ _ _ _ q)
  refine ⟨I1.kIn, wpAny_call (codeAny_mono (F.go g (hr.mono hkj) I1.env0 (hb s1 us I1.kIn hl) r2 q) ?_)⟩
  intro r s' z
  obtain ⟨u, z1, z2⟩ := after I1 z
  subst z1
  exact z2
/-- f(k = e, ..) -/
theorem pe_clk (C : Clk X.prog X.w X.K X.mg X.base k x ks gV sp) (g : X.A.guards = some []) (hr : Room j X.A) (hkj : k ≤ j) (hg : Gl X x) (hkw : PK X kws tk)
    (hn : ∀ σ H Q, tk σ H Q → tk σ H fun zs H1 => zs.length = ks.length ∧ Q zs H1)
    (hall : (backToKw pos (keywordEach kws X.env)).all (·.1.isSome) = true := by rfl) (hks : (backToKw pos (keywordEach kws X.env)).filterMap (·.1) = ks := by rfl) (hdb : (x == ("__debug__" : Str)) = false := by decide)
    (hpl : ((backTo pos (starEach [] X.env)).any (·.1) || (backToKw pos (keywordEach kws X.env)).any (·.1.isNone)) = false := by rfl) :
    PE X (.Call (.Name x p) [] kws pos) (tCl (fun vs => sp (gV vs)) [] 0 tk) := by
  obtain ⟨f, fd, ps, gf, F, hm, hk, hb, rel⟩ := C.ex
  constructor
  intro pins s σ H Q I h
  have h' := hn σ H _ h
  refine wpAny_Call_Name_kw (ld_glob I hg hm ?_ hdb)
  refine PySem.W.callWith_KW0 (h₀ := X.base) I.ok.mod.kin hk hall ?_ hpl
  refine thn (hkw.run pos pins s σ H _ I h') ?_
  rintro ws s1 ⟨zs, H1, I1, rz, hzl, q⟩
  rw [List.append_nil] at q
  refine ⟨I1.kIn, ?_⟩
  rw [hks]
  refine wpAny_call (codeAny_mono (F.go (us := gf ws) g (hr.mono hkj) I1.env0 (hb s1 ws I1.kIn (rz.length.symm.trans hzl)) (rel rz) q) ?_)
  intro r s' z
  obtain ⟨u, z1, z2⟩ := after I1 z
  subst z1
  exact z2
end

/-! ### repr of data -/
section
variable {X : Cx}
/-- repr(x), x data without dicts whose text is not too long -/
def rRepr (K : PySem.W.Frag) : List V → Hp → VK → Prop := fun xs H Q => ∃ (a : Addr) (d : PyData), xs = [.ref a] ∧ Dp K H (.ref a) d ∧ d.showable = true ∧ d.hasDict = false ∧ d.depth ≤ 50 ∧ d.shown.length ≤ sizeLine ∧ Q (.str d.shown) H
theorem call_repr_data (g : X.A.guards = some []) (hu : X.A.units + 64 < cLine) : CallR X (.builtin "repr") (rRepr X.K) := by
  rintro pins s σ H xs us Q I r ⟨a, d, rfl, hd, h1, h2, h3, h4, q⟩
  obtain ⟨u, rfl, ru⟩ := vals1 r
  cases (show u = Value.ref a from ru)
  obtain ⟨as, rd⟩ := Dp.reads I d _ _ hd rfl
  refine repr_of_reads' rd h1 (fun z => by rw [h2] at z; cases z) g (by omega) (fun _ _ z => z) (fun h' u tk k => ?_) h4
  exact ⟨.str d.shown, H, I.kept k, ⟨_, rfl⟩, q⟩
end
end G

namespace G
open PySem PySem.Spec PyProof.Rows L2
/-! ### the law's own call -/
section
variable {P : Program} {w : World} {K : PySem.W.Frag} {mg mb : Str → Option Value} {k : Nat} {fa a : Addr} {fd : FuncData} {x : Str} {sp : Sp} {s : Shared} {vs : List Value} {ns : List Int}
abbrev LawEnd (s : Shared) (r : Result) (s' : Shared) : Prop := r = .ok (.ret (.bool true)) ∧ OldK s.heap s'.heap ∧ s'.os = s.os ∧ AllBare s'.gens
/-- where at most the script is tracked -/
theorem enter_at {H : Hp} (KX : K.In s.heap) (n1 : s.heap.Ns mainGlobals mg) (n2 : s.heap.Ns builtinsNs mb) (n3 : ∀ y : Str, y ≠ "__name__" → mb y = bootBuiltins y) (n4 : s.heap.NoLimit) (n5 : s.gens = #[])
    (ha : s.heap.get? a = some { cls := .type "list", data := .seq vs.toArray }) (hr : Room k callerA)
    (F : ∀ base : Heap, K.In base → base.Ns mainGlobals mg → FnG P w K mg base CX0 k fa fd [x] sp) (hb : ∀ (t : Shared) (u : Value), BindsTo t fd ⟨[u], []⟩ [(x, u)])
    (only : Only H) (alone : ∀ b, H b ≠ none → b = a ∧ K.lookup a = none) (hok : HOk P w H s.heap) (q : sp [.ref a] H (fun v _ => v = .bl true) E0) :
    codeAny (model P w) callerA (.call (.ref fa) ⟨[.ref a], []⟩) (LawEnd s) s := by
  have stays : ∀ {b : Addr} {o : Obj}, s.heap.get? b = some o → H b = none → (hidT s.heap H).get? b = some o := fun z n => hidT_get z n
  have free_of : ∀ {b : Addr}, ¬ (b = a ∧ K.lookup a = none) → H b = none := by
    intro b nb
    refine Classical.byContradiction fun z => nb (alone b z)
  have nsKeep : ∀ {b : Addr} {m : Str → Option Value}, s.heap.Ns b m → (hidT s.heap H).Ns b m := by
    rintro b m ⟨o, es, ep, z, d, rest⟩
    refine ⟨o, es, ep, stays z (free_of ?_), d, rest⟩
    rintro ⟨e, _⟩
    rw [e, ha] at z
    rw [← Option.some.inj z] at d
    cases d
  have inBase : K.In (hidT s.heap H) := by
    intro b o z
    refine stays (KX b o z) (free_of ?_)
    rintro ⟨e, n⟩
    rw [e, n] at z
    cases z
  have md : Mod K mg (hidT s.heap H) := by
    refine ⟨inBase, nsKeep n1, ⟨mb, nsKeep n2, n3⟩, ?_⟩
    obtain ⟨mc, m1, m2⟩ := n4
    exact ⟨mc, nsKeep m1, m2⟩
  have start0 : Env0 P w K mg (hidT s.heap H) callerA [] s H := by
    refine ⟨rfl, md, fun b o z => of_hidT z, Nat.le_of_eq (hidT_size _ _), trivial, ?_, hok, .of_eq n5⟩
    intro b z
    cases z
  have run := (F _ inBase (nsKeep n1)).go rfl hr start0 (hb s (.ref a)) (show Vals [V.ref a] [Value.ref a] from .cons rfl .nil) q
  refine codeAny_mono run ?_
  intro r t z
  match r, z with
  | .error _, z => exact z.elim
  | .ok .next, z => exact z.elim
  | .ok .brk, z => exact z.elim
  | .ok .cont, z => exact z.elim
  | .ok (.ret u), ⟨v, H', z1, z2, un, hok', rv, e⟩ =>
    have e' : v = .bl true := e
    subst e'
    have eu : u = Value.bool true := rv
    subst eu
    refine ⟨rfl, OldK.of_keep ?_, z1, z2⟩
    intro b o z
    cases hq : H b with
    | none => exact un.keep b o z hq (fun n => nomatch n) (fun n => nomatch n)
    | some u =>
      obtain n | ⟨ob, xs, n⟩ := only b
      · rw [hq] at n
        cases n
      · have n' := un.frzs b ob _ n
        have y1 := (hok b _ n).1
        have y2 := (hok' b _ n').1
        rw [z] at y1
        rw [y2, ← y1]
def Hp.nil : Hp := fun _ => none
def Hp.one (a : Addr) (o : Obj) (xs : List V) : Hp := fun b => if b = a then some (.frz o (.lst xs)) else none
theorem law_callG (KX : K.In s.heap) (n1 : s.heap.Ns mainGlobals mg) (n2 : s.heap.Ns builtinsNs mb) (n3 : ∀ y : Str, y ≠ "__name__" → mb y = bootBuiltins y) (n4 : s.heap.NoLimit) (n5 : s.gens = #[])
    (ha : s.heap.get? a = some { cls := .type "list", data := .seq vs.toArray }) (hi : IntsAre vs ns) (hl : ns.length ≤ sizeLine) (hr : Room k callerA)
    (F : ∀ base : Heap, K.In base → base.Ns mainGlobals mg → FnG P w K mg base CX0 k fa fd [x] sp) (hb : ∀ (t : Shared) (u : Value), BindsTo t fd ⟨[u], []⟩ [(x, u)])
    (hsp : ∀ H : Hp, SqL K H a (ns.map V.int) → sp [.ref a] H (fun v _ => v = .bl true) E0) :
    codeAny (model P w) callerA (.call (.ref fa) ⟨[.ref a], []⟩) (LawEnd s) s := by
  have rv := vals_ints hi
  have hlen := hi.length
  by_cases own : K.lookup a = none
  · have at_a : Hp.one a { cls := .type "list", data := .seq vs.toArray } (ns.map V.int) a = some (.frz { cls := .type "list", data := .seq vs.toArray } (.lst (ns.map V.int))) := if_pos rfl
    refine enter_at (H := Hp.one a { cls := .type "list", data := .seq vs.toArray } (ns.map V.int)) KX n1 n2 n3 n4 n5 ha hr F hb (fun b => ?_) (fun b z => ⟨?_, own⟩) (fun b u z => ?_) (hsp _ (.inl (.inr ⟨_, at_a⟩)))
    · by_cases e : b = a
      · exact .inr ⟨_, _, by rw [e]; exact at_a⟩
      · exact .inl (if_neg e)
    · exact Classical.byContradiction fun e => z (if_neg e)
    · have e : b = a := Classical.byContradiction fun e => by
        rw [show Hp.one a _ _ b = none from if_neg e] at z
        cases z
      subst e
      rw [at_a] at z
      cases z
      exact ⟨ha, by rw [List.length_map]; exact hl, vs, _, rv, ha⟩
  · obtain ⟨o, e⟩ := Option.ne_none_iff_exists'.mp own
    have e' := KX a o e
    rw [ha] at e'
    have eo := Option.some.inj e'
    subst eo
    refine enter_at (H := Hp.nil) KX n1 n2 n3 n4 n5 ha hr F hb (fun b => .inl rfl) (fun b z => (z rfl).elim) (fun b u z => by cases (show (none : Option HO) = some u from z)) (hsp _ ?_)
    exact .inr ⟨_, vs.toArray, _, e, rfl, rfl, rfl, by rw [List.size_toArray, hlen]; exact hl, by simpa using rv⟩
end
/-- the end of a law's row -/
theorem walk_G {l : PySem.W.OpenLaw} {n k : Nat} {q : Program} {loose : List Str} {XP : (Str → Option Value) → Heap → Prop} {YP : World → Heap → Prop} {d : DefRec} {x : Str}
    (hn : l.most = some n) (hn2 : n ≤ sizeLine) (hdf : d.params.defaults = []) (hr : Room k callerA)
    (F : ∀ (w : World) (mg : Str → Option Value) (fa : Addr) (h : Heap), YP w h → h.Ns mainGlobals mg → mg d.name = some (.ref fa) →
      ∃ (K : PySem.W.Frag) (fd : FuncData) (sp : Sp), K.In h ∧ (∀ (s : Shared) (u : Value), BindsTo s fd ⟨[u], []⟩ [(x, u)]) ∧
        (∀ (H : Hp) (a : Addr) (ns : List Int), ns.length ≤ n → SqL K H a (ns.map V.int) → sp [.ref a] H (fun v _ => v = .bl true) E0) ∧
        ∀ base : Heap, K.In base → base.Ns mainGlobals mg → FnG l.prog w K mg base CX0 k fa fd [x] sp) :
    PySem.W.WalkO q loose XP YP l.row.toRowW d [] (fun f vs => PySem.call f vs) := by
  refine Att.attach_call hn hdf ?_
  intro w s₀ s₁ mg mb fa o pm cd doc a vs ns G Y ho hd hcd hmg hobj hints hlen hg
  obtain ⟨K, fd, sp, z1, z2, z3, z4⟩ := F w mg fa _ Y G.T.g hmg
  exact law_callG z1 G.T.g G.T.b G.T.builtins G.T.nolimit hg hobj hints (Nat.le_trans hlen hn2) hr z4 z2 fun H hS => z3 H a ns hlen hS

/-! ### promises by the number of arguments -/
def spec1 (R : V → Hp → VK → XK → Prop) : Sp := fun vs H Q E => ∃ a, vs = [a] ∧ R a H Q E
def spec2 (R : V → V → Hp → VK → XK → Prop) : Sp := fun vs H Q E => ∃ a b, vs = [a, b] ∧ R a b H Q E
def spec3 (R : V → V → V → Hp → VK → XK → Prop) : Sp := fun vs H Q E => ∃ a b c, vs = [a, b, c] ∧ R a b c H Q E
theorem ar1 {R : V → Hp → VK → XK → Prop} (vs : List V) (H : Hp) (Q : VK) (E : XK) (h : spec1 R vs H Q E) : vs.length = 1 := by
  obtain ⟨a, rfl, _⟩ := h
  rfl
theorem ar2 {R : V → V → Hp → VK → XK → Prop} (vs : List V) (H : Hp) (Q : VK) (E : XK) (h : spec2 R vs H Q E) : vs.length = 2 := by
  obtain ⟨a, b, rfl, _⟩ := h
  rfl
theorem ar3 {R : V → V → V → Hp → VK → XK → Prop} (vs : List V) (H : Hp) (Q : VK) (E : XK) (h : spec3 R vs H Q E) : vs.length = 3 := by
  obtain ⟨a, b, c, rfl, _⟩ := h
  rfl

/-! ### the built-ins' names -/
structure Bt (mg : Str → Option Value) : Prop where
  abs : mg "abs" = none
  all : mg "all" = none
  any : mg "any" = none
  bool : mg "bool" = none
  divmod : mg "divmod" = none
  enumerate : mg "enumerate" = none
  int : mg "int" = none
  isinstance : mg "isinstance" = none
  len : mg "len" = none
  list : mg "list" = none
  max : mg "max" = none
  min : mg "min" = none
  range : mg "range" = none
  repr : mg "repr" = none
  reversed : mg "reversed" = none
  set : mg "set" = none
  sorted : mg "sorted" = none
  sum : mg "sum" = none
  tuple : mg "tuple" = none
  zip : mg "zip" = none
def btNames : List Str := ["abs", "all", "any", "bool", "divmod", "enumerate", "int", "isinstance", "len", "list", "max", "min", "range", "repr", "reversed", "set", "sorted", "sum", "tuple", "zip"]
theorem Bt.of {mg : Str → Option Value} (h : ∀ x ∈ btNames, mg x = none) : Bt mg := by
  constructor <;> exact h _ (by unfold btNames; simp)

/-! ### heaps: what stands, but for one changing list at a -/
/-- every object but that at a is as it was -/
def Grow (a : Addr) (H H' : Hp) : Prop := ∀ b o, b ≠ a → H b = some o → H' b = some o
theorem Grow.refl (a : Addr) (H : Hp) : Grow a H H := fun _ _ _ h => h
theorem Grow.trans {a : Addr} {H H1 H2 : Hp} (x : Grow a H H1) (y : Grow a H1 H2) : Grow a H H2 := fun b o n h => y b o n (x b o n h)
theorem Grow.of {a : Addr} {H H' : Hp} (x : Same H H') : Grow a H H' := fun b o _ h => x b o h
theorem Grow.new {a p : Addr} {H H' : Hp} {o : HO} (x : Grow a H H') (h : H' p = none) : Grow a H (upd H' p o) := fun b u n z => by
  rw [upd_ne (ne_of_none (x b u n z) h)]
  exact x b u n z
theorem Grow.put {a : Addr} {H H' : Hp} {o : HO} (x : Grow a H H') : Grow a H (upd H' a o) := fun b u n z => by
  rw [upd_ne n]
  exact x b u n z
theorem _root_.L2.Same.new {p : Addr} {H H' : Hp} {o : HO} (x : Same H H') (h : H' p = none) : Same H (upd H' p o) := fun b u z => by
  rw [upd_ne (ne_of_none (x b u z) h)]
  exact x b u z
/-- an object that H does not know changes -/
theorem _root_.L2.Same.mut {p : Addr} {H H' : Hp} {o : HO} (x : Same H H') (h : H p = none) : Same H (upd H' p o) := fun b u z => by
  rw [upd_ne (ne_of_none z h)]
  exact x b u z
theorem _root_.L2.Same.tup {K : PySem.W.Frag} {H H' : Hp} {a : Addr} {xs : List V} (e : Same H H') (h : SqT K H a xs) : SqT K H' a xs := by
  rcases h with (h | ⟨o, h⟩) | h
  · exact .inl (.inl (e _ _ h))
  · exact .inl (.inr ⟨o, e _ _ h⟩)
  · exact .inr h
theorem mulc {i j : Int} (h : 0 ≤ i ∧ i ≤ 18446744073709551615) : CMul i j := .inl (by omega)
theorem mulc' {i j : Int} (h : 0 ≤ j ∧ j ≤ 18446744073709551615) : CMul i j := .inr (by omega)
theorem divw {i j : Int} (h : 0 < j) (h2 : j < 2 ^ 64) : CDivW i j := wide_div h (b := 64) (by omega) (by decide) (by decide)
theorem divp {i j : Int} (h : 0 < j) (h2 : j < 2 ^ 64) : CDivP i j := ⟨h, PyProof.noPylong_of_log2 (Nat.lt_of_lt_of_le (PySem.Flt.log2_lt_of (by decide : 0 < 64) (by omega)) (by decide))⟩
end G

namespace G
open PySem PySem.Spec PyProof.Rows L2
theorem blT {Q : VK} {H : Hp} {p : Prop} [Decidable p] (h : p) (q : Q (.bl true) H) : Q (.bl (decide p)) H := by
  rw [decide_eq_true h]
  exact q
theorem blF {Q : VK} {H : Hp} {p : Prop} [Decidable p] (h : ¬ p) (q : Q (.bl false) H) : Q (.bl (decide p)) H := by
  rw [decide_eq_false h]
  exact q
theorem bl_t {p : Prop} [Decidable p] (h : p) : V.bl (decide p) = .bl true := congrArg V.bl (decide_eq_true h)
theorem bl_f {p : Prop} [Decidable p] (h : ¬ p) : V.bl (decide p) = .bl false := congrArg V.bl (decide_eq_false h)
theorem bl_nt {p : Prop} [Decidable p] (h : ¬ p) : V.bl (!decide p) = .bl true := by rw [decide_eq_false h]; rfl
theorem bl_nf {p : Prop} [Decidable p] (h : p) : V.bl (!decide p) = .bl false := by rw [decide_eq_true h]; rfl
theorem sz0 : ([] : List V).length ≤ sizeLine := Nat.zero_le _
theorem sz1 {a : V} : ([a] : List V).length ≤ sizeLine := by show 1 ≤ sizeLine; decide
theorem sz2 {a b : V} : ([a, b] : List V).length ≤ sizeLine := by show 2 ≤ sizeLine; decide
theorem sz3 {a b c : V} : ([a, b, c] : List V).length ≤ sizeLine := by show 3 ≤ sizeLine; decide
theorem sz4 {a b c d : V} : ([a, b, c, d] : List V).length ≤ sizeLine := by show 4 ≤ sizeLine; decide
theorem sz5 {a b c d e : V} : ([a, b, c, d, e] : List V).length ≤ sizeLine := by show 5 ≤ sizeLine; decide
theorem sz6 {a b c d e f : V} : ([a, b, c, d, e, f] : List V).length ≤ sizeLine := by show 6 ≤ sizeLine; decide
theorem max0 (x : Int) : 0 ≤ (if x > 0 then x else 0) := by
  split <;> omega
theorem at_ints {ns : List Int} {k : Nat} (h : k < ns.length) : atI (ns.map V.int) (k : Int) = some (.int ns[k]) := atI_nat (by rw [List.getElem?_map, List.getElem?_eq_getElem h]; rfl)
theorem c64 {i j : Int} (h : i.natAbs < 18446744073709551616 := by decide) : CMul (i) j := .inl (by omega)
theorem at0 {α : Type} {x y : α} : atI [x, y] 0 = some x := rfl
theorem at1 {α : Type} {x y : α} : atI [x, y] 1 = some y := rfl
theorem divNN {p m : Int} (h : 0 ≤ p) (hm : 0 < m) : 0 ≤ p / m := Int.ediv_nonneg h (by omega)
theorem says_mem {fa : List He.Fa} {fn : List He.DefD} {K : PySem.W.Frag} (c : He.SaysD fa fn K) {f : He.Fa} (h : f ∈ fa) : f.ok K = true :=
  List.all_eq_true.mp (He.ba (show ((fa.all fun f => f.ok K) && fn.all fun d => d.ok K) = true from congrArg (fun z : He.AlD => z.1) c)).1 f h
/-! ### keywords alone, no defaults -/
theorem FunD.kwOnly {K : PySem.W.Frag} {x qual : Str} {params : Arguments} {body : List Stmt} {scope : Scope} {kws : List (Str × V)} {f : Addr} {fd : FuncData} {ps ks : List Str} {g : List Value → List Value}
    (F : FunD K x qual params body scope [] kws f fd)
    (h : ∀ (kV doc pm : Value) (an : Option Addr) (cdv ct : Value) (ws : List Value), ws.length = ks.length → bindArgs (PySem.W.fnOf x qual params body scope .none kV doc pm an cdv ct) ⟨[], ks.zip ws⟩ = pure (ps.zip (g ws))) :
    ∀ (s : Shared) (ws : List Value), K.In s.heap → ws.length = ks.length → BindsTo s fd ⟨[], ks.zip ws⟩ (ps.zip (g ws)) := by
  obtain ⟨oc, od, dV, kV, doc, pm, an, cdv, ct, osl, rfl, _, _, hD, _⟩ := F.ex
  intro s ws _ hl
  rcases hD with ⟨_, rfl⟩ | ⟨e, _⟩
  · exact BindsTo.of_eq (h kV doc pm an cdv ct ws hl)
  · exact (e rfl).elim

/-! ### plain data: ints below a bound, lists and tuples of such -/
mutual
def fine (c : Nat) : PyData → Bool
  | .none => true
  | .bool _ => true
  | .int i => decide (i.natAbs < 10 ^ c)
  | .str _ => false
  | .list ds => fineAll c ds
  | .tuple ds => fineAll c ds
  | .dict _ => false
def fineAll (c : Nat) : List PyData → Bool
  | [] => true
  | d :: ds => fine c d && fineAll c ds
end
mutual
def nodes : PyData → Nat
  | .list ds => 1 + nodesAll ds
  | .tuple ds => 1 + nodesAll ds
  | .none | .bool _ | .int _ | .str _ | .dict _ => 1
def nodesAll : List PyData → Nat
  | [] => 0
  | d :: ds => nodes d + nodesAll ds
end
theorem fineAll_iff {c : Nat} : ∀ {ds : List PyData}, fineAll c ds = true ↔ ∀ d ∈ ds, fine c d = true
  | [] => by simp [fineAll]
  | d :: ds => by simp [fineAll, fineAll_iff (ds := ds)]
theorem fineAll_map {α : Type} {c : Nat} {f : α → PyData} {xs : List α} (h : ∀ x ∈ xs, fine c (f x) = true) : fineAll c (xs.map f) = true :=
  fineAll_iff.mpr fun d hd => by
    obtain ⟨x, hx, rfl⟩ := List.mem_map.mp hd
    exact h x hx
theorem nodesAll_map {α : Type} {k : Nat} {f : α → PyData} : ∀ {xs : List α}, (∀ x ∈ xs, nodes (f x) ≤ k) → nodesAll (xs.map f) ≤ xs.length * k
  | [], _ => by simp [nodesAll]
  | x :: xs, h => by
    have h1 := h x List.mem_cons_self
    have h2 := nodesAll_map (f := f) (k := k) fun y hy => h y (List.mem_cons_of_mem x hy)
    rw [List.map_cons, nodesAll, List.length_cons, Nat.succ_mul]
    omega
theorem depthAll_map {α : Type} {k : Nat} {f : α → PyData} : ∀ {xs : List α}, (∀ x ∈ xs, (f x).depth ≤ k) → PyData.depthAll (xs.map f) ≤ k
  | [], _ => by simp [PyData.depthAll]
  | x :: xs, h => by
    have h1 := h x List.mem_cons_self
    have h2 := depthAll_map (f := f) (k := k) fun y hy => h y (List.mem_cons_of_mem x hy)
    rw [List.map_cons, PyData.depthAll]
    exact Nat.max_le.mpr ⟨h1, h2⟩
mutual
theorem fine_can {c : Nat} : ∀ d : PyData, fine c d = true → d.canLay0 = true
  | .none, _ => rfl
  | .bool _, _ => rfl
  | .int _, _ => rfl
  | .str _, h => by simp [fine] at h
  | .list ds, h => by
    rw [PyData.canLay0]
    exact fineAll_can ds (by simpa [fine] using h)
  | .tuple ds, h => by
    rw [PyData.canLay0]
    exact fineAll_can ds (by simpa [fine] using h)
  | .dict _, h => by simp [fine] at h
theorem fineAll_can {c : Nat} : ∀ ds : List PyData, fineAll c ds = true → PyData.canLayAll0 ds = true
  | [], _ => rfl
  | d :: ds, h => by
    have h' : fine c d = true ∧ fineAll c ds = true := by simpa [fineAll] using h
    rw [PyData.canLayAll0, fine_can d h'.1, fineAll_can ds h'.2]
    rfl
end
theorem pow_big {c : Nat} (hc : c ≤ 500) : 10 ^ c ≤ 2 ^ 1920 := Nat.le_trans (Nat.pow_le_pow_right (by decide) hc) (by decide +kernel)
mutual
theorem fine_show {c : Nat} (hc : c ≤ 500) : ∀ d : PyData, fine c d = true → d.showable = true
  | .none, _ => by simp [PyData.showable]
  | .bool _, _ => by simp [PyData.showable]
  | .int i, h => by
    have h' : i.natAbs < 10 ^ c := by simpa [fine] using h
    have := PySem.Flt.log2_lt_of (by decide : 0 < 1920) (Nat.lt_of_lt_of_le h' (pow_big hc))
    simpa [PyData.showable] using this
  | .str _, h => by simp [fine] at h
  | .list ds, h => by
    rw [PyData.showable]
    exact fineAll_show hc ds (by simpa [fine] using h)
  | .tuple ds, h => by
    rw [PyData.showable]
    exact fineAll_show hc ds (by simpa [fine] using h)
  | .dict _, h => by simp [fine] at h
theorem fineAll_show {c : Nat} (hc : c ≤ 500) : ∀ ds : List PyData, fineAll c ds = true → PyData.showableAll ds = true
  | [], _ => by simp [PyData.showableAll]
  | d :: ds, h => by
    have h' : fine c d = true ∧ fineAll c ds = true := by simpa [fineAll] using h
    rw [PyData.showableAll, fine_show hc d h'.1, fineAll_show hc ds h'.2]
    rfl
end
mutual
theorem fine_eqv {c : Nat} : ∀ d : PyData, fine c d = true → PyData.eqv d d = true
  | .none, _ => by simp [PyData.eqv]
  | .bool _, _ => by simp [PyData.eqv]
  | .int _, _ => by simp [PyData.eqv]
  | .str _, h => by simp [fine] at h
  | .list ds, h => by
    rw [PyData.eqv]
    exact fineAll_eqv ds (by simpa [fine] using h)
  | .tuple ds, h => by
    rw [PyData.eqv]
    exact fineAll_eqv ds (by simpa [fine] using h)
  | .dict _, h => by simp [fine] at h
theorem fineAll_eqv {c : Nat} : ∀ ds : List PyData, fineAll c ds = true → PyData.eqvAll ds ds = true
  | [], _ => by simp [PyData.eqvAll]
  | d :: ds, h => by
    have h' : fine c d = true ∧ fineAll c ds = true := by simpa [fineAll] using h
    rw [PyData.eqvAll, fine_eqv d h'.1, fineAll_eqv ds h'.2]
    rfl
end
theorem len_of (s : String) : ((s : Str)).length = s.length := PySem.ofString_length s
mutual
theorem fine_len {c : Nat} : ∀ d : PyData, fine c d = true → d.shown.length + 3 ≤ (c + 8) * nodes d
  | .none, _ => by
    rw [PyData.shown, len_of, nodes]
    have e : "None".length = 4 := rfl
    omega
  | .bool b, _ => by
    have e1 : "True".length = 4 := rfl
    have e2 : "False".length = 5 := rfl
    rw [PyData.shown, nodes]
    cases b
    · simp only [Bool.false_eq_true, if_false]
      rw [len_of]
      omega
    · simp only [if_true]
      rw [len_of]
      omega
  | .int i, h => by
    have h' : i.natAbs < 10 ^ c := by simpa [fine] using h
    rw [PyData.shown, len_of, nodes]
    by_cases hc : 0 < c
    · have := int_text_length_le10 hc h'
      omega
    · have e : c = 0 := by omega
      subst e
      have e2 : i = 0 := by
        have : i.natAbs < 1 := h'
        omega
      subst e2
      have e3 : (toString (0 : Int)).length = 1 := by decide
      omega
  | .str _, h => by simp [fine] at h
  | .list ds, h => by
    have h1 := fineAll_len ds (by simpa [fine] using h)
    have h2 := listText_len_le (PyData.shownAll ds)
    have e := Nat.mul_add (c + 8) 1 (nodesAll ds)
    rw [PyData.shown, nodes]
    omega
  | .tuple ds, h => by
    have h1 := fineAll_len ds (by simpa [fine] using h)
    have h2 := tupleText_len_le (PyData.shownAll ds)
    have e := Nat.mul_add (c + 8) 1 (nodesAll ds)
    rw [PyData.shown, nodes]
    omega
  | .dict _, h => by simp [fine] at h
theorem fineAll_len {c : Nat} : ∀ ds : List PyData, fineAll c ds = true → ((PyData.shownAll ds).map (·.length)).sum + 3 * (PyData.shownAll ds).length ≤ (c + 8) * nodesAll ds
  | [], _ => by simp [PyData.shownAll, nodesAll]
  | d :: ds, h => by
    have h' : fine c d = true ∧ fineAll c ds = true := by simpa [fineAll] using h
    have h1 := fine_len d h'.1
    have h2 := fineAll_len ds h'.2
    have e := Nat.mul_add (c + 8) (nodes d) (nodesAll ds)
    rw [PyData.shownAll, nodesAll, List.map_cons, List.sum_cons, List.length_cons]
    omega
end
/-- what repr and == ask of data -/
structure Good (d : PyData) : Prop where
  shaped : SeqAt.shaped d = true
  showable : d.showable = true
  noDict : d.hasDict = false
  deep : d.depth ≤ 50
  fits : d.shown.length ≤ sizeLine
  refl : PyData.eqv d d = true
theorem Good.of {c : Nat} {d : PyData} (h : fine c d = true) (hc : c ≤ 500) (hd : d.depth ≤ 50) (hn : (c + 8) * nodes d ≤ 16777216) : Good d :=
  ⟨by unfold SeqAt.shaped; rw [fine_can d h, Bool.true_and]; exact decide_eq_true (by omega), fine_show hc d h, PyData.hasDict_of_canLay d (fine_can d h), hd, by have := fine_len d h; rw [sizeLine_eq]; omega, fine_eqv d h⟩
theorem Good.int {c : Nat} {i : Int} (h : i.natAbs < 10 ^ c) (hc : c ≤ 500) : Good (.int i) :=
  Good.of (c := c) (by simpa [fine] using h) hc (by simp [PyData.depth]) (by rw [nodes]; omega)
theorem Good.eqD {K : PySem.W.Frag} {H : Hp} {x y : V} {d : PyData} {Q : VK} (g : Good d) (hx : Dp K H x d) (hy : Dp K H y d) (q : Q (.bl true) H) : rEqD K x y H Q :=
  ⟨d, d, hx, hy, g.shaped, g.shaped, by rw [g.refl]; exact q⟩
theorem Good.neD {K : PySem.W.Frag} {H : Hp} {x y : V} {d : PyData} {Q : VK} (g : Good d) (hx : Dp K H x d) (hy : Dp K H y d) (q : Q (.bl false) H) : rNeD K x y H Q :=
  ⟨d, d, hx, hy, g.shaped, g.shaped, by rw [g.refl]; exact q⟩
theorem Good.rep {K : PySem.W.Frag} {H : Hp} {a : Addr} {d : PyData} {Q : VK} (g : Good d) (hx : Dp K H (.ref a) d) (q : Q (.str d.shown) H) : rRepr K [.ref a] H Q :=
  ⟨a, d, rfl, hx, g.showable, g.noDict, g.deep, g.fits, q⟩

/-! ### data that stands in the heap, its nodes where N says -/
mutual
inductive Rp (N : Addr → Prop) (H : Hp) : V → PyData → Prop
  | non : Rp N H .non .none
  | bl (b : Bool) : Rp N H (.bl b) (.bool b)
  | int (i : Int) : Rp N H (.int i) (.int i)
  | lst {a : Addr} {xs : List V} {ds : List PyData} : N a → H a = some (.lst xs) → RpA N H xs ds → Rp N H (.ref a) (.list ds)
  | tup {a : Addr} {xs : List V} {ds : List PyData} : N a → H a = some (.tup xs) → RpA N H xs ds → Rp N H (.ref a) (.tuple ds)
inductive RpA (N : Addr → Prop) (H : Hp) : List V → List PyData → Prop
  | nil : RpA N H [] []
  | cons {v : V} {vs : List V} {d : PyData} {ds : List PyData} : Rp N H v d → RpA N H vs ds → RpA N H (v :: vs) (d :: ds)
end
section
variable {N N' : Addr → Prop} {H H' : Hp} {K : PySem.W.Frag}
mutual
theorem Rp.mono (hN : ∀ a, N a → N' a) (hH : ∀ a o, N a → H a = some o → H' a = some o) : ∀ (d : PyData) (v : V), Rp N H v d → Rp N' H' v d
  | .none, _, h => by cases h; exact .non
  | .bool b, _, h => by cases h; exact .bl b
  | .int i, _, h => by cases h; exact .int i
  | .str _, _, h => by cases h
  | .list ds, _, h => by
    cases h with
    | lst n e r => exact .lst (hN _ n) (hH _ _ n e) (RpA.mono hN hH ds _ r)
  | .tuple ds, _, h => by
    cases h with
    | tup n e r => exact .tup (hN _ n) (hH _ _ n e) (RpA.mono hN hH ds _ r)
  | .dict _, _, h => by cases h
theorem RpA.mono (hN : ∀ a, N a → N' a) (hH : ∀ a o, N a → H a = some o → H' a = some o) : ∀ (ds : List PyData) (vs : List V), RpA N H vs ds → RpA N' H' vs ds
  | [], _, h => by cases h; exact .nil
  | d :: ds, _, h => by
    cases h with
    | cons h1 h2 => exact .cons (Rp.mono hN hH d _ h1) (RpA.mono hN hH ds _ h2)
end
mutual
theorem Rp.dp : ∀ (d : PyData) (v : V), Rp N H v d → Dp K H v d
  | .none, _, h => by cases h; exact .non
  | .bool b, _, h => by cases h; exact .bl b
  | .int i, _, h => by cases h; exact .int i
  | .str _, _, h => by cases h
  | .list ds, _, h => by
    cases h with
    | lst n e r => exact .lst (SqL.of e) (RpA.dp ds _ r)
  | .tuple ds, _, h => by
    cases h with
    | tup n e r => exact .tup (SqT.of e) (RpA.dp ds _ r)
  | .dict _, _, h => by cases h
theorem RpA.dp : ∀ (ds : List PyData) (vs : List V), RpA N H vs ds → DpAll K H vs ds
  | [], _, h => by cases h; exact .nil
  | d :: ds, _, h => by
    cases h with
    | cons h1 h2 => exact .cons (Rp.dp d _ h1) (RpA.dp ds _ h2)
end
theorem Rp.same {v : V} {d : PyData} (h : Rp N H v d) (s : Same H H') : Rp N H' v d := Rp.mono (fun _ z => z) (fun a o _ e => s a o e) d v h
theorem RpA.same {vs : List V} {ds : List PyData} (h : RpA N H vs ds) (s : Same H H') : RpA N H' vs ds := RpA.mono (fun _ z => z) (fun a o _ e => s a o e) ds vs h
theorem Rp.grow {a : Addr} {v : V} {d : PyData} (h : Rp (· ≠ a) H v d) (g : Grow a H H') : Rp (· ≠ a) H' v d := Rp.mono (fun _ z => z) (fun b o n e => g b o n e) d v h
theorem RpA.grow {a : Addr} {vs : List V} {ds : List PyData} (h : RpA (· ≠ a) H vs ds) (g : Grow a H H') : RpA (· ≠ a) H' vs ds := RpA.mono (fun _ z => z) (fun b o n e => g b o n e) ds vs h
theorem Rp.off {a : Addr} {v : V} {d : PyData} {o : HO} (h : Rp (fun p => H p = none) H' v d) (e : H a = some o) : Rp (· ≠ a) H' v d := Rp.mono (fun b z => fun q => by rw [q, e] at z; cases z) (fun _ _ _ z => z) d v h
theorem RpA.length {vs : List V} {ds : List PyData} (h : RpA N H vs ds) : vs.length = ds.length := by
  induction ds generalizing vs with
  | nil => cases h; rfl
  | cons d ds ih =>
    cases h with
    | cons h1 h2 => rw [List.length_cons, List.length_cons, ih h2]
theorem RpA.app {vs us : List V} {ds es : List PyData} (h : RpA N H vs ds) (h' : RpA N H us es) : RpA N H (vs ++ us) (ds ++ es) := by
  induction ds generalizing vs with
  | nil => cases h; exact h'
  | cons d ds ih =>
    cases h with
    | cons h1 h2 => exact .cons h1 (ih h2)
theorem RpA.snoc {vs : List V} {ds : List PyData} {v : V} {d : PyData} (h : RpA N H vs ds) (h' : Rp N H v d) : RpA N H (vs ++ [v]) (ds ++ [d]) := h.app (.cons h' .nil)
theorem RpA.get {vs : List V} {ds : List PyData} (h : RpA N H vs ds) : ∀ {i : Nat} {d : PyData}, ds[i]? = some d → ∃ v, vs[i]? = some v ∧ Rp N H v d := by
  induction ds generalizing vs with
  | nil => intro i d e; simp at e
  | cons d0 ds ih =>
    cases h with
    | cons h1 h2 =>
      intro i d e
      cases i with
      | zero =>
        simp at e
        subst e
        exact ⟨_, rfl, h1⟩
      | succ i =>
        obtain ⟨v, e1, e2⟩ := ih h2 (i := i) (by simpa using e)
        exact ⟨v, by simpa using e1, e2⟩
theorem RpA.getV {vs : List V} {ds : List PyData} (h : RpA N H vs ds) {i : Nat} {v : V} (e : vs[i]? = some v) : ∃ d, ds[i]? = some d ∧ Rp N H v d := by
  have hi : i < ds.length := by
    have := (List.getElem?_eq_some_iff.mp e).1
    rw [← h.length]
    exact this
  obtain ⟨u, e1, e2⟩ := h.get (List.getElem?_eq_getElem hi)
  rw [e] at e1
  cases e1
  exact ⟨_, List.getElem?_eq_getElem hi, e2⟩
theorem RpA.ints (ns : List Int) : RpA N H (ns.map V.int) (ns.map PyData.int) := by
  induction ns with
  | nil => exact .nil
  | cons n ns ih => exact .cons (.int n) ih
theorem RpA.dropLast {vs : List V} {ds : List PyData} (h : RpA N H vs ds) : RpA N H vs.dropLast ds.dropLast := by
  induction ds generalizing vs with
  | nil => cases h; exact .nil
  | cons d ds ih =>
    cases h with
    | cons h1 h2 =>
      cases h2 with
      | nil => exact .nil
      | cons h3 h4 => exact .cons h1 (ih (.cons h3 h4))
theorem RpA.set {vs : List V} {ds : List PyData} (h : RpA N H vs ds) {v : V} {d : PyData} (h' : Rp N H v d) : ∀ i : Nat, RpA N H (vs.set i v) (ds.set i d) := by
  induction ds generalizing vs with
  | nil => cases h; intro i; exact .nil
  | cons d0 ds ih =>
    cases h with
    | cons h1 h2 =>
      intro i
      cases i with
      | zero => exact .cons h' h2
      | succ i => exact .cons h1 (ih h2 i)
end
theorem Rp.put {v : V} {d : PyData} {p : Addr} {o : HO} (h : Rp N H v d) (n : ¬ N p) : Rp N (upd H p o) v d := Rp.mono (fun _ z => z) (fun a u k e => (upd_ne (fun q => n (by rw [← q]; exact k))).trans e) d v h
theorem RpA.put {vs : List V} {ds : List PyData} {p : Addr} {o : HO} (h : RpA N H vs ds) (n : ¬ N p) : RpA N (upd H p o) vs ds := RpA.mono (fun _ z => z) (fun a u k e => (upd_ne (fun q => n (by rw [← q]; exact k))).trans e) ds vs h
theorem Rp.new {v : V} {d : PyData} {p : Addr} {o : HO} (h : Rp N H v d) (e : H p = none) : Rp N (upd H p o) v d := h.same (Same.new (Same.refl H) e)
theorem RpA.new {vs : List V} {ds : List PyData} {p : Addr} {o : HO} (h : RpA N H vs ds) (e : H p = none) : RpA N (upd H p o) vs ds := h.same (Same.new (Same.refl H) e)
theorem RpA.unsnoc : ∀ {ds : List PyData} {vs : List V} {d : PyData}, RpA N H vs (ds ++ [d]) → ∃ vs' v, vs = vs' ++ [v] ∧ RpA N H vs' ds ∧ Rp N H v d
  | [], _, d, h => by
    cases h with
    | cons h1 h2 =>
      cases h2
      exact ⟨[], _, rfl, .nil, h1⟩
  | d0 :: ds, _, d, h => by
    cases h with
    | cons h1 h2 =>
      obtain ⟨vs', v, rfl, h3, h4⟩ := RpA.unsnoc h2
      exact ⟨_ :: vs', v, rfl, .cons h1 h3, h4⟩
theorem set_last {α : Type} (xs : List α) (x y : α) : (xs ++ [x]).set xs.length y = xs ++ [y] := by
  induction xs with
  | nil => rfl
  | cons z xs ih => rw [List.cons_append, List.length_cons, List.set_cons_succ, ih]; rfl
theorem ixN_last {α : Type} (xs : List α) (x : α) : ixN (xs ++ [x]).length (-1) = some xs.length := by
  rw [List.length_append, List.length_singleton]
  unfold ixN
  rw [if_neg (by decide), if_pos (by omega)]
  congr 1
  omega
/-- new, and not the list that grows -/
abbrev Nw (H : Hp) (p : Addr) (a : Addr) : Prop := H a = none ∧ a ≠ p
abbrev New (H : Hp) (a : Addr) : Prop := H a = none
theorem nw_not {H : Hp} {p : Addr} : ¬ Nw H p p := fun z => z.2 rfl
/-- a list of ints stands -/
theorem Grow.seq {K : PySem.W.Frag} {a l : Addr} {H H' : Hp} {xs : List V} (g : Grow a H H') (n : l ≠ a) (h : SqL K H l xs) : SqL K H' l xs := by
  rcases h with (h | ⟨o, h⟩) | h
  · exact .inl (.inl (g _ _ n h))
  · exact .inl (.inr ⟨o, g _ _ n h⟩)
  · exact .inr h
theorem _root_.L2.Same.tracked {H H' : Hp} (e : Same H H') {a : Addr} (h : H a ≠ none) : H' a ≠ none := fun z => h (e.free z)
end G

namespace G
open PySem PySem.Spec PyProof.Rows L2
/-! ### the head's facts, one more look among them -/
abbrev AlE : Type := He.AlD × Bool
def obsE (n : Nat) (fa : List He.Fa) (fn : List He.DefD) (ex : PySem.W.Frag → Bool) (g : Addr → Option Obj) : AlE :=
  (He.obsD fa fn (He.frG g (He.asD g n)), ex (He.frG g (He.asD g n)))
def hookE (n : Nat) (fa : List He.Fa) (fn : List He.DefD) (ex : PySem.W.Frag → Bool) : PySem.W.Hook where
  α := AlE
  obs := fun s => obsE n fa fn ex s.heap.get?
  val := fun _ => (He.valD fn, true)
  says := fun _ h => ∃ K : PySem.W.Frag, K.In h ∧ He.SaysD fa fn K ∧ ex K = true
  of := fun _ _ e => ⟨_, He.frG_in, congrArg (fun z : AlE => z.1) e, congrArg (fun z : AlE => z.2) e⟩
  keeps := by
    rintro _ _ _ ⟨K, z1, z2, z3⟩ k
    exact ⟨K, PySem.W.Frag.In.keeps z1 k, z2, z3⟩
theorem obsE_eq {n : Nat} {fa : List He.Fa} {fn : List He.DefD} {ex : PySem.W.Frag → Bool} {g : Addr → Option Obj} {s : Shared} (h : ∀ a, g a = s.heap.get? a) : obsE n fa fn ex g = (hookE n fa fn ex).obs s := by
  have e : g = s.heap.get? := funext h
  rw [e] <;> rfl
/-! ### a call without arguments -/
def spec0 (R : Hp → VK → XK → Prop) : Sp := fun vs H Q E => vs = [] ∧ R H Q E
theorem ar0 {R : Hp → VK → XK → Prop} (vs : List V) (H : Hp) (Q : VK) (E : XK) (h : spec0 R vs H Q E) : vs.length = 0 := by
  obtain ⟨rfl, _⟩ := h
  rfl
theorem pe_cl0 {X : Cx} {k j n : Nat} {sp : Sp} {dvs : List V} {x : Str} {p pos : Pos} (C : Cl X.prog X.w X.K X.mg X.base k x n dvs sp) (g : X.A.guards = some []) (hr : Room j X.A) (hkj : k ≤ j) (hg : Gl X x) (hdb : (x == ("__debug__" : Str)) = false := by decide) :
    PE X (.Call (.Name x p) [] [] pos) (tCl sp dvs n tNil) := by
  obtain ⟨f, fd, ps, us0, F, _, hm, hk, hb, hd⟩ := C.ex
  constructor
  intro pins s σ H Q I h
  refine wpAny_Call_Name_kw (ld_glob I hg hm ?_ hdb)
  refine PySem.W.callWith_K0 I.kIn hk ?_
  have q : sp ([] ++ dvs) H Q E0 := h
  have hl : ([] ++ us0).length = ps.length := (show Vals ([] ++ dvs) ([] ++ us0) from hd).length.symm.trans (F.arity _ _ _ _ q)
  refine wpAny_call (codeAny_mono (F.go g (hr.mono hkj) I.env0 (hb s [] I.kIn hl) (show Vals ([] ++ dvs) ([] ++ us0) from hd) q) ?_)
  intro r s' z
  obtain ⟨u, z1, z2⟩ := after I z
  subst z1
  exact z2
/-! ### data that is only compared -/
theorem can_map {α : Type} {f : α → PyData} : ∀ {xs : List α}, (∀ x ∈ xs, (f x).canLay0 = true) → PyData.canLayAll0 (xs.map f) = true
  | [], _ => by simp [PyData.canLayAll0]
  | x :: xs, h => by
    rw [List.map_cons, PyData.canLayAll0, h x List.mem_cons_self, can_map fun y hy => h y (List.mem_cons_of_mem _ hy)]
    rfl
theorem shaped_map {α : Type} {f : α → PyData} {xs : List α} (h : ∀ x, (f x).canLay0 = true) (hd : ∀ x, (f x).depth ≤ 60) : SeqAt.shaped (.list (xs.map f)) = true := by
  unfold SeqAt.shaped
  rw [PyData.canLay0, can_map fun x _ => h x, Bool.true_and]
  refine decide_eq_true ?_
  rw [PyData.depth]
  have := depthAll_map (f := f) (xs := xs) (k := 60) fun x _ => hd x
  omega
theorem eqv_map {α : Type} [DecidableEq α] {f : α → PyData} (h : ∀ x y, PyData.eqv (f x) (f y) = decide (x = y)) : ∀ (xs ys : List α), PyData.eqvAll (xs.map f) (ys.map f) = decide (xs = ys)
  | [], [] => by simp [PyData.eqvAll]
  | [], y :: ys => by simp [PyData.eqvAll]
  | x :: xs, [] => by simp [PyData.eqvAll]
  | x :: xs, y :: ys => by
    rw [List.map_cons, List.map_cons, PyData.eqvAll, h, eqv_map h xs ys, Bool.eq_iff_iff]
    simp
theorem eqv_list {α : Type} [DecidableEq α] {f : α → PyData} (h : ∀ x y, PyData.eqv (f x) (f y) = decide (x = y)) (xs ys : List α) : PyData.eqv (.list (xs.map f)) (.list (ys.map f)) = decide (xs = ys) := by
  rw [PyData.eqv, eqv_map h]
theorem eqv_int (i j : Int) : PyData.eqv (.int i) (.int j) = decide (i = j) := by
  rw [PyData.eqv, Bool.eq_iff_iff]
  simp
theorem vals_getD : ∀ {zs : List V} {ws : List Value}, Vals zs ws → ∀ i : Nat, RelV (zs.getD i .non) (ws.getD i .none)
  | [], [], _, _ => rfl
  | _ :: _, _ :: _, .cons r _, 0 => r
  | _ :: zs, _ :: ws, .cons _ t, i + 1 => by
    simpa using vals_getD t i
/-! ### a test that comes out false -/
theorem if_skip {c : TT} {t u : TS} {D : Ends} {σ : L2.St} {H : Hp} (R : Hp → Prop) (hc : ∀ Q : Bool → Hp → Prop, (∀ H', R H' → Q false H') → c σ H Q) (k : ∀ H', R H' → u D σ H') : tIfS c t u D σ H :=
  hc _ fun H' r => by
    rw [if_neg Bool.false_ne_true]
    exact k H' r
theorem if_take {c : TT} {t u : TS} {D : Ends} {σ : L2.St} {H : Hp} (R : Hp → Prop) (hc : ∀ Q : Bool → Hp → Prop, (∀ H', R H' → Q true H') → c σ H Q) (k : ∀ H', R H' → t D σ H') : tIfS c t u D σ H :=
  hc _ fun H' r => by
    rw [if_pos rfl]
    exact k H' r
theorem good_ints {c : Nat} {ns : List Int} (h : ∀ x ∈ ns, x.natAbs < 10 ^ c) (hc : c ≤ 500) (hn : (c + 8) * (ns.length + 1) ≤ 16777216) : Good (.list (ns.map PyData.int)) := by
  refine Good.of (c := c) ?_ hc ?_ ?_
  · rw [fine]
    exact fineAll_map fun x hx => by simpa [fine] using h x hx
  · rw [PyData.depth]
    have := depthAll_map (f := PyData.int) (xs := ns) (k := 0) fun x _ => by simp [PyData.depth]
    omega
  · rw [nodes]
    have := nodesAll_map (f := PyData.int) (xs := ns) (k := 1) fun x _ => by simp [nodes]
    have := Nat.mul_le_mul_left (c + 8) (show 1 + nodesAll (ns.map PyData.int) ≤ ns.length + 1 by omega)
    omega
theorem dp_ints {K : PySem.W.Frag} {H : Hp} {a : Addr} {ns : List Int} (h : SqL K H a (ns.map V.int)) : Dp K H (.ref a) (.list (ns.map PyData.int)) :=
  .lst h (RpA.dp (N := fun _ => True) _ _ (RpA.ints ns))
/-! ### lists of numbers -/
def nV (k : Nat) : V := .int (k : Int)
def nsV (l : List Nat) : List V := l.map nV
theorem nsV_ints (l : List Nat) : nsV l = (l.map fun k : Nat => (k : Int)).map V.int := by unfold nsV; rw [List.map_map]; rfl
theorem nsV_snoc (l : List Nat) (k : Nat) : nsV (l ++ [k]) = nsV l ++ [.int (k : Int)] := by unfold nsV; rw [List.map_append]; rfl
theorem map_range_at {α : Type} {N i : Nat} {f : Nat → α} (h : i < N) : atI ((List.range N).map f) (i : Int) = some (f i) := atI_nat (by rw [List.getElem?_map, List.getElem?_range h]; rfl)
theorem map_range_set {α : Type} {N i : Nat} {f : Nat → α} {v : α} : ((List.range N).map f).set i v = (List.range N).map fun k => if k = i then v else f k := by
  apply List.ext_getElem?
  intro j
  rw [List.getElem?_set, List.getElem?_map, List.getElem?_map]
  by_cases h : j < N
  · rw [List.getElem?_range h]
    by_cases e : i = j
    · subst e
      rw [if_pos rfl, if_pos (by simp [h])]
      simp
    · rw [if_neg e]
      simp [show ¬ j = i from fun z => e z.symm]
  · have : (List.range N)[j]? = none := List.getElem?_eq_none (by simp; omega)
    rw [this]
    split
    · split
      · rename_i z
        simp at z
        omega
      · rfl
    · rfl
theorem ixN_nat {N i : Nat} (h : i < N) : ixN N (i : Int) = some i := by
  unfold ixN
  rw [if_pos (by omega), if_pos (by omega)]
  simp
theorem len_map_range {α : Type} {N : Nat} {f : Nat → α} : ((List.range N).map f).length = N := by simp
theorem rep_flat {α : Type} {n : Nat} {x : α} : (List.replicate n [x]).flatten = (List.range n).map fun _ => x := by
  induction n with
  | zero => rfl
  | succ n ih =>
    rw [List.replicate_succ', List.flatten_append, ih, List.range_succ, List.map_append]
    rfl
theorem small_sz {n : Nat} (h : n ≤ 16777216) : n ≤ sizeLine := by rw [sizeLine_eq]; exact h
theorem small_lt {n : Nat} (h : n < 16777216) : n < sizeLine := by rw [sizeLine_eq]; exact h
/-! ### range(i, j, c), any positive step -/
/-- how many turns -/
def turns (i j c : Int) : Nat := if i < j then ((j - i - 1) / c + 1).toNat else 0
theorem turns_size {i j c : Int} (hc : 0 < c) : Builtin.Range.rangeSize i j c = (turns i j c : Int) := by
  unfold Builtin.Range.rangeSize turns
  rw [if_pos hc]
  by_cases h : i < j
  · rw [if_pos h, if_pos h]
    have : 0 ≤ (j - i - 1) / c := Int.ediv_nonneg (by omega) (by omega)
    omega
  · rw [if_neg h, if_neg h]
    rfl
theorem turns_le {i j c : Int} (hc : 0 < c) (h : i ≤ j) : (turns i j c : Int) ≤ j - i := by
  unfold turns
  by_cases h : i < j
  · rw [if_pos h]
    have h1 : 0 ≤ (j - i - 1) / c := Int.ediv_nonneg (by omega) (by omega)
    have h2 : (j - i - 1) / c ≤ j - i - 1 := Int.ediv_le_self _ (by omega)
    omega
  · rw [if_neg h]
    omega
/-- a turn lies below the end -/
theorem turns_lt {i j c : Int} {k : Nat} (hc : 0 < c) (h : k < turns i j c) : i + k * c < j := by
  unfold turns at h
  by_cases hij : i < j
  · rw [if_pos hij] at h
    have h1 : 0 ≤ (j - i - 1) / c := Int.ediv_nonneg (by omega) (by omega)
    have h2 : (k : Int) ≤ (j - i - 1) / c := by omega
    have h3 : (k : Int) * c ≤ j - i - 1 := (Int.le_ediv_iff_mul_le hc).mp h2
    omega
  · rw [if_neg hij] at h
    omega
/-- and what lies below the end is a turn -/
theorem turns_mem {i j c : Int} {k : Nat} (hc : 0 < c) (h : i + k * c < j) : k < turns i j c := by
  unfold turns
  have hk : 0 ≤ (k : Int) * c := Int.mul_nonneg (by omega) (by omega)
  rw [if_pos (by omega)]
  have : (k : Int) ≤ (j - i - 1) / c := (Int.le_ediv_iff_mul_le hc).mpr (by omega)
  omega
def RgW (i j c : Int) : Prop := 0 ≤ i ∧ 0 ≤ j ∧ 0 < c ∧ i < 2 ^ 61 ∧ j < 2 ^ 61 ∧ c < 2 ^ 61
theorem RgW.fits {i j c : Int} (h : RgW i j c) : Builtin.Range.small i j c = true := by
  obtain ⟨h1, h2, h3, h4, h5, h6⟩ := h
  unfold Builtin.Range.small
  rw [turns_size h3]
  have h7 : 0 ≤ (turns i j c : Int) ∧ (turns i j c : Int) < 2 ^ 62 := by
    by_cases hij : i ≤ j
    · have := turns_le h3 hij
      omega
    · have : turns i j c = 0 := by unfold turns; rw [if_neg (by omega)]
      omega
  simp only [Builtin.Range.rangeFitsLong, Bool.and_eq_true, Bool.or_eq_true, decide_eq_true_eq, beq_iff_eq]
  rw [if_pos (show c > 0 from h3)]
  simp only [Bool.and_eq_true, decide_eq_true_eq]
  omega
def iRngW (ta : TA) : TI := fun σ H R => ta σ H fun vs H1 => ∃ i j c : Int, vs = [.int i, .int j, .int c] ∧ RgW i j c ∧ R (Itc i c (turns i j c)) H1
theorem pi_rangeW {X : Cx} {tg a b c : Expr} {ta : TA} {p pos : Pos} (hg : Gl X "range") (hm : X.mg "range" = none) (ha : PA X [a, b, c] ta)
    (hs : starEach [a, b, c] X.env = (false, eval a X.env) :: starEach [b, c] X.env := by rfl) (hpl : (backTo pos (starEach [b, c] X.env)).any (·.1) = false := by rfl) :
    PI X tg (.Call (.Name "range" p) [a, b, c] [] pos) (iRngW ta) := by
  constructor
  intro pins s σ H R I h
  refine Call_ (ld_blt I hg hm boot_range (PyProof.Rows.callWith_type1 (thn (ha.run pos pins s σ H _ I h) ?_) hs hpl))
  rintro us s1 ⟨vs, H1, I1, r1, i, j, k, e, hw, q⟩
  subst e
  have hk : 0 < k := hw.2.2.1
  obtain ⟨t, t', t'', rfl⟩ : ∃ t t' t'', us = [Value.int i t, Value.int j t', Value.int k t''] := by
    match us, r1 with
    | [_, _, _], .cons ⟨t, z⟩ (.cons ⟨t', z'⟩ (.cons ⟨t'', z''⟩ .nil)) => exact ⟨t, t', t'', by rw [z, z', z'']⟩
  have lo : k.natAbs < 2 ^ 61 := by
    have := hw.2.2.2.2.2
    omega
  refine call_range_3 (by omega) ?_ (.inl (PyProof.noPylong_of_log2 (Nat.lt_of_lt_of_le (PySem.Flt.log2_lt_of (by decide) lo) (by decide))))
  refine wpAny_pyIter_range (IsRange.new ..) hw.fits ?_
  have I2 : Inv X pins σ H1 { s1 with heap := s1.heap.push { cls := .type "range", data := .fields #[.int i t, .int j t', .int k t''] } } := I1.kept (t' := s1.toks) fun b o e => Heap.get?_push_of_some _ e
  refine pi_one (tk := s1.toks) I2 _ (turn_rangeC _ i k (turns i j k)) ?_ q
  have z1 : i + ((0 : Nat) : Int) * k = i := by simp
  have z2 : (turns i j k : Int) - ((0 : Nat) : Int) = Builtin.Range.rangeSize i j k := by rw [turns_size hk]; simp
  show IsRangeIter _ _ (i + ((0 : Nat) : Int) * k) ((turns i j k : Int) - ((0 : Nat) : Int)) k
  rw [z1, z2]
  exact Heap.get?_push_size _ rfl
/-! ### rules inside a comprehension: the fragment named -/
theorem kIx (R : PySem.W.Frag → V → V → Hp → VK → Prop) {X : Cx} {K : PySem.W.Frag} (h : X.K = K) (t : IxR X (R X.K)) : IxR X (R K) := h ▸ t
theorem kSl (R : PySem.W.Frag → V → Option Int → Option Int → Hp → VK → Prop) {X : Cx} {K : PySem.W.Frag} (h : X.K = K) (t : SlR X (R X.K)) : SlR X (R K) := h ▸ t
theorem kPi (R : PySem.W.Frag → TI) {X : Cx} {K : PySem.W.Frag} {tg l : Expr} (h : X.K = K) (t : PI X tg l (R X.K)) : PI X tg l (R K) := h ▸ t
theorem kPt (R : PySem.W.Frag → TT) {X : Cx} {K : PySem.W.Frag} {e : Expr} (h : X.K = K) (t : PT X e (R X.K)) : PT X e (R K) := h ▸ t
theorem kOp (R : PySem.W.Frag → V → V → Hp → VK → Prop) {X : Cx} {K : PySem.W.Frag} {f : Value → Value → Sem Value} (h : X.K = K) (t : OpR X f (R X.K)) : OpR X f (R K) := h ▸ t
theorem kCall (R : PySem.W.Frag → List V → Hp → VK → Prop) {X : Cx} {K : PySem.W.Frag} {f : Value} (h : X.K = K) (t : CallR X f (R X.K)) : CallR X f (R K) := h ▸ t
def rLenS (K : PySem.W.Frag) : List V → Hp → VK → Prop := fun xs H Q => ∃ p ys, xs = [.ref p] ∧ (SqL K H p ys ∨ SqT K H p ys) ∧ Q (.int ys.length) H
def rListOf (K : PySem.W.Frag) : List V → Hp → VK → Prop := fun xs H Q => ∃ p ys, xs = [.ref p] ∧ (SqL K H p ys ∨ SqT K H p ys) ∧ ∀ l, H l = none → Q (.ref l) (upd H l (.lst ys))
def tTru (ta : TE) (K : PySem.W.Frag) : TT := fun σ H Q => ta σ H fun x H' => ∃ k, TruV K x H' k ∧ Q k H'
/-- a scope within a scope -/
def relS (scope sc : Scope) : Scope := { scope with names := scope.names.map fun (n, k) => if (k == .free && sc.kind == .function && sc.names.lookup n == some .cell) then (n, .cell) else (n, k) }
theorem blkOk_in {N : List Str} {outer sc scope : Scope} {cl : List (Str × Addr)} {C : Addr} {env : Env} {own : List (Str × Nat)} (he : env.scope = sc) (h : blkC N (relS outer sc) scope own = true) : BlkOk N (compEnvC outer cl C env).scope scope own := by
  subst he
  exact blkOk_by h
end G

namespace G
open PySem PySem.Spec PyProof.Rows L2
theorem SqL.same {K : PySem.W.Frag} {l : Addr} {xs : List V} {H H' : Hp} (s : Same H H') (h : SqL K H l xs) : SqL K H' l xs := by
  rcases h with (h | ⟨o, h⟩) | h
  · exact .inl (.inl (s _ _ h))
  · exact .inl (.inr ⟨o, s _ _ h⟩)
  · exact .inr h
theorem SqT.same {K : PySem.W.Frag} {l : Addr} {xs : List V} {H H' : Hp} (s : Same H H') (h : SqT K H l xs) : SqT K H' l xs := Same.tup s h
theorem Rp.lift {H H1 H' : Hp} {v : V} {d : PyData} (h : Rp (New H1) H' v d) (s : Same H H1) : Rp (New H) H' v d := Rp.mono (fun a z => s.free z) (fun _ _ _ e => e) d v h
theorem RpA.lift {H H1 H' : Hp} {v : List V} {d : List PyData} (h : RpA (New H1) H' v d) (s : Same H H1) : RpA (New H) H' v d := RpA.mono (fun a z => s.free z) (fun _ _ _ e => e) d v h
theorem rpa_ints {N : Addr → Prop} {H : Hp} : ∀ {ns : List Int} {vs : List V}, RpA N H vs (ns.map PyData.int) → vs = ns.map V.int
  | [], _, h => by cases h; rfl
  | n :: ns, _, h => by
    cases h with
    | cons h1 h2 =>
      cases h1
      rw [rpa_ints h2]
      rfl
theorem rpa_bls {N : Addr → Prop} {H : Hp} : ∀ {ns : List Bool} {vs : List V}, RpA N H vs (ns.map PyData.bool) → vs = ns.map V.bl
  | [], _, h => by cases h; rfl
  | n :: ns, _, h => by
    cases h with
    | cons h1 h2 =>
      cases h1
      rw [rpa_bls h2]
      rfl
theorem Rp.ints {N : Addr → Prop} {H : Hp} {p : Addr} {ns : List Int} (h : Rp N H (.ref p) (.list (ns.map PyData.int))) : H p = some (.lst (ns.map V.int)) := by
  cases h with
  | lst n e r => rw [e, rpa_ints r]
theorem Rp.bls {N : Addr → Prop} {H : Hp} {p : Addr} {ns : List Bool} (h : Rp N H (.ref p) (.list (ns.map PyData.bool))) : H p = some (.lst (ns.map V.bl)) := by
  cases h with
  | lst n e r => rw [e, rpa_bls r]
theorem Rp.node {N : Addr → Prop} {H : Hp} {p : Addr} {ds : List PyData} (h : Rp N H (.ref p) (.list ds)) : N p ∧ ∃ vs, H p = some (.lst vs) ∧ RpA N H vs ds := by
  cases h with
  | lst n e r => exact ⟨n, _, e, r⟩
theorem Rp.isRef {N : Addr → Prop} {H : Hp} {v : V} {ds : List PyData} (h : Rp N H v (.list ds)) : ∃ p, v = .ref p ∧ N p ∧ ∃ vs, H p = some (.lst vs) ∧ RpA N H vs ds := by
  cases h with
  | lst n e r => exact ⟨_, rfl, n, _, e, r⟩
/-! ### comprehensions that only make new data -/
section
variable {g : TG} {tt : TT} {te : TE} {vs : List Nat} {σ : L2.St} {D : Addr} {Qd : Hp → Prop} {H1 : Hp}
theorem lcF_list {α : Type} {K : PySem.W.Frag} {a : Addr} {c : α → V} {src : List α} (p : α → Bool) (d : α → PyData) (hD : H1 D = none) (hS : SqL K H1 a (src.map c)) (hn : src.length < 16777216)
    (hs : ∀ (i : Nat) (x : α) (H : Hp) (R : V → Hp → Prop) (S : Hp → Prop), src[i]? = some x → Same H1 H → (p x = true → ∀ y H4, Same H H4 → Rp (New H) H4 y (d x) → R y H4) → (p x = false → ∀ H3, Same H H3 → S H3) →
      g (c x) (wipe σ vs) H fun σ2 H2 => wipe σ2 vs = wipe σ vs ∧ tt σ2 H2 fun b H3 => if b = true then te σ2 H3 R else S H3)
    (hd : ∀ H, Same H1 H → Rp (New H1) H (.ref D) (.list ((src.filter p).map d)) → Qd H) :
    ∃ W : Nat → Nat → Hp → Prop, (∃ m, W 0 m (upd H1 D (.lst []))) ∧ ∀ i m H, W i m H →
      ((Itl K a).stop i H ∧ Qd H) ∨ ((Itl K a).go i H ∧ ∃ Nx : Hp → Prop, (∀ H', Nx H' → ∃ m', m' < m ∧ W (i + 1) m' H') ∧ ∀ x H', (Itl K a).yld i H x H' → g x (wipe σ vs) H' fun σ2 H2 => wipe σ2 vs = wipe σ vs ∧ tt σ2 H2 fun b H3 =>
        if b = true then te σ2 H3 fun y H4 => ∃ acc, H4 D = some (.lst acc) ∧ acc.length < sizeLine ∧ Nx (upd H4 D (.lst (acc ++ [y]))) else Nx H3) := by
  refine lc_list (K := K) (a := a) (xs := src.map c) (fun i H => Same H1 H ∧ ∃ acc, acc.length ≤ i ∧ H D = some (.lst acc) ∧ RpA (Nw H1 D) H acc (((src.take i).filter p).map d)) ⟨(Same.refl _).new hD, [], Nat.le_refl 0, upd_same, .nil⟩ (fun i H _ z => SqL.same z.1 hS) ?_ ?_
  · rintro i x H hx ⟨s1, acc, al, eD, ra⟩
    rw [List.getElem?_map] at hx
    obtain ⟨z, hz, rfl⟩ := Option.map_eq_some_iff.mp hx
    have hi : i < src.length := (List.getElem?_eq_some_iff.mp hz).1
    have tk : src.take (i + 1) = src.take i ++ [z] := by rw [List.take_add_one, hz]; rfl
    refine hs i z H _ _ hz s1 (fun hp y H4 s4 ry => ?_) (fun hp H3 s3 => ?_)
    · refine ⟨acc, s4 _ _ eD, small_lt (by omega), (s1.trans s4).mut hD, acc ++ [y], by rw [List.length_append]; exact Nat.succ_le_succ al, upd_same, ?_⟩
      rw [tk, List.filter_append, List.map_append, List.filter_cons, hp]
      refine RpA.put ((ra.same s4).app (.cons (Rp.mono (fun b hb => ⟨s1.free hb, ne_of_none eD hb |>.symm⟩) (fun _ _ _ e => e) _ _ ry) .nil)) nw_not
    · refine ⟨s1.trans s3, acc, by omega, s3 _ _ eD, ?_⟩
      rw [tk, List.filter_append, List.map_append, List.filter_cons, hp]
      simpa using ra.same s3
  · rintro H ⟨s1, acc, al, eD, ra⟩
    rw [List.length_map, List.take_length] at ra
    exact hd H s1 (.lst hD eD (RpA.mono (fun b z => z.1) (fun _ _ _ e => e) _ _ ra))
/-- .. without a test -/
theorem lcM_list {α : Type} {K : PySem.W.Frag} {a : Addr} {c : α → V} {src : List α} (d : α → PyData) (hD : H1 D = none) (hS : SqL K H1 a (src.map c)) (hn : src.length < 16777216)
    (hs : ∀ (i : Nat) (x : α) (H : Hp) (R : V → Hp → Prop) (S : Hp → Prop), src[i]? = some x → Same H1 H → (∀ y H4, Same H H4 → Rp (New H) H4 y (d x) → R y H4) →
      g (c x) (wipe σ vs) H fun σ2 H2 => wipe σ2 vs = wipe σ vs ∧ tt σ2 H2 fun b H3 => if b = true then te σ2 H3 R else S H3)
    (hd : ∀ H, Same H1 H → Rp (New H1) H (.ref D) (.list (src.map d)) → Qd H) :
    ∃ W : Nat → Nat → Hp → Prop, (∃ m, W 0 m (upd H1 D (.lst []))) ∧ ∀ i m H, W i m H →
      ((Itl K a).stop i H ∧ Qd H) ∨ ((Itl K a).go i H ∧ ∃ Nx : Hp → Prop, (∀ H', Nx H' → ∃ m', m' < m ∧ W (i + 1) m' H') ∧ ∀ x H', (Itl K a).yld i H x H' → g x (wipe σ vs) H' fun σ2 H2 => wipe σ2 vs = wipe σ vs ∧ tt σ2 H2 fun b H3 =>
        if b = true then te σ2 H3 fun y H4 => ∃ acc, H4 D = some (.lst acc) ∧ acc.length < sizeLine ∧ Nx (upd H4 D (.lst (acc ++ [y]))) else Nx H3) :=
  lcF_list (fun _ => true) d hD hS hn (fun i x H R S hx s k _ => hs i x H R S hx s (k rfl)) (fun H s r => hd H s (by rwa [List.filter_eq_self.mpr (fun _ _ => rfl)] at r))
/-- over a range -/
theorem lcF_range {lo : Int} {n : Nat} (p : Nat → Bool) (d : Nat → PyData) (hD : H1 D = none) (hn : n < 16777216)
    (hs : ∀ i H (R : V → Hp → Prop) (S : Hp → Prop), i < n → Same H1 H → (p i = true → ∀ y H4, Same H H4 → Rp (New H) H4 y (d i) → R y H4) → (p i = false → ∀ H3, Same H H3 → S H3) →
      g (.int (lo + i)) (wipe σ vs) H fun σ2 H2 => wipe σ2 vs = wipe σ vs ∧ tt σ2 H2 fun b H3 => if b = true then te σ2 H3 R else S H3)
    (hd : ∀ H, Same H1 H → Rp (New H1) H (.ref D) (.list (((List.range n).filter p).map d)) → Qd H) :
    ∃ W : Nat → Nat → Hp → Prop, (∃ m, W 0 m (upd H1 D (.lst []))) ∧ ∀ i m H, W i m H →
      ((Itr lo n).stop i H ∧ Qd H) ∨ ((Itr lo n).go i H ∧ ∃ Nx : Hp → Prop, (∀ H', Nx H' → ∃ m', m' < m ∧ W (i + 1) m' H') ∧ ∀ x H', (Itr lo n).yld i H x H' → g x (wipe σ vs) H' fun σ2 H2 => wipe σ2 vs = wipe σ vs ∧ tt σ2 H2 fun b H3 =>
        if b = true then te σ2 H3 fun y H4 => ∃ acc, H4 D = some (.lst acc) ∧ acc.length < sizeLine ∧ Nx (upd H4 D (.lst (acc ++ [y]))) else Nx H3) := by
  refine lc_range (fun i H => Same H1 H ∧ ∃ acc, acc.length ≤ i ∧ H D = some (.lst acc) ∧ RpA (Nw H1 D) H acc (((List.range i).filter p).map d)) ⟨(Same.refl _).new hD, [], Nat.le_refl 0, upd_same, .nil⟩ ?_ ?_
  · rintro i H hi ⟨s1, acc, al, eD, ra⟩
    refine hs i H _ _ hi s1 (fun hp y H4 s4 ry => ?_) (fun hp H3 s3 => ?_)
    · refine ⟨acc, s4 _ _ eD, small_lt (by omega), (s1.trans s4).mut hD, acc ++ [y], by rw [List.length_append]; exact Nat.succ_le_succ al, upd_same, ?_⟩
      rw [List.range_succ, List.filter_append, List.map_append, List.filter_cons, hp]
      refine RpA.put ((ra.same s4).app (.cons (Rp.mono (fun b hb => ⟨s1.free hb, ne_of_none eD hb |>.symm⟩) (fun _ _ _ e => e) _ _ ry) .nil)) nw_not
    · refine ⟨s1.trans s3, acc, by omega, s3 _ _ eD, ?_⟩
      rw [List.range_succ, List.filter_append, List.map_append, List.filter_cons, hp]
      simpa using ra.same s3
  · rintro H ⟨s1, acc, al, eD, ra⟩
    exact hd H s1 (.lst hD eD (RpA.mono (fun b z => z.1) (fun _ _ _ e => e) _ _ ra))
theorem lcM_range {lo : Int} {n : Nat} (d : Nat → PyData) (hD : H1 D = none) (hn : n < 16777216)
    (hs : ∀ i H (R : V → Hp → Prop) (S : Hp → Prop), i < n → Same H1 H → (∀ y H4, Same H H4 → Rp (New H) H4 y (d i) → R y H4) →
      g (.int (lo + i)) (wipe σ vs) H fun σ2 H2 => wipe σ2 vs = wipe σ vs ∧ tt σ2 H2 fun b H3 => if b = true then te σ2 H3 R else S H3)
    (hd : ∀ H, Same H1 H → Rp (New H1) H (.ref D) (.list ((List.range n).map d)) → Qd H) :
    ∃ W : Nat → Nat → Hp → Prop, (∃ m, W 0 m (upd H1 D (.lst []))) ∧ ∀ i m H, W i m H →
      ((Itr lo n).stop i H ∧ Qd H) ∨ ((Itr lo n).go i H ∧ ∃ Nx : Hp → Prop, (∀ H', Nx H' → ∃ m', m' < m ∧ W (i + 1) m' H') ∧ ∀ x H', (Itr lo n).yld i H x H' → g x (wipe σ vs) H' fun σ2 H2 => wipe σ2 vs = wipe σ vs ∧ tt σ2 H2 fun b H3 =>
        if b = true then te σ2 H3 fun y H4 => ∃ acc, H4 D = some (.lst acc) ∧ acc.length < sizeLine ∧ Nx (upd H4 D (.lst (acc ++ [y]))) else Nx H3) :=
  lcF_range (fun _ => true) d hD hn (fun i H R S hx s k _ => hs i H R S hx s (k rfl)) (fun H s r => hd H s (by rwa [List.filter_eq_self.mpr (fun _ _ => rfl)] at r))
/-- over a tuple -/
theorem lcM_tup {α : Type} {K : PySem.W.Frag} {a : Addr} {c : α → V} {src : List α} (d : α → PyData) (hD : H1 D = none) (hS : SqT K H1 a (src.map c)) (hn : src.length < 16777216)
    (hs : ∀ (i : Nat) (x : α) (H : Hp) (R : V → Hp → Prop) (S : Hp → Prop), src[i]? = some x → Same H1 H → (∀ y H4, Same H H4 → Rp (New H) H4 y (d x) → R y H4) →
      g (c x) (wipe σ vs) H fun σ2 H2 => wipe σ2 vs = wipe σ vs ∧ tt σ2 H2 fun b H3 => if b = true then te σ2 H3 R else S H3)
    (hd : ∀ H, Same H1 H → Rp (New H1) H (.ref D) (.list (src.map d)) → Qd H) :
    ∃ W : Nat → Nat → Hp → Prop, (∃ m, W 0 m (upd H1 D (.lst []))) ∧ ∀ i m H, W i m H →
      ((Itt K a).stop i H ∧ Qd H) ∨ ((Itt K a).go i H ∧ ∃ Nx : Hp → Prop, (∀ H', Nx H' → ∃ m', m' < m ∧ W (i + 1) m' H') ∧ ∀ x H', (Itt K a).yld i H x H' → g x (wipe σ vs) H' fun σ2 H2 => wipe σ2 vs = wipe σ vs ∧ tt σ2 H2 fun b H3 =>
        if b = true then te σ2 H3 fun y H4 => ∃ acc, H4 D = some (.lst acc) ∧ acc.length < sizeLine ∧ Nx (upd H4 D (.lst (acc ++ [y]))) else Nx H3) := by
  refine lc_it (walk_tup (xs := src.map c)) (fun i H => Same H1 H ∧ ∃ acc, acc.length ≤ i ∧ H D = some (.lst acc) ∧ RpA (Nw H1 D) H acc ((src.take i).map d)) ⟨(Same.refl _).new hD, [], Nat.le_refl 0, upd_same, .nil⟩ (fun i H _ z => SqT.same z.1 hS) ?_ ?_
  · rintro i x H H' hi ⟨s1, acc, al, eD, ra⟩ ⟨eH, hx⟩
    have eH : H' = H := eH
    subst eH
    have hx : (src.map c)[i]? = some x := hx
    rw [List.getElem?_map] at hx
    obtain ⟨z, hz, rfl⟩ := Option.map_eq_some_iff.mp hx
    have hi : i < src.length := (List.getElem?_eq_some_iff.mp hz).1
    have tk : src.take (i + 1) = src.take i ++ [z] := by rw [List.take_add_one, hz]; rfl
    refine hs i z _ _ _ hz s1 (fun y H4 s4 ry => ?_)
    refine ⟨acc, s4 _ _ eD, small_lt (by omega), (s1.trans s4).mut hD, acc ++ [y], by rw [List.length_append]; exact Nat.succ_le_succ al, upd_same, ?_⟩
    rw [tk, List.map_append]
    exact RpA.put ((ra.same s4).app (.cons (Rp.mono (fun b hb => ⟨s1.free hb, (ne_of_none eD hb).symm⟩) (fun _ _ _ e => e) _ _ ry) .nil)) nw_not
  · rintro H ⟨s1, acc, al, eD, ra⟩
    rw [List.length_map, List.take_length] at ra
    exact hd H s1 (.lst hD eD (RpA.mono (fun b z => z.1) (fun _ _ _ e => e) _ _ ra))
/-- over zip of two lists -/
theorem lcM_zip {K : PySem.W.Frag} {a b : Addr} {xs ys : List V} {n : Nat} (d : Nat → PyData) (hD : H1 D = none) (ha : SqL K H1 a xs) (hb : SqL K H1 b ys) (hl : n = min xs.length ys.length) (hn : n < 16777216)
    (hs : ∀ (i : Nat) (T : Addr) (x y : V) (H : Hp) (R : V → Hp → Prop) (S : Hp → Prop), i < n → xs[i]? = some x → ys[i]? = some y → Same H1 H → H T = some (.tup [x, y]) → (∀ y H4, Same H H4 → Rp (New H) H4 y (d i) → R y H4) →
      g (.ref T) (wipe σ vs) H fun σ2 H2 => wipe σ2 vs = wipe σ vs ∧ tt σ2 H2 fun b H3 => if b = true then te σ2 H3 R else S H3)
    (hd : ∀ H, Same H1 H → Rp (New H1) H (.ref D) (.list ((List.range n).map d)) → Qd H) :
    ∃ W : Nat → Nat → Hp → Prop, (∃ m, W 0 m (upd H1 D (.lst []))) ∧ ∀ i m H, W i m H →
      ((Itz K a b).stop i H ∧ Qd H) ∨ ((Itz K a b).go i H ∧ ∃ Nx : Hp → Prop, (∀ H', Nx H' → ∃ m', m' < m ∧ W (i + 1) m' H') ∧ ∀ x H', (Itz K a b).yld i H x H' → g x (wipe σ vs) H' fun σ2 H2 => wipe σ2 vs = wipe σ vs ∧ tt σ2 H2 fun b H3 =>
        if b = true then te σ2 H3 fun y H4 => ∃ acc, H4 D = some (.lst acc) ∧ acc.length < sizeLine ∧ Nx (upd H4 D (.lst (acc ++ [y]))) else Nx H3) := by
  refine lc_it (walk_zip hl) (fun i H => Same H1 H ∧ ∃ acc, acc.length ≤ i ∧ H D = some (.lst acc) ∧ RpA (Nw H1 D) H acc ((List.range i).map d)) ⟨(Same.refl _).new hD, [], Nat.le_refl 0, upd_same, .nil⟩ (fun i H _ z => ⟨SqL.same z.1 ha, SqL.same z.1 hb⟩) ?_ ?_
  · rintro i x H H' hi ⟨s1, acc, al, eD, ra⟩ ⟨T, x, z, rfl, hT, rfl, ex, ez⟩
    have sT := (Same.refl H).new (o := .tup [x, z]) hT
    refine hs i T x z _ _ _ hi ex ez (s1.trans sT) upd_same (fun y H4 s4 ry => ?_)
    have s4' := sT.trans s4
    refine ⟨acc, s4' _ _ eD, small_lt (by omega), (s1.trans s4').mut hD, acc ++ [y], by rw [List.length_append]; exact Nat.succ_le_succ al, upd_same, ?_⟩
    rw [List.range_succ, List.map_append]
    refine RpA.put ((ra.same s4').app (.cons (Rp.mono (fun b hb => ⟨(s1.trans sT).free hb, (ne_of_none (sT _ _ eD) hb).symm⟩) (fun _ _ _ e => e) _ _ ry) .nil)) nw_not
  · rintro H ⟨s1, acc, al, eD, ra⟩
    exact hd H s1 (.lst hD eD (RpA.mono (fun b z => z.1) (fun _ _ _ e => e) _ _ ra))
end
/-! ### a word between two statements -/
def tCutG (t u : TS) : TS := fun D σ H => ∃ Mid : L2.St → Hp → Prop, t { D with nx := Mid } σ H ∧ ∀ σ' H', Mid σ' H' → u D σ' H'
theorem pss_cutG {X : Cx} {st : Stmt} {rest : List Stmt} {t u : TS} (h1 : PS X st t) (h2 : PSs X rest u) : PSs X (st :: rest) (tCutG t u) := by
  refine ⟨fun pins s σ H D I h => ?_⟩
  obtain ⟨Mid, hm, hu⟩ := h
  refine wpAny_execs_cons (thn (h1.run pins s σ H { D with nx := Mid } I hm) fun f s1 q => ?_)
  cases f with
  | next =>
    obtain ⟨σ', H', I', q⟩ := q
    exact h2.run pins s1 σ' H' D I' (hu σ' H' q)
  | ret v => exact q
  | brk => exact q
  | cont => exact q
theorem atC {α : Type} {x : α} {xs : List α} : atI (x :: xs) 0 = some x := by
  show atI (x :: xs) ((0 : Nat) : Int) = some x
  exact atI_nat rfl
/-! ### // by any divisor but nought -/
def CDivA (_ j : Int) : Prop := j ≠ 0 ∧ j.natAbs < 2 ^ 200
theorem op_fdivA {X : Cx} : OpR X (binaryOp .FloorDiv) (rI CDivA fun i j => .int (i.fdiv j)) := opI fun i j _ _ _ _ _ hc q => by
  obtain ⟨h1, h2⟩ := hc
  exact floordiv_int h1 q (.inl (PyProof.noPylong_of_log2 (Nat.lt_of_lt_of_le (PySem.Flt.log2_lt_of (by decide : 0 < 200) h2) (by decide))))
/-! ### tables: lists of lists of ints -/
def tabD (rows : List (List Int)) : PyData := .list (rows.map fun r => .list (r.map PyData.int))
theorem fine_tab {c : Nat} {rows : List (List Int)} (h : ∀ r ∈ rows, ∀ x ∈ r, x.natAbs < 10 ^ c) : fine c (tabD rows) = true := by
  unfold tabD
  rw [fine]
  refine fineAll_map fun r hr => ?_
  rw [fine]
  exact fineAll_map fun x hx => by simpa [fine] using h r hr x hx
theorem depth_tab (rows : List (List Int)) : (tabD rows).depth ≤ 2 := by
  unfold tabD
  rw [PyData.depth]
  have := depthAll_map (f := fun r : List Int => PyData.list (r.map PyData.int)) (xs := rows) (k := 1) fun r _ => by
    show (PyData.list (r.map PyData.int)).depth ≤ 1
    rw [PyData.depth]
    have := depthAll_map (f := PyData.int) (xs := r) (k := 0) fun x _ => by simp [PyData.depth]
    omega
  omega
theorem nodes_tab {m : Nat} {rows : List (List Int)} (h : ∀ r ∈ rows, r.length ≤ m) : nodes (tabD rows) ≤ 1 + rows.length * (1 + m) := by
  unfold tabD
  rw [nodes]
  have := nodesAll_map (f := fun r : List Int => PyData.list (r.map PyData.int)) (xs := rows) (k := 1 + m) fun r hr => by
    show nodes (PyData.list (r.map PyData.int)) ≤ 1 + m
    rw [nodes]
    have := nodesAll_map (f := PyData.int) (xs := r) (k := 1) fun x _ => by simp [nodes]
    have := h r hr
    omega
  omega
theorem good_tab {c m : Nat} {rows : List (List Int)} (h : ∀ r ∈ rows, ∀ x ∈ r, x.natAbs < 10 ^ c) (hm : ∀ r ∈ rows, r.length ≤ m) (hc : c ≤ 500) (hn : (c + 8) * (1 + rows.length * (1 + m)) ≤ 16777216) : Good (tabD rows) :=
  Good.of (fine_tab h) hc (by have := depth_tab rows; omega) (Nat.le_trans (Nat.mul_le_mul_left _ (nodes_tab hm)) hn)
theorem eqvAll_len : ∀ {xs ys : List PyData}, PyData.eqvAll xs ys = true → xs.length = ys.length
  | [], [], _ => rfl
  | [], _ :: _, h => by simp [PyData.eqvAll] at h
  | _ :: _, [], h => by simp [PyData.eqvAll] at h
  | x :: xs, y :: ys, h => by
    rw [PyData.eqvAll, Bool.and_eq_true] at h
    rw [List.length_cons, List.length_cons, eqvAll_len h.2]
end G
namespace G
open PySem PySem.Spec PyProof.Rows L2
theorem all_rep (m : Nat) : (List.replicate m true).all id = true := by
  induction m with
  | zero => rfl
  | succ m ih => rw [List.replicate_succ, List.all_cons, ih]; rfl
theorem map_bl {α : Type} (f : α → Bool) (l : List α) : l.map (fun x => PyData.bool (f x)) = (l.map f).map PyData.bool := (List.map_map (l := l)).symm
theorem map_in {α : Type} (f : α → Int) (l : List α) : l.map (fun x => PyData.int (f x)) = (l.map f).map PyData.int := (List.map_map (l := l)).symm
theorem map_vi {α : Type} (f : α → Int) (l : List α) : l.map (fun x => V.int (f x)) = (l.map f).map V.int := (List.map_map (l := l)).symm
theorem cut_to (xs : List V) (k : Nat) : cutV xs none (some (k : Int)) = xs.take k := by
  unfold cutV
  rw [HT.sIx_none, HT.sIx_nat, List.drop_zero, Nat.sub_zero]
  rcases Nat.le_total k xs.length with h | h
  · rw [Nat.min_eq_left h]
  · rw [Nat.min_eq_right h, List.take_length, List.take_of_length_le h]
theorem nsV_len (l : List Nat) : (nsV l).length = l.length := by unfold nsV; rw [List.length_map]
theorem nsV_at {l : List Nat} {i : Nat} {x : V} (h : (nsV l)[i]? = some x) : ∃ p, l[i]? = some p ∧ x = V.int (p : Int) := by
  unfold nsV at h
  rw [List.getElem?_map] at h
  obtain ⟨p, hp, rfl⟩ := Option.map_eq_some_iff.mp h
  exact ⟨p, hp, rfl⟩
end G

namespace M
open PySem PySem.Spec PyProof.Rows L2 G
def top (i : Nat) : Stmt := PySem.Challenge.pw_divisorsums_k86_whole_meet_tables.main.body.getD i (.Pass ⟨0, 0, 0, 0⟩)
abbrev s_is_integer : Stmt := top 5
theorem sc_is_integer : FnScope ["value"] ["value"] (defScope s_is_integer) := ⟨rfl, rfl, rfl, by decide +kernel, rfl, by decide +kernel, by decide +kernel⟩
abbrev s_is_count : Stmt := top 6
theorem sc_is_count : FnScope ["value"] ["value"] (defScope s_is_count) := ⟨rfl, rfl, rfl, by decide +kernel, rfl, by decide +kernel, by decide +kernel⟩
abbrev s_is_list : Stmt := top 7
theorem sc_is_list : FnScope ["value"] ["value"] (defScope s_is_list) := ⟨rfl, rfl, rfl, by decide +kernel, rfl, by decide +kernel, by decide +kernel⟩
abbrev s_want_many : Stmt := top 8
theorem sc_want_many : FnScope ["value", "most", "least"] ["value", "most", "least"] (defScope s_want_many) := ⟨rfl, rfl, rfl, by decide +kernel, rfl, by decide +kernel, by decide +kernel⟩
abbrev s_powers_of : Stmt := top 10
theorem sc_powers_of : FnScope ["number", "found", "left", "prime", "many"] ["number"] (defScope s_powers_of) := ⟨rfl, rfl, rfl, by decide +kernel, rfl, by decide +kernel, by decide +kernel⟩
abbrev s_is_row_value : Stmt := top 14
theorem sc_is_row_value : FnScope ["value", "one"] ["value"] (defScope s_is_row_value) := ⟨rfl, rfl, rfl, by decide +kernel, rfl, by decide +kernel, by decide +kernel⟩
abbrev s_want_row : Stmt := top 15
theorem sc_want_row : FnScope ["value"] ["value"] (defScope s_want_row) := ⟨rfl, rfl, rfl, by decide +kernel, rfl, by decide +kernel, by decide +kernel⟩
abbrev s_want_some : Stmt := top 16
theorem sc_want_some : FnScope ["value"] ["value"] (defScope s_want_some) := ⟨rfl, rfl, rfl, by decide +kernel, rfl, by decide +kernel, by decide +kernel⟩
abbrev s_sign_of : Stmt := top 17
theorem sc_sign_of : FnScope ["number", "powers", "prime", "many"] ["number"] (defScope s_sign_of) := ⟨rfl, rfl, rfl, by decide +kernel, rfl, by decide +kernel, by decide +kernel⟩
abbrev s_signs_of : Stmt := top 18
theorem sc_signs_of : FnScope ["many", "at"] ["many"] (defScope s_signs_of) := ⟨rfl, rfl, rfl, by decide +kernel, rfl, by decide +kernel, by decide +kernel⟩
abbrev s_sign_row : Stmt := top 19
theorem sc_sign_row : FnScope ["many"] ["many"] (defScope s_sign_row) := ⟨rfl, rfl, rfl, by decide +kernel, rfl, by decide +kernel, by decide +kernel⟩
abbrev s_is_table_value : Stmt := top 23
theorem sc_is_table_value : FnScope ["value", "row", "one"] ["value"] (defScope s_is_table_value) := ⟨rfl, rfl, rfl, by decide +kernel, rfl, by decide +kernel, by decide +kernel⟩
abbrev s_want_table : Stmt := top 24
theorem sc_want_table : FnScope ["value"] ["value"] (defScope s_want_table) := ⟨rfl, rfl, rfl, by decide +kernel, rfl, by decide +kernel, by decide +kernel⟩
abbrev s_worth_of : Stmt := top 25
theorem sc_worth_of : FnScope ["table", "rows", "sign", "last", "size", "at", "some", "row", "late", "to", "whole"] ["table"] (defScope s_worth_of) := ⟨rfl, rfl, rfl, by decide +kernel, rfl, by decide +kernel, by decide +kernel⟩
abbrev s_meets_of : Stmt := top 26
theorem sc_meets_of : FnScope ["many", "near", "far"] ["many"] (defScope s_meets_of) := ⟨rfl, rfl, rfl, by decide +kernel, rfl, by decide +kernel, by decide +kernel⟩
abbrev s_table_worth : Stmt := top 27
theorem sc_table_worth : FnScope ["table"] ["table"] (defScope s_table_worth) := ⟨rfl, rfl, rfl, by decide +kernel, rfl, by decide +kernel, by decide +kernel⟩
abbrev s_meet_table : Stmt := top 28
theorem sc_meet_table : FnScope ["many"] ["many"] (defScope s_meet_table) := ⟨rfl, rfl, rfl, by decide +kernel, rfl, by decide +kernel, by decide +kernel⟩
abbrev s_meet_worth : Stmt := top 29
theorem sc_meet_worth : FnScope ["many"] ["many"] (defScope s_meet_worth) := ⟨rfl, rfl, rfl, by decide +kernel, rfl, by decide +kernel, by decide +kernel⟩
abbrev s_summed : Stmt := top 31
theorem sc_summed : FnScope ["row", "found", "total", "one"] ["row"] (defScope s_summed) := ⟨rfl, rfl, rfl, by decide +kernel, rfl, by decide +kernel, by decide +kernel⟩
abbrev s__law_pot : Stmt := top 33
theorem sc__law_pot : FnScope ["script", "k", "cell"] ["script", "k"] (defScope s__law_pot) := ⟨rfl, rfl, rfl, by decide +kernel, rfl, by decide +kernel, by decide +kernel⟩
abbrev s__law_draw : Stmt := top 34
theorem sc__law_draw : FnScope ["pot", "many", "digit"] ["pot", "many"] (defScope s__law_draw) := ⟨rfl, rfl, rfl, by decide +kernel, rfl, by decide +kernel, by decide +kernel⟩
abbrev s__law_pick : Stmt := top 35
theorem sc__law_pick : FnScope ["pot", "some"] ["pot", "some"] (defScope s__law_pick) := ⟨rfl, rfl, rfl, by decide +kernel, rfl, by decide +kernel, by decide +kernel⟩
abbrev s__law_share : Stmt := top 36
theorem sc__law_share : FnScope ["near", "far", "one", "other"] ["near", "far"] (defScope s__law_share) := ⟨rfl, rfl, rfl, by decide +kernel, rfl, by decide +kernel, by decide +kernel⟩
abbrev s__law_divisors : Stmt := top 37
theorem sc__law_divisors : FnScope ["number", "found", "at"] ["number"] (defScope s__law_divisors) := ⟨rfl, rfl, rfl, by decide +kernel, rfl, by decide +kernel, by decide +kernel⟩
abbrev s__law_primes : Stmt := top 38
theorem sc__law_primes : FnScope ["number", "found", "left", "at"] ["number"] (defScope s__law_primes) := ⟨rfl, rfl, rfl, by decide +kernel, rfl, by decide +kernel, by decide +kernel⟩
abbrev s__law_free : Stmt := top 39
theorem sc__law_free : FnScope ["number", "found", "prime"] ["number"] (defScope s__law_free) := ⟨rfl, rfl, rfl, by decide +kernel, rfl, by decide +kernel, by decide +kernel⟩
abbrev s__law_sign : Stmt := top 40
theorem sc__law_sign : FnScope ["number", "primes", "prime"] ["number"] (defScope s__law_sign) := ⟨rfl, rfl, rfl, by decide +kernel, rfl, by decide +kernel, by decide +kernel⟩
abbrev s__law_worth : Stmt := top 41
theorem sc__law_worth : FnScope ["table", "rows", "above", "below", "at", "some", "lead", "late", "part", "row", "one", "other"] ["table"] (defScope s__law_worth) := ⟨rfl, rfl, rfl, by decide +kernel, rfl, by decide +kernel, by decide +kernel⟩
abbrev s__law_lot : Stmt := top 42
theorem sc__law_lot : FnScope ["pot", "most", "kind", "found", "more", "at"] ["pot", "most"] (defScope s__law_lot) := ⟨rfl, rfl, rfl, by decide +kernel, rfl, by decide +kernel, by decide +kernel⟩
abbrev s__law_is_closed : Stmt := top 43
theorem sc__law_is_closed : FnScope ["numbers", "number", "one"] ["numbers"] (defScope s__law_is_closed) := ⟨rfl, rfl, rfl, by decide +kernel, rfl, by decide +kernel, by decide +kernel⟩
abbrev s__law_product : Stmt := top 44
theorem sc__law_product : FnScope ["numbers", "found", "number"] ["numbers"] (defScope s__law_product) := ⟨rfl, rfl, rfl, by decide +kernel, rfl, by decide +kernel, by decide +kernel⟩
abbrev s__law_right : Stmt := top 45
theorem sc__law_right : FnScope ["pot", "many", "due", "sums", "size", "near", "far", "number", "at", "row"] ["pot"] (defScope s__law_right) := ⟨rfl, rfl, rfl, by decide +kernel, rfl, by decide +kernel, by decide +kernel⟩
abbrev s_law : Stmt := top 46
theorem sc_law : FnScope ["script"] ["script"] (defScope s_law) := ⟨rfl, rfl, rfl, by decide +kernel, rfl, by decide +kernel, by decide +kernel⟩
end M
namespace M
open PySem PySem.Spec PyProof.Rows L2 G
section
variable {P : Program} {w : World} {K : PySem.W.Frag} {mg : Str → Option Value} {base : Heap}
/-! whole numbers, their bounds -/
def sp_is_integer (_ : PySem.W.Frag) : Sp := spec1 fun x H Q _ => ∃ n : Int, x = .int n ∧ Q (.bl true) H
theorem ok_is_integer {af : Addr} {fd : FuncData} (F : FunD K "is_integer" "is_integer" (defArgs s_is_integer) (defBody s_is_integer) (defScope s_is_integer) [] [] af fd) (B : Bt mg)  : FnG P w K mg base CX0 1 af fd ["value"] (sp_is_integer K) := by
  refine okG F sc_is_integer ar1 fun cdv A outer s H vs Q E hg hr h => ?_
  refine ⟨_, PSs.nox (pss_one (ps_ret (pe_and (pe_callB call_isi (by rfl) B.isinstance (by decide +kernel) (pa_cons (pv 0) (pa_cons (pe_bltn (v := .ty "int") (by rfl) B.int (by decide +kernel) rfl) pa_nil))) (pe_one (pe_not (pe_callB call_isi (by rfl) B.isinstance (by decide +kernel) (pa_cons (pv 0) (pa_cons (pe_bltn (v := .ty "bool") (by rfl) B.bool (by decide +kernel) rfl) pa_nil)))))))), ?_⟩
  obtain ⟨_, rfl, n, rfl, q⟩ := h
  refine ⟨_, rfl, _, _, _, _, true, rfl, .ty "int", .base (.int n), kit_ty (by decide +kernel), true, rfl, iteT ?_⟩
  exact ⟨_, rfl, _, _, _, _, false, rfl, .ty "bool", .base (.int n), kit_ty (by decide +kernel), false, rfl, q⟩
def sp_is_count (_ : PySem.W.Frag) : Sp := spec1 fun x H Q _ => ∃ n : Int, x = .int n ∧ Q (.bl (decide (0 ≤ n))) H
theorem ok_is_count {af : Addr} {fd : FuncData} (F : FunD K "is_count" "is_count" (defArgs s_is_count) (defBody s_is_count) (defScope s_is_count) [] [] af fd) (B : Bt mg) (C_is_integer : Cl P w K mg base 1 "is_integer" 1 [] (sp_is_integer K)) : FnG P w K mg base CX0 2 af fd ["value"] (sp_is_count K) := by
  refine okG F sc_is_count ar1 fun cdv A outer s H vs Q E hg hr h => ?_
  refine ⟨_, PSs.nox (pss_one (ps_ret (pe_and (pe_cl C_is_integer hg hr (by decide) rfl (pa_cons (pv 0) pa_nil)) (pe_one (pe_cmpR op_ge (pv 0) pe_int (nomark _)))))), ?_⟩
  obtain ⟨_, rfl, n, rfl, q⟩ := h
  refine ⟨_, rfl, _, rfl, n, rfl, true, rfl, iteT ?_⟩
  exact ⟨_, rfl, _, _, rfl, rfl, q⟩
def sp_want_many (_ : PySem.W.Frag) : Sp := spec3 fun x y z H Q _ => ∃ n m l : Int, x = .int n ∧ y = .int m ∧ z = .int l ∧ 0 ≤ n ∧ l ≤ n ∧ n ≤ m ∧ Q .non H
theorem ok_want_many {af : Addr} {fd : FuncData} (F : FunD K "want_many" "want_many" (defArgs s_want_many) (defBody s_want_many) (defScope s_want_many) [.int 0] [] af fd) (B : Bt mg) (C_is_count : Cl P w K mg base 2 "is_count" 1 [] (sp_is_count K)) : FnG P w K mg base CX0 3 af fd ["value", "most", "least"] (sp_want_many K) := by
  refine okG F sc_want_many ar3 fun cdv A outer s H vs Q E hg hr h => ?_
  refine ⟨_, PSs.nox (pss_one (ps_if (PW.pt (pw_or (pt_not (pt_val (pe_cl C_is_count hg hr (by decide) rfl (pa_cons (pv 0) pa_nil)))) (pw_or1 (pt_not (pt_chain op_le op_le (pv 2) (pv 0) (pv 1))))))
      (pss_one ps_never)
      pss_nil)), ?_⟩
  obtain ⟨_, _, _, rfl, n, m, l, rfl, rfl, rfl, h0, h1, h2, q⟩ := h
  refine ⟨_, rfl, _, rfl, n, rfl, _, rfl, ?_⟩
  rw [decide_eq_true h0]
  refine iteF ⟨_, rfl, _, rfl, _, _, rfl, rfl, true, bl_t h1, iteT ⟨_, rfl, _, _, rfl, rfl, true, bl_t h2, iteF q⟩⟩

end
end M
namespace M
open PySem PySem.Spec PyProof.Rows L2 G
section
variable {P : Program} {w : World} {K : PySem.W.Frag} {mg : Str → Option Value} {base : Heap}
/-! the law's own draws -/
/-- a pot: two ints that are not negative, the second one not great -/
def PotAt (H : Hp) (a : Addr) : Prop := ∃ p q : Int, H a = some (.lst [.int p, .int q]) ∧ 0 ≤ p ∧ 0 ≤ q ∧ q ≤ 4294967296
def sp__law_pot (K : PySem.W.Frag) : Sp := spec2 fun x y H Q _ => ∃ (l : Addr) (ns : List Int) (k : Nat), x = .ref l ∧ y = .int k ∧ SqL K H l (ns.map V.int) ∧ k ≤ 63 ∧ ∀ a H', Same H H' → H a = none → PotAt H' a → Q (.ref a) H'
theorem potLast (x : Int) : 0 ≤ x % 2147483563 + 1 ∧ x % 2147483563 + 1 ≤ 4294967296 := by omega
theorem potMod (x : Int) : 0 ≤ x % 2147483549 ∧ x % 2147483549 ≤ 18446744073709551615 := by omega
theorem ok__law_pot {af : Addr} {fd : FuncData} (F : FunD K "_law_pot" "_law_pot" (defArgs s__law_pot) (defBody s__law_pot) (defScope s__law_pot) [] [] af fd) (B : Bt mg)  : FnG P w K mg base CX0 1 af fd ["script", "k"] (sp__law_pot K) := by
  refine okG F sc__law_pot ar2 fun cdv A outer s H vs Q E hg hr h => ?_
  refine ⟨_, PSs.nox (pss_cons (ps_set (i := 2) sc__law_pot.nd rfl (.inl rfl) (pe_ifExp (pt_cmpR op_lt (pv 1) (pe_callB call_len_seq (by rfl) B.len (by decide +kernel) (pa_cons (pv 0) pa_nil)) (nomark _)) (pe_callB call_abs (by rfl) B.abs (by decide +kernel) (pa_cons (pe_ix ix_list (pv 0) (pv 1) (fun _ _ => rfl)) pa_nil)) (pe_op op_add (pe_op op_mul pe_int (pv 1)) pe_int)))
    (pss_one (ps_ret (pe_lst (pa_cons (pe_callB (call_max2 rfl) (by rfl) B.max (by decide +kernel) (pa_cons pe_int (pa_cons (pe_op op_sub (pv 2) (pe_op op_pow pe_int pe_int)) pa_nil))) (pa_cons (pe_op op_add (pe_op op_mod (pe_callTy call_int1 (by rfl) B.int (by decide +kernel) (pa_cons (pe_op op_add (pe_op op_add (pe_op op_mul (pe_op op_mod (pe_callTy call_int1 (by rfl) B.int (by decide +kernel) (pa_cons (pv 2) pa_nil)) pe_int) pe_int) (pe_op op_mul pe_int (pv 1))) pe_int) pa_nil)) pe_int) pe_int) pa_nil)))))), ?_⟩
  obtain ⟨_, _, rfl, l, ns, k, rfl, rfl, hS, hk, q⟩ := h
  refine ⟨_, rfl, _, rfl, l, _, rfl, .inl hS, _, _, rfl, rfl, _, rfl, ite2 (fun hlt => ?_) (fun _ => ?_)⟩
  · have hlt' : k < ns.length := by
      have := of_decide_eq_true hlt
      rw [List.length_map] at this
      omega
    refine ⟨_, rfl, _, rfl, l, _, _, _, rfl, rfl, hS, at_ints hlt', _, rfl, ?_⟩
    refine ⟨_, rfl, _, _, rfl, rfl, ⟨by decide, by decide, by decide⟩, _, _, rfl, rfl, _, _, rfl, _, rfl, .inl ⟨_, rfl, _, _, rfl, rfl, (by show (0 : Int) < _; decide), _, _, rfl, rfl, mulc (potMod _), _, rfl, _, _, rfl, rfl, c64, _, _, rfl, rfl, _, _, rfl, rfl, .inl ⟨_, rfl, _, _, rfl, rfl, (by show (0 : Int) < _; decide), _, _, rfl, rfl, sz2, fun p hp => ?_⟩⟩⟩
    exact q p _ (Same.new (Same.refl _) hp) hp ⟨_, _, upd_same, max0 _, potLast _⟩
  · refine ⟨_, rfl, _, _, rfl, rfl, c64, _, _, rfl, rfl, ?_⟩
    refine ⟨_, rfl, _, _, rfl, rfl, ⟨by decide, by decide, by decide⟩, _, _, rfl, rfl, _, _, rfl, _, rfl, .inl ⟨_, rfl, _, _, rfl, rfl, (by show (0 : Int) < _; decide), _, _, rfl, rfl, mulc (potMod _), _, rfl, _, _, rfl, rfl, c64, _, _, rfl, rfl, _, _, rfl, rfl, .inl ⟨_, rfl, _, _, rfl, rfl, (by show (0 : Int) < _; decide), _, _, rfl, rfl, sz2, fun p hp => ?_⟩⟩⟩
    exact q p _ (Same.new (Same.refl _) hp) hp ⟨_, _, upd_same, max0 _, potLast _⟩
def sp__law_draw (_ : PySem.W.Frag) : Sp := spec2 fun x y H Q _ => ∃ (a : Addr) (m : Int), x = .ref a ∧ y = .int m ∧ PotAt H a ∧ 0 < m ∧ m < 2 ^ 64 ∧ ∀ (d : Int) H', 0 ≤ d → d < m → Grow a H H' → PotAt H' a → Q (.int d) H'
theorem ok__law_draw {af : Addr} {fd : FuncData} (F : FunD K "_law_draw" "_law_draw" (defArgs s__law_draw) (defBody s__law_draw) (defScope s__law_draw) [] [] af fd) (B : Bt mg)  : FnG P w K mg base CX0 1 af fd ["pot", "many"] (sp__law_draw K) := by
  refine okG F sc__law_draw ar2 fun cdv A outer s H vs Q E hg hr h => ?_
  refine ⟨_, PSs.nox (pss_cons (ps_if (pt_cmpR op_gt (pe_ix ix_list (pv 0) pe_int (fun _ _ => rfl)) pe_int (nomark _))
      (pss_cons (ps_asg (pe_callB call_divmodW (by rfl) B.divmod (by decide +kernel) (pa_cons (pe_ix ix_list (pv 0) pe_int (fun _ _ => rfl)) (pa_cons (pv 1) pa_nil))) (pg_tup rfl (pgs_cons (pg_sub (pv 0) pe_int set_list) (pgs_cons (pg_name (i := 2) sc__law_draw.nd rfl (.inl rfl)) pgs_nil))))
      (pss_one (ps_ret (pv 2))))
      pss_nil)
    (pss_cons (ps_asg (pe_op op_mod (pe_callTy call_int1 (by rfl) B.int (by decide +kernel) (pa_cons (pe_op op_add (pe_op op_mul (pe_ix ix_list (pv 0) pe_int (fun _ _ => rfl)) pe_int) pe_int) pa_nil)) pe_int) (pg_sub (pv 0) pe_int set_list))
    (pss_one (ps_ret (pe_op op_mod (pe_callTy call_int1 (by rfl) B.int (by decide +kernel) (pa_cons (pe_op op_fdivW (pe_op op_mod (pe_callTy call_int1 (by rfl) B.int (by decide +kernel) (pa_cons (pe_op op_mul (pe_ix ix_list (pv 0) pe_int (fun _ _ => rfl)) (pe_ix ix_list (pv 0) pe_int (fun _ _ => rfl))) pa_nil)) pe_int) pe_int) pa_nil)) (pv 1)))))), ?_⟩
  obtain ⟨_, _, rfl, a, m, rfl, rfl, ⟨p, r, hp, h0, h1, h2⟩, hm, hm2, q⟩ := h
  refine ⟨_, rfl, a, _, _, _, rfl, rfl, SqL.of hp, at0, _, _, rfl, rfl, _, rfl, ite2 (fun _ => ?_) (fun _ => ?_)⟩
  · refine ⟨_, rfl, a, _, _, _, rfl, rfl, SqL.of hp, at0, _, rfl, p, m, rfl, divp hm hm2, fun t ht => ?_⟩
    have nat' : a ≠ t := ne_of_none hp ht
    refine ⟨t, _, rfl, SqT.of upd_same, rfl, _, _, rfl, ⟨_, rfl, a, _, _, 0, rfl, rfl, (upd_ne nat').trans hp, rfl, _, _, rfl, ⟨rfl, _, rfl, ?_⟩⟩⟩
    refine q _ _ (Int.emod_nonneg _ (by omega)) (Int.emod_lt_of_pos _ hm) (((Grow.refl a H).new ht).put) ⟨_, _, upd_same, divNN h0 hm, h1, h2⟩
  · refine ⟨_, rfl, a, _, _, _, rfl, rfl, SqL.of hp, at1, _, _, rfl, rfl, mulc ⟨h1, by omega⟩, _, _, rfl, rfl, .inl ⟨_, rfl, _, _, rfl, rfl, (by show (0 : Int) < _; decide), _, rfl, a, _, _, 1, rfl, rfl, hp, rfl, ?_⟩⟩
    have e1 : (upd H a (.lst ([V.int p, V.int r].set 1 (.int ((r * 40692 + 13007) % 2147483563))))) a = some (.lst [.int p, .int ((r * 40692 + 13007) % 2147483563)]) := upd_same
    have b1 : 0 ≤ (r * 40692 + 13007) % 2147483563 ∧ (r * 40692 + 13007) % 2147483563 ≤ 4294967296 := by omega
    refine ⟨_, rfl, a, _, _, _, rfl, rfl, SqL.of e1, at1, _, rfl, a, _, _, _, rfl, rfl, SqL.of e1, at1, _, _, rfl, rfl, mulc ⟨b1.1, by omega⟩, .inl ⟨_, rfl, _, _, rfl, rfl, (by show (0 : Int) < _; decide), _, _, rfl, rfl, divw (by decide) (by decide), .inl ⟨_, rfl, _, rfl, _, _, rfl, rfl, hm, ?_⟩⟩⟩
    exact q _ _ (Int.emod_nonneg _ (by omega)) (Int.emod_lt_of_pos _ hm) (Grow.put (Grow.refl a H)) ⟨_, _, e1, h0, b1⟩
def sp__law_pick (K : PySem.W.Frag) : Sp := spec2 fun x y H Q _ => ∃ (a l : Addr) (xs : List V), x = .ref a ∧ y = .ref l ∧ PotAt H a ∧ l ≠ a ∧ SqL K H l xs ∧ 0 < xs.length ∧ xs.length < 100000 ∧ ∀ (v : V) H', v ∈ xs → Grow a H H' → PotAt H' a → Q v H'
theorem ok__law_pick {af : Addr} {fd : FuncData} (F : FunD K "_law_pick" "_law_pick" (defArgs s__law_pick) (defBody s__law_pick) (defScope s__law_pick) [] [] af fd) (B : Bt mg) (C__law_draw : Cl P w K mg base 1 "_law_draw" 2 [] (sp__law_draw K)) : FnG P w K mg base CX0 2 af fd ["pot", "some"] (sp__law_pick K) := by
  refine okG F sc__law_pick ar2 fun cdv A outer s H vs Q E hg hr h => ?_
  refine ⟨_, PSs.nox (pss_one (ps_ret (pe_ix ix_list (pv 1) (pe_cl C__law_draw hg hr (by decide) rfl (pa_cons (pv 0) (pa_cons (pe_callB call_len_seq (by rfl) B.len (by decide +kernel) (pa_cons (pv 1) pa_nil)) pa_nil))) (fun _ _ => rfl)))), ?_⟩
  obtain ⟨_, _, rfl, a, l, xs, rfl, rfl, hp, hl, hS, hn, hn2, q⟩ := h
  refine ⟨_, rfl, _, rfl, _, rfl, l, xs, rfl, .inl hS, _, _, rfl, a, _, rfl, rfl, hp, by omega, by omega, fun d H' h1 h2 g hp' => ?_⟩
  obtain ⟨i, rfl⟩ := Int.eq_ofNat_of_zero_le h1
  have hi : i < xs.length := by omega
  exact ⟨l, xs, _, xs[i], rfl, rfl, g.seq hl hS, atI_nat (List.getElem?_eq_getElem hi), q _ _ (List.getElem_mem hi) g hp'⟩

end
end M
namespace M
open PySem PySem.Spec PyProof.Rows L2 G
section
variable {P : Program} {w : World} {K : PySem.W.Frag} {mg : Str → Option Value} {base : Heap}
theorem PotAt.same {H H' : Hp} {a : Addr} (h : PotAt H a) (s : Same H H') : PotAt H' a := by
  obtain ⟨p, q, e, r⟩ := h
  exact ⟨p, q, s _ _ e, r⟩
theorem PotAt.ne {H : Hp} {a b : Addr} (h : PotAt H a) (e : H b = none) : b ≠ a := by
  obtain ⟨p, q, z, _⟩ := h
  rintro rfl
  rw [e] at z
  cases z
theorem PotAt.new {H : Hp} {a b : Addr} {o : HO} (h : PotAt H a) (e : H b = none) : PotAt (upd H b o) a := h.same ((Same.refl H).new e)
/-- the pot, and a list that stands; what stood at first stands -/
structure Lv (H0 : Hp) (a l : Addr) (xs : List V) (H : Hp) : Prop where
  pot : PotAt H a
  ne : l ≠ a
  at_ : H l = some (.lst xs)
  gr : Grow a H0 H
theorem Lv.same {H0 : Hp} {a l : Addr} {xs : List V} {H H' : Hp} (h : Lv H0 a l xs H) (s : Same H H') : Lv H0 a l xs H' := ⟨h.pot.same s, h.ne, s _ _ h.at_, h.gr.trans (Grow.of s)⟩
theorem Lv.grow {H0 : Hp} {a l : Addr} {xs : List V} {H H' : Hp} (h : Lv H0 a l xs H) (g : Grow a H H') (p : PotAt H' a) : Lv H0 a l xs H' := ⟨p, h.ne, g _ _ h.ne h.at_, h.gr.trans g⟩
/-- a picked int lies within -/
theorem picked {v : V} {ns : List Int} {lo hi : Int} (h : v ∈ ns.map V.int) (hb : ∀ x ∈ ns, lo ≤ x ∧ x ≤ hi) : ∃ m : Int, v = .int m ∧ m ∈ ns ∧ lo ≤ m ∧ m ≤ hi := by
  obtain ⟨x, hx, rfl⟩ := List.mem_map.mp h
  exact ⟨x, rfl, hx, hb x hx⟩

end
end M
namespace M
/-! primes -/
def Pr (p : Nat) : Prop := 2 ≤ p ∧ ∀ d, d < p → 2 ≤ d → ¬ d ∣ p
instance (p : Nat) : Decidable (Pr p) := by unfold Pr; exact inferInstance
theorem Pr.two {p : Nat} (h : Pr p) : 2 ≤ p := h.1
theorem Pr.dvd {p d : Nat} (h : Pr p) (hd : d ∣ p) : d = 1 ∨ d = p := by
  have h0 : d ≠ 0 := by
    rintro rfl
    have := Nat.eq_zero_of_zero_dvd hd
    have := h.1
    omega
  have h1 := Nat.le_of_dvd (by have := h.1; omega) hd
  by_cases h2 : d = p
  · exact .inr h2
  · by_cases h3 : 2 ≤ d
    · exact (h.2 d (by omega) h3 hd).elim
    · exact .inl (by omega)
theorem Pr.coprime {p a : Nat} (h : Pr p) (ha : ¬ p ∣ a) : Nat.Coprime p a := by
  rcases h.dvd (Nat.gcd_dvd_left p a) with e | e
  · exact e
  · exact (ha (by rw [← e]; exact Nat.gcd_dvd_right p a)).elim
/-- Euclid -/
theorem Pr.mul {p a b : Nat} (h : Pr p) (hd : p ∣ a * b) : p ∣ a ∨ p ∣ b := by
  by_cases ha : p ∣ a
  · exact .inl ha
  · exact .inr (Nat.Coprime.dvd_of_dvd_mul_left (h.coprime ha) hd)
theorem Pr.pow {p a : Nat} (h : Pr p) : ∀ {k : Nat}, p ∣ a ^ k → p ∣ a
  | 0, hd => by
    rw [Nat.pow_zero] at hd
    have := Nat.le_of_dvd (by decide) hd
    have := h.1
    omega
  | k + 1, hd => by
    rw [Nat.pow_succ] at hd
    rcases h.mul hd with h1 | h1
    · exact h.pow h1
    · exact h1
theorem Pr.eq_of_dvd {p q : Nat} (h : Pr p) (hq : Pr q) (hd : p ∣ q) : p = q := by
  rcases hq.dvd hd with e | e
  · have := h.1
    omega
  · exact e
/-- the least divisor above 1 -/
theorem least_div : ∀ {n : Nat}, 2 ≤ n → ∃ p, Pr p ∧ p ∣ n ∧ (p = n ∨ p * p ≤ n) ∧ ∀ d, 2 ≤ d → d ∣ n → p ≤ d := by
  intro n hn
  have ex : ∃ d, 2 ≤ d ∧ d ∣ n := ⟨n, hn, Nat.dvd_refl n⟩
  have key : ∀ k : Nat, (∃ d, d ≤ k ∧ 2 ≤ d ∧ d ∣ n) → ∃ p, 2 ≤ p ∧ p ∣ n ∧ ∀ d, 2 ≤ d → d ∣ n → p ≤ d := by
    intro k
    induction k with
    | zero =>
      rintro ⟨d, h1, h2, _⟩
      omega
    | succ k ih =>
      intro h
      by_cases hk : ∃ d, d ≤ k ∧ 2 ≤ d ∧ d ∣ n
      · exact ih hk
      · obtain ⟨d, h1, h2, h3⟩ := h
        refine ⟨d, h2, h3, fun e he hd => ?_⟩
        rcases Nat.lt_or_ge e d with h4 | h4
        · exact (hk ⟨e, by omega, he, hd⟩).elim
        · exact h4
  obtain ⟨p, h1, h2, h3⟩ := key n ⟨n, Nat.le_refl n, hn, Nat.dvd_refl n⟩
  refine ⟨p, ⟨h1, fun d hd hd2 hdp => ?_⟩, h2, ?_, h3⟩
  · have := h3 d hd2 (Nat.dvd_trans hdp h2)
    omega
  · obtain ⟨m, hm⟩ := h2
    by_cases hm1 : m ≤ 1
    · left
      have : m ≠ 0 := by
        rintro rfl
        omega
      have : m = 1 := by omega
      rw [hm, this, Nat.mul_one]
    · right
      have := h3 m (by omega) ⟨p, by rw [hm, Nat.mul_comm]⟩
      rw [hm]
      exact Nat.mul_le_mul_left p this
theorem prime_div {n : Nat} (hn : 2 ≤ n) : ∃ p, Pr p ∧ p ∣ n := by
  obtain ⟨p, h1, h2, _⟩ := least_div hn
  exact ⟨p, h1, h2⟩
theorem not_pr_has {n : Nat} (hn : 2 ≤ n) (h : ¬ Pr n) : ∃ p, Pr p ∧ p ∣ n ∧ p * p ≤ n ∧ p < n := by
  obtain ⟨p, h1, h2, h3, _⟩ := least_div hn
  rcases h3 with rfl | h3
  · exact (h h1).elim
  · have : p < p * p := by
      have := h1.1
      have := Nat.mul_le_mul_left p this
      omega
    exact ⟨p, h1, h2, h3, by omega⟩
/-- the primes to a bound -/
def primesTo (n : Nat) : List Nat := (List.range (n + 1)).filter fun k => decide (Pr k)
theorem mem_primesTo {n p : Nat} : p ∈ primesTo n ↔ p ≤ n ∧ Pr p := by
  unfold primesTo
  rw [List.mem_filter, List.mem_range, decide_eq_true_eq, Nat.lt_succ_iff]
theorem primesTo_succ (n : Nat) : primesTo (n + 1) = primesTo n ++ if Pr (n + 1) then [n + 1] else [] := by
  unfold primesTo
  rw [List.range_succ, List.filter_append]
  congr 1
  by_cases h : Pr (n + 1)
  · simp [h]
  · simp [h]
theorem not_pr0 : ¬ Pr 0 := by decide
theorem not_pr1 : ¬ Pr 1 := by decide
theorem primesTo_one : primesTo 1 = [] := by decide
/-! the sieve: after the numbers below m, k stands where no prime below m whose square is at most k goes into it -/
def sieved (m k : Nat) : Bool := decide (∀ q, q < m → Pr q → q * q ≤ k → ¬ q ∣ k)
theorem sieved_prime {m : Nat} (h : 2 ≤ m) : sieved m m = decide (Pr m) := by
  unfold sieved
  by_cases hp : Pr m
  · rw [decide_eq_true hp, decide_eq_true]
    intro q h1 h2 h3 h4
    have := h2.eq_of_dvd hp h4
    omega
  · rw [decide_eq_false hp, decide_eq_false]
    intro h1
    obtain ⟨p, a, b, c, d⟩ := not_pr_has h hp
    exact h1 p d a c b
theorem sieved_next_not {m k : Nat} (h : ¬ Pr m) : sieved (m + 1) k = sieved m k := by
  unfold sieved
  refine decide_eq_decide.mpr ⟨fun z q h1 => z q (by omega), fun z q h1 h2 => ?_⟩
  by_cases e : q = m
  · subst e
    exact (h h2).elim
  · exact z q (by omega) h2
theorem sieved_next {m k : Nat} (h : Pr m) : sieved (m + 1) k = (sieved m k && !(decide (m * m ≤ k) && decide (m ∣ k))) := by
  unfold sieved
  by_cases h1 : m * m ≤ k ∧ m ∣ k
  · rw [decide_eq_true h1.1, decide_eq_true h1.2, decide_eq_false]
    · simp
    · intro z
      exact z m (by omega) h h1.1 h1.2
  · have : (decide (m * m ≤ k) && decide (m ∣ k)) = false := by
      rw [Bool.eq_false_iff]
      intro z
      simp only [Bool.and_eq_true, decide_eq_true_eq] at z
      exact h1 z
    rw [this, Bool.not_false, Bool.and_true]
    refine decide_eq_decide.mpr ⟨fun z q h2 => z q (by omega), fun z q h2 h3 h4 h5 => ?_⟩
    by_cases e : q = m
    · subst e
      exact h1 ⟨h4, h5⟩
    · exact z q (by omega) h3 h4 h5
theorem sieved_two (k : Nat) : sieved 2 k = true := by
  unfold sieved
  refine decide_eq_true fun q h1 h2 => ?_
  have := h2.1
  omega
/-! primes in a row -/
theorem Pr.sq_bound {n : Nat} (hn : 2 ≤ n) (h : ∀ q, Pr q → q * q ≤ n → ¬ q ∣ n) : Pr n := by
  refine Classical.byContradiction fun z => ?_
  obtain ⟨p, a, b, c, _⟩ := not_pr_has hn z
  exact h p a c b

end M
namespace M
/-! powers of primes -/
def facP : List (Nat × Nat) → Nat
  | [] => 1
  | (p, e) :: r => p ^ e * facP r
/-- primes from b on, rising, exponents from 1 on -/
def FacOk : Nat → List (Nat × Nat) → Prop
  | _, [] => True
  | b, (p, e) :: r => b ≤ p ∧ Pr p ∧ 1 ≤ e ∧ FacOk (p + 1) r
/-- the powers of n -/
def FacOf (L : List (Nat × Nat)) (n : Nat) : Prop := FacOk 0 L ∧ facP L = n
theorem FacOk.mono {b c : Nat} (h : c ≤ b) : ∀ {L : List (Nat × Nat)}, FacOk b L → FacOk c L
  | [], _ => True.intro
  | (_, _) :: _, ⟨h1, h2, h3, h4⟩ => ⟨Nat.le_trans h h1, h2, h3, h4⟩
theorem FacOk.mem : ∀ {b : Nat} {L : List (Nat × Nat)} {x : Nat × Nat}, FacOk b L → x ∈ L → b ≤ x.1 ∧ Pr x.1 ∧ 1 ≤ x.2
  | b, (p, e) :: r, x, ⟨h1, h2, h3, h4⟩, hx => by
    rcases List.mem_cons.mp hx with rfl | hx
    · exact ⟨h1, h2, h3⟩
    · obtain ⟨a, c, d⟩ := FacOk.mem h4 hx
      exact ⟨by omega, c, d⟩
theorem FacOk.pos : ∀ {b : Nat} {L : List (Nat × Nat)}, FacOk b L → 0 < facP L
  | _, [], _ => by decide
  | _, (p, e) :: r, ⟨_, h2, _, h4⟩ => Nat.mul_pos (Nat.pow_pos (by have := h2.1; omega)) (FacOk.pos h4)
theorem FacOk.snoc : ∀ {b p e : Nat} {L : List (Nat × Nat)}, FacOk b L → (∀ x ∈ L, x.1 < p) → b ≤ p → Pr p → 1 ≤ e → FacOk b (L ++ [(p, e)])
  | b, p, e, [], _, _, h1, h2, h3 => ⟨h1, h2, h3, True.intro⟩
  | b, p, e, (q, f) :: r, ⟨g1, g2, g3, g4⟩, hx, h1, h2, h3 =>
    ⟨g1, g2, g3, FacOk.snoc g4 (fun x hm => hx x (List.mem_cons_of_mem _ hm)) (hx _ List.mem_cons_self) h2 h3⟩
theorem facP_snoc (L : List (Nat × Nat)) (p e : Nat) : facP (L ++ [(p, e)]) = facP L * p ^ e := by
  induction L with
  | nil => simp [facP]
  | cons x r ih =>
    obtain ⟨q, f⟩ := x
    rw [List.cons_append, facP, facP, ih, Nat.mul_assoc]
theorem FacOk.dvd : ∀ {b q : Nat} {L : List (Nat × Nat)}, FacOk b L → Pr q → q ∣ facP L → ∃ x ∈ L, x.1 = q
  | _, q, [], _, hq, hd => by
    have := Nat.le_of_dvd (by decide) (show q ∣ 1 from hd)
    have := hq.1
    omega
  | _, q, (p, e) :: r, ⟨_, h2, _, h4⟩, hq, hd => by
    rcases hq.mul hd with h | h
    · exact ⟨_, List.mem_cons_self, (hq.eq_of_dvd h2 (hq.pow h)).symm⟩
    · obtain ⟨x, hx, e⟩ := FacOk.dvd h4 hq h
      exact ⟨x, List.mem_cons_of_mem _ hx, e⟩
theorem dvd_pow_self {p e : Nat} (h : 1 ≤ e) : p ∣ p ^ e := by
  obtain ⟨k, rfl⟩ : ∃ k, e = k + 1 := ⟨e - 1, by omega⟩
  rw [Nat.pow_succ]
  exact Nat.dvd_mul_left p _
theorem not_dvd_rest {p : Nat} {r : List (Nat × Nat)} (hp : Pr p) (h : FacOk (p + 1) r) : ¬ p ∣ facP r := by
  intro hd
  obtain ⟨x, hx, e⟩ := h.dvd hp hd
  have := (h.mem hx).1
  omega
theorem pow_cancel {p : Nat} (hp : Pr p) : ∀ {e f a b : Nat}, ¬ p ∣ a → ¬ p ∣ b → p ^ e * a = p ^ f * b → e = f ∧ a = b
  | 0, 0, a, b, _, _, h => by simpa using h
  | 0, f + 1, a, b, ha, _, h => by
    exfalso
    apply ha
    rw [Nat.pow_zero, Nat.one_mul] at h
    rw [h, Nat.pow_succ, Nat.mul_assoc, Nat.mul_left_comm]
    exact Nat.dvd_mul_right p _
  | e + 1, 0, a, b, _, hb, h => by
    exfalso
    apply hb
    rw [Nat.pow_zero, Nat.one_mul] at h
    rw [← h, Nat.pow_succ, Nat.mul_assoc, Nat.mul_left_comm]
    exact Nat.dvd_mul_right p _
  | e + 1, f + 1, a, b, ha, hb, h => by
    rw [Nat.pow_succ, Nat.pow_succ, Nat.mul_right_comm, Nat.mul_right_comm (p ^ f)] at h
    have h' := Nat.eq_of_mul_eq_mul_right (show 0 < p by have := hp.1; omega) h
    obtain ⟨h1, h2⟩ := pow_cancel hp ha hb h'
    exact ⟨by omega, h2⟩
/-- each number has just one -/
theorem fac_uniq : ∀ {b c : Nat} {L M : List (Nat × Nat)}, FacOk b L → FacOk c M → facP L = facP M → L = M
  | _, _, [], [], _, _, _ => rfl
  | _, _, [], (q, f) :: s, _, ⟨_, h2, h3, h4⟩, h => by
    exfalso
    have hd : q ∣ facP [] := by rw [h]; exact Nat.dvd_trans (dvd_pow_self h3) (Nat.dvd_mul_right _ _)
    have := Nat.le_of_dvd (by decide) (show q ∣ 1 from hd)
    have := h2.1
    omega
  | _, _, (p, e) :: r, [], ⟨_, h2, h3, h4⟩, _, h => by
    exfalso
    have hd : p ∣ facP [] := by rw [← h]; exact Nat.dvd_trans (dvd_pow_self h3) (Nat.dvd_mul_right _ _)
    have := Nat.le_of_dvd (by decide) (show p ∣ 1 from hd)
    have := h2.1
    omega
  | _, _, (p, e) :: r, (q, f) :: s, h1@⟨_, p2, p3, p4⟩, h2@⟨_, q2, q3, q4⟩, h => by
    have d1 : p ∣ facP ((q, f) :: s) := by rw [← h]; exact Nat.dvd_trans (dvd_pow_self p3) (Nat.dvd_mul_right _ _)
    have d2 : q ∣ facP ((p, e) :: r) := by rw [h]; exact Nat.dvd_trans (dvd_pow_self q3) (Nat.dvd_mul_right _ _)
    have e1 : q ≤ p := by
      obtain ⟨x, hx, ex⟩ := FacOk.dvd h2 p2 d1
      rcases List.mem_cons.mp hx with rfl | hx
      · exact Nat.le_of_eq ex
      · have := (q4.mem hx).1
        omega
    have e2 : p ≤ q := by
      obtain ⟨x, hx, ex⟩ := FacOk.dvd h1 q2 d2
      rcases List.mem_cons.mp hx with rfl | hx
      · exact Nat.le_of_eq ex
      · have := (p4.mem hx).1
        omega
    have epq : p = q := Nat.le_antisymm e2 e1
    subst epq
    obtain ⟨e3, e4⟩ := pow_cancel p2 (not_dvd_rest p2 p4) (not_dvd_rest p2 q4) h
    subst e3
    rw [fac_uniq p4 q4 e4]
theorem FacOf.uniq {L M : List (Nat × Nat)} {n : Nat} (h : FacOf L n) (h' : FacOf M n) : L = M := fac_uniq h.1 h'.1 (h.2.trans h'.2.symm)
theorem FacOf.prime {n : Nat} (h : Pr n) : FacOf [(n, 1)] n := ⟨⟨Nat.zero_le _, h, Nat.le_refl 1, True.intro⟩, by simp [facP]⟩
theorem FacOf.is_prime {L : List (Nat × Nat)} {n : Nat} (h : FacOf L n) : L = [(n, 1)] ↔ Pr n := by
  constructor
  · rintro rfl
    exact h.1.2.1
  · intro hp
    exact h.uniq (.prime hp)
/-- how a number is stripped of p -/
theorem strip_ex {p : Nat} (hp : 2 ≤ p) : ∀ n : Nat, 0 < n → ∃ e m, n = m * p ^ e ∧ ¬ p ∣ m ∧ 0 < m := by
  intro n
  induction n using Nat.strongRecOn with
  | ind n ih =>
    intro h0
    by_cases hd : p ∣ n
    · obtain ⟨k, rfl⟩ := hd
      have hk : 0 < k := by
        rcases Nat.eq_zero_or_pos k with e | e
        · rw [e] at h0
          omega
        · exact e
      have hlt : k < p * k := by
        have := Nat.mul_le_mul_right k hp
        omega
      obtain ⟨e, m, h1, h2, h3⟩ := ih k hlt hk
      exact ⟨e + 1, m, by rw [h1, Nat.pow_succ, Nat.mul_comm p, Nat.mul_assoc], h2, h3⟩
    · exact ⟨0, n, by simp, hd, h0⟩
theorem fac_from : ∀ (k b n : Nat), n ≤ k → 0 < n → (∀ q, Pr q → q ∣ n → b ≤ q) → ∃ L, FacOk b L ∧ facP L = n := by
  intro k
  induction k with
  | zero => intro b n h1 h2; omega
  | succ k ih =>
    intro b n h1 h2 h3
    by_cases hn : 2 ≤ n
    · obtain ⟨p, hp, hd, _, hl⟩ := least_div hn
      obtain ⟨e, m, a1, a2, a3⟩ := strip_ex hp.1 n h2
      have he : 1 ≤ e := by
        rcases Nat.eq_zero_or_pos e with z | z
        · subst z
          rw [Nat.pow_zero, Nat.mul_one] at a1
          subst a1
          exact (a2 hd).elim
        · exact z
      have hm : m < n := by
        have h5 : 2 ≤ p ^ e := Nat.le_trans hp.1 (Nat.le_of_dvd (Nat.pow_pos (by have := hp.1; omega)) (dvd_pow_self he))
        have := Nat.mul_le_mul_left m h5
        omega
      obtain ⟨L, l1, l2⟩ := ih (p + 1) m (by omega) a3 (fun q hq hqd => by
        have h5 := hl q hq.1 (by rw [a1]; exact Nat.dvd_trans hqd (Nat.dvd_mul_right _ _))
        rcases Nat.eq_or_lt_of_le h5 with z | z
        · subst z
          exact (a2 hqd).elim
        · omega)
      exact ⟨(p, e) :: L, ⟨h3 p hp hd, hp, he, l1⟩, by rw [facP, l2, a1, Nat.mul_comm]⟩
    · have : n = 1 := by omega
      subst this
      exact ⟨[], True.intro, rfl⟩
theorem fac_ex {n : Nat} (h : 0 < n) : ∃ L, FacOf L n := by
  obtain ⟨L, h1, h2⟩ := fac_from n 0 n (Nat.le_refl n) h fun _ _ _ => Nat.zero_le _
  exact ⟨L, h1, h2⟩
/-! trial division -/
/-- no prime below p goes into m -/
def Rough (p m : Nat) : Prop := ∀ q, Pr q → q ∣ m → p ≤ q
theorem Rough.two (m : Nat) : Rough 2 m := fun _ h _ => h.1
theorem Rough.of_dvd {p m k : Nat} (h : Rough p m) (hd : k ∣ m) : Rough p k := fun q hq hqd => h q hq (Nat.dvd_trans hqd hd)
theorem Rough.prime {p m : Nat} (h : Rough p m) (hp : 2 ≤ p) (hd : p ∣ m) : Pr p := by
  obtain ⟨q, hq, hqd, _⟩ := least_div hp
  have h1 := h q hq (Nat.dvd_trans hqd hd)
  have h2 := Nat.le_of_dvd (by omega) hqd
  have : q = p := by omega
  rw [← this]
  exact hq
theorem Rough.next2 {m : Nat} (h : Rough 2 m) (hd : ¬ 2 ∣ m) : Rough 3 m := fun q hq hqd => by
  have h1 := h q hq hqd
  rcases Nat.eq_or_lt_of_le h1 with z | z
  · subst z
    exact (hd hqd).elim
  · omega
theorem even_not_prime {q : Nat} (h : q % 2 = 0) (h2 : 2 < q) : ¬ Pr q := fun hq => by
  rcases hq.dvd (Nat.dvd_of_mod_eq_zero h) with e | e
  · omega
  · omega
theorem Rough.next {p m : Nat} (h : Rough p m) (hp : p % 2 = 1) (h3 : 3 ≤ p) (hd : ¬ p ∣ m) : Rough (p + 2) m := fun q hq hqd => by
  have h1 := h q hq hqd
  rcases Nat.eq_or_lt_of_le h1 with z | z
  · subst z
    exact (hd hqd).elim
  · rcases Nat.eq_or_lt_of_le (show p + 1 ≤ q from z) with y | y
    · exact (even_not_prime (by omega) (by omega) hq).elim
    · omega
theorem Rough.last {p m : Nat} (h : Rough p m) (hm : 1 < m) (hs : m < p * p) : Pr m := by
  refine Pr.sq_bound hm fun q hq h1 h2 => ?_
  have h3 := h q hq h2
  have := Nat.mul_le_mul h3 h3
  omega

end M
namespace M
open PySem PySem.Spec PyProof.Rows L2 G
section
variable {P : Program} {w : World} {K : PySem.W.Frag} {mg : Str → Option Value} {base : Heap}
/-! the powers of a number, by trial -/
def powD (x : Nat × Nat) : PyData := .tuple [.int x.1, .int x.2]
def sp_powers_of (_ : PySem.W.Frag) : Sp := spec1 fun x H Q _ => ∃ n : Nat, x = .int n ∧ 1 ≤ n ∧ n ≤ 1000000000000 ∧ ∀ L p H', FacOf L n → Same H H' → Rp (New H) H' (.ref p) (.list (L.map powD)) → Q (.ref p) H'
theorem sq_small {p m : Nat} (h : p * p ≤ m) (hm : m ≤ 1000000000000) : p ≤ 1000000 := by
  refine Classical.byContradiction fun z => ?_
  have := Nat.mul_le_mul (show 1000001 ≤ p by omega) (show 1000001 ≤ p by omega)
  omega
theorem facOk_len : ∀ {b : Nat} {L : List (Nat × Nat)}, FacOk b L → ∀ t, (∀ x ∈ L, x.1 < t) → L.length ≤ t - b
  | _, [], _, _, _ => Nat.zero_le _
  | b, (p, e) :: r, ⟨h1, _, _, h4⟩, t, ht => by
    have h5 := facOk_len h4 t fun x hx => ht x (List.mem_cons_of_mem _ hx)
    have h6 : p < t := ht (p, e) List.mem_cons_self
    rw [List.length_cons]
    omega
theorem ok_powers_of {af : Addr} {fd : FuncData} (F : FunD K "powers_of" "powers_of" (defArgs s_powers_of) (defBody s_powers_of) (defScope s_powers_of) [] [] af fd) (B : Bt mg)  : FnG P w K mg base CX0 1 af fd ["number"] (sp_powers_of K) := by
  refine okG F sc_powers_of ar1 fun cdv A outer s H vs Q E hg hr h => ?_
  refine ⟨_, PSs.nox (pss_cons (ps_par3 (i := 1) (j := 2) (l := 3) (by rfl) sc_powers_of.nd rfl rfl rfl (by decide) (by decide) (by decide) rfl rfl rfl (pa_cons (pe_lst pa_nil) (pa_cons (pv 0) (pa_cons pe_int pa_nil))) (by rfl))
    (pss_cons (ps_while PassesOwn.never (pt_cmpR op_le (pe_op op_mul (pv 3) (pv 3)) (pv 2) (nomark _))
      (pss_cons (ps_set (i := 4) sc_powers_of.nd rfl (.inl rfl) pe_int)
      (pss_cons (ps_while PassesOwn.never (pt_cmpR op_eq (pe_op op_mod (pv 2) (pv 3)) pe_int (nomark _))
        (pss_one (ps_par (i := 2) (j := 4) (by rfl) sc_powers_of.nd rfl rfl (by decide) rfl rfl (pa_cons (pe_op op_fdivW (pv 2) (pv 3)) (pa_cons (pe_op op_add (pv 4) pe_int) pa_nil)) (by rfl))))
      (pss_cons (ps_if (pt_cmpR op_gt (pv 4) pe_int (nomark _))
        (pss_one (ps_expr (pe_bm PySem.F.plainAttrs_list PySem.F.slot_list_append PySem.F.type_list_append mt_append (pv 1) (pa_cons (pe_tup (pa_cons (pv 3) (pa_cons (pv 4) pa_nil))) pa_nil))))
        pss_nil)
      (pss_one (ps_set (i := 3) sc_powers_of.nd rfl (.inl rfl) (pe_op op_add (pv 3) (pe_ifExp (pt_cmpR op_eq (pv 3) pe_int (nomark _)) pe_int pe_int))))))))
    (pss_cons (ps_if (pt_cmpR op_gt (pv 2) pe_int (nomark _))
      (pss_one (ps_expr (pe_bm PySem.F.plainAttrs_list PySem.F.slot_list_append PySem.F.type_list_append mt_append (pv 1) (pa_cons (pe_tup (pa_cons (pv 2) (pa_cons pe_int pa_nil))) pa_nil))))
      pss_nil)
    (pss_one (ps_ret (pv 1)))))), ?_⟩
  obtain ⟨_, rfl, n, rfl, h1, h2, q⟩ := h
  refine ⟨sz0, fun fd hfd => ⟨_, rfl, _, _, _, rfl, ?_⟩⟩
  refine ⟨fun m σ H' => ∃ (vs : List V) (acc : List (Nat × Nat)) (left p : Nat) (y : Option V), σ = [some (.int n), some (.ref fd), some (.int left), some (.int p), y] ∧ Same H H' ∧ H' fd = some (.lst vs) ∧ RpA (Nw H fd) H' vs (acc.map powD) ∧ FacOk 0 acc ∧ (∀ x ∈ acc, x.1 < p) ∧ facP acc * left = n ∧ 0 < left ∧ left ≤ n ∧ Rough p left ∧ (p = 2 ∨ 3 ≤ p ∧ p % 2 = 1) ∧ p ≤ 1000002 ∧ m = 1000002 - p,
    ⟨_, [], [], n, 2, none, rfl, Same.new (Same.refl H) hfd, upd_same, .nil, True.intro, by simp, by simp [facP], by omega, Nat.le_refl n, Rough.two n, .inl rfl, by omega, rfl⟩, fun m σ H' hW => ?_⟩
  obtain ⟨vs, acc, left, p, y, rfl, sm, ef, rp, ok, lt, pr, l0, ln, ro, pp, pb, rfl⟩ := hW
  have p2 : 2 ≤ p := by omega
  have vlen : vs.length ≤ 1000002 := by
    rw [rp.length, List.length_map]
    have := facOk_len ok p lt
    omega
  refine ⟨_, rfl, _, rfl, _, _, rfl, rfl, mulc ⟨by omega, by omega⟩, _, rfl, _, _, rfl, rfl, _, rfl, ite2 (fun hc => ?_) (fun hc => ?_)⟩
  · have hc' : p * p ≤ left := by
      have : (p : Int) * (p : Int) ≤ (left : Int) := of_decide_eq_true hc
      rw [← Int.natCast_mul] at this
      omega
    have psm := sq_small hc' (by omega)
    refine ⟨_, fun _ _ z => z, ?_⟩
    -- many = 0, the inner loop
    refine ⟨fun m σ H2 => ∃ l2 many : Nat, σ = [some (.int n), some (.ref fd), some (.int l2), some (.int p), some (.int many)] ∧ H2 = H' ∧ left = l2 * p ^ many ∧ 0 < l2 ∧ l2 ≤ left ∧ l2 = m, ⟨_, left, 0, rfl, rfl, by simp, l0, Nat.le_refl _, rfl⟩, fun m σ H2 hW => ?_⟩
    obtain ⟨l2, many, rfl, rfl, el, l20, l2l, rfl⟩ := hW
    refine ⟨_, rfl, _, rfl, _, _, rfl, rfl, (show (0 : Int) < (p : Int) by omega), rfl, _, rfl, ite2 (fun hd => ?_) (fun hd => ?_)⟩
    · have hd' : p ∣ l2 := by
        have z : (l2 : Int) % (p : Int) = 0 := V.int.inj (of_decide_eq_true hd)
        exact Nat.dvd_of_mod_eq_zero (by omega)
      obtain ⟨k, rfl⟩ := hd'
      have hk : 0 < k := by
        rcases Nat.eq_zero_or_pos k with e | e
        · rw [e] at l20
          omega
        · exact e
      have hlt : k < p * k := by
        have := Nat.mul_le_mul_right k p2
        omega
      have ek : ((p * k : Nat) : Int) / (p : Int) = (k : Int) := by
        rw [Int.natCast_mul, Int.mul_ediv_cancel_left _ (by omega)]
      refine ⟨_, fun _ _ z => z, _, rfl, _, rfl, _, _, rfl, rfl, divw (by omega) (by omega), _, rfl, _, _, rfl, rfl, _, _, rfl, k, by omega, k, many + 1, ?_, rfl, ?_, hk, by omega, rfl⟩
      · show [some (V.int n), some (V.ref fd), some (V.int (((p * k : Nat) : Int) / (p : Int))), some (V.int p), some (V.int ((many : Int) + 1))] = _
        rw [ek, Int.natCast_add]
        rfl
      · rw [el, Nat.pow_succ, Nat.mul_comm p k, Nat.mul_assoc, Nat.mul_comm p]
    · have hd' : ¬ p ∣ l2 := fun z => hd (decide_eq_true (congrArg V.int (by
        have := Nat.mod_eq_zero_of_dvd z
        show (l2 : Int) % (p : Int) = 0
        omega)))
      have ro2 : Rough p l2 := ro.of_dvd ⟨p ^ many, el⟩
      -- what the next turn is
      have next : ∀ (vs' : List V) (acc' : List (Nat × Nat)) (H3 : Hp), Same H H3 → H3 fd = some (.lst vs') → RpA (Nw H fd) H3 vs' (acc'.map powD) → FacOk 0 acc' → (∀ x ∈ acc', x.1 ≤ p) → facP acc' * l2 = n →
          ∃ m', m' < 1000002 - p ∧ ∃ (vs : List V) (acc : List (Nat × Nat)) (left p' : Nat) (y : Option V), [some (V.int n), some (V.ref fd), some (V.int l2), some (V.int ((p : Int) + (if p = 2 then 1 else 2))), some (V.int many)] = [some (.int n), some (.ref fd), some (.int left), some (.int p'), y] ∧ Same H H3 ∧ H3 fd = some (.lst vs) ∧ RpA (Nw H fd) H3 vs (acc.map powD) ∧ FacOk 0 acc ∧ (∀ x ∈ acc, x.1 < p') ∧ facP acc * left = n ∧ 0 < left ∧ left ≤ n ∧ Rough p' left ∧ (p' = 2 ∨ 3 ≤ p' ∧ p' % 2 = 1) ∧ p' ≤ 1000002 ∧ m' = 1000002 - p' := by
        intro vs' acc' H3 s3 e3 r3 o3 lt3 pr3
        by_cases hp2 : p = 2
        · subst hp2
          exact ⟨_, by omega, vs', acc', l2, 3, some (.int many), rfl, s3, e3, r3, o3, fun x hx => Nat.lt_succ_of_le (lt3 x hx), pr3, l20, by omega, ro2.next2 hd', .inr ⟨by omega, by omega⟩, by omega, rfl⟩
        · refine ⟨_, ?_, vs', acc', l2, p + 2, some (.int many), ?_, s3, e3, r3, o3, fun x hx => ?_, pr3, l20, by omega, ro2.next (by omega) (by omega) hd', .inr ⟨by omega, by omega⟩, by omega, rfl⟩
          · omega
          · rw [if_neg hp2, Int.natCast_add]
            rfl
          · have := lt3 x hx
            omega
      have step : ∀ (H3 : Hp) (R : L2.St → Hp → Prop), R [some (V.int n), some (V.ref fd), some (V.int l2), some (V.int ((p : Int) + (if p = 2 then 1 else 2))), some (V.int many)] H3 →
          tAsg (tOp (rI0 fun i j => .int (i + j)) (tVar 3) (tIf (tTest (tOp rEq (tVar 3) (tC (.int 2)))) (tC (.int 1)) (tC (.int 2)))) (gName 3) { nx := R, rt := Q } [some (V.int n), some (V.ref fd), some (V.int l2), some (V.int p), some (V.int many)] H3 := by
        intro H3 R hR
        refine ⟨_, rfl, _, rfl, rfl, _, rfl, ite2 (fun hp2 => ?_) (fun hp2 => ?_)⟩
        · have hp2' : p = 2 := by
            have z : (p : Int) = 2 := V.int.inj (of_decide_eq_true hp2)
            omega
          rw [if_pos hp2'] at hR
          exact ⟨_, _, rfl, rfl, hR⟩
        · have hp2' : ¬ p = 2 := fun z => hp2 (decide_eq_true (by rw [z]; rfl))
          rw [if_neg hp2'] at hR
          exact ⟨_, _, rfl, rfl, hR⟩
      refine ⟨_, rfl, _, _, rfl, rfl, _, rfl, ite2 (fun hm => ?_) (fun hm => ?_)⟩
      · have hm' : 1 ≤ many := by
          have : (0 : Int) < (many : Int) := of_decide_eq_true hm
          omega
        have pprime : Pr p := ro.prime p2 (by rw [el]; exact Nat.dvd_trans (dvd_pow_self hm') (Nat.dvd_mul_left _ _))
        refine ⟨_, rfl, .inl ⟨rfl, _, SqL.of ef⟩, _, rfl, _, rfl, sz2, fun t ht => ?_⟩
        have npt : fd ≠ t := ne_of_none ef ht
        refine ⟨fd, _, _, rfl, rfl, (upd_ne npt).trans ef, small_lt (by omega), step _ _ (next _ (acc ++ [(p, many)]) _ ((sm.new ht).mut hfd) upd_same ?_ (ok.snoc lt (Nat.zero_le _) pprime hm') (fun x hx => ?_) ?_)⟩
        · rw [List.map_append]
          refine ((rp.new ht).put nw_not).snoc ?_
          exact .tup ⟨sm.free ht, npt.symm⟩ ((upd_ne npt.symm).trans upd_same) (RpA.ints [(p : Int), (many : Int)])
        · rcases List.mem_append.mp hx with hx | hx
          · exact Nat.le_of_lt (lt x hx)
          · cases List.mem_singleton.mp hx
            exact Nat.le_refl _
        · rw [facP_snoc, ← pr, el, Nat.mul_assoc, Nat.mul_comm (p ^ many)]
      · have hm' : many = 0 := by
          have : ¬ (0 : Int) < (many : Int) := fun z => hm (decide_eq_true z)
          omega
        refine step _ _ (next _ acc _ sm ef rp ok (fun x hx => Nat.le_of_lt (lt x hx)) ?_)
        rw [← pr, el, hm', Nat.pow_zero, Nat.mul_one]
  · have hc' : left < p * p := by
      have : ¬ (p : Int) * (p : Int) ≤ (left : Int) := fun z => hc (decide_eq_true z)
      rw [← Int.natCast_mul] at this
      omega
    refine ⟨_, rfl, _, _, rfl, rfl, _, rfl, ite2 (fun hm => ?_) (fun hm => ?_)⟩
    · have hm' : 1 < left := by
        have : (1 : Int) < (left : Int) := of_decide_eq_true hm
        omega
      have lp := ro.last hm' hc'
      refine ⟨_, rfl, .inl ⟨rfl, _, SqL.of ef⟩, _, rfl, sz2, fun t ht => ?_⟩
      have npt : fd ≠ t := ne_of_none ef ht
      have fin : FacOf (acc ++ [(left, 1)]) n := ⟨ok.snoc (fun x hx => Nat.lt_of_lt_of_le (lt x hx) (ro left lp (Nat.dvd_refl _))) (Nat.zero_le _) lp (Nat.le_refl 1), by rw [facP_snoc, Nat.pow_one, pr]⟩
      refine ⟨fd, _, _, rfl, rfl, (upd_ne npt).trans ef, small_lt (by omega), _, rfl, q _ fd _ fin ((sm.new ht).mut hfd) (.lst hfd upd_same ?_)⟩
      rw [List.map_append]
      refine RpA.mono (fun _ z => z.1) (fun _ _ _ z => z) _ _ (((rp.new ht).put nw_not).snoc (d := powD (left, 1)) ?_)
      exact .tup ⟨sm.free ht, npt.symm⟩ ((upd_ne npt.symm).trans upd_same) (RpA.ints [(left : Int), 1])
    · have hm' : left = 1 := by
        have : ¬ (1 : Int) < (left : Int) := fun z => hm (decide_eq_true z)
        omega
      exact ⟨_, rfl, q acc fd H' ⟨ok, by rw [← pr, hm', Nat.mul_one]⟩ sm (.lst hfd ef (RpA.mono (fun _ z => z.1) (fun _ _ _ z => z) _ _ rp))⟩

end
end M
namespace M
/-! sums of a row -/
/-- f 1 + .. + f n -/
def sumR (f : Nat → Int) : Nat → Int
  | 0 => 0
  | n + 1 => sumR f n + f (n + 1)
theorem sumR_congr {f g : Nat → Int} : ∀ {n : Nat}, (∀ i, 1 ≤ i → i ≤ n → f i = g i) → sumR f n = sumR g n
  | 0, _ => rfl
  | n + 1, h => by rw [sumR, sumR, sumR_congr fun i h1 h2 => h i h1 (by omega), h (n + 1) (by omega) (by omega)]
theorem sumR_add (f g : Nat → Int) : ∀ n : Nat, sumR (fun i => f i + g i) n = sumR f n + sumR g n
  | 0 => rfl
  | n + 1 => by
    rw [sumR, sumR, sumR, sumR_add f g n]
    omega
theorem sumR_neg (f : Nat → Int) : ∀ n : Nat, sumR (fun i => - f i) n = - sumR f n
  | 0 => rfl
  | n + 1 => by
    rw [sumR, sumR, sumR_neg f n]
    omega
theorem sumR_mul (c : Int) (f : Nat → Int) : ∀ n : Nat, sumR (fun i => c * f i) n = c * sumR f n
  | 0 => by simp [sumR]
  | n + 1 => by rw [sumR, sumR, sumR_mul c f n, Int.mul_add]
theorem sumR_zero {f : Nat → Int} {n : Nat} (h : ∀ i, 1 ≤ i → i ≤ n → f i = 0) : sumR f n = 0 := by
  rw [sumR_congr (g := fun _ => 0) h]
  induction n with
  | zero => rfl
  | succ n ih => rw [sumR, ih fun i h1 h2 => h i h1 (by omega)]; rfl
/-- behind M nothing -/
theorem sumR_trunc {f : Nat → Int} {M : Nat} : ∀ {N : Nat}, M ≤ N → (∀ i, M < i → i ≤ N → f i = 0) → sumR f N = sumR f M
  | 0, h, _ => by
    have : M = 0 := by omega
    rw [this]
  | N + 1, h, z => by
    by_cases e : M = N + 1
    · rw [e]
    · rw [sumR, sumR_trunc (N := N) (by omega) fun i h1 h2 => z i h1 (by omega), z (N + 1) (by omega) (by omega)]
      omega
/-- by whether p goes into -/
theorem sumR_mult {p : Nat} (hp : 0 < p) (f : Nat → Int) : ∀ n : Nat, sumR (fun i => if p ∣ i then f i else 0) n = sumR (fun i => f (p * i)) (n / p)
  | 0 => by simp [sumR]
  | n + 1 => by
    rw [sumR, sumR_mult hp f n, Nat.succ_div]
    by_cases h : p ∣ n + 1
    · rw [if_pos h, if_pos h, sumR]
      congr 1
      have e := Nat.succ_div (a := n) (b := p)
      rw [if_pos h] at e
      rw [← e, Nat.mul_div_cancel' h]
    · rw [if_neg h, if_neg h]
      simp
theorem sumR_split {p : Nat} (hp : 0 < p) (f : Nat → Int) (n : Nat) : sumR f n = sumR (fun i => if p ∣ i then 0 else f i) n + sumR (fun i => f (p * i)) (n / p) := by
  rw [← sumR_mult hp, ← sumR_add]
  refine sumR_congr fun i _ _ => ?_
  split <;> omega
/-- one alone -/
theorem sumR_one {f : Nat → Int} {n k : Nat} (h1 : 1 ≤ k) (h2 : k ≤ n) (h : ∀ i, 1 ≤ i → i ≤ n → i ≠ k → f i = 0) : sumR f n = f k := by
  induction n with
  | zero => omega
  | succ n ih =>
    rw [sumR]
    by_cases e : k = n + 1
    · subst e
      rw [sumR_zero fun i a b => h i a (by omega) (by omega)]
      omega
    · rw [ih (by omega) fun i a b c => h i a (by omega) c, h (n + 1) (by omega) (by omega) (by omega)]
      omega
/-- sums of a list of numbers from 1 on -/
theorem sum_range (f : Nat → Int) : ∀ n : Nat, ((List.range n).map fun i => f (i + 1)).sum = sumR f n
  | 0 => rfl
  | n + 1 => by
    rw [List.range_succ, List.map_append, List.sum_append, sum_range f n, sumR]
    simp

end M
namespace M
/-! signs of numbers -/
def mstep (i : Nat) (s : Int) (p : Nat) : Int := if p * p ∣ i then 0 else if p ∣ i then 0 - s else s
def muL (ps : List Nat) (i : Nat) : Int := ps.foldl (mstep i) 1
def mu (i : Nat) : Int := muL (primesTo i) i
theorem muL_snoc (ps : List Nat) (p i : Nat) : muL (ps ++ [p]) i = mstep i (muL ps i) p := by
  unfold muL
  rw [List.foldl_append]
  rfl
theorem muL_succ (n i : Nat) : muL (primesTo (n + 1)) i = if Pr (n + 1) then mstep i (muL (primesTo n) i) (n + 1) else muL (primesTo n) i := by
  rw [primesTo_succ]
  split
  · rw [muL_snoc]
  · rw [List.append_nil]
theorem muL_more {i : Nat} (hi : 1 ≤ i) : ∀ k : Nat, muL (primesTo (i + k)) i = mu i
  | 0 => rfl
  | k + 1 => by
    rw [show i + (k + 1) = (i + k) + 1 by omega, muL_succ, muL_more hi k]
    split
    · unfold mstep
      have h1 : ¬ (i + k + 1) ∣ i := fun z => by
        have := Nat.le_of_dvd (by omega) z
        omega
      rw [if_neg fun z => h1 (Nat.dvd_trans (Nat.dvd_mul_left _ _) z), if_neg h1]
    · rfl
theorem muL_ge {i n : Nat} (hi : 1 ≤ i) (h : i ≤ n) : muL (primesTo n) i = mu i := by
  obtain ⟨k, rfl⟩ := Nat.exists_eq_add_of_le h
  exact muL_more hi k
theorem mu_one : mu 1 = 1 := by decide
theorem muL_sq {p i : Nat} (hp : Pr p) (hd : p * p ∣ i) : ∀ k : Nat, muL (primesTo (p + k)) i = 0
  | 0 => by
    obtain ⟨q, rfl⟩ : ∃ q, p = q + 1 := ⟨p - 1, by have := hp.1; omega⟩
    rw [Nat.add_zero, muL_succ, if_pos hp]
    unfold mstep
    rw [if_pos hd]
  | k + 1 => by
    rw [show p + (k + 1) = (p + k) + 1 by omega, muL_succ, muL_sq hp hd k]
    unfold mstep
    split
    · split
      · rfl
      · split <;> rfl
    · rfl
theorem mu_sq {p i : Nat} (hp : Pr p) (hd : p * p ∣ i) (hi : 0 < i) : mu i = 0 := by
  have h1 := Nat.le_of_dvd hi hd
  have h2 : p ≤ p * p := Nat.le_mul_of_pos_left p (by have := hp.1; omega)
  obtain ⟨k, hk⟩ := Nat.exists_eq_add_of_le (show p ≤ i by omega)
  unfold mu
  rw [show primesTo i = primesTo (p + k) by rw [← hk]]
  exact muL_sq hp hd k
theorem dvd_mul_pr {p q d : Nat} (hp : Pr p) (hq : Pr q) (h : p ≠ q) : q ∣ p * d ↔ q ∣ d := by
  constructor
  · intro z
    rcases hq.mul z with z | z
    · exact (h (hq.eq_of_dvd hp z).symm).elim
    · exact z
  · exact fun z => Nat.dvd_trans z (Nat.dvd_mul_left d p)
theorem sq_coprime {p a : Nat} (hp : Pr p) (ha : ¬ p ∣ a) : Nat.Coprime (p * p) a := Nat.Coprime.mul_left (hp.coprime ha) (hp.coprime ha)
theorem dvd_mul_sq {p q d : Nat} (hp : Pr p) (hq : Pr q) (h : p ≠ q) : q * q ∣ p * d ↔ q * q ∣ d := by
  have nd : ¬ q ∣ p := fun z => h (hq.eq_of_dvd hp z).symm
  exact ⟨fun z => (sq_coprime hq nd).dvd_of_dvd_mul_left z, fun z => Nat.dvd_trans z (Nat.dvd_mul_left d p)⟩
theorem muL_mul {p d : Nat} (hp : Pr p) (hd : ¬ p ∣ d) : ∀ k : Nat, muL (primesTo k) (p * d) = if p ≤ k then - muL (primesTo k) d else muL (primesTo k) d
  | 0 => by
    rw [if_neg (by have := hp.1; omega)]
    rfl
  | k + 1 => by
    rw [muL_succ, muL_succ, muL_mul hp hd k]
    by_cases hk : Pr (k + 1)
    · rw [if_pos hk, if_pos hk]
      by_cases e : p = k + 1
      · rw [if_neg (by omega), if_pos (by omega), ← e]
        unfold mstep
        have n1 : ¬ p * p ∣ p * d := fun z => hd (Nat.dvd_of_mul_dvd_mul_left (by have := hp.1; omega) z)
        have n2 : ¬ p * p ∣ d := fun z => hd (Nat.dvd_trans (Nat.dvd_mul_left _ _) z)
        rw [if_neg n1, if_pos (Nat.dvd_mul_right p d), if_neg n2, if_neg hd]
        omega
      · unfold mstep
        simp only [dvd_mul_pr hp hk e, dvd_mul_sq hp hk e]
        by_cases l : p ≤ k
        · rw [if_pos l, if_pos (show p ≤ k + 1 by omega)]
          split
          · rfl
          · split <;> omega
        · rw [if_neg l, if_neg (show ¬ p ≤ k + 1 by omega)]
    · rw [if_neg hk, if_neg hk]
      have : p ≠ k + 1 := fun z => hk (by rw [← z]; exact hp)
      by_cases l : p ≤ k
      · rw [if_pos l, if_pos (by omega)]
      · rw [if_neg l, if_neg (by omega)]
theorem mu_mul {p d : Nat} (hp : Pr p) (hd : ¬ p ∣ d) : mu (p * d) = - mu d := by
  have hd0 : 0 < d := by
    rcases Nat.eq_zero_or_pos d with e | e
    · rw [e] at hd
      exact (hd (Nat.dvd_zero p)).elim
    · exact e
  have h1 : d ≤ p * d := Nat.le_mul_of_pos_left d (by have := hp.1; omega)
  have h2 : p ≤ p * d := Nat.le_mul_of_pos_right p hd0
  unfold mu
  rw [muL_mul hp hd, if_pos h2]
  show - muL (primesTo (p * d)) d = - mu d
  rw [muL_ge hd0 h1]
theorem mu_mul_dvd {p d : Nat} (hp : Pr p) (hd : p ∣ d) (h0 : 0 < d) : mu (p * d) = 0 := mu_sq hp (Nat.mul_dvd_mul_left p hd) (Nat.mul_pos (by have := hp.1; omega) h0)
theorem mu_prime {p : Nat} (hp : Pr p) : mu p = -1 := by
  have := mu_mul (d := 1) hp fun z => by
    have := Nat.le_of_dvd (by decide) z
    have := hp.1
    omega
  rw [Nat.mul_one, mu_one] at this
  exact this
/-- by the powers of primes -/
def sgnL (L : List (Nat × Nat)) : Int := if L.any fun x => decide (1 < x.2) then 0 else if L.length % 2 = 0 then 1 else -1
theorem sgnL_cons (p e : Nat) (r : List (Nat × Nat)) (he : 1 ≤ e) : sgnL ((p, e) :: r) = if 1 < e then 0 else - sgnL r := by
  unfold sgnL
  rw [List.any_cons, List.length_cons]
  by_cases h : 1 < e
  · simp [h]
  · simp only [h, decide_false, Bool.false_or, if_false]
    split
    · rfl
    · split <;> split <;> omega
theorem mu_ok : ∀ {b : Nat} {L : List (Nat × Nat)}, FacOk b L → mu (facP L) = sgnL L
  | _, [], _ => by
    show mu 1 = _
    rw [mu_one]
    rfl
  | b, (p, e) :: r, ⟨h1, h2, h3, h4⟩ => by
    rw [sgnL_cons _ _ _ h3]
    have ih := mu_ok h4
    have nd := not_dvd_rest h2 h4
    have pos := FacOk.pos h4
    show mu (p ^ e * facP r) = _
    split
    · rename_i h
      refine mu_sq h2 ?_ (Nat.mul_pos (Nat.pow_pos (by have := h2.1; omega)) pos)
      obtain ⟨k, rfl⟩ : ∃ k, e = k + 2 := ⟨e - 2, by omega⟩
      refine Nat.dvd_trans ?_ (Nat.dvd_mul_right _ _)
      rw [Nat.pow_succ, Nat.pow_succ, Nat.mul_assoc]
      exact Nat.dvd_mul_left _ _
    · have e1 : e = 1 := by omega
      rw [e1, Nat.pow_one, mu_mul h2 nd, ih]
theorem mu_fac {L : List (Nat × Nat)} {n : Nat} (h : FacOf L n) : mu n = sgnL L := by
  rw [← h.2]
  exact mu_ok h.1
theorem mu_small (n : Nat) : mu n = 0 ∨ mu n = 1 ∨ mu n = -1 := by
  unfold mu muL
  generalize primesTo n = ps
  have : ∀ (ps : List Nat) (s : Int), (s = 0 ∨ s = 1 ∨ s = -1) → (ps.foldl (mstep n) s = 0 ∨ ps.foldl (mstep n) s = 1 ∨ ps.foldl (mstep n) s = -1) := by
    intro ps
    induction ps with
    | nil => intro s h; exact h
    | cons p ps ih =>
      intro s h
      refine ih _ ?_
      unfold mstep
      split
      · omega
      · split <;> omega
  exact this ps 1 (by omega)
/-- a number without squares has no prime twice -/
theorem mu_ne {p n : Nat} (h : mu n ≠ 0) (hp : Pr p) (h0 : 0 < n) : ¬ p * p ∣ n := fun z => h (mu_sq hp z h0)
theorem mu_zero_has {n : Nat} (h0 : 0 < n) (h : mu n = 0) : ∃ p, Pr p ∧ p * p ∣ n := by
  obtain ⟨L, hL⟩ := fac_ex h0
  have e := mu_fac hL
  rw [h] at e
  unfold sgnL at e
  split at e
  · rename_i a
    obtain ⟨x, hx, hx2⟩ := List.any_eq_true.mp a
    obtain ⟨p, m⟩ := x
    have hm : 1 < m := of_decide_eq_true hx2
    have ok := hL.1.mem hx
    refine ⟨p, ok.2.1, ?_⟩
    have : p ^ m ∣ facP L := by
      clear e a h hL
      induction L with
      | nil => cases hx
      | cons y r ih =>
        obtain ⟨q, f⟩ := y
        rcases List.mem_cons.mp hx with z | z
        · cases z
          exact Nat.dvd_mul_right _ _
        · exact Nat.dvd_trans (ih z) (Nat.dvd_mul_left _ _)
    rw [hL.2] at this
    obtain ⟨k, rfl⟩ : ∃ k, m = k + 2 := ⟨m - 2, by omega⟩
    refine Nat.dvd_trans ?_ this
    rw [Nat.pow_succ, Nat.pow_succ, Nat.mul_assoc]
    exact Nat.dvd_mul_left _ _
  · split at e <;> omega
/-! sums of signs -/
theorem mu_sum {n N : Nat} (h1 : 1 ≤ n) (h2 : n ≤ N) : sumR (fun d => if d ∣ n then mu d else 0) N = if n = 1 then 1 else 0 := by
  by_cases e : n = 1
  · subst e
    rw [if_pos rfl, sumR_one (k := 1) (by decide) h2 fun i a _ b => ?_, if_pos (Nat.dvd_refl 1), mu_one]
    rw [if_neg fun z => b (Nat.dvd_one.mp z)]
  · rw [if_neg e]
    obtain ⟨p, hp, hd⟩ := prime_div (show 2 ≤ n by omega)
    have p2 := hp.1
    rw [sumR_split (p := p) (by omega)]
    have a : sumR (fun i => if p ∣ i then 0 else if i ∣ n then mu i else 0) N = sumR (fun i => if p ∣ i then 0 else if i ∣ n then mu i else 0) (N / p) := by
      refine sumR_trunc (Nat.div_le_self _ _) fun i hi _ => ?_
      by_cases hpi : p ∣ i
      · rw [if_pos hpi]
      · rw [if_neg hpi, if_neg]
        intro hin
        have := (hp.coprime hpi).mul_dvd_of_dvd_of_dvd hd hin
        have := Nat.le_of_dvd (by omega) this
        have := (Nat.le_div_iff_mul_le (show 0 < p by omega)).mpr (show i * p ≤ N by rw [Nat.mul_comm]; omega)
        omega
    rw [a, ← sumR_add]
    refine sumR_zero fun i i1 i2 => ?_
    by_cases hpi : p ∣ i
    · rw [if_pos hpi, mu_mul_dvd hp hpi (by omega)]
      split <;> rfl
    · rw [if_neg hpi, mu_mul hp hpi]
      by_cases hin : i ∣ n
      · rw [if_pos hin, if_pos ((hp.coprime hpi).mul_dvd_of_dvd_of_dvd hd hin)]
        omega
      · rw [if_neg hin, if_neg fun z => hin (Nat.dvd_trans (Nat.dvd_mul_left i p) z)]
        rfl
/-- signs by quotients -/
theorem mu_quot : ∀ {n : Nat} (N : Nat), n ≤ N → sumR (fun k => mu k * (n / k : Nat)) N = if n = 0 then 0 else 1
  | 0, N, _ => by
    rw [if_pos rfl]
    refine sumR_zero fun i _ _ => ?_
    rw [Nat.zero_div]
    simp
  | n + 1, N, h => by
    rw [if_neg (by omega)]
    have e : sumR (fun k => mu k * ((n + 1) / k : Nat)) N = sumR (fun k => mu k * (n / k : Nat)) N + sumR (fun d => if d ∣ n + 1 then mu d else 0) N := by
      rw [← sumR_add]
      refine sumR_congr fun i _ _ => ?_
      rw [Nat.succ_div]
      split
      · rw [Int.natCast_add, Int.mul_add]
        simp
      · simp
    rw [e, mu_quot N (by omega), mu_sum (by omega) h]
    by_cases z : n = 0
    · rw [if_pos z, if_pos (by omega)]
      rfl
    · rw [if_neg z, if_neg (by omega)]
      rfl
/-! numbers without squares -/
theorem mu_sqsum {n N : Nat} (h1 : 1 ≤ n) (h2 : n < (N + 1) * (N + 1)) : sumR (fun d => if d * d ∣ n then mu d else 0) N = if mu n = 0 then 0 else 1 := by
  have N1 : 1 ≤ N := by
    rcases Nat.eq_zero_or_pos N with e | e
    · rw [e] at h2
      omega
    · exact e
  by_cases e : mu n = 0
  · rw [if_pos e]
    obtain ⟨p, hp, hd⟩ := mu_zero_has h1 e
    have p2 := hp.1
    rw [sumR_split (p := p) (by omega)]
    have both : ∀ i, ¬ p ∣ i → i * i ∣ n → (p * i) * (p * i) ∣ n := by
      intro i hpi hin
      have c : Nat.Coprime (p * p) (i * i) := Nat.Coprime.mul_right (sq_coprime hp hpi) (sq_coprime hp hpi)
      have := c.mul_dvd_of_dvd_of_dvd hd hin
      rw [show p * i * (p * i) = p * p * (i * i) by rw [Nat.mul_assoc, Nat.mul_assoc, Nat.mul_left_comm i p i]]
      exact this
    have a : sumR (fun i => if p ∣ i then 0 else if i * i ∣ n then mu i else 0) N = sumR (fun i => if p ∣ i then 0 else if i * i ∣ n then mu i else 0) (N / p) := by
      refine sumR_trunc (Nat.div_le_self _ _) fun i hi _ => ?_
      by_cases hpi : p ∣ i
      · rw [if_pos hpi]
      · rw [if_neg hpi, if_neg]
        intro hin
        have := Nat.le_of_dvd (by omega) (both i hpi hin)
        have g : N < p * i := by
          have := (Nat.div_lt_iff_lt_mul (show 0 < p by omega)).mp hi
          rw [Nat.mul_comm]
          exact this
        have := Nat.mul_le_mul (show N + 1 ≤ p * i from g) (show N + 1 ≤ p * i from g)
        omega
    rw [a, ← sumR_add]
    refine sumR_zero fun i i1 i2 => ?_
    by_cases hpi : p ∣ i
    · rw [if_pos hpi, mu_mul_dvd hp hpi (by omega)]
      split <;> rfl
    · rw [if_neg hpi, mu_mul hp hpi]
      by_cases hin : i * i ∣ n
      · rw [if_pos hin, if_pos (both i hpi hin)]
        omega
      · rw [if_neg hin, if_neg fun z => hin (Nat.dvd_trans (Nat.mul_dvd_mul (Nat.dvd_mul_left i p) (Nat.dvd_mul_left i p)) z)]
        rfl
  · rw [if_neg e, sumR_one (k := 1) (by decide) N1 fun i a _ b => ?_]
    · rw [if_pos (Nat.one_dvd n), mu_one]
    · rw [if_neg]
      intro z
      obtain ⟨p, hp, hpd⟩ := prime_div (show 2 ≤ i by omega)
      exact e (mu_sq hp (Nat.dvd_trans (Nat.mul_dvd_mul hpd hpd) z) (by omega))
/-- how many to n -/
def plainN (n : Nat) : Int := sumR (fun i => if mu i = 0 then 0 else 1) n
theorem plain_sum : ∀ {n : Nat} (N : Nat), n < (N + 1) * (N + 1) → sumR (fun d => mu d * (n / (d * d) : Nat)) N = plainN n
  | 0, N, _ => by
    refine Eq.trans (sumR_zero fun i _ _ => ?_) rfl
    rw [Nat.zero_div]
    simp
  | n + 1, N, h => by
    have e : sumR (fun k => mu k * ((n + 1) / (k * k) : Nat)) N = sumR (fun k => mu k * (n / (k * k) : Nat)) N + sumR (fun d => if d * d ∣ n + 1 then mu d else 0) N := by
      rw [← sumR_add]
      refine sumR_congr fun i _ _ => ?_
      rw [Nat.succ_div]
      split
      · rw [Int.natCast_add, Int.mul_add]
        simp
      · simp
    rw [e, plain_sum N (by omega), mu_sqsum (by omega) h, plainN, plainN, sumR]
theorem plain_step (n : Nat) : plainN (n + 1) - plainN n = if mu (n + 1) = 0 then 0 else 1 := by
  unfold plainN
  rw [sumR]
  omega
/-- each number is a square times a number without squares, in one way -/
theorem one_square : ∀ (k n N : Nat), n ≤ k → 1 ≤ n → n < (N + 1) * (N + 1) → sumR (fun s => if s * s ∣ n then (if mu (n / (s * s)) = 0 then 0 else 1) else 0) N = 1
  | 0, n, N, h, h1, _ => by omega
  | k + 1, n, N, h, h1, h2 => by
    have N1 : 1 ≤ N := by
      rcases Nat.eq_zero_or_pos N with e | e
      · rw [e] at h2
        omega
      · exact e
    by_cases e : mu n = 0
    · obtain ⟨p, hp, hd⟩ := mu_zero_has h1 e
      have p2 := hp.1
      obtain ⟨m, rfl⟩ := hd
      have m0 : 1 ≤ m := by
        rcases Nat.eq_zero_or_pos m with z | z
        · rw [z] at h1
          omega
        · exact z
      have pp : 4 ≤ p * p := Nat.mul_le_mul p2 p2
      have mlt : m < p * p * m := by
        have := Nat.mul_le_mul_right m pp
        omega
      rw [sumR_split (p := p) (by omega)]
      have a : sumR (fun i => if p ∣ i then 0 else if i * i ∣ p * p * m then (if mu (p * p * m / (i * i)) = 0 then 0 else 1) else 0) N = 0 := by
        refine sumR_zero fun i i1 _ => ?_
        by_cases hpi : p ∣ i
        · rw [if_pos hpi]
        · rw [if_neg hpi]
          by_cases hin : i * i ∣ p * p * m
          · rw [if_pos hin, if_pos]
            have c : Nat.Coprime (i * i) (p * p) := (Nat.Coprime.mul_right (sq_coprime hp hpi) (sq_coprime hp hpi)).symm
            obtain ⟨t, rfl⟩ := c.dvd_of_dvd_mul_left hin
            have ii : 0 < i * i := Nat.mul_pos (by omega) (by omega)
            rw [show p * p * (i * i * t) = i * i * (p * p * t) by rw [Nat.mul_left_comm], Nat.mul_div_cancel_left _ ii]
            refine mu_sq hp (Nat.dvd_mul_right _ _) (Nat.mul_pos (by omega) ?_)
            rcases Nat.eq_zero_or_pos t with z | z
            · rw [z] at m0
              omega
            · exact z
          · rw [if_neg hin]
      have b : sumR (fun i => if p * i * (p * i) ∣ p * p * m then (if mu (p * p * m / (p * i * (p * i))) = 0 then 0 else 1) else 0) (N / p) = sumR (fun s => if s * s ∣ m then (if mu (m / (s * s)) = 0 then 0 else 1) else 0) (N / p) := by
        refine sumR_congr fun i _ _ => ?_
        rw [show p * i * (p * i) = p * p * (i * i) by rw [Nat.mul_assoc, Nat.mul_assoc, Nat.mul_left_comm i p i], Nat.mul_div_mul_left _ _ (by omega : 0 < p * p)]
        by_cases z : i * i ∣ m
        · rw [if_pos z, if_pos (Nat.mul_dvd_mul_left _ z)]
        · rw [if_neg z, if_neg fun y => z (Nat.dvd_of_mul_dvd_mul_left (by omega : 0 < p * p) y)]
      rw [a, b, one_square k m (N / p) (by omega) m0 ?_]
      · rfl
      · have g := Nat.lt_mul_div_succ N (show 0 < p by omega)
        refine Classical.byContradiction fun z => ?_
        have h3 : (N / p + 1) * (N / p + 1) ≤ m := by omega
        have h4 := Nat.mul_le_mul_left (p * p) h3
        rw [show p * p * ((N / p + 1) * (N / p + 1)) = (p * (N / p + 1)) * (p * (N / p + 1)) by rw [Nat.mul_assoc, Nat.mul_assoc, Nat.mul_left_comm (N / p + 1) p]] at h4
        have h5 := Nat.mul_le_mul (show N + 1 ≤ p * (N / p + 1) from g) (show N + 1 ≤ p * (N / p + 1) from g)
        omega
    · rw [sumR_one (k := 1) (by decide) N1 fun i a _ b => ?_]
      · rw [if_pos (by simp), if_neg (by simpa using e)]
      · rw [if_neg]
        intro z
        obtain ⟨p, hp, hpd⟩ := prime_div (show 2 ≤ i by omega)
        exact e (mu_sq hp (Nat.dvd_trans (Nat.mul_dvd_mul hpd hpd) z) (by omega))
theorem plain_squares : ∀ {n : Nat} (N : Nat), n < (N + 1) * (N + 1) → sumR (fun s => plainN (n / (s * s))) N = n
  | 0, N, _ => by
    refine Eq.trans (sumR_zero fun i _ _ => ?_) rfl
    rw [Nat.zero_div]
    rfl
  | n + 1, N, h => by
    have e : sumR (fun s => plainN ((n + 1) / (s * s))) N = sumR (fun s => plainN (n / (s * s))) N + sumR (fun s => if s * s ∣ n + 1 then (if mu ((n + 1) / (s * s)) = 0 then 0 else 1) else 0) N := by
      rw [← sumR_add]
      refine sumR_congr fun i _ _ => ?_
      have sd := Nat.succ_div (a := n) (b := i * i)
      by_cases z : i * i ∣ n + 1
      · rw [if_pos z] at sd ⊢
        rw [sd]
        have := plain_step (n / (i * i))
        omega
      · rw [if_neg z] at sd ⊢
        rw [sd]
        simp
    rw [e, plain_squares N (by omega), one_square (n + 1) (n + 1) N (Nat.le_refl _) (by omega) h]
    omega

end M
namespace M
open PySem PySem.Spec PyProof.Rows L2 G
section
variable {P : Program} {w : World} {K : PySem.W.Frag} {mg : Str → Option Value} {base : Heap}
/-! lists in which multiples are set, one by one -/
/-- whether k is one of the first j multiples of m from st on -/
def hit (st m j k : Nat) : Bool := decide (m ∣ k) && decide (st ≤ k) && decide (k < st + j * m)
theorem hit_zero (st m k : Nat) : hit st m 0 k = false := by
  unfold hit
  rw [Bool.eq_false_iff]
  intro z
  simp only [Bool.and_eq_true, decide_eq_true_eq] at z
  omega
theorem hit_next {st m j k : Nat} (hm : 0 < m) (hd : m ∣ st) : hit st m (j + 1) k = (hit st m j k || decide (k = st + j * m)) := by
  unfold hit
  rw [Bool.eq_iff_iff]
  simp only [Bool.and_eq_true, Bool.or_eq_true, decide_eq_true_eq, Nat.succ_mul]
  constructor
  · rintro ⟨⟨h1, h2⟩, h3⟩
    by_cases e : k < st + j * m
    · exact .inl ⟨⟨h1, h2⟩, e⟩
    · refine .inr ?_
      have d : m ∣ k - (st + j * m) := Nat.dvd_sub h1 (Nat.dvd_add hd (Nat.dvd_mul_left m j))
      rcases Nat.eq_zero_or_pos (k - (st + j * m)) with z | z
      · omega
      · have := Nat.le_of_dvd z d
        omega
  · rintro (⟨⟨h1, h2⟩, h3⟩ | rfl)
    · exact ⟨⟨h1, h2⟩, by omega⟩
    · exact ⟨⟨Nat.dvd_add hd (Nat.dvd_mul_left m j), Nat.le_add_right _ _⟩, by omega⟩
theorem hit_here {st m j : Nat} : hit st m j (st + j * m) = false := by
  unfold hit
  simp
theorem hit_done {st m k : Nat} {hi : Int} (hm : 0 < m) (hd : m ∣ st) (hk : (k : Int) < hi) : hit st m (turns st hi m) k = (decide (m ∣ k) && decide (st ≤ k)) := by
  unfold hit
  by_cases h1 : m ∣ k
  · by_cases h2 : st ≤ k
    · rw [decide_eq_true h1, decide_eq_true h2]
      simp only [Bool.true_and]
      refine decide_eq_true ?_
      obtain ⟨c, hc⟩ := Nat.dvd_sub h1 hd
      have e : k = st + c * m := by rw [Nat.mul_comm]; omega
      have := turns_mem (i := st) (j := hi) (c := m) (k := c) (by omega) (by
        have : (k : Int) = (st : Int) + (c : Int) * (m : Int) := by rw [e, Int.natCast_add, Int.natCast_mul]
        omega)
      have := Nat.mul_lt_mul_of_pos_right this hm
      omega
    · rw [decide_eq_false h2]
      simp
  · rw [decide_eq_false h1]
    simp
/-- the list, j of the multiples set; what stands at i belongs to the number i + off -/
def hitL (N off st m j : Nat) (f g : Nat → V) : List V := (List.range N).map fun i => if hit st m j (i + off) then f i else g i
section
variable {N off st m j : Nat} {f g : Nat → V}
theorem hitL_zero : hitL N off st m 0 f g = (List.range N).map g := by
  unfold hitL
  refine List.map_congr_left fun i _ => ?_
  rw [hit_zero]
  rfl
theorem hitL_len : (hitL N off st m j f g).length = N := len_map_range
theorem hitL_get {i : Nat} (e : i + off = st + j * m) (h : i < N) : atI (hitL N off st m j f g) (i : Int) = some (g i) := by
  unfold hitL
  rw [map_range_at h, e, hit_here]
  rfl
theorem hitL_set {i : Nat} (hm : 0 < m) (hd : m ∣ st) (e : i + off = st + j * m) : (hitL N off st m j f g).set i (f i) = hitL N off st m (j + 1) f g := by
  unfold hitL
  rw [map_range_set]
  refine List.map_congr_left fun k _ => ?_
  rw [hit_next hm hd]
  by_cases ek : k = i
  · rw [if_pos ek, ← e, ek, decide_eq_true rfl, Bool.or_true]
    rfl
  · rw [if_neg ek, decide_eq_false (show ¬ k + off = st + j * m by omega), Bool.or_false]
theorem hitL_done {hi : Int} (hm : 0 < m) (hd : m ∣ st) (hN : ((N + off : Nat) : Int) ≤ hi) : hitL N off st m (turns st hi m) f g = (List.range N).map fun i => if m ∣ i + off ∧ st ≤ i + off then f i else g i := by
  unfold hitL
  refine List.map_congr_left fun i hi' => ?_
  have := List.mem_range.mp hi'
  rw [hit_done hm hd (by omega)]
  by_cases h1 : m ∣ i + off <;> by_cases h2 : st ≤ i + off <;> simp [h1, h2]
/-- a turn's place -/
theorem hit_place {hi : Int} (hm : 0 < m) (hj : j < turns st hi m) (hN : hi ≤ ((N + off : Nat) : Int)) (ho : off ≤ st) : ∃ i, i < N ∧ i + off = st + j * m ∧ (st : Int) + (j : Int) * (m : Int) = ((i + off : Nat) : Int) := by
  have lt := turns_lt (by omega) hj
  have e : (st : Int) + (j : Int) * (m : Int) = ((st + j * m : Nat) : Int) := by rw [Int.natCast_add, Int.natCast_mul]
  refine ⟨st + j * m - off, ?_, by omega, by omega⟩
  rw [e] at lt
  omega
end

end
end M
namespace M
/-! worths of tables by rows taken off, every division even: what the program's turn comes to -/
def stepM (M : Nat → Nat → Int) (k : Nat) (last : Int) : Nat → Nat → Int := fun a b => if k < a ∧ k < b then (M a b * M k k - M a k * M k b).fdiv last else M a b
def swapM (M : Nat → Nat → Int) (k b : Nat) : Nat → Nat → Int := fun i j => if i = k then M b j else if i = b then M k j else M i j
def DOk (last : Int) : Prop := last ≠ 0 ∧ last.natAbs < 2 ^ 200
def AllS (k n : Nat) (M : Nat → Nat → Int) : Prop := ∀ a b, k ≤ a → k ≤ b → a < n → b < n → (M a b).natAbs < 2 ^ 64
/-- from the turn k on, the sign, the last lead and the table being so, it comes to v -/
inductive Wo (n : Nat) : Nat → Int → Int → (Nat → Nat → Int) → Int → Prop
  | done {k : Nat} {sign last : Int} {M : Nat → Nat → Int} : k + 1 = n → (M k k).natAbs < 2 ^ 64 → Wo n k sign last M (sign * M k k)
  | zero {k : Nat} {sign last : Int} {M : Nat → Nat → Int} : k + 1 < n → M k k = 0 → (∀ i, k < i → i < n → M i k = 0) → Wo n k sign last M 0
  | swap {k : Nat} {sign last : Int} {M : Nat → Nat → Int} {v : Int} (b : Nat) : k + 1 < n → M k k = 0 → k < b → b < n → M b k ≠ 0 → (∀ i, k < i → i < b → M i k = 0) → AllS k n M → DOk last →
      Wo n (k + 1) (0 - sign) (M b k) (stepM (swapM M k b) k last) v → Wo n k sign last M v
  | go {k : Nat} {sign last : Int} {M : Nat → Nat → Int} {v : Int} : k + 1 < n → M k k ≠ 0 → AllS k n M → DOk last → Wo n (k + 1) sign (M k k) (stepM M k last) v → Wo n k sign last M v
theorem AllS.swap {k n b : Nat} {M : Nat → Nat → Int} (h : AllS k n M) (hb : k < b) (hn : b < n) : AllS k n (swapM M k b) := by
  intro i j hi hj hin hjn
  unfold swapM
  split
  · exact h b j (by omega) hj hn hjn
  · split
    · exact h k j (Nat.le_refl k) hj (by omega) hjn
    · exact h i j hi hj hin hjn
/-! the same, by lists, for the kernel -/
def smallB (x : Int) : Bool := Nat.ble x.natAbs 18446744073709551615
theorem smallB_ok {x : Int} (h : smallB x = true) : x.natAbs < 2 ^ 64 := by
  have := Nat.le_of_ble_eq_true h
  omega
def elimL (r : List Int) (last : Int) (q : List Int) : List Int := List.zipWith (fun x y => (x * r.headD 0 - q.headD 0 * y).fdiv last) q.tail r.tail
def barC : Nat → Int → Int → List (List Int) → Option Int
  | 0, sign, _, rows => match rows with
    | [[x]] => if smallB x then some (sign * x) else none
    | _ => none
  | f + 1, sign, last, rows => if (rows.all fun r => r.all smallB) && decide (last ≠ 0 ∧ last.natAbs < 2 ^ 200) then
      match rows with
      | [] => none
      | r :: rs => if r.headD 0 = 0 then
          if rs.findIdx (fun q => !decide (q.headD 0 = 0)) < rs.length then
            let k := rs.findIdx fun q => !decide (q.headD 0 = 0)
            let q := rs.getD k []
            barC f (0 - sign) (q.headD 0) ((rs.set k r).map (elimL q last))
          else some 0
        else barC f sign (r.headD 0) (rs.map (elimL r last))
    else none
def subM (M : Nat → Nat → Int) (k m : Nat) : List (List Int) := (List.range m).map fun i => (List.range m).map fun j => M (k + i) (k + j)
theorem subM_all {M : Nat → Nat → Int} {k m n : Nat} (hm : k + m = n) (h : ((subM M k m).all fun r => r.all smallB) = true) : AllS k n M := by
  intro a b ha hb han hbn
  have h1 := List.all_eq_true.mp h ((List.range m).map fun j => M (k + (a - k)) (k + j)) (List.mem_map.mpr ⟨a - k, List.mem_range.mpr (by omega), rfl⟩)
  have h2 := List.all_eq_true.mp h1 (M (k + (a - k)) (k + (b - k))) (List.mem_map.mpr ⟨b - k, List.mem_range.mpr (by omega), rfl⟩)
  rw [show k + (a - k) = a by omega, show k + (b - k) = b by omega] at h2
  exact smallB_ok h2
theorem row_head (f : Nat → Int) (m : Nat) : ((List.range (m + 1)).map f).headD 0 = f 0 := by
  rw [List.range_succ_eq_map]
  rfl
theorem row_tail (f : Nat → Int) (m : Nat) : ((List.range (m + 1)).map f).tail = (List.range m).map fun j => f (j + 1) := by
  rw [List.range_succ_eq_map, List.map_cons, List.tail_cons, List.map_map]
  rfl
theorem zip_range (f g : Nat → Int) (h : Int → Int → Int) (m : Nat) : List.zipWith h ((List.range m).map f) ((List.range m).map g) = (List.range m).map fun j => h (f j) (g j) := by
  apply List.ext_getElem?
  intro i
  rw [List.getElem?_zipWith, List.getElem?_map, List.getElem?_map, List.getElem?_map]
  by_cases hi : i < m
  · rw [List.getElem?_range hi]
    rfl
  · rw [List.getElem?_eq_none (by simp; omega)]
    rfl
theorem elim_row (P Q : Nat → Int) (last : Int) (m : Nat) : elimL ((List.range (m + 1)).map P) last ((List.range (m + 1)).map Q) = (List.range m).map fun j => (Q (j + 1) * P 0 - Q 0 * P (j + 1)).fdiv last := by
  unfold elimL
  rw [row_head, row_head, row_tail, row_tail, zip_range]
theorem subM_cons (M : Nat → Nat → Int) (k m : Nat) : subM M k (m + 1) = ((List.range (m + 1)).map fun j => M k (k + j)) :: (List.range m).map fun i => (List.range (m + 1)).map fun j => M (k + (i + 1)) (k + j) := by
  unfold subM
  rw [List.range_succ_eq_map, List.map_cons, List.map_map]
  rfl
theorem set_range {α : Type} (N i : Nat) (f : Nat → α) (v : α) : ((List.range N).map f).set i v = (List.range N).map fun k => if k = i then v else f k := by
  apply List.ext_getElem?
  intro j
  rw [List.getElem?_set, List.getElem?_map, List.getElem?_map]
  by_cases h : j < N
  · rw [List.getElem?_range h]
    by_cases e : i = j
    · subst e
      simp [h]
    · simp [e, show ¬ j = i from fun z => e z.symm]
  · have : (List.range N)[j]? = none := List.getElem?_eq_none (by simp; omega)
    rw [this]
    split
    · split
      · rename_i z
        simp at z
        omega
      · rfl
    · rfl
theorem barC_ok {n : Nat} : ∀ (f k : Nat) (sign last : Int) (M : Nat → Nat → Int) (v : Int), k + f + 1 = n → barC f sign last (subM M k (f + 1)) = some v → Wo n k sign last M v
  | 0, k, sign, last, M, v, hk, h => by
    have e : subM M k 1 = [[M k k]] := rfl
    rw [e] at h
    unfold barC at h
    simp only [] at h
    split at h
    · rename_i hs
      cases h
      exact .done (by omega) (smallB_ok hs)
    · cases h
  | f + 1, k, sign, last, M, v, hk, h => by
    rw [subM_cons] at h
    unfold barC at h
    rw [← subM_cons] at h
    split at h
    · rename_i hc
      rw [Bool.and_eq_true] at hc
      have hS := subM_all (n := n) (by omega) hc.1
      have hD : DOk last := (of_decide_eq_true hc.2 : last ≠ 0 ∧ last.natAbs < 2 ^ 200)
      rw [subM_cons] at h
      simp only [row_head] at h
      by_cases h0 : M k (k + 0) = 0
      · rw [if_pos h0] at h
        have h0' : M k k = 0 := h0
        split at h
        · rename_i hi
          generalize hq : (List.findIdx (fun q : List Int => !decide (q.headD 0 = 0)) ((List.range (f + 1)).map fun i => (List.range (f + 1 + 1)).map fun j => M (k + (i + 1)) (k + j))) = t at h hi
          have ht : t < f + 1 := by simpa using hi
          have hp := List.findIdx_getElem (p := fun q : List Int => !decide (q.headD 0 = 0)) (xs := (List.range (f + 1)).map fun i => (List.range (f + 1 + 1)).map fun j => M (k + (i + 1)) (k + j)) (w := by rw [hq]; simpa using hi)
          have hne : ∀ i, i < t → M (k + (i + 1)) k = 0 := fun i hit => by
            have z := List.not_of_lt_findIdx (p := fun q : List Int => !decide (q.headD 0 = 0)) (xs := (List.range (f + 1)).map fun i => (List.range (f + 1 + 1)).map fun j => M (k + (i + 1)) (k + j)) (i := i) (by rw [hq]; exact hit)
            simp only [List.getElem_map, List.getElem_range, row_head] at z
            simpa using z
          have hpv : M (k + (t + 1)) k ≠ 0 := by
            simp only [List.getElem_map, List.getElem_range, row_head, hq] at hp
            simpa using hp
          have eg : (((List.range (f + 1)).map fun i => (List.range (f + 1 + 1)).map fun j => M (k + (i + 1)) (k + j)).getD t []) = (List.range (f + 1 + 1)).map fun j => M (k + (t + 1)) (k + j) := by
            rw [List.getD_eq_getElem?_getD, List.getElem?_map, List.getElem?_range ht]
            rfl
          simp only [eg, row_head] at h
          refine .swap (k + (t + 1)) (by omega) h0' (by omega) (by omega) hpv (fun i h1 h2 => ?_) hS hD (barC_ok f (k + 1) (0 - sign) _ _ v (by omega) ?_)
          · have := hne (i - k - 1) (by omega)
            rwa [show k + (i - k - 1 + 1) = i by omega] at this
          · rw [← h, set_range, List.map_map]
            congr 1
            unfold subM
            refine List.map_congr_left fun i hi' => ?_
            have hi2 := List.mem_range.mp hi'
            show _ = elimL _ last (if i = t then (List.range (f + 1 + 1)).map fun j => M k (k + j) else (List.range (f + 1 + 1)).map fun j => M (k + (i + 1)) (k + j))
            have er : (if i = t then (List.range (f + 1 + 1)).map fun j => M k (k + j) else (List.range (f + 1 + 1)).map fun j => M (k + (i + 1)) (k + j)) = (List.range (f + 1 + 1)).map fun j => (if i = t then M k (k + j) else M (k + (i + 1)) (k + j)) := by
              split <;> rfl
            rw [er, elim_row]
            refine List.map_congr_left fun j hj' => ?_
            unfold stepM swapM
            rw [if_pos ⟨by omega, by omega⟩]
            by_cases e : i = t
            · subst e
              simp [show k + 1 + i = k + (i + 1) by omega, show k + 1 + j = k + (j + 1) by omega]
            · simp [e, show ¬ k + 1 + i = k + (t + 1) by omega, show k + 1 + i = k + (i + 1) by omega, show k + 1 + j = k + (j + 1) by omega]
        · rename_i hi
          cases h
          refine .zero (by omega) h0' fun i h1 h2 => ?_
          have z := List.not_of_lt_findIdx (p := fun q : List Int => !decide (q.headD 0 = 0)) (xs := (List.range (f + 1)).map fun i => (List.range (f + 1 + 1)).map fun j => M (k + (i + 1)) (k + j)) (i := i - k - 1) (Nat.lt_of_lt_of_le (by rw [List.length_map, List.length_range]; omega) (Nat.le_of_not_lt hi))
          simp only [List.getElem_map, List.getElem_range, row_head] at z
          rw [show k + (i - k - 1 + 1) = i by omega] at z
          simpa using z
      · rw [if_neg h0] at h
        refine .go (by omega) h0 hS hD (barC_ok f (k + 1) sign _ _ v (by omega) ?_)
        rw [← h]
        show barC f sign (M k k) _ = barC f sign (M k (k + 0)) _
        congr 1
        unfold subM
        rw [List.map_map]
        refine List.map_congr_left fun i hi' => ?_
        show _ = elimL _ last ((List.range (f + 1 + 1)).map fun j => M (k + (i + 1)) (k + j))
        rw [elim_row]
        refine List.map_congr_left fun j hj' => ?_
        unfold stepM
        rw [if_pos ⟨by omega, by omega⟩]
        simp [show k + 1 + i = k + (i + 1) by omega, show k + 1 + j = k + (j + 1) by omega]
    · cases h

end M
namespace M
open PySem PySem.Spec PyProof.Rows L2 G
section
variable {P : Program} {w : World} {K : PySem.W.Frag} {mg : Str → Option Value} {base : Heap}
/-! tables that are worked on -/
structure TabM (K : PySem.W.Frag) (H : Hp) (a : Addr) (n : Nat) (ad : Nat → Addr) (M : Nat → Nat → Int) : Prop where
  top : SqL K H a ((List.range n).map fun i => V.ref (ad i))
  row : ∀ i, i < n → SqL K H (ad i) ((List.range n).map fun j => V.int (M i j))
theorem TabM.same {H H' : Hp} {a : Addr} {n : Nat} {ad : Nat → Addr} {M : Nat → Nat → Int} (h : TabM K H a n ad M) (s : Same H H') : TabM K H' a n ad M := ⟨SqL.same s h.top, fun i hi => SqL.same s (h.row i hi)⟩
structure Mat (H : Hp) (R : Addr) (n : Nat) (ad : Nat → Addr) (M : Nat → Nat → Int) : Prop where
  top : H R = some (.lst ((List.range n).map fun i => V.ref (ad i)))
  off : ∀ i, i < n → ad i ≠ R
  inj : ∀ i j, i < n → j < n → ad i = ad j → i = j
  row : ∀ i, i < n → H (ad i) = some (.lst ((List.range n).map fun j => V.int (M i j)))
section
variable {H H' : Hp} {R : Addr} {n : Nat} {ad : Nat → Addr} {M M' : Nat → Nat → Int}
theorem Mat.congr (h : Mat H R n ad M) (e : ∀ i j, i < n → j < n → M i j = M' i j) : Mat H R n ad M' :=
  ⟨h.top, h.off, h.inj, fun i hi => by rw [h.row i hi]; exact congrArg (fun z => some (HO.lst z)) (List.map_congr_left fun j hj => by rw [e i j hi (List.mem_range.mp hj)])⟩
theorem Mat.same (h : Mat H R n ad M) (s : Same H H') : Mat H' R n ad M := ⟨s _ _ h.top, h.off, h.inj, fun i hi => s _ _ (h.row i hi)⟩
theorem Mat.put (h : Mat H R n ad M) {i j : Nat} {v : Int} (hi : i < n) : Mat (upd H (ad i) (.lst (((List.range n).map fun b => V.int (M i b)).set j (.int v)))) R n ad (fun a b => if a = i ∧ b = j then v else M a b) := by
  refine ⟨(upd_ne (h.off i hi).symm).trans h.top, h.off, h.inj, fun a ha => ?_⟩
  by_cases e : a = i
  · subst e
    rw [upd_same, map_range_set]
    refine congrArg (fun z => some (HO.lst z)) (List.map_congr_left fun b _ => ?_)
    by_cases e2 : b = j
    · rw [if_pos e2, if_pos ⟨rfl, e2⟩]
    · rw [if_neg e2, if_neg (fun z => e2 z.2)]
  · refine (upd_ne fun z => e (h.inj a i ha hi z)).trans ((h.row a ha).trans (congrArg (fun z => some (HO.lst z)) (List.map_congr_left fun b _ => ?_)))
    rw [if_neg (fun z => e z.1)]
/-- a row's address put elsewhere, twice: rows exchanged -/
theorem Mat.swap (h : Mat H R n ad M) {k b : Nat} (hk : k < n) (hb : b < n) (hkb : k ≠ b) : Mat (upd (upd H R (.lst (((List.range n).map fun i => V.ref (ad i)).set k (.ref (ad b))))) R (.lst ((((List.range n).map fun i => V.ref (ad i)).set k (.ref (ad b))).set b (.ref (ad k))))) R n
    (fun i => if i = k then ad b else if i = b then ad k else ad i) (swapM M k b) := by
  have lt : ∀ i, i < n → (if i = k then b else if i = b then k else i) < n := fun i hi => by
    split
    · exact hb
    · split
      · exact hk
      · exact hi
  have ea : ∀ i, (if i = k then ad b else if i = b then ad k else ad i) = ad (if i = k then b else if i = b then k else i) := fun i => by
    split
    · rfl
    · split <;> rfl
  refine ⟨?_, fun i hi => ?_, fun i j hi hj z => ?_, fun i hi => ?_⟩
  · rw [upd_same, map_range_set, map_range_set]
    refine congrArg (fun z => some (HO.lst z)) (List.map_congr_left fun i _ => ?_)
    by_cases e1 : i = b
    · subst e1
      rw [if_pos rfl, if_neg (fun z => hkb z.symm), if_pos rfl]
    · rw [if_neg e1, if_neg e1]
      by_cases e2 : i = k
      · rw [if_pos e2, if_pos e2]
      · rw [if_neg e2, if_neg e2]
  · show (if i = k then ad b else if i = b then ad k else ad i) ≠ R
    rw [ea]
    exact h.off _ (lt i hi)
  · have z : (if i = k then ad b else if i = b then ad k else ad i) = (if j = k then ad b else if j = b then ad k else ad j) := z
    rw [ea, ea] at z
    have := h.inj _ _ (lt i hi) (lt j hj) z
    split at this <;> split at this <;> (try split at this) <;> (try split at this) <;> omega
  · show upd (upd H R _) R _ (if i = k then ad b else if i = b then ad k else ad i) = _
    rw [ea]
    have o := h.off _ (lt i hi)
    rw [upd_ne o, upd_ne o, h.row _ (lt i hi)]
    refine congrArg (fun z => some (HO.lst z)) (List.map_congr_left fun j _ => ?_)
    unfold swapM
    split
    · rfl
    · split <;> rfl
end
/-- a new table, read off its data -/
theorem TabM.of_rp {N : Addr → Prop} {H : Hp} {p : Addr} {n : Nat} {M : Nat → Nat → Int} (h : Rp N H (.ref p) (tabD ((List.range n).map fun i => (List.range n).map fun j => M i j))) : ∃ ad, TabM K H p n ad M := by
  obtain ⟨_, vs, e, ra⟩ := h.node
  rw [List.map_map] at ra
  have get : ∀ i, i < n → ∃ b, vs[i]? = some (.ref b) ∧ H b = some (.lst ((List.range n).map fun j => V.int (M i j))) := fun i hi => by
    obtain ⟨v, e1, e2⟩ := ra.get (i := i) (d := .list (((List.range n).map fun j => M i j).map PyData.int)) (by rw [List.getElem?_map, List.getElem?_range hi]; rfl)
    obtain ⟨b, rfl, _⟩ := e2.isRef
    refine ⟨b, e1, ?_⟩
    rw [e2.ints, List.map_map]
    rfl
  refine ⟨fun i => match vs[i]? with | some (.ref b) => b | _ => 0, ⟨SqL.of ?_, fun i hi => ?_⟩⟩
  · rw [e]
    refine congrArg (fun z => some (HO.lst z)) (List.ext_getElem? fun i => ?_)
    rw [List.getElem?_map]
    by_cases hi : i < n
    · obtain ⟨b, e1, _⟩ := get i hi
      rw [List.getElem?_range hi, e1]
      simp [e1]
    · rw [List.getElem?_eq_none (by rw [ra.length]; simp; omega), List.getElem?_eq_none (by simp; omega)]
      rfl
  · obtain ⟨b, e1, e2⟩ := get i hi
    simp only [e1]
    exact SqL.of e2

end
end M
namespace M
open PySem PySem.Spec PyProof.Rows L2 G
section
variable {P : Program} {w : World} {K : PySem.W.Frag} {mg : Str → Option Value} {base : Heap}
/-! worths of tables -/
def sp_worth_of (K : PySem.W.Frag) : Sp := spec1 fun x H Q _ => ∃ (a : Addr) (n : Nat) (ad : Nat → Addr) (M : Nat → Nat → Int) (v : Int), x = .ref a ∧ TabM K H a n ad M ∧ 1 ≤ n ∧ n ≤ 100 ∧ Wo n 0 1 1 M v ∧ ∀ H', Same H H' → Q (.int v) H'
/-- what is done of a turn: rows above k + 1 + i whole, of this one j places -/
def partM (M : Nat → Nat → Int) (k : Nat) (last : Int) (i j : Nat) : Nat → Nat → Int := fun a b => if k < a ∧ k < b ∧ (a < k + 1 + i ∨ a = k + 1 + i ∧ b < k + 1 + j) then (M a b * M k k - M a k * M k b).fdiv last else M a b
theorem partM_zero {M : Nat → Nat → Int} {k : Nat} {last : Int} : partM M k last 0 0 = M := by
  funext a b
  unfold partM
  rw [if_neg (by omega)]
theorem partM_next {M : Nat → Nat → Int} {k : Nat} {last : Int} {i j : Nat} : (fun a b => if a = k + 1 + i ∧ b = k + 1 + j then (M (k + 1 + i) (k + 1 + j) * M k k - M (k + 1 + i) k * M k (k + 1 + j)).fdiv last else partM M k last i j a b) = partM M k last i (j + 1) := by
  funext a b
  unfold partM
  by_cases e : a = k + 1 + i ∧ b = k + 1 + j
  · obtain ⟨rfl, rfl⟩ := e
    rw [if_pos ⟨rfl, rfl⟩, if_pos (by omega)]
  · rw [if_neg e]
    by_cases c : k < a ∧ k < b ∧ (a < k + 1 + i ∨ a = k + 1 + i ∧ b < k + 1 + j)
    · rw [if_pos c, if_pos (by omega)]
    · rw [if_neg c, if_neg (by omega)]
def addA (ad : Nat → Addr) (i : Nat) (l : Addr) : Nat → Addr := fun k => if k = i then l else ad k
theorem addA_at {ad : Nat → Addr} {i : Nat} {l : Addr} : addA ad i l i = l := if_pos rfl
theorem addA_ne {ad : Nat → Addr} {i k : Nat} {l : Addr} (h : k ≠ i) : addA ad i l k = ad k := if_neg h
theorem ok_worth_of {af : Addr} {fd : FuncData} (F : FunD K "worth_of" "worth_of" (defArgs s_worth_of) (defBody s_worth_of) (defScope s_worth_of) [] [] af fd) (B : Bt mg)  : FnG P w K mg base CX0 1 af fd ["table"] (sp_worth_of K) := by
  refine okG F sc_worth_of ar1 fun cdv A outer s H vs Q E hg hr h => ?_
  refine ⟨_, PSs.nox (pss_cons (ps_asg (pe_tup (pa_cons (pe_lc (own := [("row", 7)]) rfl sc_worth_of.nd ((pi_list (pv 0))) (blkOk_by (own := [("row", 7)]) (N := ["table", "rows", "sign", "last", "size", "at", "some", "row", "late", "to", "whole"]) (sc := defScope s_worth_of) (by decide +kernel)) (fun _ _ _ _ _ => pg_name (i := 7) sc_worth_of.nd rfl (.inl rfl) (.inr rfl)) (fun _ _ _ _ _ => pts_nil) (fun _ _ _ _ _ => (pe_callTy (kCall rListOf (K := K) rfl call_list_of) (by rfl) B.list (by decide +kernel) (pa_cons (pv 7) pa_nil)))) (pa_cons pe_int (pa_cons pe_int pa_nil)))) (pg_tup rfl (pgs_cons (pg_name (i := 1) sc_worth_of.nd rfl (.inr rfl)) (pgs_cons (pg_name (i := 2) sc_worth_of.nd rfl (.inl rfl)) (pgs_cons (pg_name (i := 3) sc_worth_of.nd rfl (.inl rfl)) pgs_nil)))))
    (pss_cons (ps_set (i := 4) sc_worth_of.nd rfl (.inl rfl) (pe_callB call_len_seq (by rfl) B.len (by decide +kernel) (pa_cons (pv 1) pa_nil)))
    (pss_cons (ps_for PassesOwn.never rfl (pi_range1 rfl B.range (pa_cons (pe_op op_sub (pv 4) pe_int) pa_nil)) (pg_name (i := 5) sc_worth_of.nd rfl (.inr rfl))
      (pss_cutG (ps_if (pt_cmpR op_eq (pe_ix ix_list (pe_ix ix_list (pv 1) (pv 5) (fun _ _ => rfl)) (pv 5) (fun _ _ => rfl)) pe_int (nomark _))
        (pss_cons (ps_setLc (i := 6) (own := [("late", 8)]) rfl sc_worth_of.nd rfl rfl (sw_true rfl rfl rfl (by decide +kernel)) (pi_range2 rfl B.range (pa_cons (pe_op op_add (pv 5) pe_int) (pa_cons (pv 4) pa_nil))) (blkOk_by (own := [("late", 8)]) (N := ["table", "rows", "sign", "last", "size", "at", "some", "row", "late", "to", "whole"]) (sc := defScope s_worth_of) (by decide +kernel)) (fun _ _ _ _ _ => pg_name (i := 8) sc_worth_of.nd rfl (.inl rfl) (.inr rfl)) (fun _ _ _ _ _ => pts_one (pt_cmpR op_ne (pe_ix (kIx rIxL (K := K) rfl ix_list) (pe_ix (kIx rIxL (K := K) rfl ix_list) (pv 1) (pv 8) (fun _ _ => rfl)) (pv 5) (fun _ _ => rfl)) pe_int (nomark _))) (fun _ _ _ _ _ => (pv 8)))
        (pss_cons (ps_if (pt_cmpR (op_eqD hr.units) (pv 6) (pe_lst pa_nil) (nomark _))
          (pss_one (ps_ret pe_int))
          pss_nil)
        (pss_cons (ps_set (i := 7) sc_worth_of.nd rfl (.inl rfl) (pe_ix ix_list (pv 1) (pv 5) (fun _ _ => rfl)))
        (pss_cons (ps_asg (pe_tup (pa_cons (pe_ix ix_list (pv 1) (pe_ix ix_list (pv 6) pe_int (fun _ _ => rfl)) (fun _ _ => rfl)) (pa_cons (pv 7) pa_nil))) (pg_tup rfl (pgs_cons (pg_sub (pv 1) (pv 5) set_list) (pgs_cons (pg_sub (pv 1) (pe_ix ix_list (pv 6) pe_int (fun _ _ => rfl)) set_list) pgs_nil))))
        (pss_one (ps_set (i := 2) sc_worth_of.nd rfl (.inl rfl) (pe_op op_sub pe_int (pv 2))))))))
        pss_nil)
      (pss_cons (ps_for PassesOwn.never rfl (pi_range2 rfl B.range (pa_cons (pe_op op_add (pv 5) pe_int) (pa_cons (pv 4) pa_nil))) (pg_name (i := 8) sc_worth_of.nd rfl (.inl rfl))
        (pss_one (ps_for PassesOwn.never rfl (pi_range2 rfl B.range (pa_cons (pe_op op_add (pv 5) pe_int) (pa_cons (pv 4) pa_nil))) (pg_name (i := 9) sc_worth_of.nd rfl (.inl rfl))
          (pss_cons (ps_set (i := 10) sc_worth_of.nd rfl (.inl rfl) (pe_op op_sub (pe_op op_mul (pe_ix ix_list (pe_ix ix_list (pv 1) (pv 8) (fun _ _ => rfl)) (pv 9) (fun _ _ => rfl)) (pe_ix ix_list (pe_ix ix_list (pv 1) (pv 5) (fun _ _ => rfl)) (pv 5) (fun _ _ => rfl))) (pe_op op_mul (pe_ix ix_list (pe_ix ix_list (pv 1) (pv 8) (fun _ _ => rfl)) (pv 5) (fun _ _ => rfl)) (pe_ix ix_list (pe_ix ix_list (pv 1) (pv 5) (fun _ _ => rfl)) (pv 9) (fun _ _ => rfl)))))
          (pss_one (ps_asg (pe_op op_fdivA (pv 10) (pv 3)) (pg_sub (pe_ix ix_list (pv 1) (pv 8) (fun _ _ => rfl)) (pv 9) set_list)))))))
      (pss_one (ps_set (i := 3) sc_worth_of.nd rfl (.inl rfl) (pe_ix ix_list (pe_ix ix_list (pv 1) (pv 5) (fun _ _ => rfl)) (pv 5) (fun _ _ => rfl)))))))
    (pss_one (ps_ret (pe_op op_mul (pv 2) (pe_ix ix_list (pe_ix ix_list (pv 1) (pe_op op_sub (pv 4) pe_int) (fun _ _ => rfl)) (pe_op op_sub (pv 4) pe_int) (fun _ _ => rfl)))))))), ?_⟩
  obtain ⟨_, rfl, a, n, ad0, M0, v, rfl, hT, n1, n2, wo, q⟩ := h
  -- the rows copied
  refine ⟨_, rfl, a, rfl, ⟨_, hT.top⟩, fun D hD => lc_list (K := K) (a := a) (xs := (List.range n).map fun i => V.ref (ad0 i)) (fun i H1 => Same H H1 ∧ ∃ ad : Nat → Addr, H1 D = some (.lst ((List.range i).map fun k => V.ref (ad k))) ∧ (∀ k, k < i → H (ad k) = none ∧ ad k ≠ D) ∧ (∀ k l, k < i → l < i → ad k = ad l → k = l) ∧ ∀ k, k < i → H1 (ad k) = some (.lst ((List.range n).map fun j => V.int (M0 k j))))
    ⟨(Same.refl H).new hD, ad0, upd_same, fun k z => by omega, fun k l z => by omega, fun k z => by omega⟩ (fun i H1 _ z => SqL.same z.1 hT.top) ?_ ?_⟩
  · rintro i x H1 hx ⟨s1, ad, e1, e2, e3, e4⟩
    have hi : i < n := by
      have := (List.getElem?_eq_some_iff.mp hx).1
      simpa using this
    rw [List.getElem?_map, List.getElem?_range hi] at hx
    cases hx
    refine ⟨rfl, _, rfl, ad0 i, _, rfl, .inl (SqL.same s1 (hT.row i hi)), fun l hl => ?_⟩
    have nlD : l ≠ D := (ne_of_none e1 hl).symm
    have hDl : D ≠ l := ne_of_none e1 hl
    have nl : ∀ k, k < i → ad k ≠ l := fun k hk => ne_of_none (e4 k hk) hl
    refine ⟨_, (upd_ne hDl).trans e1, small_lt (by simp; omega), (s1.new hl).mut hD, addA ad i l, ?_, ?_, ?_, ?_⟩
    · rw [upd_same, List.range_succ, List.map_append]
      refine congrArg (fun z => some (HO.lst z)) (congr (congrArg _ (List.map_congr_left fun k hk => ?_)) ?_)
      · have := List.mem_range.mp hk
        rw [addA_ne (by omega)]
      · show _ = [V.ref (addA ad i l i)]
        rw [addA_at]
    · intro k hk
      by_cases e : k = i
      · subst e
        rw [addA_at]
        exact ⟨s1.free hl, nlD⟩
      · rw [addA_ne e]
        exact e2 k (by omega)
    · intro k l' hk hl' z
      by_cases a1 : k = i <;> by_cases a2 : l' = i
      · omega
      · rw [a1, addA_at, addA_ne a2] at z
        exact absurd z.symm (nl l' (by omega))
      · rw [a2, addA_at, addA_ne a1] at z
        exact absurd z (nl k (by omega))
      · rw [addA_ne a1, addA_ne a2] at z
        exact e3 k l' (by omega) (by omega) z
    · intro k hk
      by_cases e : k = i
      · subst e
        rw [addA_at, upd_ne nlD, upd_same]
      · rw [addA_ne e, upd_ne (e2 k (by omega)).2, upd_ne (nl k (by omega))]
        exact e4 k (by omega)
  rintro H1 ⟨s1, ad, e1, e2, e3, e4⟩
  rw [List.length_map, List.length_range] at e1 e2 e3 e4
  have mt : Mat H1 D n ad M0 := ⟨e1, fun i hi => (e2 i hi).2, e3, e4⟩
  have fr : H D = none ∧ ∀ i, i < n → H (ad i) = none := ⟨hD, fun i hi => (e2 i hi).1⟩
  clear e1 e2 e3 e4 hD
  refine ⟨sz3, fun t ht => ⟨t, _, rfl, SqT.of upd_same, rfl, _, _, rfl, _, _, rfl, _, _, rfl, rfl, ?_⟩⟩
  have mt2 := mt.same ((Same.refl H1).new (o := .tup [.ref D, .int 1, .int 1]) ht)
  have s2 := s1.new (o := .tup [.ref D, .int 1, .int 1]) ht
  clear mt s1
  generalize upd H1 t (.tup [.ref D, .int 1, .int 1]) = H2 at mt2 s2
  refine ⟨_, rfl, D, _, rfl, .inl (SqL.of mt2.top), ?_⟩
  rw [List.length_map, List.length_range]
  -- the turns
  refine ⟨_, rfl, _, _, rfl, rfl, _, rfl, by omega, by omega, for_range (fun k σ H' => ∃ (ad : Nat → Addr) (M : Nat → Nat → Int) (sign last : Int) (y5 y6 y7 y8 y9 y10 : Option V), σ = [some (.ref a), some (.ref D), some (.int sign), some (.int last), some (.int n), y5, y6, y7, y8, y9, y10] ∧ Same H H' ∧ Mat H' D n ad M ∧ (∀ i, i < n → H (ad i) = none) ∧ Wo n k sign last M v ∧ k < n)
    ⟨ad, M0, 1, 1, none, none, none, none, none, none, rfl, s2, mt2, fr.2, wo, by omega⟩ ?_ ?_⟩
  · rintro k σ H' hk ⟨ad, M, sign, last, y5, y6, y7, y8, y9, y10, rfl, sm, mt, fad, wo, hkn⟩
    have hk1 : k + 1 < n := by omega
    rw [show (0 : Int) + (k : Int) = (k : Int) by omega]
    refine ⟨fun σ H2 => ∃ (ad : Nat → Addr) (M : Nat → Nat → Int) (sign : Int) (y6 y7 y8 y9 y10 : Option V), σ = [some (.ref a), some (.ref D), some (.int sign), some (.int last), some (.int n), some (.int k), y6, y7, y8, y9, y10] ∧ Same H H2 ∧ Mat H2 D n ad M ∧ (∀ i, i < n → H (ad i) = none) ∧ AllS k n M ∧ DOk last ∧ Wo n (k + 1) sign (M k k) (stepM M k last) v, ⟨_, rfl, _, rfl, D, _, _, _, rfl, rfl, SqL.of mt.top, map_range_at hkn, _, rfl, ad k, _, _, _, rfl, rfl, SqL.of (mt.row k hkn), map_range_at hkn, rfl, _, rfl, ite2 (fun hc => ?_) (fun hc => ?_)⟩, ?_⟩
    · have hc : M k k = 0 := V.int.inj (of_decide_eq_true hc)
      refine ⟨_, rfl, _, _, rfl, rfl, _, rfl, _, _, rfl, ⟨by omega, by omega, by omega, by omega⟩, fun D2 hD2 => lcF_range (fun i => !decide (V.int (M (k + 1 + i) k) = V.int 0)) (fun i => .int (((k + 1 + i : Nat) : Int))) hD2 (by omega) ?_ ?_⟩
      · intro i H3 R S hi s3 hR hS
        have hi : k + 1 + i < n := by omega
        have ei : ((k : Int) + 1 + (i : Int)) = ((k + 1 + i : Nat) : Int) := by omega
        have mt3 := mt.same s3
        rw [ei]
        refine ⟨rfl, _, rfl, _, rfl, D, _, _, _, rfl, rfl, SqL.of mt3.top, map_range_at hi, _, rfl, ad (k + 1 + i), _, _, _, rfl, rfl, SqL.of (mt3.row (k + 1 + i) hi), map_range_at hkn, rfl, _, rfl, ite2 (fun hb => ⟨_, rfl, hR hb _ _ (Same.refl _) (.int _)⟩) (fun hb => hS (by simpa using hb) _ (Same.refl _))⟩
      · intro H3 s3 r3
        obtain ⟨fl, hfl⟩ : ∃ fl : List Nat, ((List.range ((n : Int) - ((k : Int) + 1)).toNat).filter fun i => !decide (V.int (M (k + 1 + i) k) = V.int 0)) = fl := ⟨_, rfl⟩
        have hm : ∀ i, i ∈ fl ↔ i < n - (k + 1) ∧ M (k + 1 + i) k ≠ 0 := by
          intro i
          rw [← hfl, List.mem_filter, List.mem_range]
          constructor
          · rintro ⟨h1, h2⟩
            exact ⟨by omega, by simpa using h2⟩
          · rintro ⟨h1, h2⟩
            exact ⟨by omega, by simpa using h2⟩
        have hpw : fl.Pairwise (· < ·) := hfl ▸ List.Pairwise.filter _ List.pairwise_lt_range
        rw [hfl, show fl.map (fun i => PyData.int (((k + 1 + i : Nat) : Int))) = (fl.map fun i => ((k + 1 + i : Nat) : Int)).map PyData.int by rw [List.map_map]; rfl] at r3
        have e3 := r3.ints
        have mt3 := mt.same s3
        refine ⟨_, rfl, sz0, fun e he => ⟨.list ((fl.map fun i => ((k + 1 + i : Nat) : Int)).map PyData.int), .list [], dp_ints (SqL.of ((upd_ne (ne_of_none e3 he)).trans e3)), dp_ints (ns := []) (SqL.of upd_same), ?_, ?_, ?_⟩⟩
        · exact shaped_map (f := PyData.int) (fun _ => rfl) (fun _ => by simp [PyData.depth])
        · exact shaped_map (f := PyData.int) (xs := []) (fun _ => rfl) (fun _ => by simp [PyData.depth])
        rw [show PyData.eqv (.list ((fl.map fun i => ((k + 1 + i : Nat) : Int)).map PyData.int)) (.list []) = decide ((fl.map fun i => ((k + 1 + i : Nat) : Int)) = []) from eqv_list (f := PyData.int) eqv_int _ []]
        cases fl with
        | nil =>
          refine ⟨_, rfl, ite2 (fun _ => ?_) (fun z => absurd (decide_eq_true rfl) z)⟩
          have z0 : ∀ i, k < i → i < n → M i k = 0 := fun i h1 h2 => by
            refine Classical.byContradiction fun z => ?_
            have := (hm (i - (k + 1))).mpr ⟨by omega, by rwa [show k + 1 + (i - (k + 1)) = i by omega]⟩
            simp at this
          have hv : v = 0 := by
            cases wo with
            | done h1 _ => omega
            | zero _ _ _ => rfl
            | swap b _ _ h3 h4 h5 _ _ _ _ => exact absurd (z0 b h3 h4) h5
            | go _ h2 _ _ _ => exact absurd hc h2
          rw [← hv]
          exact q _ ((sm.trans s3).new he)
        | cons i0 fl =>
          refine ⟨_, rfl, ite2 (fun z => by simp at z) (fun _ => ?_)⟩
          obtain ⟨hi0, hne⟩ := (hm i0).mp List.mem_cons_self
          have hb : k + 1 + i0 < n := by omega
          have below : ∀ i, k < i → i < k + 1 + i0 → M i k = 0 := fun i h1 h2 => by
            refine Classical.byContradiction fun z => ?_
            have := (hm (i - (k + 1))).mpr ⟨by omega, by rwa [show k + 1 + (i - (k + 1)) = i by omega]⟩
            rcases List.mem_cons.mp this with e | e
            · omega
            · have := (List.pairwise_cons.mp hpw).1 _ e
              omega
          obtain ⟨hS, hD, wo2⟩ : AllS k n M ∧ DOk last ∧ Wo n (k + 1) (0 - sign) (M (k + 1 + i0) k) (stepM (swapM M k (k + 1 + i0)) k last) v := by
            cases wo with
            | done h1 _ => omega
            | zero _ _ h3 => exact absurd (h3 _ (by omega) hb) hne
            | swap b _ _ h3 h4 h5 h6 h7 h8 h9 =>
              have e : b = k + 1 + i0 := by
                rcases Nat.lt_trichotomy b (k + 1 + i0) with z | z | z
                · exact absurd (below b h3 z) h5
                · exact z
                · exact absurd (h6 (k + 1 + i0) (by omega) z) hne
              subst e
              exact ⟨h7, h8, h9⟩
            | go _ h2 _ _ _ => exact absurd hc h2
          have s4 := s3.new (o := .lst []) he
          have mt4 := mt3.same ((Same.refl H3).new (o := .lst []) he)
          have e4 : (upd H3 e (.lst [])) D2 = some (.lst (V.int ((k + 1 + i0 : Nat) : Int) :: (fl.map fun i => ((k + 1 + i : Nat) : Int)).map V.int)) := (upd_ne (ne_of_none e3 he)).trans e3
          have nDD : D ≠ D2 := ne_of_none mt.top hD2
          have sm4 := sm.trans s4
          clear e3 r3 mt3 he hm hpw hfl
          generalize upd H3 e (.lst []) = H4 at s4 mt4 e4 sm4
          refine ⟨_, rfl, _, rfl, D, _, _, _, rfl, rfl, SqL.of mt4.top, map_range_at hkn, ?_⟩
          refine ⟨_, rfl, _, rfl, D2, _, _, _, rfl, rfl, SqL.of e4, atC, D, _, _, _, rfl, rfl, SqL.of mt4.top, map_range_at hb, _, rfl, sz2, fun t ht => ?_⟩
          have tD : D ≠ t := ne_of_none mt4.top ht
          have tD2 : D2 ≠ t := ne_of_none e4 ht
          have mt5 := mt4.same ((Same.refl H4).new (o := .tup [.ref (ad (k + 1 + i0)), .ref (ad k)]) ht)
          have e5 : (upd H4 t (.tup [.ref (ad (k + 1 + i0)), .ref (ad k)])) D2 = _ := (upd_ne tD2).trans e4
          refine ⟨t, _, rfl, SqT.of upd_same, rfl, _, _, rfl, ⟨_, rfl, _, rfl, D, _, _, k, rfl, rfl, mt5.top, by rw [len_map_range]; exact ixN_nat hkn, ?_⟩⟩
          refine ⟨_, _, rfl, ⟨_, rfl, _, rfl, D2, _, _, _, rfl, rfl, SqL.of ((upd_ne nDD.symm).trans e5), atC, D, _, _, k + 1 + i0, rfl, rfl, upd_same, by rw [List.length_set, len_map_range]; exact ixN_nat hb, rfl, ?_⟩⟩
          refine ⟨_, rfl, _, _, rfl, rfl, _, swapM M k (k + 1 + i0), 0 - sign, _, _, _, _, _, rfl, ?_, mt5.swap hkn hb (by omega), fun i hi => ?_, hS.swap (by omega) hb, hD, ?_⟩
          · exact ((sm4.new ht).mut fr.1).mut fr.1
          · show H (if i = k then ad (k + 1 + i0) else if i = k + 1 + i0 then ad k else ad i) = none
            split
            · exact fad _ hb
            · split
              · exact fad _ hkn
              · exact fad _ hi
          · have : swapM M k (k + 1 + i0) k k = M (k + 1 + i0) k := by unfold swapM; rw [if_pos rfl]
            rw [this]
            exact wo2
    · have hc : M k k ≠ 0 := fun z => hc (decide_eq_true (by rw [z]))
      obtain ⟨hS, hD, wo2⟩ : AllS k n M ∧ DOk last ∧ Wo n (k + 1) sign (M k k) (stepM M k last) v := by
        cases wo with
        | done h1 _ => omega
        | zero _ h2 _ => exact absurd h2 hc
        | swap b _ h2 h3 h4 h5 h6 h7 h8 h9 => exact absurd h2 hc
        | go _ h2 h3 h4 h5 => exact ⟨h3, h4, h5⟩
      exact ⟨ad, M, sign, _, _, _, _, _, rfl, sm, mt, fad, hS, hD, wo2⟩
    -- the rows below
    clear wo sign mt fad sm ad M y5 y6 y7 y8 y9 y10
    rintro σ H2 ⟨ad, M, sign, y6, y7, y8, y9, y10, rfl, sm, mt, fad, hS, hD, wo⟩
    refine ⟨_, rfl, _, _, rfl, rfl, _, rfl, _, _, rfl, ⟨by omega, by omega, by omega, by omega⟩, for_range (fun i σ H3 => ∃ (y8 y9 y10 : Option V), σ = [some (.ref a), some (.ref D), some (.int sign), some (.int last), some (.int n), some (.int k), y6, y7, y8, y9, y10] ∧ Same H H3 ∧ Mat H3 D n ad (partM M k last i 0))
      ⟨y8, y9, y10, rfl, sm, by rw [partM_zero]; exact mt⟩ ?_ ?_⟩
    · rintro i σ H3 hi ⟨y8, y9, y10, rfl, sm, mt⟩
      have hi : k + 1 + i < n := by omega
      rw [show ((k : Int) + 1 + (i : Int)) = ((k + 1 + i : Nat) : Int) by omega]
      refine ⟨_, rfl, _, _, rfl, rfl, _, rfl, _, _, rfl, ⟨by omega, by omega, by omega, by omega⟩, for_range (fun j σ H4 => ∃ (y9 y10 : Option V), σ = [some (.ref a), some (.ref D), some (.int sign), some (.int last), some (.int n), some (.int k), y6, y7, some (.int ((k + 1 + i : Nat) : Int)), y9, y10] ∧ Same H H4 ∧ Mat H4 D n ad (partM M k last i j))
        ⟨y9, y10, rfl, sm, mt⟩ ?_ ?_⟩
      · rintro j σ H4 hj ⟨y9, y10, rfl, sm, mt⟩
        have hj : k + 1 + j < n := by omega
        rw [show ((k : Int) + 1 + (j : Int)) = ((k + 1 + j : Nat) : Int) by omega]
        have p1 : partM M k last i j (k + 1 + i) (k + 1 + j) = M (k + 1 + i) (k + 1 + j) := by unfold partM; rw [if_neg (by omega)]
        have p2 : partM M k last i j k k = M k k := by unfold partM; rw [if_neg (by omega)]
        have p3 : partM M k last i j (k + 1 + i) k = M (k + 1 + i) k := by unfold partM; rw [if_neg (by omega)]
        have p4 : partM M k last i j k (k + 1 + j) = M k (k + 1 + j) := by unfold partM; rw [if_neg (by omega)]
        have b1 := hS k k (Nat.le_refl k) (Nat.le_refl k) hkn hkn
        have b2 := hS (k + 1 + i) k (by omega) (by omega) hi hkn
        have put := mt.put (i := k + 1 + i) (j := k + 1 + j) (v := (M (k + 1 + i) (k + 1 + j) * M k k - M (k + 1 + i) k * M k (k + 1 + j)).fdiv last) hi
        rw [partM_next] at put
        refine ⟨_, rfl, _, rfl, D, _, _, _, rfl, rfl, SqL.of mt.top, map_range_at hi, _, rfl, ad (k + 1 + i), _, _, _, rfl, rfl, SqL.of (mt.row (k + 1 + i) hi), map_range_at hj, _, rfl, _, rfl, D, _, _, _, rfl, rfl, SqL.of mt.top, map_range_at hkn, _, rfl, ad k, _, _, _, rfl, rfl, SqL.of (mt.row k hkn), map_range_at hkn, _, _, rfl, rfl, by rw [p2]; exact .inr ⟨by omega, by omega⟩, _, rfl, _, rfl, D, _, _, _, rfl, rfl, SqL.of mt.top, map_range_at hi, _, rfl, ad (k + 1 + i), _, _, _, rfl, rfl, SqL.of (mt.row (k + 1 + i) hi), map_range_at hkn, _, rfl, _, rfl, D, _, _, _, rfl, rfl, SqL.of mt.top, map_range_at hkn, _, rfl, ad k, _, _, _, rfl, rfl, SqL.of (mt.row k hkn), map_range_at hj, _, _, rfl, rfl, by rw [p3]; exact .inl ⟨by omega, by omega⟩, _, _, rfl, rfl, ?_⟩
        rw [p1, p2, p3, p4]
        refine ⟨_, rfl, _, rfl, _, _, rfl, rfl, hD, _, rfl, _, rfl, D, _, _, _, rfl, rfl, SqL.of mt.top, map_range_at hi, _, rfl, ad (k + 1 + i), _, _, k + 1 + j, rfl, rfl, mt.row _ hi, by rw [len_map_range]; exact ixN_nat hj, ?_⟩
        exact ⟨_, _, rfl, sm.mut (fad _ hi), put⟩
      · rintro σ H4 ⟨y9, y10, rfl, sm, mt⟩
        refine ⟨_, y9, y10, rfl, sm, mt.congr fun x y hx hy => ?_⟩
        unfold partM
        by_cases c : k < x ∧ k < y ∧ (x < k + 1 + (i + 1) ∨ x = k + 1 + (i + 1) ∧ y < k + 1 + 0)
        · rw [if_pos c, if_pos (by omega)]
        · rw [if_neg c, if_neg (by omega)]
    · rintro σ H3 ⟨y8, y9, y10, rfl, sm, mt⟩
      have mt := mt.congr (M' := stepM M k last) fun x y hx hy => by
        unfold partM stepM
        by_cases c : k < x ∧ k < y
        · rw [if_pos c, if_pos (by omega)]
        · rw [if_neg c, if_neg (by omega)]
      refine ⟨_, rfl, _, rfl, D, _, _, _, rfl, rfl, SqL.of mt.top, map_range_at hkn, _, rfl, ad k, _, _, _, rfl, rfl, SqL.of (mt.row k hkn), map_range_at hkn, ?_⟩
      refine ⟨ad, stepM M k last, sign, _, _, _, _, _, _, _, rfl, sm, mt, fad, ?_, by omega⟩
      have : stepM M k last k k = M k k := by unfold stepM; rw [if_neg (by omega)]
      rw [this]
      exact wo
  · rintro σ H' ⟨ad, M, sign, last, y5, y6, y7, y8, y9, y10, rfl, sm, mt, fad, wo, hkn⟩
    rw [show ((n : Int) - 1).toNat = n - 1 by omega] at wo
    have hn1 : n - 1 < n := by omega
    have en : ((n : Int) - 1) = ((n - 1 : Nat) : Int) := by omega
    refine ⟨_, rfl, _, rfl, _, rfl, _, _, rfl, rfl, D, _, _, _, rfl, rfl, SqL.of mt.top, by rw [en]; exact map_range_at hn1, _, rfl, _, _, rfl, rfl, ad (n - 1), _, _, _, rfl, rfl, SqL.of (mt.row (n - 1) hn1), by rw [en]; exact map_range_at hn1, ?_⟩
    cases wo with
    | done h1 h2 => exact ⟨_, _, rfl, rfl, .inr ⟨by omega, by omega⟩, q _ sm⟩
    | zero h1 _ _ => omega
    | swap b h1 _ _ _ _ _ _ _ _ => omega
    | go h1 _ _ _ _ => omega

end
end M
namespace M
/-! meet tables -/
def mm (i j : Nat) : Int := if j = 0 ∨ (j + 1) % (i + 1) = 0 then 1 else 0
def meetsL (n : Nat) : List (List Int) := (List.range n).map fun i => (List.range n).map fun j => mm i j
theorem meets_sub (n : Nat) : subM mm 0 n = meetsL n := by
  unfold subM meetsL
  refine List.map_congr_left fun i _ => List.map_congr_left fun j _ => ?_
  rw [Nat.zero_add, Nat.zero_add]
def mertL : List Int := [1, 0, -1, -1, -2, -1, -2, -2, -2, -1, -2, -2, -3, -2, -1, -1, -2, -2, -3, -3, -2, -1, -2, -2, -2, -1, -1, -1, -2, -3, -4, -4, -3, -2, -1, -1, -2, -1, 0, 0]
def mert (n : Nat) : Int := mertL.getD (n - 1) 0
theorem meets_bar0 : barC 0 1 1 (meetsL 1) = some (1) := by decide +kernel
theorem meets_bar1 : barC 1 1 1 (meetsL 2) = some (0) := by decide +kernel
theorem meets_bar2 : barC 2 1 1 (meetsL 3) = some (-1) := by decide +kernel
theorem meets_bar3 : barC 3 1 1 (meetsL 4) = some (-1) := by decide +kernel
theorem meets_bar4 : barC 4 1 1 (meetsL 5) = some (-2) := by decide +kernel
theorem meets_bar5 : barC 5 1 1 (meetsL 6) = some (-1) := by decide +kernel
theorem meets_bar6 : barC 6 1 1 (meetsL 7) = some (-2) := by decide +kernel
theorem meets_bar7 : barC 7 1 1 (meetsL 8) = some (-2) := by decide +kernel
theorem meets_bar8 : barC 8 1 1 (meetsL 9) = some (-2) := by decide +kernel
theorem meets_bar9 : barC 9 1 1 (meetsL 10) = some (-1) := by decide +kernel
theorem meets_bar10 : barC 10 1 1 (meetsL 11) = some (-2) := by decide +kernel
theorem meets_bar11 : barC 11 1 1 (meetsL 12) = some (-2) := by decide +kernel
theorem meets_bar12 : barC 12 1 1 (meetsL 13) = some (-3) := by decide +kernel
theorem meets_bar13 : barC 13 1 1 (meetsL 14) = some (-2) := by decide +kernel
theorem meets_bar14 : barC 14 1 1 (meetsL 15) = some (-1) := by decide +kernel
theorem meets_bar15 : barC 15 1 1 (meetsL 16) = some (-1) := by decide +kernel
theorem meets_bar16 : barC 16 1 1 (meetsL 17) = some (-2) := by decide +kernel
theorem meets_bar17 : barC 17 1 1 (meetsL 18) = some (-2) := by decide +kernel
theorem meets_bar18 : barC 18 1 1 (meetsL 19) = some (-3) := by decide +kernel
theorem meets_bar19 : barC 19 1 1 (meetsL 20) = some (-3) := by decide +kernel
theorem meets_bar20 : barC 20 1 1 (meetsL 21) = some (-2) := by decide +kernel
theorem meets_bar21 : barC 21 1 1 (meetsL 22) = some (-1) := by decide +kernel
theorem meets_bar22 : barC 22 1 1 (meetsL 23) = some (-2) := by decide +kernel
theorem meets_bar23 : barC 23 1 1 (meetsL 24) = some (-2) := by decide +kernel
theorem meets_bar24 : barC 24 1 1 (meetsL 25) = some (-2) := by decide +kernel
theorem meets_bar25 : barC 25 1 1 (meetsL 26) = some (-1) := by decide +kernel
theorem meets_bar26 : barC 26 1 1 (meetsL 27) = some (-1) := by decide +kernel
theorem meets_bar27 : barC 27 1 1 (meetsL 28) = some (-1) := by decide +kernel
theorem meets_bar28 : barC 28 1 1 (meetsL 29) = some (-2) := by decide +kernel
theorem meets_bar29 : barC 29 1 1 (meetsL 30) = some (-3) := by decide +kernel
theorem meets_bar30 : barC 30 1 1 (meetsL 31) = some (-4) := by decide +kernel
theorem meets_bar31 : barC 31 1 1 (meetsL 32) = some (-4) := by decide +kernel
theorem meets_bar32 : barC 32 1 1 (meetsL 33) = some (-3) := by decide +kernel
theorem meets_bar33 : barC 33 1 1 (meetsL 34) = some (-2) := by decide +kernel
theorem meets_bar34 : barC 34 1 1 (meetsL 35) = some (-1) := by decide +kernel
theorem meets_bar35 : barC 35 1 1 (meetsL 36) = some (-1) := by decide +kernel
theorem meets_bar36 : barC 36 1 1 (meetsL 37) = some (-2) := by decide +kernel
theorem meets_bar37 : barC 37 1 1 (meetsL 38) = some (-1) := by decide +kernel
theorem meets_bar38 : barC 38 1 1 (meetsL 39) = some (0) := by decide +kernel
theorem meets_bar39 : barC 39 1 1 (meetsL 40) = some (0) := by decide +kernel
theorem meets_bar : ∀ n, n < 40 → barC n 1 1 (meetsL (n + 1)) = some (mertL.getD n 0)
  | 0, _ => meets_bar0
  | 1, _ => meets_bar1
  | 2, _ => meets_bar2
  | 3, _ => meets_bar3
  | 4, _ => meets_bar4
  | 5, _ => meets_bar5
  | 6, _ => meets_bar6
  | 7, _ => meets_bar7
  | 8, _ => meets_bar8
  | 9, _ => meets_bar9
  | 10, _ => meets_bar10
  | 11, _ => meets_bar11
  | 12, _ => meets_bar12
  | 13, _ => meets_bar13
  | 14, _ => meets_bar14
  | 15, _ => meets_bar15
  | 16, _ => meets_bar16
  | 17, _ => meets_bar17
  | 18, _ => meets_bar18
  | 19, _ => meets_bar19
  | 20, _ => meets_bar20
  | 21, _ => meets_bar21
  | 22, _ => meets_bar22
  | 23, _ => meets_bar23
  | 24, _ => meets_bar24
  | 25, _ => meets_bar25
  | 26, _ => meets_bar26
  | 27, _ => meets_bar27
  | 28, _ => meets_bar28
  | 29, _ => meets_bar29
  | 30, _ => meets_bar30
  | 31, _ => meets_bar31
  | 32, _ => meets_bar32
  | 33, _ => meets_bar33
  | 34, _ => meets_bar34
  | 35, _ => meets_bar35
  | 36, _ => meets_bar36
  | 37, _ => meets_bar37
  | 38, _ => meets_bar38
  | 39, _ => meets_bar39
  | n + 40, h => by omega
theorem meets_wo {n : Nat} (h1 : 1 ≤ n) (h : n ≤ 40) : Wo n 0 1 1 mm (mert n) := by
  obtain ⟨m, rfl⟩ : ∃ m, n = m + 1 := ⟨n - 1, by omega⟩
  refine barC_ok m 0 1 1 mm (mert (m + 1)) (by omega) ?_
  rw [meets_sub]
  exact meets_bar m (by omega)
theorem mert_sum : ∀ n, n < 40 → sumR mu (n + 1) = mertL.getD n 0 := by decide +kernel
theorem mert_small : ∀ n, n < 41 → (mert n).natAbs < 10 := by decide +kernel

end M
namespace M
open PySem PySem.Spec PyProof.Rows L2 G
section
variable {P : Program} {w : World} {K : PySem.W.Frag} {mg : Str → Option Value} {base : Heap}
/-! lists or tuples -/
theorem SqL.ty {K : PySem.W.Frag} {H : Hp} {a : Addr} {xs : List V} (h : SqL K H a xs) : TyX K H (.ref a) (.type "list") := by
  rcases h with (h | ⟨o, h⟩) | ⟨o, _, _, h, c, _⟩
  · exact .base (.lst h)
  · exact .base (.frz h)
  · exact .kList h c
theorem SqT.ty {K : PySem.W.Frag} {H : Hp} {a : Addr} {xs : List V} (h : SqT K H a xs) : TyX K H (.ref a) (.type "tuple") := by
  rcases h with (h | ⟨o, h⟩) | ⟨o, _, _, h, c, _⟩
  · exact .base (.tup h)
  · exact .fTuple h
  · exact .kTuple h c
theorem lt_kinds : Paired ClsV [V.ty "list", V.ty "tuple"] [Value.type "list", Value.type "tuple"] := .cons (.ty "list") (.cons (.ty "tuple") .nil)
theorem kit_l {K : PySem.W.Frag} : PySem.W.kitAny K (.type "list") [.type "list", .type "tuple"] = some true := kitAny_cons (b := true) (kit_ty (by decide +kernel)) (fun z => by cases z) (fun _ => rfl)
theorem kit_t {K : PySem.W.Frag} : PySem.W.kitAny K (.type "tuple") [.type "list", .type "tuple"] = some true :=
  kitAny_cons (b := false) (kit_ty (by decide +kernel)) (fun _ => kitAny_cons (b := true) (kit_ty (by decide +kernel)) (fun z => by cases z) (fun _ => rfl)) (fun z => by cases z)
def sp_is_list (K : PySem.W.Frag) : Sp := spec1 fun x H Q _ => ∃ (p : Addr) (xs : List V), x = .ref p ∧ (SqL K H p xs ∨ SqT K H p xs) ∧ ∀ H', Same H H' → Q (.bl true) H'
theorem ok_is_list {af : Addr} {fd : FuncData} (F : FunD K "is_list" "is_list" (defArgs s_is_list) (defBody s_is_list) (defScope s_is_list) [] [] af fd) (B : Bt mg)  : FnG P w K mg base CX0 1 af fd ["value"] (sp_is_list K) := by
  refine okG F sc_is_list ar1 fun cdv A outer s H vs Q E hg hr h => ?_
  refine ⟨_, PSs.nox (pss_one (ps_ret (pe_callB call_isiT (by rfl) B.isinstance (by decide +kernel) (pa_cons (pv 0) (pa_cons (pe_tup (pa_cons (pe_bltn (v := .ty "list") (by rfl) B.list (by decide +kernel) rfl) (pa_cons (pe_bltn (v := .ty "tuple") (by rfl) B.tuple (by decide +kernel) rfl) pa_nil))) pa_nil))))), ?_⟩
  obtain ⟨_, rfl, p, xs, rfl, hS, q⟩ := h
  refine ⟨_, rfl, sz2, fun t ht => ?_⟩
  have s := (Same.refl H).new (o := .tup [.ty "list", .ty "tuple"]) ht
  rcases hS with hS | hS
  · exact ⟨_, t, _, _, _, true, rfl, upd_same, lt_kinds, SqL.ty (SqL.same s hS), kit_l, q _ s⟩
  · exact ⟨_, t, _, _, _, true, rfl, upd_same, lt_kinds, SqT.ty (SqT.same s hS), kit_t, q _ s⟩

end
end M
namespace M
/-! how long powers are -/
theorem fac_len : ∀ {b : Nat} {L : List (Nat × Nat)}, FacOk b L → 2 ^ L.length ≤ facP L
  | _, [], _ => Nat.le_refl 1
  | b, (p, e) :: r, ⟨_, h2, h3, h4⟩ => by
    have ih := fac_len h4
    have a : p ^ 1 ≤ p ^ e := Nat.pow_le_pow_right (by have := h2.1; omega) h3
    rw [Nat.pow_one] at a
    have := Nat.mul_le_mul (Nat.le_trans h2.1 a) ih
    rw [List.length_cons, Nat.pow_succ, Nat.mul_comm]
    exact this
theorem fac_short {L : List (Nat × Nat)} {n : Nat} (h : FacOf L n) (hn : n ≤ 1000000000000) : L.length ≤ 100 := by
  have := fac_len h.1
  rw [h.2] at this
  refine Classical.byContradiction fun z => ?_
  have h2 : 2 ^ 100 ≤ 2 ^ L.length := Nat.pow_le_pow_right (by decide) (by omega)
  have h3 : (1000000000000 : Nat) < 2 ^ 100 := by decide
  omega

end M
namespace M
/-! sorted lists, divisors in sequence -/
theorem sorted_lt {l : List Int} (h : l.Pairwise (· ≤ ·)) (hn : l.Nodup) : l.Pairwise (· < ·) := by
  induction l with
  | nil => exact .nil
  | cons x l ih =>
    obtain ⟨h1, h2⟩ := List.pairwise_cons.mp h
    obtain ⟨n1, n2⟩ := List.nodup_cons.mp hn
    refine List.pairwise_cons.mpr ⟨fun y hy => ?_, ih h2 n2⟩
    have := h1 y hy
    have : x ≠ y := fun z => n1 (z ▸ hy)
    omega
theorem sorted_uniq : ∀ {a b : List Int}, a.Pairwise (· < ·) → b.Pairwise (· < ·) → (∀ x, x ∈ a ↔ x ∈ b) → a = b
  | [], [], _, _, _ => rfl
  | [], y :: b, _, _, h => by have := (h y).mpr List.mem_cons_self; simp at this
  | x :: a, [], _, _, h => by have := (h x).mp List.mem_cons_self; simp at this
  | x :: a, y :: b, ha, hb, h => by
    obtain ⟨a1, a2⟩ := List.pairwise_cons.mp ha
    obtain ⟨b1, b2⟩ := List.pairwise_cons.mp hb
    have e : x = y := by
      rcases List.mem_cons.mp ((h x).mp List.mem_cons_self) with z | z
      · exact z
      · rcases List.mem_cons.mp ((h y).mpr List.mem_cons_self) with w | w
        · exact w.symm
        · have := a1 y w
          have := b1 x z
          omega
    subst e
    rw [sorted_uniq a2 b2 fun z => ?_]
    constructor
    · intro hz
      rcases List.mem_cons.mp ((h z).mp (List.mem_cons_of_mem x hz)) with w | w
      · have := a1 z hz
        omega
      · exact w
    · intro hz
      rcases List.mem_cons.mp ((h z).mpr (List.mem_cons_of_mem x hz)) with w | w
      · have := b1 z hz
        omega
      · exact w
def divsL (n : Nat) : List Nat := (List.range (n + 1)).filter fun d => decide (0 < d ∧ d ∣ n)
theorem mem_divsL {n d : Nat} (hn : 0 < n) : d ∈ divsL n ↔ d ∣ n := by
  unfold divsL
  rw [List.mem_filter, List.mem_range, decide_eq_true_iff]
  constructor
  · exact fun h => h.2.2
  · exact fun h => ⟨Nat.lt_succ_of_le (Nat.le_of_dvd hn h), Nat.pos_of_dvd_of_pos h hn, h⟩
theorem divsL_lt (n : Nat) : ((divsL n).map fun d : Nat => (d : Int)).Pairwise (· < ·) := by
  rw [List.pairwise_map]
  refine (List.Pairwise.filter _ List.pairwise_lt_range).imp fun h => ?_
  omega
theorem perm_sorted {ns ms ns' : List Int} (hp : ns'.Perm ns) (hs : ns'.Pairwise (· ≤ ·)) (hn : ns.Nodup) (hm : ms.Pairwise (· < ·)) (h : ∀ x, x ∈ ns ↔ x ∈ ms) : ns' = ms :=
  sorted_uniq (sorted_lt hs (hp.nodup_iff.mpr hn)) hm fun x => (hp.mem_iff).trans (h x)
/-- the divisors that a search from below has met, at turn k -/
structure Met (n k : Nat) (ds : List Nat) : Prop where
  nodup : ds.Nodup
  mem : ∀ d, d ∈ ds ↔ d ∣ n ∧ (d < k ∨ n / d < k)
  len : ds.length ≤ 2 * k
theorem Met.start {n : Nat} (hn : 0 < n) : Met n 1 [] := ⟨.nil, fun d => by
  constructor
  · intro h
    simp at h
  · rintro ⟨h1, h2⟩
    have d0 := Nat.pos_of_dvd_of_pos h1 hn
    have := Nat.div_pos (Nat.le_of_dvd hn h1) d0
    omega, Nat.zero_le _⟩
theorem div_of_eq {n d k : Nat} (hn : 0 < n) (h : d ∣ n) (e : n / d = k) : d * k = n := by
  rw [← e]
  exact Nat.mul_div_cancel' h
theorem Met.skip {n k : Nat} {ds : List Nat} (hn : 0 < n) (h : Met n k ds) (hk : ¬ k ∣ n) : Met n (k + 1) ds := ⟨h.nodup, fun d => by
  rw [h.mem]
  constructor
  · rintro ⟨h1, h2⟩
    exact ⟨h1, by omega⟩
  · rintro ⟨h1, h2⟩
    refine ⟨h1, ?_⟩
    have a : d ≠ k := fun z => hk (z ▸ h1)
    have b : n / d ≠ k := fun z => hk ⟨d, by rw [Nat.mul_comm]; exact (div_of_eq hn h1 z).symm⟩
    omega, by have := h.len; omega⟩
theorem Met.square {n k : Nat} {ds : List Nat} (hn : 0 < n) (h : Met n k ds) (hk : k * k = n) : Met n (k + 1) (ds ++ [k]) := by
  have k0 : 0 < k := by
    rcases Nat.eq_zero_or_pos k with z | z
    · subst z
      omega
    · exact z
  have kd : k ∣ n := ⟨k, hk.symm⟩
  have nk : n / k = k := by rw [← hk]; exact Nat.mul_div_cancel _ k0
  refine ⟨?_, fun d => ?_, by rw [List.length_append, List.length_singleton]; have := h.len; omega⟩
  · rw [List.nodup_append]
    refine ⟨h.nodup, by simp, fun x hx y hy => ?_⟩
    cases List.mem_singleton.mp hy
    rintro rfl
    have := ((h.mem _).mp hx).2
    omega
  · rw [List.mem_append, h.mem, List.mem_singleton]
    constructor
    · rintro (⟨h1, h2⟩ | rfl)
      · exact ⟨h1, by omega⟩
      · exact ⟨kd, by omega⟩
    · rintro ⟨h1, h2⟩
      by_cases e : d = k
      · exact .inr e
      · refine .inl ⟨h1, ?_⟩
        by_cases e2 : n / d = k
        · have := div_of_eq hn h1 e2
          rw [← hk] at this
          exact absurd (Nat.eq_of_mul_eq_mul_right k0 this) e
        · omega
theorem Met.two {n k : Nat} {ds : List Nat} (hn : 0 < n) (h : Met n k ds) (hd : k ∣ n) (hk : k * k < n) : Met n (k + 1) (ds ++ [k, n / k]) := by
  have k0 := Nat.pos_of_dvd_of_pos hd hn
  obtain ⟨e, he⟩ := hd
  have ek : n / k = e := by rw [he]; exact Nat.mul_div_cancel_left _ k0
  have ke : k < e := by
    rw [he] at hk
    exact Nat.lt_of_mul_lt_mul_left hk
  have ne : n / e = k := by rw [he]; exact Nat.mul_div_cancel _ (by omega)
  have ed : e ∣ n := ⟨k, by rw [he, Nat.mul_comm]⟩
  rw [ek]
  refine ⟨?_, fun d => ?_, by rw [List.length_append]; have := h.len; show ds.length + 2 ≤ _; omega⟩
  · rw [List.nodup_append]
    refine ⟨h.nodup, by simp; omega, fun x hx y hy => ?_⟩
    have := ((h.mem _).mp hx).2
    rcases List.mem_cons.mp hy with z | z
    · subst z
      rintro rfl
      omega
    · cases List.mem_singleton.mp z
      rintro rfl
      omega
  · rw [List.mem_append, h.mem, List.mem_cons, List.mem_singleton]
    constructor
    · rintro (⟨h1, h2⟩ | rfl | rfl)
      · exact ⟨h1, by omega⟩
      · exact ⟨⟨e, he⟩, by omega⟩
      · exact ⟨ed, by omega⟩
    · rintro ⟨h1, h2⟩
      by_cases e1 : d = k
      · exact .inr (.inl e1)
      · by_cases e2 : d = e
        · exact .inr (.inr e2)
        · refine .inl ⟨h1, ?_⟩
          by_cases e3 : n / d = k
          · have := div_of_eq hn h1 e3
            rw [he, Nat.mul_comm k e] at this
            exact absurd (Nat.eq_of_mul_eq_mul_right k0 this) e2
          · omega
theorem Met.all {n k : Nat} {ds : List Nat} (hn : 0 < n) (h : Met n k ds) (hk : n < k * k) : ∀ d, d ∈ ds ↔ d ∣ n := fun d => by
  rw [h.mem]
  constructor
  · exact fun z => z.1
  · intro h1
    refine ⟨h1, ?_⟩
    refine Classical.byContradiction fun z => ?_
    have := Nat.mul_le_mul (show k ≤ d by omega) (show k ≤ n / d by omega)
    rw [Nat.mul_div_cancel' h1] at this
    omega
theorem Met.sorted {n k : Nat} {ds : List Nat} {ns' : List Int} (hn : 0 < n) (h : Met n k ds) (hk : n < k * k) (hp : ns'.Perm (ds.map fun d : Nat => (d : Int))) (hs : ns'.Pairwise (· ≤ ·)) : ns' = (divsL n).map fun d : Nat => (d : Int) := by
  refine perm_sorted hp hs ?_ (divsL_lt n) fun x => ?_
  · rw [List.Nodup, List.pairwise_map]
    exact h.nodup.imp fun a b => a (Int.ofNat.inj b)
  · rw [List.mem_map, List.mem_map]
    constructor
    · rintro ⟨d, hd, rfl⟩
      exact ⟨d, (mem_divsL hn).mpr ((h.all hn hk d).mp hd), rfl⟩
    · rintro ⟨d, hd, rfl⟩
      exact ⟨d, (h.all hn hk d).mpr ((mem_divsL hn).mp hd), rfl⟩

end M
namespace M
open PySem PySem.Spec PyProof.Rows L2 G
section
variable {P : Program} {w : World} {K : PySem.W.Frag} {mg : Str → Option Value} {base : Heap}
/-! meet tables -/
def sp_meets_of (_ : PySem.W.Frag) : Sp := spec1 fun x H Q _ => ∃ n : Nat, x = .int n ∧ 1 ≤ n ∧ n ≤ 40 ∧ ∀ p H', Same H H' → Rp (New H) H' (.ref p) (tabD (meetsL n)) → Q (.ref p) H'
theorem mm_cast {i j : Nat} : (((j + 1 : Nat) : Int) % ((i + 1 : Nat) : Int) = 0) ↔ (j + 1) % (i + 1) = 0 := by omega
theorem meetsL_D (n : Nat) : tabD (meetsL n) = .list ((List.range n).map fun i => .list (((List.range n).map fun j => mm i j).map PyData.int)) := by
  unfold tabD meetsL
  rw [List.map_map]
  rfl
theorem ok_meets_of {af : Addr} {fd : FuncData} (F : FunD K "meets_of" "meets_of" (defArgs s_meets_of) (defBody s_meets_of) (defScope s_meets_of) [] [] af fd) (B : Bt mg)  : FnG P w K mg base CX0 1 af fd ["many"] (sp_meets_of K) := by
  refine okG F sc_meets_of ar1 fun cdv A outer s H vs Q E hg hr h => ?_
  refine ⟨_, PSs.nox (pss_one (ps_ret (pe_lc (own := [("near", 1)]) rfl sc_meets_of.nd (pi_range2 rfl B.range (pa_cons pe_int (pa_cons (pe_op op_add (pv 0) pe_int) pa_nil))) (blkOk_by (own := [("near", 1)]) (N := ["many", "near", "far"]) (sc := defScope s_meets_of) (by decide +kernel)) (fun _ _ _ _ _ => pg_name (i := 1) sc_meets_of.nd rfl (.inr rfl) (.inl rfl)) (fun _ _ _ _ _ => pts_nil) (fun _ _ _ _ _ => (pe_lc (own := [("far", 2)]) rfl sc_meets_of.nd (pi_range2 rfl B.range (pa_cons pe_int (pa_cons (pe_op op_add (pv 0) pe_int) pa_nil))) (blkOk_in (own := [("far", 2)]) (N := ["many", "near", "far"]) (sc := defScope s_meets_of) rfl (by decide +kernel)) (fun _ _ _ _ _ => pg_name (i := 2) sc_meets_of.nd rfl (.inl rfl) (.inr rfl)) (fun _ _ _ _ _ => pts_nil) (fun _ _ _ _ _ => (pe_callTy call_int1 (by rfl) B.int (by decide +kernel) (pa_cons (pe_or (pe_cmpR op_eq (pv 2) pe_int (nomark _)) (pe_one (pe_cmpR op_eq (pe_op op_mod (pv 2) (pv 1)) pe_int (nomark _)))) pa_nil)))))))), ?_⟩
  obtain ⟨_, rfl, n, rfl, n1, n2, q⟩ := h
  refine ⟨_, rfl, _, _, rfl, rfl, _, _, rfl, ⟨by omega, by omega, by omega, by omega⟩, fun D hD => lcM_range (lo := 1) (fun i => .list (((List.range n).map fun j => mm i j).map PyData.int)) hD (by omega) ?_ ?_⟩
  · intro i H1 R S hi s1 hR
    rw [show (1 : Int) + (i : Int) = ((i + 1 : Nat) : Int) by omega]
    refine ⟨rfl, _, rfl, _, _, rfl, rfl, _, _, rfl, ⟨by omega, by omega, by omega, by omega⟩, fun D3 hD3 => lcM_range (lo := 1) (fun j => .int (mm i j)) hD3 (by omega) ?_ ?_⟩
    · intro j H2 R' S' hj s2 hR'
      rw [show (1 : Int) + (j : Int) = ((j + 1 : Nat) : Int) by omega]
      refine ⟨rfl, _, rfl, rfl, _, rfl, ite2 (fun h1 => .inr ⟨_, rfl, ?_⟩) (fun h1 => ⟨_, rfl, _, rfl, _, _, rfl, rfl, (by show (0 : Int) < _; omega), rfl, .inr ⟨_, rfl, ?_⟩⟩)⟩
      · have hj0 : j = 0 := by
          have := V.int.inj (of_decide_eq_true h1)
          omega
        refine hR' _ _ (Same.refl _) ?_
        have e : mm i j = 1 := by unfold mm; rw [if_pos (.inl hj0)]
        rw [e]
        exact .int _
      · have hj0 : ¬ j = 0 := fun z => h1 (decide_eq_true (by rw [z]; rfl))
        refine hR' _ _ (Same.refl _) ?_
        have e : mm i j = if decide (V.int (((j + 1 : Nat) : Int) % ((i + 1 : Nat) : Int)) = V.int 0) = true then 1 else 0 := by
          unfold mm
          by_cases c : (j + 1) % (i + 1) = 0
          · rw [if_pos (.inr c), if_pos (decide_eq_true (congrArg V.int (mm_cast.mpr c)))]
          · rw [if_neg (fun z => z.elim hj0 c), if_neg (fun z => c (mm_cast.mp (V.int.inj (of_decide_eq_true z))))]
        rw [e]
        exact .int _
    · intro H2 s2 r2
      rw [show ((n : Int) + 1 - 1).toNat = n by omega] at r2
      refine hR _ _ s2 ?_
      rw [List.map_map]
      exact r2
  · intro H1 s1 r1
    rw [show ((n : Int) + 1 - 1).toNat = n by omega] at r1
    refine q _ _ s1 ?_
    rw [meetsL_D]
    exact r1
def sp_meet_table (_ : PySem.W.Frag) : Sp := spec1 fun x H Q _ => ∃ n : Nat, x = .int n ∧ 1 ≤ n ∧ n ≤ 40 ∧ ∀ p H', Same H H' → Rp (New H) H' (.ref p) (tabD (meetsL n)) → Q (.ref p) H'
theorem ok_meet_table {af : Addr} {fd : FuncData} (F : FunD K "meet_table" "meet_table" (defArgs s_meet_table) (defBody s_meet_table) (defScope s_meet_table) [] [] af fd) (B : Bt mg) (C_want_many : Cl P w K mg base 3 "want_many" 2 [.int 0] (sp_want_many K)) (C_meets_of : Cl P w K mg base 1 "meets_of" 1 [] (sp_meets_of K)) {t_MOST_SIDE : Tok} (c_MOST_SIDE : mg "MOST_SIDE" = some (.int 40 t_MOST_SIDE)) : FnG P w K mg base CX0 4 af fd ["many"] (sp_meet_table K) := by
  refine okG F sc_meet_table ar1 fun cdv A outer s H vs Q E hg hr h => ?_
  refine ⟨_, PSs.nox (pss_cons (ps_expr (pe_cl C_want_many hg hr (by decide) rfl (pa_cons (pv 0) (pa_cons (pe_glob (v := .int 40) rfl c_MOST_SIDE ⟨_, rfl⟩) pa_nil))))
    (pss_cons (ps_if (pt_cmpR op_eq (pv 0) pe_int (nomark _))
      (pss_one ps_never)
      pss_nil)
    (pss_one (ps_ret (pe_cl C_meets_of hg hr (by decide) rfl (pa_cons (pv 0) pa_nil)))))), ?_⟩
  obtain ⟨_, rfl, n, rfl, n1, n2, q⟩ := h
  refine ⟨_, rfl, _, _, _, rfl, n, 40, 0, rfl, rfl, rfl, by omega, by omega, by omega, _, rfl, rfl, _, bl_f (fun z => by have := V.int.inj z; omega), iteF ⟨_, rfl, _, rfl, n, rfl, n1, n2, fun p H' s r => q p H' s r⟩⟩
def sp_meet_worth (_ : PySem.W.Frag) : Sp := spec1 fun x H Q _ => ∃ n : Nat, x = .int n ∧ 1 ≤ n ∧ n ≤ 40 ∧ ∀ H', Same H H' → Q (.int (mert n)) H'
theorem ok_meet_worth {af : Addr} {fd : FuncData} (F : FunD K "meet_worth" "meet_worth" (defArgs s_meet_worth) (defBody s_meet_worth) (defScope s_meet_worth) [] [] af fd) (B : Bt mg) (C_want_many : Cl P w K mg base 3 "want_many" 2 [.int 0] (sp_want_many K)) (C_worth_of : Cl P w K mg base 1 "worth_of" 1 [] (sp_worth_of K)) (C_meets_of : Cl P w K mg base 1 "meets_of" 1 [] (sp_meets_of K)) {t_MOST_SIDE : Tok} (c_MOST_SIDE : mg "MOST_SIDE" = some (.int 40 t_MOST_SIDE)) : FnG P w K mg base CX0 4 af fd ["many"] (sp_meet_worth K) := by
  refine okG F sc_meet_worth ar1 fun cdv A outer s H vs Q E hg hr h => ?_
  refine ⟨_, PSs.nox (pss_cons (ps_expr (pe_cl C_want_many hg hr (by decide) rfl (pa_cons (pv 0) (pa_cons (pe_glob (v := .int 40) rfl c_MOST_SIDE ⟨_, rfl⟩) pa_nil))))
    (pss_cons (ps_if (pt_cmpR op_eq (pv 0) pe_int (nomark _))
      (pss_one ps_never)
      pss_nil)
    (pss_one (ps_ret (pe_cl C_worth_of hg hr (by decide) rfl (pa_cons (pe_cl C_meets_of hg hr (by decide) rfl (pa_cons (pv 0) pa_nil)) pa_nil)))))), ?_⟩
  obtain ⟨_, rfl, n, rfl, n1, n2, q⟩ := h
  refine ⟨_, rfl, _, _, _, rfl, n, 40, 0, rfl, rfl, rfl, by omega, by omega, by omega, _, rfl, rfl, _, bl_f (fun z => by have := V.int.inj z; omega), iteF ⟨_, rfl, _, rfl, n, rfl, n1, n2, fun p H' s r => ?_⟩⟩
  obtain ⟨ad, hT⟩ := TabM.of_rp (K := K) (M := mm) r
  exact ⟨_, rfl, p, n, ad, mm, _, rfl, hT, n1, by omega, meets_wo n1 n2, fun H2 s2 => q _ (s.trans s2)⟩

end
end M
namespace M
open PySem PySem.Spec PyProof.Rows L2 G
section
variable {P : Program} {w : World} {K : PySem.W.Frag} {mg : Str → Option Value} {base : Heap}
/-! tables handed in -/
def sp_is_table_value (K : PySem.W.Frag) : Sp := spec1 fun x H Q _ => ∃ (a : Addr) (n : Nat) (ad : Nat → Addr) (M : Nat → Nat → Int), x = .ref a ∧ TabM K H a n ad M ∧ 1 ≤ n ∧ n ≤ 12 ∧ (∀ i j, i < n → j < n → (M i j).natAbs < 1000000000000000000000000000000) ∧ ∀ H', Same H H' → Q (.bl true) H'
theorem ok_is_table_value {af : Addr} {fd : FuncData} (F : FunD K "is_table_value" "is_table_value" (defArgs s_is_table_value) (defBody s_is_table_value) (defScope s_is_table_value) [] [] af fd) (B : Bt mg) (C_is_list : Cl P w K mg base 1 "is_list" 1 [] (sp_is_list K)) (C_is_integer : Cl P w K mg base 1 "is_integer" 1 [] (sp_is_integer K)) {t_MOST_LOT : Tok} (c_MOST_LOT : mg "MOST_LOT" = some (.int 12 t_MOST_LOT)) {t_LONGEST : Tok} (c_LONGEST : mg "LONGEST" = some (.int 1000000000000000000000000000000 t_LONGEST)) : FnG P w K mg base CX0 2 af fd ["value"] (sp_is_table_value K) := by
  refine okG F sc_is_table_value ar1 fun cdv A outer s H vs Q E hg hr h => ?_
  refine ⟨_, PSs.nox (pss_cons (ps_if (PW.pt (pw_or (pt_not (pt_val (pe_cl C_is_list hg hr (by decide) rfl (pa_cons (pv 0) pa_nil)))) (pw_or1 (pt_not (pt_chain op_le op_le pe_int (pe_callB call_len_seq (by rfl) B.len (by decide +kernel) (pa_cons (pv 0) pa_nil)) (pe_glob (v := .int 12) rfl c_MOST_LOT ⟨_, rfl⟩))))))
      (pss_one (ps_ret pe_bl))
      pss_nil)
    (pss_cons (ps_for PassesOwn.never rfl ((pi_list (pv 0))) (pg_name (i := 1) sc_is_table_value.nd rfl (.inl rfl))
      (pss_cons (ps_if (PW.pt (pw_or (pt_not (pt_val (pe_cl C_is_list hg hr (by decide) rfl (pa_cons (pv 1) pa_nil)))) (pw_or1 (pt_cmpR op_ne (pe_callB call_len_seq (by rfl) B.len (by decide +kernel) (pa_cons (pv 1) pa_nil)) (pe_callB call_len_seq (by rfl) B.len (by decide +kernel) (pa_cons (pv 0) pa_nil)) (nomark _)))))
        (pss_one (ps_ret pe_bl))
        pss_nil)
      (pss_one (ps_if (pt_not (pt_val (pe_callB (cr_all rfl) (by rfl) B.all (by decide +kernel) (pa_cons (pe_lc (own := [("one", 2)]) rfl sc_is_table_value.nd ((pi_list (pv 1))) (blkOk_by (own := [("one", 2)]) (N := ["value", "row", "one"]) (sc := defScope s_is_table_value) (by decide +kernel)) (fun _ _ _ _ _ => pg_name (i := 2) sc_is_table_value.nd rfl (.inl rfl) (.inr rfl)) (fun _ _ _ _ _ => pts_nil) (fun _ _ _ _ _ => (pe_and (pe_cl C_is_integer hg hr (by decide) rfl (pa_cons (pv 2) pa_nil)) (pe_one (pe_chain op_lt op_lt (pe_op op_sub pe_int (pe_glob (v := .int 1000000000000000000000000000000) rfl c_LONGEST ⟨_, rfl⟩)) (pv 2) (pe_glob (v := .int 1000000000000000000000000000000) rfl c_LONGEST ⟨_, rfl⟩)))))) pa_nil))))
        (pss_one (ps_ret pe_bl))
        pss_nil))))
    (pss_one (ps_ret pe_bl)))), ?_⟩
  obtain ⟨_, rfl, a, n, ad, M, rfl, hT, n1, n2, hM, q⟩ := h
  refine ⟨_, rfl, _, rfl, a, _, rfl, .inl hT.top, fun H1 s1 => ⟨_, rfl, iteF ⟨_, rfl, a, _, rfl, .inl (hT.same s1).top, _, _, rfl, rfl, true, bl_t (by rw [len_map_range]; omega), iteT ⟨_, _, rfl, rfl, true, bl_t (by rw [len_map_range]; omega), iteF ?_⟩⟩⟩⟩
  refine ⟨_, rfl, a, rfl, ⟨_, (hT.same s1).top⟩, for_list (K := K) (a := a) (xs := (List.range n).map fun i => V.ref (ad i)) (fun i σ H2 => ∃ y1 y2 : Option V, σ = [some (.ref a), y1, y2] ∧ Same H H2) ⟨none, none, rfl, s1⟩ (fun i σ H2 _ ⟨_, _, _, z⟩ => (hT.same z).top) ?_ ?_⟩
  · rintro i x σ H2 hx ⟨y1, y2, rfl, s2⟩
    have hi : i < n := by
      have := (List.getElem?_eq_some_iff.mp hx).1
      simpa using this
    rw [List.getElem?_map, List.getElem?_range hi] at hx
    cases hx
    have r2 := SqL.same s2 (hT.row i hi)
    refine ⟨_, rfl, _, rfl, ad i, _, rfl, .inl r2, fun H3 s3 => ⟨_, rfl, iteF ⟨_, rfl, ad i, _, rfl, .inl (SqL.same s3 r2), _, rfl, a, _, rfl, .inl ((hT.same s2).same s3).top, ?_⟩⟩⟩
    refine ⟨rfl, _, bl_nf (by rw [len_map_range, len_map_range]), iteF ?_⟩
    have r3 := SqL.same s3 r2
    refine ⟨_, rfl, ad i, rfl, ⟨_, r3⟩, fun D hD => lcM_list (K := K) (c := fun j : Nat => V.int (M i j)) (src := List.range n) (fun _ => .bool true) hD r3 (by rw [List.length_range]; omega) ?_ ?_⟩
    · intro j z H4 R S hz s4 hR
      have hzn : z < n := List.mem_range.mp (List.mem_of_getElem? hz)
      have hb := hM i z hi hzn
      refine ⟨rfl, _, rfl, _, rfl, _, rfl, true, rfl, iteT ⟨_, _, rfl, rfl, _, rfl, _, _, rfl, rfl, true, bl_t (by omega), iteT ⟨_, _, rfl, rfl, blT (Q := R) (by omega) (hR _ _ (Same.refl _) (.bl true))⟩⟩⟩
    · intro H4 s4 r4
      rw [show (List.range n).map (fun _ : Nat => PyData.bool true) = (List.replicate n true).map PyData.bool by rw [List.map_replicate, List.map_const', List.length_range]] at r4
      refine ⟨D, _, rfl, SqL.of r4.bls, _, rfl, ?_⟩
      rw [all_rep]
      exact iteF ⟨_, _, rfl, ((s2.trans s3).trans s4)⟩
  · rintro σ H2 ⟨y1, y2, rfl, s2⟩
    exact q _ s2
def sp_want_table (K : PySem.W.Frag) : Sp := spec1 fun x H Q _ => ∃ (a : Addr) (n : Nat) (ad : Nat → Addr) (M : Nat → Nat → Int), x = .ref a ∧ TabM K H a n ad M ∧ 1 ≤ n ∧ n ≤ 12 ∧ (∀ i j, i < n → j < n → (M i j).natAbs < 1000000000000000000000000000000) ∧ ∀ H', Same H H' → Q .non H'
theorem ok_want_table {af : Addr} {fd : FuncData} (F : FunD K "want_table" "want_table" (defArgs s_want_table) (defBody s_want_table) (defScope s_want_table) [] [] af fd) (B : Bt mg) (C_is_table_value : Cl P w K mg base 2 "is_table_value" 1 [] (sp_is_table_value K)) : FnG P w K mg base CX0 3 af fd ["value"] (sp_want_table K) := by
  refine okG F sc_want_table ar1 fun cdv A outer s H vs Q E hg hr h => ?_
  refine ⟨_, PSs.nox (pss_one (ps_if (pt_not (pt_val (pe_cl C_is_table_value hg hr (by decide) rfl (pa_cons (pv 0) pa_nil))))
      (pss_one ps_never)
      pss_nil)), ?_⟩
  obtain ⟨_, rfl, a, n, ad, M, rfl, hT, n1, n2, hM, q⟩ := h
  exact ⟨_, rfl, _, rfl, a, n, ad, M, rfl, hT, n1, n2, hM, fun H1 s1 => ⟨_, rfl, iteF (q _ s1)⟩⟩
def sp_table_worth (K : PySem.W.Frag) : Sp := spec1 fun x H Q _ => ∃ (a : Addr) (n : Nat) (ad : Nat → Addr) (M : Nat → Nat → Int) (v : Int), x = .ref a ∧ TabM K H a n ad M ∧ 1 ≤ n ∧ n ≤ 12 ∧ (∀ i j, i < n → j < n → (M i j).natAbs < 1000000000000000000000000000000) ∧ Wo n 0 1 1 M v ∧ ∀ H', Same H H' → Q (.int v) H'
theorem ok_table_worth {af : Addr} {fd : FuncData} (F : FunD K "table_worth" "table_worth" (defArgs s_table_worth) (defBody s_table_worth) (defScope s_table_worth) [] [] af fd) (B : Bt mg) (C_want_table : Cl P w K mg base 3 "want_table" 1 [] (sp_want_table K)) (C_worth_of : Cl P w K mg base 1 "worth_of" 1 [] (sp_worth_of K)) : FnG P w K mg base CX0 4 af fd ["table"] (sp_table_worth K) := by
  refine okG F sc_table_worth ar1 fun cdv A outer s H vs Q E hg hr h => ?_
  refine ⟨_, PSs.nox (pss_cons (ps_expr (pe_cl C_want_table hg hr (by decide) rfl (pa_cons (pv 0) pa_nil)))
    (pss_one (ps_ret (pe_cl C_worth_of hg hr (by decide) rfl (pa_cons (pv 0) pa_nil))))), ?_⟩
  obtain ⟨_, rfl, a, n, ad, M, v, rfl, hT, n1, n2, hM, wo, q⟩ := h
  exact ⟨_, rfl, _, rfl, a, n, ad, M, rfl, hT, n1, n2, hM, fun H1 s1 => ⟨_, rfl, _, rfl, a, n, ad, M, v, rfl, hT.same s1, n1, by omega, wo, fun H2 s2 => q _ (s1.trans s2)⟩⟩

end
end M
namespace M
open PySem PySem.Spec PyProof.Rows L2 G
section
variable {P : Program} {w : World} {K : PySem.W.Frag} {mg : Str → Option Value} {base : Heap}
/-! rows, their sums, the sign row -/
def sp_is_row_value (K : PySem.W.Frag) : Sp := spec1 fun x H Q _ => ∃ (p : Addr) (ns : List Int), x = .ref p ∧ SqL K H p (ns.map V.int) ∧ 1 ≤ ns.length ∧ ns.length ≤ 60 ∧ (∀ x ∈ ns, x.natAbs < 1000000000000000000000000000000) ∧ ∀ H', Same H H' → Q (.bl true) H'
theorem ok_is_row_value {af : Addr} {fd : FuncData} (F : FunD K "is_row_value" "is_row_value" (defArgs s_is_row_value) (defBody s_is_row_value) (defScope s_is_row_value) [] [] af fd) (B : Bt mg) (C_is_list : Cl P w K mg base 1 "is_list" 1 [] (sp_is_list K)) (C_is_integer : Cl P w K mg base 1 "is_integer" 1 [] (sp_is_integer K)) {t_MOST_ROW : Tok} (c_MOST_ROW : mg "MOST_ROW" = some (.int 60 t_MOST_ROW)) {t_LONGEST : Tok} (c_LONGEST : mg "LONGEST" = some (.int 1000000000000000000000000000000 t_LONGEST)) : FnG P w K mg base CX0 2 af fd ["value"] (sp_is_row_value K) := by
  refine okG F sc_is_row_value ar1 fun cdv A outer s H vs Q E hg hr h => ?_
  refine ⟨_, PSs.nox (pss_cons (ps_if (PW.pt (pw_or (pt_not (pt_val (pe_cl C_is_list hg hr (by decide) rfl (pa_cons (pv 0) pa_nil)))) (pw_or1 (pt_not (pt_chain op_le op_le pe_int (pe_callB call_len_seq (by rfl) B.len (by decide +kernel) (pa_cons (pv 0) pa_nil)) (pe_glob (v := .int 60) rfl c_MOST_ROW ⟨_, rfl⟩))))))
      (pss_one (ps_ret pe_bl))
      pss_nil)
    (pss_one (ps_ret (pe_callB (cr_all rfl) (by rfl) B.all (by decide +kernel) (pa_cons (pe_lc (own := [("one", 1)]) rfl sc_is_row_value.nd ((pi_list (pv 0))) (blkOk_by (own := [("one", 1)]) (N := ["value", "one"]) (sc := defScope s_is_row_value) (by decide +kernel)) (fun _ _ _ _ _ => pg_name (i := 1) sc_is_row_value.nd rfl (.inl rfl) (.inr rfl)) (fun _ _ _ _ _ => pts_nil) (fun _ _ _ _ _ => (pe_and (pe_cl C_is_integer hg hr (by decide) rfl (pa_cons (pv 1) pa_nil)) (pe_one (pe_chain op_lt op_lt (pe_op op_sub pe_int (pe_glob (v := .int 1000000000000000000000000000000) rfl c_LONGEST ⟨_, rfl⟩)) (pv 1) (pe_glob (v := .int 1000000000000000000000000000000) rfl c_LONGEST ⟨_, rfl⟩)))))) pa_nil))))), ?_⟩
  obtain ⟨_, rfl, p, ns, rfl, hS, n1, n2, hM, q⟩ := h
  refine ⟨_, rfl, _, rfl, p, _, rfl, .inl hS, fun H1 s1 => ⟨_, rfl, iteF ⟨_, rfl, p, _, rfl, .inl (SqL.same s1 hS), _, _, rfl, rfl, true, bl_t (by rw [List.length_map]; omega), iteT ⟨_, _, rfl, rfl, true, bl_t (by rw [List.length_map]; omega), iteF ?_⟩⟩⟩⟩
  refine ⟨_, rfl, p, rfl, ⟨_, SqL.same s1 hS⟩, fun D hD => lcM_list (K := K) (c := V.int) (src := ns) (fun _ => .bool true) hD (SqL.same s1 hS) (by omega) ?_ ?_⟩
  · intro j z H4 R S hz s4 hR
    have hb := hM z (List.mem_of_getElem? hz)
    refine ⟨rfl, _, rfl, _, rfl, _, rfl, true, rfl, iteT ⟨_, _, rfl, rfl, _, rfl, _, _, rfl, rfl, true, bl_t (by omega), iteT ⟨_, _, rfl, rfl, blT (Q := R) (by omega) (hR _ _ (Same.refl _) (.bl true))⟩⟩⟩
  · intro H4 s4 r4
    rw [show ns.map (fun _ : Int => PyData.bool true) = (List.replicate ns.length true).map PyData.bool by rw [List.map_replicate, List.map_const']] at r4
    refine ⟨D, _, rfl, SqL.of r4.bls, ?_⟩
    rw [all_rep]
    exact q _ (s1.trans s4)
def sp_want_row (K : PySem.W.Frag) : Sp := spec1 fun x H Q _ => ∃ (p : Addr) (ns : List Int), x = .ref p ∧ SqL K H p (ns.map V.int) ∧ 1 ≤ ns.length ∧ ns.length ≤ 60 ∧ (∀ x ∈ ns, x.natAbs < 1000000000000000000000000000000) ∧ ∀ H', Same H H' → Q .non H'
theorem ok_want_row {af : Addr} {fd : FuncData} (F : FunD K "want_row" "want_row" (defArgs s_want_row) (defBody s_want_row) (defScope s_want_row) [] [] af fd) (B : Bt mg) (C_is_row_value : Cl P w K mg base 2 "is_row_value" 1 [] (sp_is_row_value K)) : FnG P w K mg base CX0 3 af fd ["value"] (sp_want_row K) := by
  refine okG F sc_want_row ar1 fun cdv A outer s H vs Q E hg hr h => ?_
  refine ⟨_, PSs.nox (pss_one (ps_if (pt_not (pt_val (pe_cl C_is_row_value hg hr (by decide) rfl (pa_cons (pv 0) pa_nil))))
      (pss_one ps_never)
      pss_nil)), ?_⟩
  obtain ⟨_, rfl, p, ns, rfl, hS, n1, n2, hM, q⟩ := h
  exact ⟨_, rfl, _, rfl, p, ns, rfl, hS, n1, n2, hM, fun H1 s1 => ⟨_, rfl, iteF (q _ s1)⟩⟩
def psum (ns : List Int) : List Int := (List.range ns.length).map fun i => (ns.take (i + 1)).sum
def sp_summed (K : PySem.W.Frag) : Sp := spec1 fun x H Q _ => ∃ (p : Addr) (ns : List Int), x = .ref p ∧ SqL K H p (ns.map V.int) ∧ 1 ≤ ns.length ∧ ns.length ≤ 60 ∧ (∀ x ∈ ns, x.natAbs < 1000000000000000000000000000000) ∧ ∀ r H', Same H H' → H r = none → H' r = some (.lst ((psum ns).map V.int)) → Q (.ref r) H'
theorem ok_summed {af : Addr} {fd : FuncData} (F : FunD K "summed" "summed" (defArgs s_summed) (defBody s_summed) (defScope s_summed) [] [] af fd) (B : Bt mg) (C_want_row : Cl P w K mg base 3 "want_row" 1 [] (sp_want_row K)) : FnG P w K mg base CX0 4 af fd ["row"] (sp_summed K) := by
  refine okG F sc_summed ar1 fun cdv A outer s H vs Q E hg hr h => ?_
  refine ⟨_, PSs.nox (pss_cons (ps_expr (pe_cl C_want_row hg hr (by decide) rfl (pa_cons (pv 0) pa_nil)))
    (pss_cons (ps_par (i := 1) (j := 2) (by rfl) sc_summed.nd rfl rfl (by decide) rfl rfl (pa_cons (pe_lst pa_nil) (pa_cons pe_int pa_nil)) (by rfl))
    (pss_cons (ps_for PassesOwn.never rfl ((pi_list (pv 0))) (pg_name (i := 3) sc_summed.nd rfl (.inl rfl))
      (pss_cons (ps_set (i := 2) sc_summed.nd rfl (.inl rfl) (pe_op op_add (pv 2) (pv 3)))
      (pss_one (ps_expr (pe_bm PySem.F.plainAttrs_list PySem.F.slot_list_append PySem.F.type_list_append mt_append (pv 1) (pa_cons (pv 2) pa_nil))))))
    (pss_one (ps_ret (pv 1)))))), ?_⟩
  obtain ⟨_, rfl, p, ns, rfl, hS, n1, n2, hM, q⟩ := h
  refine ⟨_, rfl, _, rfl, p, ns, rfl, hS, n1, n2, hM, fun H1 s1 => ⟨sz0, fun fd hfd => ⟨_, _, rfl, _, rfl, p, rfl, ⟨_, SqL.same ((s1.new (o := .lst []) hfd)) hS⟩, ?_⟩⟩⟩
  refine for_list (K := K) (a := p) (xs := ns.map V.int) (fun i σ H2 => ∃ (y : Option V), σ = [some (.ref p), some (.ref fd), some (.int (ns.take i).sum), y] ∧ Same H1 H2 ∧ H2 fd = some (.lst (((List.range i).map fun j => (ns.take (j + 1)).sum).map V.int)))
    ⟨none, rfl, (Same.refl H1).new hfd, upd_same⟩ (fun i σ H2 _ ⟨_, _, z, _⟩ => SqL.same (s1.trans z) hS) ?_ ?_
  · rintro i x σ H2 hx ⟨y, rfl, s2, e2⟩
    rw [List.getElem?_map] at hx
    obtain ⟨z, hz, rfl⟩ := Option.map_eq_some_iff.mp hx
    have hi : i < ns.length := (List.getElem?_eq_some_iff.mp hz).1
    have et : (ns.take (i + 1)).sum = (ns.take i).sum + z := by
      rw [List.take_add_one, hz, List.sum_append]
      simp
    refine ⟨_, rfl, _, rfl, _, _, rfl, rfl, _, rfl, .inl ⟨rfl, _, SqL.of e2⟩, _, rfl, fd, _, _, rfl, rfl, e2, small_lt (by simp; omega), some (.int z), ?_, s2.mut hfd, ?_⟩
    · rw [et]
      rfl
    · rw [upd_same, List.range_succ, List.map_append, List.map_append]
      exact congrArg (fun z => some (HO.lst (_ ++ [V.int z]))) et.symm
  · rintro σ H2 ⟨y, rfl, s2, e2⟩
    rw [List.length_map] at e2
    exact ⟨_, rfl, q fd _ (s1.trans s2) (s1.free hfd) e2⟩
def sp_want_some (_ : PySem.W.Frag) : Sp := spec1 fun x H Q _ => ∃ n : Nat, x = .int n ∧ 1 ≤ n ∧ n ≤ 60 ∧ Q .non H
theorem ok_want_some {af : Addr} {fd : FuncData} (F : FunD K "want_some" "want_some" (defArgs s_want_some) (defBody s_want_some) (defScope s_want_some) [] [] af fd) (B : Bt mg) (C_want_many : Cl P w K mg base 3 "want_many" 2 [.int 0] (sp_want_many K)) {t_MOST_ROW : Tok} (c_MOST_ROW : mg "MOST_ROW" = some (.int 60 t_MOST_ROW)) : FnG P w K mg base CX0 4 af fd ["value"] (sp_want_some K) := by
  refine okG F sc_want_some ar1 fun cdv A outer s H vs Q E hg hr h => ?_
  refine ⟨_, PSs.nox (pss_cons (ps_expr (pe_cl C_want_many hg hr (by decide) rfl (pa_cons (pv 0) (pa_cons (pe_glob (v := .int 60) rfl c_MOST_ROW ⟨_, rfl⟩) pa_nil))))
    (pss_one (ps_if (pt_cmpR op_eq (pv 0) pe_int (nomark _))
      (pss_one ps_never)
      pss_nil))), ?_⟩
  obtain ⟨_, rfl, n, rfl, h1, h2, q⟩ := h
  refine ⟨_, rfl, _, _, _, rfl, n, 60, 0, rfl, rfl, rfl, by omega, by omega, by omega, _, rfl, rfl, _, bl_f (fun z => by have := V.int.inj z; omega), iteF q⟩
def sp_sign_of (_ : PySem.W.Frag) : Sp := spec1 fun x H Q _ => ∃ n : Nat, x = .int n ∧ 1 ≤ n ∧ n ≤ 1000000000000 ∧ ∀ H', Same H H' → Q (.int (mu n)) H'
theorem row_one' {N : Addr → Prop} {H : Hp} {v : V} {x : Nat × Nat} (h : Rp N H v (powD x)) : ∃ t, v = V.ref t ∧ H t = some (.tup [.int (x.1 : Int), .int (x.2 : Int)]) := by
  cases h with
  | tup _ e r =>
    cases r with
    | cons a b =>
      cases a
      cases b with
      | cons c d =>
        cases c
        cases d
        exact ⟨_, rfl, e⟩
theorem ok_sign_of {af : Addr} {fd : FuncData} (F : FunD K "sign_of" "sign_of" (defArgs s_sign_of) (defBody s_sign_of) (defScope s_sign_of) [] [] af fd) (B : Bt mg) (C_powers_of : Cl P w K mg base 1 "powers_of" 1 [] (sp_powers_of K)) : FnG P w K mg base CX0 2 af fd ["number"] (sp_sign_of K) := by
  refine okG F sc_sign_of ar1 fun cdv A outer s H vs Q E hg hr h => ?_
  refine ⟨_, PSs.nox (pss_cons (ps_set (i := 1) sc_sign_of.nd rfl (.inl rfl) (pe_cl C_powers_of hg hr (by decide) rfl (pa_cons (pv 0) pa_nil)))
    (pss_cons (ps_if (pt_val (pe_callB (cr_any rfl) (by rfl) B.any (by decide +kernel) (pa_cons (pe_lc (own := [("prime", 2), ("many", 3)]) (g := gTup K 2 (gCons (gName 2) (gCons (gName 3) gNil))) rfl sc_sign_of.nd ((pi_list (pv 1))) (blkOk_by (own := [("prime", 2), ("many", 3)]) (N := ["number", "powers", "prime", "many"]) (sc := defScope s_sign_of) (by decide +kernel)) (fun _ _ _ _ _ => pg_tup (n := 2) (by rfl) (pgs_cons (pg_name (i := 2) sc_sign_of.nd rfl (.inl rfl) (.inr rfl)) (pgs_cons (pg_name (i := 3) sc_sign_of.nd rfl (.inl rfl) (.inr rfl)) pgs_nil (by rfl)) (by rfl)) (by rfl) (by rfl)) (fun _ _ _ _ _ => pts_nil) (fun _ _ _ _ _ => (pe_cmpR op_gt (pv 3) pe_int (nomark _)))) pa_nil)))
      (pss_one (ps_ret pe_int))
      pss_nil)
    (pss_one (ps_ret (pe_ifExp (pt_cmpR op_eq (pe_op op_mod (pe_callB call_len_seq (by rfl) B.len (by decide +kernel) (pa_cons (pv 1) pa_nil)) pe_int) pe_int (nomark _)) pe_int (pe_un un_neg pe_int)))))), ?_⟩
  obtain ⟨_, rfl, n, rfl, h1, h2, q⟩ := h
  refine ⟨_, rfl, _, rfl, n, rfl, h1, h2, fun L p H1 hL s1 rp => ?_⟩
  have sh := fac_short hL h2
  have em := mu_fac hL
  obtain ⟨np, vs, e, ra⟩ := rp.node
  have vl : vs.length = L.length := by rw [ra.length, List.length_map]
  refine ⟨_, rfl, p, rfl, ⟨_, SqL.of e⟩, fun D hD => lc_list (K := K) (a := p) (xs := vs) (fun i H2 => Same H1 H2 ∧ H2 D = some (.lst (((L.take i).map fun x => decide (1 < x.2)).map V.bl))) ⟨(Same.refl _).new hD, upd_same⟩ (fun i H2 _ z => SqL.of (z.1 _ _ e)) ?_ ?_⟩
  · rintro i v H2 hv ⟨sm, eD⟩
    obtain ⟨d, hd, rv⟩ := ra.getV hv
    rw [List.getElem?_map] at hd
    obtain ⟨x, hx, rfl⟩ := Option.map_eq_some_iff.mp hd
    obtain ⟨t, rfl, et⟩ := row_one' rv
    have hDn : H1 D = none := hD
    refine ⟨t, _, rfl, SqT.of (sm _ _ et), rfl, _, _, rfl, _, _, rfl, rfl, rfl, _, rfl, _, _, rfl, rfl, _, eD, ?_, sm.mut hDn, ?_⟩
    · rw [List.length_map, List.length_map, List.length_take]
      exact small_lt (by omega)
    · rw [upd_same, List.take_add_one, hx]
      simp only [Option.toList, List.map_append, List.map_cons, List.map_nil]
      refine congrArg (fun z => some (HO.lst (_ ++ [V.bl z]))) (decide_eq_decide.mpr ?_)
      omega
  · rintro H2 ⟨sm, eD⟩
    rw [vl, List.take_length] at eD
    refine ⟨D, _, rfl, SqL.of eD, _, rfl, ?_⟩
    have ea : (List.map (fun x : Nat × Nat => decide (1 < x.2)) L).any id = L.any fun x => decide (1 < x.2) := by
      rw [List.any_map]
      rfl
    rw [ea]
    have q2 := q H2 (s1.trans sm)
    rw [em] at q2
    unfold sgnL at q2
    refine ite2 (fun hc => ?_) (fun hc => ?_)
    · rw [if_pos hc] at q2
      exact q2
    · rw [if_neg hc] at q2
      refine ⟨_, rfl, p, _, rfl, .inl (SqL.of (sm _ _ e)), _, _, rfl, rfl, (by show (0 : Int) < 2; decide), rfl, _, rfl, ite2 (fun hd => ?_) (fun hd => ?_)⟩
      · have : L.length % 2 = 0 := by
          have := V.int.inj (of_decide_eq_true hd)
          rw [vl] at this
          omega
        rw [if_pos this] at q2
        exact q2
      · have : ¬ L.length % 2 = 0 := fun z => hd (decide_eq_true (by
          rw [vl]
          refine congrArg V.int ?_
          omega))
        rw [if_neg this] at q2
        exact ⟨_, rfl, q2⟩
def muI (n : Nat) : List Int := (List.range n).map fun i => mu (i + 1)
def sp_signs_of (_ : PySem.W.Frag) : Sp := spec1 fun x H Q _ => ∃ n : Nat, x = .int n ∧ 1 ≤ n ∧ n ≤ 60 ∧ ∀ r H', Same H H' → H r = none → H' r = some (.lst ((muI n).map V.int)) → Q (.ref r) H'
theorem ok_signs_of {af : Addr} {fd : FuncData} (F : FunD K "signs_of" "signs_of" (defArgs s_signs_of) (defBody s_signs_of) (defScope s_signs_of) [] [] af fd) (B : Bt mg) (C_sign_of : Cl P w K mg base 2 "sign_of" 1 [] (sp_sign_of K)) : FnG P w K mg base CX0 3 af fd ["many"] (sp_signs_of K) := by
  refine okG F sc_signs_of ar1 fun cdv A outer s H vs Q E hg hr h => ?_
  refine ⟨_, PSs.nox (pss_one (ps_ret (pe_lc (own := [("at", 1)]) rfl sc_signs_of.nd (pi_range1 rfl B.range (pa_cons (pv 0) pa_nil)) (blkOk_by (own := [("at", 1)]) (N := ["many", "at"]) (sc := defScope s_signs_of) (by decide +kernel)) (fun _ _ _ _ _ => pg_name (i := 1) sc_signs_of.nd rfl (.inl rfl) (.inr rfl)) (fun _ _ _ _ _ => pts_nil) (fun _ _ _ _ _ => (pe_cl C_sign_of hg hr (by decide) rfl (pa_cons (pe_op op_add (pv 1) pe_int) pa_nil)))))), ?_⟩
  obtain ⟨_, rfl, n, rfl, h1, h2, q⟩ := h
  refine ⟨_, rfl, _, rfl, by omega, by omega, fun D hD => lcM_range (lo := 0) (fun i => .int (mu (i + 1))) hD (by omega) ?_ ?_⟩
  · intro i H1 R S hi s1 hR
    refine ⟨rfl, _, rfl, _, _, rfl, rfl, _, rfl, i + 1, congrArg V.int (by omega), by omega, by omega, fun H2 s2 => hR _ _ s2 (.int _)⟩
  · intro H1 s1 r1
    rw [show (n : Int).toNat = n by omega] at r1
    refine q D _ s1 hD (Rp.ints (N := New H) (ns := muI n) ?_)
    unfold muI
    rw [List.map_map]
    exact r1
def sp_sign_row (_ : PySem.W.Frag) : Sp := spec1 fun x H Q _ => ∃ n : Nat, x = .int n ∧ 1 ≤ n ∧ n ≤ 60 ∧ ∀ r H', Same H H' → H r = none → H' r = some (.lst ((muI n).map V.int)) → Q (.ref r) H'
theorem ok_sign_row {af : Addr} {fd : FuncData} (F : FunD K "sign_row" "sign_row" (defArgs s_sign_row) (defBody s_sign_row) (defScope s_sign_row) [] [] af fd) (B : Bt mg) (C_want_some : Cl P w K mg base 4 "want_some" 1 [] (sp_want_some K)) (C_signs_of : Cl P w K mg base 3 "signs_of" 1 [] (sp_signs_of K)) : FnG P w K mg base CX0 5 af fd ["many"] (sp_sign_row K) := by
  refine okG F sc_sign_row ar1 fun cdv A outer s H vs Q E hg hr h => ?_
  refine ⟨_, PSs.nox (pss_cons (ps_expr (pe_cl C_want_some hg hr (by decide) rfl (pa_cons (pv 0) pa_nil)))
    (pss_one (ps_ret (pe_cl C_signs_of hg hr (by decide) rfl (pa_cons (pv 0) pa_nil))))), ?_⟩
  obtain ⟨_, rfl, n, rfl, h1, h2, q⟩ := h
  exact ⟨_, rfl, _, rfl, n, rfl, h1, h2, _, rfl, _, rfl, n, rfl, h1, h2, q⟩

end
end M
namespace M
open PySem PySem.Spec PyProof.Rows L2 G
section
variable {P : Program} {w : World} {K : PySem.W.Frag} {mg : Str → Option Value} {base : Heap}
/-! the law's own primes and signs -/
def sp__law_primes (_ : PySem.W.Frag) : Sp := spec1 fun x H Q _ => ∃ n : Nat, x = .int n ∧ 1 ≤ n ∧ n ≤ 1000000000 ∧ ∀ L p H', FacOf L n → Same H H' → H p = none → H' p = some (.lst (nsV (L.map Prod.fst))) → Q (.ref p) H'
theorem Rough.up {k m : Nat} (h : Rough k m) (hd : ¬ k ∣ m) : Rough (k + 1) m := fun q hq hqd => by
  have := h q hq hqd
  have : q ≠ k := fun z => hd (z ▸ hqd)
  omega
theorem ok__law_primes {af : Addr} {fd : FuncData} (F : FunD K "_law_primes" "_law_primes" (defArgs s__law_primes) (defBody s__law_primes) (defScope s__law_primes) [] [] af fd) (B : Bt mg)  : FnG P w K mg base CX0 1 af fd ["number"] (sp__law_primes K) := by
  refine okG F sc__law_primes ar1 fun cdv A outer s H vs Q E hg hr h => ?_
  refine ⟨_, PSs.nox (pss_cons (ps_par3 (i := 1) (j := 2) (l := 3) (by rfl) sc__law_primes.nd rfl rfl rfl (by decide) (by decide) (by decide) rfl rfl rfl (pa_cons (pe_lst pa_nil) (pa_cons (pv 0) (pa_cons pe_int pa_nil))) (by rfl))
    (pss_cons (ps_while PassesOwn.never (pt_cmpR op_le (pe_op op_mul (pv 3) (pv 3)) (pv 2) (nomark _))
      (pss_cutG (ps_if (pt_cmpR op_eq (pe_callTy call_int1 (by rfl) B.int (by decide +kernel) (pa_cons (pe_op op_mod (pv 2) (pv 3)) pa_nil)) pe_int (nomark _))
        (pss_cons (ps_expr (pe_bm PySem.F.plainAttrs_list PySem.F.slot_list_append PySem.F.type_list_append mt_append (pv 1) (pa_cons (pv 3) pa_nil)))
        (pss_one (ps_while PassesOwn.never (pt_cmpR op_eq (pe_callTy call_int1 (by rfl) B.int (by decide +kernel) (pa_cons (pe_op op_mod (pv 2) (pv 3)) pa_nil)) pe_int (nomark _))
          (pss_one (ps_set (i := 2) sc__law_primes.nd rfl (.inl rfl) (pe_op op_fdivW (pv 2) (pv 3)))))))
        pss_nil)
      (pss_one (ps_set (i := 3) sc__law_primes.nd rfl (.inl rfl) (pe_op op_add (pv 3) pe_int)))))
    (pss_one (ps_ret (pe_op op_cat (pv 1) (pe_ifExp (pt_cmpR op_gt (pv 2) pe_int (nomark _)) (pe_lst (pa_cons (pv 2) pa_nil)) (pe_lst pa_nil))))))), ?_⟩
  obtain ⟨_, rfl, n, rfl, h1, h2, q⟩ := h
  refine ⟨sz0, fun fd hfd => ⟨_, rfl, _, _, _, rfl, ?_⟩⟩
  refine ⟨fun m σ H' => ∃ (acc : List (Nat × Nat)) (left p : Nat), σ = [some (.int n), some (.ref fd), some (.int left), some (.int p)] ∧ Same H H' ∧ H' fd = some (.lst (nsV (acc.map Prod.fst))) ∧ FacOk 0 acc ∧ (∀ x ∈ acc, x.1 < p) ∧ facP acc * left = n ∧ 0 < left ∧ left ≤ n ∧ Rough p left ∧ 2 ≤ p ∧ p ≤ 40000 ∧ m = 50000 - p,
    ⟨_, [], n, 2, rfl, Same.new (Same.refl H) hfd, upd_same, True.intro, by simp, by simp [facP], by omega, Nat.le_refl n, Rough.two n, by omega, by omega, rfl⟩, fun m σ H' hW => ?_⟩
  obtain ⟨acc, left, p, rfl, sm, ef, ok, lt, pr, l0, ln, ro, p2, pb, rfl⟩ := hW
  have alen : (acc.map Prod.fst).length ≤ 40000 := by
    have := facOk_len ok p lt
    rw [List.length_map]
    omega
  refine ⟨_, rfl, _, rfl, _, _, rfl, rfl, mulc ⟨by omega, by omega⟩, _, rfl, _, _, rfl, rfl, _, rfl, ite2 (fun hc => ?_) (fun hc => ?_)⟩
  · have hc' : p * p ≤ left := by
      have : (p : Int) * (p : Int) ≤ (left : Int) := of_decide_eq_true hc
      rw [← Int.natCast_mul] at this
      omega
    have psm : p ≤ 31623 := by
      refine Classical.byContradiction fun z => ?_
      have := Nat.mul_le_mul (show 31624 ≤ p by omega) (show 31624 ≤ p by omega)
      omega
    refine ⟨_, fun _ _ z => z, ?_⟩
    refine ⟨fun σ H2 => ∃ (acc : List (Nat × Nat)) (left : Nat), σ = [some (.int n), some (.ref fd), some (.int left), some (.int p)] ∧ Same H H2 ∧ H2 fd = some (.lst (nsV (acc.map Prod.fst))) ∧ FacOk 0 acc ∧ (∀ x ∈ acc, x.1 < p + 1) ∧ facP acc * left = n ∧ 0 < left ∧ left ≤ n ∧ Rough (p + 1) left, ⟨_, rfl, _, rfl, _, _, rfl, rfl, (by show (0 : Int) < _; omega), .inl ⟨_, rfl, rfl, _, rfl, ite2 (fun hd => ?_) (fun hd => ?_)⟩⟩, ?_⟩
    · have hd' : p ∣ left := Nat.dvd_of_mod_eq_zero (by have := V.int.inj (of_decide_eq_true hd); omega)
      have pp : Pr p := ro.prime p2 hd'
      refine ⟨_, rfl, .inl ⟨rfl, _, SqL.of ef⟩, _, rfl, fd, _, _, rfl, rfl, ef, small_lt (by rw [nsV_len]; omega), ?_⟩
      have ef2 : (upd H' fd (.lst (nsV (acc.map Prod.fst) ++ [V.int p]))) fd = some (.lst (nsV (acc.map Prod.fst) ++ [V.int p])) := upd_same
      have sm2 := sm.mut (o := .lst (nsV (acc.map Prod.fst) ++ [V.int p])) hfd
      generalize upd H' fd (.lst (nsV (acc.map Prod.fst) ++ [V.int p])) = H1 at ef2 sm2
      refine ⟨fun m σ H2 => ∃ l2 many : Nat, σ = [some (.int n), some (.ref fd), some (.int l2), some (.int p)] ∧ H2 = H1 ∧ left = l2 * p ^ many ∧ 0 < l2 ∧ l2 ≤ left ∧ l2 = m, ⟨_, left, 0, rfl, rfl, by simp, l0, Nat.le_refl _, rfl⟩, fun m σ H2 hW => ?_⟩
      obtain ⟨l2, many, rfl, rfl, el, l20, l2l, rfl⟩ := hW
      refine ⟨_, rfl, _, rfl, _, _, rfl, rfl, (show (0 : Int) < (p : Int) by omega), .inl ⟨_, rfl, rfl, _, rfl, ite2 (fun he => ?_) (fun he => ?_)⟩⟩
      · have he' : p ∣ l2 := Nat.dvd_of_mod_eq_zero (by have := V.int.inj (of_decide_eq_true he); omega)
        obtain ⟨k, rfl⟩ := he'
        have hk : 0 < k := by
          rcases Nat.eq_zero_or_pos k with e | e
          · rw [e] at l20
            omega
          · exact e
        have hlt : k < p * k := by
          have := Nat.mul_le_mul_right k p2
          omega
        have ek : ((p * k : Nat) : Int) / (p : Int) = (k : Int) := by
          rw [Int.natCast_mul, Int.mul_ediv_cancel_left _ (by omega)]
        refine ⟨_, fun _ _ z => z, _, rfl, _, rfl, _, _, rfl, rfl, divw (by omega) (by omega), k, by omega, k, many + 1, ?_, rfl, ?_, hk, by omega, rfl⟩
        · show [some (V.int n), some (V.ref fd), some (V.int (((p * k : Nat) : Int) / (p : Int))), some (V.int p)] = _
          rw [ek]
        · rw [el, Nat.pow_succ, Nat.mul_comm p k, Nat.mul_assoc, Nat.mul_comm p]
      · have he' : ¬ p ∣ l2 := fun z => he (decide_eq_true (congrArg V.int (by
          have := Nat.mod_eq_zero_of_dvd z
          show (l2 : Int) % (p : Int) = 0
          omega)))
        have hm : 1 ≤ many := by
          rcases Nat.eq_zero_or_pos many with e | e
          · rw [e, Nat.pow_zero, Nat.mul_one] at el
            exact absurd (el ▸ hd') he'
          · exact e
        have ro2 : Rough p l2 := ro.of_dvd ⟨p ^ many, el⟩
        refine ⟨acc ++ [(p, many)], l2, rfl, sm2, ?_, ok.snoc lt (Nat.zero_le _) pp hm, fun x hx => ?_, ?_, l20, by omega, ro2.up he'⟩
        · rw [ef2, List.map_append]
          exact congrArg (fun z => some (HO.lst z)) (nsV_snoc _ _).symm
        · rcases List.mem_append.mp hx with hx | hx
          · have := lt x hx
            omega
          · cases List.mem_singleton.mp hx
            exact Nat.lt_succ_self p
        · rw [facP_snoc, ← pr, el, Nat.mul_assoc, Nat.mul_comm (p ^ many)]
    · have hd' : ¬ p ∣ left := fun z => hd (decide_eq_true (congrArg V.int (by
        have := Nat.mod_eq_zero_of_dvd z
        show (left : Int) % (p : Int) = 0
        omega)))
      exact ⟨acc, left, rfl, sm, ef, ok, fun x hx => Nat.lt_succ_of_lt (lt x hx), pr, l0, ln, ro.up hd'⟩
    · rintro σ H2 ⟨acc, left, rfl, sm, ef, ok, lt, pr, l0, ln, ro⟩
      exact ⟨_, rfl, _, _, rfl, rfl, 50000 - (p + 1), by omega, acc, left, p + 1, rfl, sm, ef, ok, lt, pr, l0, ln, ro, by omega, by omega, rfl⟩
  · have hc' : left < p * p := by
      have : ¬ (p : Int) * (p : Int) ≤ (left : Int) := fun z => hc (decide_eq_true z)
      rw [← Int.natCast_mul] at this
      omega
    refine ⟨_, rfl, _, rfl, _, _, rfl, rfl, _, rfl, ite2 (fun hl => ?_) (fun hl => ?_)⟩
    · have hl' : 1 < left := by
        have : (1 : Int) < (left : Int) := of_decide_eq_true hl
        omega
      have pl := ro.last hl' hc'
      refine ⟨_, rfl, sz1, fun b hb => ⟨fd, b, _, _, rfl, rfl, (upd_ne (ne_of_none ef hb)).trans ef, upd_same, small_sz (by rw [nsV_len]; show _ + 1 ≤ _; omega), fun w hw => ?_⟩⟩
      refine q (acc ++ [(left, 1)]) w _ ⟨ok.snoc (fun x hx => Nat.lt_of_lt_of_le (lt x hx) (ro left pl (Nat.dvd_refl left))) (Nat.zero_le _) pl (Nat.le_refl 1), by rw [facP_snoc, Nat.pow_one, pr]⟩ ((sm.new hb).new hw) (sm.free (((Same.refl H').new hb).free hw)) ?_
      rw [upd_same, List.map_append]
      exact congrArg (fun z => some (HO.lst z)) (nsV_snoc _ _).symm
    · have hl' : left = 1 := by
        have : ¬ (1 : Int) < (left : Int) := fun z => hl (decide_eq_true z)
        omega
      refine ⟨sz0, fun b hb => ⟨fd, b, _, _, rfl, rfl, (upd_ne (ne_of_none ef hb)).trans ef, upd_same, small_sz (by rw [nsV_len]; show _ + 0 ≤ _; omega), fun w hw => ?_⟩⟩
      refine q acc w _ ⟨ok, by rw [← pr, hl', Nat.mul_one]⟩ ((sm.new hb).new hw) (sm.free (((Same.refl H').new hb).free hw)) ?_
      rw [upd_same, List.append_nil]

end
end M
namespace M
open PySem PySem.Spec PyProof.Rows L2 G
section
variable {P : Program} {w : World} {K : PySem.W.Frag} {mg : Str → Option Value} {base : Heap}
/-! the law's own divisors -/
def sp__law_divisors (_ : PySem.W.Frag) : Sp := spec1 fun x H Q _ => ∃ n : Nat, x = .int n ∧ 1 ≤ n ∧ n ≤ 1000000000 ∧ ∀ p H', Same H H' → H p = none → H' p = some (.lst (nsV (divsL n))) → Q (.ref p) H'
theorem int_mod {n k : Nat} : ((n : Int) % (k : Int) = 0) ↔ n % k = 0 := by omega
theorem ok__law_divisors {af : Addr} {fd : FuncData} (F : FunD K "_law_divisors" "_law_divisors" (defArgs s__law_divisors) (defBody s__law_divisors) (defScope s__law_divisors) [] [] af fd) (B : Bt mg)  : FnG P w K mg base CX0 1 af fd ["number"] (sp__law_divisors K) := by
  refine okG F sc__law_divisors ar1 fun cdv A outer s H vs Q E hg hr h => ?_
  refine ⟨_, PSs.nox (pss_cons (ps_par (i := 1) (j := 2) (by rfl) sc__law_divisors.nd rfl rfl (by decide) rfl rfl (pa_cons (pe_lst pa_nil) (pa_cons pe_int pa_nil)) (by rfl))
    (pss_cons (ps_while PassesOwn.never (pt_cmpR op_le (pe_op op_mul (pv 2) (pv 2)) (pv 0) (nomark _))
      (pss_cutG (ps_if (pt_cmpR op_eq (pe_callTy call_int1 (by rfl) B.int (by decide +kernel) (pa_cons (pe_op op_mod (pv 0) (pv 2)) pa_nil)) pe_int (nomark _))
        (pss_one (ps_expr (pe_bm PySem.F.plainAttrs_list PySem.F.slot_list_extend PySem.F.type_list_extend mt_extend (pv 1) (pa_cons (pe_ifExp (pt_cmpR op_eq (pe_op op_mul (pv 2) (pv 2)) (pv 0) (nomark _)) (pe_lst (pa_cons (pv 2) pa_nil)) (pe_lst (pa_cons (pv 2) (pa_cons (pe_op op_fdivW (pv 0) (pv 2)) pa_nil)))) pa_nil))))
        pss_nil)
      (pss_one (ps_set (i := 2) sc__law_divisors.nd rfl (.inl rfl) (pe_op op_add (pv 2) pe_int)))))
    (pss_one (ps_ret (pe_callB cr_sortedI (by rfl) B.sorted (by decide +kernel) (pa_cons (pv 1) pa_nil)))))), ?_⟩
  obtain ⟨_, rfl, n, rfl, h1, h2, q⟩ := h
  have hn : 0 < n := h1
  refine ⟨sz0, fun l hl => ⟨_, _, rfl, ?_⟩⟩
  refine ⟨fun m σ H' => ∃ (ds : List Nat) (k : Nat), σ = [some (.int n), some (.ref l), some (.int k)] ∧ Same H H' ∧ H' l = some (.lst (nsV ds)) ∧ Met n k ds ∧ 1 ≤ k ∧ k ≤ 40000 ∧ m = 50000 - k,
    ⟨_, [], 1, rfl, (Same.refl H).new hl, upd_same, Met.start hn, by decide, by decide, rfl⟩, fun m σ H' hW => ?_⟩
  obtain ⟨ds, k, rfl, sm, el, mt, k1, k2, rfl⟩ := hW
  refine ⟨_, rfl, _, rfl, _, _, rfl, rfl, mulc ⟨by omega, by omega⟩, _, rfl, _, _, rfl, rfl, _, rfl, ite2 (fun hc => ?_) (fun hc => ?_)⟩
  · have hc' : k * k ≤ n := by
      have : (k : Int) * (k : Int) ≤ (n : Int) := of_decide_eq_true hc
      rw [← Int.natCast_mul] at this
      omega
    have k3 : k ≤ 31623 := by
      refine Classical.byContradiction fun z => ?_
      have := Nat.mul_le_mul (show 31624 ≤ k by omega) (show 31624 ≤ k by omega)
      omega
    refine ⟨_, fun _ _ z => z, ?_⟩
    refine ⟨fun σ H2 => ∃ ds : List Nat, σ = [some (.int n), some (.ref l), some (.int k)] ∧ Same H H2 ∧ H2 l = some (.lst (nsV ds)) ∧ Met n (k + 1) ds, ⟨_, rfl, _, rfl, _, _, rfl, rfl, (by show (0 : Int) < _; omega), .inl ⟨_, rfl, rfl, _, rfl, ite2 (fun hd => ?_) (fun hd => ?_)⟩⟩, ?_⟩
    · have hd' : k ∣ n := Nat.dvd_of_mod_eq_zero (int_mod.mp (V.int.inj (of_decide_eq_true hd)))
      have dl := mt.len
      refine ⟨_, rfl, .inl ⟨rfl, _, SqL.of el⟩, _, rfl, _, rfl, _, _, rfl, rfl, mulc ⟨by omega, by omega⟩, _, rfl, rfl, _, rfl, ite2 (fun he => ?_) (fun he => ?_)⟩
      · have he' : k * k = n := by
          have := V.int.inj (of_decide_eq_true he)
          rw [← Int.natCast_mul] at this
          omega
        refine ⟨_, rfl, sz1, fun b hb => ⟨l, b, _, _, rfl, rfl, (upd_ne (ne_of_none el hb)).trans el, upd_same, small_sz (by rw [nsV_len]; show _ + 1 ≤ _; omega), ds ++ [k], rfl, (sm.new hb).mut hl, ?_, mt.square hn he'⟩⟩
        rw [upd_same, nsV_snoc]
      · have he' : k * k < n := by
          have : ¬ (k * k = n) := fun z => he (decide_eq_true (congrArg V.int (by rw [← Int.natCast_mul, z])))
          omega
        refine ⟨_, rfl, _, rfl, _, rfl, _, _, rfl, rfl, divw (by omega) (by omega), sz2, fun b hb => ⟨l, b, _, _, rfl, rfl, (upd_ne (ne_of_none el hb)).trans el, upd_same, small_sz (by rw [nsV_len]; show _ + 2 ≤ _; omega), ds ++ [k, n / k], rfl, (sm.new hb).mut hl, ?_, mt.two hn hd' he'⟩⟩
        rw [upd_same]
        unfold nsV
        rw [List.map_append]
        rfl
    · have hd' : ¬ k ∣ n := fun z => hd (decide_eq_true (congrArg V.int (int_mod.mpr (Nat.mod_eq_zero_of_dvd z))))
      exact ⟨ds, rfl, sm, el, mt.skip hn hd'⟩
    · rintro σ H2 ⟨ds, rfl, sm, el, mt⟩
      exact ⟨_, rfl, _, _, rfl, rfl, 50000 - (k + 1), by omega, ds, k + 1, rfl, sm, el, mt, by omega, by omega, rfl⟩
  · have hc' : n < k * k := by
      have : ¬ (k : Int) * (k : Int) ≤ (n : Int) := fun z => hc (decide_eq_true z)
      rw [← Int.natCast_mul] at this
      omega
    refine ⟨_, rfl, l, _, rfl, SqL.of (by rw [el, nsV_ints]), fun ns' p hp hs hn' => q p _ (sm.new hn') (sm.free hn') ?_⟩
    rw [upd_same, mt.sorted hn hc' hp hs, nsV_ints]

end
end M
namespace M
/-! worths by rows taken off, fractions: what the law's own turn comes to -/
def elimW (M : Nat → Nat → Int) (k : Nat) : Nat → Nat → Int := fun i j => if k < i ∧ M i k ≠ 0 then M k k * M i j - M i k * M k j else M i j
def cntW (M : Nat → Nat → Int) (k i : Nat) : Nat := ((List.range i).filter fun a => !decide (M (k + 1 + a) k = 0)).length
inductive Lo (n : Nat) : Nat → Int → Int → (Nat → Nat → Int) → Int → Prop
  | done {above below : Int} {M : Nat → Nat → Int} : below ≠ 0 → below.natAbs < 2 ^ 200 → Lo n n above below M (above.fdiv below)
  | zero {k : Nat} {above below : Int} {M : Nat → Nat → Int} : k < n → (∀ i, k ≤ i → i < n → M i k = 0) → Lo n k above below M 0
  | here {k : Nat} {above below : Int} {M : Nat → Nat → Int} {v : Int} : k < n → M k k ≠ 0 → AllS k n M → Lo n (k + 1) (above * M k k) (below * M k k ^ cntW M k (n - k - 1)) (elimW M k) v → Lo n k above below M v
  | swap {k : Nat} {above below : Int} {M : Nat → Nat → Int} {v : Int} (b : Nat) : k < n → M k k = 0 → k < b → b < n → M b k ≠ 0 → (∀ i, k ≤ i → i < b → M i k = 0) → AllS k n M →
      Lo n (k + 1) ((0 - above) * M b k) (below * M b k ^ cntW (swapM M k b) k (n - k - 1)) (elimW (swapM M k b) k) v → Lo n k above below M v
def elimLW (r : List Int) (q : List Int) : List Int := if q.headD 0 = 0 then q.tail else List.zipWith (fun x y => r.headD 0 * x - q.headD 0 * y) q.tail r.tail
def cntL (rs : List (List Int)) : Nat := (rs.filter fun q => !decide (q.headD 0 = 0)).length
def lawC : Nat → Int → Int → List (List Int) → Option Int
  | 0, above, below, _ => if below ≠ 0 ∧ below.natAbs < 2 ^ 200 then some (above.fdiv below) else none
  | f + 1, above, below, rows => if (rows.all fun r => r.all smallB) then
      match rows with
      | [] => none
      | r :: rs => if r.headD 0 = 0 then
          if rs.findIdx (fun q => !decide (q.headD 0 = 0)) < rs.length then
            let k := rs.findIdx fun q => !decide (q.headD 0 = 0)
            let q := rs.getD k []
            lawC f ((0 - above) * q.headD 0) (below * q.headD 0 ^ cntL (rs.set k r)) ((rs.set k r).map (elimLW q))
          else some 0
        else lawC f (above * r.headD 0) (below * r.headD 0 ^ cntL rs) (rs.map (elimLW r))
    else none
theorem elimW_row (P Q : Nat → Int) (m : Nat) : elimLW ((List.range (m + 1)).map P) ((List.range (m + 1)).map Q) = (List.range m).map fun j => if Q 0 ≠ 0 then P 0 * Q (j + 1) - Q 0 * P (j + 1) else Q (j + 1) := by
  unfold elimLW
  rw [row_head, row_head, row_tail, row_tail, zip_range]
  by_cases h : Q 0 = 0
  · rw [if_pos h]
    refine List.map_congr_left fun j _ => ?_
    rw [if_neg (fun z => z h)]
  · rw [if_neg h]
    refine List.map_congr_left fun j _ => ?_
    rw [if_pos h]
theorem cntL_rows (f : Nat → Nat → Int) (m c : Nat) : cntL ((List.range m).map fun i => (List.range (c + 1)).map (f i)) = ((List.range m).filter fun i => !decide (f i 0 = 0)).length := by
  unfold cntL
  rw [List.filter_map, List.length_map]
  congr 2
  funext i
  show (!decide (((List.range (c + 1)).map (f i)).headD 0 = 0)) = _
  rw [row_head]
theorem lawC_ok {n : Nat} : ∀ (f k : Nat) (above below : Int) (M : Nat → Nat → Int) (v : Int), k + f = n → lawC f above below (subM M k f) = some v → Lo n k above below M v
  | 0, k, above, below, M, v, hk, h => by
    unfold lawC at h
    split at h
    · rename_i hs
      cases h
      have : k = n := by omega
      subst this
      exact .done hs.1 hs.2
    · cases h
  | f + 1, k, above, below, M, v, hk, h => by
    rw [subM_cons] at h
    unfold lawC at h
    rw [← subM_cons] at h
    split at h
    · rename_i hc
      have hS := subM_all (n := n) (by omega) hc
      rw [subM_cons] at h
      simp only [row_head] at h
      by_cases h0 : M k (k + 0) = 0
      · rw [if_pos h0] at h
        have h0' : M k k = 0 := h0
        split at h
        · rename_i hi
          generalize hq : (List.findIdx (fun q : List Int => !decide (q.headD 0 = 0)) ((List.range f).map fun i => (List.range (f + 1)).map fun j => M (k + (i + 1)) (k + j))) = t at h hi
          have ht : t < f := by simpa using hi
          have hp := List.findIdx_getElem (p := fun q : List Int => !decide (q.headD 0 = 0)) (xs := (List.range f).map fun i => (List.range (f + 1)).map fun j => M (k + (i + 1)) (k + j)) (w := by rw [hq]; simpa using hi)
          have hne : ∀ i, i < t → M (k + (i + 1)) k = 0 := fun i hit => by
            have z := List.not_of_lt_findIdx (p := fun q : List Int => !decide (q.headD 0 = 0)) (xs := (List.range f).map fun i => (List.range (f + 1)).map fun j => M (k + (i + 1)) (k + j)) (i := i) (by rw [hq]; exact hit)
            simp only [List.getElem_map, List.getElem_range, row_head] at z
            simpa using z
          have hpv : M (k + (t + 1)) k ≠ 0 := by
            simp only [List.getElem_map, List.getElem_range, row_head, hq] at hp
            simpa using hp
          have eg : (((List.range f).map fun i => (List.range (f + 1)).map fun j => M (k + (i + 1)) (k + j)).getD t []) = (List.range (f + 1)).map fun j => M (k + (t + 1)) (k + j) := by
            rw [List.getD_eq_getElem?_getD, List.getElem?_map, List.getElem?_range ht]
            rfl
          have es : (((List.range f).map fun i => (List.range (f + 1)).map fun j => M (k + (i + 1)) (k + j)).set t ((List.range (f + 1)).map fun j => M k (k + j))) = (List.range f).map fun i => (List.range (f + 1)).map fun j => swapM M k (k + (t + 1)) (k + 1 + i) (k + j) := by
            rw [set_range]
            refine List.map_congr_left fun i _ => ?_
            unfold swapM
            by_cases e : i = t
            · subst e
              rw [if_pos rfl]
              refine List.map_congr_left fun j _ => ?_
              rw [if_neg (by omega), if_pos (by omega)]
            · rw [if_neg e]
              refine List.map_congr_left fun j _ => ?_
              rw [if_neg (by omega), if_neg (by omega), show k + 1 + i = k + (i + 1) by omega]
          have hkk : swapM M k (k + (t + 1)) k = fun j => M (k + (t + 1)) j := by
            funext j
            unfold swapM
            rw [if_pos rfl]
          simp only [eg, es, row_head] at h
          refine .swap (k + (t + 1)) (by omega) h0' (by omega) (by omega) hpv (fun i h1 h2 => ?_) hS (lawC_ok f (k + 1) _ _ _ v (by omega) ?_)
          · rcases Nat.eq_or_lt_of_le h1 with z | z
            · rw [← z]
              exact h0'
            · have := hne (i - k - 1) (by omega)
              rwa [show k + (i - k - 1 + 1) = i by omega] at this
          · rw [← h, cntL_rows, List.map_map]
            unfold cntW
            rw [show n - k - 1 = f by omega]
            congr 1
            unfold subM
            refine List.map_congr_left fun i hi' => ?_
            show _ = elimLW _ ((List.range (f + 1)).map fun j => swapM M k (k + (t + 1)) (k + 1 + i) (k + j))
            rw [elimW_row]
            refine List.map_congr_left fun j hj' => ?_
            unfold elimW
            rw [hkk]
            simp only [Nat.add_zero, show k + 1 + j = k + (j + 1) by omega, show k < k + 1 + i by omega, true_and]
        · rename_i hi
          cases h
          refine .zero (by omega) fun i h1 h2 => ?_
          rcases Nat.eq_or_lt_of_le h1 with z | z
          · rw [← z]
            exact h0'
          · have z := List.not_of_lt_findIdx (p := fun q : List Int => !decide (q.headD 0 = 0)) (xs := (List.range f).map fun i => (List.range (f + 1)).map fun j => M (k + (i + 1)) (k + j)) (i := i - k - 1) (Nat.lt_of_lt_of_le (by rw [List.length_map, List.length_range]; omega) (Nat.le_of_not_lt hi))
            simp only [List.getElem_map, List.getElem_range, row_head] at z
            rw [show k + (i - k - 1 + 1) = i by omega] at z
            simpa using z
      · rw [if_neg h0] at h
        refine .here (by omega) h0 hS (lawC_ok f (k + 1) _ _ _ v (by omega) ?_)
        rw [← h, cntL_rows, List.map_map]
        unfold cntW
        rw [show n - k - 1 = f by omega]
        have ec : ((List.range f).filter fun a => !decide (M (k + 1 + a) k = 0)) = (List.range f).filter fun i => !decide (M (k + (i + 1)) (k + 0) = 0) := by
          congr 1
          funext a
          rw [show k + 1 + a = k + (a + 1) by omega]
          rfl
        rw [ec]
        show lawC f (above * M k k) _ _ = lawC f (above * M k (k + 0)) _ _
        congr 1
        unfold subM
        refine List.map_congr_left fun i hi' => ?_
        show _ = elimLW _ ((List.range (f + 1)).map fun j => M (k + (i + 1)) (k + j))
        rw [elimW_row]
        refine List.map_congr_left fun j hj' => ?_
        unfold elimW
        simp only [Nat.add_zero, show k + 1 + j = k + (j + 1) by omega, show k + 1 + i = k + (i + 1) by omega, show k < k + (i + 1) by omega, true_and]
    · cases h

end M
namespace M
open PySem PySem.Spec PyProof.Rows L2 G
section
variable {P : Program} {w : World} {K : PySem.W.Frag} {mg : Str → Option Value} {base : Heap}
/-! the law's own worths -/
theorem Mat.setRow {H : Hp} {R l : Addr} {n i : Nat} {ad : Nat → Addr} {M : Nat → Nat → Int} {f : Nat → Int} (h : Mat H R n ad M) (hi : i < n) (hl : ∀ k, k < n → ad k ≠ l) (hlR : l ≠ R) (el : H l = some (.lst ((List.range n).map fun j => V.int (f j)))) :
    Mat (upd H R (.lst (((List.range n).map fun k => V.ref (ad k)).set i (.ref l)))) R n (addA ad i l) (fun a b => if a = i then f b else M a b) := by
  refine ⟨?_, fun k hk => ?_, fun k j hk hj z => ?_, fun k hk => ?_⟩
  · rw [upd_same, map_range_set]
    refine congrArg (fun z => some (HO.lst z)) (List.map_congr_left fun k _ => ?_)
    by_cases e : k = i
    · rw [if_pos e, e, addA_at]
    · rw [if_neg e, addA_ne e]
  · by_cases e : k = i
    · rw [e, addA_at]
      exact hlR
    · rw [addA_ne e]
      exact h.off k hk
  · by_cases e : k = i <;> by_cases e2 : j = i
    · omega
    · rw [e, addA_at, addA_ne e2] at z
      exact absurd z.symm (hl j hj)
    · rw [e2, addA_at, addA_ne e] at z
      exact absurd z (hl k hk)
    · rw [addA_ne e, addA_ne e2] at z
      exact h.inj k j hk hj z
  · by_cases e : k = i
    · rw [e, addA_at, upd_ne hlR, el]
      refine congrArg (fun z => some (HO.lst z)) (List.map_congr_left fun j _ => ?_)
      rw [if_pos rfl]
    · rw [addA_ne e, upd_ne (h.off k hk), h.row k hk]
      refine congrArg (fun z => some (HO.lst z)) (List.map_congr_left fun j _ => ?_)
      rw [if_neg e]
def partW (M : Nat → Nat → Int) (k i : Nat) : Nat → Nat → Int := fun a b => if k < a ∧ a < k + 1 + i ∧ M a k ≠ 0 then M k k * M a b - M a k * M k b else M a b
theorem partW_zero {M : Nat → Nat → Int} {k : Nat} : partW M k 0 = M := by
  funext a b
  unfold partW
  rw [if_neg (by omega)]
theorem cntW_succ {M : Nat → Nat → Int} {k i : Nat} : cntW M k (i + 1) = cntW M k i + if M (k + 1 + i) k = 0 then 0 else 1 := by
  unfold cntW
  rw [List.range_succ, List.filter_append, List.length_append, List.filter_cons]
  by_cases h : M (k + 1 + i) k = 0
  · simp [h]
  · simp [h]
def sp__law_worth (K : PySem.W.Frag) : Sp := spec1 fun x H Q _ => ∃ (a : Addr) (n : Nat) (ad : Nat → Addr) (M : Nat → Nat → Int) (v : Int), x = .ref a ∧ TabM K H a n ad M ∧ n ≤ 100 ∧ Lo n 0 1 1 M v ∧ ∀ H', Same H H' → Q (.int v) H'
theorem ok__law_worth {af : Addr} {fd : FuncData} (F : FunD K "_law_worth" "_law_worth" (defArgs s__law_worth) (defBody s__law_worth) (defScope s__law_worth) [] [] af fd) (B : Bt mg)  : FnG P w K mg base CX0 1 af fd ["table"] (sp__law_worth K) := by
  refine okG F sc__law_worth ar1 fun cdv A outer s H vs Q E hg hr h => ?_
  refine ⟨_, PSs.nox (pss_cons (ps_asg (pe_tup (pa_cons (pe_lc (own := [("row", 9)]) rfl sc__law_worth.nd ((pi_list (pv 0))) (blkOk_by (own := [("row", 9)]) (N := ["table", "rows", "above", "below", "at", "some", "lead", "late", "part", "row", "one", "other"]) (sc := defScope s__law_worth) (by decide +kernel)) (fun _ _ _ _ _ => pg_name (i := 9) sc__law_worth.nd rfl (.inl rfl) (.inr rfl)) (fun _ _ _ _ _ => pts_nil) (fun _ _ _ _ _ => (pe_callTy (kCall rListOf (K := K) rfl call_list_of) (by rfl) B.list (by decide +kernel) (pa_cons (pv 9) pa_nil)))) (pa_cons pe_int (pa_cons pe_int pa_nil)))) (pg_tup rfl (pgs_cons (pg_name (i := 1) sc__law_worth.nd rfl (.inr rfl)) (pgs_cons (pg_name (i := 2) sc__law_worth.nd rfl (.inl rfl)) (pgs_cons (pg_name (i := 3) sc__law_worth.nd rfl (.inl rfl)) pgs_nil)))))
    (pss_cons (ps_for PassesOwn.never rfl (pi_range1 rfl B.range (pa_cons (pe_callB call_len_seq (by rfl) B.len (by decide +kernel) (pa_cons (pv 1) pa_nil)) pa_nil)) (pg_name (i := 4) sc__law_worth.nd rfl (.inr rfl))
      (pss_cons (ps_setLc (i := 5) (own := [("late", 7)]) rfl sc__law_worth.nd rfl rfl (sw_true rfl rfl rfl (by decide +kernel)) (pi_range2 rfl B.range (pa_cons (pv 4) (pa_cons (pe_callB call_len_seq (by rfl) B.len (by decide +kernel) (pa_cons (pv 1) pa_nil)) pa_nil))) (blkOk_by (own := [("late", 7)]) (N := ["table", "rows", "above", "below", "at", "some", "lead", "late", "part", "row", "one", "other"]) (sc := defScope s__law_worth) (by decide +kernel)) (fun _ _ _ _ _ => pg_name (i := 7) sc__law_worth.nd rfl (.inl rfl) (.inr rfl)) (fun _ _ _ _ _ => pts_one (pt_cmpR op_ne (pe_ix (kIx rIxL (K := K) rfl ix_list) (pe_ix (kIx rIxL (K := K) rfl ix_list) (pv 1) (pv 7) (fun _ _ => rfl)) (pv 4) (fun _ _ => rfl)) pe_int (nomark _))) (fun _ _ _ _ _ => (pv 7)))
      (pss_cons (ps_if (pt_cmpR (op_eqD hr.units) (pv 5) (pe_lst pa_nil) (nomark _))
        (pss_one (ps_ret pe_int))
        pss_nil)
      (pss_cutG (ps_if (pt_cmpR op_ne (pe_ix ix_list (pv 5) pe_int (fun _ _ => rfl)) (pv 4) (nomark _))
        (pss_cons (ps_asg (pe_tup (pa_cons (pe_ix ix_list (pv 1) (pe_ix ix_list (pv 5) pe_int (fun _ _ => rfl)) (fun _ _ => rfl)) (pa_cons (pe_ix ix_list (pv 1) (pv 4) (fun _ _ => rfl)) pa_nil))) (pg_tup rfl (pgs_cons (pg_sub (pv 1) (pv 4) set_list) (pgs_cons (pg_sub (pv 1) (pe_ix ix_list (pv 5) pe_int (fun _ _ => rfl)) set_list) pgs_nil))))
        (pss_one (ps_set (i := 2) sc__law_worth.nd rfl (.inl rfl) (pe_op op_sub pe_int (pv 2)))))
        pss_nil)
      (pss_cons (ps_set (i := 6) sc__law_worth.nd rfl (.inr rfl) (pe_ix ix_list (pe_ix ix_list (pv 1) (pv 4) (fun _ _ => rfl)) (pv 4) (fun _ _ => rfl)))
      (pss_cons (ps_set (i := 2) sc__law_worth.nd rfl (.inl rfl) (pe_op op_mul (pv 2) (pv 6)))
      (pss_one (ps_for PassesOwn.never rfl (pi_range2 rfl B.range (pa_cons (pe_op op_add (pv 4) pe_int) (pa_cons (pe_callB call_len_seq (by rfl) B.len (by decide +kernel) (pa_cons (pv 1) pa_nil)) pa_nil))) (pg_name (i := 7) sc__law_worth.nd rfl (.inl rfl))
        (pss_cons (ps_set (i := 8) sc__law_worth.nd rfl (.inr rfl) (pe_ix ix_list (pe_ix ix_list (pv 1) (pv 7) (fun _ _ => rfl)) (pv 4) (fun _ _ => rfl)))
        (pss_one (ps_if (pt_cmpR op_ne (pv 8) pe_int (nomark _))
          (pss_cons (ps_asg (pe_lc (own := [("one", 10), ("other", 11)]) (g := gTup K 2 (gCons (gName 10) (gCons (gName 11) gNil))) rfl sc__law_worth.nd ((pi_zip (by rfl) B.zip (pa_cons (pe_ix ix_list (pv 1) (pv 7) (fun _ _ => rfl)) (pa_cons (pe_ix ix_list (pv 1) (pv 4) (fun _ _ => rfl)) pa_nil)))) (blkOk_by (own := [("one", 10), ("other", 11)]) (N := ["table", "rows", "above", "below", "at", "some", "lead", "late", "part", "row", "one", "other"]) (sc := defScope s__law_worth) (by decide +kernel)) (fun _ _ _ _ _ => pg_tup (n := 2) (by rfl) (pgs_cons (pg_name (i := 10) sc__law_worth.nd rfl (.inl rfl) (.inr rfl)) (pgs_cons (pg_name (i := 11) sc__law_worth.nd rfl (.inl rfl) (.inr rfl)) pgs_nil (by rfl)) (by rfl)) (by rfl) (by rfl)) (fun _ _ _ _ _ => pts_nil) (fun _ _ _ _ _ => (pe_op op_sub (pe_op op_mul (pv 6) (pv 10)) (pe_op op_mul (pv 8) (pv 11))))) (pg_sub (pv 1) (pv 7) set_list))
          (pss_one (ps_set (i := 3) sc__law_worth.nd rfl (.inl rfl) (pe_op op_mul (pv 3) (pv 6)))))
          pss_nil)))))))))))
    (pss_one (ps_ret (pe_op op_fdivA (pv 2) (pv 3)))))), ?_⟩
  obtain ⟨_, rfl, a, n, ad0, M0, v, rfl, hT, n2, wo, q⟩ := h
  -- the rows copied
  refine ⟨_, rfl, a, rfl, ⟨_, hT.top⟩, fun D hD => lc_list (K := K) (a := a) (xs := (List.range n).map fun i => V.ref (ad0 i)) (fun i H1 => Same H H1 ∧ ∃ ad : Nat → Addr, H1 D = some (.lst ((List.range i).map fun k => V.ref (ad k))) ∧ (∀ k, k < i → H (ad k) = none ∧ ad k ≠ D) ∧ (∀ k l, k < i → l < i → ad k = ad l → k = l) ∧ ∀ k, k < i → H1 (ad k) = some (.lst ((List.range n).map fun j => V.int (M0 k j))))
    ⟨(Same.refl H).new hD, ad0, upd_same, fun k z => by omega, fun k l z => by omega, fun k z => by omega⟩ (fun i H1 _ z => SqL.same z.1 hT.top) ?_ ?_⟩
  · rintro i x H1 hx ⟨s1, ad, e1, e2, e3, e4⟩
    have hi : i < n := by
      have := (List.getElem?_eq_some_iff.mp hx).1
      simpa using this
    rw [List.getElem?_map, List.getElem?_range hi] at hx
    cases hx
    refine ⟨rfl, _, rfl, ad0 i, _, rfl, .inl (SqL.same s1 (hT.row i hi)), fun l hl => ?_⟩
    have nlD : l ≠ D := (ne_of_none e1 hl).symm
    have hDl : D ≠ l := ne_of_none e1 hl
    have nl : ∀ k, k < i → ad k ≠ l := fun k hk => ne_of_none (e4 k hk) hl
    refine ⟨_, (upd_ne hDl).trans e1, small_lt (by simp; omega), (s1.new hl).mut hD, addA ad i l, ?_, ?_, ?_, ?_⟩
    · rw [upd_same, List.range_succ, List.map_append]
      refine congrArg (fun z => some (HO.lst z)) (congr (congrArg _ (List.map_congr_left fun k hk => ?_)) ?_)
      · have := List.mem_range.mp hk
        rw [addA_ne (by omega)]
      · show _ = [V.ref (addA ad i l i)]
        rw [addA_at]
    · intro k hk
      by_cases e : k = i
      · subst e
        rw [addA_at]
        exact ⟨s1.free hl, nlD⟩
      · rw [addA_ne e]
        exact e2 k (by omega)
    · intro k l' hk hl' z
      by_cases a1 : k = i <;> by_cases a2 : l' = i
      · omega
      · rw [a1, addA_at, addA_ne a2] at z
        exact absurd z.symm (nl l' (by omega))
      · rw [a2, addA_at, addA_ne a1] at z
        exact absurd z (nl k (by omega))
      · rw [addA_ne a1, addA_ne a2] at z
        exact e3 k l' (by omega) (by omega) z
    · intro k hk
      by_cases e : k = i
      · subst e
        rw [addA_at, upd_ne nlD, upd_same]
      · rw [addA_ne e, upd_ne (e2 k (by omega)).2, upd_ne (nl k (by omega))]
        exact e4 k (by omega)
  rintro H1 ⟨s1, ad, e1, e2, e3, e4⟩
  rw [List.length_map, List.length_range] at e1 e2 e3 e4
  have mt : Mat H1 D n ad M0 := ⟨e1, fun i hi => (e2 i hi).2, e3, e4⟩
  have fr : H D = none ∧ ∀ i, i < n → H (ad i) = none := ⟨hD, fun i hi => (e2 i hi).1⟩
  clear e1 e2 e3 e4 hD
  refine ⟨sz3, fun t ht => ⟨t, _, rfl, SqT.of upd_same, rfl, _, _, rfl, _, _, rfl, _, _, rfl, rfl, ?_⟩⟩
  have mt2 := mt.same ((Same.refl H1).new (o := .tup [.ref D, .int 1, .int 1]) ht)
  have s2 := s1.new (o := .tup [.ref D, .int 1, .int 1]) ht
  clear mt s1
  generalize upd H1 t (.tup [.ref D, .int 1, .int 1]) = H2 at mt2 s2
  refine ⟨_, rfl, D, _, rfl, .inl (SqL.of mt2.top), ?_⟩
  rw [len_map_range]
  -- the turns
  refine ⟨_, rfl, by omega, by omega, for_range (fun k σ H' => ∃ (ad : Nat → Addr) (M : Nat → Nat → Int) (above below : Int) (y4 y5 y6 y7 y8 y9 y10 y11 : Option V), σ = [some (.ref a), some (.ref D), some (.int above), some (.int below), y4, y5, y6, y7, y8, y9, y10, y11] ∧ Same H H' ∧ Mat H' D n ad M ∧ (∀ i, i < n → H (ad i) = none) ∧ Lo n k above below M v)
    ⟨ad, M0, 1, 1, none, none, none, none, none, none, none, none, rfl, s2, mt2, fr.2, wo⟩ ?_ ?_⟩
  · rintro k σ H' hk ⟨ad, M, above, below, y4, y5, y6, y7, y8, y9, y10, y11, rfl, sm, mt, fad, wo⟩
    have hkn : k < n := by omega
    rw [show (0 : Int) + (k : Int) = (k : Int) by omega]
    refine ⟨_, rfl, _, rfl, D, _, rfl, .inl (SqL.of mt.top), ?_⟩
    rw [len_map_range]
    refine ⟨_, _, rfl, ⟨by omega, by omega, by omega, by omega⟩, fun D2 hD2 => lcF_range (fun i => !decide (V.int (M (k + i) k) = V.int 0)) (fun i => .int (((k + i : Nat) : Int))) hD2 (by omega) ?_ ?_⟩
    · intro i H3 R S hi s3 hR hS
      have hi : k + i < n := by omega
      have ei : ((k : Int) + (i : Int)) = ((k + i : Nat) : Int) := by omega
      have mt3 := mt.same s3
      rw [ei]
      refine ⟨rfl, _, rfl, _, rfl, D, _, _, _, rfl, rfl, SqL.of mt3.top, map_range_at hi, _, rfl, ad (k + i), _, _, _, rfl, rfl, SqL.of (mt3.row (k + i) hi), map_range_at hkn, rfl, _, rfl, ite2 (fun hb => ⟨_, rfl, hR hb _ _ (Same.refl _) (.int _)⟩) (fun hb => hS (by simpa using hb) _ (Same.refl _))⟩
    intro H3 s3 r3
    obtain ⟨fl, hfl⟩ : ∃ fl : List Nat, ((List.range ((n : Int) - (k : Int)).toNat).filter fun i => !decide (V.int (M (k + i) k) = V.int 0)) = fl := ⟨_, rfl⟩
    have hm : ∀ i, i ∈ fl ↔ i < n - k ∧ M (k + i) k ≠ 0 := by
      intro i
      rw [← hfl, List.mem_filter, List.mem_range]
      constructor
      · rintro ⟨h1, h2⟩
        exact ⟨by omega, by simpa using h2⟩
      · rintro ⟨h1, h2⟩
        exact ⟨by omega, by simpa using h2⟩
    have hpw : fl.Pairwise (· < ·) := hfl ▸ List.Pairwise.filter _ List.pairwise_lt_range
    rw [hfl, show fl.map (fun i => PyData.int (((k + i : Nat) : Int))) = (fl.map fun i => ((k + i : Nat) : Int)).map PyData.int by rw [List.map_map]; rfl] at r3
    have e3 := r3.ints
    have mt3 := mt.same s3
    refine ⟨_, rfl, sz0, fun e he => ⟨.list ((fl.map fun i => ((k + i : Nat) : Int)).map PyData.int), .list [], dp_ints (SqL.of ((upd_ne (ne_of_none e3 he)).trans e3)), dp_ints (ns := []) (SqL.of upd_same), ?_, ?_, ?_⟩⟩
    · exact shaped_map (f := PyData.int) (fun _ => rfl) (fun _ => by simp [PyData.depth])
    · exact shaped_map (f := PyData.int) (xs := []) (fun _ => rfl) (fun _ => by simp [PyData.depth])
    rw [show PyData.eqv (.list ((fl.map fun i => ((k + i : Nat) : Int)).map PyData.int)) (.list []) = decide ((fl.map fun i => ((k + i : Nat) : Int)) = []) from eqv_list (f := PyData.int) eqv_int _ []]
    cases fl with
    | nil =>
      refine ⟨_, rfl, ite2 (fun _ => ?_) (fun z => absurd (decide_eq_true rfl) z)⟩
      have z0 : ∀ i, k ≤ i → i < n → M i k = 0 := fun i h1 h2 => by
        refine Classical.byContradiction fun z => ?_
        have := (hm (i - k)).mpr ⟨by omega, by rwa [show k + (i - k) = i by omega]⟩
        simp at this
      have hv : v = 0 := by
        cases wo with
        | done _ _ => omega
        | zero _ _ => rfl
        | here _ h2 _ _ => exact absurd (z0 k (Nat.le_refl k) hkn) h2
        | swap b _ _ h3 h4 h5 _ _ _ => exact absurd (z0 b (by omega) h4) h5
      rw [← hv]
      exact q _ ((sm.trans s3).new he)
    | cons i0 fl =>
      refine ⟨_, rfl, ite2 (fun z => by simp at z) (fun _ => ?_)⟩
      obtain ⟨hi0, hne⟩ := (hm i0).mp List.mem_cons_self
      have hb : k + i0 < n := by omega
      have below0 : ∀ i, k ≤ i → i < k + i0 → M i k = 0 := fun i h1 h2 => by
        refine Classical.byContradiction fun z => ?_
        have := (hm (i - k)).mpr ⟨by omega, by rwa [show k + (i - k) = i by omega]⟩
        rcases List.mem_cons.mp this with e | e
        · omega
        · have := (List.pairwise_cons.mp hpw).1 _ e
          omega
      have s4 := s3.new (o := .lst []) he
      have mt4 := mt3.same ((Same.refl H3).new (o := .lst []) he)
      have e4 : (upd H3 e (.lst [])) D2 = some (.lst (V.int ((k + i0 : Nat) : Int) :: (fl.map fun i => ((k + i : Nat) : Int)).map V.int)) := (upd_ne (ne_of_none e3 he)).trans e3
      have nDD : D ≠ D2 := ne_of_none mt.top hD2
      have sm4 := sm.trans s4
      clear e3 r3 mt3 he hm hpw hfl
      generalize upd H3 e (.lst []) = H4 at s4 mt4 e4 sm4
      refine ⟨fun σ H5 => ∃ (ad : Nat → Addr) (M : Nat → Nat → Int) (above : Int) (y5 y6 y7 y8 y9 y10 y11 : Option V), σ = [some (.ref a), some (.ref D), some (.int above), some (.int below), some (.int k), y5, y6, y7, y8, y9, y10, y11] ∧ Same H H5 ∧ Mat H5 D n ad M ∧ (∀ i, i < n → H (ad i) = none) ∧ M k k ≠ 0 ∧ AllS k n M ∧ Lo n (k + 1) (above * M k k) (below * M k k ^ cntW M k (n - k - 1)) (elimW M k) v,
        ⟨_, rfl, D2, _, _, _, rfl, rfl, SqL.of e4, atC, _, rfl, rfl, _, rfl, ite2 (fun hc => ?_) (fun hc => ?_)⟩, ?_⟩
      · have hi1 : i0 ≠ 0 := fun z => by
          subst z
          simp at hc
        have hkk : M k k = 0 := below0 k (Nat.le_refl k) (by omega)
        obtain ⟨hS, wo2⟩ : AllS k n M ∧ Lo n (k + 1) ((0 - above) * M (k + i0) k) (below * M (k + i0) k ^ cntW (swapM M k (k + i0)) k (n - k - 1)) (elimW (swapM M k (k + i0)) k) v := by
          cases wo with
          | done _ _ => omega
          | zero _ h3 => exact absurd (h3 _ (by omega) hb) hne
          | here _ h2 _ _ => exact absurd hkk h2
          | swap b _ _ h3 h4 h5 h6 h7 h8 =>
            have e : b = k + i0 := by
              rcases Nat.lt_trichotomy b (k + i0) with z | z | z
              · exact absurd (below0 b (by omega) z) h5
              · exact z
              · exact absurd (h6 (k + i0) (by omega) z) hne
            subst e
            exact ⟨h7, h8⟩
        refine ⟨_, rfl, _, rfl, D2, _, _, _, rfl, rfl, SqL.of e4, atC, D, _, _, _, rfl, rfl, SqL.of mt4.top, map_range_at hb, _, rfl, _, rfl, D, _, _, _, rfl, rfl, SqL.of mt4.top, map_range_at hkn, sz2, fun t ht => ?_⟩
        have tD : D ≠ t := ne_of_none mt4.top ht
        have tD2 : D2 ≠ t := ne_of_none e4 ht
        have mt5 := mt4.same ((Same.refl H4).new (o := .tup [.ref (ad (k + i0)), .ref (ad k)]) ht)
        have e5 : (upd H4 t (.tup [.ref (ad (k + i0)), .ref (ad k)])) D2 = _ := (upd_ne tD2).trans e4
        refine ⟨t, _, rfl, SqT.of upd_same, rfl, _, _, rfl, ⟨_, rfl, _, rfl, D, _, _, k, rfl, rfl, mt5.top, by rw [len_map_range]; exact ixN_nat hkn, ?_⟩⟩
        refine ⟨_, _, rfl, ⟨_, rfl, _, rfl, D2, _, _, _, rfl, rfl, SqL.of ((upd_ne nDD.symm).trans e5), atC, D, _, _, k + i0, rfl, rfl, upd_same, by rw [List.length_set, len_map_range]; exact ixN_nat hb, rfl, ?_⟩⟩
        have ek : swapM M k (k + i0) k k = M (k + i0) k := by unfold swapM; rw [if_pos rfl]
        refine ⟨_, rfl, _, _, rfl, rfl, _, swapM M k (k + i0), 0 - above, _, _, _, _, _, _, _, rfl, ?_, mt5.swap hkn hb (by omega), fun i hi => ?_, ?_, hS.swap (by omega) hb, ?_⟩
        · exact ((sm4.new ht).mut fr.1).mut fr.1
        · show H (if i = k then ad (k + i0) else if i = k + i0 then ad k else ad i) = none
          split
          · exact fad _ hb
          · split
            · exact fad _ hkn
            · exact fad _ hi
        · rw [ek]
          exact hne
        · rw [ek]
          exact wo2
      · have hi1 : i0 = 0 := by
          refine Classical.byContradiction fun z => hc ?_
          simp
          omega
        subst hi1
        have hne : M k k ≠ 0 := hne
        obtain ⟨hS, wo2⟩ : AllS k n M ∧ Lo n (k + 1) (above * M k k) (below * M k k ^ cntW M k (n - k - 1)) (elimW M k) v := by
          cases wo with
          | done _ _ => omega
          | zero _ h3 => exact absurd (h3 k (Nat.le_refl k) hkn) hne
          | here _ _ h3 h4 => exact ⟨h3, h4⟩
          | swap b _ h2 _ _ _ _ _ _ => exact absurd h2 hne
        exact ⟨ad, M, above, _, _, _, _, _, _, _, rfl, sm4, mt4, fad, hne, hS, wo2⟩
      -- the rows below
      clear wo hne hb hi0 below0 e4 sm4 mt4 fad s4 nDD s3 mt sm M ad above y4 y5 y6 y7 y8 y9 y10 y11
      rintro σ H5 ⟨ad, M, above, y5, y6, y7, y8, y9, y10, y11, rfl, sm, mt, fad, hne, hS, wo⟩
      have bkk := hS k k (Nat.le_refl k) (Nat.le_refl k) hkn hkn
      refine ⟨_, rfl, _, rfl, D, _, _, _, rfl, rfl, SqL.of mt.top, map_range_at hkn, _, rfl, ad k, _, _, _, rfl, rfl, SqL.of (mt.row k hkn), map_range_at hkn, ?_⟩
      refine ⟨_, rfl, _, rfl, _, _, rfl, rfl, .inr ⟨by omega, by omega⟩, ?_⟩
      refine ⟨_, rfl, _, _, rfl, rfl, _, rfl, D, _, rfl, .inl (SqL.of mt.top), ?_⟩
      rw [len_map_range]
      refine ⟨_, _, rfl, ⟨by omega, by omega, by omega, by omega⟩, for_range (fun i σ H6 => ∃ (ad : Nat → Addr) (y7 y8 y9 y10 y11 : Option V), σ = [some (.ref a), some (.ref D), some (.int (above * M k k)), some (.int (below * M k k ^ cntW M k i)), some (.int k), y5, some (.int (M k k)), y7, y8, y9, y10, y11] ∧ Same H H6 ∧ Mat H6 D n ad (partW M k i) ∧ (∀ i, i < n → H (ad i) = none))
        ⟨ad, y7, y8, y9, y10, y11, ?_, sm, by rw [partW_zero]; exact mt, fad⟩ ?_ ?_⟩
      · show [some (V.ref a), some (V.ref D), some (V.int (above * M k k)), some (V.int below), some (V.int k), y5, some (V.int (M k k)), y7, y8, y9, y10, y11] = [some (V.ref a), some (V.ref D), some (V.int (above * M k k)), some (V.int (below * M k k ^ 0)), some (V.int k), y5, some (V.int (M k k)), y7, y8, y9, y10, y11]
        rw [Int.pow_zero, Int.mul_one]
      · rintro i σ H6 hi ⟨ad, y7, y8, y9, y10, y11, rfl, sm, mt, fad⟩
        have hi : k + 1 + i < n := by omega
        rw [show ((k : Int) + 1 + (i : Int)) = ((k + 1 + i : Nat) : Int) by omega]
        have p0 : ∀ j, partW M k i (k + 1 + i) j = M (k + 1 + i) j := fun j => by unfold partW; rw [if_neg (by omega)]
        have p1 : ∀ j, partW M k i k j = M k j := fun j => by unfold partW; rw [if_neg (by omega)]
        have bik := hS (k + 1 + i) k (by omega) (Nat.le_refl k) hi hkn
        refine ⟨_, rfl, _, rfl, D, _, _, _, rfl, rfl, SqL.of mt.top, map_range_at hi, _, rfl, ad (k + 1 + i), _, _, _, rfl, rfl, SqL.of (mt.row (k + 1 + i) hi), map_range_at hkn, ?_⟩
        rw [p0]
        refine ⟨_, rfl, rfl, _, rfl, ite2 (fun hc => ?_) (fun hc => ?_)⟩
        · have hc : M (k + 1 + i) k ≠ 0 := by simpa using hc
          have r1 := mt.row _ hi
          have r2 := mt.row _ hkn
          simp only [p0] at r1
          simp only [p1] at r2
          refine ⟨_, rfl, _, rfl, D, _, _, _, rfl, rfl, SqL.of mt.top, map_range_at hi, _, rfl, _, rfl, D, _, _, _, rfl, rfl, SqL.of mt.top, map_range_at hkn, _, _, _, _, rfl, SqL.of r1, SqL.of r2, fun D3 hD3 => lcM_zip (n := n) (fun j => .int (M k k * M (k + 1 + i) j - M (k + 1 + i) k * M k j)) hD3 (SqL.of r1) (SqL.of r2) (by rw [len_map_range, len_map_range]; omega) (by omega) ?_ ?_⟩
          · intro j T x y H7 R S hj hx hy s7 eT hR
            rw [List.getElem?_map, List.getElem?_range hj] at hx hy
            cases hx
            cases hy
            refine ⟨T, _, rfl, SqT.of eT, rfl, _, _, rfl, _, _, rfl, rfl, rfl, _, rfl, _, rfl, _, _, rfl, rfl, .inl ⟨by omega, by omega⟩, _, rfl, _, rfl, _, _, rfl, rfl, .inl ⟨by omega, by omega⟩, _, _, rfl, rfl, hR _ _ (Same.refl _) (.int _)⟩
          · intro H7 s7 r7
            have e7 : H7 D3 = some (.lst ((List.range n).map fun j => V.int (M k k * M (k + 1 + i) j - M (k + 1 + i) k * M k j))) := by
              rw [show (List.range n).map (fun j => PyData.int (M k k * M (k + 1 + i) j - M (k + 1 + i) k * M k j)) = ((List.range n).map fun j => M k k * M (k + 1 + i) j - M (k + 1 + i) k * M k j).map PyData.int by rw [List.map_map]; rfl] at r7
              rw [r7.ints, List.map_map]
              rfl
            have mt7 := mt.same s7
            have dl : ∀ k, k < n → ad k ≠ D3 := fun k hk => ne_of_none (mt.row k hk) hD3
            have dD : D3 ≠ D := (ne_of_none mt.top hD3).symm
            refine ⟨_, rfl, _, rfl, D, _, _, k + 1 + i, rfl, rfl, mt7.top, by rw [len_map_range]; exact ixN_nat hi, ?_⟩
            have m8 := mt7.setRow hi dl dD e7
            refine ⟨_, rfl, _, rfl, _, _, rfl, rfl, .inr ⟨by omega, by omega⟩, addA ad (k + 1 + i) D3, some (.int ((k + 1 + i : Nat) : Int)), some (.int (M (k + 1 + i) k)), y9, y10, y11, ?_, (sm.trans s7).mut fr.1, m8.congr fun x y hx hy => ?_, fun x hx => ?_⟩
            · have e : below * M k k ^ cntW M k i * M k k = below * M k k ^ cntW M k (i + 1) := by
                rw [cntW_succ, if_neg hc, Int.pow_succ, Int.mul_assoc]
              exact congrArg (fun z => [some (V.ref a), some (V.ref D), some (V.int (above * M k k)), some (V.int z), some (V.int k), y5, some (V.int (M k k)), _, _, _, _, _]) e
            · unfold partW
              by_cases e : x = k + 1 + i
              · subst e
                rw [if_pos rfl, if_pos ⟨by omega, by omega, hc⟩]
              · rw [if_neg e]
                by_cases c : k < x ∧ x < k + 1 + i ∧ M x k ≠ 0
                · rw [if_pos c, if_pos ⟨c.1, by omega, c.2.2⟩]
                · rw [if_neg c, if_neg (fun z => c ⟨z.1, by omega, z.2.2⟩)]
            · by_cases e : x = k + 1 + i
              · rw [e, addA_at]
                exact sm.free hD3
              · rw [addA_ne e]
                exact fad x hx
        · have hc : M (k + 1 + i) k = 0 := by simpa using hc
          refine ⟨ad, some (.int ((k + 1 + i : Nat) : Int)), some (.int (M (k + 1 + i) k)), y9, y10, y11, ?_, sm, mt.congr fun x y hx hy => ?_, fad⟩
          · have e : below * M k k ^ cntW M k i = below * M k k ^ cntW M k (i + 1) := by
              rw [cntW_succ, if_pos hc, Nat.add_zero]
            exact congrArg (fun z => [some (V.ref a), some (V.ref D), some (V.int (above * M k k)), some (V.int z), some (V.int k), y5, some (V.int (M k k)), _, _, _, _, _]) e
          · unfold partW
            by_cases c : k < x ∧ x < k + 1 + i ∧ M x k ≠ 0
            · rw [if_pos c, if_pos ⟨c.1, by omega, c.2.2⟩]
            · rw [if_neg c, if_neg (fun z => ?_)]
              by_cases e : x = k + 1 + i
              · subst e
                exact z.2.2 hc
              · exact c ⟨z.1, by omega, z.2.2⟩
      · rintro σ H6 ⟨ad, y7, y8, y9, y10, y11, rfl, sm, mt, fad⟩
        rw [show ((n : Int) - ((k : Int) + 1)).toNat = n - k - 1 by omega] at mt ⊢
        refine ⟨ad, elimW M k, _, _, _, _, _, _, _, _, _, _, rfl, sm, mt.congr fun x y hx hy => ?_, fad, wo⟩
        unfold partW elimW
        by_cases c : k < x ∧ M x k ≠ 0
        · rw [if_pos c, if_pos ⟨c.1, by omega, c.2⟩]
        · rw [if_neg c, if_neg (fun z => c ⟨z.1, z.2.2⟩)]
  · rintro σ H' ⟨ad, M, above, below, y4, y5, y6, y7, y8, y9, y10, y11, rfl, sm, mt, fad, wo⟩
    rw [show (n : Int).toNat = n by omega] at wo
    cases wo with
    | done h1 h2 => exact ⟨_, rfl, _, rfl, _, _, rfl, rfl, ⟨h1, h2⟩, q _ sm⟩
    | zero h1 _ => omega
    | here h1 _ _ _ => omega
    | swap b h1 _ _ _ _ _ _ _ => omega

end
end M
namespace M
open PySem PySem.Spec PyProof.Rows L2 G
section
variable {P : Program} {w : World} {K : PySem.W.Frag} {mg : Str → Option Value} {base : Heap}
/-! the law's own signs -/
theorem FacOk.pow_dvd : ∀ {b : Nat} {L : List (Nat × Nat)} {x : Nat × Nat}, FacOk b L → x ∈ L → x.1 ^ x.2 ∣ facP L
  | _, [], _, _, h => by simp at h
  | b, (p, e) :: r, x, ⟨_, _, _, h4⟩, h => by
    rw [facP]
    rcases List.mem_cons.mp h with rfl | h
    · exact Nat.dvd_mul_right _ _
    · exact Nat.dvd_trans (FacOk.pow_dvd h4 h) (Nat.dvd_mul_left _ _)
theorem fst_dvd {L : List (Nat × Nat)} {n q : Nat} (h : FacOf L n) (hq : q ∈ L.map Prod.fst) : Pr q ∧ q ∣ n := by
  obtain ⟨x, hx, rfl⟩ := List.mem_map.mp hq
  obtain ⟨_, h2, h3⟩ := h.1.mem hx
  refine ⟨h2, Nat.dvd_trans ?_ (h.2 ▸ h.1.pow_dvd hx)⟩
  exact dvd_pow_self h3
theorem sgn_free {L : List (Nat × Nat)} {n : Nat} (h : FacOf L n) (hs : ∀ q ∈ L.map Prod.fst, ¬ q * q ∣ n) : mu n = if L.length % 2 = 0 then 1 else -1 := by
  rw [mu_fac h]
  unfold sgnL
  rw [if_neg]
  intro z
  obtain ⟨x, hx, he⟩ := List.any_eq_true.mp z
  have he := of_decide_eq_true he
  refine hs x.1 (List.mem_map_of_mem hx) ?_
  rw [← h.2]
  refine Nat.dvd_trans ?_ (h.1.pow_dvd hx)
  rw [← Nat.pow_two]
  exact Nat.pow_dvd_pow x.1 he
def sp__law_sign (_ : PySem.W.Frag) : Sp := spec1 fun x H Q _ => ∃ n : Nat, x = .int n ∧ 1 ≤ n ∧ n ≤ 1000000000 ∧ ∀ H', Same H H' → Q (.int (mu n)) H'
theorem ok__law_sign {af : Addr} {fd : FuncData} (F : FunD K "_law_sign" "_law_sign" (defArgs s__law_sign) (defBody s__law_sign) (defScope s__law_sign) [] [] af fd) (B : Bt mg) (C__law_primes : Cl P w K mg base 1 "_law_primes" 1 [] (sp__law_primes K)) : FnG P w K mg base CX0 2 af fd ["number"] (sp__law_sign K) := by
  refine okG F sc__law_sign ar1 fun cdv A outer s H vs Q E hg hr h => ?_
  refine ⟨_, PSs.nox (pss_cons (ps_set (i := 1) sc__law_sign.nd rfl (.inl rfl) (pe_cl C__law_primes hg hr (by decide) rfl (pa_cons (pv 0) pa_nil)))
    (pss_cons (ps_if (pt_val (pe_callB (cr_any rfl) (by rfl) B.any (by decide +kernel) (pa_cons (pe_lc (own := [("prime", 2)]) rfl sc__law_sign.nd ((pi_list (pv 1))) (blkOk_by (own := [("prime", 2)]) (N := ["number", "primes", "prime"]) (sc := defScope s__law_sign) (by decide +kernel)) (fun _ _ _ _ _ => pg_name (i := 2) sc__law_sign.nd rfl (.inl rfl) (.inr rfl)) (fun _ _ _ _ _ => pts_nil) (fun _ _ _ _ _ => (pe_cmpR op_eq (pe_callTy call_int1 (by rfl) B.int (by decide +kernel) (pa_cons (pe_op op_mod (pv 0) (pe_op op_mul (pv 2) (pv 2))) pa_nil)) pe_int (nomark _)))) pa_nil)))
      (pss_one (ps_ret pe_int))
      pss_nil)
    (pss_one (ps_ret (pe_ifExp (pt_cmpR op_eq (pe_callTy call_int1 (by rfl) B.int (by decide +kernel) (pa_cons (pe_op op_mod (pe_callB call_len_seq (by rfl) B.len (by decide +kernel) (pa_cons (pv 1) pa_nil)) pe_int) pa_nil)) pe_int (nomark _)) pe_int (pe_un un_neg pe_int)))))), ?_⟩
  obtain ⟨_, rfl, n, rfl, h1, h2, q⟩ := h
  refine ⟨_, rfl, _, rfl, n, rfl, h1, h2, fun L p H1 hL s1 hp ep => ?_⟩
  have sh := fac_short hL (by omega)
  have sh : (L.map Prod.fst).length ≤ 100 := by rw [List.length_map]; exact sh
  refine ⟨_, rfl, p, rfl, ⟨_, SqL.of ep⟩, fun D hD => lcM_list (K := K) (c := nV) (src := L.map Prod.fst) (fun r => .bool (decide (V.int ((n : Int) % (((r : Nat) : Int) * ((r : Nat) : Int))) = V.int 0))) hD (SqL.of ep) (by omega) ?_ ?_⟩
  · intro i r H2 R S hr s2 hR
    obtain ⟨pr, pd⟩ := fst_dvd hL (List.mem_of_getElem? hr)
    have := Nat.le_of_dvd h1 pd
    have r0 := pr.two
    have rr : (0 : Int) < (r : Int) * (r : Int) := Int.mul_pos (by omega) (by omega)
    exact ⟨rfl, _, rfl, _, rfl, _, rfl, _, _, rfl, rfl, mulc ⟨by omega, by omega⟩, _, _, rfl, rfl, rr, .inl ⟨_, rfl, rfl, hR _ _ (Same.refl _) (.bl _)⟩⟩
  · intro H2 s2 r2
    rw [map_bl (fun r : Nat => decide (V.int ((n : Int) % (((r : Nat) : Int) * ((r : Nat) : Int))) = V.int 0))] at r2
    have key : ∀ r : Nat, decide (V.int ((n : Int) % (((r : Nat) : Int) * ((r : Nat) : Int))) = V.int 0) = true ↔ r * r ∣ n := fun r => by
      rw [decide_eq_true_iff]
      constructor
      · intro z
        have := V.int.inj z
        rw [← Int.natCast_mul] at this
        exact Nat.dvd_of_mod_eq_zero (by omega)
      · intro z
        have := Nat.mod_eq_zero_of_dvd z
        refine congrArg V.int ?_
        rw [← Int.natCast_mul]
        omega
    have q2 := q H2 (s1.trans s2)
    refine ⟨D, _, rfl, SqL.of r2.bls, _, rfl, ite2 (fun hc => ?_) (fun hc => ?_)⟩
    · obtain ⟨b, hb, e⟩ := List.any_eq_true.mp hc
      obtain ⟨r, hr, rfl⟩ := List.mem_map.mp hb
      have := (key r).mp e
      rw [mu_sq (fst_dvd hL hr).1 this h1] at q2
      exact q2
    · rw [sgn_free hL fun r hr z => hc (List.any_eq_true.mpr ⟨_, List.mem_map_of_mem hr, (key r).mpr z⟩)] at q2
      refine ⟨_, rfl, p, _, rfl, .inl (SqL.of (s2 _ _ ep)), _, _, rfl, rfl, (by show (0 : Int) < 2; decide), .inl ⟨_, rfl, rfl, _, rfl, ite2 (fun hd => ?_) (fun hd => ?_)⟩⟩
      · have : L.length % 2 = 0 := by
          have := V.int.inj (of_decide_eq_true hd)
          rw [nsV_len, List.length_map] at this
          omega
        rw [if_pos this] at q2
        exact q2
      · have : ¬ L.length % 2 = 0 := fun z => hd (decide_eq_true (by
          rw [nsV_len, List.length_map]
          refine congrArg V.int ?_
          omega))
        rw [if_neg this] at q2
        exact ⟨_, rfl, q2⟩

end
end M
namespace M
/-! known tables -/
theorem meets_law : ∀ n, n < 12 → lawC (n + 1) 1 1 (meetsL (n + 1)) = some (mertL.getD n 0) := by decide +kernel
theorem meets_lo {n : Nat} (h1 : 1 ≤ n) (h : n ≤ 12) : Lo n 0 1 1 mm (mert n) := by
  obtain ⟨m, rfl⟩ : ∃ m, n = m + 1 := ⟨n - 1, by omega⟩
  refine lawC_ok (m + 1) 0 1 1 mm (mert (m + 1)) (by omega) ?_
  rw [meets_sub]
  exact meets_law m (by omega)
theorem sumR_mert {n : Nat} (h : n < 40) : sumR mu (n + 1) = mertL.getD n 0 := mert_sum n h
theorem mert_mu {n : Nat} (h1 : 2 ≤ n) (h : n ≤ 40) : mert n - mert (n - 1) = mu n := by
  obtain ⟨m, rfl⟩ : ∃ m, n = m + 1 + 1 := ⟨n - 2, by omega⟩
  unfold mert
  rw [show m + 1 + 1 - 1 - 1 = m by omega, show m + 1 + 1 - 1 = m + 1 by omega, ← mert_sum (m + 1) (by omega), ← mert_sum m (by omega)]
  rw [show sumR mu (m + 1 + 1) = sumR mu (m + 1) + mu (m + 1 + 1) from rfl]
  omega
theorem mert_take : ∀ n, n < 41 → mertL.take n = (List.range n).map fun i => mertL.getD i 0 := by decide +kernel
theorem mert_all : mertL = (List.range 40).map fun i => mertL.getD i 0 := by decide +kernel
theorem meets_cols : ∀ n, n < 41 → ∀ i, i < n → 1 ≤ i → ((List.range n).map fun k => mm k i).sum = ((divsL (i + 1)).length : Int) := by decide +kernel
theorem mert_some : [1, 2, 5, 13, 31, 39, 40].map mert = [1, 0, -2, -3, -4, 0, 0] := by decide +kernel
theorem mert_len : mertL.length = 40 := rfl
theorem mertL_small : ∀ x ∈ mertL, x.natAbs < 10 ^ 14 := by decide +kernel
theorem mm_small (i j : Nat) : (mm i j).natAbs < 10 ^ 14 := by unfold mm; split <;> decide

end M
namespace M
open PySem PySem.Spec PyProof.Rows L2 G
section
variable {P : Program} {w : World} {K : PySem.W.Frag} {mg : Str → Option Value} {base : Heap}
/-! the law of meet tables -/
theorem ne_same {Q : Bool → Hp → Prop} {x y : V} {H : Hp} (h : x = y) (q : Q false H) : Q (!decide (x = y)) H := by
  rw [decide_eq_true h]
  exact q
theorem not_self {x y : V} (h : x = y) : ¬ (!decide (x = y)) = true := by
  rw [decide_eq_true h]
  decide
theorem good_ints2 {c : Nat} {ns : List Int} (h : ∀ x ∈ ns, x.natAbs < 10 ^ c) (hc : c ≤ 500) (hn : (c + 8) * (ns.length + 1) ≤ 16777216) : Good (.list (ns.map PyData.int)) := good_ints h hc hn
theorem meets_fine (n : Nat) : fine 14 (tabD (meetsL n)) = true := fine_tab fun r hr x hx => by
  unfold meetsL at hr
  obtain ⟨i, _, rfl⟩ := List.mem_map.mp hr
  obtain ⟨j, _, rfl⟩ := List.mem_map.mp hx
  exact mm_small i j
theorem meets_len {n : Nat} : ∀ r ∈ meetsL n, r.length ≤ n := fun r hr => by
  unfold meetsL at hr
  obtain ⟨i, _, rfl⟩ := List.mem_map.mp hr
  rw [List.length_map, List.length_range]
  exact Nat.le_refl n
theorem meets_nodes {n : Nat} (h : n ≤ 40) : nodes (tabD (meetsL n)) ≤ 1 + 40 * 41 := by
  have := nodes_tab (meets_len (n := n))
  have e : (meetsL n).length = n := by unfold meetsL; rw [List.length_map, List.length_range]
  rw [e] at this
  have := Nat.mul_le_mul h (show 1 + n ≤ 41 by omega)
  omega
theorem good_meets {n : Nat} (h : n ≤ 40) : Good (tabD (meetsL n)) :=
  Good.of (meets_fine n) (by decide) (by have := depth_tab (meetsL n); omega) (by have := meets_nodes h; omega)
theorem good_meets2 {n : Nat} (h : n ≤ 40) : Good (.list [tabD (meetsL n), tabD (meetsL n)]) := by
  refine Good.of (c := 14) ?_ (by decide) ?_ ?_
  · rw [fine, fineAll, fineAll, fineAll, meets_fine]
    rfl
  · rw [PyData.depth, PyData.depthAll, PyData.depthAll, PyData.depthAll]
    have := depth_tab (meetsL n)
    omega
  · rw [nodes, nodesAll, nodesAll, nodesAll]
    have := meets_nodes h
    omega
/-- what stands: the pot, due, sums -/
structure L86 (H0 : Hp) (a Du Sm : Addr) (n : Nat) (H : Hp) : Prop where
  pot : PotAt H a
  due : Rp (· ≠ a) H (.ref Du) (tabD (meetsL n))
  sn : Sm ≠ a
  sums : H Sm = some (.lst (mertL.map V.int))
  gr : Grow a H0 H
theorem L86.same {H0 H H' : Hp} {a Du Sm : Addr} {n : Nat} (h : L86 H0 a Du Sm n H) (s : Same H H') : L86 H0 a Du Sm n H' := ⟨h.pot.same s, h.due.same s, h.sn, s _ _ h.sums, h.gr.trans (Grow.of s)⟩
theorem L86.grow {H0 H H' : Hp} {a Du Sm : Addr} {n : Nat} (h : L86 H0 a Du Sm n H) (g : Grow a H H') (p : PotAt H' a) : L86 H0 a Du Sm n H' := ⟨p, h.due.grow g, h.sn, g _ _ h.sn h.sums, h.gr.trans g⟩
def sp__law_right (_ : PySem.W.Frag) : Sp := spec1 fun x H Q _ => ∃ a, x = .ref a ∧ PotAt H a ∧ ∀ H', Grow a H H' → Q (.bl true) H'
theorem mert_at {i : Nat} (h : i < 40) : atI (mertL.map V.int) (i : Int) = some (.int (mert (i + 1))) := by
  refine atI_nat ?_
  have e : mertL[i]? = some (mert (i + 1)) := by
    unfold mert
    rw [Nat.add_sub_cancel, List.getD_eq_getElem?_getD, List.getElem?_eq_getElem (show i < mertL.length from h)]
    rfl
  rw [List.getElem?_map, e]
  rfl
theorem psum_mu {n : Nat} (h : n ≤ 40) : psum (muI n) = mertL.take n := by
  rw [mert_take n (by omega)]
  unfold psum
  have el : (muI n).length = n := by unfold muI; rw [List.length_map, List.length_range]
  rw [el]
  refine List.map_congr_left fun i hi => ?_
  have hi := List.mem_range.mp hi
  rw [← mert_sum i (by omega), ← sum_range]
  unfold muI
  rw [← List.map_take, List.take_range, Nat.min_eq_left (by omega)]
theorem mm_int {i j : Nat} : (if decide (V.int (((j + 1 : Nat) : Int) % ((i + 1 : Nat) : Int)) = V.int 0) = true then (1 : Int) else 0) = if (j + 1) % (i + 1) = 0 then 1 else 0 := by
  by_cases c : (j + 1) % (i + 1) = 0
  · rw [if_pos c, if_pos (decide_eq_true (congrArg V.int (mm_cast.mpr c)))]
  · rw [if_neg c, if_neg (fun z => c (mm_cast.mp (V.int.inj (of_decide_eq_true z))))]
theorem ok__law_right {af : Addr} {fd : FuncData} (F : FunD K "_law_right" "_law_right" (defArgs s__law_right) (defBody s__law_right) (defScope s__law_right) [] [] af fd) (B : Bt mg) (C__law_draw : Cl P w K mg base 1 "_law_draw" 2 [] (sp__law_draw K)) (C_summed : Cl P w K mg base 4 "summed" 1 [] (sp_summed K)) (C_table_worth : Cl P w K mg base 4 "table_worth" 1 [] (sp_table_worth K)) (C__law_worth : Cl P w K mg base 1 "_law_worth" 1 [] (sp__law_worth K)) (C__law_sign : Cl P w K mg base 2 "_law_sign" 1 [] (sp__law_sign K)) (C_meet_table : Cl P w K mg base 4 "meet_table" 1 [] (sp_meet_table K)) (C_meet_table_many : Clk P w K mg base 4 "meet_table" ["many"] (fun zs => [zs.getD 0 .non]) (sp_meet_table K)) (C_sign_row : Cl P w K mg base 5 "sign_row" 1 [] (sp_sign_row K)) (C_meet_worth : Cl P w K mg base 4 "meet_worth" 1 [] (sp_meet_worth K)) (C__law_divisors : Cl P w K mg base 1 "_law_divisors" 1 [] (sp__law_divisors K)) (C_meet_worth_many : Clk P w K mg base 4 "meet_worth" ["many"] (fun zs => [zs.getD 0 .non]) (sp_meet_worth K)) : FnG P w K mg base CX0 6 af fd ["pot"] (sp__law_right K) := by
  refine okG F sc__law_right ar1 fun cdv A outer s H vs Q E hg hr h => ?_
  refine ⟨_, PSs.nox (pss_cons (ps_set (i := 1) sc__law_right.nd rfl (.inr rfl) (pe_op op_add pe_int (pe_cl C__law_draw hg hr (by decide) rfl (pa_cons (pv 0) (pa_cons pe_int pa_nil)))))
    (pss_cons (ps_set (i := 2) sc__law_right.nd rfl (.inr rfl) (pe_lc (own := [("near", 5)]) rfl sc__law_right.nd (pi_range2 rfl B.range (pa_cons pe_int (pa_cons (pe_op op_add (pv 1) pe_int) pa_nil))) (blkOk_by (own := [("near", 5)]) (N := ["pot", "many", "due", "sums", "size", "near", "far", "number", "at", "row"]) (sc := defScope s__law_right) (by decide +kernel)) (fun _ _ _ _ _ => pg_name (i := 5) sc__law_right.nd rfl (.inr rfl) (.inl rfl)) (fun _ _ _ _ _ => pts_nil) (fun _ _ _ _ _ => (pe_lc (own := [("far", 6)]) rfl sc__law_right.nd (pi_range2 rfl B.range (pa_cons pe_int (pa_cons (pe_op op_add (pv 1) pe_int) pa_nil))) (blkOk_in (own := [("far", 6)]) (N := ["pot", "many", "due", "sums", "size", "near", "far", "number", "at", "row"]) (sc := defScope s__law_right) rfl (by decide +kernel)) (fun _ _ _ _ _ => pg_name (i := 6) sc__law_right.nd rfl (.inl rfl) (.inr rfl)) (fun _ _ _ _ _ => pts_nil) (fun _ _ _ _ _ => (pe_callTy call_int1 (by rfl) B.int (by decide +kernel) (pa_cons (pe_or (pe_cmpR op_eq (pv 6) pe_int (nomark _)) (pe_one (pe_cmpR op_eq (pe_callTy call_int1 (by rfl) B.int (by decide +kernel) (pa_cons (pe_op op_mod (pv 6) (pv 5)) pa_nil)) pe_int (nomark _)))) pa_nil)))))))
    (pss_cons (ps_if (pt_cmpR op_ne (pe_callB (call_repr_data hg hr.units) (by rfl) B.repr (by decide +kernel) (pa_cons (pe_lst (pa_cons (pe_cl C_meet_table hg hr (by decide) rfl (pa_cons (pv 1) pa_nil)) (pa_cons (pe_clk C_meet_table_many hg hr (by decide) rfl (pk_cons (pv 1) pk_nil) kw_len1) pa_nil))) pa_nil)) (pe_callB (call_repr_data hg hr.units) (by rfl) B.repr (by decide +kernel) (pa_cons (pe_lst (pa_cons (pv 2) (pa_cons (pv 2) pa_nil))) pa_nil)) (nomark _))
      (pss_one (ps_ret pe_bl))
      pss_nil)
    (pss_cons (ps_setLc (i := 3) (own := [("size", 4)]) rfl sc__law_right.nd rfl rfl (sw_true rfl rfl rfl (by decide +kernel)) (pi_range2 rfl B.range (pa_cons pe_int (pa_cons pe_int pa_nil))) (blkOk_by (own := [("size", 4)]) (N := ["pot", "many", "due", "sums", "size", "near", "far", "number", "at", "row"]) (sc := defScope s__law_right) (by decide +kernel)) (fun _ _ _ _ _ => pg_name (i := 4) sc__law_right.nd rfl (.inl rfl) (.inr rfl)) (fun _ _ _ _ _ => pts_nil) (fun _ _ _ _ _ => (pe_callB (kCall rSum (K := K) rfl (cr_sum rfl)) (by rfl) B.sum (by decide +kernel) (pa_cons (pe_lc (own := [("number", 7)]) rfl sc__law_right.nd (pi_range2 rfl B.range (pa_cons pe_int (pa_cons (pe_op op_add (pv 4) pe_int) pa_nil))) (blkOk_in (own := [("number", 7)]) (N := ["pot", "many", "due", "sums", "size", "near", "far", "number", "at", "row"]) (sc := defScope s__law_right) rfl (by decide +kernel)) (fun _ _ _ _ _ => pg_name (i := 7) sc__law_right.nd rfl (.inl rfl) (.inr rfl)) (fun _ _ _ _ _ => pts_nil) (fun _ _ _ _ _ => (pe_cl C__law_sign hg hr (by decide) rfl (pa_cons (pv 7) pa_nil)))) pa_nil))))
    (pss_cons (ps_if (PW.pt (pw_or (pt_cmpR op_ne (pe_callB (call_repr_data hg hr.units) (by rfl) B.repr (by decide +kernel) (pa_cons (pe_lst (pa_cons (pe_cl C_meet_worth hg hr (by decide) rfl (pa_cons (pv 1) pa_nil)) (pa_cons (pe_clk C_meet_worth_many hg hr (by decide) rfl (pk_cons (pv 1) pk_nil) kw_len1) pa_nil))) pa_nil)) (pe_callB (call_repr_data hg hr.units) (by rfl) B.repr (by decide +kernel) (pa_cons (pe_op op_rep (pe_lst (pa_cons (pe_ix ix_list (pv 3) (pe_op op_sub (pv 1) pe_int) (fun _ _ => rfl)) pa_nil)) pe_int) pa_nil)) (nomark _)) (pw_or1 (pt_cmpR (op_neD hr.units) (pe_slice sl_list (pv 3) po_none (po_some (pv 1))) (pe_cl C_summed hg hr (by decide) rfl (pa_cons (pe_cl C_sign_row hg hr (by decide) rfl (pa_cons (pv 1) pa_nil)) pa_nil)) (nomark _)))))
      (pss_one (ps_ret pe_bl))
      pss_nil)
    (pss_cons (ps_set (i := 4) sc__law_right.nd rfl (.inl rfl) (pe_op op_add pe_int (pe_cl C__law_draw hg hr (by decide) rfl (pa_cons (pv 0) (pa_cons pe_int pa_nil)))))
    (pss_cons (ps_if (PW.pt (pw_or (pt_cmpR op_ne (pe_cl C_table_worth hg hr (by decide) rfl (pa_cons (pe_cl C_meet_table hg hr (by decide) rfl (pa_cons (pv 4) pa_nil)) pa_nil)) (pe_ix ix_list (pv 3) (pe_op op_sub (pv 4) pe_int) (fun _ _ => rfl)) (nomark _)) (pw_or1 (pt_cmpR op_ne (pe_cl C__law_worth hg hr (by decide) rfl (pa_cons (pe_cl C_meet_table hg hr (by decide) rfl (pa_cons (pv 4) pa_nil)) pa_nil)) (pe_ix ix_list (pv 3) (pe_op op_sub (pv 4) pe_int) (fun _ _ => rfl)) (nomark _)))))
      (pss_one (ps_ret pe_bl))
      pss_nil)
    (pss_cons (ps_if (PW.pt (pw_and (pt_cmpR op_gt (pv 1) pe_int (nomark _)) (pw_and1 (pt_cmpR op_ne (pe_op op_sub (pe_cl C_meet_worth hg hr (by decide) rfl (pa_cons (pv 1) pa_nil)) (pe_cl C_meet_worth hg hr (by decide) rfl (pa_cons (pe_op op_sub (pv 1) pe_int) pa_nil))) (pe_cl C__law_sign hg hr (by decide) rfl (pa_cons (pv 1) pa_nil)) (nomark _)))))
      (pss_one (ps_ret pe_bl))
      pss_nil)
    (pss_cons (ps_if (pt_cmpR (op_neD hr.units) (pe_lc (own := [("at", 8)]) rfl sc__law_right.nd (pi_range2 rfl B.range (pa_cons pe_int (pa_cons (pv 1) pa_nil))) (blkOk_by (own := [("at", 8)]) (N := ["pot", "many", "due", "sums", "size", "near", "far", "number", "at", "row"]) (sc := defScope s__law_right) (by decide +kernel)) (fun _ _ _ _ _ => pg_name (i := 8) sc__law_right.nd rfl (.inr rfl) (.inl rfl)) (fun _ _ _ _ _ => pts_nil) (fun _ _ _ _ _ => (pe_callB (kCall rSum (K := K) rfl (cr_sum rfl)) (by rfl) B.sum (by decide +kernel) (pa_cons (pe_lc (own := [("row", 9)]) rfl sc__law_right.nd ((kPi (fun K => iList K _) (K := K) rfl (pi_list (pv 2)))) (blkOk_in (own := [("row", 9)]) (N := ["pot", "many", "due", "sums", "size", "near", "far", "number", "at", "row"]) (sc := defScope s__law_right) rfl (by decide +kernel)) (fun _ _ _ _ _ => pg_name (i := 9) sc__law_right.nd rfl (.inl rfl) (.inr rfl)) (fun _ _ _ _ _ => pts_nil) (fun _ _ _ _ _ => (pe_ix (kIx rIxL (K := K) rfl ix_list) (pv 9) (pv 8) (fun _ _ => rfl)))) pa_nil)))) (pe_lc (own := [("at", 8)]) rfl sc__law_right.nd (pi_range2 rfl B.range (pa_cons pe_int (pa_cons (pv 1) pa_nil))) (blkOk_by (own := [("at", 8)]) (N := ["pot", "many", "due", "sums", "size", "near", "far", "number", "at", "row"]) (sc := defScope s__law_right) (by decide +kernel)) (fun _ _ _ _ _ => pg_name (i := 8) sc__law_right.nd rfl (.inl rfl) (.inr rfl)) (fun _ _ _ _ _ => pts_nil) (fun _ _ _ _ _ => (pe_callB (kCall rLenS (K := K) rfl call_len_seq) (by rfl) B.len (by decide +kernel) (pa_cons (pe_cl C__law_divisors hg hr (by decide) rfl (pa_cons (pe_op op_add (pv 8) pe_int) pa_nil)) pa_nil)))) (nomark _))
      (pss_one (ps_ret pe_bl))
      pss_nil)
    (pss_cons (ps_expr (pe_bm PySem.F.plainAttrs_list PySem.F.slot_list_append PySem.F.type_list_append mt_append (pe_ix ix_list (pe_cl C_meet_table hg hr (by decide) rfl (pa_cons (pv 1) pa_nil)) pe_int (fun _ _ => rfl)) (pa_cons pe_non pa_nil)))
    (pss_one (ps_ret (pe_and (pe_cmpR (op_eqD hr.units) (pe_cl C_meet_table hg hr (by decide) rfl (pa_cons (pv 1) pa_nil)) (pv 2) (nomark _)) (pe_one (pe_cmpR (op_eqD hr.units) (pe_lc (own := [("at", 8)]) rfl sc__law_right.nd ((pi_tup (pe_tup (pa_cons pe_int (pa_cons pe_int (pa_cons pe_int (pa_cons pe_int (pa_cons pe_int (pa_cons pe_int (pa_cons pe_int pa_nil)))))))))) (blkOk_by (own := [("at", 8)]) (N := ["pot", "many", "due", "sums", "size", "near", "far", "number", "at", "row"]) (sc := defScope s__law_right) (by decide +kernel)) (fun _ _ _ _ _ => pg_name (i := 8) sc__law_right.nd rfl (.inl rfl) (.inr rfl)) (fun _ _ _ _ _ => pts_nil) (fun _ _ _ _ _ => (pe_cl C_meet_worth hg hr (by decide) rfl (pa_cons (pv 8) pa_nil)))) (pe_lst (pa_cons pe_int (pa_cons pe_int (pa_cons (pe_un un_neg pe_int) (pa_cons (pe_un un_neg pe_int) (pa_cons (pe_un un_neg pe_int) (pa_cons pe_int (pa_cons pe_int pa_nil)))))))) (nomark _)))))))))))))))), ?_⟩
  obtain ⟨_, rfl, a, rfl, hp, q⟩ := h
  refine ⟨_, rfl, _, _, rfl, a, 40, rfl, rfl, hp, by decide, by decide, fun d H1 d1 d2 g1 p1 => ?_⟩
  obtain ⟨d, rfl⟩ := Int.eq_ofNat_of_zero_le d1
  refine ⟨_, _, rfl, rfl, ?_⟩
  dsimp only []
  rw [show (1 : Int) + (d : Int) = ((d + 1 : Nat) : Int) by omega]
  obtain ⟨n, hn, n1, n2⟩ : ∃ n : Nat, d + 1 = n ∧ 1 ≤ n ∧ n ≤ 40 := ⟨d + 1, rfl, by omega, by omega⟩
  rw [hn]
  clear hn d1 d2
  -- due
  refine ⟨_, rfl, _, _, rfl, rfl, _, _, rfl, ⟨by omega, by omega, by omega, by omega⟩, fun Du hDu => lcM_range (lo := 1) (fun i => .list (((List.range n).map fun j => mm i j).map PyData.int)) hDu (by omega) ?_ ?_⟩
  · intro i H2 R S hi s2 hR
    rw [show (1 : Int) + (i : Int) = ((i + 1 : Nat) : Int) by omega]
    refine ⟨rfl, _, rfl, _, _, rfl, rfl, _, _, rfl, ⟨by omega, by omega, by omega, by omega⟩, fun D3 hD3 => lcM_range (lo := 1) (fun j => .int (mm i j)) hD3 (by omega) ?_ ?_⟩
    · intro j H3 R' S' hj s3 hR'
      rw [show (1 : Int) + (j : Int) = ((j + 1 : Nat) : Int) by omega]
      refine ⟨rfl, _, rfl, rfl, _, rfl, ite2 (fun h1 => .inr ⟨_, rfl, ?_⟩) (fun h1 => ⟨_, rfl, _, rfl, _, _, rfl, rfl, (by show (0 : Int) < _; omega), .inl ⟨_, rfl, rfl, .inr ⟨_, rfl, ?_⟩⟩⟩)⟩
      · have hj0 : j = 0 := by
          have := V.int.inj (of_decide_eq_true h1)
          omega
        refine hR' _ _ (Same.refl _) ?_
        have e : mm i j = 1 := by unfold mm; rw [if_pos (.inl hj0)]
        rw [e]
        exact .int _
      · have hj0 : ¬ j = 0 := fun z => h1 (decide_eq_true (by rw [z]; rfl))
        refine hR' _ _ (Same.refl _) ?_
        have e : mm i j = if decide (V.int (((j + 1 : Nat) : Int) % ((i + 1 : Nat) : Int)) = V.int 0) = true then 1 else 0 := by
          rw [mm_int]
          unfold mm
          by_cases c : (j + 1) % (i + 1) = 0
          · rw [if_pos (.inr c), if_pos c]
          · rw [if_neg (fun z => z.elim hj0 c), if_neg c]
        rw [e]
        exact .int _
    · intro H3 s3 r3
      rw [show ((n : Int) + 1 - 1).toNat = n by omega] at r3
      refine hR _ _ s3 ?_
      rw [List.map_map]
      exact r3
  intro H2 s2 r2
  rw [show ((n : Int) + 1 - 1).toNat = n by omega, ← meetsL_D] at r2
  have p2 := p1.same s2
  have dd : Rp (· ≠ a) H2 (.ref Du) (tabD (meetsL n)) := by
    obtain ⟨p, r, e, _⟩ := p1
    exact Rp.mono (fun b hb => fun z => by rw [z] at hb; rw [show H1 a = none from hb] at e; cases e) (fun _ _ _ e => e) _ _ r2
  have g2 := g1.trans (Grow.of s2)
  clear hDu r2 s2 g1 p1
  dsimp only [gName, tSeq]
  -- repr of the tables
  refine if_skip (fun H' => PotAt H' a ∧ Rp (· ≠ a) H' (.ref Du) (tabD (meetsL n)) ∧ Grow a H H') (fun Q' hq => ?_) (fun H3 z3 => ?_)
  · refine ⟨_, rfl, _, rfl, n, rfl, n1, n2, fun u1 H3 s3 r3 => ⟨_, rfl, _, rfl, n, rfl, n1, n2, fun u2 H4 s4 r4 => ⟨sz2, fun u hu => ?_⟩⟩⟩
    have gd := good_meets2 n2
    have su := (Same.refl H4).new (o := .lst [.ref u1, .ref u2]) hu
    refine ⟨u, _, rfl, .lst (SqL.of upd_same) (.cons ((r3.same s4).same su).dp (.cons (r4.same su).dp .nil)), gd.showable, gd.noDict, gd.deep, gd.fits, ?_⟩
    have s5 := (s3.trans s4).trans su
    refine ⟨_, rfl, _, rfl, sz2, fun w hw => ?_⟩
    have sw := (Same.refl (upd H4 u (.lst [.ref u1, .ref u2]))).new (o := .lst [.ref Du, .ref Du]) hw
    have s6 := s5.trans sw
    refine ⟨w, _, rfl, .lst (SqL.of upd_same) (.cons (dd.same s6).dp (.cons (dd.same s6).dp .nil)), gd.showable, gd.noDict, gd.deep, gd.fits, ?_⟩
    exact ⟨rfl, _, rfl, ne_same rfl (hq _ ⟨p2.same s6, dd.same s6, g2.trans (Grow.of s6)⟩)⟩
  obtain ⟨p3, d3, g3⟩ := z3
  clear p2 dd g2
  dsimp only [tNext, tSeq]
  -- sums
  refine ⟨_, _, rfl, ⟨by decide, by decide, by decide, by decide⟩, fun Sm hSm => lcM_range (lo := 1) (fun i => .int (mertL.getD i 0)) hSm (by decide) ?_ ?_⟩
  · intro i H4 R S hi s4 hR
    have hi : i < 40 := hi
    rw [show (1 : Int) + (i : Int) = ((i + 1 : Nat) : Int) by omega]
    refine ⟨rfl, _, rfl, _, _, rfl, rfl, _, _, rfl, ⟨by omega, by omega, by omega, by omega⟩, fun D3 hD3 => lcM_range (lo := 1) (fun j => .int (mu (j + 1))) hD3 (by omega) ?_ ?_⟩
    · intro j H5 R' S' hj s5 hR'
      rw [show (1 : Int) + (j : Int) = ((j + 1 : Nat) : Int) by omega]
      exact ⟨rfl, _, rfl, _, rfl, j + 1, rfl, by omega, by omega, fun H6 s6 => hR' _ _ s6 (.int _)⟩
    · intro H5 s5 r5
      rw [show (((i + 1 : Nat) : Int) + 1 - 1).toNat = i + 1 by omega, map_in (fun j => mu (j + 1))] at r5
      refine ⟨D3, _, rfl, SqL.of r5.ints, ?_⟩
      rw [sum_range, mert_sum i hi]
      exact hR _ _ s5 (.int _)
  intro H4 s4 r4
  have r4 : Rp (New H3) H4 (.ref Sm) (.list ((List.range 40).map fun i => PyData.int (mertL.getD i 0))) := r4
  rw [map_in, ← mert_all] at r4
  have lv : L86 H a Du Sm n H4 := ⟨p3.same s4, d3.same s4, p3.ne hSm, r4.ints, g3.trans (Grow.of s4)⟩
  clear r4 s4 hSm p3 d3 g3
  dsimp only [gName, tSeq]
  have mn := mert_small n (by omega)
  have en : (n : Int) - 1 = ((n - 1 : Nat) : Int) := by omega
  have at_n : ∀ {H : Hp} {a Du Sm : Addr} {H0 : Hp}, True := True.intro
  refine if_skip (L86 H a Du Sm n) (fun Q' hq => ?_) (fun H5 lv5 => ?_)
  · have gd : Good (.list ([mert n, mert n].map PyData.int)) := good_ints (c := 14) (by intro x hx; simp at hx; omega) (by decide) (by show (14 + 8) * 3 ≤ 16777216; decide)
    refine ⟨_, rfl, _, rfl, n, rfl, n1, n2, fun H5 s5 => ⟨_, rfl, _, rfl, n, rfl, n1, n2, fun H6 s6 => ⟨sz2, fun u hu => ⟨u, _, rfl, dp_ints (ns := [mert n, mert n]) (SqL.of upd_same), gd.showable, gd.noDict, gd.deep, gd.fits, ?_⟩⟩⟩⟩
    have l6 := ((lv.same s5).same s6).same ((Same.refl _).new (o := .lst [.int (mert n), .int (mert n)]) hu)
    refine ⟨_, rfl, _, rfl, _, _, rfl, rfl, Sm, _, _, _, rfl, rfl, SqL.of l6.sums, (by rw [en]; exact mert_at (by omega)), sz1, fun u2 hu2 => ⟨u2, 2, _, rfl, rfl, upd_same, by decide, by decide, small_sz (by show 1 * 2 ≤ _; decide), fun u3 hu3 => ?_⟩⟩
    rw [show n - 1 + 1 = n by omega]
    have l7 := (l6.same ((Same.refl _).new (o := .lst [.int (mert (n - 1 + 1))]) hu2)).same ((Same.refl _).new (o := .lst (List.replicate (Int.toNat 2) [V.int (mert (n - 1 + 1))]).flatten) hu3)
    rw [show n - 1 + 1 = n by omega] at l7
    refine ⟨u3, _, rfl, dp_ints (ns := [mert n, mert n]) (SqL.of upd_same), gd.showable, gd.noDict, gd.deep, gd.fits, rfl, _, rfl, ite2 (fun z => absurd z (not_self rfl)) (fun _ => ?_)⟩
    generalize (upd _ u3 (.lst (List.replicate (Int.toNat 2) [V.int (mert n)]).flatten)) = H7 at l7
    refine ⟨_, rfl, _, rfl, (n : Int), rfl, Sm, _, rfl, SqL.of l7.sums, fun u4 hu4 => ?_⟩
    rw [cut_to, ← List.map_take]
    have l8 := l7.same ((Same.refl _).new (o := .lst ((mertL.take n).map V.int)) hu4)
    have e8 : (upd H7 u4 (.lst ((mertL.take n).map V.int))) u4 = _ := upd_same
    generalize upd H7 u4 (.lst ((mertL.take n).map V.int)) = H8 at l8 e8
    have ml : (muI n).length = n := by unfold muI; rw [List.length_map, List.length_range]
    refine ⟨_, rfl, _, rfl, n, rfl, n1, by omega, fun u5 H9 s9 hu5 e9 => ⟨_, rfl, u5, muI n, rfl, SqL.of e9, by omega, by omega, fun x hx => ?_, fun u6 H10 s10 hu6 e10 => ?_⟩⟩
    · unfold muI at hx
      obtain ⟨i, _, rfl⟩ := List.mem_map.mp hx
      rcases mu_small (i + 1) with z | z | z <;> rw [z] <;> decide
    · rw [psum_mu n2] at e10
      have gt : Good (.list ((mertL.take n).map PyData.int)) := good_ints (c := 14) (fun x hx => mertL_small x (List.mem_of_mem_take hx)) (by decide) (by rw [List.length_take]; have := mert_len; omega)
      exact gt.neD (dp_ints (SqL.of (s10 _ _ (s9 _ _ e8)))) (dp_ints (SqL.of e10)) ⟨_, rfl, hq _ ((l8.same s9).same s10)⟩
  clear lv
  dsimp only [tNext, tSeq]
  -- size
  refine ⟨_, rfl, _, _, rfl, a, 12, rfl, rfl, lv5.pot, by decide, by decide, fun d H6 d1 d2 g6 p6 => ?_⟩
  obtain ⟨d, rfl⟩ := Int.eq_ofNat_of_zero_le d1
  have lv6 := lv5.grow g6 p6
  refine ⟨_, _, rfl, rfl, ?_⟩
  dsimp only []
  rw [show (1 : Int) + (d : Int) = ((d + 1 : Nat) : Int) by omega]
  obtain ⟨z, hz, z1, z2⟩ : ∃ n : Nat, d + 1 = n ∧ 1 ≤ n ∧ n ≤ 12 := ⟨d + 1, rfl, by omega, by omega⟩
  rw [hz]
  clear hz d1 d2 g6 p6 lv5
  dsimp only [gName]
  have ez : (z : Int) - 1 = ((z - 1 : Nat) : Int) := by omega
  have az : atI (mertL.map V.int) ((z : Int) - 1) = some (.int (mert z)) := by
    rw [ez, mert_at (by omega), show z - 1 + 1 = z by omega]
  have bz : ∀ i j, i < z → j < z → (mm i j).natAbs < 1000000000000000000000000000000 := fun i j _ _ => Nat.lt_of_lt_of_le (mm_small i j) (by decide)
  refine if_skip (L86 H a Du Sm n) (fun Q' hq => ?_) (fun H7 lv7 => ?_)
  · refine ⟨_, rfl, _, rfl, z, rfl, z1, by omega, fun u1 H7 s7 r7 => ?_⟩
    obtain ⟨ad, hT⟩ := TabM.of_rp (K := K) (M := mm) r7
    refine ⟨_, rfl, u1, z, ad, mm, mert z, rfl, hT, z1, z2, bz, meets_wo z1 (by omega), fun H8 s8 => ?_⟩
    have l8 := (lv6.same s7).same s8
    refine ⟨_, rfl, _, rfl, _, _, rfl, rfl, Sm, _, _, _, rfl, rfl, SqL.of l8.sums, az, rfl, _, rfl, ite2 (fun y => absurd y (not_self rfl)) (fun _ => ?_)⟩
    refine ⟨_, rfl, _, rfl, z, rfl, z1, by omega, fun u2 H9 s9 r9 => ?_⟩
    obtain ⟨ad2, hT2⟩ := TabM.of_rp (K := K) (M := mm) r9
    refine ⟨_, rfl, u2, z, ad2, mm, mert z, rfl, hT2, by omega, meets_lo z1 z2, fun H10 s10 => ?_⟩
    have l10 := (l8.same s9).same s10
    exact ⟨_, rfl, _, rfl, _, _, rfl, rfl, Sm, _, _, _, rfl, rfl, SqL.of l10.sums, az, rfl, _, rfl, ne_same rfl (hq _ l10)⟩
  clear lv6 az bz ez
  dsimp only [tNext, tSeq]
  -- one more
  refine if_skip (L86 H a Du Sm n) (fun Q' hq => ?_) (fun H8 lv8 => ?_)
  · refine ⟨_, rfl, _, _, rfl, rfl, _, rfl, ite2 (fun hc => ?_) (fun hc => hq _ lv7)⟩
    have hn2 : 2 ≤ n := by
      have : (1 : Int) < (n : Int) := of_decide_eq_true hc
      omega
    refine ⟨_, rfl, _, rfl, n, rfl, n1, n2, fun H8 s8 => ⟨_, rfl, _, _, rfl, rfl, _, rfl, n - 1, congrArg V.int en, by omega, by omega, fun H9 s9 => ⟨_, _, rfl, rfl, _, rfl, _, rfl, n, rfl, n1, by omega, fun H10 s10 => ⟨rfl, _, rfl, ?_⟩⟩⟩⟩
    exact ne_same (congrArg V.int (mert_mu hn2 n2)) (hq _ (((lv7.same s8).same s9).same s10))
  clear lv7
  dsimp only [tNext, tSeq]
  -- columns
  have gcol : Good (.list (((List.range (n - 1)).map fun i => ((divsL (i + 2)).length : Int)).map PyData.int)) := good_ints (c := 14) (fun x hx => by
    obtain ⟨i, hi, rfl⟩ := List.mem_map.mp hx
    have hi := List.mem_range.mp hi
    have : (divsL (i + 2)).length ≤ i + 2 + 1 := by
      unfold divsL
      have := List.length_filter_le (fun d => decide (0 < d ∧ d ∣ i + 2)) (List.range (i + 2 + 1))
      rwa [List.length_range] at this
    omega) (by decide) (by rw [List.length_map, List.length_range]; omega)
  refine if_skip (L86 H a Du Sm n) (fun Q' hq => ?_) (fun H9 lv9 => ?_)
  · refine ⟨_, rfl, _, _, rfl, ⟨by omega, by omega, by omega, by omega⟩, fun C1 hC1 => lcM_range (lo := 1) (fun i => .int ((divsL (i + 2)).length : Int)) hC1 (by omega) ?_ ?_⟩
    · intro i H9 R S hi s9 hR
      have hi : i + 1 < n := by omega
      rw [show (1 : Int) + (i : Int) = ((i + 1 : Nat) : Int) by omega]
      obtain ⟨ad, hT⟩ := TabM.of_rp (K := K) (n := n) (M := mm) (lv8.same s9).due
      refine ⟨rfl, _, rfl, Du, rfl, ⟨_, hT.top⟩, fun C2 hC2 => lcM_list (K := K) (c := fun k : Nat => V.ref (ad k)) (src := List.range n) (fun k => .int (mm k (i + 1))) hC2 hT.top (by rw [List.length_range]; omega) ?_ ?_⟩
      · intro j k H10 R' S' hk s10 hR'
        have hk : k < n := List.mem_range.mp (List.mem_of_getElem? hk)
        exact ⟨rfl, _, rfl, _, rfl, ad k, _, _, _, rfl, rfl, SqL.same s10 (hT.row k hk), map_range_at hi, hR' _ _ (Same.refl _) (.int _)⟩
      · intro H10 s10 r10
        rw [map_in (fun k => mm k (i + 1))] at r10
        refine ⟨C2, _, rfl, SqL.of r10.ints, ?_⟩
        rw [meets_cols n (by omega) (i + 1) hi (by omega)]
        exact hR _ _ s10 (.int _)
    · intro H9 s9 r9
      rw [show ((n : Int) - 1).toNat = n - 1 by omega, map_in (fun i => ((divsL (i + 2)).length : Int))] at r9
      refine ⟨_, rfl, _, _, rfl, ⟨by omega, by omega, by omega, by omega⟩, fun C3 hC3 => lcM_range (lo := 1) (fun i => .int ((divsL (i + 2)).length : Int)) hC3 (by omega) ?_ ?_⟩
      · intro i H10 R S hi s10 hR
        rw [show (1 : Int) + (i : Int) = ((i + 1 : Nat) : Int) by omega]
        refine ⟨rfl, _, rfl, _, _, rfl, rfl, _, rfl, i + 2, congrArg V.int (by omega), by omega, by omega, fun u H11 s11 hu e11 => ?_⟩
        refine ⟨u, _, rfl, .inl (SqL.of e11), ?_⟩
        rw [nsV_len]
        exact hR _ _ s11 (.int _)
      · intro H10 s10 r10
        rw [show ((n : Int) - 1).toNat = n - 1 by omega, map_in (fun i => ((divsL (i + 2)).length : Int))] at r10
        exact gcol.neD (r9.same s10).dp r10.dp ⟨_, rfl, hq _ ((lv8.same s9).same s10)⟩
  clear lv8 gcol
  dsimp only [tNext, tSeq]
  -- a new table each time
  refine ⟨_, rfl, _, rfl, n, rfl, n1, n2, fun u1 H10 s10 r10 => ?_⟩
  obtain ⟨nu, vs, e10, ra10⟩ := r10.node
  obtain ⟨v0, hv0, rv0⟩ := ra10.get (i := 0) (d := .list (((List.range n).map fun j => mm 0 j).map PyData.int)) (by
    unfold meetsL
    rw [List.map_map, List.getElem?_map, List.getElem?_range (by omega)]
    rfl)
  obtain ⟨b, rfl, nb, bs, eb, rb⟩ := rv0.isRef
  have bl : bs.length = n := by rw [rb.length, List.length_map, List.length_map, List.length_range]
  refine ⟨u1, _, _, _, rfl, rfl, SqL.of e10, atI_nat (j := 0) hv0, .inl ⟨rfl, _, SqL.of eb⟩, b, _, _, rfl, rfl, eb, small_lt (by omega), ?_⟩
  have s11 : Same H9 (upd H10 b (.lst (bs ++ [.non]))) := s10.mut nb
  have lv11 := lv9.same s11
  generalize upd H10 b (.lst (bs ++ [.non])) = H11 at s11 lv11
  clear lv9 s10 e10 ra10 r10 eb rb rv0 hv0 s11
  -- the end
  refine ⟨_, rfl, _, rfl, n, rfl, n1, n2, fun u2 H12 s12 r12 => ⟨_, rfl, ?_⟩⟩
  have l12 := lv11.same s12
  refine (good_meets n2).eqD r12.dp l12.due.dp ⟨_, rfl, iteT ?_⟩
  have gd : Good (.list (([1, 0, -2, -3, -4, 0, 0] : List Int).map PyData.int)) := good_ints (c := 14) (by decide) (by decide) (by show (14 + 8) * 8 ≤ 16777216; decide)
  refine ⟨(by show 7 ≤ sizeLine; decide), fun tp htp => ⟨tp, rfl, ⟨_, SqT.of upd_same⟩, fun D3 hD3 => lcM_tup (K := K) (c := fun k : Nat => V.int (k : Int)) (src := [1, 2, 5, 13, 31, 39, 40]) (fun k => .int (mert k)) hD3 (SqT.of upd_same) (by decide) ?_ ?_⟩⟩
  · intro i k H13 R S hk s13 hR
    have hk : 1 ≤ k ∧ k ≤ 40 := (show ∀ k ∈ [1, 2, 5, 13, 31, 39, 40], 1 ≤ k ∧ k ≤ 40 by decide) k (List.mem_of_getElem? hk)
    exact ⟨rfl, _, rfl, _, rfl, k, rfl, hk.1, hk.2, fun H14 s14 => hR _ _ s14 (.int _)⟩
  · intro H13 s13 r13
    rw [map_in, mert_some] at r13
    refine ⟨_, rfl, _, rfl, _, rfl, (by show 7 ≤ sizeLine; decide), fun w hw => ?_⟩
    have sw := (Same.refl H13).new (o := .lst (([1, 0, -2, -3, -4, 0, 0] : List Int).map V.int)) hw
    exact gd.eqD (r13.same sw).dp (dp_ints (ns := [1, 0, -2, -3, -4, 0, 0]) (SqL.of upd_same)) (q _ ((((l12.same ((Same.refl H12).new htp)).same s13).same sw).gr))

end
end M
namespace M
open PySem PySem.Spec PyProof.Rows L2 G
section
variable {P : Program} {w : World} {K : PySem.W.Frag} {mg : Str → Option Value} {base : Heap}
/-! the law: one pot -/
def sp_law (K : PySem.W.Frag) : Sp := spec1 fun x H Q _ => ∃ (l : Addr) (ns : List Int), x = .ref l ∧ SqL K H l (ns.map V.int) ∧ ns.length ≤ 63 ∧ ∀ H', Q (.bl true) H'
theorem ok_law {af : Addr} {fd : FuncData} (F : FunD K "law" "law" (defArgs s_law) (defBody s_law) (defScope s_law) [] [] af fd) (B : Bt mg) (C__law_right : Cl P w K mg base 6 "_law_right" 1 [] (sp__law_right K)) (C__law_pot : Cl P w K mg base 1 "_law_pot" 2 [] (sp__law_pot K)) : FnG P w K mg base CX0 7 af fd ["script"] (sp_law K) := by
  refine okG F sc_law ar1 fun cdv A outer s H vs Q E hg hr h => ?_
  refine ⟨_, PSs.nox (pss_one (ps_ret (pe_cl C__law_right hg hr (by decide) rfl (pa_cons (pe_cl C__law_pot hg hr (by decide) rfl (pa_cons (pv 0) (pa_cons pe_int pa_nil))) pa_nil)))), ?_⟩
  obtain ⟨_, rfl, l, ns, rfl, hS, hn, q⟩ := h
  exact ⟨_, rfl, _, _, rfl, l, ns, 0, rfl, rfl, hS, by decide, fun a H3 s3 ha hp => ⟨_, rfl, a, rfl, hp, fun H4 g4 => q _⟩⟩
theorem law_ends (H : Hp) (a : Addr) (ns : List Int) (hl : ns.length ≤ 63) (hS : SqL K H a (ns.map V.int)) : sp_law K [.ref a] H (fun v _ => v = .bl true) E0 :=
  ⟨_, rfl, a, ns, rfl, hS, hl, fun _ => rfl⟩

end
end M
namespace M
open PySem PySem.Spec PyProof.Rows L2 G
def d_is_integer : He.DefD := ⟨("is_integer", none), "is_integer", "is_integer", defArgs s_is_integer, defBody s_is_integer, defScope s_is_integer, [], []⟩
def d_is_count : He.DefD := ⟨("is_count", none), "is_count", "is_count", defArgs s_is_count, defBody s_is_count, defScope s_is_count, [], []⟩
def d_is_list : He.DefD := ⟨("is_list", none), "is_list", "is_list", defArgs s_is_list, defBody s_is_list, defScope s_is_list, [], []⟩
def d_want_many : He.DefD := ⟨("want_many", none), "want_many", "want_many", defArgs s_want_many, defBody s_want_many, defScope s_want_many, [.int 0], []⟩
def d_powers_of : He.DefD := ⟨("powers_of", none), "powers_of", "powers_of", defArgs s_powers_of, defBody s_powers_of, defScope s_powers_of, [], []⟩
def d_is_row_value : He.DefD := ⟨("is_row_value", none), "is_row_value", "is_row_value", defArgs s_is_row_value, defBody s_is_row_value, defScope s_is_row_value, [], []⟩
def d_want_row : He.DefD := ⟨("want_row", none), "want_row", "want_row", defArgs s_want_row, defBody s_want_row, defScope s_want_row, [], []⟩
def d_want_some : He.DefD := ⟨("want_some", none), "want_some", "want_some", defArgs s_want_some, defBody s_want_some, defScope s_want_some, [], []⟩
def d_sign_of : He.DefD := ⟨("sign_of", none), "sign_of", "sign_of", defArgs s_sign_of, defBody s_sign_of, defScope s_sign_of, [], []⟩
def d_signs_of : He.DefD := ⟨("signs_of", none), "signs_of", "signs_of", defArgs s_signs_of, defBody s_signs_of, defScope s_signs_of, [], []⟩
def d_sign_row : He.DefD := ⟨("sign_row", none), "sign_row", "sign_row", defArgs s_sign_row, defBody s_sign_row, defScope s_sign_row, [], []⟩
def d_is_table_value : He.DefD := ⟨("is_table_value", none), "is_table_value", "is_table_value", defArgs s_is_table_value, defBody s_is_table_value, defScope s_is_table_value, [], []⟩
def d_want_table : He.DefD := ⟨("want_table", none), "want_table", "want_table", defArgs s_want_table, defBody s_want_table, defScope s_want_table, [], []⟩
def d_worth_of : He.DefD := ⟨("worth_of", none), "worth_of", "worth_of", defArgs s_worth_of, defBody s_worth_of, defScope s_worth_of, [], []⟩
def d_meets_of : He.DefD := ⟨("meets_of", none), "meets_of", "meets_of", defArgs s_meets_of, defBody s_meets_of, defScope s_meets_of, [], []⟩
def d_table_worth : He.DefD := ⟨("table_worth", none), "table_worth", "table_worth", defArgs s_table_worth, defBody s_table_worth, defScope s_table_worth, [], []⟩
def d_meet_table : He.DefD := ⟨("meet_table", none), "meet_table", "meet_table", defArgs s_meet_table, defBody s_meet_table, defScope s_meet_table, [], []⟩
def d_meet_worth : He.DefD := ⟨("meet_worth", none), "meet_worth", "meet_worth", defArgs s_meet_worth, defBody s_meet_worth, defScope s_meet_worth, [], []⟩
def d_summed : He.DefD := ⟨("summed", none), "summed", "summed", defArgs s_summed, defBody s_summed, defScope s_summed, [], []⟩
def d__law_pot : He.DefD := ⟨("_law_pot", none), "_law_pot", "_law_pot", defArgs s__law_pot, defBody s__law_pot, defScope s__law_pot, [], []⟩
def d__law_draw : He.DefD := ⟨("_law_draw", none), "_law_draw", "_law_draw", defArgs s__law_draw, defBody s__law_draw, defScope s__law_draw, [], []⟩
def d__law_pick : He.DefD := ⟨("_law_pick", none), "_law_pick", "_law_pick", defArgs s__law_pick, defBody s__law_pick, defScope s__law_pick, [], []⟩
def d__law_share : He.DefD := ⟨("_law_share", none), "_law_share", "_law_share", defArgs s__law_share, defBody s__law_share, defScope s__law_share, [], []⟩
def d__law_divisors : He.DefD := ⟨("_law_divisors", none), "_law_divisors", "_law_divisors", defArgs s__law_divisors, defBody s__law_divisors, defScope s__law_divisors, [], []⟩
def d__law_primes : He.DefD := ⟨("_law_primes", none), "_law_primes", "_law_primes", defArgs s__law_primes, defBody s__law_primes, defScope s__law_primes, [], []⟩
def d__law_free : He.DefD := ⟨("_law_free", none), "_law_free", "_law_free", defArgs s__law_free, defBody s__law_free, defScope s__law_free, [], []⟩
def d__law_sign : He.DefD := ⟨("_law_sign", none), "_law_sign", "_law_sign", defArgs s__law_sign, defBody s__law_sign, defScope s__law_sign, [], []⟩
def d__law_worth : He.DefD := ⟨("_law_worth", none), "_law_worth", "_law_worth", defArgs s__law_worth, defBody s__law_worth, defScope s__law_worth, [], []⟩
def d__law_lot : He.DefD := ⟨("_law_lot", none), "_law_lot", "_law_lot", defArgs s__law_lot, defBody s__law_lot, defScope s__law_lot, [], []⟩
def d__law_is_closed : He.DefD := ⟨("_law_is_closed", none), "_law_is_closed", "_law_is_closed", defArgs s__law_is_closed, defBody s__law_is_closed, defScope s__law_is_closed, [], []⟩
def d__law_product : He.DefD := ⟨("_law_product", none), "_law_product", "_law_product", defArgs s__law_product, defBody s__law_product, defScope s__law_product, [], []⟩
def d__law_right : He.DefD := ⟨("_law_right", none), "_law_right", "_law_right", defArgs s__law_right, defBody s__law_right, defScope s__law_right, [], []⟩
def d_law : He.DefD := ⟨("law", none), "law", "law", defArgs s_law, defBody s_law, defScope s_law, [], []⟩
def fn : List He.DefD := [d_is_integer, d_is_count, d_is_list, d_want_many, d_powers_of, d_is_row_value, d_want_row, d_want_some, d_sign_of, d_signs_of, d_sign_row, d_is_table_value, d_want_table, d_worth_of, d_meets_of, d_table_worth, d_meet_table, d_meet_worth, d_summed, d__law_pot, d__law_draw, d__law_pick, d__law_share, d__law_divisors, d__law_primes, d__law_free, d__law_sign, d__law_worth, d__law_lot, d__law_is_closed, d__law_product, d__law_right, d_law]
def fa : List He.Fa := [.glo "is_integer", .glo "is_count", .glo "is_list", .glo "want_many", .glo "powers_of", .glo "is_row_value", .glo "want_row", .glo "want_some", .glo "sign_of", .glo "signs_of", .glo "sign_row", .glo "is_table_value", .glo "want_table", .glo "worth_of", .glo "meets_of", .glo "table_worth", .glo "meet_table", .glo "meet_worth", .glo "summed", .glo "_law_pot", .glo "_law_draw", .glo "_law_pick", .glo "_law_share", .glo "_law_divisors", .glo "_law_primes", .glo "_law_free", .glo "_law_sign", .glo "_law_worth", .glo "_law_lot", .glo "_law_is_closed", .glo "_law_product", .glo "_law_right", .glo "law"] ++ btNames.map He.Fa.free ++ [.int "MOST_ROW" 60, .int "LONGEST" 1000000000000000000000000000000, .int "MOST_LOT" 12, .int "MOST_SIDE" 40]

def ex (K : PySem.W.Frag) : Bool := true
abbrev R : PySem.W.OpenRow := PySem.W.OpenLaw.row PySem.Challenge.rw_divisorsums_k86_whole_meet_tables
abbrev hk : PySem.W.Hook := G.hookE 4 fa fn ex
def ob (s : PySem.W.SharedT) : G.AlE := G.obsE 4 fa fn ex (HandSHeadRun.getT s)
theorem ob_eq (s : PySem.W.SharedT) : ob s = hk.obs s.abs := G.obsE_eq (HandSHeadRun.getT_eq s)
def loose : List Str := [("is_integer" : Str), ("is_count" : Str), ("is_list" : Str), ("want_many" : Str), ("powers_of" : Str), ("is_row_value" : Str), ("want_row" : Str), ("want_some" : Str), ("sign_of" : Str), ("signs_of" : Str), ("sign_row" : Str), ("is_table_value" : Str), ("want_table" : Str), ("worth_of" : Str), ("meets_of" : Str), ("table_worth" : Str), ("meet_table" : Str), ("meet_worth" : Str), ("summed" : Str), ("_law_pot" : Str), ("_law_draw" : Str), ("_law_pick" : Str), ("_law_share" : Str), ("_law_divisors" : Str), ("_law_primes" : Str), ("_law_free" : Str), ("_law_sign" : Str), ("_law_worth" : Str), ("_law_lot" : Str), ("_law_is_closed" : Str), ("_law_product" : Str), ("_law_right" : Str), ("NumberError" : Str), ("InvalidMany" : Str), ("InvalidRow" : Str), ("MOST_ROW" : Str), ("LONGEST" : Str), ("MOST_LOT" : Str), ("MOST_SIDE" : Str)]
theorem run (w : World) : HandSHeadRun.RunEq R (PySem.W.view R.prog [46]) hk ob 4000 loose w := by
  intro os
  kernel_rfl
theorem facts {P : Program} {w : World} {K : PySem.W.Frag} {h : Heap} {mg : Str → Option Value} {f : Addr} (X : K.In h) (G0 : h.Ns mainGlobals mg) (hfa : mg ("law" : Str) = some (.ref f)) (c : He.SaysD fa fn K) (cx : ex K = true) :
    ∃ fd : FuncData, (∀ (s : Shared) (v : Value), BindsTo s fd ⟨[v], []⟩ [("script", v)]) ∧ ∀ base : Heap, K.In base → base.Ns mainGlobals mg → FnG P w K mg base CX0 7 f fd ["script"] (sp_law K) := by
  have B : Bt mg := Bt.of fun x hx => by
    exact He.free_ok X G0 (says_mem c (List.mem_append_left _ (List.mem_append_right _ (List.mem_map_of_mem hx))))
  obtain ⟨t_MOST_ROW, c_MOST_ROW⟩ := He.int_ok X G0 (c.fact 53 (f := .int "MOST_ROW" 60) rfl)
  obtain ⟨t_LONGEST, c_LONGEST⟩ := He.int_ok X G0 (c.fact 54 (f := .int "LONGEST" 1000000000000000000000000000000) rfl)
  obtain ⟨t_MOST_LOT, c_MOST_LOT⟩ := He.int_ok X G0 (c.fact 55 (f := .int "MOST_LOT" 12) rfl)
  obtain ⟨t_MOST_SIDE, c_MOST_SIDE⟩ := He.int_ok X G0 (c.fact 56 (f := .int "MOST_SIDE" 40) rfl)
  obtain ⟨fd_is_integer, F_is_integer⟩ := c.def_ 0 (d := d_is_integer) rfl
  have m_is_integer := He.glo_ok X G0 (c.fact 0 (f := .glo "is_integer") rfl)
  obtain ⟨fd_is_count, F_is_count⟩ := c.def_ 1 (d := d_is_count) rfl
  have m_is_count := He.glo_ok X G0 (c.fact 1 (f := .glo "is_count") rfl)
  obtain ⟨fd_is_list, F_is_list⟩ := c.def_ 2 (d := d_is_list) rfl
  have m_is_list := He.glo_ok X G0 (c.fact 2 (f := .glo "is_list") rfl)
  obtain ⟨fd_want_many, F_want_many⟩ := c.def_ 3 (d := d_want_many) rfl
  have m_want_many := He.glo_ok X G0 (c.fact 3 (f := .glo "want_many") rfl)
  obtain ⟨fd_powers_of, F_powers_of⟩ := c.def_ 4 (d := d_powers_of) rfl
  have m_powers_of := He.glo_ok X G0 (c.fact 4 (f := .glo "powers_of") rfl)
  obtain ⟨fd_is_row_value, F_is_row_value⟩ := c.def_ 5 (d := d_is_row_value) rfl
  have m_is_row_value := He.glo_ok X G0 (c.fact 5 (f := .glo "is_row_value") rfl)
  obtain ⟨fd_want_row, F_want_row⟩ := c.def_ 6 (d := d_want_row) rfl
  have m_want_row := He.glo_ok X G0 (c.fact 6 (f := .glo "want_row") rfl)
  obtain ⟨fd_want_some, F_want_some⟩ := c.def_ 7 (d := d_want_some) rfl
  have m_want_some := He.glo_ok X G0 (c.fact 7 (f := .glo "want_some") rfl)
  obtain ⟨fd_sign_of, F_sign_of⟩ := c.def_ 8 (d := d_sign_of) rfl
  have m_sign_of := He.glo_ok X G0 (c.fact 8 (f := .glo "sign_of") rfl)
  obtain ⟨fd_signs_of, F_signs_of⟩ := c.def_ 9 (d := d_signs_of) rfl
  have m_signs_of := He.glo_ok X G0 (c.fact 9 (f := .glo "signs_of") rfl)
  obtain ⟨fd_sign_row, F_sign_row⟩ := c.def_ 10 (d := d_sign_row) rfl
  have m_sign_row := He.glo_ok X G0 (c.fact 10 (f := .glo "sign_row") rfl)
  obtain ⟨fd_is_table_value, F_is_table_value⟩ := c.def_ 11 (d := d_is_table_value) rfl
  have m_is_table_value := He.glo_ok X G0 (c.fact 11 (f := .glo "is_table_value") rfl)
  obtain ⟨fd_want_table, F_want_table⟩ := c.def_ 12 (d := d_want_table) rfl
  have m_want_table := He.glo_ok X G0 (c.fact 12 (f := .glo "want_table") rfl)
  obtain ⟨fd_worth_of, F_worth_of⟩ := c.def_ 13 (d := d_worth_of) rfl
  have m_worth_of := He.glo_ok X G0 (c.fact 13 (f := .glo "worth_of") rfl)
  obtain ⟨fd_meets_of, F_meets_of⟩ := c.def_ 14 (d := d_meets_of) rfl
  have m_meets_of := He.glo_ok X G0 (c.fact 14 (f := .glo "meets_of") rfl)
  obtain ⟨fd_table_worth, F_table_worth⟩ := c.def_ 15 (d := d_table_worth) rfl
  have m_table_worth := He.glo_ok X G0 (c.fact 15 (f := .glo "table_worth") rfl)
  obtain ⟨fd_meet_table, F_meet_table⟩ := c.def_ 16 (d := d_meet_table) rfl
  have m_meet_table := He.glo_ok X G0 (c.fact 16 (f := .glo "meet_table") rfl)
  obtain ⟨fd_meet_worth, F_meet_worth⟩ := c.def_ 17 (d := d_meet_worth) rfl
  have m_meet_worth := He.glo_ok X G0 (c.fact 17 (f := .glo "meet_worth") rfl)
  obtain ⟨fd_summed, F_summed⟩ := c.def_ 18 (d := d_summed) rfl
  have m_summed := He.glo_ok X G0 (c.fact 18 (f := .glo "summed") rfl)
  obtain ⟨fd__law_pot, F__law_pot⟩ := c.def_ 19 (d := d__law_pot) rfl
  have m__law_pot := He.glo_ok X G0 (c.fact 19 (f := .glo "_law_pot") rfl)
  obtain ⟨fd__law_draw, F__law_draw⟩ := c.def_ 20 (d := d__law_draw) rfl
  have m__law_draw := He.glo_ok X G0 (c.fact 20 (f := .glo "_law_draw") rfl)
  obtain ⟨fd__law_pick, F__law_pick⟩ := c.def_ 21 (d := d__law_pick) rfl
  have m__law_pick := He.glo_ok X G0 (c.fact 21 (f := .glo "_law_pick") rfl)
  obtain ⟨fd__law_share, F__law_share⟩ := c.def_ 22 (d := d__law_share) rfl
  have m__law_share := He.glo_ok X G0 (c.fact 22 (f := .glo "_law_share") rfl)
  obtain ⟨fd__law_divisors, F__law_divisors⟩ := c.def_ 23 (d := d__law_divisors) rfl
  have m__law_divisors := He.glo_ok X G0 (c.fact 23 (f := .glo "_law_divisors") rfl)
  obtain ⟨fd__law_primes, F__law_primes⟩ := c.def_ 24 (d := d__law_primes) rfl
  have m__law_primes := He.glo_ok X G0 (c.fact 24 (f := .glo "_law_primes") rfl)
  obtain ⟨fd__law_free, F__law_free⟩ := c.def_ 25 (d := d__law_free) rfl
  have m__law_free := He.glo_ok X G0 (c.fact 25 (f := .glo "_law_free") rfl)
  obtain ⟨fd__law_sign, F__law_sign⟩ := c.def_ 26 (d := d__law_sign) rfl
  have m__law_sign := He.glo_ok X G0 (c.fact 26 (f := .glo "_law_sign") rfl)
  obtain ⟨fd__law_worth, F__law_worth⟩ := c.def_ 27 (d := d__law_worth) rfl
  have m__law_worth := He.glo_ok X G0 (c.fact 27 (f := .glo "_law_worth") rfl)
  obtain ⟨fd__law_lot, F__law_lot⟩ := c.def_ 28 (d := d__law_lot) rfl
  have m__law_lot := He.glo_ok X G0 (c.fact 28 (f := .glo "_law_lot") rfl)
  obtain ⟨fd__law_is_closed, F__law_is_closed⟩ := c.def_ 29 (d := d__law_is_closed) rfl
  have m__law_is_closed := He.glo_ok X G0 (c.fact 29 (f := .glo "_law_is_closed") rfl)
  obtain ⟨fd__law_product, F__law_product⟩ := c.def_ 30 (d := d__law_product) rfl
  have m__law_product := He.glo_ok X G0 (c.fact 30 (f := .glo "_law_product") rfl)
  obtain ⟨fd__law_right, F__law_right⟩ := c.def_ 31 (d := d__law_right) rfl
  have m__law_right := He.glo_ok X G0 (c.fact 31 (f := .glo "_law_right") rfl)
  obtain ⟨fd_law, F_law⟩ := c.def_ 32 (d := d_law) rfl
  have m_law := He.glo_ok X G0 (c.fact 32 (f := .glo "law") rfl)
  cases (hfa.symm.trans m_law)
  refine ⟨fd_law, fun s v => FunD.bindsA (ps := ["script"]) F_law (fun _ _ _ _ _ _ us hl => match us, hl with | [_], _ => rfl) s [v] rfl, fun base _ _ => ?_⟩
  have G__law_draw := ok__law_draw (P := P) (w := w) (base := base) F__law_draw B  
  have C__law_draw : Cl P w K mg base 1 "_law_draw" 2 [] (sp__law_draw K) := ⟨_, _, _, [], G__law_draw, rfl, m__law_draw, F__law_draw.kp, FunD.bindsN (ps := ["pot", "many"]) F__law_draw (fun _ _ _ _ _ _ us hl => match us, hl with | [_, _], _ => rfl), .nil⟩
  have G_is_list := ok_is_list (P := P) (w := w) (base := base) F_is_list B  
  have C_is_list : Cl P w K mg base 1 "is_list" 1 [] (sp_is_list K) := ⟨_, _, _, [], G_is_list, rfl, m_is_list, F_is_list.kp, FunD.bindsN (ps := ["value"]) F_is_list (fun _ _ _ _ _ _ us hl => match us, hl with | [_], _ => rfl), .nil⟩
  have G_is_integer := ok_is_integer (P := P) (w := w) (base := base) F_is_integer B  
  have C_is_integer : Cl P w K mg base 1 "is_integer" 1 [] (sp_is_integer K) := ⟨_, _, _, [], G_is_integer, rfl, m_is_integer, F_is_integer.kp, FunD.bindsN (ps := ["value"]) F_is_integer (fun _ _ _ _ _ _ us hl => match us, hl with | [_], _ => rfl), .nil⟩
  have G_is_row_value := ok_is_row_value (P := P) (w := w) (base := base) F_is_row_value B C_is_list C_is_integer c_MOST_ROW c_LONGEST 
  have C_is_row_value : Cl P w K mg base 2 "is_row_value" 1 [] (sp_is_row_value K) := ⟨_, _, _, [], G_is_row_value, rfl, m_is_row_value, F_is_row_value.kp, FunD.bindsN (ps := ["value"]) F_is_row_value (fun _ _ _ _ _ _ us hl => match us, hl with | [_], _ => rfl), .nil⟩
  have G_want_row := ok_want_row (P := P) (w := w) (base := base) F_want_row B C_is_row_value 
  have C_want_row : Cl P w K mg base 3 "want_row" 1 [] (sp_want_row K) := ⟨_, _, _, [], G_want_row, rfl, m_want_row, F_want_row.kp, FunD.bindsN (ps := ["value"]) F_want_row (fun _ _ _ _ _ _ us hl => match us, hl with | [_], _ => rfl), .nil⟩
  have G_summed := ok_summed (P := P) (w := w) (base := base) F_summed B C_want_row 
  have C_summed : Cl P w K mg base 4 "summed" 1 [] (sp_summed K) := ⟨_, _, _, [], G_summed, rfl, m_summed, F_summed.kp, FunD.bindsN (ps := ["row"]) F_summed (fun _ _ _ _ _ _ us hl => match us, hl with | [_], _ => rfl), .nil⟩
  have G_is_table_value := ok_is_table_value (P := P) (w := w) (base := base) F_is_table_value B C_is_list C_is_integer c_MOST_LOT c_LONGEST 
  have C_is_table_value : Cl P w K mg base 2 "is_table_value" 1 [] (sp_is_table_value K) := ⟨_, _, _, [], G_is_table_value, rfl, m_is_table_value, F_is_table_value.kp, FunD.bindsN (ps := ["value"]) F_is_table_value (fun _ _ _ _ _ _ us hl => match us, hl with | [_], _ => rfl), .nil⟩
  have G_want_table := ok_want_table (P := P) (w := w) (base := base) F_want_table B C_is_table_value 
  have C_want_table : Cl P w K mg base 3 "want_table" 1 [] (sp_want_table K) := ⟨_, _, _, [], G_want_table, rfl, m_want_table, F_want_table.kp, FunD.bindsN (ps := ["value"]) F_want_table (fun _ _ _ _ _ _ us hl => match us, hl with | [_], _ => rfl), .nil⟩
  have G_worth_of := ok_worth_of (P := P) (w := w) (base := base) F_worth_of B  
  have C_worth_of : Cl P w K mg base 1 "worth_of" 1 [] (sp_worth_of K) := ⟨_, _, _, [], G_worth_of, rfl, m_worth_of, F_worth_of.kp, FunD.bindsN (ps := ["table"]) F_worth_of (fun _ _ _ _ _ _ us hl => match us, hl with | [_], _ => rfl), .nil⟩
  have G_table_worth := ok_table_worth (P := P) (w := w) (base := base) F_table_worth B C_want_table C_worth_of 
  have C_table_worth : Cl P w K mg base 4 "table_worth" 1 [] (sp_table_worth K) := ⟨_, _, _, [], G_table_worth, rfl, m_table_worth, F_table_worth.kp, FunD.bindsN (ps := ["table"]) F_table_worth (fun _ _ _ _ _ _ us hl => match us, hl with | [_], _ => rfl), .nil⟩
  have G__law_worth := ok__law_worth (P := P) (w := w) (base := base) F__law_worth B  
  have C__law_worth : Cl P w K mg base 1 "_law_worth" 1 [] (sp__law_worth K) := ⟨_, _, _, [], G__law_worth, rfl, m__law_worth, F__law_worth.kp, FunD.bindsN (ps := ["table"]) F__law_worth (fun _ _ _ _ _ _ us hl => match us, hl with | [_], _ => rfl), .nil⟩
  have G__law_primes := ok__law_primes (P := P) (w := w) (base := base) F__law_primes B  
  have C__law_primes : Cl P w K mg base 1 "_law_primes" 1 [] (sp__law_primes K) := ⟨_, _, _, [], G__law_primes, rfl, m__law_primes, F__law_primes.kp, FunD.bindsN (ps := ["number"]) F__law_primes (fun _ _ _ _ _ _ us hl => match us, hl with | [_], _ => rfl), .nil⟩
  have G__law_sign := ok__law_sign (P := P) (w := w) (base := base) F__law_sign B C__law_primes 
  have C__law_sign : Cl P w K mg base 2 "_law_sign" 1 [] (sp__law_sign K) := ⟨_, _, _, [], G__law_sign, rfl, m__law_sign, F__law_sign.kp, FunD.bindsN (ps := ["number"]) F__law_sign (fun _ _ _ _ _ _ us hl => match us, hl with | [_], _ => rfl), .nil⟩
  have G_is_count := ok_is_count (P := P) (w := w) (base := base) F_is_count B C_is_integer 
  have C_is_count : Cl P w K mg base 2 "is_count" 1 [] (sp_is_count K) := ⟨_, _, _, [], G_is_count, rfl, m_is_count, F_is_count.kp, FunD.bindsN (ps := ["value"]) F_is_count (fun _ _ _ _ _ _ us hl => match us, hl with | [_], _ => rfl), .nil⟩
  have G_want_many := ok_want_many (P := P) (w := w) (base := base) F_want_many B C_is_count 
  have C_want_many : Cl P w K mg base 3 "want_many" 2 [.int 0] (sp_want_many K) := by
    obtain ⟨us, u1, u2⟩ := FunD.binds1 (ps := ["value", "most", "least"]) F_want_many 2 0 (by simp [d_want_many, He.DefD.dvs]) rfl (fun _ _ _ _ _ _ _ us its h1 h2 => match us, its, h1, h2 with | [_, _], [_], _, _ => ⟨_, rfl, rfl⟩)
    exact ⟨_, _, _, us, G_want_many, rfl, m_want_many, F_want_many.kp, u2, u1⟩
  have G_meets_of := ok_meets_of (P := P) (w := w) (base := base) F_meets_of B  
  have C_meets_of : Cl P w K mg base 1 "meets_of" 1 [] (sp_meets_of K) := ⟨_, _, _, [], G_meets_of, rfl, m_meets_of, F_meets_of.kp, FunD.bindsN (ps := ["many"]) F_meets_of (fun _ _ _ _ _ _ us hl => match us, hl with | [_], _ => rfl), .nil⟩
  have G_meet_table := ok_meet_table (P := P) (w := w) (base := base) F_meet_table B C_want_many C_meets_of c_MOST_SIDE 
  have C_meet_table : Cl P w K mg base 4 "meet_table" 1 [] (sp_meet_table K) := ⟨_, _, _, [], G_meet_table, rfl, m_meet_table, F_meet_table.kp, FunD.bindsN (ps := ["many"]) F_meet_table (fun _ _ _ _ _ _ us hl => match us, hl with | [_], _ => rfl), .nil⟩
  have C_meet_table_many : Clk P w K mg base 4 "meet_table" ["many"] (fun zs => [zs.getD 0 .non]) (sp_meet_table K) := by
    have to := FunD.kwOnly (ps := ["many"]) (ks := ["many"]) (g := fun ws => [ws.getD 0 .none]) F_meet_table fun _ _ _ _ _ _ ws hl => match ws, hl with | [_], _ => rfl
    exact ⟨_, _, _, fun ws => [ws.getD 0 .none], G_meet_table, m_meet_table, F_meet_table.kp, to, fun {zs ws} r => .cons (vals_getD r 0) .nil⟩
  have G_want_some := ok_want_some (P := P) (w := w) (base := base) F_want_some B C_want_many c_MOST_ROW 
  have C_want_some : Cl P w K mg base 4 "want_some" 1 [] (sp_want_some K) := ⟨_, _, _, [], G_want_some, rfl, m_want_some, F_want_some.kp, FunD.bindsN (ps := ["value"]) F_want_some (fun _ _ _ _ _ _ us hl => match us, hl with | [_], _ => rfl), .nil⟩
  have G_powers_of := ok_powers_of (P := P) (w := w) (base := base) F_powers_of B  
  have C_powers_of : Cl P w K mg base 1 "powers_of" 1 [] (sp_powers_of K) := ⟨_, _, _, [], G_powers_of, rfl, m_powers_of, F_powers_of.kp, FunD.bindsN (ps := ["number"]) F_powers_of (fun _ _ _ _ _ _ us hl => match us, hl with | [_], _ => rfl), .nil⟩
  have G_sign_of := ok_sign_of (P := P) (w := w) (base := base) F_sign_of B C_powers_of 
  have C_sign_of : Cl P w K mg base 2 "sign_of" 1 [] (sp_sign_of K) := ⟨_, _, _, [], G_sign_of, rfl, m_sign_of, F_sign_of.kp, FunD.bindsN (ps := ["number"]) F_sign_of (fun _ _ _ _ _ _ us hl => match us, hl with | [_], _ => rfl), .nil⟩
  have G_signs_of := ok_signs_of (P := P) (w := w) (base := base) F_signs_of B C_sign_of 
  have C_signs_of : Cl P w K mg base 3 "signs_of" 1 [] (sp_signs_of K) := ⟨_, _, _, [], G_signs_of, rfl, m_signs_of, F_signs_of.kp, FunD.bindsN (ps := ["many"]) F_signs_of (fun _ _ _ _ _ _ us hl => match us, hl with | [_], _ => rfl), .nil⟩
  have G_sign_row := ok_sign_row (P := P) (w := w) (base := base) F_sign_row B C_want_some C_signs_of 
  have C_sign_row : Cl P w K mg base 5 "sign_row" 1 [] (sp_sign_row K) := ⟨_, _, _, [], G_sign_row, rfl, m_sign_row, F_sign_row.kp, FunD.bindsN (ps := ["many"]) F_sign_row (fun _ _ _ _ _ _ us hl => match us, hl with | [_], _ => rfl), .nil⟩
  have G_meet_worth := ok_meet_worth (P := P) (w := w) (base := base) F_meet_worth B C_want_many C_worth_of C_meets_of c_MOST_SIDE 
  have C_meet_worth : Cl P w K mg base 4 "meet_worth" 1 [] (sp_meet_worth K) := ⟨_, _, _, [], G_meet_worth, rfl, m_meet_worth, F_meet_worth.kp, FunD.bindsN (ps := ["many"]) F_meet_worth (fun _ _ _ _ _ _ us hl => match us, hl with | [_], _ => rfl), .nil⟩
  have C_meet_worth_many : Clk P w K mg base 4 "meet_worth" ["many"] (fun zs => [zs.getD 0 .non]) (sp_meet_worth K) := by
    have to := FunD.kwOnly (ps := ["many"]) (ks := ["many"]) (g := fun ws => [ws.getD 0 .none]) F_meet_worth fun _ _ _ _ _ _ ws hl => match ws, hl with | [_], _ => rfl
    exact ⟨_, _, _, fun ws => [ws.getD 0 .none], G_meet_worth, m_meet_worth, F_meet_worth.kp, to, fun {zs ws} r => .cons (vals_getD r 0) .nil⟩
  have G__law_divisors := ok__law_divisors (P := P) (w := w) (base := base) F__law_divisors B  
  have C__law_divisors : Cl P w K mg base 1 "_law_divisors" 1 [] (sp__law_divisors K) := ⟨_, _, _, [], G__law_divisors, rfl, m__law_divisors, F__law_divisors.kp, FunD.bindsN (ps := ["number"]) F__law_divisors (fun _ _ _ _ _ _ us hl => match us, hl with | [_], _ => rfl), .nil⟩
  have G__law_right := ok__law_right (P := P) (w := w) (base := base) F__law_right B C__law_draw C_summed C_table_worth C__law_worth C__law_sign C_meet_table C_meet_table_many C_sign_row C_meet_worth C__law_divisors C_meet_worth_many 
  have C__law_right : Cl P w K mg base 6 "_law_right" 1 [] (sp__law_right K) := ⟨_, _, _, [], G__law_right, rfl, m__law_right, F__law_right.kp, FunD.bindsN (ps := ["pot"]) F__law_right (fun _ _ _ _ _ _ us hl => match us, hl with | [_], _ => rfl), .nil⟩
  have G__law_pot := ok__law_pot (P := P) (w := w) (base := base) F__law_pot B  
  have C__law_pot : Cl P w K mg base 1 "_law_pot" 2 [] (sp__law_pot K) := ⟨_, _, _, [], G__law_pot, rfl, m__law_pot, F__law_pot.kp, FunD.bindsN (ps := ["script", "k"]) F__law_pot (fun _ _ _ _ _ _ us hl => match us, hl with | [_, _], _ => rfl), .nil⟩
  have G_law := ok_law (P := P) (w := w) (base := base) F_law B C__law_right C__law_pot 
  exact G_law
end M
open PySem PySem.W PySem.Calls PyProof.Rows
set_option maxRecDepth 100000 in
set_option maxHeartbeats 0 in
theorem PySem.Challenge.cw_divisorsums_k86_whole_meet_tables_holds : PySem.Challenge.rw_divisorsums_k86_whole_meet_tables.Holds := by
  w_on; o_law
  refine HandSHeadRun.head_any (r := OpenLaw.row PySem.Challenge.rw_divisorsums_k86_whole_meet_tables) (q := view (OpenLaw.row PySem.Challenge.rw_divisorsums_k86_whole_meet_tables).prog [46]) (H := M.hk) (ob := M.ob) (M := 4000) (loose := M.loose) (d := HandSHeadRun.topDef (OpenLaw.row PySem.Challenge.rw_divisorsums_k86_whole_meet_tables).prog 46) (kwd := []) M.ob_eq
    (by kernel_rfl) (fun s => by kernel_rfl) M.run (by kernel_rfl) (by kernel_rfl) (by kernel_rfl) (by rfl) (by first | assumption | decide +kernel) (by decide +kernel) ⟨rfl, rfl, rfl, rfl, rfl, by decide +kernel⟩ ?hw ?hc
  case hw => w_witness2
  case hc =>
    refine G.walk_G (l := PySem.Challenge.rw_divisorsums_k86_whole_meet_tables) (n := 63) (k := 7) (x := "script") rfl (by decide) (by kernel_rfl) ⟨rfl, by decide, by decide⟩ ?F
    intro w mg fa h Y G0 hmg0
    obtain ⟨K, KX, c, cx⟩ := Y
    have hmg : mg ("law" : PySem.Str) = some (.ref fa) := by
      have e : (HandSHeadRun.topDef (OpenLaw.row PySem.Challenge.rw_divisorsums_k86_whole_meet_tables).prog 46).name = ("law" : PySem.Str) := by kernel_rfl
      rw [← e]
      exact hmg0
    obtain ⟨fd, hb, hF⟩ := M.facts (P := (PySem.Challenge.rw_divisorsums_k86_whole_meet_tables).prog) (w := w) KX G0 hmg c cx
    exact ⟨K, fd, M.sp_law K, KX, hb, fun H a ns hl hS => M.law_ends H a ns hl hS, hF⟩
