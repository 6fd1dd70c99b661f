import PyProof.Rows.All
import Wide.All
import OpenK.AllK
import Wide.FinOn
import Lean
import PyProof.ReprRoads
import HandS.Walk
import HandS.Conv
import HandS.ForMost
import HandS.Defaults
import HandS.WideBits
import HandS.Style
import HandS.IsInst
import HandS.TupAny
import HandS.SortInts
import HandS.Head0
import HandS.Head1
import HandS.Head2
import HandS.HeadEnd
import HandS.HeadHook1
import HandS.HeadHook2
import PySem.Challenge.RW_divisorsums_k94_whole_share_free_couples
set_option Elab.async false
set_option linter.all false
set_option maxRecDepth 100000
set_option maxHeartbeats 16000000
/-! A layer of my own over HandS: defs called where no repr is under way, repr of data, keyword calls. -/
namespace G
open PySem PySem.Spec PyProof.Rows L2

/-! ### defs that may use repr -/
/-- what a def promises where no guarded code runs around it -/
structure FnG (P : Program) (w : World) (K : PySem.W.Frag) (mg : Str → Option Value) (base : Heap) (CX : CXT) (k : Nat) (f : Addr) (fd : FuncData) (ps : List Str) (sp : Sp) : Prop where
  arity : ∀ vs H Q E, sp vs H Q E → vs.length = ps.length
  go : ∀ {A : Around} {outer : List Env} {s : Shared} {H : Hp} {args : Args} {us : List Value} {vs : List V} {Q : VK} {E : XK},
    A.guards = some [] → Room k A → Env0 P w K mg base A outer s H → BindsTo s fd args (ps.zip us) → Vals vs us → sp vs H Q E →
      codeAny (model P w) A (.call (.ref f) args) (CR CX outer P w H s Q E) s

section
variable {P : Program} {w : World} {K : PySem.W.Frag} {mg : Str → Option Value} {base : Heap} {CX : CXT} {k : Nat} {f : Addr} {fd : FuncData} {ps : List Str} {sp : Sp}
theorem FnG.up {j : Nat} (F : FnG P w K mg base CX k f fd ps sp) (h : k ≤ j) : FnG P w K mg base CX j f fd ps sp :=
  ⟨F.arity, fun g r => F.go g (r.mono h)⟩
theorem FnG.weak {sp' : Sp} (F : FnG P w K mg base CX k f fd ps sp) (h : ∀ vs H Q E, sp' vs H Q E → sp vs H Q E) : FnG P w K mg base CX k f fd ps sp' :=
  ⟨fun vs H Q E q => F.arity vs H Q E (h _ _ _ _ q), fun g r e b v q => F.go g r e b v (h _ _ _ _ q)⟩
/-- how a body's end is a call's end -/
theorem ends_of {N : List Str} {qual : Str} {scope : Scope} {cdv : Value} {A : Around} {outer : List Env} {s s' : Shared} {H : Hp} {Q : VK} {E : XK} {fl : Flow}
    (hs : SP (cxOf CX P w K mg base N qual scope f cdv A outer s H E) [] { nx := fun _ H' => Q .non H', rt := Q } fl s') :
    ∃ u, (fl = .ret u ∨ (fl = .next ∧ u = Value.none)) ∧ CE outer P w H s Q u s' := by
  match fl, hs with
  | .ret u, ⟨v, _, H', J, rv, q⟩ => exact ⟨u, .inl rfl, v, H', J.os, J.bare, J.base, J.hok, rv, q⟩
  | .next, ⟨_, H', J, q⟩ => exact ⟨.none, .inr ⟨rfl, rfl⟩, .non, H', J.os, J.bare, J.base, J.hok, rfl, q⟩
  | .brk, ⟨_, _, _, q⟩ => exact False.elim q
  | .cont, ⟨_, _, _, q⟩ => exact False.elim q
/-- a def by its body, told that no guarded code runs around it -/
theorem okG {x qual : Str} {params : Arguments} {body : List Stmt} {scope : Scope} {dvs : List V} {kws : List (Str × V)} {N : List Str}
    (F : FunD K x qual params body scope dvs kws f fd) (S : FnScope N ps scope) (hl : ∀ vs H Q E, sp vs H Q E → vs.length = ps.length)
    (hb : ∀ (cdv : Value) (A : Around) (outer : List Env) (s : Shared) (H : Hp) (vs : List V) (Q : VK) (E : XK),
      A.guards = some [] → Room k (A.deeper (envOfC qual scope s.heap.objs.size f cdv)) → sp vs H Q E →
      ∃ t, PSs (cxOf CX P w K mg base N qual scope f cdv A outer s H E) body t ∧ t { nx := fun _ H' => Q .non H', rt := Q } (start N vs) H) :
    FnG P w K mg base CX (k + 1) f fd ps sp := by
  obtain ⟨oc, od, dV, kV, doc, pm, an, cdv, ct, osl, rfl, lk, hcd, _, _⟩ := F.ex
  constructor
  · exact hl
  intro A outer s H args us vs Q E g r e0 bd rv q
  have inK : K.In s.heap := PySem.W.Frag.In.keeps e0.mod.kin fun b o z => (e0.bs b o z).1
  have nl : s.heap.NoLimit := e0.mod.nolimit.keeps fun b o z => (e0.bs b o z).1
  have cellOf : ∀ n : Str, scope.names.lookup n = some .cell → ((cellsFrom (s.heap.objs.size + 1) scope.names []).lookup n).isSome = true :=
    fun n z => PySem.W.cellsFrom_some _ _ _ (.inl z)
  refine codeAny_call_function r.depth (inK _ _ lk) rfl S.co S.gen rfl (PySem.W.codeRec_of inK hcd) (bd _ _ _ _ ?_)
  refine wpAny_newFunctionEnv_cells S.kind (fun y hy => (S.par y.1 (List.of_mem_zip (a := y.1) (b := y.2) hy).1).imp (fun z => z) fun z => ⟨z, cellOf _ z⟩) ?_
  intro env he s1 x
  subst he
  obtain ⟨t, ht, hq⟩ := hb cdv A outer s H vs Q E g (r.deeper _) q
  have J := inv_start (CX := CX) (E := E) S r.hd e0 (hl _ _ _ _ q) rv x
  refine ⟨nl.keeps x.toInCall.keep, codeAny_func (wpAny_mono (ht.run [] s1 (start N vs) H _ J hq) ?_ fun _ _ z => z)⟩
  intro fl s' hs
  obtain ⟨u, z | ⟨z, z'⟩, c⟩ := ends_of hs
  · subst z; exact c
  · subst z; subst z'; exact c
end

/-- a def of the module that may be called by its name: ds are the values that its defaults fill in behind the written ones -/
structure Cl (P : Program) (w : World) (K : PySem.W.Frag) (mg : Str → Option Value) (base : Heap) (k : Nat) (x : Str) (n : Nat) (ds : List V) (sp : Sp) : Prop where
  ex : ∃ (f : Addr) (fd : FuncData) (ps : List Str) (us : List Value), FnG P w K mg base CX0 k f fd ps sp ∧ ps.length = n + ds.length ∧ mg x = some (.ref f) ∧ PySem.W.keepIn K (.ref f) = true ∧ Binds K fd ps us ∧ Vals ds us
/-- .. with keywords ks alone: gV puts the keywords' values in the parameters' order -/
structure Clk (P : Program) (w : World) (K : PySem.W.Frag) (mg : Str → Option Value) (base : Heap) (k : Nat) (x : Str) (ks : List Str) (gV : List V → List V) (sp : Sp) : Prop where
  ex : ∃ (f : Addr) (fd : FuncData) (ps : List Str) (g : List Value → List Value), FnG P w K mg base CX0 k f fd ps sp ∧ mg x = some (.ref f) ∧ PySem.W.keepIn K (.ref f) = true ∧
    (∀ (s : Shared) (ws : List Value), K.In s.heap → ws.length = ks.length → BindsTo s fd ⟨[], ks.zip ws⟩ (ps.zip (g ws))) ∧ ∀ {zs : List V} {ws : List Value}, Vals zs ws → Vals (gV zs) (g ws)

theorem kw_len1 {ta : TE} {a : Str} (σ : L2.St) (H : Hp) (Q : List V → Hp → Prop) (h : tCons ta tNil σ H Q) : tCons ta tNil σ H fun zs H1 => zs.length = [a].length ∧ Q zs H1 := by
  have e : (fun (v : V) (H1 : Hp) => ([v] : List V).length = [a].length ∧ Q [v] H1) = fun v H1 => Q [v] H1 := by
    funext v H1
    simp
  show ta σ H fun (v : V) (H1 : Hp) => ([v] : List V).length = [a].length ∧ Q [v] H1
  rw [e]
  exact h
theorem kw_len2 {ta tb : TE} {a b : Str} (σ : L2.St) (H : Hp) (Q : List V → Hp → Prop) (h : tCons ta (tCons tb tNil) σ H Q) : tCons ta (tCons tb tNil) σ H fun zs H1 => zs.length = [a, b].length ∧ Q zs H1 := by
  have e : (fun (v : V) (H1 : Hp) => tb σ H1 fun (u : V) (H2 : Hp) => ([v, u] : List V).length = [a, b].length ∧ Q [v, u] H2) = fun v H1 => tb σ H1 fun u H2 => Q [v, u] H2 := by
    funext v H1
    have e2 : (fun (u : V) (H2 : Hp) => ([v, u] : List V).length = [a, b].length ∧ Q [v, u] H2) = fun u H2 => Q [v, u] H2 := by
      funext u H2
      simp
    rw [e2]
  show ta σ H fun (v : V) (H1 : Hp) => tb σ H1 fun (u : V) (H2 : Hp) => ([v, u] : List V).length = [a, b].length ∧ Q [v, u] H2
  rw [e]
  exact h

section
variable {X : Cx} {CX : CXT} {k j n : Nat} {f : Addr} {fd : FuncData} {ps ks : List Str} {sp : Sp} {dvs : List V} {ds : List Value} {E : XK} {x : Str} {p pos : Pos} {e : Expr} {es : List Expr} {t tk : TA} {kws : List Keyword} {gV : List V → List V}
/-- behind a callee -/
theorem after {pins : List (Addr × Obj)} {σ : L2.St} {H : Hp} {s s' : Shared} {Q : VK} {r : Result} (I : Inv X pins σ H s) (h : CR CX0 X.stack X.prog X.w H s Q E r s') : ∃ u, r = .ok (.ret u) ∧ EP X pins σ Q u s' := by
  match r, h with
  | .ok (.ret u), q => exact ⟨u, rfl, I.after q⟩
  | .ok .next, q => exact False.elim q
  | .ok .brk, q => exact False.elim q
  | .ok .cont, q => exact False.elim q
  | .error _, q => exact False.elim q
def tCl (sp : Sp) (dvs : List V) (n : Nat) (t : TA) : TE := fun σ H Q => t σ H fun vs H1 => sp (vs ++ dvs) H1 Q E0
/-- f(e, ..) -/
theorem pe_cl (C : Cl X.prog X.w X.K X.mg X.base k x n dvs sp) (g : X.A.guards = some []) (hr : Room j X.A) (hkj : k ≤ j) (hg : Gl X x) (ha : PA X (e :: es) t)
    (hdb : (x == ("__debug__" : Str)) = false := by decide) (he : starEach (e :: es) X.env = (false, eval e X.env) :: starEach es X.env := by rfl) (hpl : (backTo pos (starEach es X.env)).any (·.1) = false := by rfl) :
    PE X (.Call (.Name x p) (e :: es) [] pos) (tCl sp dvs n t) := by
  obtain ⟨f, fd, ps, us0, F, _, hm, hk, hb, hd⟩ := C.ex
  constructor
  intro pins s σ H Q I h
  refine wpAny_Call_Name_kw (ld_glob I hg hm ?_ hdb)
  refine PySem.W.callWith_K (h₀ := X.base) I.ok.mod.kin hk ?_ he hpl
  refine thn (ha.run pos pins s σ H _ I h) ?_
  rintro us s1 ⟨vs, H1, I1, r, q⟩
  have r2 : Vals (vs ++ dvs) (us ++ us0) := r.append hd
  have hl : (us ++ us0).length = ps.length := r2.length.symm.trans (F.arity _ _ _ _ q)
  refine ⟨I1.kIn, wpAny_call (codeAny_mono (F.go g (hr.mono hkj) I1.env0 (hb s1 us I1.kIn hl) r2 q) ?_)⟩
  intro r s' z
  obtain ⟨u, z1, z2⟩ := after I1 z
  subst z1
  exact z2
/-- f(k = e, ..) -/
theorem pe_clk (C : Clk X.prog X.w X.K X.mg X.base k x ks gV sp) (g : X.A.guards = some []) (hr : Room j X.A) (hkj : k ≤ j) (hg : Gl X x) (hkw : PK X kws tk)
    (hn : ∀ σ H Q, tk σ H Q → tk σ H fun zs H1 => zs.length = ks.length ∧ Q zs H1)
    (hall : (backToKw pos (keywordEach kws X.env)).all (·.1.isSome) = true := by rfl) (hks : (backToKw pos (keywordEach kws X.env)).filterMap (·.1) = ks := by rfl) (hdb : (x == ("__debug__" : Str)) = false := by decide)
    (hpl : ((backTo pos (starEach [] X.env)).any (·.1) || (backToKw pos (keywordEach kws X.env)).any (·.1.isNone)) = false := by rfl) :
    PE X (.Call (.Name x p) [] kws pos) (tCl (fun vs => sp (gV vs)) [] 0 tk) := by
  obtain ⟨f, fd, ps, gf, F, hm, hk, hb, rel⟩ := C.ex
  constructor
  intro pins s σ H Q I h
  have h' := hn σ H _ h
  refine wpAny_Call_Name_kw (ld_glob I hg hm ?_ hdb)
  refine PySem.W.callWith_KW0 (h₀ := X.base) I.ok.mod.kin hk hall ?_ hpl
  refine thn (hkw.run pos pins s σ H _ I h') ?_
  rintro ws s1 ⟨zs, H1, I1, rz, hzl, q⟩
  rw [List.append_nil] at q
  refine ⟨I1.kIn, ?_⟩
  rw [hks]
  refine wpAny_call (codeAny_mono (F.go (us := gf ws) g (hr.mono hkj) I1.env0 (hb s1 ws I1.kIn (rz.length.symm.trans hzl)) (rel rz) q) ?_)
  intro r s' z
  obtain ⟨u, z1, z2⟩ := after I1 z
  subst z1
  exact z2
end

/-! ### repr of data -/
section
variable {X : Cx}
/-- repr(x), x data without dicts whose text is not too long -/
def rRepr (K : PySem.W.Frag) : List V → Hp → VK → Prop := fun xs H Q => ∃ (a : Addr) (d : PyData), xs = [.ref a] ∧ Dp K H (.ref a) d ∧ d.showable = true ∧ d.hasDict = false ∧ d.depth ≤ 50 ∧ d.shown.length ≤ sizeLine ∧ Q (.str d.shown) H
theorem call_repr_data (g : X.A.guards = some []) (hu : X.A.units + 64 < cLine) : CallR X (.builtin "repr") (rRepr X.K) := by
  rintro pins s σ H xs us Q I r ⟨a, d, rfl, hd, h1, h2, h3, h4, q⟩
  obtain ⟨u, rfl, ru⟩ := vals1 r
  cases (show u = Value.ref a from ru)
  obtain ⟨as, rd⟩ := Dp.reads I d _ _ hd rfl
  refine repr_of_reads' rd h1 (fun z => by rw [h2] at z; cases z) g (by omega) (fun _ _ z => z) (fun h' u tk k => ?_) h4
  exact ⟨.str d.shown, H, I.kept k, ⟨_, rfl⟩, q⟩
end
end G

namespace G
open PySem PySem.Spec PyProof.Rows L2
/-! ### the law's own call -/
section
variable {P : Program} {w : World} {K : PySem.W.Frag} {mg mb : Str → Option Value} {k : Nat} {fa a : Addr} {fd : FuncData} {x : Str} {sp : Sp} {s : Shared} {vs : List Value} {ns : List Int}
abbrev LawEnd (s : Shared) (r : Result) (s' : Shared) : Prop := r = .ok (.ret (.bool true)) ∧ OldK s.heap s'.heap ∧ s'.os = s.os ∧ AllBare s'.gens
/-- where at most the script is tracked -/
theorem enter_at {H : Hp} (KX : K.In s.heap) (n1 : s.heap.Ns mainGlobals mg) (n2 : s.heap.Ns builtinsNs mb) (n3 : ∀ y : Str, y ≠ "__name__" → mb y = bootBuiltins y) (n4 : s.heap.NoLimit) (n5 : s.gens = #[])
    (ha : s.heap.get? a = some { cls := .type "list", data := .seq vs.toArray }) (hr : Room k callerA)
    (F : ∀ base : Heap, K.In base → base.Ns mainGlobals mg → FnG P w K mg base CX0 k fa fd [x] sp) (hb : ∀ (t : Shared) (u : Value), BindsTo t fd ⟨[u], []⟩ [(x, u)])
    (only : Only H) (alone : ∀ b, H b ≠ none → b = a ∧ K.lookup a = none) (hok : HOk P w H s.heap) (q : sp [.ref a] H (fun v _ => v = .bl true) E0) :
    codeAny (model P w) callerA (.call (.ref fa) ⟨[.ref a], []⟩) (LawEnd s) s := by
  have stays : ∀ {b : Addr} {o : Obj}, s.heap.get? b = some o → H b = none → (hidT s.heap H).get? b = some o := fun z n => hidT_get z n
  have free_of : ∀ {b : Addr}, ¬ (b = a ∧ K.lookup a = none) → H b = none := by
    intro b nb
    refine Classical.byContradiction fun z => nb (alone b z)
  have nsKeep : ∀ {b : Addr} {m : Str → Option Value}, s.heap.Ns b m → (hidT s.heap H).Ns b m := by
    rintro b m ⟨o, es, ep, z, d, rest⟩
    refine ⟨o, es, ep, stays z (free_of ?_), d, rest⟩
    rintro ⟨e, _⟩
    rw [e, ha] at z
    rw [← Option.some.inj z] at d
    cases d
  have inBase : K.In (hidT s.heap H) := by
    intro b o z
    refine stays (KX b o z) (free_of ?_)
    rintro ⟨e, n⟩
    rw [e, n] at z
    cases z
  have md : Mod K mg (hidT s.heap H) := by
    refine ⟨inBase, nsKeep n1, ⟨mb, nsKeep n2, n3⟩, ?_⟩
    obtain ⟨mc, m1, m2⟩ := n4
    exact ⟨mc, nsKeep m1, m2⟩
  have start0 : Env0 P w K mg (hidT s.heap H) callerA [] s H := by
    refine ⟨rfl, md, fun b o z => of_hidT z, Nat.le_of_eq (hidT_size _ _), trivial, ?_, hok, .of_eq n5⟩
    intro b z
    cases z
  have run := (F _ inBase (nsKeep n1)).go rfl hr start0 (hb s (.ref a)) (show Vals [V.ref a] [Value.ref a] from .cons rfl .nil) q
  refine codeAny_mono run ?_
  intro r t z
  match r, z with
  | .error _, z => exact z.elim
  | .ok .next, z => exact z.elim
  | .ok .brk, z => exact z.elim
  | .ok .cont, z => exact z.elim
  | .ok (.ret u), ⟨v, H', z1, z2, un, hok', rv, e⟩ =>
    have e' : v = .bl true := e
    subst e'
    have eu : u = Value.bool true := rv
    subst eu
    refine ⟨rfl, OldK.of_keep ?_, z1, z2⟩
    intro b o z
    cases hq : H b with
    | none => exact un.keep b o z hq (fun n => nomatch n) (fun n => nomatch n)
    | some u =>
      obtain n | ⟨ob, xs, n⟩ := only b
      · rw [hq] at n
        cases n
      · have n' := un.frzs b ob _ n
        have y1 := (hok b _ n).1
        have y2 := (hok' b _ n').1
        rw [z] at y1
        rw [y2, ← y1]
def Hp.nil : Hp := fun _ => none
def Hp.one (a : Addr) (o : Obj) (xs : List V) : Hp := fun b => if b = a then some (.frz o (.lst xs)) else none
theorem law_callG (KX : K.In s.heap) (n1 : s.heap.Ns mainGlobals mg) (n2 : s.heap.Ns builtinsNs mb) (n3 : ∀ y : Str, y ≠ "__name__" → mb y = bootBuiltins y) (n4 : s.heap.NoLimit) (n5 : s.gens = #[])
    (ha : s.heap.get? a = some { cls := .type "list", data := .seq vs.toArray }) (hi : IntsAre vs ns) (hl : ns.length ≤ sizeLine) (hr : Room k callerA)
    (F : ∀ base : Heap, K.In base → base.Ns mainGlobals mg → FnG P w K mg base CX0 k fa fd [x] sp) (hb : ∀ (t : Shared) (u : Value), BindsTo t fd ⟨[u], []⟩ [(x, u)])
    (hsp : ∀ H : Hp, SqL K H a (ns.map V.int) → sp [.ref a] H (fun v _ => v = .bl true) E0) :
    codeAny (model P w) callerA (.call (.ref fa) ⟨[.ref a], []⟩) (LawEnd s) s := by
  have rv := vals_ints hi
  have hlen := hi.length
  by_cases own : K.lookup a = none
  · have at_a : Hp.one a { cls := .type "list", data := .seq vs.toArray } (ns.map V.int) a = some (.frz { cls := .type "list", data := .seq vs.toArray } (.lst (ns.map V.int))) := if_pos rfl
    refine enter_at (H := Hp.one a { cls := .type "list", data := .seq vs.toArray } (ns.map V.int)) KX n1 n2 n3 n4 n5 ha hr F hb (fun b => ?_) (fun b z => ⟨?_, own⟩) (fun b u z => ?_) (hsp _ (.inl (.inr ⟨_, at_a⟩)))
    · by_cases e : b = a
      · exact .inr ⟨_, _, by rw [e]; exact at_a⟩
      · exact .inl (if_neg e)
    · exact Classical.byContradiction fun e => z (if_neg e)
    · have e : b = a := Classical.byContradiction fun e => by
        rw [show Hp.one a _ _ b = none from if_neg e] at z
        cases z
      subst e
      rw [at_a] at z
      cases z
      exact ⟨ha, by rw [List.length_map]; exact hl, vs, _, rv, ha⟩
  · obtain ⟨o, e⟩ := Option.ne_none_iff_exists'.mp own
    have e' := KX a o e
    rw [ha] at e'
    have eo := Option.some.inj e'
    subst eo
    refine enter_at (H := Hp.nil) KX n1 n2 n3 n4 n5 ha hr F hb (fun b => .inl rfl) (fun b z => (z rfl).elim) (fun b u z => by cases (show (none : Option HO) = some u from z)) (hsp _ ?_)
    exact .inr ⟨_, vs.toArray, _, e, rfl, rfl, rfl, by rw [List.size_toArray, hlen]; exact hl, by simpa using rv⟩
end
/-- the end of a law's row -/
theorem walk_G {l : PySem.W.OpenLaw} {n k : Nat} {q : Program} {loose : List Str} {XP : (Str → Option Value) → Heap → Prop} {YP : World → Heap → Prop} {d : DefRec} {x : Str}
    (hn : l.most = some n) (hn2 : n ≤ sizeLine) (hdf : d.params.defaults = []) (hr : Room k callerA)
    (F : ∀ (w : World) (mg : Str → Option Value) (fa : Addr) (h : Heap), YP w h → h.Ns mainGlobals mg → mg d.name = some (.ref fa) →
      ∃ (K : PySem.W.Frag) (fd : FuncData) (sp : Sp), K.In h ∧ (∀ (s : Shared) (u : Value), BindsTo s fd ⟨[u], []⟩ [(x, u)]) ∧
        (∀ (H : Hp) (a : Addr) (ns : List Int), ns.length ≤ n → SqL K H a (ns.map V.int) → sp [.ref a] H (fun v _ => v = .bl true) E0) ∧
        ∀ base : Heap, K.In base → base.Ns mainGlobals mg → FnG l.prog w K mg base CX0 k fa fd [x] sp) :
    PySem.W.WalkO q loose XP YP l.row.toRowW d [] (fun f vs => PySem.call f vs) := by
  refine Att.attach_call hn hdf ?_
  intro w s₀ s₁ mg mb fa o pm cd doc a vs ns G Y ho hd hcd hmg hobj hints hlen hg
  obtain ⟨K, fd, sp, z1, z2, z3, z4⟩ := F w mg fa _ Y G.T.g hmg
  exact law_callG z1 G.T.g G.T.b G.T.builtins G.T.nolimit hg hobj hints (Nat.le_trans hlen hn2) hr z4 z2 fun H hS => z3 H a ns hlen hS

/-! ### promises by the number of arguments -/
def spec1 (R : V → Hp → VK → XK → Prop) : Sp := fun vs H Q E => ∃ a, vs = [a] ∧ R a H Q E
def spec2 (R : V → V → Hp → VK → XK → Prop) : Sp := fun vs H Q E => ∃ a b, vs = [a, b] ∧ R a b H Q E
def spec3 (R : V → V → V → Hp → VK → XK → Prop) : Sp := fun vs H Q E => ∃ a b c, vs = [a, b, c] ∧ R a b c H Q E
theorem ar1 {R : V → Hp → VK → XK → Prop} (vs : List V) (H : Hp) (Q : VK) (E : XK) (h : spec1 R vs H Q E) : vs.length = 1 := by
  obtain ⟨a, rfl, _⟩ := h
  rfl
theorem ar2 {R : V → V → Hp → VK → XK → Prop} (vs : List V) (H : Hp) (Q : VK) (E : XK) (h : spec2 R vs H Q E) : vs.length = 2 := by
  obtain ⟨a, b, rfl, _⟩ := h
  rfl
theorem ar3 {R : V → V → V → Hp → VK → XK → Prop} (vs : List V) (H : Hp) (Q : VK) (E : XK) (h : spec3 R vs H Q E) : vs.length = 3 := by
  obtain ⟨a, b, c, rfl, _⟩ := h
  rfl

/-! ### the built-ins' names -/
structure Bt (mg : Str → Option Value) : Prop where
  abs : mg "abs" = none
  all : mg "all" = none
  any : mg "any" = none
  bool : mg "bool" = none
  divmod : mg "divmod" = none
  enumerate : mg "enumerate" = none
  int : mg "int" = none
  isinstance : mg "isinstance" = none
  len : mg "len" = none
  list : mg "list" = none
  max : mg "max" = none
  min : mg "min" = none
  range : mg "range" = none
  repr : mg "repr" = none
  reversed : mg "reversed" = none
  set : mg "set" = none
  sorted : mg "sorted" = none
  sum : mg "sum" = none
  tuple : mg "tuple" = none
  zip : mg "zip" = none
def btNames : List Str := ["abs", "all", "any", "bool", "divmod", "enumerate", "int", "isinstance", "len", "list", "max", "min", "range", "repr", "reversed", "set", "sorted", "sum", "tuple", "zip"]
theorem Bt.of {mg : Str → Option Value} (h : ∀ x ∈ btNames, mg x = none) : Bt mg := by
  constructor <;> exact h _ (by unfold btNames; simp)

/-! ### heaps: what stands, but for one changing list at a -/
/-- every object but that at a is as it was -/
def Grow (a : Addr) (H H' : Hp) : Prop := ∀ b o, b ≠ a → H b = some o → H' b = some o
theorem Grow.refl (a : Addr) (H : Hp) : Grow a H H := fun _ _ _ h => h
theorem Grow.trans {a : Addr} {H H1 H2 : Hp} (x : Grow a H H1) (y : Grow a H1 H2) : Grow a H H2 := fun b o n h => y b o n (x b o n h)
theorem Grow.of {a : Addr} {H H' : Hp} (x : Same H H') : Grow a H H' := fun b o _ h => x b o h
theorem Grow.new {a p : Addr} {H H' : Hp} {o : HO} (x : Grow a H H') (h : H' p = none) : Grow a H (upd H' p o) := fun b u n z => by
  rw [upd_ne (ne_of_none (x b u n z) h)]
  exact x b u n z
theorem Grow.put {a : Addr} {H H' : Hp} {o : HO} (x : Grow a H H') : Grow a H (upd H' a o) := fun b u n z => by
  rw [upd_ne n]
  exact x b u n z
theorem _root_.L2.Same.new {p : Addr} {H H' : Hp} {o : HO} (x : Same H H') (h : H' p = none) : Same H (upd H' p o) := fun b u z => by
  rw [upd_ne (ne_of_none (x b u z) h)]
  exact x b u z
/-- an object that H does not know changes -/
theorem _root_.L2.Same.mut {p : Addr} {H H' : Hp} {o : HO} (x : Same H H') (h : H p = none) : Same H (upd H' p o) := fun b u z => by
  rw [upd_ne (ne_of_none z h)]
  exact x b u z
theorem _root_.L2.Same.tup {K : PySem.W.Frag} {H H' : Hp} {a : Addr} {xs : List V} (e : Same H H') (h : SqT K H a xs) : SqT K H' a xs := by
  rcases h with (h | ⟨o, h⟩) | h
  · exact .inl (.inl (e _ _ h))
  · exact .inl (.inr ⟨o, e _ _ h⟩)
  · exact .inr h
theorem mulc {i j : Int} (h : 0 ≤ i ∧ i ≤ 18446744073709551615) : CMul i j := .inl (by omega)
theorem mulc' {i j : Int} (h : 0 ≤ j ∧ j ≤ 18446744073709551615) : CMul i j := .inr (by omega)
theorem divw {i j : Int} (h : 0 < j) (h2 : j < 2 ^ 64) : CDivW i j := wide_div h (b := 64) (by omega) (by decide) (by decide)
theorem divp {i j : Int} (h : 0 < j) (h2 : j < 2 ^ 64) : CDivP i j := ⟨h, PyProof.noPylong_of_log2 (Nat.lt_of_lt_of_le (PySem.Flt.log2_lt_of (by decide : 0 < 64) (by omega)) (by decide))⟩
end G

namespace G
open PySem PySem.Spec PyProof.Rows L2
theorem blT {Q : VK} {H : Hp} {p : Prop} [Decidable p] (h : p) (q : Q (.bl true) H) : Q (.bl (decide p)) H := by
  rw [decide_eq_true h]
  exact q
theorem blF {Q : VK} {H : Hp} {p : Prop} [Decidable p] (h : ¬ p) (q : Q (.bl false) H) : Q (.bl (decide p)) H := by
  rw [decide_eq_false h]
  exact q
theorem bl_t {p : Prop} [Decidable p] (h : p) : V.bl (decide p) = .bl true := congrArg V.bl (decide_eq_true h)
theorem bl_f {p : Prop} [Decidable p] (h : ¬ p) : V.bl (decide p) = .bl false := congrArg V.bl (decide_eq_false h)
theorem bl_nt {p : Prop} [Decidable p] (h : ¬ p) : V.bl (!decide p) = .bl true := by rw [decide_eq_false h]; rfl
theorem bl_nf {p : Prop} [Decidable p] (h : p) : V.bl (!decide p) = .bl false := by rw [decide_eq_true h]; rfl
theorem sz0 : ([] : List V).length ≤ sizeLine := Nat.zero_le _
theorem sz1 {a : V} : ([a] : List V).length ≤ sizeLine := by show 1 ≤ sizeLine; decide
theorem sz2 {a b : V} : ([a, b] : List V).length ≤ sizeLine := by show 2 ≤ sizeLine; decide
theorem sz3 {a b c : V} : ([a, b, c] : List V).length ≤ sizeLine := by show 3 ≤ sizeLine; decide
theorem sz4 {a b c d : V} : ([a, b, c, d] : List V).length ≤ sizeLine := by show 4 ≤ sizeLine; decide
theorem sz5 {a b c d e : V} : ([a, b, c, d, e] : List V).length ≤ sizeLine := by show 5 ≤ sizeLine; decide
theorem sz6 {a b c d e f : V} : ([a, b, c, d, e, f] : List V).length ≤ sizeLine := by show 6 ≤ sizeLine; decide
theorem max0 (x : Int) : 0 ≤ (if x > 0 then x else 0) := by
  split <;> omega
theorem at_ints {ns : List Int} {k : Nat} (h : k < ns.length) : atI (ns.map V.int) (k : Int) = some (.int ns[k]) := atI_nat (by rw [List.getElem?_map, List.getElem?_eq_getElem h]; rfl)
theorem c64 {i j : Int} (h : i.natAbs < 18446744073709551616 := by decide) : CMul (i) j := .inl (by omega)
theorem at0 {α : Type} {x y : α} : atI [x, y] 0 = some x := rfl
theorem at1 {α : Type} {x y : α} : atI [x, y] 1 = some y := rfl
theorem divNN {p m : Int} (h : 0 ≤ p) (hm : 0 < m) : 0 ≤ p / m := Int.ediv_nonneg h (by omega)
theorem says_mem {fa : List He.Fa} {fn : List He.DefD} {K : PySem.W.Frag} (c : He.SaysD fa fn K) {f : He.Fa} (h : f ∈ fa) : f.ok K = true :=
  List.all_eq_true.mp (He.ba (show ((fa.all fun f => f.ok K) && fn.all fun d => d.ok K) = true from congrArg (fun z : He.AlD => z.1) c)).1 f h
/-! ### keywords alone, no defaults -/
theorem FunD.kwOnly {K : PySem.W.Frag} {x qual : Str} {params : Arguments} {body : List Stmt} {scope : Scope} {kws : List (Str × V)} {f : Addr} {fd : FuncData} {ps ks : List Str} {g : List Value → List Value}
    (F : FunD K x qual params body scope [] kws f fd)
    (h : ∀ (kV doc pm : Value) (an : Option Addr) (cdv ct : Value) (ws : List Value), ws.length = ks.length → bindArgs (PySem.W.fnOf x qual params body scope .none kV doc pm an cdv ct) ⟨[], ks.zip ws⟩ = pure (ps.zip (g ws))) :
    ∀ (s : Shared) (ws : List Value), K.In s.heap → ws.length = ks.length → BindsTo s fd ⟨[], ks.zip ws⟩ (ps.zip (g ws)) := by
  obtain ⟨oc, od, dV, kV, doc, pm, an, cdv, ct, osl, rfl, _, _, hD, _⟩ := F.ex
  intro s ws _ hl
  rcases hD with ⟨_, rfl⟩ | ⟨e, _⟩
  · exact BindsTo.of_eq (h kV doc pm an cdv ct ws hl)
  · exact (e rfl).elim

/-! ### plain data: ints below a bound, lists and tuples of such -/
mutual
def fine (c : Nat) : PyData → Bool
  | .none => true
  | .bool _ => true
  | .int i => decide (i.natAbs < 10 ^ c)
  | .str _ => false
  | .list ds => fineAll c ds
  | .tuple ds => fineAll c ds
  | .dict _ => false
def fineAll (c : Nat) : List PyData → Bool
  | [] => true
  | d :: ds => fine c d && fineAll c ds
end
mutual
def nodes : PyData → Nat
  | .list ds => 1 + nodesAll ds
  | .tuple ds => 1 + nodesAll ds
  | .none | .bool _ | .int _ | .str _ | .dict _ => 1
def nodesAll : List PyData → Nat
  | [] => 0
  | d :: ds => nodes d + nodesAll ds
end
theorem fineAll_iff {c : Nat} : ∀ {ds : List PyData}, fineAll c ds = true ↔ ∀ d ∈ ds, fine c d = true
  | [] => by simp [fineAll]
  | d :: ds => by simp [fineAll, fineAll_iff (ds := ds)]
theorem fineAll_map {α : Type} {c : Nat} {f : α → PyData} {xs : List α} (h : ∀ x ∈ xs, fine c (f x) = true) : fineAll c (xs.map f) = true :=
  fineAll_iff.mpr fun d hd => by
    obtain ⟨x, hx, rfl⟩ := List.mem_map.mp hd
    exact h x hx
theorem nodesAll_map {α : Type} {k : Nat} {f : α → PyData} : ∀ {xs : List α}, (∀ x ∈ xs, nodes (f x) ≤ k) → nodesAll (xs.map f) ≤ xs.length * k
  | [], _ => by simp [nodesAll]
  | x :: xs, h => by
    have h1 := h x List.mem_cons_self
    have h2 := nodesAll_map (f := f) (k := k) fun y hy => h y (List.mem_cons_of_mem x hy)
    rw [List.map_cons, nodesAll, List.length_cons, Nat.succ_mul]
    omega
theorem depthAll_map {α : Type} {k : Nat} {f : α → PyData} : ∀ {xs : List α}, (∀ x ∈ xs, (f x).depth ≤ k) → PyData.depthAll (xs.map f) ≤ k
  | [], _ => by simp [PyData.depthAll]
  | x :: xs, h => by
    have h1 := h x List.mem_cons_self
    have h2 := depthAll_map (f := f) (k := k) fun y hy => h y (List.mem_cons_of_mem x hy)
    rw [List.map_cons, PyData.depthAll]
    exact Nat.max_le.mpr ⟨h1, h2⟩
mutual
theorem fine_can {c : Nat} : ∀ d : PyData, fine c d = true → d.canLay0 = true
  | .none, _ => rfl
  | .bool _, _ => rfl
  | .int _, _ => rfl
  | .str _, h => by simp [fine] at h
  | .list ds, h => by
    rw [PyData.canLay0]
    exact fineAll_can ds (by simpa [fine] using h)
  | .tuple ds, h => by
    rw [PyData.canLay0]
    exact fineAll_can ds (by simpa [fine] using h)
  | .dict _, h => by simp [fine] at h
theorem fineAll_can {c : Nat} : ∀ ds : List PyData, fineAll c ds = true → PyData.canLayAll0 ds = true
  | [], _ => rfl
  | d :: ds, h => by
    have h' : fine c d = true ∧ fineAll c ds = true := by simpa [fineAll] using h
    rw [PyData.canLayAll0, fine_can d h'.1, fineAll_can ds h'.2]
    rfl
end
theorem pow_big {c : Nat} (hc : c ≤ 500) : 10 ^ c ≤ 2 ^ 1920 := Nat.le_trans (Nat.pow_le_pow_right (by decide) hc) (by decide +kernel)
mutual
theorem fine_show {c : Nat} (hc : c ≤ 500) : ∀ d : PyData, fine c d = true → d.showable = true
  | .none, _ => by simp [PyData.showable]
  | .bool _, _ => by simp [PyData.showable]
  | .int i, h => by
    have h' : i.natAbs < 10 ^ c := by simpa [fine] using h
    have := PySem.Flt.log2_lt_of (by decide : 0 < 1920) (Nat.lt_of_lt_of_le h' (pow_big hc))
    simpa [PyData.showable] using this
  | .str _, h => by simp [fine] at h
  | .list ds, h => by
    rw [PyData.showable]
    exact fineAll_show hc ds (by simpa [fine] using h)
  | .tuple ds, h => by
    rw [PyData.showable]
    exact fineAll_show hc ds (by simpa [fine] using h)
  | .dict _, h => by simp [fine] at h
theorem fineAll_show {c : Nat} (hc : c ≤ 500) : ∀ ds : List PyData, fineAll c ds = true → PyData.showableAll ds = true
  | [], _ => by simp [PyData.showableAll]
  | d :: ds, h => by
    have h' : fine c d = true ∧ fineAll c ds = true := by simpa [fineAll] using h
    rw [PyData.showableAll, fine_show hc d h'.1, fineAll_show hc ds h'.2]
    rfl
end
mutual
theorem fine_eqv {c : Nat} : ∀ d : PyData, fine c d = true → PyData.eqv d d = true
  | .none, _ => by simp [PyData.eqv]
  | .bool _, _ => by simp [PyData.eqv]
  | .int _, _ => by simp [PyData.eqv]
  | .str _, h => by simp [fine] at h
  | .list ds, h => by
    rw [PyData.eqv]
    exact fineAll_eqv ds (by simpa [fine] using h)
  | .tuple ds, h => by
    rw [PyData.eqv]
    exact fineAll_eqv ds (by simpa [fine] using h)
  | .dict _, h => by simp [fine] at h
theorem fineAll_eqv {c : Nat} : ∀ ds : List PyData, fineAll c ds = true → PyData.eqvAll ds ds = true
  | [], _ => by simp [PyData.eqvAll]
  | d :: ds, h => by
    have h' : fine c d = true ∧ fineAll c ds = true := by simpa [fineAll] using h
    rw [PyData.eqvAll, fine_eqv d h'.1, fineAll_eqv ds h'.2]
    rfl
end
theorem len_of (s : String) : ((s : Str)).length = s.length := PySem.ofString_length s
mutual
theorem fine_len {c : Nat} : ∀ d : PyData, fine c d = true → d.shown.length + 3 ≤ (c + 8) * nodes d
  | .none, _ => by
    rw [PyData.shown, len_of, nodes]
    have e : "None".length = 4 := rfl
    omega
  | .bool b, _ => by
    have e1 : "True".length = 4 := rfl
    have e2 : "False".length = 5 := rfl
    rw [PyData.shown, nodes]
    cases b
    · simp only [Bool.false_eq_true, if_false]
      rw [len_of]
      omega
    · simp only [if_true]
      rw [len_of]
      omega
  | .int i, h => by
    have h' : i.natAbs < 10 ^ c := by simpa [fine] using h
    rw [PyData.shown, len_of, nodes]
    by_cases hc : 0 < c
    · have := int_text_length_le10 hc h'
      omega
    · have e : c = 0 := by omega
      subst e
      have e2 : i = 0 := by
        have : i.natAbs < 1 := h'
        omega
      subst e2
      have e3 : (toString (0 : Int)).length = 1 := by decide
      omega
  | .str _, h => by simp [fine] at h
  | .list ds, h => by
    have h1 := fineAll_len ds (by simpa [fine] using h)
    have h2 := listText_len_le (PyData.shownAll ds)
    have e := Nat.mul_add (c + 8) 1 (nodesAll ds)
    rw [PyData.shown, nodes]
    omega
  | .tuple ds, h => by
    have h1 := fineAll_len ds (by simpa [fine] using h)
    have h2 := tupleText_len_le (PyData.shownAll ds)
    have e := Nat.mul_add (c + 8) 1 (nodesAll ds)
    rw [PyData.shown, nodes]
    omega
  | .dict _, h => by simp [fine] at h
theorem fineAll_len {c : Nat} : ∀ ds : List PyData, fineAll c ds = true → ((PyData.shownAll ds).map (·.length)).sum + 3 * (PyData.shownAll ds).length ≤ (c + 8) * nodesAll ds
  | [], _ => by simp [PyData.shownAll, nodesAll]
  | d :: ds, h => by
    have h' : fine c d = true ∧ fineAll c ds = true := by simpa [fineAll] using h
    have h1 := fine_len d h'.1
    have h2 := fineAll_len ds h'.2
    have e := Nat.mul_add (c + 8) (nodes d) (nodesAll ds)
    rw [PyData.shownAll, nodesAll, List.map_cons, List.sum_cons, List.length_cons]
    omega
end
/-- what repr and == ask of data -/
structure Good (d : PyData) : Prop where
  shaped : SeqAt.shaped d = true
  showable : d.showable = true
  noDict : d.hasDict = false
  deep : d.depth ≤ 50
  fits : d.shown.length ≤ sizeLine
  refl : PyData.eqv d d = true
theorem Good.of {c : Nat} {d : PyData} (h : fine c d = true) (hc : c ≤ 500) (hd : d.depth ≤ 50) (hn : (c + 8) * nodes d ≤ 16777216) : Good d :=
  ⟨by unfold SeqAt.shaped; rw [fine_can d h, Bool.true_and]; exact decide_eq_true (by omega), fine_show hc d h, PyData.hasDict_of_canLay d (fine_can d h), hd, by have := fine_len d h; rw [sizeLine_eq]; omega, fine_eqv d h⟩
theorem Good.int {c : Nat} {i : Int} (h : i.natAbs < 10 ^ c) (hc : c ≤ 500) : Good (.int i) :=
  Good.of (c := c) (by simpa [fine] using h) hc (by simp [PyData.depth]) (by rw [nodes]; omega)
theorem Good.eqD {K : PySem.W.Frag} {H : Hp} {x y : V} {d : PyData} {Q : VK} (g : Good d) (hx : Dp K H x d) (hy : Dp K H y d) (q : Q (.bl true) H) : rEqD K x y H Q :=
  ⟨d, d, hx, hy, g.shaped, g.shaped, by rw [g.refl]; exact q⟩
theorem Good.neD {K : PySem.W.Frag} {H : Hp} {x y : V} {d : PyData} {Q : VK} (g : Good d) (hx : Dp K H x d) (hy : Dp K H y d) (q : Q (.bl false) H) : rNeD K x y H Q :=
  ⟨d, d, hx, hy, g.shaped, g.shaped, by rw [g.refl]; exact q⟩
theorem Good.rep {K : PySem.W.Frag} {H : Hp} {a : Addr} {d : PyData} {Q : VK} (g : Good d) (hx : Dp K H (.ref a) d) (q : Q (.str d.shown) H) : rRepr K [.ref a] H Q :=
  ⟨a, d, rfl, hx, g.showable, g.noDict, g.deep, g.fits, q⟩

/-! ### data that stands in the heap, its nodes where N says -/
mutual
inductive Rp (N : Addr → Prop) (H : Hp) : V → PyData → Prop
  | non : Rp N H .non .none
  | bl (b : Bool) : Rp N H (.bl b) (.bool b)
  | int (i : Int) : Rp N H (.int i) (.int i)
  | lst {a : Addr} {xs : List V} {ds : List PyData} : N a → H a = some (.lst xs) → RpA N H xs ds → Rp N H (.ref a) (.list ds)
  | tup {a : Addr} {xs : List V} {ds : List PyData} : N a → H a = some (.tup xs) → RpA N H xs ds → Rp N H (.ref a) (.tuple ds)
inductive RpA (N : Addr → Prop) (H : Hp) : List V → List PyData → Prop
  | nil : RpA N H [] []
  | cons {v : V} {vs : List V} {d : PyData} {ds : List PyData} : Rp N H v d → RpA N H vs ds → RpA N H (v :: vs) (d :: ds)
end
section
variable {N N' : Addr → Prop} {H H' : Hp} {K : PySem.W.Frag}
mutual
theorem Rp.mono (hN : ∀ a, N a → N' a) (hH : ∀ a o, N a → H a = some o → H' a = some o) : ∀ (d : PyData) (v : V), Rp N H v d → Rp N' H' v d
  | .none, _, h => by cases h; exact .non
  | .bool b, _, h => by cases h; exact .bl b
  | .int i, _, h => by cases h; exact .int i
  | .str _, _, h => by cases h
  | .list ds, _, h => by
    cases h with
    | lst n e r => exact .lst (hN _ n) (hH _ _ n e) (RpA.mono hN hH ds _ r)
  | .tuple ds, _, h => by
    cases h with
    | tup n e r => exact .tup (hN _ n) (hH _ _ n e) (RpA.mono hN hH ds _ r)
  | .dict _, _, h => by cases h
theorem RpA.mono (hN : ∀ a, N a → N' a) (hH : ∀ a o, N a → H a = some o → H' a = some o) : ∀ (ds : List PyData) (vs : List V), RpA N H vs ds → RpA N' H' vs ds
  | [], _, h => by cases h; exact .nil
  | d :: ds, _, h => by
    cases h with
    | cons h1 h2 => exact .cons (Rp.mono hN hH d _ h1) (RpA.mono hN hH ds _ h2)
end
mutual
theorem Rp.dp : ∀ (d : PyData) (v : V), Rp N H v d → Dp K H v d
  | .none, _, h => by cases h; exact .non
  | .bool b, _, h => by cases h; exact .bl b
  | .int i, _, h => by cases h; exact .int i
  | .str _, _, h => by cases h
  | .list ds, _, h => by
    cases h with
    | lst n e r => exact .lst (SqL.of e) (RpA.dp ds _ r)
  | .tuple ds, _, h => by
    cases h with
    | tup n e r => exact .tup (SqT.of e) (RpA.dp ds _ r)
  | .dict _, _, h => by cases h
theorem RpA.dp : ∀ (ds : List PyData) (vs : List V), RpA N H vs ds → DpAll K H vs ds
  | [], _, h => by cases h; exact .nil
  | d :: ds, _, h => by
    cases h with
    | cons h1 h2 => exact .cons (Rp.dp d _ h1) (RpA.dp ds _ h2)
end
theorem Rp.same {v : V} {d : PyData} (h : Rp N H v d) (s : Same H H') : Rp N H' v d := Rp.mono (fun _ z => z) (fun a o _ e => s a o e) d v h
theorem RpA.same {vs : List V} {ds : List PyData} (h : RpA N H vs ds) (s : Same H H') : RpA N H' vs ds := RpA.mono (fun _ z => z) (fun a o _ e => s a o e) ds vs h
theorem Rp.grow {a : Addr} {v : V} {d : PyData} (h : Rp (· ≠ a) H v d) (g : Grow a H H') : Rp (· ≠ a) H' v d := Rp.mono (fun _ z => z) (fun b o n e => g b o n e) d v h
theorem RpA.grow {a : Addr} {vs : List V} {ds : List PyData} (h : RpA (· ≠ a) H vs ds) (g : Grow a H H') : RpA (· ≠ a) H' vs ds := RpA.mono (fun _ z => z) (fun b o n e => g b o n e) ds vs h
theorem Rp.off {a : Addr} {v : V} {d : PyData} {o : HO} (h : Rp (fun p => H p = none) H' v d) (e : H a = some o) : Rp (· ≠ a) H' v d := Rp.mono (fun b z => fun q => by rw [q, e] at z; cases z) (fun _ _ _ z => z) d v h
theorem RpA.length {vs : List V} {ds : List PyData} (h : RpA N H vs ds) : vs.length = ds.length := by
  induction ds generalizing vs with
  | nil => cases h; rfl
  | cons d ds ih =>
    cases h with
    | cons h1 h2 => rw [List.length_cons, List.length_cons, ih h2]
theorem RpA.app {vs us : List V} {ds es : List PyData} (h : RpA N H vs ds) (h' : RpA N H us es) : RpA N H (vs ++ us) (ds ++ es) := by
  induction ds generalizing vs with
  | nil => cases h; exact h'
  | cons d ds ih =>
    cases h with
    | cons h1 h2 => exact .cons h1 (ih h2)
theorem RpA.snoc {vs : List V} {ds : List PyData} {v : V} {d : PyData} (h : RpA N H vs ds) (h' : Rp N H v d) : RpA N H (vs ++ [v]) (ds ++ [d]) := h.app (.cons h' .nil)
theorem RpA.get {vs : List V} {ds : List PyData} (h : RpA N H vs ds) : ∀ {i : Nat} {d : PyData}, ds[i]? = some d → ∃ v, vs[i]? = some v ∧ Rp N H v d := by
  induction ds generalizing vs with
  | nil => intro i d e; simp at e
  | cons d0 ds ih =>
    cases h with
    | cons h1 h2 =>
      intro i d e
      cases i with
      | zero =>
        simp at e
        subst e
        exact ⟨_, rfl, h1⟩
      | succ i =>
        obtain ⟨v, e1, e2⟩ := ih h2 (i := i) (by simpa using e)
        exact ⟨v, by simpa using e1, e2⟩
theorem RpA.getV {vs : List V} {ds : List PyData} (h : RpA N H vs ds) {i : Nat} {v : V} (e : vs[i]? = some v) : ∃ d, ds[i]? = some d ∧ Rp N H v d := by
  have hi : i < ds.length := by
    have := (List.getElem?_eq_some_iff.mp e).1
    rw [← h.length]
    exact this
  obtain ⟨u, e1, e2⟩ := h.get (List.getElem?_eq_getElem hi)
  rw [e] at e1
  cases e1
  exact ⟨_, List.getElem?_eq_getElem hi, e2⟩
theorem RpA.ints (ns : List Int) : RpA N H (ns.map V.int) (ns.map PyData.int) := by
  induction ns with
  | nil => exact .nil
  | cons n ns ih => exact .cons (.int n) ih
theorem RpA.dropLast {vs : List V} {ds : List PyData} (h : RpA N H vs ds) : RpA N H vs.dropLast ds.dropLast := by
  induction ds generalizing vs with
  | nil => cases h; exact .nil
  | cons d ds ih =>
    cases h with
    | cons h1 h2 =>
      cases h2 with
      | nil => exact .nil
      | cons h3 h4 => exact .cons h1 (ih (.cons h3 h4))
theorem RpA.set {vs : List V} {ds : List PyData} (h : RpA N H vs ds) {v : V} {d : PyData} (h' : Rp N H v d) : ∀ i : Nat, RpA N H (vs.set i v) (ds.set i d) := by
  induction ds generalizing vs with
  | nil => cases h; intro i; exact .nil
  | cons d0 ds ih =>
    cases h with
    | cons h1 h2 =>
      intro i
      cases i with
      | zero => exact .cons h' h2
      | succ i => exact .cons h1 (ih h2 i)
end
theorem Rp.put {v : V} {d : PyData} {p : Addr} {o : HO} (h : Rp N H v d) (n : ¬ N p) : Rp N (upd H p o) v d := Rp.mono (fun _ z => z) (fun a u k e => (upd_ne (fun q => n (by rw [← q]; exact k))).trans e) d v h
theorem RpA.put {vs : List V} {ds : List PyData} {p : Addr} {o : HO} (h : RpA N H vs ds) (n : ¬ N p) : RpA N (upd H p o) vs ds := RpA.mono (fun _ z => z) (fun a u k e => (upd_ne (fun q => n (by rw [← q]; exact k))).trans e) ds vs h
theorem Rp.new {v : V} {d : PyData} {p : Addr} {o : HO} (h : Rp N H v d) (e : H p = none) : Rp N (upd H p o) v d := h.same (Same.new (Same.refl H) e)
theorem RpA.new {vs : List V} {ds : List PyData} {p : Addr} {o : HO} (h : RpA N H vs ds) (e : H p = none) : RpA N (upd H p o) vs ds := h.same (Same.new (Same.refl H) e)
theorem RpA.unsnoc : ∀ {ds : List PyData} {vs : List V} {d : PyData}, RpA N H vs (ds ++ [d]) → ∃ vs' v, vs = vs' ++ [v] ∧ RpA N H vs' ds ∧ Rp N H v d
  | [], _, d, h => by
    cases h with
    | cons h1 h2 =>
      cases h2
      exact ⟨[], _, rfl, .nil, h1⟩
  | d0 :: ds, _, d, h => by
    cases h with
    | cons h1 h2 =>
      obtain ⟨vs', v, rfl, h3, h4⟩ := RpA.unsnoc h2
      exact ⟨_ :: vs', v, rfl, .cons h1 h3, h4⟩
theorem set_last {α : Type} (xs : List α) (x y : α) : (xs ++ [x]).set xs.length y = xs ++ [y] := by
  induction xs with
  | nil => rfl
  | cons z xs ih => rw [List.cons_append, List.length_cons, List.set_cons_succ, ih]; rfl
theorem ixN_last {α : Type} (xs : List α) (x : α) : ixN (xs ++ [x]).length (-1) = some xs.length := by
  rw [List.length_append, List.length_singleton]
  unfold ixN
  rw [if_neg (by decide), if_pos (by omega)]
  congr 1
  omega
/-- new, and not the list that grows -/
abbrev Nw (H : Hp) (p : Addr) (a : Addr) : Prop := H a = none ∧ a ≠ p
abbrev New (H : Hp) (a : Addr) : Prop := H a = none
theorem nw_not {H : Hp} {p : Addr} : ¬ Nw H p p := fun z => z.2 rfl
/-- a list of ints stands -/
theorem Grow.seq {K : PySem.W.Frag} {a l : Addr} {H H' : Hp} {xs : List V} (g : Grow a H H') (n : l ≠ a) (h : SqL K H l xs) : SqL K H' l xs := by
  rcases h with (h | ⟨o, h⟩) | h
  · exact .inl (.inl (g _ _ n h))
  · exact .inl (.inr ⟨o, g _ _ n h⟩)
  · exact .inr h
theorem _root_.L2.Same.tracked {H H' : Hp} (e : Same H H') {a : Addr} (h : H a ≠ none) : H' a ≠ none := fun z => h (e.free z)
end G

namespace G
open PySem PySem.Spec PyProof.Rows L2
/-! ### the head's facts, one more look among them -/
abbrev AlE : Type := He.AlD × Bool
def obsE (n : Nat) (fa : List He.Fa) (fn : List He.DefD) (ex : PySem.W.Frag → Bool) (g : Addr → Option Obj) : AlE :=
  (He.obsD fa fn (He.frG g (He.asD g n)), ex (He.frG g (He.asD g n)))
def hookE (n : Nat) (fa : List He.Fa) (fn : List He.DefD) (ex : PySem.W.Frag → Bool) : PySem.W.Hook where
  α := AlE
  obs := fun s => obsE n fa fn ex s.heap.get?
  val := fun _ => (He.valD fn, true)
  says := fun _ h => ∃ K : PySem.W.Frag, K.In h ∧ He.SaysD fa fn K ∧ ex K = true
  of := fun _ _ e => ⟨_, He.frG_in, congrArg (fun z : AlE => z.1) e, congrArg (fun z : AlE => z.2) e⟩
  keeps := by
    rintro _ _ _ ⟨K, z1, z2, z3⟩ k
    exact ⟨K, PySem.W.Frag.In.keeps z1 k, z2, z3⟩
theorem obsE_eq {n : Nat} {fa : List He.Fa} {fn : List He.DefD} {ex : PySem.W.Frag → Bool} {g : Addr → Option Obj} {s : Shared} (h : ∀ a, g a = s.heap.get? a) : obsE n fa fn ex g = (hookE n fa fn ex).obs s := by
  have e : g = s.heap.get? := funext h
  rw [e] <;> rfl
/-! ### a call without arguments -/
def spec0 (R : Hp → VK → XK → Prop) : Sp := fun vs H Q E => vs = [] ∧ R H Q E
theorem ar0 {R : Hp → VK → XK → Prop} (vs : List V) (H : Hp) (Q : VK) (E : XK) (h : spec0 R vs H Q E) : vs.length = 0 := by
  obtain ⟨rfl, _⟩ := h
  rfl
theorem pe_cl0 {X : Cx} {k j n : Nat} {sp : Sp} {dvs : List V} {x : Str} {p pos : Pos} (C : Cl X.prog X.w X.K X.mg X.base k x n dvs sp) (g : X.A.guards = some []) (hr : Room j X.A) (hkj : k ≤ j) (hg : Gl X x) (hdb : (x == ("__debug__" : Str)) = false := by decide) :
    PE X (.Call (.Name x p) [] [] pos) (tCl sp dvs n tNil) := by
  obtain ⟨f, fd, ps, us0, F, _, hm, hk, hb, hd⟩ := C.ex
  constructor
  intro pins s σ H Q I h
  refine wpAny_Call_Name_kw (ld_glob I hg hm ?_ hdb)
  refine PySem.W.callWith_K0 I.kIn hk ?_
  have q : sp ([] ++ dvs) H Q E0 := h
  have hl : ([] ++ us0).length = ps.length := (show Vals ([] ++ dvs) ([] ++ us0) from hd).length.symm.trans (F.arity _ _ _ _ q)
  refine wpAny_call (codeAny_mono (F.go g (hr.mono hkj) I.env0 (hb s [] I.kIn hl) (show Vals ([] ++ dvs) ([] ++ us0) from hd) q) ?_)
  intro r s' z
  obtain ⟨u, z1, z2⟩ := after I z
  subst z1
  exact z2
/-! ### data that is only compared -/
theorem can_map {α : Type} {f : α → PyData} : ∀ {xs : List α}, (∀ x ∈ xs, (f x).canLay0 = true) → PyData.canLayAll0 (xs.map f) = true
  | [], _ => by simp [PyData.canLayAll0]
  | x :: xs, h => by
    rw [List.map_cons, PyData.canLayAll0, h x List.mem_cons_self, can_map fun y hy => h y (List.mem_cons_of_mem _ hy)]
    rfl
theorem shaped_map {α : Type} {f : α → PyData} {xs : List α} (h : ∀ x, (f x).canLay0 = true) (hd : ∀ x, (f x).depth ≤ 60) : SeqAt.shaped (.list (xs.map f)) = true := by
  unfold SeqAt.shaped
  rw [PyData.canLay0, can_map fun x _ => h x, Bool.true_and]
  refine decide_eq_true ?_
  rw [PyData.depth]
  have := depthAll_map (f := f) (xs := xs) (k := 60) fun x _ => hd x
  omega
theorem eqv_map {α : Type} [DecidableEq α] {f : α → PyData} (h : ∀ x y, PyData.eqv (f x) (f y) = decide (x = y)) : ∀ (xs ys : List α), PyData.eqvAll (xs.map f) (ys.map f) = decide (xs = ys)
  | [], [] => by simp [PyData.eqvAll]
  | [], y :: ys => by simp [PyData.eqvAll]
  | x :: xs, [] => by simp [PyData.eqvAll]
  | x :: xs, y :: ys => by
    rw [List.map_cons, List.map_cons, PyData.eqvAll, h, eqv_map h xs ys, Bool.eq_iff_iff]
    simp
theorem eqv_list {α : Type} [DecidableEq α] {f : α → PyData} (h : ∀ x y, PyData.eqv (f x) (f y) = decide (x = y)) (xs ys : List α) : PyData.eqv (.list (xs.map f)) (.list (ys.map f)) = decide (xs = ys) := by
  rw [PyData.eqv, eqv_map h]
theorem eqv_int (i j : Int) : PyData.eqv (.int i) (.int j) = decide (i = j) := by
  rw [PyData.eqv, Bool.eq_iff_iff]
  simp
theorem vals_getD : ∀ {zs : List V} {ws : List Value}, Vals zs ws → ∀ i : Nat, RelV (zs.getD i .non) (ws.getD i .none)
  | [], [], _, _ => rfl
  | _ :: _, _ :: _, .cons r _, 0 => r
  | _ :: zs, _ :: ws, .cons _ t, i + 1 => by
    simpa using vals_getD t i
/-! ### a test that comes out false -/
theorem if_skip {c : TT} {t u : TS} {D : Ends} {σ : L2.St} {H : Hp} (R : Hp → Prop) (hc : ∀ Q : Bool → Hp → Prop, (∀ H', R H' → Q false H') → c σ H Q) (k : ∀ H', R H' → u D σ H') : tIfS c t u D σ H :=
  hc _ fun H' r => by
    rw [if_neg Bool.false_ne_true]
    exact k H' r
theorem if_take {c : TT} {t u : TS} {D : Ends} {σ : L2.St} {H : Hp} (R : Hp → Prop) (hc : ∀ Q : Bool → Hp → Prop, (∀ H', R H' → Q true H') → c σ H Q) (k : ∀ H', R H' → t D σ H') : tIfS c t u D σ H :=
  hc _ fun H' r => by
    rw [if_pos rfl]
    exact k H' r
theorem good_ints {c : Nat} {ns : List Int} (h : ∀ x ∈ ns, x.natAbs < 10 ^ c) (hc : c ≤ 500) (hn : (c + 8) * (ns.length + 1) ≤ 16777216) : Good (.list (ns.map PyData.int)) := by
  refine Good.of (c := c) ?_ hc ?_ ?_
  · rw [fine]
    exact fineAll_map fun x hx => by simpa [fine] using h x hx
  · rw [PyData.depth]
    have := depthAll_map (f := PyData.int) (xs := ns) (k := 0) fun x _ => by simp [PyData.depth]
    omega
  · rw [nodes]
    have := nodesAll_map (f := PyData.int) (xs := ns) (k := 1) fun x _ => by simp [nodes]
    have := Nat.mul_le_mul_left (c + 8) (show 1 + nodesAll (ns.map PyData.int) ≤ ns.length + 1 by omega)
    omega
theorem dp_ints {K : PySem.W.Frag} {H : Hp} {a : Addr} {ns : List Int} (h : SqL K H a (ns.map V.int)) : Dp K H (.ref a) (.list (ns.map PyData.int)) :=
  .lst h (RpA.dp (N := fun _ => True) _ _ (RpA.ints ns))
/-! ### lists of numbers -/
def nV (k : Nat) : V := .int (k : Int)
def nsV (l : List Nat) : List V := l.map nV
theorem nsV_ints (l : List Nat) : nsV l = (l.map fun k : Nat => (k : Int)).map V.int := by unfold nsV; rw [List.map_map]; rfl
theorem nsV_snoc (l : List Nat) (k : Nat) : nsV (l ++ [k]) = nsV l ++ [.int (k : Int)] := by unfold nsV; rw [List.map_append]; rfl
theorem map_range_at {α : Type} {N i : Nat} {f : Nat → α} (h : i < N) : atI ((List.range N).map f) (i : Int) = some (f i) := atI_nat (by rw [List.getElem?_map, List.getElem?_range h]; rfl)
theorem map_range_set {α : Type} {N i : Nat} {f : Nat → α} {v : α} : ((List.range N).map f).set i v = (List.range N).map fun k => if k = i then v else f k := by
  apply List.ext_getElem?
  intro j
  rw [List.getElem?_set, List.getElem?_map, List.getElem?_map]
  by_cases h : j < N
  · rw [List.getElem?_range h]
    by_cases e : i = j
    · subst e
      rw [if_pos rfl, if_pos (by simp [h])]
      simp
    · rw [if_neg e]
      simp [show ¬ j = i from fun z => e z.symm]
  · have : (List.range N)[j]? = none := List.getElem?_eq_none (by simp; omega)
    rw [this]
    split
    · split
      · rename_i z
        simp at z
        omega
      · rfl
    · rfl
theorem ixN_nat {N i : Nat} (h : i < N) : ixN N (i : Int) = some i := by
  unfold ixN
  rw [if_pos (by omega), if_pos (by omega)]
  simp
theorem len_map_range {α : Type} {N : Nat} {f : Nat → α} : ((List.range N).map f).length = N := by simp
theorem rep_flat {α : Type} {n : Nat} {x : α} : (List.replicate n [x]).flatten = (List.range n).map fun _ => x := by
  induction n with
  | zero => rfl
  | succ n ih =>
    rw [List.replicate_succ', List.flatten_append, ih, List.range_succ, List.map_append]
    rfl
theorem small_sz {n : Nat} (h : n ≤ 16777216) : n ≤ sizeLine := by rw [sizeLine_eq]; exact h
theorem small_lt {n : Nat} (h : n < 16777216) : n < sizeLine := by rw [sizeLine_eq]; exact h
/-! ### range(i, j, c), any positive step -/
/-- how many turns -/
def turns (i j c : Int) : Nat := if i < j then ((j - i - 1) / c + 1).toNat else 0
theorem turns_size {i j c : Int} (hc : 0 < c) : Builtin.Range.rangeSize i j c = (turns i j c : Int) := by
  unfold Builtin.Range.rangeSize turns
  rw [if_pos hc]
  by_cases h : i < j
  · rw [if_pos h, if_pos h]
    have : 0 ≤ (j - i - 1) / c := Int.ediv_nonneg (by omega) (by omega)
    omega
  · rw [if_neg h, if_neg h]
    rfl
theorem turns_le {i j c : Int} (hc : 0 < c) (h : i ≤ j) : (turns i j c : Int) ≤ j - i := by
  unfold turns
  by_cases h : i < j
  · rw [if_pos h]
    have h1 : 0 ≤ (j - i - 1) / c := Int.ediv_nonneg (by omega) (by omega)
    have h2 : (j - i - 1) / c ≤ j - i - 1 := Int.ediv_le_self _ (by omega)
    omega
  · rw [if_neg h]
    omega
/-- a turn lies below the end -/
theorem turns_lt {i j c : Int} {k : Nat} (hc : 0 < c) (h : k < turns i j c) : i + k * c < j := by
  unfold turns at h
  by_cases hij : i < j
  · rw [if_pos hij] at h
    have h1 : 0 ≤ (j - i - 1) / c := Int.ediv_nonneg (by omega) (by omega)
    have h2 : (k : Int) ≤ (j - i - 1) / c := by omega
    have h3 : (k : Int) * c ≤ j - i - 1 := (Int.le_ediv_iff_mul_le hc).mp h2
    omega
  · rw [if_neg hij] at h
    omega
/-- and what lies below the end is a turn -/
theorem turns_mem {i j c : Int} {k : Nat} (hc : 0 < c) (h : i + k * c < j) : k < turns i j c := by
  unfold turns
  have hk : 0 ≤ (k : Int) * c := Int.mul_nonneg (by omega) (by omega)
  rw [if_pos (by omega)]
  have : (k : Int) ≤ (j - i - 1) / c := (Int.le_ediv_iff_mul_le hc).mpr (by omega)
  omega
def RgW (i j c : Int) : Prop := 0 ≤ i ∧ 0 ≤ j ∧ 0 < c ∧ i < 2 ^ 61 ∧ j < 2 ^ 61 ∧ c < 2 ^ 61
theorem RgW.fits {i j c : Int} (h : RgW i j c) : Builtin.Range.small i j c = true := by
  obtain ⟨h1, h2, h3, h4, h5, h6⟩ := h
  unfold Builtin.Range.small
  rw [turns_size h3]
  have h7 : 0 ≤ (turns i j c : Int) ∧ (turns i j c : Int) < 2 ^ 62 := by
    by_cases hij : i ≤ j
    · have := turns_le h3 hij
      omega
    · have : turns i j c = 0 := by unfold turns; rw [if_neg (by omega)]
      omega
  simp only [Builtin.Range.rangeFitsLong, Bool.and_eq_true, Bool.or_eq_true, decide_eq_true_eq, beq_iff_eq]
  rw [if_pos (show c > 0 from h3)]
  simp only [Bool.and_eq_true, decide_eq_true_eq]
  omega
def iRngW (ta : TA) : TI := fun σ H R => ta σ H fun vs H1 => ∃ i j c : Int, vs = [.int i, .int j, .int c] ∧ RgW i j c ∧ R (Itc i c (turns i j c)) H1
theorem pi_rangeW {X : Cx} {tg a b c : Expr} {ta : TA} {p pos : Pos} (hg : Gl X "range") (hm : X.mg "range" = none) (ha : PA X [a, b, c] ta)
    (hs : starEach [a, b, c] X.env = (false, eval a X.env) :: starEach [b, c] X.env := by rfl) (hpl : (backTo pos (starEach [b, c] X.env)).any (·.1) = false := by rfl) :
    PI X tg (.Call (.Name "range" p) [a, b, c] [] pos) (iRngW ta) := by
  constructor
  intro pins s σ H R I h
  refine Call_ (ld_blt I hg hm boot_range (PyProof.Rows.callWith_type1 (thn (ha.run pos pins s σ H _ I h) ?_) hs hpl))
  rintro us s1 ⟨vs, H1, I1, r1, i, j, k, e, hw, q⟩
  subst e
  have hk : 0 < k := hw.2.2.1
  obtain ⟨t, t', t'', rfl⟩ : ∃ t t' t'', us = [Value.int i t, Value.int j t', Value.int k t''] := by
    match us, r1 with
    | [_, _, _], .cons ⟨t, z⟩ (.cons ⟨t', z'⟩ (.cons ⟨t'', z''⟩ .nil)) => exact ⟨t, t', t'', by rw [z, z', z'']⟩
  have lo : k.natAbs < 2 ^ 61 := by
    have := hw.2.2.2.2.2
    omega
  refine call_range_3 (by omega) ?_ (.inl (PyProof.noPylong_of_log2 (Nat.lt_of_lt_of_le (PySem.Flt.log2_lt_of (by decide) lo) (by decide))))
  refine wpAny_pyIter_range (IsRange.new ..) hw.fits ?_
  have I2 : Inv X pins σ H1 { s1 with heap := s1.heap.push { cls := .type "range", data := .fields #[.int i t, .int j t', .int k t''] } } := I1.kept (t' := s1.toks) fun b o e => Heap.get?_push_of_some _ e
  refine pi_one (tk := s1.toks) I2 _ (turn_rangeC _ i k (turns i j k)) ?_ q
  have z1 : i + ((0 : Nat) : Int) * k = i := by simp
  have z2 : (turns i j k : Int) - ((0 : Nat) : Int) = Builtin.Range.rangeSize i j k := by rw [turns_size hk]; simp
  show IsRangeIter _ _ (i + ((0 : Nat) : Int) * k) ((turns i j k : Int) - ((0 : Nat) : Int)) k
  rw [z1, z2]
  exact Heap.get?_push_size _ rfl
/-! ### rules inside a comprehension: the fragment named -/
theorem kIx (R : PySem.W.Frag → V → V → Hp → VK → Prop) {X : Cx} {K : PySem.W.Frag} (h : X.K = K) (t : IxR X (R X.K)) : IxR X (R K) := h ▸ t
theorem kSl (R : PySem.W.Frag → V → Option Int → Option Int → Hp → VK → Prop) {X : Cx} {K : PySem.W.Frag} (h : X.K = K) (t : SlR X (R X.K)) : SlR X (R K) := h ▸ t
theorem kPi (R : PySem.W.Frag → TI) {X : Cx} {K : PySem.W.Frag} {tg l : Expr} (h : X.K = K) (t : PI X tg l (R X.K)) : PI X tg l (R K) := h ▸ t
theorem kPt (R : PySem.W.Frag → TT) {X : Cx} {K : PySem.W.Frag} {e : Expr} (h : X.K = K) (t : PT X e (R X.K)) : PT X e (R K) := h ▸ t
theorem kOp (R : PySem.W.Frag → V → V → Hp → VK → Prop) {X : Cx} {K : PySem.W.Frag} {f : Value → Value → Sem Value} (h : X.K = K) (t : OpR X f (R X.K)) : OpR X f (R K) := h ▸ t
theorem kCall (R : PySem.W.Frag → List V → Hp → VK → Prop) {X : Cx} {K : PySem.W.Frag} {f : Value} (h : X.K = K) (t : CallR X f (R X.K)) : CallR X f (R K) := h ▸ t
def rLenS (K : PySem.W.Frag) : List V → Hp → VK → Prop := fun xs H Q => ∃ p ys, xs = [.ref p] ∧ (SqL K H p ys ∨ SqT K H p ys) ∧ Q (.int ys.length) H
def rListOf (K : PySem.W.Frag) : List V → Hp → VK → Prop := fun xs H Q => ∃ p ys, xs = [.ref p] ∧ (SqL K H p ys ∨ SqT K H p ys) ∧ ∀ l, H l = none → Q (.ref l) (upd H l (.lst ys))
def tTru (ta : TE) (K : PySem.W.Frag) : TT := fun σ H Q => ta σ H fun x H' => ∃ k, TruV K x H' k ∧ Q k H'
/-- a scope within a scope -/
def relS (scope sc : Scope) : Scope := { scope with names := scope.names.map fun (n, k) => if (k == .free && sc.kind == .function && sc.names.lookup n == some .cell) then (n, .cell) else (n, k) }
theorem blkOk_in {N : List Str} {outer sc scope : Scope} {cl : List (Str × Addr)} {C : Addr} {env : Env} {own : List (Str × Nat)} (he : env.scope = sc) (h : blkC N (relS outer sc) scope own = true) : BlkOk N (compEnvC outer cl C env).scope scope own := by
  subst he
  exact blkOk_by h
end G

namespace M
open PySem PySem.Spec PyProof.Rows L2 G
def top (i : Nat) : Stmt := PySem.Challenge.pw_divisorsums_k94_whole_share_free_couples.main.body.getD i (.Pass ⟨0, 0, 0, 0⟩)
abbrev s_is_integer : Stmt := top 6
theorem sc_is_integer : FnScope ["value"] ["value"] (defScope s_is_integer) := ⟨rfl, rfl, rfl, by decide +kernel, rfl, by decide +kernel, by decide +kernel⟩
abbrev s_is_count : Stmt := top 7
theorem sc_is_count : FnScope ["value"] ["value"] (defScope s_is_count) := ⟨rfl, rfl, rfl, by decide +kernel, rfl, by decide +kernel, by decide +kernel⟩
abbrev s_want_many : Stmt := top 8
theorem sc_want_many : FnScope ["value", "most", "least"] ["value", "most", "least"] (defScope s_want_many) := ⟨rfl, rfl, rfl, by decide +kernel, rfl, by decide +kernel, by decide +kernel⟩
abbrev s_is_number_of : Stmt := top 11
theorem sc_is_number_of : FnScope ["value", "most"] ["value", "most"] (defScope s_is_number_of) := ⟨rfl, rfl, rfl, by decide +kernel, rfl, by decide +kernel, by decide +kernel⟩
abbrev s_want_number : Stmt := top 12
theorem sc_want_number : FnScope ["value", "most"] ["value", "most"] (defScope s_want_number) := ⟨rfl, rfl, rfl, by decide +kernel, rfl, by decide +kernel, by decide +kernel⟩
abbrev s_want_other_number : Stmt := top 13
theorem sc_want_other_number : FnScope ["value", "most"] ["value", "most"] (defScope s_want_other_number) := ⟨rfl, rfl, rfl, by decide +kernel, rfl, by decide +kernel, by decide +kernel⟩
abbrev s_share_of : Stmt := top 14
theorem sc_share_of : FnScope ["near", "far", "one", "other"] ["near", "far"] (defScope s_share_of) := ⟨rfl, rfl, rfl, by decide +kernel, rfl, by decide +kernel, by decide +kernel⟩
abbrev s_power_of : Stmt := top 15
theorem sc_power_of : FnScope ["base", "many", "found", "turn"] ["base", "many"] (defScope s_power_of) := ⟨rfl, rfl, rfl, by decide +kernel, rfl, by decide +kernel, by decide +kernel⟩
abbrev s_powers_of : Stmt := top 16
theorem sc_powers_of : FnScope ["number", "found", "left", "prime", "many"] ["number"] (defScope s_powers_of) := ⟨rfl, rfl, rfl, by decide +kernel, rfl, by decide +kernel, by decide +kernel⟩
abbrev s_divisors_by : Stmt := top 17
theorem sc_divisors_by : FnScope ["powers", "found", "prime", "many", "longer", "factor", "turn", "one"] ["powers"] (defScope s_divisors_by) := ⟨rfl, rfl, rfl, by decide +kernel, rfl, by decide +kernel, by decide +kernel⟩
abbrev s_divisors_of : Stmt := top 18
theorem sc_divisors_of : FnScope ["number"] ["number"] (defScope s_divisors_of) := ⟨rfl, rfl, rfl, by decide +kernel, rfl, by decide +kernel, by decide +kernel⟩
abbrev s_primes_to : Stmt := top 19
theorem sc_primes_to : FnScope ["most", "marks", "found", "number", "late"] ["most"] (defScope s_primes_to) := ⟨rfl, rfl, rfl, by decide +kernel, rfl, by decide +kernel, by decide +kernel⟩
abbrev s_share : Stmt := top 20
theorem sc_share : FnScope ["number", "other"] ["number", "other"] (defScope s_share) := ⟨rfl, rfl, rfl, by decide +kernel, rfl, by decide +kernel, by decide +kernel⟩
abbrev s_powers : Stmt := top 21
theorem sc_powers : FnScope ["number"] ["number"] (defScope s_powers) := ⟨rfl, rfl, rfl, by decide +kernel, rfl, by decide +kernel, by decide +kernel⟩
abbrev s_divisors : Stmt := top 22
theorem sc_divisors : FnScope ["number"] ["number"] (defScope s_divisors) := ⟨rfl, rfl, rfl, by decide +kernel, rfl, by decide +kernel, by decide +kernel⟩
abbrev s_signs_to : Stmt := top 25
theorem sc_signs_to : FnScope ["most", "found", "is_plain", "number", "late"] ["most"] (defScope s_signs_to) := ⟨rfl, rfl, rfl, by decide +kernel, rfl, by decide +kernel, by decide +kernel⟩
abbrev s_couples_to : Stmt := top 26
theorem sc_couples_to : FnScope ["number", "signs", "one", "sign"] ["number"] (defScope s_couples_to) := ⟨rfl, rfl, rfl, by decide +kernel, rfl, by decide +kernel, by decide +kernel⟩
abbrev s_shares_at : Stmt := top 27
theorem sc_shares_at : FnScope ["number", "found", "prime", "many"] ["number"] (defScope s_shares_at) := ⟨rfl, rfl, rfl, by decide +kernel, rfl, by decide +kernel, by decide +kernel⟩
abbrev s_free_couples : Stmt := top 28
theorem sc_free_couples : FnScope ["number"] ["number"] (defScope s_free_couples) := ⟨rfl, rfl, rfl, by decide +kernel, rfl, by decide +kernel, by decide +kernel⟩
abbrev s_share_free_sum : Stmt := top 29
theorem sc_share_free_sum : FnScope ["number"] ["number"] (defScope s_share_free_sum) := ⟨rfl, rfl, rfl, by decide +kernel, rfl, by decide +kernel, by decide +kernel⟩
abbrev s_share_sum : Stmt := top 30
theorem sc_share_sum : FnScope ["number"] ["number"] (defScope s_share_sum) := ⟨rfl, rfl, rfl, by decide +kernel, rfl, by decide +kernel, by decide +kernel⟩
abbrev s_free_count : Stmt := top 33
theorem sc_free_count : FnScope ["number", "found", "prime", "many"] ["number"] (defScope s_free_count) := ⟨rfl, rfl, rfl, by decide +kernel, rfl, by decide +kernel, by decide +kernel⟩
abbrev s_share_free : Stmt := top 34
theorem sc_share_free : FnScope ["number"] ["number"] (defScope s_share_free) := ⟨rfl, rfl, rfl, by decide +kernel, rfl, by decide +kernel, by decide +kernel⟩
abbrev s_frees_of : Stmt := top 37
theorem sc_frees_of : FnScope ["many", "found", "prime", "late"] ["many"] (defScope s_frees_of) := ⟨rfl, rfl, rfl, by decide +kernel, rfl, by decide +kernel, by decide +kernel⟩
abbrev s_want_some : Stmt := top 38
theorem sc_want_some : FnScope ["value"] ["value"] (defScope s_want_some) := ⟨rfl, rfl, rfl, by decide +kernel, rfl, by decide +kernel, by decide +kernel⟩
abbrev s_share_frees : Stmt := top 39
theorem sc_share_frees : FnScope ["many"] ["many"] (defScope s_share_frees) := ⟨rfl, rfl, rfl, by decide +kernel, rfl, by decide +kernel, by decide +kernel⟩
abbrev s__law_pot : Stmt := top 41
theorem sc__law_pot : FnScope ["script", "k", "cell"] ["script", "k"] (defScope s__law_pot) := ⟨rfl, rfl, rfl, by decide +kernel, rfl, by decide +kernel, by decide +kernel⟩
abbrev s__law_draw : Stmt := top 42
theorem sc__law_draw : FnScope ["pot", "many", "digit"] ["pot", "many"] (defScope s__law_draw) := ⟨rfl, rfl, rfl, by decide +kernel, rfl, by decide +kernel, by decide +kernel⟩
abbrev s__law_pick : Stmt := top 43
theorem sc__law_pick : FnScope ["pot", "some"] ["pot", "some"] (defScope s__law_pick) := ⟨rfl, rfl, rfl, by decide +kernel, rfl, by decide +kernel, by decide +kernel⟩
abbrev s__law_share : Stmt := top 44
theorem sc__law_share : FnScope ["near", "far", "one", "other"] ["near", "far"] (defScope s__law_share) := ⟨rfl, rfl, rfl, by decide +kernel, rfl, by decide +kernel, by decide +kernel⟩
abbrev s__law_least : Stmt := top 45
theorem sc__law_least : FnScope ["most", "found", "number", "late"] ["most"] (defScope s__law_least) := ⟨rfl, rfl, rfl, by decide +kernel, rfl, by decide +kernel, by decide +kernel⟩
abbrev s__law_powers : Stmt := top 46
theorem sc__law_powers : FnScope ["number", "least", "found", "left", "prime", "many"] ["number", "least"] (defScope s__law_powers) := ⟨rfl, rfl, rfl, by decide +kernel, rfl, by decide +kernel, by decide +kernel⟩
abbrev s__law_sign : Stmt := top 47
theorem sc__law_sign : FnScope ["rows", "prime", "many"] ["rows"] (defScope s__law_sign) := ⟨rfl, rfl, rfl, by decide +kernel, rfl, by decide +kernel, by decide +kernel⟩
abbrev s__law_free : Stmt := top 48
theorem sc__law_free : FnScope ["rows", "found", "prime", "many", "at"] ["rows"] (defScope s__law_free) := ⟨rfl, rfl, rfl, by decide +kernel, rfl, by decide +kernel, by decide +kernel⟩
abbrev s__law_count : Stmt := top 49
theorem sc__law_count : FnScope ["rows", "found", "prime", "many"] ["rows"] (defScope s__law_count) := ⟨rfl, rfl, rfl, by decide +kernel, rfl, by decide +kernel, by decide +kernel⟩
abbrev s__law_sum : Stmt := top 50
theorem sc__law_sum : FnScope ["rows", "found", "prime", "many", "part", "at"] ["rows"] (defScope s__law_sum) := ⟨rfl, rfl, rfl, by decide +kernel, rfl, by decide +kernel, by decide +kernel⟩
abbrev s__law_right : Stmt := top 51
theorem sc__law_right : FnScope ["pot", "number", "least", "due", "small", "count", "middle", "one", "total", "great", "told", "prime", "many", "part", "at", "other", "near", "far"] ["pot"] (defScope s__law_right) := ⟨rfl, rfl, rfl, by decide +kernel, rfl, by decide +kernel, by decide +kernel⟩
abbrev s_law : Stmt := top 52
theorem sc_law : FnScope ["script"] ["script"] (defScope s_law) := ⟨rfl, rfl, rfl, by decide +kernel, rfl, by decide +kernel, by decide +kernel⟩
end M
namespace M
open PySem PySem.Spec PyProof.Rows L2 G
section
variable {P : Program} {w : World} {K : PySem.W.Frag} {mg : Str → Option Value} {base : Heap}
/-! whole numbers, their bounds -/
def sp_is_integer (_ : PySem.W.Frag) : Sp := spec1 fun x H Q _ => ∃ n : Int, x = .int n ∧ Q (.bl true) H
theorem ok_is_integer {af : Addr} {fd : FuncData} (F : FunD K "is_integer" "is_integer" (defArgs s_is_integer) (defBody s_is_integer) (defScope s_is_integer) [] [] af fd) (B : Bt mg)  : FnG P w K mg base CX0 1 af fd ["value"] (sp_is_integer K) := by
  refine okG F sc_is_integer ar1 fun cdv A outer s H vs Q E hg hr h => ?_
  refine ⟨_, PSs.nox (pss_one (ps_ret (pe_and (pe_callB call_isi (by rfl) B.isinstance (by decide +kernel) (pa_cons (pv 0) (pa_cons (pe_bltn (v := .ty "int") (by rfl) B.int (by decide +kernel) rfl) pa_nil))) (pe_one (pe_not (pe_callB call_isi (by rfl) B.isinstance (by decide +kernel) (pa_cons (pv 0) (pa_cons (pe_bltn (v := .ty "bool") (by rfl) B.bool (by decide +kernel) rfl) pa_nil)))))))), ?_⟩
  obtain ⟨_, rfl, n, rfl, q⟩ := h
  refine ⟨_, rfl, _, _, _, _, true, rfl, .ty "int", .base (.int n), kit_ty (by decide +kernel), true, rfl, iteT ?_⟩
  exact ⟨_, rfl, _, _, _, _, false, rfl, .ty "bool", .base (.int n), kit_ty (by decide +kernel), false, rfl, q⟩
def sp_is_count (_ : PySem.W.Frag) : Sp := spec1 fun x H Q _ => ∃ n : Int, x = .int n ∧ Q (.bl (decide (0 ≤ n))) H
theorem ok_is_count {af : Addr} {fd : FuncData} (F : FunD K "is_count" "is_count" (defArgs s_is_count) (defBody s_is_count) (defScope s_is_count) [] [] af fd) (B : Bt mg) (C_is_integer : Cl P w K mg base 1 "is_integer" 1 [] (sp_is_integer K)) : FnG P w K mg base CX0 2 af fd ["value"] (sp_is_count K) := by
  refine okG F sc_is_count ar1 fun cdv A outer s H vs Q E hg hr h => ?_
  refine ⟨_, PSs.nox (pss_one (ps_ret (pe_and (pe_cl C_is_integer hg hr (by decide) rfl (pa_cons (pv 0) pa_nil)) (pe_one (pe_cmpR op_ge (pv 0) pe_int (nomark _)))))), ?_⟩
  obtain ⟨_, rfl, n, rfl, q⟩ := h
  refine ⟨_, rfl, _, rfl, n, rfl, true, rfl, iteT ?_⟩
  exact ⟨_, rfl, _, _, rfl, rfl, q⟩
def sp_want_many (_ : PySem.W.Frag) : Sp := spec3 fun x y z H Q _ => ∃ n m l : Int, x = .int n ∧ y = .int m ∧ z = .int l ∧ 0 ≤ n ∧ l ≤ n ∧ n ≤ m ∧ Q .non H
theorem ok_want_many {af : Addr} {fd : FuncData} (F : FunD K "want_many" "want_many" (defArgs s_want_many) (defBody s_want_many) (defScope s_want_many) [.int 0] [] af fd) (B : Bt mg) (C_is_count : Cl P w K mg base 2 "is_count" 1 [] (sp_is_count K)) : FnG P w K mg base CX0 3 af fd ["value", "most", "least"] (sp_want_many K) := by
  refine okG F sc_want_many ar3 fun cdv A outer s H vs Q E hg hr h => ?_
  refine ⟨_, PSs.nox (pss_one (ps_if (PW.pt (pw_or (pt_not (pt_val (pe_cl C_is_count hg hr (by decide) rfl (pa_cons (pv 0) pa_nil)))) (pw_or1 (pt_not (pt_chain op_le op_le (pv 2) (pv 0) (pv 1))))))
      (pss_one ps_never)
      pss_nil)), ?_⟩
  obtain ⟨_, _, _, rfl, n, m, l, rfl, rfl, rfl, h0, h1, h2, q⟩ := h
  refine ⟨_, rfl, _, rfl, n, rfl, _, rfl, ?_⟩
  rw [decide_eq_true h0]
  refine iteF ⟨_, rfl, _, rfl, _, _, rfl, rfl, true, bl_t h1, iteT ⟨_, rfl, _, _, rfl, rfl, true, bl_t h2, iteF q⟩⟩

end
end M
namespace M
open PySem PySem.Spec PyProof.Rows L2 G
section
variable {P : Program} {w : World} {K : PySem.W.Frag} {mg : Str → Option Value} {base : Heap}
/-! numbers within bounds -/
def sp_is_number_of (_ : PySem.W.Frag) : Sp := spec2 fun x y H Q _ => ∃ n m : Int, x = .int n ∧ y = .int m ∧ 1 ≤ n ∧ n ≤ m ∧ Q (.bl true) H
theorem ok_is_number_of {af : Addr} {fd : FuncData} (F : FunD K "is_number_of" "is_number_of" (defArgs s_is_number_of) (defBody s_is_number_of) (defScope s_is_number_of) [] [] af fd) (B : Bt mg) (C_is_integer : Cl P w K mg base 1 "is_integer" 1 [] (sp_is_integer K)) : FnG P w K mg base CX0 2 af fd ["value", "most"] (sp_is_number_of K) := by
  refine okG F sc_is_number_of ar2 fun cdv A outer s H vs Q E hg hr h => ?_
  refine ⟨_, PSs.nox (pss_one (ps_ret (pe_and (pe_cl C_is_integer hg hr (by decide) rfl (pa_cons (pv 0) pa_nil)) (pe_one (pe_chain op_le op_le pe_int (pv 0) (pv 1)))))), ?_⟩
  obtain ⟨_, _, rfl, n, m, rfl, rfl, h1, h2, q⟩ := h
  refine ⟨_, rfl, _, rfl, n, rfl, true, rfl, iteT ?_⟩
  refine ⟨_, rfl, _, _, rfl, rfl, true, bl_t h1, iteT ⟨_, rfl, _, _, rfl, rfl, blT (Q := Q) h2 q⟩⟩
def sp_want_number (_ : PySem.W.Frag) : Sp := spec2 fun x y H Q _ => ∃ n m : Int, x = .int n ∧ y = .int m ∧ 1 ≤ n ∧ n ≤ m ∧ Q .non H
theorem ok_want_number {af : Addr} {fd : FuncData} (F : FunD K "want_number" "want_number" (defArgs s_want_number) (defBody s_want_number) (defScope s_want_number) [] [] af fd) (B : Bt mg) (C_is_number_of : Cl P w K mg base 2 "is_number_of" 2 [] (sp_is_number_of K)) : FnG P w K mg base CX0 3 af fd ["value", "most"] (sp_want_number K) := by
  refine okG F sc_want_number ar2 fun cdv A outer s H vs Q E hg hr h => ?_
  refine ⟨_, PSs.nox (pss_one (ps_if (pt_not (pt_val (pe_cl C_is_number_of hg hr (by decide) rfl (pa_cons (pv 0) (pa_cons (pv 1) pa_nil)))))
      (pss_one ps_never)
      pss_nil)), ?_⟩
  obtain ⟨_, _, rfl, n, m, rfl, rfl, h1, h2, q⟩ := h
  exact ⟨_, rfl, _, rfl, _, _, rfl, n, m, rfl, rfl, h1, h2, true, rfl, iteF q⟩

end
end M
namespace M
open PySem PySem.Spec PyProof.Rows L2 G
section
variable {P : Program} {w : World} {K : PySem.W.Frag} {mg : Str → Option Value} {base : Heap}
def sp_want_other_number (_ : PySem.W.Frag) : Sp := spec2 fun x y H Q _ => ∃ n m : Int, x = .int n ∧ y = .int m ∧ 1 ≤ n ∧ n ≤ m ∧ Q .non H
theorem ok_want_other_number {af : Addr} {fd : FuncData} (F : FunD K "want_other_number" "want_other_number" (defArgs s_want_other_number) (defBody s_want_other_number) (defScope s_want_other_number) [] [] af fd) (B : Bt mg) (C_is_number_of : Cl P w K mg base 2 "is_number_of" 2 [] (sp_is_number_of K)) : FnG P w K mg base CX0 3 af fd ["value", "most"] (sp_want_other_number K) := by
  refine okG F sc_want_other_number ar2 fun cdv A outer s H vs Q E hg hr h => ?_
  refine ⟨_, PSs.nox (pss_one (ps_if (pt_not (pt_val (pe_cl C_is_number_of hg hr (by decide) rfl (pa_cons (pv 0) (pa_cons (pv 1) pa_nil)))))
      (pss_one ps_never)
      pss_nil)), ?_⟩
  obtain ⟨_, _, rfl, n, m, rfl, rfl, h1, h2, q⟩ := h
  exact ⟨_, rfl, _, rfl, _, _, rfl, n, m, rfl, rfl, h1, h2, true, rfl, iteF q⟩

end
end M
namespace M
open PySem PySem.Spec PyProof.Rows L2 G
section
variable {P : Program} {w : World} {K : PySem.W.Frag} {mg : Str → Option Value} {base : Heap}
/-! the law's own draws -/
/-- a pot: two ints that are not negative, the second one not great -/
def PotAt (H : Hp) (a : Addr) : Prop := ∃ p q : Int, H a = some (.lst [.int p, .int q]) ∧ 0 ≤ p ∧ 0 ≤ q ∧ q ≤ 4294967296
def sp__law_pot (K : PySem.W.Frag) : Sp := spec2 fun x y H Q _ => ∃ (l : Addr) (ns : List Int) (k : Nat), x = .ref l ∧ y = .int k ∧ SqL K H l (ns.map V.int) ∧ k ≤ 63 ∧ ∀ a H', Same H H' → H a = none → PotAt H' a → Q (.ref a) H'
theorem potLast (x : Int) : 0 ≤ x % 2147483563 + 1 ∧ x % 2147483563 + 1 ≤ 4294967296 := by omega
theorem potMod (x : Int) : 0 ≤ x % 2147483549 ∧ x % 2147483549 ≤ 18446744073709551615 := by omega
theorem ok__law_pot {af : Addr} {fd : FuncData} (F : FunD K "_law_pot" "_law_pot" (defArgs s__law_pot) (defBody s__law_pot) (defScope s__law_pot) [] [] af fd) (B : Bt mg)  : FnG P w K mg base CX0 1 af fd ["script", "k"] (sp__law_pot K) := by
  refine okG F sc__law_pot ar2 fun cdv A outer s H vs Q E hg hr h => ?_
  refine ⟨_, PSs.nox (pss_cons (ps_set (i := 2) sc__law_pot.nd rfl (.inl rfl) (pe_ifExp (pt_cmpR op_lt (pv 1) (pe_callB call_len_seq (by rfl) B.len (by decide +kernel) (pa_cons (pv 0) pa_nil)) (nomark _)) (pe_callB call_abs (by rfl) B.abs (by decide +kernel) (pa_cons (pe_ix ix_list (pv 0) (pv 1) (fun _ _ => rfl)) pa_nil)) (pe_op op_add (pe_op op_mul pe_int (pv 1)) pe_int)))
    (pss_one (ps_ret (pe_lst (pa_cons (pe_callB (call_max2 rfl) (by rfl) B.max (by decide +kernel) (pa_cons pe_int (pa_cons (pe_op op_sub (pv 2) (pe_op op_pow pe_int pe_int)) pa_nil))) (pa_cons (pe_op op_add (pe_op op_mod (pe_callTy call_int1 (by rfl) B.int (by decide +kernel) (pa_cons (pe_op op_add (pe_op op_add (pe_op op_mul (pe_op op_mod (pe_callTy call_int1 (by rfl) B.int (by decide +kernel) (pa_cons (pv 2) pa_nil)) pe_int) pe_int) (pe_op op_mul pe_int (pv 1))) pe_int) pa_nil)) pe_int) pe_int) pa_nil)))))), ?_⟩
  obtain ⟨_, _, rfl, l, ns, k, rfl, rfl, hS, hk, q⟩ := h
  refine ⟨_, rfl, _, rfl, l, _, rfl, .inl hS, _, _, rfl, rfl, _, rfl, ite2 (fun hlt => ?_) (fun _ => ?_)⟩
  · have hlt' : k < ns.length := by
      have := of_decide_eq_true hlt
      rw [List.length_map] at this
      omega
    refine ⟨_, rfl, _, rfl, l, _, _, _, rfl, rfl, hS, at_ints hlt', _, rfl, ?_⟩
    refine ⟨_, rfl, _, _, rfl, rfl, ⟨by decide, by decide, by decide⟩, _, _, rfl, rfl, _, _, rfl, _, rfl, .inl ⟨_, rfl, _, _, rfl, rfl, (by show (0 : Int) < _; decide), _, _, rfl, rfl, mulc (potMod _), _, rfl, _, _, rfl, rfl, c64, _, _, rfl, rfl, _, _, rfl, rfl, .inl ⟨_, rfl, _, _, rfl, rfl, (by show (0 : Int) < _; decide), _, _, rfl, rfl, sz2, fun p hp => ?_⟩⟩⟩
    exact q p _ (Same.new (Same.refl _) hp) hp ⟨_, _, upd_same, max0 _, potLast _⟩
  · refine ⟨_, rfl, _, _, rfl, rfl, c64, _, _, rfl, rfl, ?_⟩
    refine ⟨_, rfl, _, _, rfl, rfl, ⟨by decide, by decide, by decide⟩, _, _, rfl, rfl, _, _, rfl, _, rfl, .inl ⟨_, rfl, _, _, rfl, rfl, (by show (0 : Int) < _; decide), _, _, rfl, rfl, mulc (potMod _), _, rfl, _, _, rfl, rfl, c64, _, _, rfl, rfl, _, _, rfl, rfl, .inl ⟨_, rfl, _, _, rfl, rfl, (by show (0 : Int) < _; decide), _, _, rfl, rfl, sz2, fun p hp => ?_⟩⟩⟩
    exact q p _ (Same.new (Same.refl _) hp) hp ⟨_, _, upd_same, max0 _, potLast _⟩
def sp__law_draw (_ : PySem.W.Frag) : Sp := spec2 fun x y H Q _ => ∃ (a : Addr) (m : Int), x = .ref a ∧ y = .int m ∧ PotAt H a ∧ 0 < m ∧ m < 2 ^ 64 ∧ ∀ (d : Int) H', 0 ≤ d → d < m → Grow a H H' → PotAt H' a → Q (.int d) H'
theorem ok__law_draw {af : Addr} {fd : FuncData} (F : FunD K "_law_draw" "_law_draw" (defArgs s__law_draw) (defBody s__law_draw) (defScope s__law_draw) [] [] af fd) (B : Bt mg)  : FnG P w K mg base CX0 1 af fd ["pot", "many"] (sp__law_draw K) := by
  refine okG F sc__law_draw ar2 fun cdv A outer s H vs Q E hg hr h => ?_
  refine ⟨_, PSs.nox (pss_cons (ps_if (pt_cmpR op_gt (pe_ix ix_list (pv 0) pe_int (fun _ _ => rfl)) pe_int (nomark _))
      (pss_cons (ps_asg (pe_callB call_divmodW (by rfl) B.divmod (by decide +kernel) (pa_cons (pe_ix ix_list (pv 0) pe_int (fun _ _ => rfl)) (pa_cons (pv 1) pa_nil))) (pg_tup rfl (pgs_cons (pg_sub (pv 0) pe_int set_list) (pgs_cons (pg_name (i := 2) sc__law_draw.nd rfl (.inl rfl)) pgs_nil))))
      (pss_one (ps_ret (pv 2))))
      pss_nil)
    (pss_cons (ps_asg (pe_op op_mod (pe_callTy call_int1 (by rfl) B.int (by decide +kernel) (pa_cons (pe_op op_add (pe_op op_mul (pe_ix ix_list (pv 0) pe_int (fun _ _ => rfl)) pe_int) pe_int) pa_nil)) pe_int) (pg_sub (pv 0) pe_int set_list))
    (pss_one (ps_ret (pe_op op_mod (pe_callTy call_int1 (by rfl) B.int (by decide +kernel) (pa_cons (pe_op op_fdivW (pe_op op_mod (pe_callTy call_int1 (by rfl) B.int (by decide +kernel) (pa_cons (pe_op op_mul (pe_ix ix_list (pv 0) pe_int (fun _ _ => rfl)) (pe_ix ix_list (pv 0) pe_int (fun _ _ => rfl))) pa_nil)) pe_int) pe_int) pa_nil)) (pv 1)))))), ?_⟩
  obtain ⟨_, _, rfl, a, m, rfl, rfl, ⟨p, r, hp, h0, h1, h2⟩, hm, hm2, q⟩ := h
  refine ⟨_, rfl, a, _, _, _, rfl, rfl, SqL.of hp, at0, _, _, rfl, rfl, _, rfl, ite2 (fun _ => ?_) (fun _ => ?_)⟩
  · refine ⟨_, rfl, a, _, _, _, rfl, rfl, SqL.of hp, at0, _, rfl, p, m, rfl, divp hm hm2, fun t ht => ?_⟩
    have nat' : a ≠ t := ne_of_none hp ht
    refine ⟨t, _, rfl, SqT.of upd_same, rfl, _, _, rfl, ⟨_, rfl, a, _, _, 0, rfl, rfl, (upd_ne nat').trans hp, rfl, _, _, rfl, ⟨rfl, _, rfl, ?_⟩⟩⟩
    refine q _ _ (Int.emod_nonneg _ (by omega)) (Int.emod_lt_of_pos _ hm) (((Grow.refl a H).new ht).put) ⟨_, _, upd_same, divNN h0 hm, h1, h2⟩
  · refine ⟨_, rfl, a, _, _, _, rfl, rfl, SqL.of hp, at1, _, _, rfl, rfl, mulc ⟨h1, by omega⟩, _, _, rfl, rfl, .inl ⟨_, rfl, _, _, rfl, rfl, (by show (0 : Int) < _; decide), _, rfl, a, _, _, 1, rfl, rfl, hp, rfl, ?_⟩⟩
    have e1 : (upd H a (.lst ([V.int p, V.int r].set 1 (.int ((r * 40014 + 13099) % 2147483563))))) a = some (.lst [.int p, .int ((r * 40014 + 13099) % 2147483563)]) := upd_same
    have b1 : 0 ≤ (r * 40014 + 13099) % 2147483563 ∧ (r * 40014 + 13099) % 2147483563 ≤ 4294967296 := by omega
    refine ⟨_, rfl, a, _, _, _, rfl, rfl, SqL.of e1, at1, _, rfl, a, _, _, _, rfl, rfl, SqL.of e1, at1, _, _, rfl, rfl, mulc ⟨b1.1, by omega⟩, .inl ⟨_, rfl, _, _, rfl, rfl, (by show (0 : Int) < _; decide), _, _, rfl, rfl, divw (by decide) (by decide), .inl ⟨_, rfl, _, rfl, _, _, rfl, rfl, hm, ?_⟩⟩⟩
    exact q _ _ (Int.emod_nonneg _ (by omega)) (Int.emod_lt_of_pos _ hm) (Grow.put (Grow.refl a H)) ⟨_, _, e1, h0, b1⟩
def sp__law_pick (K : PySem.W.Frag) : Sp := spec2 fun x y H Q _ => ∃ (a l : Addr) (xs : List V), x = .ref a ∧ y = .ref l ∧ PotAt H a ∧ l ≠ a ∧ SqL K H l xs ∧ 0 < xs.length ∧ xs.length < 100000 ∧ ∀ (v : V) H', v ∈ xs → Grow a H H' → PotAt H' a → Q v H'
theorem ok__law_pick {af : Addr} {fd : FuncData} (F : FunD K "_law_pick" "_law_pick" (defArgs s__law_pick) (defBody s__law_pick) (defScope s__law_pick) [] [] af fd) (B : Bt mg) (C__law_draw : Cl P w K mg base 1 "_law_draw" 2 [] (sp__law_draw K)) : FnG P w K mg base CX0 2 af fd ["pot", "some"] (sp__law_pick K) := by
  refine okG F sc__law_pick ar2 fun cdv A outer s H vs Q E hg hr h => ?_
  refine ⟨_, PSs.nox (pss_one (ps_ret (pe_ix ix_list (pv 1) (pe_cl C__law_draw hg hr (by decide) rfl (pa_cons (pv 0) (pa_cons (pe_callB call_len_seq (by rfl) B.len (by decide +kernel) (pa_cons (pv 1) pa_nil)) pa_nil))) (fun _ _ => rfl)))), ?_⟩
  obtain ⟨_, _, rfl, a, l, xs, rfl, rfl, hp, hl, hS, hn, hn2, q⟩ := h
  refine ⟨_, rfl, _, rfl, _, rfl, l, xs, rfl, .inl hS, _, _, rfl, a, _, rfl, rfl, hp, by omega, by omega, fun d H' h1 h2 g hp' => ?_⟩
  obtain ⟨i, rfl⟩ := Int.eq_ofNat_of_zero_le h1
  have hi : i < xs.length := by omega
  exact ⟨l, xs, _, xs[i], rfl, rfl, g.seq hl hS, atI_nat (List.getElem?_eq_getElem hi), q _ _ (List.getElem_mem hi) g hp'⟩

end
end M
namespace M
open PySem PySem.Spec PyProof.Rows L2 G
section
variable {P : Program} {w : World} {K : PySem.W.Frag} {mg : Str → Option Value} {base : Heap}
theorem PotAt.same {H H' : Hp} {a : Addr} (h : PotAt H a) (s : Same H H') : PotAt H' a := by
  obtain ⟨p, q, e, r⟩ := h
  exact ⟨p, q, s _ _ e, r⟩
theorem PotAt.ne {H : Hp} {a b : Addr} (h : PotAt H a) (e : H b = none) : b ≠ a := by
  obtain ⟨p, q, z, _⟩ := h
  rintro rfl
  rw [e] at z
  cases z
theorem PotAt.new {H : Hp} {a b : Addr} {o : HO} (h : PotAt H a) (e : H b = none) : PotAt (upd H b o) a := h.same ((Same.refl H).new e)
/-- the pot, and a list that stands; what stood at first stands -/
structure Lv (H0 : Hp) (a l : Addr) (xs : List V) (H : Hp) : Prop where
  pot : PotAt H a
  ne : l ≠ a
  at_ : H l = some (.lst xs)
  gr : Grow a H0 H
theorem Lv.same {H0 : Hp} {a l : Addr} {xs : List V} {H H' : Hp} (h : Lv H0 a l xs H) (s : Same H H') : Lv H0 a l xs H' := ⟨h.pot.same s, h.ne, s _ _ h.at_, h.gr.trans (Grow.of s)⟩
theorem Lv.grow {H0 : Hp} {a l : Addr} {xs : List V} {H H' : Hp} (h : Lv H0 a l xs H) (g : Grow a H H') (p : PotAt H' a) : Lv H0 a l xs H' := ⟨p, h.ne, g _ _ h.ne h.at_, h.gr.trans g⟩
/-- a picked int lies within -/
theorem picked {v : V} {ns : List Int} {lo hi : Int} (h : v ∈ ns.map V.int) (hb : ∀ x ∈ ns, lo ≤ x ∧ x ≤ hi) : ∃ m : Int, v = .int m ∧ m ∈ ns ∧ lo ≤ m ∧ m ≤ hi := by
  obtain ⟨x, hx, rfl⟩ := List.mem_map.mp h
  exact ⟨x, rfl, hx, hb x hx⟩

end
end M
namespace M
open PySem PySem.Spec PyProof.Rows L2 G
section
variable {P : Program} {w : World} {K : PySem.W.Frag} {mg : Str → Option Value} {base : Heap}
/-! lists in which multiples are set, one by one -/
/-- whether k is one of the first j multiples of m from st on -/
def hit (st m j k : Nat) : Bool := decide (m ∣ k) && decide (st ≤ k) && decide (k < st + j * m)
theorem hit_zero (st m k : Nat) : hit st m 0 k = false := by
  unfold hit
  rw [Bool.eq_false_iff]
  intro z
  simp only [Bool.and_eq_true, decide_eq_true_eq] at z
  omega
theorem hit_next {st m j k : Nat} (hm : 0 < m) (hd : m ∣ st) : hit st m (j + 1) k = (hit st m j k || decide (k = st + j * m)) := by
  unfold hit
  rw [Bool.eq_iff_iff]
  simp only [Bool.and_eq_true, Bool.or_eq_true, decide_eq_true_eq, Nat.succ_mul]
  constructor
  · rintro ⟨⟨h1, h2⟩, h3⟩
    by_cases e : k < st + j * m
    · exact .inl ⟨⟨h1, h2⟩, e⟩
    · refine .inr ?_
      have d : m ∣ k - (st + j * m) := Nat.dvd_sub h1 (Nat.dvd_add hd (Nat.dvd_mul_left m j))
      rcases Nat.eq_zero_or_pos (k - (st + j * m)) with z | z
      · omega
      · have := Nat.le_of_dvd z d
        omega
  · rintro (⟨⟨h1, h2⟩, h3⟩ | rfl)
    · exact ⟨⟨h1, h2⟩, by omega⟩
    · exact ⟨⟨Nat.dvd_add hd (Nat.dvd_mul_left m j), Nat.le_add_right _ _⟩, by omega⟩
theorem hit_here {st m j : Nat} : hit st m j (st + j * m) = false := by
  unfold hit
  simp
theorem hit_done {st m k : Nat} {hi : Int} (hm : 0 < m) (hd : m ∣ st) (hk : (k : Int) < hi) : hit st m (turns st hi m) k = (decide (m ∣ k) && decide (st ≤ k)) := by
  unfold hit
  by_cases h1 : m ∣ k
  · by_cases h2 : st ≤ k
    · rw [decide_eq_true h1, decide_eq_true h2]
      simp only [Bool.true_and]
      refine decide_eq_true ?_
      obtain ⟨c, hc⟩ := Nat.dvd_sub h1 hd
      have e : k = st + c * m := by rw [Nat.mul_comm]; omega
      have := turns_mem (i := st) (j := hi) (c := m) (k := c) (by omega) (by
        have : (k : Int) = (st : Int) + (c : Int) * (m : Int) := by rw [e, Int.natCast_add, Int.natCast_mul]
        omega)
      have := Nat.mul_lt_mul_of_pos_right this hm
      omega
    · rw [decide_eq_false h2]
      simp
  · rw [decide_eq_false h1]
    simp
/-- the list, j of the multiples set; what stands at i belongs to the number i + off -/
def hitL (N off st m j : Nat) (f g : Nat → V) : List V := (List.range N).map fun i => if hit st m j (i + off) then f i else g i
section
variable {N off st m j : Nat} {f g : Nat → V}
theorem hitL_zero : hitL N off st m 0 f g = (List.range N).map g := by
  unfold hitL
  refine List.map_congr_left fun i _ => ?_
  rw [hit_zero]
  rfl
theorem hitL_len : (hitL N off st m j f g).length = N := len_map_range
theorem hitL_get {i : Nat} (e : i + off = st + j * m) (h : i < N) : atI (hitL N off st m j f g) (i : Int) = some (g i) := by
  unfold hitL
  rw [map_range_at h, e, hit_here]
  rfl
theorem hitL_set {i : Nat} (hm : 0 < m) (hd : m ∣ st) (e : i + off = st + j * m) : (hitL N off st m j f g).set i (f i) = hitL N off st m (j + 1) f g := by
  unfold hitL
  rw [map_range_set]
  refine List.map_congr_left fun k _ => ?_
  rw [hit_next hm hd]
  by_cases ek : k = i
  · rw [if_pos ek, ← e, ek, decide_eq_true rfl, Bool.or_true]
    rfl
  · rw [if_neg ek, decide_eq_false (show ¬ k + off = st + j * m by omega), Bool.or_false]
theorem hitL_done {hi : Int} (hm : 0 < m) (hd : m ∣ st) (hN : ((N + off : Nat) : Int) ≤ hi) : hitL N off st m (turns st hi m) f g = (List.range N).map fun i => if m ∣ i + off ∧ st ≤ i + off then f i else g i := by
  unfold hitL
  refine List.map_congr_left fun i hi' => ?_
  have := List.mem_range.mp hi'
  rw [hit_done hm hd (by omega)]
  by_cases h1 : m ∣ i + off <;> by_cases h2 : st ≤ i + off <;> simp [h1, h2]
/-- a turn's place -/
theorem hit_place {hi : Int} (hm : 0 < m) (hj : j < turns st hi m) (hN : hi ≤ ((N + off : Nat) : Int)) (ho : off ≤ st) : ∃ i, i < N ∧ i + off = st + j * m ∧ (st : Int) + (j : Int) * (m : Int) = ((i + off : Nat) : Int) := by
  have lt := turns_lt (by omega) hj
  have e : (st : Int) + (j : Int) * (m : Int) = ((st + j * m : Nat) : Int) := by rw [Int.natCast_add, Int.natCast_mul]
  refine ⟨st + j * m - off, ?_, by omega, by omega⟩
  rw [e] at lt
  omega
end

end
end M
namespace M
/-! primes -/
def Pr (p : Nat) : Prop := 2 ≤ p ∧ ∀ d, d < p → 2 ≤ d → ¬ d ∣ p
instance (p : Nat) : Decidable (Pr p) := by unfold Pr; exact inferInstance
theorem Pr.two {p : Nat} (h : Pr p) : 2 ≤ p := h.1
theorem Pr.dvd {p d : Nat} (h : Pr p) (hd : d ∣ p) : d = 1 ∨ d = p := by
  have h0 : d ≠ 0 := by
    rintro rfl
    have := Nat.eq_zero_of_zero_dvd hd
    have := h.1
    omega
  have h1 := Nat.le_of_dvd (by have := h.1; omega) hd
  by_cases h2 : d = p
  · exact .inr h2
  · by_cases h3 : 2 ≤ d
    · exact (h.2 d (by omega) h3 hd).elim
    · exact .inl (by omega)
theorem Pr.coprime {p a : Nat} (h : Pr p) (ha : ¬ p ∣ a) : Nat.Coprime p a := by
  rcases h.dvd (Nat.gcd_dvd_left p a) with e | e
  · exact e
  · exact (ha (by rw [← e]; exact Nat.gcd_dvd_right p a)).elim
/-- Euclid -/
theorem Pr.mul {p a b : Nat} (h : Pr p) (hd : p ∣ a * b) : p ∣ a ∨ p ∣ b := by
  by_cases ha : p ∣ a
  · exact .inl ha
  · exact .inr (Nat.Coprime.dvd_of_dvd_mul_left (h.coprime ha) hd)
theorem Pr.pow {p a : Nat} (h : Pr p) : ∀ {k : Nat}, p ∣ a ^ k → p ∣ a
  | 0, hd => by
    rw [Nat.pow_zero] at hd
    have := Nat.le_of_dvd (by decide) hd
    have := h.1
    omega
  | k + 1, hd => by
    rw [Nat.pow_succ] at hd
    rcases h.mul hd with h1 | h1
    · exact h.pow h1
    · exact h1
theorem Pr.eq_of_dvd {p q : Nat} (h : Pr p) (hq : Pr q) (hd : p ∣ q) : p = q := by
  rcases hq.dvd hd with e | e
  · have := h.1
    omega
  · exact e
/-- the least divisor above 1 -/
theorem least_div : ∀ {n : Nat}, 2 ≤ n → ∃ p, Pr p ∧ p ∣ n ∧ (p = n ∨ p * p ≤ n) ∧ ∀ d, 2 ≤ d → d ∣ n → p ≤ d := by
  intro n hn
  have ex : ∃ d, 2 ≤ d ∧ d ∣ n := ⟨n, hn, Nat.dvd_refl n⟩
  have key : ∀ k : Nat, (∃ d, d ≤ k ∧ 2 ≤ d ∧ d ∣ n) → ∃ p, 2 ≤ p ∧ p ∣ n ∧ ∀ d, 2 ≤ d → d ∣ n → p ≤ d := by
    intro k
    induction k with
    | zero =>
      rintro ⟨d, h1, h2, _⟩
      omega
    | succ k ih =>
      intro h
      by_cases hk : ∃ d, d ≤ k ∧ 2 ≤ d ∧ d ∣ n
      · exact ih hk
      · obtain ⟨d, h1, h2, h3⟩ := h
        refine ⟨d, h2, h3, fun e he hd => ?_⟩
        rcases Nat.lt_or_ge e d with h4 | h4
        · exact (hk ⟨e, by omega, he, hd⟩).elim
        · exact h4
  obtain ⟨p, h1, h2, h3⟩ := key n ⟨n, Nat.le_refl n, hn, Nat.dvd_refl n⟩
  refine ⟨p, ⟨h1, fun d hd hd2 hdp => ?_⟩, h2, ?_, h3⟩
  · have := h3 d hd2 (Nat.dvd_trans hdp h2)
    omega
  · obtain ⟨m, hm⟩ := h2
    by_cases hm1 : m ≤ 1
    · left
      have : m ≠ 0 := by
        rintro rfl
        omega
      have : m = 1 := by omega
      rw [hm, this, Nat.mul_one]
    · right
      have := h3 m (by omega) ⟨p, by rw [hm, Nat.mul_comm]⟩
      rw [hm]
      exact Nat.mul_le_mul_left p this
theorem prime_div {n : Nat} (hn : 2 ≤ n) : ∃ p, Pr p ∧ p ∣ n := by
  obtain ⟨p, h1, h2, _⟩ := least_div hn
  exact ⟨p, h1, h2⟩
theorem not_pr_has {n : Nat} (hn : 2 ≤ n) (h : ¬ Pr n) : ∃ p, Pr p ∧ p ∣ n ∧ p * p ≤ n ∧ p < n := by
  obtain ⟨p, h1, h2, h3, _⟩ := least_div hn
  rcases h3 with rfl | h3
  · exact (h h1).elim
  · have : p < p * p := by
      have := h1.1
      have := Nat.mul_le_mul_left p this
      omega
    exact ⟨p, h1, h2, h3, by omega⟩
/-- the primes to a bound -/
def primesTo (n : Nat) : List Nat := (List.range (n + 1)).filter fun k => decide (Pr k)
theorem mem_primesTo {n p : Nat} : p ∈ primesTo n ↔ p ≤ n ∧ Pr p := by
  unfold primesTo
  rw [List.mem_filter, List.mem_range, decide_eq_true_eq, Nat.lt_succ_iff]
theorem primesTo_succ (n : Nat) : primesTo (n + 1) = primesTo n ++ if Pr (n + 1) then [n + 1] else [] := by
  unfold primesTo
  rw [List.range_succ, List.filter_append]
  congr 1
  by_cases h : Pr (n + 1)
  · simp [h]
  · simp [h]
theorem not_pr0 : ¬ Pr 0 := by decide
theorem not_pr1 : ¬ Pr 1 := by decide
theorem primesTo_one : primesTo 1 = [] := by decide
/-! the sieve: after the numbers below m, k stands where no prime below m whose square is at most k goes into it -/
def sieved (m k : Nat) : Bool := decide (∀ q, q < m → Pr q → q * q ≤ k → ¬ q ∣ k)
theorem sieved_prime {m : Nat} (h : 2 ≤ m) : sieved m m = decide (Pr m) := by
  unfold sieved
  by_cases hp : Pr m
  · rw [decide_eq_true hp, decide_eq_true]
    intro q h1 h2 h3 h4
    have := h2.eq_of_dvd hp h4
    omega
  · rw [decide_eq_false hp, decide_eq_false]
    intro h1
    obtain ⟨p, a, b, c, d⟩ := not_pr_has h hp
    exact h1 p d a c b
theorem sieved_next_not {m k : Nat} (h : ¬ Pr m) : sieved (m + 1) k = sieved m k := by
  unfold sieved
  refine decide_eq_decide.mpr ⟨fun z q h1 => z q (by omega), fun z q h1 h2 => ?_⟩
  by_cases e : q = m
  · subst e
    exact (h h2).elim
  · exact z q (by omega) h2
theorem sieved_next {m k : Nat} (h : Pr m) : sieved (m + 1) k = (sieved m k && !(decide (m * m ≤ k) && decide (m ∣ k))) := by
  unfold sieved
  by_cases h1 : m * m ≤ k ∧ m ∣ k
  · rw [decide_eq_true h1.1, decide_eq_true h1.2, decide_eq_false]
    · simp
    · intro z
      exact z m (by omega) h h1.1 h1.2
  · have : (decide (m * m ≤ k) && decide (m ∣ k)) = false := by
      rw [Bool.eq_false_iff]
      intro z
      simp only [Bool.and_eq_true, decide_eq_true_eq] at z
      exact h1 z
    rw [this, Bool.not_false, Bool.and_true]
    refine decide_eq_decide.mpr ⟨fun z q h2 => z q (by omega), fun z q h2 h3 h4 h5 => ?_⟩
    by_cases e : q = m
    · subst e
      exact h1 ⟨h4, h5⟩
    · exact z q (by omega) h3 h4 h5
theorem sieved_two (k : Nat) : sieved 2 k = true := by
  unfold sieved
  refine decide_eq_true fun q h1 h2 => ?_
  have := h2.1
  omega
/-! primes in a row -/
theorem Pr.sq_bound {n : Nat} (hn : 2 ≤ n) (h : ∀ q, Pr q → q * q ≤ n → ¬ q ∣ n) : Pr n := by
  refine Classical.byContradiction fun z => ?_
  obtain ⟨p, a, b, c, _⟩ := not_pr_has hn z
  exact h p a c b

end M
namespace M
open PySem PySem.Spec PyProof.Rows L2 G
section
variable {P : Program} {w : World} {K : PySem.W.Frag} {mg : Str → Option Value} {base : Heap}
/-! the primes to a bound, by a sieve -/
def sp_primes_to (_ : PySem.W.Frag) : Sp := spec1 fun x H Q _ => ∃ n : Nat, x = .int n ∧ n ≤ 1000000 ∧ ∀ p H', Same H H' → H p = none → H' p = some (.lst (nsV (primesTo n))) → Q (.ref p) H'
theorem primesTo_len (n : Nat) : (primesTo n).length ≤ n + 1 := by
  unfold primesTo
  have := List.length_filter_le (fun k => decide (Pr k)) (List.range (n + 1))
  rw [List.length_range] at this
  exact this
theorem ok_primes_to {af : Addr} {fd : FuncData} (F : FunD K "primes_to" "primes_to" (defArgs s_primes_to) (defBody s_primes_to) (defScope s_primes_to) [] [] af fd) (B : Bt mg)  : FnG P w K mg base CX0 1 af fd ["most"] (sp_primes_to K) := by
  refine okG F sc_primes_to ar1 fun cdv A outer s H vs Q E hg hr h => ?_
  refine ⟨_, PSs.nox (pss_cons (ps_set (i := 1) sc_primes_to.nd rfl (.inl rfl) (pe_op op_rep (pe_lst (pa_cons pe_bl pa_nil)) (pe_op op_add (pv 0) pe_int)))
    (pss_cons (ps_set (i := 2) sc_primes_to.nd rfl (.inl rfl) (pe_lst pa_nil))
    (pss_cons (ps_for PassesOwn.never rfl (pi_range2 rfl B.range (pa_cons pe_int (pa_cons (pe_op op_add (pv 0) pe_int) pa_nil))) (pg_name (i := 3) sc_primes_to.nd rfl (.inl rfl))
      (pss_one (ps_if (pt_val (pe_ix ix_list (pv 1) (pv 3) (fun _ _ => rfl)))
        (pss_cons (ps_expr (pe_bm PySem.F.plainAttrs_list PySem.F.slot_list_append PySem.F.type_list_append mt_append (pv 2) (pa_cons (pv 3) pa_nil)))
        (pss_one (ps_for PassesOwn.never rfl (pi_rangeW rfl B.range (pa_cons (pe_op op_mul (pv 3) (pv 3)) (pa_cons (pe_op op_add (pv 0) pe_int) (pa_cons (pv 3) pa_nil)))) (pg_name (i := 4) sc_primes_to.nd rfl (.inl rfl))
          (pss_one (ps_asg pe_bl (pg_sub (pv 1) (pv 4) set_list))))))
        pss_nil)))
    (pss_one (ps_ret (pv 2)))))), ?_⟩
  obtain ⟨_, rfl, n, rfl, hn, q⟩ := h
  refine ⟨sz1, fun l hl => ⟨_, rfl, _, _, rfl, rfl, l, _, _, rfl, rfl, upd_same, by omega, by omega, small_sz (by show 1 * _ ≤ _; omega), fun mk hmk => ?_⟩⟩
  have e1 : ((n : Int) + 1).toNat = n + 1 := by omega
  have z1 : H l = none := hl
  have z2 : H mk = none := (Same.new (Same.refl H) hl).free hmk
  refine ⟨sz0, fun fd hfd => ?_⟩
  have s1 := (Same.new (o := .lst [V.bl true]) (Same.refl H) hl)
  have s2 := s1.new (o := .lst (List.replicate ((n : Int) + 1).toNat [V.bl true]).flatten) hmk
  have z3 : H fd = none := s2.free hfd
  have nmf : mk ≠ fd := ne_of_none upd_same hfd
  refine ⟨_, rfl, _, _, rfl, rfl, _, _, rfl, ⟨by omega, by omega, by omega, by omega⟩, for_range (lo := 2) (fun i σ H' => ∃ y3 y4 : Option V, σ = [some (.int n), some (.ref mk), some (.ref fd), y3, y4] ∧ Same H H' ∧ H' mk = some (.lst ((List.range (n + 1)).map fun k => V.bl (sieved (i + 2) k))) ∧ H' fd = some (.lst (nsV (primesTo (i + 1))))) ⟨none, none, rfl, s2.new hfd, ?_, upd_same⟩ ?_ ?_⟩
  · rw [upd_ne nmf, upd_same, e1, rep_flat]
    refine congrArg (fun z => some (HO.lst z)) (List.map_congr_left fun k _ => ?_)
    rw [sieved_two]
  · rintro i σ H1 hi ⟨y3, y4, rfl, sm, em, ef⟩
    have hi' : i + 2 ≤ n := by omega
    refine ⟨_, rfl, _, rfl, mk, _, _, .bl (sieved (i + 2) (i + 2)), rfl, rfl, SqL.of em, ?_, _, rfl, ite2 (fun hc => ?_) (fun hc => ?_)⟩
    · have := map_range_at (N := n + 1) (i := i + 2) (f := fun k => V.bl (sieved (i + 2) k)) (by omega)
      rw [show (2 : Int) + (i : Int) = ((i + 2 : Nat) : Int) by omega]
      exact this
    · rw [sieved_prime (by omega)] at hc
      have hp : Pr (i + 2) := of_decide_eq_true hc
      refine ⟨_, rfl, .inl ⟨rfl, _, SqL.of ef⟩, _, rfl, fd, _, _, rfl, rfl, ef, small_lt ?_, ?_⟩
      · unfold nsV
        rw [List.length_map]
        have := primesTo_len (i + 1)
        omega
      have ef2 : nsV (primesTo (i + 1)) ++ [V.int (2 + (i : Int))] = nsV (primesTo (i + 2)) := by
        rw [primesTo_succ (i + 1), if_pos hp, nsV_snoc, show (2 : Int) + (i : Int) = ((i + 1 + 1 : Nat) : Int) by omega]
      rw [ef2]
      refine ⟨_, rfl, _, rfl, _, _, rfl, rfl, mulc ⟨by omega, by omega⟩, _, rfl, _, _, rfl, rfl, _, rfl, _, _, _, rfl, ?_⟩
      have em2 : (2 + (i : Int)) = ((i + 2 : Nat) : Int) := by omega
      rw [em2]
      have sqb : (i + 2) * (i + 2) ≤ 1000000 * 1000000 := Nat.mul_le_mul (by omega) (by omega)
      have sqc : ((i + 2 : Nat) : Int) * ((i + 2 : Nat) : Int) = (((i + 2) * (i + 2) : Nat) : Int) := by rw [Int.natCast_mul]
      have sq0 : 0 < (i + 2) * (i + 2) := Nat.mul_pos (by omega) (by omega)
      rw [sqc]
      generalize hsq : (i + 2) * (i + 2) = sq at *
      generalize hm : i + 2 = m at *
      refine ⟨⟨by omega, by omega, by omega, by omega, by omega, by omega⟩, for_rangeC (fun j σ H2 => ∃ y4 : Option V, σ = [some (.int n), some (.ref mk), some (.ref fd), some (.int (m : Int)), y4] ∧ Same H H2 ∧ H2 mk = some (.lst ((List.range (n + 1)).map fun k => V.bl (sieved m k && !(decide (sq ≤ k) && decide (m ∣ k) && decide (k < sq + j * m))))) ∧ H2 fd = some (.lst (nsV (primesTo m)))) ⟨y4, by rw [← em2] <;> rfl, sm.mut z3, ?_, upd_same⟩ ?_ ?_⟩
      · rw [upd_ne nmf, em]
        congr 2
        refine List.map_congr_left fun k _ => ?_
        have : (decide (sq ≤ k) && decide (m ∣ k) && decide (k < sq + 0 * m)) = false := by
          rw [Bool.eq_false_iff]
          intro z
          simp only [Bool.and_eq_true, decide_eq_true_eq] at z
          omega
        rw [this, Bool.not_false, Bool.and_true]
      · rintro j σ H2 hj ⟨y4, rfl, sm2, em3, ef3⟩
        have lt := turns_lt (by omega) hj
        have lt2 : sq + j * m < n + 1 := by
          have : ((sq + j * m : Nat) : Int) < ((n + 1 : Nat) : Int) := by
            rw [Int.natCast_add, Int.natCast_mul]
            omega
          omega
        have ei : (sq : Int) + (j : Int) * (m : Int) = ((sq + j * m : Nat) : Int) := by rw [Int.natCast_add, Int.natCast_mul]
        refine ⟨_, rfl, _, rfl, mk, _, _, sq + j * m, rfl, rfl, em3, ?_, ?_⟩
        · rw [len_map_range, ei]
          exact ixN_nat lt2
        · refine ⟨_, rfl, sm2.mut z2, ?_, (upd_ne nmf.symm).trans ef3⟩
          rw [upd_same, map_range_set]
          congr 2
          refine List.map_congr_left fun k _ => ?_
          by_cases ek : k = sq + j * m
          · rw [if_pos ek]
            have d : m ∣ k := by
              rw [ek, ← hsq]
              exact (Nat.dvd_add_right (Nat.dvd_mul_left m m)).mpr (Nat.dvd_mul_left m j)
            have a1 : sq ≤ k := by rw [ek]; exact Nat.le_add_right _ _
            have a2 : k < sq + (j + 1) * m := by rw [ek, Nat.succ_mul]; omega
            simp [d, a1, a2]
          · rw [if_neg ek]
            congr 3
            by_cases d : m ∣ k
            · by_cases a1 : sq ≤ k
              · simp only [d, a1, decide_true, Bool.true_and]
                refine decide_eq_decide.mpr ⟨fun z => by rw [Nat.succ_mul]; omega, fun z => ?_⟩
                rw [Nat.succ_mul] at z
                obtain ⟨c, rfl⟩ := d
                rw [← hsq] at ek z a1 ⊢
                rcases Nat.lt_or_ge c (m + j) with h1 | h1
                · have := Nat.mul_lt_mul_of_pos_left h1 (show 0 < m by omega)
                  rw [Nat.mul_add, Nat.mul_comm m j] at this
                  exact this
                · exfalso
                  have h2 := Nat.mul_le_mul_left m h1
                  rw [Nat.mul_add, Nat.mul_comm m j] at h2
                  rcases Nat.lt_or_ge (m + j) c with h3 | h3
                  · have h4 := Nat.mul_le_mul_left m (show m + j + 1 ≤ c by omega)
                    rw [Nat.mul_add, Nat.mul_add, Nat.mul_comm m j] at h4
                    omega
                  · have : c = m + j := by omega
                    subst this
                    apply ek
                    rw [Nat.mul_add, Nat.mul_comm m j]
              · simp [a1]
            · simp [d]
      · rintro σ H2 ⟨y4, rfl, sm2, em3, ef3⟩
        refine ⟨_, _, rfl, sm2, ?_, ?_⟩
        · rw [em3]
          congr 2
          refine List.map_congr_left fun k hk => ?_
          have hk' : k < n + 1 := List.mem_range.mp hk
          rw [show i + 1 + 2 = m + 1 by omega, sieved_next hp, hsq]
          congr 3
          by_cases d : m ∣ k
          · by_cases a1 : sq ≤ k
            · simp only [d, a1, decide_true, Bool.true_and]
              refine decide_eq_true ?_
              obtain ⟨c, rfl⟩ := d
              have hcm : m ≤ c := Nat.le_of_mul_le_mul_left (by rw [hsq]; exact a1) (by omega)
              obtain ⟨t, rfl⟩ := Nat.exists_eq_add_of_le hcm
              have ek : m * (m + t) = sq + t * m := by rw [Nat.mul_add, hsq, Nat.mul_comm m t]
              have := turns_mem (i := sq) (j := (n : Int) + 1) (c := m) (k := t) (by omega) (by
                have : ((sq + t * m : Nat) : Int) < ((n + 1 : Nat) : Int) := by omega
                rw [Int.natCast_add, Int.natCast_mul] at this
                omega)
              rw [ek]
              have := Nat.mul_lt_mul_of_pos_right this (show 0 < m by omega)
              omega
            · simp [a1]
          · simp [d]
        · exact ef3
    · rw [sieved_prime (by omega)] at hc
      have hp : ¬ Pr (i + 2) := fun z => hc (decide_eq_true z)
      refine ⟨_, _, rfl, sm, ?_, ?_⟩
      · rw [em]
        congr 2
        refine List.map_congr_left fun k _ => ?_
        rw [show i + 1 + 2 = (i + 2) + 1 by omega, sieved_next_not hp]
      · rw [ef, primesTo_succ (i + 1), if_neg hp, List.append_nil]
  · rintro σ H1 ⟨y3, y4, rfl, sm, em, ef⟩
    refine ⟨_, rfl, q fd H1 sm z3 ?_⟩
    rw [ef]
    by_cases h1 : 1 ≤ n
    · rw [show ((n : Int) + 1 - 2).toNat + 1 = n by omega]
    · have : n = 0 := by omega
      subst this
      rw [show (((0 : Nat) : Int) + 1 - 2).toNat + 1 = 1 by omega]
      rfl

end
end M
namespace M
/-! powers of primes -/
def facP : List (Nat × Nat) → Nat
  | [] => 1
  | (p, e) :: r => p ^ e * facP r
/-- primes from b on, rising, exponents from 1 on -/
def FacOk : Nat → List (Nat × Nat) → Prop
  | _, [] => True
  | b, (p, e) :: r => b ≤ p ∧ Pr p ∧ 1 ≤ e ∧ FacOk (p + 1) r
/-- the powers of n -/
def FacOf (L : List (Nat × Nat)) (n : Nat) : Prop := FacOk 0 L ∧ facP L = n
theorem FacOk.mono {b c : Nat} (h : c ≤ b) : ∀ {L : List (Nat × Nat)}, FacOk b L → FacOk c L
  | [], _ => True.intro
  | (_, _) :: _, ⟨h1, h2, h3, h4⟩ => ⟨Nat.le_trans h h1, h2, h3, h4⟩
theorem FacOk.mem : ∀ {b : Nat} {L : List (Nat × Nat)} {x : Nat × Nat}, FacOk b L → x ∈ L → b ≤ x.1 ∧ Pr x.1 ∧ 1 ≤ x.2
  | b, (p, e) :: r, x, ⟨h1, h2, h3, h4⟩, hx => by
    rcases List.mem_cons.mp hx with rfl | hx
    · exact ⟨h1, h2, h3⟩
    · obtain ⟨a, c, d⟩ := FacOk.mem h4 hx
      exact ⟨by omega, c, d⟩
theorem FacOk.pos : ∀ {b : Nat} {L : List (Nat × Nat)}, FacOk b L → 0 < facP L
  | _, [], _ => by decide
  | _, (p, e) :: r, ⟨_, h2, _, h4⟩ => Nat.mul_pos (Nat.pow_pos (by have := h2.1; omega)) (FacOk.pos h4)
theorem FacOk.snoc : ∀ {b p e : Nat} {L : List (Nat × Nat)}, FacOk b L → (∀ x ∈ L, x.1 < p) → b ≤ p → Pr p → 1 ≤ e → FacOk b (L ++ [(p, e)])
  | b, p, e, [], _, _, h1, h2, h3 => ⟨h1, h2, h3, True.intro⟩
  | b, p, e, (q, f) :: r, ⟨g1, g2, g3, g4⟩, hx, h1, h2, h3 =>
    ⟨g1, g2, g3, FacOk.snoc g4 (fun x hm => hx x (List.mem_cons_of_mem _ hm)) (hx _ List.mem_cons_self) h2 h3⟩
theorem facP_snoc (L : List (Nat × Nat)) (p e : Nat) : facP (L ++ [(p, e)]) = facP L * p ^ e := by
  induction L with
  | nil => simp [facP]
  | cons x r ih =>
    obtain ⟨q, f⟩ := x
    rw [List.cons_append, facP, facP, ih, Nat.mul_assoc]
theorem FacOk.dvd : ∀ {b q : Nat} {L : List (Nat × Nat)}, FacOk b L → Pr q → q ∣ facP L → ∃ x ∈ L, x.1 = q
  | _, q, [], _, hq, hd => by
    have := Nat.le_of_dvd (by decide) (show q ∣ 1 from hd)
    have := hq.1
    omega
  | _, q, (p, e) :: r, ⟨_, h2, _, h4⟩, hq, hd => by
    rcases hq.mul hd with h | h
    · exact ⟨_, List.mem_cons_self, (hq.eq_of_dvd h2 (hq.pow h)).symm⟩
    · obtain ⟨x, hx, e⟩ := FacOk.dvd h4 hq h
      exact ⟨x, List.mem_cons_of_mem _ hx, e⟩
theorem dvd_pow_self {p e : Nat} (h : 1 ≤ e) : p ∣ p ^ e := by
  obtain ⟨k, rfl⟩ : ∃ k, e = k + 1 := ⟨e - 1, by omega⟩
  rw [Nat.pow_succ]
  exact Nat.dvd_mul_left p _
theorem not_dvd_rest {p : Nat} {r : List (Nat × Nat)} (hp : Pr p) (h : FacOk (p + 1) r) : ¬ p ∣ facP r := by
  intro hd
  obtain ⟨x, hx, e⟩ := h.dvd hp hd
  have := (h.mem hx).1
  omega
theorem pow_cancel {p : Nat} (hp : Pr p) : ∀ {e f a b : Nat}, ¬ p ∣ a → ¬ p ∣ b → p ^ e * a = p ^ f * b → e = f ∧ a = b
  | 0, 0, a, b, _, _, h => by simpa using h
  | 0, f + 1, a, b, ha, _, h => by
    exfalso
    apply ha
    rw [Nat.pow_zero, Nat.one_mul] at h
    rw [h, Nat.pow_succ, Nat.mul_assoc, Nat.mul_left_comm]
    exact Nat.dvd_mul_right p _
  | e + 1, 0, a, b, _, hb, h => by
    exfalso
    apply hb
    rw [Nat.pow_zero, Nat.one_mul] at h
    rw [← h, Nat.pow_succ, Nat.mul_assoc, Nat.mul_left_comm]
    exact Nat.dvd_mul_right p _
  | e + 1, f + 1, a, b, ha, hb, h => by
    rw [Nat.pow_succ, Nat.pow_succ, Nat.mul_right_comm, Nat.mul_right_comm (p ^ f)] at h
    have h' := Nat.eq_of_mul_eq_mul_right (show 0 < p by have := hp.1; omega) h
    obtain ⟨h1, h2⟩ := pow_cancel hp ha hb h'
    exact ⟨by omega, h2⟩
/-- each number has just one -/
theorem fac_uniq : ∀ {b c : Nat} {L M : List (Nat × Nat)}, FacOk b L → FacOk c M → facP L = facP M → L = M
  | _, _, [], [], _, _, _ => rfl
  | _, _, [], (q, f) :: s, _, ⟨_, h2, h3, h4⟩, h => by
    exfalso
    have hd : q ∣ facP [] := by rw [h]; exact Nat.dvd_trans (dvd_pow_self h3) (Nat.dvd_mul_right _ _)
    have := Nat.le_of_dvd (by decide) (show q ∣ 1 from hd)
    have := h2.1
    omega
  | _, _, (p, e) :: r, [], ⟨_, h2, h3, h4⟩, _, h => by
    exfalso
    have hd : p ∣ facP [] := by rw [← h]; exact Nat.dvd_trans (dvd_pow_self h3) (Nat.dvd_mul_right _ _)
    have := Nat.le_of_dvd (by decide) (show p ∣ 1 from hd)
    have := h2.1
    omega
  | _, _, (p, e) :: r, (q, f) :: s, h1@⟨_, p2, p3, p4⟩, h2@⟨_, q2, q3, q4⟩, h => by
    have d1 : p ∣ facP ((q, f) :: s) := by rw [← h]; exact Nat.dvd_trans (dvd_pow_self p3) (Nat.dvd_mul_right _ _)
    have d2 : q ∣ facP ((p, e) :: r) := by rw [h]; exact Nat.dvd_trans (dvd_pow_self q3) (Nat.dvd_mul_right _ _)
    have e1 : q ≤ p := by
      obtain ⟨x, hx, ex⟩ := FacOk.dvd h2 p2 d1
      rcases List.mem_cons.mp hx with rfl | hx
      · exact Nat.le_of_eq ex
      · have := (q4.mem hx).1
        omega
    have e2 : p ≤ q := by
      obtain ⟨x, hx, ex⟩ := FacOk.dvd h1 q2 d2
      rcases List.mem_cons.mp hx with rfl | hx
      · exact Nat.le_of_eq ex
      · have := (p4.mem hx).1
        omega
    have epq : p = q := Nat.le_antisymm e2 e1
    subst epq
    obtain ⟨e3, e4⟩ := pow_cancel p2 (not_dvd_rest p2 p4) (not_dvd_rest p2 q4) h
    subst e3
    rw [fac_uniq p4 q4 e4]
theorem FacOf.uniq {L M : List (Nat × Nat)} {n : Nat} (h : FacOf L n) (h' : FacOf M n) : L = M := fac_uniq h.1 h'.1 (h.2.trans h'.2.symm)
theorem FacOf.prime {n : Nat} (h : Pr n) : FacOf [(n, 1)] n := ⟨⟨Nat.zero_le _, h, Nat.le_refl 1, True.intro⟩, by simp [facP]⟩
theorem FacOf.is_prime {L : List (Nat × Nat)} {n : Nat} (h : FacOf L n) : L = [(n, 1)] ↔ Pr n := by
  constructor
  · rintro rfl
    exact h.1.2.1
  · intro hp
    exact h.uniq (.prime hp)
/-- how a number is stripped of p -/
theorem strip_ex {p : Nat} (hp : 2 ≤ p) : ∀ n : Nat, 0 < n → ∃ e m, n = m * p ^ e ∧ ¬ p ∣ m ∧ 0 < m := by
  intro n
  induction n using Nat.strongRecOn with
  | ind n ih =>
    intro h0
    by_cases hd : p ∣ n
    · obtain ⟨k, rfl⟩ := hd
      have hk : 0 < k := by
        rcases Nat.eq_zero_or_pos k with e | e
        · rw [e] at h0
          omega
        · exact e
      have hlt : k < p * k := by
        have := Nat.mul_le_mul_right k hp
        omega
      obtain ⟨e, m, h1, h2, h3⟩ := ih k hlt hk
      exact ⟨e + 1, m, by rw [h1, Nat.pow_succ, Nat.mul_comm p, Nat.mul_assoc], h2, h3⟩
    · exact ⟨0, n, by simp, hd, h0⟩
theorem fac_from : ∀ (k b n : Nat), n ≤ k → 0 < n → (∀ q, Pr q → q ∣ n → b ≤ q) → ∃ L, FacOk b L ∧ facP L = n := by
  intro k
  induction k with
  | zero => intro b n h1 h2; omega
  | succ k ih =>
    intro b n h1 h2 h3
    by_cases hn : 2 ≤ n
    · obtain ⟨p, hp, hd, _, hl⟩ := least_div hn
      obtain ⟨e, m, a1, a2, a3⟩ := strip_ex hp.1 n h2
      have he : 1 ≤ e := by
        rcases Nat.eq_zero_or_pos e with z | z
        · subst z
          rw [Nat.pow_zero, Nat.mul_one] at a1
          subst a1
          exact (a2 hd).elim
        · exact z
      have hm : m < n := by
        have h5 : 2 ≤ p ^ e := Nat.le_trans hp.1 (Nat.le_of_dvd (Nat.pow_pos (by have := hp.1; omega)) (dvd_pow_self he))
        have := Nat.mul_le_mul_left m h5
        omega
      obtain ⟨L, l1, l2⟩ := ih (p + 1) m (by omega) a3 (fun q hq hqd => by
        have h5 := hl q hq.1 (by rw [a1]; exact Nat.dvd_trans hqd (Nat.dvd_mul_right _ _))
        rcases Nat.eq_or_lt_of_le h5 with z | z
        · subst z
          exact (a2 hqd).elim
        · omega)
      exact ⟨(p, e) :: L, ⟨h3 p hp hd, hp, he, l1⟩, by rw [facP, l2, a1, Nat.mul_comm]⟩
    · have : n = 1 := by omega
      subst this
      exact ⟨[], True.intro, rfl⟩
theorem fac_ex {n : Nat} (h : 0 < n) : ∃ L, FacOf L n := by
  obtain ⟨L, h1, h2⟩ := fac_from n 0 n (Nat.le_refl n) h fun _ _ _ => Nat.zero_le _
  exact ⟨L, h1, h2⟩
/-! trial division -/
/-- no prime below p goes into m -/
def Rough (p m : Nat) : Prop := ∀ q, Pr q → q ∣ m → p ≤ q
theorem Rough.two (m : Nat) : Rough 2 m := fun _ h _ => h.1
theorem Rough.of_dvd {p m k : Nat} (h : Rough p m) (hd : k ∣ m) : Rough p k := fun q hq hqd => h q hq (Nat.dvd_trans hqd hd)
theorem Rough.prime {p m : Nat} (h : Rough p m) (hp : 2 ≤ p) (hd : p ∣ m) : Pr p := by
  obtain ⟨q, hq, hqd, _⟩ := least_div hp
  have h1 := h q hq (Nat.dvd_trans hqd hd)
  have h2 := Nat.le_of_dvd (by omega) hqd
  have : q = p := by omega
  rw [← this]
  exact hq
theorem Rough.next2 {m : Nat} (h : Rough 2 m) (hd : ¬ 2 ∣ m) : Rough 3 m := fun q hq hqd => by
  have h1 := h q hq hqd
  rcases Nat.eq_or_lt_of_le h1 with z | z
  · subst z
    exact (hd hqd).elim
  · omega
theorem even_not_prime {q : Nat} (h : q % 2 = 0) (h2 : 2 < q) : ¬ Pr q := fun hq => by
  rcases hq.dvd (Nat.dvd_of_mod_eq_zero h) with e | e
  · omega
  · omega
theorem Rough.next {p m : Nat} (h : Rough p m) (hp : p % 2 = 1) (h3 : 3 ≤ p) (hd : ¬ p ∣ m) : Rough (p + 2) m := fun q hq hqd => by
  have h1 := h q hq hqd
  rcases Nat.eq_or_lt_of_le h1 with z | z
  · subst z
    exact (hd hqd).elim
  · rcases Nat.eq_or_lt_of_le (show p + 1 ≤ q from z) with y | y
    · exact (even_not_prime (by omega) (by omega) hq).elim
    · omega
theorem Rough.last {p m : Nat} (h : Rough p m) (hm : 1 < m) (hs : m < p * p) : Pr m := by
  refine Pr.sq_bound hm fun q hq h1 h2 => ?_
  have h3 := h q hq h2
  have := Nat.mul_le_mul h3 h3
  omega

end M
namespace M
open PySem PySem.Spec PyProof.Rows L2 G
section
variable {P : Program} {w : World} {K : PySem.W.Frag} {mg : Str → Option Value} {base : Heap}
/-! the powers of a number, by trial -/
def powD (x : Nat × Nat) : PyData := .tuple [.int x.1, .int x.2]
def sp_powers_of (_ : PySem.W.Frag) : Sp := spec1 fun x H Q _ => ∃ n : Nat, x = .int n ∧ 1 ≤ n ∧ n ≤ 1000000000000 ∧ ∀ L p H', FacOf L n → Same H H' → Rp (New H) H' (.ref p) (.list (L.map powD)) → Q (.ref p) H'
theorem sq_small {p m : Nat} (h : p * p ≤ m) (hm : m ≤ 1000000000000) : p ≤ 1000000 := by
  refine Classical.byContradiction fun z => ?_
  have := Nat.mul_le_mul (show 1000001 ≤ p by omega) (show 1000001 ≤ p by omega)
  omega
theorem facOk_len : ∀ {b : Nat} {L : List (Nat × Nat)}, FacOk b L → ∀ t, (∀ x ∈ L, x.1 < t) → L.length ≤ t - b
  | _, [], _, _, _ => Nat.zero_le _
  | b, (p, e) :: r, ⟨h1, _, _, h4⟩, t, ht => by
    have h5 := facOk_len h4 t fun x hx => ht x (List.mem_cons_of_mem _ hx)
    have h6 : p < t := ht (p, e) List.mem_cons_self
    rw [List.length_cons]
    omega
theorem ok_powers_of {af : Addr} {fd : FuncData} (F : FunD K "powers_of" "powers_of" (defArgs s_powers_of) (defBody s_powers_of) (defScope s_powers_of) [] [] af fd) (B : Bt mg)  : FnG P w K mg base CX0 1 af fd ["number"] (sp_powers_of K) := by
  refine okG F sc_powers_of ar1 fun cdv A outer s H vs Q E hg hr h => ?_
  refine ⟨_, PSs.nox (pss_cons (ps_par3 (i := 1) (j := 2) (l := 3) (by rfl) sc_powers_of.nd rfl rfl rfl (by decide) (by decide) (by decide) rfl rfl rfl (pa_cons (pe_lst pa_nil) (pa_cons (pv 0) (pa_cons pe_int pa_nil))) (by rfl))
    (pss_cons (ps_while PassesOwn.never (pt_cmpR op_le (pe_op op_mul (pv 3) (pv 3)) (pv 2) (nomark _))
      (pss_cons (ps_set (i := 4) sc_powers_of.nd rfl (.inl rfl) pe_int)
      (pss_cons (ps_while PassesOwn.never (pt_cmpR op_eq (pe_op op_mod (pv 2) (pv 3)) pe_int (nomark _))
        (pss_one (ps_par (i := 2) (j := 4) (by rfl) sc_powers_of.nd rfl rfl (by decide) rfl rfl (pa_cons (pe_op op_fdivW (pv 2) (pv 3)) (pa_cons (pe_op op_add (pv 4) pe_int) pa_nil)) (by rfl))))
      (pss_cons (ps_if (pt_cmpR op_gt (pv 4) pe_int (nomark _))
        (pss_one (ps_expr (pe_bm PySem.F.plainAttrs_list PySem.F.slot_list_append PySem.F.type_list_append mt_append (pv 1) (pa_cons (pe_tup (pa_cons (pv 3) (pa_cons (pv 4) pa_nil))) pa_nil))))
        pss_nil)
      (pss_one (ps_set (i := 3) sc_powers_of.nd rfl (.inl rfl) (pe_op op_add (pv 3) (pe_ifExp (pt_cmpR op_eq (pv 3) pe_int (nomark _)) pe_int pe_int))))))))
    (pss_cons (ps_if (pt_cmpR op_gt (pv 2) pe_int (nomark _))
      (pss_one (ps_expr (pe_bm PySem.F.plainAttrs_list PySem.F.slot_list_append PySem.F.type_list_append mt_append (pv 1) (pa_cons (pe_tup (pa_cons (pv 2) (pa_cons pe_int pa_nil))) pa_nil))))
      pss_nil)
    (pss_one (ps_ret (pv 1)))))), ?_⟩
  obtain ⟨_, rfl, n, rfl, h1, h2, q⟩ := h
  refine ⟨sz0, fun fd hfd => ⟨_, rfl, _, _, _, rfl, ?_⟩⟩
  refine ⟨fun m σ H' => ∃ (vs : List V) (acc : List (Nat × Nat)) (left p : Nat) (y : Option V), σ = [some (.int n), some (.ref fd), some (.int left), some (.int p), y] ∧ Same H H' ∧ H' fd = some (.lst vs) ∧ RpA (Nw H fd) H' vs (acc.map powD) ∧ FacOk 0 acc ∧ (∀ x ∈ acc, x.1 < p) ∧ facP acc * left = n ∧ 0 < left ∧ left ≤ n ∧ Rough p left ∧ (p = 2 ∨ 3 ≤ p ∧ p % 2 = 1) ∧ p ≤ 1000002 ∧ m = 1000002 - p,
    ⟨_, [], [], n, 2, none, rfl, Same.new (Same.refl H) hfd, upd_same, .nil, True.intro, by simp, by simp [facP], by omega, Nat.le_refl n, Rough.two n, .inl rfl, by omega, rfl⟩, fun m σ H' hW => ?_⟩
  obtain ⟨vs, acc, left, p, y, rfl, sm, ef, rp, ok, lt, pr, l0, ln, ro, pp, pb, rfl⟩ := hW
  have p2 : 2 ≤ p := by omega
  have vlen : vs.length ≤ 1000002 := by
    rw [rp.length, List.length_map]
    have := facOk_len ok p lt
    omega
  refine ⟨_, rfl, _, rfl, _, _, rfl, rfl, mulc ⟨by omega, by omega⟩, _, rfl, _, _, rfl, rfl, _, rfl, ite2 (fun hc => ?_) (fun hc => ?_)⟩
  · have hc' : p * p ≤ left := by
      have : (p : Int) * (p : Int) ≤ (left : Int) := of_decide_eq_true hc
      rw [← Int.natCast_mul] at this
      omega
    have psm := sq_small hc' (by omega)
    refine ⟨_, fun _ _ z => z, ?_⟩
    -- many = 0, the inner loop
    refine ⟨fun m σ H2 => ∃ l2 many : Nat, σ = [some (.int n), some (.ref fd), some (.int l2), some (.int p), some (.int many)] ∧ H2 = H' ∧ left = l2 * p ^ many ∧ 0 < l2 ∧ l2 ≤ left ∧ l2 = m, ⟨_, left, 0, rfl, rfl, by simp, l0, Nat.le_refl _, rfl⟩, fun m σ H2 hW => ?_⟩
    obtain ⟨l2, many, rfl, rfl, el, l20, l2l, rfl⟩ := hW
    refine ⟨_, rfl, _, rfl, _, _, rfl, rfl, (show (0 : Int) < (p : Int) by omega), rfl, _, rfl, ite2 (fun hd => ?_) (fun hd => ?_)⟩
    · have hd' : p ∣ l2 := by
        have z : (l2 : Int) % (p : Int) = 0 := V.int.inj (of_decide_eq_true hd)
        exact Nat.dvd_of_mod_eq_zero (by omega)
      obtain ⟨k, rfl⟩ := hd'
      have hk : 0 < k := by
        rcases Nat.eq_zero_or_pos k with e | e
        · rw [e] at l20
          omega
        · exact e
      have hlt : k < p * k := by
        have := Nat.mul_le_mul_right k p2
        omega
      have ek : ((p * k : Nat) : Int) / (p : Int) = (k : Int) := by
        rw [Int.natCast_mul, Int.mul_ediv_cancel_left _ (by omega)]
      refine ⟨_, fun _ _ z => z, _, rfl, _, rfl, _, _, rfl, rfl, divw (by omega) (by omega), _, rfl, _, _, rfl, rfl, _, _, rfl, k, by omega, k, many + 1, ?_, rfl, ?_, hk, by omega, rfl⟩
      · show [some (V.int n), some (V.ref fd), some (V.int (((p * k : Nat) : Int) / (p : Int))), some (V.int p), some (V.int ((many : Int) + 1))] = _
        rw [ek, Int.natCast_add]
        rfl
      · rw [el, Nat.pow_succ, Nat.mul_comm p k, Nat.mul_assoc, Nat.mul_comm p]
    · have hd' : ¬ p ∣ l2 := fun z => hd (decide_eq_true (congrArg V.int (by
        have := Nat.mod_eq_zero_of_dvd z
        show (l2 : Int) % (p : Int) = 0
        omega)))
      have ro2 : Rough p l2 := ro.of_dvd ⟨p ^ many, el⟩
      -- what the next turn is
      have next : ∀ (vs' : List V) (acc' : List (Nat × Nat)) (H3 : Hp), Same H H3 → H3 fd = some (.lst vs') → RpA (Nw H fd) H3 vs' (acc'.map powD) → FacOk 0 acc' → (∀ x ∈ acc', x.1 ≤ p) → facP acc' * l2 = n →
          ∃ m', m' < 1000002 - p ∧ ∃ (vs : List V) (acc : List (Nat × Nat)) (left p' : Nat) (y : Option V), [some (V.int n), some (V.ref fd), some (V.int l2), some (V.int ((p : Int) + (if p = 2 then 1 else 2))), some (V.int many)] = [some (.int n), some (.ref fd), some (.int left), some (.int p'), y] ∧ Same H H3 ∧ H3 fd = some (.lst vs) ∧ RpA (Nw H fd) H3 vs (acc.map powD) ∧ FacOk 0 acc ∧ (∀ x ∈ acc, x.1 < p') ∧ facP acc * left = n ∧ 0 < left ∧ left ≤ n ∧ Rough p' left ∧ (p' = 2 ∨ 3 ≤ p' ∧ p' % 2 = 1) ∧ p' ≤ 1000002 ∧ m' = 1000002 - p' := by
        intro vs' acc' H3 s3 e3 r3 o3 lt3 pr3
        by_cases hp2 : p = 2
        · subst hp2
          exact ⟨_, by omega, vs', acc', l2, 3, some (.int many), rfl, s3, e3, r3, o3, fun x hx => Nat.lt_succ_of_le (lt3 x hx), pr3, l20, by omega, ro2.next2 hd', .inr ⟨by omega, by omega⟩, by omega, rfl⟩
        · refine ⟨_, ?_, vs', acc', l2, p + 2, some (.int many), ?_, s3, e3, r3, o3, fun x hx => ?_, pr3, l20, by omega, ro2.next (by omega) (by omega) hd', .inr ⟨by omega, by omega⟩, by omega, rfl⟩
          · omega
          · rw [if_neg hp2, Int.natCast_add]
            rfl
          · have := lt3 x hx
            omega
      have step : ∀ (H3 : Hp) (R : L2.St → Hp → Prop), R [some (V.int n), some (V.ref fd), some (V.int l2), some (V.int ((p : Int) + (if p = 2 then 1 else 2))), some (V.int many)] H3 →
          tAsg (tOp (rI0 fun i j => .int (i + j)) (tVar 3) (tIf (tTest (tOp rEq (tVar 3) (tC (.int 2)))) (tC (.int 1)) (tC (.int 2)))) (gName 3) { nx := R, rt := Q } [some (V.int n), some (V.ref fd), some (V.int l2), some (V.int p), some (V.int many)] H3 := by
        intro H3 R hR
        refine ⟨_, rfl, _, rfl, rfl, _, rfl, ite2 (fun hp2 => ?_) (fun hp2 => ?_)⟩
        · have hp2' : p = 2 := by
            have z : (p : Int) = 2 := V.int.inj (of_decide_eq_true hp2)
            omega
          rw [if_pos hp2'] at hR
          exact ⟨_, _, rfl, rfl, hR⟩
        · have hp2' : ¬ p = 2 := fun z => hp2 (decide_eq_true (by rw [z]; rfl))
          rw [if_neg hp2'] at hR
          exact ⟨_, _, rfl, rfl, hR⟩
      refine ⟨_, rfl, _, _, rfl, rfl, _, rfl, ite2 (fun hm => ?_) (fun hm => ?_)⟩
      · have hm' : 1 ≤ many := by
          have : (0 : Int) < (many : Int) := of_decide_eq_true hm
          omega
        have pprime : Pr p := ro.prime p2 (by rw [el]; exact Nat.dvd_trans (dvd_pow_self hm') (Nat.dvd_mul_left _ _))
        refine ⟨_, rfl, .inl ⟨rfl, _, SqL.of ef⟩, _, rfl, _, rfl, sz2, fun t ht => ?_⟩
        have npt : fd ≠ t := ne_of_none ef ht
        refine ⟨fd, _, _, rfl, rfl, (upd_ne npt).trans ef, small_lt (by omega), step _ _ (next _ (acc ++ [(p, many)]) _ ((sm.new ht).mut hfd) upd_same ?_ (ok.snoc lt (Nat.zero_le _) pprime hm') (fun x hx => ?_) ?_)⟩
        · rw [List.map_append]
          refine ((rp.new ht).put nw_not).snoc ?_
          exact .tup ⟨sm.free ht, npt.symm⟩ ((upd_ne npt.symm).trans upd_same) (RpA.ints [(p : Int), (many : Int)])
        · rcases List.mem_append.mp hx with hx | hx
          · exact Nat.le_of_lt (lt x hx)
          · cases List.mem_singleton.mp hx
            exact Nat.le_refl _
        · rw [facP_snoc, ← pr, el, Nat.mul_assoc, Nat.mul_comm (p ^ many)]
      · have hm' : many = 0 := by
          have : ¬ (0 : Int) < (many : Int) := fun z => hm (decide_eq_true z)
          omega
        refine step _ _ (next _ acc _ sm ef rp ok (fun x hx => Nat.le_of_lt (lt x hx)) ?_)
        rw [← pr, el, hm', Nat.pow_zero, Nat.mul_one]
  · have hc' : left < p * p := by
      have : ¬ (p : Int) * (p : Int) ≤ (left : Int) := fun z => hc (decide_eq_true z)
      rw [← Int.natCast_mul] at this
      omega
    refine ⟨_, rfl, _, _, rfl, rfl, _, rfl, ite2 (fun hm => ?_) (fun hm => ?_)⟩
    · have hm' : 1 < left := by
        have : (1 : Int) < (left : Int) := of_decide_eq_true hm
        omega
      have lp := ro.last hm' hc'
      refine ⟨_, rfl, .inl ⟨rfl, _, SqL.of ef⟩, _, rfl, sz2, fun t ht => ?_⟩
      have npt : fd ≠ t := ne_of_none ef ht
      have fin : FacOf (acc ++ [(left, 1)]) n := ⟨ok.snoc (fun x hx => Nat.lt_of_lt_of_le (lt x hx) (ro left lp (Nat.dvd_refl _))) (Nat.zero_le _) lp (Nat.le_refl 1), by rw [facP_snoc, Nat.pow_one, pr]⟩
      refine ⟨fd, _, _, rfl, rfl, (upd_ne npt).trans ef, small_lt (by omega), _, rfl, q _ fd _ fin ((sm.new ht).mut hfd) (.lst hfd upd_same ?_)⟩
      rw [List.map_append]
      refine RpA.mono (fun _ z => z.1) (fun _ _ _ z => z) _ _ (((rp.new ht).put nw_not).snoc (d := powD (left, 1)) ?_)
      exact .tup ⟨sm.free ht, npt.symm⟩ ((upd_ne npt.symm).trans upd_same) (RpA.ints [(left : Int), 1])
    · have hm' : left = 1 := by
        have : ¬ (1 : Int) < (left : Int) := fun z => hm (decide_eq_true z)
        omega
      exact ⟨_, rfl, q acc fd H' ⟨ok, by rw [← pr, hm', Nat.mul_one]⟩ sm (.lst hfd ef (RpA.mono (fun _ z => z.1) (fun _ _ _ z => z) _ _ rp))⟩

end
end M
namespace M
/-! sums of a row -/
/-- f 1 + .. + f n -/
def sumR (f : Nat → Int) : Nat → Int
  | 0 => 0
  | n + 1 => sumR f n + f (n + 1)
theorem sumR_congr {f g : Nat → Int} : ∀ {n : Nat}, (∀ i, 1 ≤ i → i ≤ n → f i = g i) → sumR f n = sumR g n
  | 0, _ => rfl
  | n + 1, h => by rw [sumR, sumR, sumR_congr fun i h1 h2 => h i h1 (by omega), h (n + 1) (by omega) (by omega)]
theorem sumR_add (f g : Nat → Int) : ∀ n : Nat, sumR (fun i => f i + g i) n = sumR f n + sumR g n
  | 0 => rfl
  | n + 1 => by
    rw [sumR, sumR, sumR, sumR_add f g n]
    omega
theorem sumR_neg (f : Nat → Int) : ∀ n : Nat, sumR (fun i => - f i) n = - sumR f n
  | 0 => rfl
  | n + 1 => by
    rw [sumR, sumR, sumR_neg f n]
    omega
theorem sumR_mul (c : Int) (f : Nat → Int) : ∀ n : Nat, sumR (fun i => c * f i) n = c * sumR f n
  | 0 => by simp [sumR]
  | n + 1 => by rw [sumR, sumR, sumR_mul c f n, Int.mul_add]
theorem sumR_zero {f : Nat → Int} {n : Nat} (h : ∀ i, 1 ≤ i → i ≤ n → f i = 0) : sumR f n = 0 := by
  rw [sumR_congr (g := fun _ => 0) h]
  induction n with
  | zero => rfl
  | succ n ih => rw [sumR, ih fun i h1 h2 => h i h1 (by omega)]; rfl
/-- behind M nothing -/
theorem sumR_trunc {f : Nat → Int} {M : Nat} : ∀ {N : Nat}, M ≤ N → (∀ i, M < i → i ≤ N → f i = 0) → sumR f N = sumR f M
  | 0, h, _ => by
    have : M = 0 := by omega
    rw [this]
  | N + 1, h, z => by
    by_cases e : M = N + 1
    · rw [e]
    · rw [sumR, sumR_trunc (N := N) (by omega) fun i h1 h2 => z i h1 (by omega), z (N + 1) (by omega) (by omega)]
      omega
/-- by whether p goes into -/
theorem sumR_mult {p : Nat} (hp : 0 < p) (f : Nat → Int) : ∀ n : Nat, sumR (fun i => if p ∣ i then f i else 0) n = sumR (fun i => f (p * i)) (n / p)
  | 0 => by simp [sumR]
  | n + 1 => by
    rw [sumR, sumR_mult hp f n, Nat.succ_div]
    by_cases h : p ∣ n + 1
    · rw [if_pos h, if_pos h, sumR]
      congr 1
      have e := Nat.succ_div (a := n) (b := p)
      rw [if_pos h] at e
      rw [← e, Nat.mul_div_cancel' h]
    · rw [if_neg h, if_neg h]
      simp
theorem sumR_split {p : Nat} (hp : 0 < p) (f : Nat → Int) (n : Nat) : sumR f n = sumR (fun i => if p ∣ i then 0 else f i) n + sumR (fun i => f (p * i)) (n / p) := by
  rw [← sumR_mult hp, ← sumR_add]
  refine sumR_congr fun i _ _ => ?_
  split <;> omega
/-- one alone -/
theorem sumR_one {f : Nat → Int} {n k : Nat} (h1 : 1 ≤ k) (h2 : k ≤ n) (h : ∀ i, 1 ≤ i → i ≤ n → i ≠ k → f i = 0) : sumR f n = f k := by
  induction n with
  | zero => omega
  | succ n ih =>
    rw [sumR]
    by_cases e : k = n + 1
    · subst e
      rw [sumR_zero fun i a b => h i a (by omega) (by omega)]
      omega
    · rw [ih (by omega) fun i a b c => h i a (by omega) c, h (n + 1) (by omega) (by omega) (by omega)]
      omega
/-- sums of a list of numbers from 1 on -/
theorem sum_range (f : Nat → Int) : ∀ n : Nat, ((List.range n).map fun i => f (i + 1)).sum = sumR f n
  | 0 => rfl
  | n + 1 => by
    rw [List.range_succ, List.map_append, List.sum_append, sum_range f n, sumR]
    simp

end M
namespace M
/-! signs of numbers -/
def mstep (i : Nat) (s : Int) (p : Nat) : Int := if p * p ∣ i then 0 else if p ∣ i then 0 - s else s
def muL (ps : List Nat) (i : Nat) : Int := ps.foldl (mstep i) 1
def mu (i : Nat) : Int := muL (primesTo i) i
theorem muL_snoc (ps : List Nat) (p i : Nat) : muL (ps ++ [p]) i = mstep i (muL ps i) p := by
  unfold muL
  rw [List.foldl_append]
  rfl
theorem muL_succ (n i : Nat) : muL (primesTo (n + 1)) i = if Pr (n + 1) then mstep i (muL (primesTo n) i) (n + 1) else muL (primesTo n) i := by
  rw [primesTo_succ]
  split
  · rw [muL_snoc]
  · rw [List.append_nil]
theorem muL_more {i : Nat} (hi : 1 ≤ i) : ∀ k : Nat, muL (primesTo (i + k)) i = mu i
  | 0 => rfl
  | k + 1 => by
    rw [show i + (k + 1) = (i + k) + 1 by omega, muL_succ, muL_more hi k]
    split
    · unfold mstep
      have h1 : ¬ (i + k + 1) ∣ i := fun z => by
        have := Nat.le_of_dvd (by omega) z
        omega
      rw [if_neg fun z => h1 (Nat.dvd_trans (Nat.dvd_mul_left _ _) z), if_neg h1]
    · rfl
theorem muL_ge {i n : Nat} (hi : 1 ≤ i) (h : i ≤ n) : muL (primesTo n) i = mu i := by
  obtain ⟨k, rfl⟩ := Nat.exists_eq_add_of_le h
  exact muL_more hi k
theorem mu_one : mu 1 = 1 := by decide
theorem muL_sq {p i : Nat} (hp : Pr p) (hd : p * p ∣ i) : ∀ k : Nat, muL (primesTo (p + k)) i = 0
  | 0 => by
    obtain ⟨q, rfl⟩ : ∃ q, p = q + 1 := ⟨p - 1, by have := hp.1; omega⟩
    rw [Nat.add_zero, muL_succ, if_pos hp]
    unfold mstep
    rw [if_pos hd]
  | k + 1 => by
    rw [show p + (k + 1) = (p + k) + 1 by omega, muL_succ, muL_sq hp hd k]
    unfold mstep
    split
    · split
      · rfl
      · split <;> rfl
    · rfl
theorem mu_sq {p i : Nat} (hp : Pr p) (hd : p * p ∣ i) (hi : 0 < i) : mu i = 0 := by
  have h1 := Nat.le_of_dvd hi hd
  have h2 : p ≤ p * p := Nat.le_mul_of_pos_left p (by have := hp.1; omega)
  obtain ⟨k, hk⟩ := Nat.exists_eq_add_of_le (show p ≤ i by omega)
  unfold mu
  rw [show primesTo i = primesTo (p + k) by rw [← hk]]
  exact muL_sq hp hd k
theorem dvd_mul_pr {p q d : Nat} (hp : Pr p) (hq : Pr q) (h : p ≠ q) : q ∣ p * d ↔ q ∣ d := by
  constructor
  · intro z
    rcases hq.mul z with z | z
    · exact (h (hq.eq_of_dvd hp z).symm).elim
    · exact z
  · exact fun z => Nat.dvd_trans z (Nat.dvd_mul_left d p)
theorem sq_coprime {p a : Nat} (hp : Pr p) (ha : ¬ p ∣ a) : Nat.Coprime (p * p) a := Nat.Coprime.mul_left (hp.coprime ha) (hp.coprime ha)
theorem dvd_mul_sq {p q d : Nat} (hp : Pr p) (hq : Pr q) (h : p ≠ q) : q * q ∣ p * d ↔ q * q ∣ d := by
  have nd : ¬ q ∣ p := fun z => h (hq.eq_of_dvd hp z).symm
  exact ⟨fun z => (sq_coprime hq nd).dvd_of_dvd_mul_left z, fun z => Nat.dvd_trans z (Nat.dvd_mul_left d p)⟩
theorem muL_mul {p d : Nat} (hp : Pr p) (hd : ¬ p ∣ d) : ∀ k : Nat, muL (primesTo k) (p * d) = if p ≤ k then - muL (primesTo k) d else muL (primesTo k) d
  | 0 => by
    rw [if_neg (by have := hp.1; omega)]
    rfl
  | k + 1 => by
    rw [muL_succ, muL_succ, muL_mul hp hd k]
    by_cases hk : Pr (k + 1)
    · rw [if_pos hk, if_pos hk]
      by_cases e : p = k + 1
      · rw [if_neg (by omega), if_pos (by omega), ← e]
        unfold mstep
        have n1 : ¬ p * p ∣ p * d := fun z => hd (Nat.dvd_of_mul_dvd_mul_left (by have := hp.1; omega) z)
        have n2 : ¬ p * p ∣ d := fun z => hd (Nat.dvd_trans (Nat.dvd_mul_left _ _) z)
        rw [if_neg n1, if_pos (Nat.dvd_mul_right p d), if_neg n2, if_neg hd]
        omega
      · unfold mstep
        simp only [dvd_mul_pr hp hk e, dvd_mul_sq hp hk e]
        by_cases l : p ≤ k
        · rw [if_pos l, if_pos (show p ≤ k + 1 by omega)]
          split
          · rfl
          · split <;> omega
        · rw [if_neg l, if_neg (show ¬ p ≤ k + 1 by omega)]
    · rw [if_neg hk, if_neg hk]
      have : p ≠ k + 1 := fun z => hk (by rw [← z]; exact hp)
      by_cases l : p ≤ k
      · rw [if_pos l, if_pos (by omega)]
      · rw [if_neg l, if_neg (by omega)]
theorem mu_mul {p d : Nat} (hp : Pr p) (hd : ¬ p ∣ d) : mu (p * d) = - mu d := by
  have hd0 : 0 < d := by
    rcases Nat.eq_zero_or_pos d with e | e
    · rw [e] at hd
      exact (hd (Nat.dvd_zero p)).elim
    · exact e
  have h1 : d ≤ p * d := Nat.le_mul_of_pos_left d (by have := hp.1; omega)
  have h2 : p ≤ p * d := Nat.le_mul_of_pos_right p hd0
  unfold mu
  rw [muL_mul hp hd, if_pos h2]
  show - muL (primesTo (p * d)) d = - mu d
  rw [muL_ge hd0 h1]
theorem mu_mul_dvd {p d : Nat} (hp : Pr p) (hd : p ∣ d) (h0 : 0 < d) : mu (p * d) = 0 := mu_sq hp (Nat.mul_dvd_mul_left p hd) (Nat.mul_pos (by have := hp.1; omega) h0)
theorem mu_prime {p : Nat} (hp : Pr p) : mu p = -1 := by
  have := mu_mul (d := 1) hp fun z => by
    have := Nat.le_of_dvd (by decide) z
    have := hp.1
    omega
  rw [Nat.mul_one, mu_one] at this
  exact this
/-- by the powers of primes -/
def sgnL (L : List (Nat × Nat)) : Int := if L.any fun x => decide (1 < x.2) then 0 else if L.length % 2 = 0 then 1 else -1
theorem sgnL_cons (p e : Nat) (r : List (Nat × Nat)) (he : 1 ≤ e) : sgnL ((p, e) :: r) = if 1 < e then 0 else - sgnL r := by
  unfold sgnL
  rw [List.any_cons, List.length_cons]
  by_cases h : 1 < e
  · simp [h]
  · simp only [h, decide_false, Bool.false_or, if_false]
    split
    · rfl
    · split <;> split <;> omega
theorem mu_ok : ∀ {b : Nat} {L : List (Nat × Nat)}, FacOk b L → mu (facP L) = sgnL L
  | _, [], _ => by
    show mu 1 = _
    rw [mu_one]
    rfl
  | b, (p, e) :: r, ⟨h1, h2, h3, h4⟩ => by
    rw [sgnL_cons _ _ _ h3]
    have ih := mu_ok h4
    have nd := not_dvd_rest h2 h4
    have pos := FacOk.pos h4
    show mu (p ^ e * facP r) = _
    split
    · rename_i h
      refine mu_sq h2 ?_ (Nat.mul_pos (Nat.pow_pos (by have := h2.1; omega)) pos)
      obtain ⟨k, rfl⟩ : ∃ k, e = k + 2 := ⟨e - 2, by omega⟩
      refine Nat.dvd_trans ?_ (Nat.dvd_mul_right _ _)
      rw [Nat.pow_succ, Nat.pow_succ, Nat.mul_assoc]
      exact Nat.dvd_mul_left _ _
    · have e1 : e = 1 := by omega
      rw [e1, Nat.pow_one, mu_mul h2 nd, ih]
theorem mu_fac {L : List (Nat × Nat)} {n : Nat} (h : FacOf L n) : mu n = sgnL L := by
  rw [← h.2]
  exact mu_ok h.1
theorem mu_small (n : Nat) : mu n = 0 ∨ mu n = 1 ∨ mu n = -1 := by
  unfold mu muL
  generalize primesTo n = ps
  have : ∀ (ps : List Nat) (s : Int), (s = 0 ∨ s = 1 ∨ s = -1) → (ps.foldl (mstep n) s = 0 ∨ ps.foldl (mstep n) s = 1 ∨ ps.foldl (mstep n) s = -1) := by
    intro ps
    induction ps with
    | nil => intro s h; exact h
    | cons p ps ih =>
      intro s h
      refine ih _ ?_
      unfold mstep
      split
      · omega
      · split <;> omega
  exact this ps 1 (by omega)
/-- a number without squares has no prime twice -/
theorem mu_ne {p n : Nat} (h : mu n ≠ 0) (hp : Pr p) (h0 : 0 < n) : ¬ p * p ∣ n := fun z => h (mu_sq hp z h0)
theorem mu_zero_has {n : Nat} (h0 : 0 < n) (h : mu n = 0) : ∃ p, Pr p ∧ p * p ∣ n := by
  obtain ⟨L, hL⟩ := fac_ex h0
  have e := mu_fac hL
  rw [h] at e
  unfold sgnL at e
  split at e
  · rename_i a
    obtain ⟨x, hx, hx2⟩ := List.any_eq_true.mp a
    obtain ⟨p, m⟩ := x
    have hm : 1 < m := of_decide_eq_true hx2
    have ok := hL.1.mem hx
    refine ⟨p, ok.2.1, ?_⟩
    have : p ^ m ∣ facP L := by
      clear e a h hL
      induction L with
      | nil => cases hx
      | cons y r ih =>
        obtain ⟨q, f⟩ := y
        rcases List.mem_cons.mp hx with z | z
        · cases z
          exact Nat.dvd_mul_right _ _
        · exact Nat.dvd_trans (ih z) (Nat.dvd_mul_left _ _)
    rw [hL.2] at this
    obtain ⟨k, rfl⟩ : ∃ k, m = k + 2 := ⟨m - 2, by omega⟩
    refine Nat.dvd_trans ?_ this
    rw [Nat.pow_succ, Nat.pow_succ, Nat.mul_assoc]
    exact Nat.dvd_mul_left _ _
  · split at e <;> omega
/-! sums of signs -/
theorem mu_sum {n N : Nat} (h1 : 1 ≤ n) (h2 : n ≤ N) : sumR (fun d => if d ∣ n then mu d else 0) N = if n = 1 then 1 else 0 := by
  by_cases e : n = 1
  · subst e
    rw [if_pos rfl, sumR_one (k := 1) (by decide) h2 fun i a _ b => ?_, if_pos (Nat.dvd_refl 1), mu_one]
    rw [if_neg fun z => b (Nat.dvd_one.mp z)]
  · rw [if_neg e]
    obtain ⟨p, hp, hd⟩ := prime_div (show 2 ≤ n by omega)
    have p2 := hp.1
    rw [sumR_split (p := p) (by omega)]
    have a : sumR (fun i => if p ∣ i then 0 else if i ∣ n then mu i else 0) N = sumR (fun i => if p ∣ i then 0 else if i ∣ n then mu i else 0) (N / p) := by
      refine sumR_trunc (Nat.div_le_self _ _) fun i hi _ => ?_
      by_cases hpi : p ∣ i
      · rw [if_pos hpi]
      · rw [if_neg hpi, if_neg]
        intro hin
        have := (hp.coprime hpi).mul_dvd_of_dvd_of_dvd hd hin
        have := Nat.le_of_dvd (by omega) this
        have := (Nat.le_div_iff_mul_le (show 0 < p by omega)).mpr (show i * p ≤ N by rw [Nat.mul_comm]; omega)
        omega
    rw [a, ← sumR_add]
    refine sumR_zero fun i i1 i2 => ?_
    by_cases hpi : p ∣ i
    · rw [if_pos hpi, mu_mul_dvd hp hpi (by omega)]
      split <;> rfl
    · rw [if_neg hpi, mu_mul hp hpi]
      by_cases hin : i ∣ n
      · rw [if_pos hin, if_pos ((hp.coprime hpi).mul_dvd_of_dvd_of_dvd hd hin)]
        omega
      · rw [if_neg hin, if_neg fun z => hin (Nat.dvd_trans (Nat.dvd_mul_left i p) z)]
        rfl
/-- signs by quotients -/
theorem mu_quot : ∀ {n : Nat} (N : Nat), n ≤ N → sumR (fun k => mu k * (n / k : Nat)) N = if n = 0 then 0 else 1
  | 0, N, _ => by
    rw [if_pos rfl]
    refine sumR_zero fun i _ _ => ?_
    rw [Nat.zero_div]
    simp
  | n + 1, N, h => by
    rw [if_neg (by omega)]
    have e : sumR (fun k => mu k * ((n + 1) / k : Nat)) N = sumR (fun k => mu k * (n / k : Nat)) N + sumR (fun d => if d ∣ n + 1 then mu d else 0) N := by
      rw [← sumR_add]
      refine sumR_congr fun i _ _ => ?_
      rw [Nat.succ_div]
      split
      · rw [Int.natCast_add, Int.mul_add]
        simp
      · simp
    rw [e, mu_quot N (by omega), mu_sum (by omega) h]
    by_cases z : n = 0
    · rw [if_pos z, if_pos (by omega)]
      rfl
    · rw [if_neg z, if_neg (by omega)]
      rfl
/-! numbers without squares -/
theorem mu_sqsum {n N : Nat} (h1 : 1 ≤ n) (h2 : n < (N + 1) * (N + 1)) : sumR (fun d => if d * d ∣ n then mu d else 0) N = if mu n = 0 then 0 else 1 := by
  have N1 : 1 ≤ N := by
    rcases Nat.eq_zero_or_pos N with e | e
    · rw [e] at h2
      omega
    · exact e
  by_cases e : mu n = 0
  · rw [if_pos e]
    obtain ⟨p, hp, hd⟩ := mu_zero_has h1 e
    have p2 := hp.1
    rw [sumR_split (p := p) (by omega)]
    have both : ∀ i, ¬ p ∣ i → i * i ∣ n → (p * i) * (p * i) ∣ n := by
      intro i hpi hin
      have c : Nat.Coprime (p * p) (i * i) := Nat.Coprime.mul_right (sq_coprime hp hpi) (sq_coprime hp hpi)
      have := c.mul_dvd_of_dvd_of_dvd hd hin
      rw [show p * i * (p * i) = p * p * (i * i) by rw [Nat.mul_assoc, Nat.mul_assoc, Nat.mul_left_comm i p i]]
      exact this
    have a : sumR (fun i => if p ∣ i then 0 else if i * i ∣ n then mu i else 0) N = sumR (fun i => if p ∣ i then 0 else if i * i ∣ n then mu i else 0) (N / p) := by
      refine sumR_trunc (Nat.div_le_self _ _) fun i hi _ => ?_
      by_cases hpi : p ∣ i
      · rw [if_pos hpi]
      · rw [if_neg hpi, if_neg]
        intro hin
        have := Nat.le_of_dvd (by omega) (both i hpi hin)
        have g : N < p * i := by
          have := (Nat.div_lt_iff_lt_mul (show 0 < p by omega)).mp hi
          rw [Nat.mul_comm]
          exact this
        have := Nat.mul_le_mul (show N + 1 ≤ p * i from g) (show N + 1 ≤ p * i from g)
        omega
    rw [a, ← sumR_add]
    refine sumR_zero fun i i1 i2 => ?_
    by_cases hpi : p ∣ i
    · rw [if_pos hpi, mu_mul_dvd hp hpi (by omega)]
      split <;> rfl
    · rw [if_neg hpi, mu_mul hp hpi]
      by_cases hin : i * i ∣ n
      · rw [if_pos hin, if_pos (both i hpi hin)]
        omega
      · rw [if_neg hin, if_neg fun z => hin (Nat.dvd_trans (Nat.mul_dvd_mul (Nat.dvd_mul_left i p) (Nat.dvd_mul_left i p)) z)]
        rfl
  · rw [if_neg e, sumR_one (k := 1) (by decide) N1 fun i a _ b => ?_]
    · rw [if_pos (Nat.one_dvd n), mu_one]
    · rw [if_neg]
      intro z
      obtain ⟨p, hp, hpd⟩ := prime_div (show 2 ≤ i by omega)
      exact e (mu_sq hp (Nat.dvd_trans (Nat.mul_dvd_mul hpd hpd) z) (by omega))
/-- how many to n -/
def plainN (n : Nat) : Int := sumR (fun i => if mu i = 0 then 0 else 1) n
theorem plain_sum : ∀ {n : Nat} (N : Nat), n < (N + 1) * (N + 1) → sumR (fun d => mu d * (n / (d * d) : Nat)) N = plainN n
  | 0, N, _ => by
    refine Eq.trans (sumR_zero fun i _ _ => ?_) rfl
    rw [Nat.zero_div]
    simp
  | n + 1, N, h => by
    have e : sumR (fun k => mu k * ((n + 1) / (k * k) : Nat)) N = sumR (fun k => mu k * (n / (k * k) : Nat)) N + sumR (fun d => if d * d ∣ n + 1 then mu d else 0) N := by
      rw [← sumR_add]
      refine sumR_congr fun i _ _ => ?_
      rw [Nat.succ_div]
      split
      · rw [Int.natCast_add, Int.mul_add]
        simp
      · simp
    rw [e, plain_sum N (by omega), mu_sqsum (by omega) h, plainN, plainN, sumR]
theorem plain_step (n : Nat) : plainN (n + 1) - plainN n = if mu (n + 1) = 0 then 0 else 1 := by
  unfold plainN
  rw [sumR]
  omega
/-- each number is a square times a number without squares, in one way -/
theorem one_square : ∀ (k n N : Nat), n ≤ k → 1 ≤ n → n < (N + 1) * (N + 1) → sumR (fun s => if s * s ∣ n then (if mu (n / (s * s)) = 0 then 0 else 1) else 0) N = 1
  | 0, n, N, h, h1, _ => by omega
  | k + 1, n, N, h, h1, h2 => by
    have N1 : 1 ≤ N := by
      rcases Nat.eq_zero_or_pos N with e | e
      · rw [e] at h2
        omega
      · exact e
    by_cases e : mu n = 0
    · obtain ⟨p, hp, hd⟩ := mu_zero_has h1 e
      have p2 := hp.1
      obtain ⟨m, rfl⟩ := hd
      have m0 : 1 ≤ m := by
        rcases Nat.eq_zero_or_pos m with z | z
        · rw [z] at h1
          omega
        · exact z
      have pp : 4 ≤ p * p := Nat.mul_le_mul p2 p2
      have mlt : m < p * p * m := by
        have := Nat.mul_le_mul_right m pp
        omega
      rw [sumR_split (p := p) (by omega)]
      have a : sumR (fun i => if p ∣ i then 0 else if i * i ∣ p * p * m then (if mu (p * p * m / (i * i)) = 0 then 0 else 1) else 0) N = 0 := by
        refine sumR_zero fun i i1 _ => ?_
        by_cases hpi : p ∣ i
        · rw [if_pos hpi]
        · rw [if_neg hpi]
          by_cases hin : i * i ∣ p * p * m
          · rw [if_pos hin, if_pos]
            have c : Nat.Coprime (i * i) (p * p) := (Nat.Coprime.mul_right (sq_coprime hp hpi) (sq_coprime hp hpi)).symm
            obtain ⟨t, rfl⟩ := c.dvd_of_dvd_mul_left hin
            have ii : 0 < i * i := Nat.mul_pos (by omega) (by omega)
            rw [show p * p * (i * i * t) = i * i * (p * p * t) by rw [Nat.mul_left_comm], Nat.mul_div_cancel_left _ ii]
            refine mu_sq hp (Nat.dvd_mul_right _ _) (Nat.mul_pos (by omega) ?_)
            rcases Nat.eq_zero_or_pos t with z | z
            · rw [z] at m0
              omega
            · exact z
          · rw [if_neg hin]
      have b : sumR (fun i => if p * i * (p * i) ∣ p * p * m then (if mu (p * p * m / (p * i * (p * i))) = 0 then 0 else 1) else 0) (N / p) = sumR (fun s => if s * s ∣ m then (if mu (m / (s * s)) = 0 then 0 else 1) else 0) (N / p) := by
        refine sumR_congr fun i _ _ => ?_
        rw [show p * i * (p * i) = p * p * (i * i) by rw [Nat.mul_assoc, Nat.mul_assoc, Nat.mul_left_comm i p i], Nat.mul_div_mul_left _ _ (by omega : 0 < p * p)]
        by_cases z : i * i ∣ m
        · rw [if_pos z, if_pos (Nat.mul_dvd_mul_left _ z)]
        · rw [if_neg z, if_neg fun y => z (Nat.dvd_of_mul_dvd_mul_left (by omega : 0 < p * p) y)]
      rw [a, b, one_square k m (N / p) (by omega) m0 ?_]
      · rfl
      · have g := Nat.lt_mul_div_succ N (show 0 < p by omega)
        refine Classical.byContradiction fun z => ?_
        have h3 : (N / p + 1) * (N / p + 1) ≤ m := by omega
        have h4 := Nat.mul_le_mul_left (p * p) h3
        rw [show p * p * ((N / p + 1) * (N / p + 1)) = (p * (N / p + 1)) * (p * (N / p + 1)) by rw [Nat.mul_assoc, Nat.mul_assoc, Nat.mul_left_comm (N / p + 1) p]] at h4
        have h5 := Nat.mul_le_mul (show N + 1 ≤ p * (N / p + 1) from g) (show N + 1 ≤ p * (N / p + 1) from g)
        omega
    · rw [sumR_one (k := 1) (by decide) N1 fun i a _ b => ?_]
      · rw [if_pos (by simp), if_neg (by simpa using e)]
      · rw [if_neg]
        intro z
        obtain ⟨p, hp, hpd⟩ := prime_div (show 2 ≤ i by omega)
        exact e (mu_sq hp (Nat.dvd_trans (Nat.mul_dvd_mul hpd hpd) z) (by omega))
theorem plain_squares : ∀ {n : Nat} (N : Nat), n < (N + 1) * (N + 1) → sumR (fun s => plainN (n / (s * s))) N = n
  | 0, N, _ => by
    refine Eq.trans (sumR_zero fun i _ _ => ?_) rfl
    rw [Nat.zero_div]
    rfl
  | n + 1, N, h => by
    have e : sumR (fun s => plainN ((n + 1) / (s * s))) N = sumR (fun s => plainN (n / (s * s))) N + sumR (fun s => if s * s ∣ n + 1 then (if mu ((n + 1) / (s * s)) = 0 then 0 else 1) else 0) N := by
      rw [← sumR_add]
      refine sumR_congr fun i _ _ => ?_
      have sd := Nat.succ_div (a := n) (b := i * i)
      by_cases z : i * i ∣ n + 1
      · rw [if_pos z] at sd ⊢
        rw [sd]
        have := plain_step (n / (i * i))
        omega
      · rw [if_neg z] at sd ⊢
        rw [sd]
        simp
    rw [e, plain_squares N (by omega), one_square (n + 1) (n + 1) N (Nat.le_refl _) (by omega) h]
    omega

end M
namespace M
/-! divisors: how many, their sum -/
def dsum (f : Nat → Int) (n : Nat) : Int := sumR (fun d => if d ∣ n then f d else 0) n
theorem dsum_more {f : Nat → Int} {n N : Nat} (h1 : 1 ≤ n) (h : n ≤ N) : sumR (fun d => if d ∣ n then f d else 0) N = dsum f n :=
  sumR_trunc h fun i hi _ => if_neg fun z => by
    have := Nat.le_of_dvd (by omega) z
    omega
theorem dsum_pow {p m : Nat} (f : Nat → Int) (hp : Pr p) (hm : ¬ p ∣ m) (m1 : 1 ≤ m) (e : Nat) : dsum f (p ^ (e + 1) * m) = dsum f m + dsum (fun d => f (p * d)) (p ^ e * m) := by
  have p2 := hp.1
  have pe : 0 < p ^ e := Nat.pow_pos (by omega)
  have n1 : p ^ (e + 1) * m = p * (p ^ e * m) := by rw [Nat.pow_succ, Nat.mul_comm (p ^ e) p, Nat.mul_assoc]
  have c : ∀ d, ¬ p ∣ d → (d ∣ p ^ (e + 1) * m ↔ d ∣ m) := fun d hd => by
    have hc : Nat.Coprime d (p ^ (e + 1)) := Nat.Coprime.pow_right _ (hp.coprime hd).symm
    exact ⟨fun z => hc.dvd_of_dvd_mul_left z, fun z => Nat.dvd_trans z (Nat.dvd_mul_left _ _)⟩
  have ml : m ≤ p ^ (e + 1) * m := Nat.le_mul_of_pos_left m (Nat.pow_pos (by omega))
  show sumR (fun d => if d ∣ p ^ (e + 1) * m then f d else 0) (p ^ (e + 1) * m) = _
  rw [sumR_split (p := p) (by omega)]
  congr 1
  · rw [← dsum_more m1 ml]
    refine sumR_congr fun i _ _ => ?_
    by_cases h : p ∣ i
    · rw [if_pos h, if_neg fun z => hm (Nat.dvd_trans h z)]
    · rw [if_neg h]
      by_cases g : i ∣ m
      · rw [if_pos g, if_pos ((c i h).mpr g)]
      · rw [if_neg g, if_neg fun z => g ((c i h).mp z)]
  · rw [n1, Nat.mul_div_cancel_left _ (by omega : 0 < p)]
    refine sumR_congr fun i _ _ => ?_
    by_cases g : i ∣ p ^ e * m
    · rw [if_pos g, if_pos (Nat.mul_dvd_mul_left p g)]
    · rw [if_neg g, if_neg fun z => g (Nat.dvd_of_mul_dvd_mul_left (by omega) z)]
theorem dsum_mul (c : Int) (f : Nat → Int) (n : Nat) : dsum (fun d => c * f d) n = c * dsum f n := by
  unfold dsum
  rw [← sumR_mul]
  refine sumR_congr fun i _ _ => ?_
  split
  · rfl
  · simp
def tauN (n : Nat) : Int := dsum (fun _ => 1) n
def sigN (n : Nat) : Int := dsum (fun d => d) n
theorem tau_pow {p m : Nat} (hp : Pr p) (hm : ¬ p ∣ m) (m1 : 1 ≤ m) : ∀ e : Nat, tauN (p ^ e * m) = (e + 1 : Nat) * tauN m
  | 0 => by simp
  | e + 1 => by
    unfold tauN
    rw [dsum_pow _ hp hm m1 e]
    have := tau_pow hp hm m1 e
    unfold tauN at this
    rw [this, Int.natCast_add (e + 1) 1, Int.add_mul]
    omega
def geo (p : Nat) : Nat → Nat
  | 0 => 1
  | e + 1 => geo p e * p + 1
theorem sig_pow {p m : Nat} (hp : Pr p) (hm : ¬ p ∣ m) (m1 : 1 ≤ m) : ∀ e : Nat, sigN (p ^ e * m) = (geo p e : Nat) * sigN m
  | 0 => by simp [geo]
  | e + 1 => by
    unfold sigN
    rw [dsum_pow _ hp hm m1 e]
    have := sig_pow hp hm m1 e
    unfold sigN at this
    have e2 : dsum (fun d => ((p * d : Nat) : Int)) (p ^ e * m) = (p : Int) * dsum (fun d => (d : Int)) (p ^ e * m) := by
      rw [← dsum_mul]
      rfl
    rw [e2, this, geo, Int.natCast_add, Int.natCast_mul, Int.add_mul, ← Int.mul_assoc, Int.mul_comm (p : Int)]
    simp only [Int.natCast_one, Int.one_mul]
    omega
def tauL : List (Nat × Nat) → Nat
  | [] => 1
  | (_, e) :: r => (e + 1) * tauL r
def sigL : List (Nat × Nat) → Nat
  | [] => 1
  | (p, e) :: r => geo p e * sigL r
theorem tau_ok : ∀ {b : Nat} {L : List (Nat × Nat)}, FacOk b L → tauN (facP L) = tauL L
  | _, [], _ => by
    show tauN 1 = 1
    decide
  | b, (p, e) :: r, ⟨h1, h2, h3, h4⟩ => by
    show tauN (p ^ e * facP r) = ((e + 1) * tauL r : Nat)
    rw [tau_pow h2 (not_dvd_rest h2 h4) (FacOk.pos h4), tau_ok h4, Int.natCast_mul]
theorem sig_ok : ∀ {b : Nat} {L : List (Nat × Nat)}, FacOk b L → sigN (facP L) = sigL L
  | _, [], _ => by
    show sigN 1 = 1
    decide
  | b, (p, e) :: r, ⟨h1, h2, h3, h4⟩ => by
    show sigN (p ^ e * facP r) = (geo p e * sigL r : Nat)
    rw [sig_pow h2 (not_dvd_rest h2 h4) (FacOk.pos h4), sig_ok h4, Int.natCast_mul]
theorem tau_fac {L : List (Nat × Nat)} {n : Nat} (h : FacOf L n) : tauN n = tauL L := by
  rw [← h.2]
  exact tau_ok h.1
theorem sig_fac {L : List (Nat × Nat)} {n : Nat} (h : FacOf L n) : sigN n = sigL L := by
  rw [← h.2]
  exact sig_ok h.1
/-- sums over divisors, summed -/
theorem dsum_quot (f : Nat → Int) : ∀ {n : Nat} (N : Nat), n ≤ N → sumR (fun k => f k * (n / k : Nat)) N = sumR (dsum f) n
  | 0, N, _ => by
    refine Eq.trans (sumR_zero fun i _ _ => ?_) rfl
    rw [Nat.zero_div]
    simp
  | n + 1, N, h => by
    have e : sumR (fun k => f k * ((n + 1) / k : Nat)) N = sumR (fun k => f k * (n / k : Nat)) N + sumR (fun d => if d ∣ n + 1 then f d else 0) N := by
      rw [← sumR_add]
      refine sumR_congr fun i _ _ => ?_
      rw [Nat.succ_div]
      split
      · rw [Int.natCast_add, Int.mul_add]
        simp
      · simp
    rw [e, dsum_quot f N (by omega), dsum_more (by omega) h, sumR]
theorem tau_quot (n : Nat) : sumR (fun k => (n / k : Nat)) n = sumR tauN n := by
  have := dsum_quot (fun _ => 1) n (Nat.le_refl n)
  rw [← show sumR (dsum fun _ => 1) n = sumR tauN n from rfl, ← this]
  exact sumR_congr fun i _ _ => by omega
theorem sig_quot (n : Nat) : sumR (fun k => (k : Int) * (n / k : Nat)) n = sumR sigN n := dsum_quot (fun d => d) n (Nat.le_refl n)
/-! twice the near ones -/
theorem sumR_swap (f : Nat → Nat → Int) (m : Nat) : ∀ n : Nat, sumR (fun i => sumR (f i) m) n = sumR (fun j => sumR (fun i => f i j) n) m
  | 0 => by
    show 0 = _
    exact (sumR_zero fun i _ _ => rfl).symm
  | n + 1 => by
    rw [sumR, sumR_swap f m n, ← sumR_add]
    rfl
theorem count_to {d n : Nat} (hd : 1 ≤ d) : ∀ N : Nat, sumR (fun e => if d * e ≤ n then 1 else 0) N = (if n / d ≤ N then n / d else N : Nat)
  | 0 => by
    rw [sumR]
    generalize n / d = q
    split <;> omega
  | N + 1 => by
    rw [sumR, count_to hd N]
    have := Nat.le_div_iff_mul_le (k := d) (x := N + 1) (y := n) (by omega)
    rw [Nat.mul_comm (N + 1) d] at this
    generalize n / d = q at this ⊢
    by_cases h : d * (N + 1) ≤ n
    · have := this.mpr h
      rw [if_pos h]
      split <;> (try split) <;> omega
    · have : ¬ N + 1 ≤ q := fun z => h (this.mp z)
      rw [if_neg h]
      split <;> (try split) <;> omega
theorem hyper {n r : Nat} (h1 : r * r ≤ n) (h2 : n < (r + 1) * (r + 1)) : sumR (fun k => (n / k : Nat)) n = 2 * sumR (fun k => (n / k : Nat)) r - r * r := by
  have rn : r ≤ n := by
    rcases Nat.eq_zero_or_pos r with e | e
    · omega
    · exact Nat.le_trans (Nat.le_mul_of_pos_left r e) h1
  have a : ∀ d, 1 ≤ d → sumR (fun e => if d * e ≤ n then (1 : Int) else 0) n = (n / d : Nat) := fun d hd => by
    rw [count_to hd, if_pos (Nat.div_le_self _ _)]
  have e1 : sumR (fun k => (n / k : Nat)) n = sumR (fun d => sumR (fun e => if d * e ≤ n then (1 : Int) else 0) n) n := sumR_congr fun i i1 _ => (a i i1).symm
  have pt : ∀ d e : Nat, (if d * e ≤ n then (1 : Int) else 0) = (if d ≤ r then (if d * e ≤ n then 1 else 0) else 0) + ((if e ≤ r then (if d * e ≤ n then 1 else 0) else 0) + - (if d ≤ r then (if e ≤ r then 1 else 0) else 0)) := fun d e => by
    by_cases x : d ≤ r
    · by_cases y : e ≤ r
      · have := Nat.mul_le_mul x y
        have z : d * e ≤ n := by omega
        simp [x, y, z]
      · simp [x, y]
    · by_cases y : e ≤ r
      · simp [x, y]
      · have := Nat.mul_le_mul (show r + 1 ≤ d by omega) (show r + 1 ≤ e by omega)
        have z : ¬ d * e ≤ n := by omega
        simp [x, y, z]
  have cut : ∀ (f : Nat → Int), sumR (fun d => if d ≤ r then f d else 0) n = sumR f r := fun f => by
    rw [sumR_trunc (f := fun d => if d ≤ r then f d else 0) rn fun i hi _ => if_neg (by omega)]
    exact sumR_congr fun i _ hi => if_pos hi
  have s1 : sumR (fun d => sumR (fun e => if d ≤ r then (if d * e ≤ n then (1 : Int) else 0) else 0) n) n = sumR (fun k => (n / k : Nat)) r := by
    rw [← cut fun k => ((n / k : Nat) : Int)]
    refine sumR_congr fun d d1 _ => ?_
    by_cases x : d ≤ r
    · simp only [x, if_true]
      exact a d d1
    · simp only [x, if_false]
      exact sumR_zero fun _ _ _ => rfl
  have s2 : sumR (fun d => sumR (fun e => if e ≤ r then (if d * e ≤ n then (1 : Int) else 0) else 0) n) n = sumR (fun k => (n / k : Nat)) r := by
    rw [sumR_swap]
    refine Eq.trans (sumR_congr fun e _ _ => sumR_congr fun d _ _ => ?_) s1
    rw [Nat.mul_comm]
  have sq : ∀ m : Nat, sumR (fun _ => (r : Int)) m = r * m := fun m => by
    induction m with
    | zero => simp [sumR]
    | succ m ih => rw [sumR, ih, Int.natCast_add, Int.mul_add]; simp
  have one : ∀ m : Nat, sumR (fun _ => (1 : Int)) m = m := fun m => by
    induction m with
    | zero => rfl
    | succ m ih => rw [sumR, ih]; rfl
  have s3 : sumR (fun d => sumR (fun e => - (if d ≤ r then (if e ≤ r then (1 : Int) else 0) else 0)) n) n = - (r * r : Int) := by
    rw [sumR_congr (g := fun d => - (if d ≤ r then (r : Int) else 0)) fun d _ _ => ?_]
    · rw [sumR_neg, cut fun _ => (r : Int), sq]
    · rw [sumR_neg]
      by_cases x : d ≤ r
      · simp only [x, if_true]
        rw [cut fun _ => 1, one]
      · simp only [x, if_false]
        rw [sumR_zero fun _ _ _ => rfl]
  rw [e1, sumR_congr fun d _ _ => sumR_congr fun e _ _ => pt d e]
  rw [sumR_congr (g := fun d => sumR (fun e => if d ≤ r then (if d * e ≤ n then (1 : Int) else 0) else 0) n + (sumR (fun e => if e ≤ r then (if d * e ≤ n then (1 : Int) else 0) else 0) n + sumR (fun e => - (if d ≤ r then (if e ≤ r then (1 : Int) else 0) else 0)) n)) fun d _ _ => by rw [sumR_add, sumR_add]]
  rw [sumR_add, sumR_add, s1, s2, s3]
  omega
theorem sumR_mono {f g : Nat → Int} : ∀ {n : Nat}, (∀ i, 1 ≤ i → i ≤ n → f i ≤ g i) → sumR f n ≤ sumR g n
  | 0, _ => Int.le_refl 0
  | n + 1, h => Int.add_le_add (sumR_mono fun i h1 h2 => h i h1 (by omega)) (h (n + 1) (by omega) (by omega))
/-- at most twice the root -/
theorem tau_le {n r : Nat} (h0 : 1 ≤ n) (h2 : n < (r + 1) * (r + 1)) : tauN n ≤ 2 * r := by
  have one : ∀ m : Nat, sumR (fun _ => (1 : Int)) m = m := fun m => by
    induction m with
    | zero => rfl
    | succ m ih => rw [sumR, ih]; rfl
  have a : ∀ d, 1 ≤ d → sumR (fun e => if d * e = n then (1 : Int) else 0) n = if d ∣ n then 1 else 0 := fun d hd => by
    by_cases g : d ∣ n
    · obtain ⟨k, rfl⟩ := g
      have k1 : 1 ≤ k := by
        rcases Nat.eq_zero_or_pos k with z | z
        · rw [z] at h0
          omega
        · exact z
      rw [if_pos (Nat.dvd_mul_right d k), sumR_one (k := k) k1 (Nat.le_mul_of_pos_left k hd) fun i _ _ hi => if_neg fun z => hi (Nat.eq_of_mul_eq_mul_left hd z)]
      rw [if_pos rfl]
    · rw [if_neg g, sumR_zero fun e _ _ => if_neg fun z => g ⟨e, z.symm⟩]
  have e1 : tauN n = sumR (fun d => sumR (fun e => if d * e = n then (1 : Int) else 0) n) n := sumR_congr fun d d1 _ => (a d d1).symm
  have cut : ∀ (f : Nat → Int), (∀ d, 0 ≤ f d) → (∀ d, f d ≤ 1) → sumR (fun d => if d ≤ r then f d else 0) n ≤ r := fun f f0 f1 => by
    have : ∀ m, sumR (fun d => if d ≤ r then f d else 0) m ≤ (if m ≤ r then m else r : Nat) := fun m => by
      induction m with
      | zero => simp [sumR]
      | succ m ih =>
        rw [sumR]
        have := f1 (m + 1)
        have := f0 (m + 1)
        split at ih <;> split <;> (try split) <;> omega
    refine Int.le_trans (this n) ?_
    split <;> omega
  have half : sumR (fun d => if d ≤ r then (if d ∣ n then (1 : Int) else 0) else 0) n ≤ r := cut _ (fun d => by split <;> omega) (fun d => by split <;> omega)
  have pt : ∀ d e : Nat, (if d * e = n then (1 : Int) else 0) ≤ (if d ≤ r then (if d * e = n then 1 else 0) else 0) + (if e ≤ r then (if d * e = n then 1 else 0) else 0) := fun d e => by
    by_cases x : d ≤ r
    · by_cases y : e ≤ r <;> simp [x, y] <;> split <;> omega
    · by_cases y : e ≤ r
      · simp [x, y]
      · have := Nat.mul_le_mul (show r + 1 ≤ d by omega) (show r + 1 ≤ e by omega)
        have z : ¬ d * e = n := by omega
        simp [x, y, z]
  have s1 : sumR (fun d => sumR (fun e => if d ≤ r then (if d * e = n then (1 : Int) else 0) else 0) n) n ≤ r := by
    refine Int.le_trans (Int.le_of_eq (sumR_congr fun d d1 _ => ?_)) half
    by_cases x : d ≤ r
    · simp only [x, if_true]
      exact a d d1
    · simp only [x, if_false]
      exact sumR_zero fun _ _ _ => rfl
  have s2 : sumR (fun d => sumR (fun e => if e ≤ r then (if d * e = n then (1 : Int) else 0) else 0) n) n ≤ r := by
    rw [sumR_swap]
    refine Int.le_trans (Int.le_of_eq (sumR_congr fun e _ _ => sumR_congr fun d _ _ => ?_)) s1
    rw [Nat.mul_comm]
  rw [e1]
  refine Int.le_trans (sumR_mono fun d _ _ => sumR_mono fun e _ _ => pt d e) ?_
  rw [sumR_congr (g := fun d => sumR (fun e => if d ≤ r then (if d * e = n then (1 : Int) else 0) else 0) n + sumR (fun e => if e ≤ r then (if d * e = n then (1 : Int) else 0) else 0) n) fun d _ _ => sumR_add _ _ _, sumR_add]
  omega

end M
namespace M
/-! share-free counts -/
theorem pe_pos {p e : Nat} (hp : Pr p) : 0 < p ^ e := Nat.pow_pos (by have := hp.1; omega)
/-- by the powers -/
def phL : List (Nat × Nat) → Nat
  | [] => 1
  | (p, e) :: r => p ^ (e - 1) * (p - 1) * phL r
/-- the primes of S done, the others not -/
def mixL (S : Nat → Bool) : List (Nat × Nat) → Nat
  | [] => 1
  | (p, e) :: r => (if S p then p ^ (e - 1) * (p - 1) else p ^ e) * mixL S r
theorem mixL_none : ∀ L : List (Nat × Nat), mixL (fun _ => false) L = facP L
  | [] => rfl
  | (p, e) :: r => by
    rw [mixL, mixL_none r, facP]
    rfl
theorem mixL_all {S : Nat → Bool} : ∀ {L : List (Nat × Nat)}, (∀ x ∈ L, S x.1 = true) → mixL S L = phL L
  | [], _ => rfl
  | (p, e) :: r, h => by
    rw [mixL, phL, mixL_all fun x hx => h x (List.mem_cons_of_mem _ hx), if_pos (h (p, e) List.mem_cons_self)]
theorem mixL_congr {S T : Nat → Bool} : ∀ {L : List (Nat × Nat)}, (∀ x ∈ L, S x.1 = T x.1) → mixL S L = mixL T L
  | [], _ => rfl
  | (p, e) :: r, h => by
    rw [mixL, mixL, mixL_congr fun x hx => h x (List.mem_cons_of_mem _ hx), h (p, e) List.mem_cons_self]
theorem mixL_dvd {S : Nat → Bool} {p : Nat} (hS : S p = false) : ∀ {b : Nat} {L : List (Nat × Nat)}, FacOk b L → (∃ x ∈ L, x.1 = p) → p ∣ mixL S L
  | _, [], _, h => by
    obtain ⟨x, hx, _⟩ := h
    cases hx
  | b, (q, e) :: r, ⟨_, h2, h3, h4⟩, h => by
    rw [mixL]
    by_cases hq : q = p
    · subst hq
      rw [hS]
      exact Nat.dvd_trans (dvd_pow_self h3) (Nat.dvd_mul_right _ _)
    · obtain ⟨x, hx, e⟩ := h
      rcases List.mem_cons.mp hx with z | z
      · rw [z] at e
        exact (hq e).elim
      · exact Nat.dvd_trans (mixL_dvd hS h4 ⟨x, z, e⟩) (Nat.dvd_mul_left _ _)
/-- one prime more -/
theorem mixL_step {S : Nat → Bool} {p : Nat} (hp : Pr p) (hS : S p = false) : ∀ {b : Nat} {L : List (Nat × Nat)}, FacOk b L → mixL (fun q => S q || decide (q = p)) L = if p ∣ facP L then mixL S L / p * (p - 1) else mixL S L
  | _, [], _ => by
    rw [if_neg fun z => by
      have := Nat.le_of_dvd (by decide) (show p ∣ 1 from z)
      have := hp.1
      omega]
    rfl
  | b, (q, e) :: r, ⟨h1, h2, h3, h4⟩ => by
    have p0 : 0 < p := by have := hp.1; omega
    by_cases hq : q = p
    · subst hq
      have same : mixL (fun x => S x || decide (x = q)) r = mixL S r := mixL_congr fun x hx => by
        have := (h4.mem hx).1
        rw [decide_eq_false (by omega), Bool.or_false]
      rw [if_pos (show q ∣ facP ((q, e) :: r) from Nat.dvd_trans (dvd_pow_self h3) (Nat.dvd_mul_right _ _)), mixL, mixL, same, hS, decide_eq_true rfl]
      simp only [Bool.or_true, if_true, Bool.false_eq_true, if_false]
      obtain ⟨f, rfl⟩ : ∃ f, e = f + 1 := ⟨e - 1, by omega⟩
      rw [Nat.add_sub_cancel, Nat.pow_succ, Nat.mul_comm (q ^ f) q, Nat.mul_assoc q, Nat.mul_div_cancel_left _ p0, Nat.mul_right_comm]
    · have ih := mixL_step (S := S) hp hS h4
      rw [mixL, mixL, ih, decide_eq_false hq, Bool.or_false]
      have eqv : p ∣ facP ((q, e) :: r) ↔ p ∣ facP r := by
        constructor
        · intro z
          rcases hp.mul z with z | z
          · exact (hq (hp.eq_of_dvd h2 (hp.pow z)).symm).elim
          · exact z
        · exact fun z => Nat.dvd_trans z (Nat.dvd_mul_left _ _)
      by_cases hd : p ∣ facP r
      · rw [if_pos hd, if_pos (eqv.mpr hd)]
        obtain ⟨t, ht⟩ := mixL_dvd hS h4 (h4.dvd hp hd)
        rw [ht, Nat.mul_div_cancel_left _ p0, Nat.mul_left_comm _ p t, Nat.mul_div_cancel_left _ p0, Nat.mul_assoc]
      · rw [if_neg hd, if_neg fun z => hd (eqv.mp z)]
/-- signs over quotients -/
def phN (n : Nat) : Int := sumR (fun d => if d ∣ n then mu d * (n / d : Nat) else 0) n
theorem phN_more {n N : Nat} (h1 : 1 ≤ n) (h : n ≤ N) : sumR (fun d => if d ∣ n then mu d * (n / d : Nat) else 0) N = phN n :=
  sumR_trunc h fun i hi _ => if_neg fun z => by
    have := Nat.le_of_dvd (by omega) z
    omega
theorem phN_pow {p m : Nat} (hp : Pr p) (hm : ¬ p ∣ m) (m1 : 1 ≤ m) (e : Nat) : phN (p ^ (e + 1) * m) = (p ^ e * (p - 1) : Nat) * phN m := by
  have p2 := hp.1
  have n1 : p ^ (e + 1) * m = p * (p ^ e * m) := by rw [Nat.pow_succ, Nat.mul_comm (p ^ e) p, Nat.mul_assoc]
  have c : ∀ d, ¬ p ∣ d → ∀ k, (d ∣ p ^ k * m ↔ d ∣ m) := fun d hd k => by
    have hc : Nat.Coprime d (p ^ k) := Nat.Coprime.pow_right _ (hp.coprime hd).symm
    exact ⟨fun z => hc.dvd_of_dvd_mul_left z, fun z => Nat.dvd_trans z (Nat.dvd_mul_left _ _)⟩
  have ml : ∀ k, m ≤ p ^ k * m := fun k => Nat.le_mul_of_pos_left m (pe_pos hp)
  have quo : ∀ d k, 1 ≤ d → d ∣ m → ((p ^ k * m / d : Nat) : Int) = (p ^ k : Nat) * (m / d : Nat) := fun d k d1 hd => by
    rw [Nat.mul_div_assoc _ hd, Int.natCast_mul]
  unfold phN
  rw [sumR_split (p := p) (by omega)]
  have a : sumR (fun d => if p ∣ d then 0 else if d ∣ p ^ (e + 1) * m then mu d * (p ^ (e + 1) * m / d : Nat) else 0) (p ^ (e + 1) * m) = (p ^ (e + 1) : Nat) * phN m := by
    rw [← phN_more m1 (ml (e + 1)), ← sumR_mul]
    refine sumR_congr fun i i1 _ => ?_
    by_cases h : p ∣ i
    · rw [if_pos h, if_neg fun z => hm (Nat.dvd_trans h z), Int.mul_zero]
    · rw [if_neg h]
      by_cases g : i ∣ m
      · rw [if_pos g, if_pos ((c i h (e + 1)).mpr g), quo i (e + 1) i1 g, Int.mul_left_comm]
      · rw [if_neg g, if_neg fun z => g ((c i h (e + 1)).mp z), Int.mul_zero]
  have b : sumR (fun i => if p * i ∣ p ^ (e + 1) * m then mu (p * i) * (p ^ (e + 1) * m / (p * i) : Nat) else 0) (p ^ (e + 1) * m / p) = - ((p ^ e : Nat) * phN m) := by
    rw [n1, Nat.mul_div_cancel_left _ (by omega : 0 < p), ← phN_more m1 (ml e), ← sumR_mul, ← sumR_neg]
    refine sumR_congr fun i i1 _ => ?_
    rw [Nat.mul_div_mul_left _ _ (by omega : 0 < p)]
    by_cases h : p ∣ i
    · rw [mu_mul_dvd hp h i1, if_neg fun z => hm (Nat.dvd_trans h z)]
      split <;> simp
    · rw [mu_mul hp h]
      by_cases g : i ∣ m
      · rw [if_pos g, if_pos (Nat.mul_dvd_mul_left p ((c i h e).mpr g)), quo i e i1 g, Int.neg_mul, Int.mul_left_comm]
      · rw [if_neg g, if_neg fun z => g ((c i h e).mp (Nat.dvd_of_mul_dvd_mul_left (by omega) z))]
        simp
  rw [a, b]
  have e3 : ((p ^ (e + 1) : Nat) : Int) = (p ^ e * (p - 1) : Nat) + (p ^ e : Nat) := by
    rw [← Int.natCast_add, Nat.pow_succ, ← Nat.mul_succ, show (p - 1).succ = p by omega]
  show _ = ((p ^ e * (p - 1) : Nat) : Int) * phN m
  rw [e3, Int.add_mul]
  omega
theorem ph_ok : ∀ {b : Nat} {L : List (Nat × Nat)}, FacOk b L → phN (facP L) = phL L
  | _, [], _ => by
    show phN 1 = 1
    decide
  | b, (p, e) :: r, ⟨h1, h2, h3, h4⟩ => by
    obtain ⟨f, rfl⟩ : ∃ f, e = f + 1 := ⟨e - 1, by omega⟩
    show phN (p ^ (f + 1) * facP r) = (p ^ (f + 1 - 1) * (p - 1) * phL r : Nat)
    rw [phN_pow h2 (not_dvd_rest h2 h4) (FacOk.pos h4), ph_ok h4, Nat.add_sub_cancel, Int.natCast_mul (p ^ f * (p - 1)) (phL r)]
theorem ph_fac {L : List (Nat × Nat)} {n : Nat} (h : FacOf L n) : phN n = phL L := by
  rw [← h.2]
  exact ph_ok h.1
/-! couples -/
theorem sq_succ_div {d n : Nat} : (((n + 1) / d : Nat) : Int) * ((n + 1) / d : Nat) = ((n / d : Nat) : Int) * (n / d : Nat) + (if d ∣ n + 1 then 2 * (((n + 1) / d : Nat) : Int) - 1 else 0) := by
  rw [Nat.succ_div]
  split
  · rw [Int.natCast_add]
    generalize ((n / d : Nat) : Int) = q
    rw [Int.mul_add, Int.add_mul]
    simp
    omega
  · simp
theorem couples_sum : ∀ {n : Nat} (N : Nat), n ≤ N → sumR (fun d => mu d * (((n / d : Nat) : Int) * (n / d : Nat))) N = 2 * sumR phN n - if n = 0 then 0 else 1
  | 0, N, _ => by
    rw [if_pos rfl]
    refine Eq.trans (sumR_zero fun i _ _ => ?_) rfl
    rw [Nat.zero_div]
    simp
  | n + 1, N, h => by
    have e : sumR (fun d => mu d * ((((n + 1) / d : Nat) : Int) * ((n + 1) / d : Nat))) N = sumR (fun d => mu d * (((n / d : Nat) : Int) * (n / d : Nat))) N + (2 * phN (n + 1) - sumR (fun d => if d ∣ n + 1 then mu d else 0) N) := by
      rw [← phN_more (by omega) h, ← sumR_mul, Int.sub_eq_add_neg, ← sumR_neg, ← sumR_add, ← sumR_add]
      refine sumR_congr fun i _ _ => ?_
      rw [sq_succ_div, Int.mul_add]
      split
      · have := Int.mul_left_comm (mu i) 2 (((n + 1) / i : Nat) : Int)
        rw [Int.mul_sub]
        omega
      · simp
    rw [e, couples_sum N (by omega), mu_sum (by omega) h, sumR, if_neg (show ¬ n + 1 = 0 by omega)]
    by_cases z : n = 0
    · rw [if_pos z, if_pos (show n + 1 = 1 by omega), z, show sumR phN 0 = 0 from rfl]
      omega
    · rw [if_neg z, if_neg (show ¬ n + 1 = 1 by omega)]
      omega
theorem mult_to {d : Nat} (hd : 1 ≤ d) : ∀ n : Nat, sumR (fun a => if d ∣ a then (1 : Int) else 0) n = (n / d : Nat)
  | 0 => by simp [sumR]
  | n + 1 => by
    rw [sumR, mult_to hd n, Nat.succ_div]
    split <;> omega
/-- couples that share nothing -/
theorem couples_count (n : Nat) : sumR (fun a => sumR (fun b => if Nat.gcd a b = 1 then (1 : Int) else 0) n) n = sumR (fun d => mu d * (((n / d : Nat) : Int) * (n / d : Nat))) n := by
  have a1 : ∀ a b, 1 ≤ a → a ≤ n → 1 ≤ b → (if Nat.gcd a b = 1 then (1 : Int) else 0) = sumR (fun d => mu d * ((if d ∣ a then 1 else 0) * (if d ∣ b then 1 else 0))) n := fun a b h1 h2 h3 => by
    have g1 : 1 ≤ Nat.gcd a b := Nat.gcd_pos_of_pos_left b h1
    have g2 : Nat.gcd a b ≤ n := Nat.le_trans (Nat.gcd_le_left b h1) h2
    rw [← mu_sum g1 g2]
    refine sumR_congr fun d _ _ => ?_
    by_cases x : d ∣ a
    · by_cases y : d ∣ b
      · rw [if_pos (Nat.dvd_gcd x y), if_pos x, if_pos y]
        simp
      · rw [if_neg fun z => y (Nat.dvd_trans z (Nat.gcd_dvd_right a b)), if_neg y]
        simp
    · rw [if_neg fun z => x (Nat.dvd_trans z (Nat.gcd_dvd_left a b)), if_neg x]
      simp
  rw [sumR_congr (g := fun a => sumR (fun d => mu d * ((if d ∣ a then 1 else 0) * (n / d : Nat))) n) fun a h1 h2 => ?_]
  · rw [sumR_swap]
    refine sumR_congr fun d d1 _ => ?_
    rw [sumR_mul]
    congr 1
    rw [sumR_congr (g := fun a => ((n / d : Nat) : Int) * (if d ∣ a then 1 else 0)) fun a _ _ => Int.mul_comm _ _, sumR_mul, mult_to d1]
  · rw [sumR_congr fun b b1 _ => a1 a b h1 h2 b1, sumR_swap]
    refine sumR_congr fun d d1 _ => ?_
    rw [sumR_mul, sumR_mul, mult_to d1]

end M
namespace M
/-! sums of shares -/
/-- f over the divisors, each with the number's part -/
def cs (f : Nat → Int) (n : Nat) : Int := sumR (fun d => if d ∣ n then f d * (n / d : Nat) else 0) n
theorem cs_more {f : Nat → Int} {n N : Nat} (h1 : 1 ≤ n) (h : n ≤ N) : sumR (fun d => if d ∣ n then f d * (n / d : Nat) else 0) N = cs f n :=
  sumR_trunc h fun i hi _ => if_neg fun z => by
    have := Nat.le_of_dvd (by omega) z
    omega
theorem cs_congr {f g : Nat → Int} {n : Nat} (h : ∀ d, 1 ≤ d → d ∣ n → f d = g d) : cs f n = cs g n := sumR_congr fun i i1 _ => by
  by_cases z : i ∣ n
  · rw [if_pos z, if_pos z, h i i1 z]
  · rw [if_neg z, if_neg z]
theorem cs_mul (c : Int) (f : Nat → Int) (n : Nat) : cs (fun d => c * f d) n = c * cs f n := by
  unfold cs
  rw [← sumR_mul]
  refine sumR_congr fun i _ _ => ?_
  split
  · rw [Int.mul_assoc]
  · simp
theorem dvd_pm {p m d : Nat} (hp : Pr p) (hd : ¬ p ∣ d) (k : Nat) : d ∣ p ^ k * m ↔ d ∣ m := by
  have hc : Nat.Coprime d (p ^ k) := Nat.Coprime.pow_right _ (hp.coprime hd).symm
  exact ⟨fun z => hc.dvd_of_dvd_mul_left z, fun z => Nat.dvd_trans z (Nat.dvd_mul_left _ _)⟩
theorem cs_pow {p m : Nat} (f : Nat → Int) (hp : Pr p) (hm : ¬ p ∣ m) (m1 : 1 ≤ m) (e : Nat) : cs f (p ^ (e + 1) * m) = (p ^ (e + 1) : Nat) * cs f m + cs (fun d => f (p * d)) (p ^ e * m) := by
  have p2 := hp.1
  have n1 : p ^ (e + 1) * m = p * (p ^ e * m) := by rw [Nat.pow_succ, Nat.mul_comm (p ^ e) p, Nat.mul_assoc]
  have ml : m ≤ p ^ (e + 1) * m := Nat.le_mul_of_pos_left m (pe_pos hp)
  show sumR (fun d => if d ∣ p ^ (e + 1) * m then f d * (p ^ (e + 1) * m / d : Nat) else 0) (p ^ (e + 1) * m) = _
  rw [sumR_split (p := p) (by omega)]
  congr 1
  · rw [← cs_more m1 ml, ← sumR_mul]
    refine sumR_congr fun i i1 _ => ?_
    by_cases h : p ∣ i
    · rw [if_pos h, if_neg fun z => hm (Nat.dvd_trans h z), Int.mul_zero]
    · rw [if_neg h]
      by_cases g : i ∣ m
      · rw [if_pos g, if_pos ((dvd_pm hp h _).mpr g), Nat.mul_div_assoc _ g, Int.natCast_mul, Int.mul_left_comm]
      · rw [if_neg g, if_neg fun z => g ((dvd_pm hp h _).mp z), Int.mul_zero]
  · rw [n1, Nat.mul_div_cancel_left _ (by omega : 0 < p)]
    refine sumR_congr fun i _ _ => ?_
    rw [Nat.mul_div_mul_left _ _ (by omega : 0 < p)]
    by_cases g : i ∣ p ^ e * m
    · rw [if_pos g, if_pos (Nat.mul_dvd_mul_left p g)]
    · rw [if_neg g, if_neg fun z => g (Nat.dvd_of_mul_dvd_mul_left (by omega) z)]
theorem ph_mul {p j : Nat} (hp : Pr p) (h : ¬ p ∣ j) (h1 : 1 ≤ j) : phN (p * j) = ((p : Int) - 1) * phN j := by
  have := phN_pow hp h h1 0
  rw [Nat.pow_zero, Nat.one_mul, Nat.zero_add, Nat.pow_one] at this
  rw [this]
  congr 1
  have := hp.1
  omega
theorem ph_mul_dvd {p j : Nat} (hp : Pr p) (h : p ∣ j) (h1 : 1 ≤ j) : phN (p * j) = (p : Int) * phN j := by
  obtain ⟨e, t, rfl, ht, t0⟩ := strip_ex hp.1 j h1
  obtain ⟨f, rfl⟩ : ∃ f, e = f + 1 := by
    cases e with
    | zero =>
      rw [Nat.pow_zero, Nat.mul_one] at h
      exact (ht h).elim
    | succ f => exact ⟨f, rfl⟩
  have e1 : p * (t * p ^ (f + 1)) = p ^ (f + 1 + 1) * t := by rw [Nat.pow_succ p (f + 1), Nat.mul_comm t, Nat.mul_comm (p ^ (f + 1)) p, Nat.mul_assoc]
  rw [e1, Nat.mul_comm t, phN_pow hp ht t0, phN_pow hp ht t0, Nat.pow_succ, ← Int.mul_assoc, ← Int.natCast_mul]
  congr 2
  rw [Nat.mul_comm (p ^ f) p, Nat.mul_assoc]
theorem ph_twice {p j : Nat} (hp : Pr p) (h1 : 1 ≤ j) : phN (p * (p * j)) = (p : Int) * phN (p * j) := ph_mul_dvd hp (Nat.dvd_mul_right p j) (Nat.mul_pos (by have := hp.1; omega) h1)
/-- all divisors' share-free counts together -/
theorem gauss_pow {p m : Nat} (hp : Pr p) (hm : ¬ p ∣ m) (m1 : 1 ≤ m) (h : dsum phN m = m) : ∀ e : Nat, dsum (fun d => phN (p * d)) (p ^ e * m) = ((p ^ (e + 1) : Nat) - 1) * (m : Int)
  | 0 => by
    rw [Nat.pow_zero, Nat.one_mul, Nat.zero_add, Nat.pow_one, ← h, ← dsum_mul]
    refine sumR_congr fun i i1 _ => ?_
    by_cases z : i ∣ m
    · rw [if_pos z, if_pos z]
      exact ph_mul hp (fun y => hm (Nat.dvd_trans y z)) i1
    · rw [if_neg z, if_neg z]
  | e + 1 => by
    rw [dsum_pow _ hp hm m1 e]
    have a : dsum (fun d => phN (p * d)) m = ((p : Int) - 1) * m := by
      have := gauss_pow hp hm m1 h 0
      rw [Nat.pow_zero, Nat.one_mul, Nat.zero_add, Nat.pow_one] at this
      exact this
    have b : dsum (fun d => phN (p * (p * d))) (p ^ e * m) = (p : Int) * dsum (fun d => phN (p * d)) (p ^ e * m) := by
      rw [← dsum_mul]
      refine sumR_congr fun i i1 _ => ?_
      split
      · exact ph_twice hp i1
      · rfl
    rw [a, b, gauss_pow hp hm m1 h e, ← Int.mul_assoc, ← Int.add_mul]
    congr 1
    rw [Nat.pow_succ p (e + 1), Int.natCast_mul, Int.mul_sub, Int.mul_comm ((p ^ (e + 1) : Nat) : Int)]
    omega
theorem gauss_ok : ∀ {b : Nat} {L : List (Nat × Nat)}, FacOk b L → dsum phN (facP L) = facP L
  | _, [], _ => by
    show dsum phN 1 = 1
    decide
  | b, (p, e) :: r, ⟨h1, h2, h3, h4⟩ => by
    obtain ⟨f, rfl⟩ : ∃ f, e = f + 1 := ⟨e - 1, by omega⟩
    have ih := gauss_ok h4
    have nd := not_dvd_rest h2 h4
    have pos := FacOk.pos h4
    show dsum phN (p ^ (f + 1) * facP r) = (p ^ (f + 1) * facP r : Nat)
    rw [dsum_pow _ h2 nd pos f, gauss_pow h2 nd pos ih f, ih, Int.natCast_mul, Int.sub_mul]
    omega
theorem gauss {n : Nat} (h : 1 ≤ n) : dsum phN n = n := by
  obtain ⟨L, hL⟩ := fac_ex h
  rw [← hL.2]
  exact gauss_ok hL.1
def hN (n : Nat) : Int := cs phN n
/-- all shares of n together -/
theorem shares_sum {n : Nat} (h : 1 ≤ n) : sumR (fun k => (Nat.gcd n k : Nat)) n = hN n := by
  have a : ∀ k, 1 ≤ k → ((Nat.gcd n k : Nat) : Int) = sumR (fun d => (if d ∣ n then phN d else 0) * (if d ∣ k then 1 else 0)) n := fun k k1 => by
    have g1 : 1 ≤ Nat.gcd n k := Nat.gcd_pos_of_pos_left k h
    rw [← gauss g1, ← dsum_more g1 (Nat.gcd_le_left k h)]
    refine sumR_congr fun d _ _ => ?_
    by_cases x : d ∣ n
    · by_cases y : d ∣ k
      · rw [if_pos (Nat.dvd_gcd x y), if_pos x, if_pos y, Int.mul_one]
      · rw [if_neg fun z => y (Nat.dvd_trans z (Nat.gcd_dvd_right n k)), if_neg y, Int.mul_zero]
    · rw [if_neg fun z => x (Nat.dvd_trans z (Nat.gcd_dvd_left n k)), if_neg x, Int.zero_mul]
  rw [sumR_congr fun k k1 _ => a k k1, sumR_swap]
  refine sumR_congr fun d d1 _ => ?_
  rw [sumR_mul, mult_to d1]
  split
  · rfl
  · simp
theorem hK {p m : Nat} (hp : Pr p) (hm : ¬ p ∣ m) (m1 : 1 ≤ m) : ∀ e : Nat, cs (fun d => phN (p * d)) (p ^ e * m) = ((e + 1 : Nat) : Int) * ((p ^ e : Nat) * (((p : Int) - 1) * hN m))
  | 0 => by
    rw [Nat.pow_zero, Nat.one_mul]
    have : cs (fun d => phN (p * d)) m = ((p : Int) - 1) * hN m := by
      unfold hN
      rw [← cs_mul]
      exact cs_congr fun d d1 hd => ph_mul hp (fun y => hm (Nat.dvd_trans y hd)) d1
    rw [this]
    simp
  | e + 1 => by
    have a := hK hp hm m1 0
    rw [Nat.pow_zero, Nat.one_mul] at a
    have b : cs (fun d => phN (p * (p * d))) (p ^ e * m) = (p : Int) * cs (fun d => phN (p * d)) (p ^ e * m) := by
      rw [← cs_mul]
      exact cs_congr fun d d1 _ => ph_twice hp d1
    rw [cs_pow _ hp hm m1 e, a, b, hK hp hm m1 e]
    generalize ((p : Int) - 1) * hN m = x
    rw [show (((0 + 1 : Nat) : Int) * (((1 : Nat) : Int) * x)) = x by simp, Int.natCast_add (e + 1) 1, Int.add_mul, Nat.pow_succ, Int.natCast_mul, Int.mul_left_comm (p : Int), ← Int.mul_assoc (p : Int), Int.mul_comm (p : Int)]
    simp only [Int.natCast_one, Int.one_mul]
    omega
theorem h_pow {p m : Nat} (hp : Pr p) (hm : ¬ p ∣ m) (m1 : 1 ≤ m) (e : Nat) : hN (p ^ (e + 1) * m) = (p ^ e : Nat) * (((e + 2 : Nat) : Int) * p - (e + 1 : Nat)) * hN m := by
  unfold hN
  rw [cs_pow _ hp hm m1 e, hK hp hm m1 e]
  show _ * hN m + _ = _ * hN m
  generalize hN m = x
  rw [Nat.pow_succ, Int.natCast_mul, show ((e + 1 : Nat) : Int) * (((p ^ e : Nat) : Int) * (((p : Int) - 1) * x)) = ((p ^ e : Nat) : Int) * (((e + 1 : Nat) : Int) * ((p : Int) - 1)) * x by
    rw [Int.mul_left_comm, Int.mul_assoc, Int.mul_assoc], ← Int.add_mul, ← Int.mul_add]
  congr 2
  rw [Int.mul_sub, Int.mul_one, show ((e + 2 : Nat) : Int) = ((e + 1 : Nat) : Int) + 1 by omega, Int.add_mul]
  omega
def shL : List (Nat × Nat) → Nat
  | [] => 1
  | (p, e) :: r => p ^ (e - 1) * ((e + 1) * p - e) * shL r
theorem sh_ok : ∀ {b : Nat} {L : List (Nat × Nat)}, FacOk b L → ∀ {m : Nat}, 1 ≤ m → (∀ x ∈ L, ¬ x.1 ∣ m) → hN (facP L * m) = shL L * hN m
  | _, [], _, m, _, _ => by
    show hN (1 * m) = ((1 : Nat) : Int) * hN m
    rw [Nat.one_mul]
    simp
  | b, (p, e) :: r, ⟨h1, h2, h3, h4⟩, m, m1, hx => by
    obtain ⟨f, rfl⟩ : ∃ f, e = f + 1 := ⟨e - 1, by omega⟩
    have nd : ¬ p ∣ facP r * m := fun z => by
      rcases h2.mul z with z | z
      · exact not_dvd_rest h2 h4 z
      · exact hx (p, f + 1) List.mem_cons_self z
    show hN (p ^ (f + 1) * facP r * m) = (p ^ (f + 1 - 1) * ((f + 1 + 1) * p - (f + 1)) * shL r : Nat) * hN m
    rw [Nat.mul_assoc, h_pow h2 nd (Nat.mul_pos (FacOk.pos h4) m1) f, sh_ok h4 m1 fun x hm => hx x (List.mem_cons_of_mem _ hm), Nat.add_sub_cancel, ← Int.mul_assoc, Int.natCast_mul (p ^ f * ((f + 1 + 1) * p - (f + 1))), Int.natCast_mul (p ^ f)]
    congr 3
    have : f + 1 ≤ (f + 1 + 1) * p := Nat.le_trans (by omega) (Nat.le_mul_of_pos_right (f + 1 + 1) (by have := h2.1; omega))
    rw [Int.ofNat_sub this, Int.natCast_mul]
theorem h_one : hN 1 = 1 := by decide
theorem sh_fac {L : List (Nat × Nat)} {n : Nat} (h : FacOf L n) : hN n = shL L := by
  have := sh_ok h.1 (m := 1) (Nat.le_refl 1) fun x hx z => by
    have := Nat.le_of_dvd (by decide) z
    have := (h.1.mem hx).2.1.1
    omega
  rw [h_one, Nat.mul_one, h.2, Int.mul_one] at this
  exact this
/-- of numbers that share nothing: products -/
theorem h_coprime {a b : Nat} (ha : 1 ≤ a) (hb : 1 ≤ b) (h : Nat.gcd a b = 1) : hN (a * b) = hN a * hN b := by
  obtain ⟨L, hL⟩ := fac_ex ha
  rw [sh_fac hL, ← sh_ok hL.1 hb fun x hx z => ?_, hL.2]
  have ok := hL.1.mem hx
  have d1 : x.1 ∣ a := by
    rw [← hL.2]
    exact Nat.dvd_trans (dvd_pow_self ok.2.2) (by
      clear ok h hL z
      induction L with
      | nil => cases hx
      | cons y r ih =>
        obtain ⟨q, f⟩ := y
        rcases List.mem_cons.mp hx with w | w
        · rw [w]
          exact Nat.dvd_mul_right _ _
        · exact Nat.dvd_trans (ih w) (Nat.dvd_mul_left _ _))
  have d2 := Nat.dvd_gcd d1 z
  rw [h] at d2
  have := Nat.le_of_dvd (by decide) d2
  have := ok.2.1.1
  omega
/-- the other way round -/
theorem cs_turn (f : Nat → Int) {n : Nat} (h : 1 ≤ n) : cs f n = dsum (fun d => (d : Int) * f (n / d)) n := by
  have one : ∀ d, 1 ≤ d → d ∣ n → 1 ≤ n / d ∧ n / d ≤ n ∧ d * (n / d) = n := fun d d1 hd => ⟨Nat.div_pos (Nat.le_of_dvd h hd) d1, Nat.div_le_self _ _, Nat.mul_div_cancel' hd⟩
  have a : cs f n = sumR (fun d => sumR (fun e => if d * e = n then f d * e else 0) n) n := sumR_congr fun d d1 _ => by
    by_cases g : d ∣ n
    · obtain ⟨o1, o2, o3⟩ := one d d1 g
      rw [if_pos g, sumR_one (k := n / d) o1 o2 fun e _ _ he => if_neg fun z => he (Nat.eq_of_mul_eq_mul_left d1 (z.trans o3.symm)), if_pos o3]
    · rw [if_neg g, sumR_zero fun e _ _ => if_neg fun z => g ⟨e, z.symm⟩]
  rw [a, sumR_swap]
  refine sumR_congr fun e e1 _ => ?_
  by_cases g : e ∣ n
  · obtain ⟨o1, o2, o3⟩ := one e e1 g
    rw [if_pos g, sumR_one (k := n / e) o1 o2 fun d _ _ hd => if_neg fun z => hd (Nat.eq_of_mul_eq_mul_left e1 ((Nat.mul_comm e d).trans (z.trans o3.symm))), if_pos (by rw [Nat.mul_comm]; exact o3), Int.mul_comm]
  · rw [if_neg g, sumR_zero fun d _ _ => if_neg fun z => g ⟨d, by rw [Nat.mul_comm]; exact z.symm⟩]

end M
namespace M
/-! least primes -/
def IsLeast (i v : Nat) : Prop := Pr v ∧ v ∣ i ∧ ∀ d, 2 ≤ d → d ∣ i → v ≤ d
/-- numbers lowered to primes below k that go into them -/
def lpT : Nat → Nat → Nat
  | 0, i => i
  | k + 1, i => if Pr k ∧ k ∣ i ∧ 2 * k ≤ i then (if k < lpT k i then k else lpT k i) else lpT k i
theorem lpT_ok {i : Nat} (hi : 2 ≤ i) : ∀ k : Nat, lpT k i ∣ i ∧ 2 ≤ lpT k i ∧ ∀ q, q < k → Pr q → q ∣ i → lpT k i ≤ q
  | 0 => ⟨Nat.dvd_refl i, hi, fun q h => by omega⟩
  | k + 1 => by
    obtain ⟨h1, h2, h3⟩ := lpT_ok hi k
    rw [lpT]
    by_cases c : Pr k ∧ k ∣ i ∧ 2 * k ≤ i
    · rw [if_pos c]
      have k2 := c.1.1
      split
      · refine ⟨c.2.1, k2, fun q hq hp hd => ?_⟩
        by_cases e : q = k
        · omega
        · have := h3 q (by omega) hp hd
          omega
      · refine ⟨h1, h2, fun q hq hp hd => ?_⟩
        by_cases e : q = k
        · omega
        · exact h3 q (by omega) hp hd
    · rw [if_neg c]
      refine ⟨h1, h2, fun q hq hp hd => ?_⟩
      by_cases e : q = k
      · subst e
        have hlt : ¬ 2 * q ≤ i := fun z => c ⟨hp, hd, z⟩
        obtain ⟨t, rfl⟩ := hd
        have t1 : t = 1 := by
          rcases Nat.lt_or_ge t 2 with z | z
          · have : t ≠ 0 := by
              rintro rfl
              omega
            omega
          · have := Nat.mul_le_mul_left q z
            omega
        subst t1
        have := Nat.le_of_dvd (by omega) h1
        omega
      · exact h3 q (by omega) hp hd
theorem lpT_self {m : Nat} (h : 2 ≤ m) : lpT m m = m ↔ Pr m := by
  obtain ⟨h1, h2, h3⟩ := lpT_ok h m
  constructor
  · intro z
    refine Classical.byContradiction fun np => ?_
    obtain ⟨p, hp, hd, _, hl⟩ := not_pr_has h np
    have := h3 p hl hp hd
    omega
  · intro z
    rcases z.dvd h1 with e | e
    · omega
    · exact e
theorem lpT_least {i k : Nat} (h : 2 ≤ i) (hk : i < k) : IsLeast i (lpT k i) := by
  obtain ⟨h1, h2, h3⟩ := lpT_ok h k
  obtain ⟨p, hp, hd, _, hl⟩ := least_div h
  have a := h3 p (by have := Nat.le_of_dvd (by omega) hd; omega) hp hd
  have b := hl _ h2 h1
  have e : lpT k i = p := by omega
  rw [e]
  exact ⟨hp, hd, hl⟩
theorem lpT_le (i : Nat) : ∀ k : Nat, lpT k i ≤ i
  | 0 => Nat.le_refl i
  | k + 1 => by
    rw [lpT]
    have := lpT_le i k
    split
    · split <;> omega
    · exact this

end M
namespace M
open PySem PySem.Spec PyProof.Rows L2 G
section
variable {P : Program} {w : World} {K : PySem.W.Frag} {mg : Str → Option Value} {base : Heap}
/-! the law's own least primes and powers -/
def IsLp (n : Nat) (g : Nat → Nat) : Prop := (∀ i, 2 ≤ i → i ≤ n → IsLeast i (g i)) ∧ ∀ i, g i ≤ i
def sp__law_least (_ : PySem.W.Frag) : Sp := spec1 fun x H Q _ => ∃ n : Nat, x = .int n ∧ 1 ≤ n ∧ n ≤ 1000000 ∧ ∀ p H' g, Same H H' → H p = none → IsLp n g → H' p = some (.lst ((List.range (n + 1)).map fun i => V.int (g i : Nat))) → Q (.ref p) H'
theorem ok__law_least {af : Addr} {fd : FuncData} (F : FunD K "_law_least" "_law_least" (defArgs s__law_least) (defBody s__law_least) (defScope s__law_least) [] [] af fd) (B : Bt mg)  : FnG P w K mg base CX0 1 af fd ["most"] (sp__law_least K) := by
  refine okG F sc__law_least ar1 fun cdv A outer s H vs Q E hg hr h => ?_
  refine ⟨_, PSs.nox (pss_cons (ps_set (i := 1) sc__law_least.nd rfl (.inl rfl) (pe_listRg rfl (by rfl) B.list (prg_1 (by rfl) B.range (pe_op op_add (pv 0) pe_int))))
    (pss_cons (ps_for PassesOwn.never rfl (pi_range2 rfl B.range (pa_cons pe_int (pa_cons (pe_op op_add (pv 0) pe_int) pa_nil))) (pg_name (i := 2) sc__law_least.nd rfl (.inl rfl))
      (pss_one (ps_if (pt_cmpR op_eq (pe_ix ix_list (pv 1) (pv 2) (fun _ _ => rfl)) (pv 2) (nomark _))
        (pss_one (ps_for PassesOwn.never rfl (pi_rangeW rfl B.range (pa_cons (pe_op op_mul pe_int (pv 2)) (pa_cons (pe_op op_add (pv 0) pe_int) (pa_cons (pv 2) pa_nil)))) (pg_name (i := 3) sc__law_least.nd rfl (.inl rfl))
          (pss_one (ps_asg (pe_callB (call_min2 rfl) (by rfl) B.min (by decide +kernel) (pa_cons (pe_ix ix_list (pv 1) (pv 3) (fun _ _ => rfl)) (pa_cons (pv 2) pa_nil))) (pg_sub (pv 1) (pv 3) set_list)))))
        pss_nil)))
    (pss_one (ps_ret (pv 1))))), ?_⟩
  obtain ⟨_, rfl, n, rfl, h1, h2, q⟩ := h
  refine ⟨_, rfl, _, _, rfl, rfl, _, rfl, RgOk.of_le (by omega) (by omega) (by omega) (by omega), fun l hl => ?_⟩
  have eg : (upd H l (.lst (rgV 0 ((n : Int) + 1)))) l = some (.lst ((List.range (n + 1)).map fun i => V.int (lpT 2 i : Nat))) := by
    rw [upd_same]
    unfold rgV
    rw [show ((n : Int) + 1 - 0).toNat = n + 1 by omega]
    refine congrArg (fun z => some (HO.lst z)) (List.map_congr_left fun i _ => congrArg V.int ?_)
    have : lpT 2 i = i := by
      rw [lpT, lpT, lpT]
      rw [if_neg (fun z => absurd z.1 not_pr1), if_neg (fun z => absurd z.1 not_pr0)]
    rw [this]
    omega
  have s0 := (Same.refl H).new (o := .lst (rgV 0 ((n : Int) + 1))) hl
  have z1 : H l = none := hl
  refine ⟨_, rfl, _, _, rfl, rfl, _, _, rfl, ⟨by omega, by omega, by omega, by omega⟩, for_range (lo := 2) (fun j σ H' => ∃ y2 y3 : Option V, σ = [some (.int n), some (.ref l), y2, y3] ∧ Same H H' ∧ H' l = some (.lst ((List.range (n + 1)).map fun i => V.int (lpT (j + 2) i : Nat)))) ⟨none, none, rfl, s0, eg⟩ ?_ ?_⟩
  · rintro j σ H3 hj ⟨y2, y3, rfl, sm, el⟩
    have hj' : j + 2 ≤ n := by omega
    have cm : (2 : Int) + (j : Int) = ((j + 2 : Nat) : Int) := by omega
    rw [cm]
    refine ⟨_, rfl, _, rfl, l, _, _, _, rfl, rfl, SqL.of el, map_range_at (by omega), _, rfl, rfl, _, rfl, ite2 (fun hc => ?_) (fun hc => ?_)⟩
    · have hp : Pr (j + 2) := (lpT_self (by omega)).mp (by have := V.int.inj (of_decide_eq_true hc); omega)
      generalize hm : j + 2 = m at *
      have c2 : (2 : Int) * (m : Int) = ((2 * m : Nat) : Int) := by omega
      refine ⟨_, rfl, _, _, rfl, rfl, c64, _, rfl, _, _, rfl, rfl, _, rfl, ((2 * m : Nat) : Int), (n : Int) + 1, (m : Int), (by show [V.int ((2 : Int) * (m : Int)), V.int ((n : Int) + 1), V.int (m : Int)] = _; rw [c2]), ⟨by omega, by omega, by omega, by omega, by omega, by omega⟩, for_rangeC (fun t σ H4 => ∃ y3 : Option V, σ = [some (.int n), some (.ref l), some (.int (m : Int)), y3] ∧ Same H H4 ∧ H4 l = some (.lst (hitL (n + 1) 0 (2 * m) m t (fun i => V.int ((if m < lpT m i then m else lpT m i : Nat) : Int)) (fun i => V.int (lpT m i : Nat))))) ⟨y3, rfl, sm, by rw [hitL_zero]; exact el⟩ ?_ ?_⟩
      · rintro t σ H4 ht ⟨y3, rfl, sm4, el4⟩
        obtain ⟨i, i1, i2, i3⟩ := hit_place (N := n + 1) (off := 0) (by omega) ht (by omega) (by omega)
        rw [i3]
        have ei : ((i + 0 : Nat) : Int) = (i : Int) := by omega
        rw [ei]
        have mv : V.int (if (m : Int) < (lpT m i : Nat) then (m : Int) else (lpT m i : Nat)) = V.int ((if m < lpT m i then m else lpT m i : Nat) : Int) := congrArg V.int (by split <;> split <;> omega)
        refine ⟨_, rfl, _, rfl, l, _, _, .int (lpT m i : Nat), rfl, rfl, SqL.of el4, hitL_get i2 i1, _, rfl, _, _, rfl, _, rfl, _, rfl, l, _, _, i, rfl, rfl, el4, ?_, ?_⟩
        · rw [hitL_len]
          exact ixN_nat i1
        refine ⟨_, rfl, sm4.mut z1, ?_⟩
        rw [upd_same, mv]
        exact congrArg (fun z => some (HO.lst z)) (hitL_set (f := fun i => V.int ((if m < lpT m i then m else lpT m i : Nat) : Int)) (by omega) (Nat.dvd_mul_left m 2) i2)
      · rintro σ H4 ⟨y3, rfl, sm4, el4⟩
        rw [hitL_done (by omega) (Nat.dvd_mul_left m 2) (by omega)] at el4
        refine ⟨_, _, rfl, sm4, el4.trans (congrArg (fun z => some (HO.lst z)) (List.map_congr_left fun i hi => ?_))⟩
        rw [show j + 1 + 2 = m + 1 by omega, lpT, Nat.add_zero]
        by_cases a : m ∣ i ∧ 2 * m ≤ i
        · rw [if_pos a, if_pos (show Pr m ∧ m ∣ i ∧ 2 * m ≤ i from ⟨hp, a⟩)]
        · rw [if_neg a, if_neg (show ¬ (Pr m ∧ m ∣ i ∧ 2 * m ≤ i) from fun z => a z.2)]
    · have hp : ¬ Pr (j + 2) := fun z => hc (decide_eq_true (by rw [(lpT_self (by omega)).mpr z]))
      refine ⟨_, _, rfl, sm, el.trans (congrArg (fun z => some (HO.lst z)) (List.map_congr_left fun i hi => ?_))⟩
      rw [show j + 1 + 2 = (j + 2) + 1 by omega, show lpT (j + 2 + 1) i = if Pr (j + 2) ∧ (j + 2) ∣ i ∧ 2 * (j + 2) ≤ i then (if (j + 2) < lpT (j + 2) i then (j + 2) else lpT (j + 2) i) else lpT (j + 2) i from rfl, if_neg (fun z => hp z.1)]
  · rintro σ H3 ⟨y2, y3, rfl, sm, el⟩
    refine ⟨_, rfl, q l H3 _ sm z1 ⟨fun i i1 i2 => lpT_least i1 ?_, fun i => lpT_le i _⟩ el⟩
    omega
def Rows (H : Hp) (p : Addr) (L : List (Nat × Nat)) : Prop := ∃ ts : List Addr, H p = some (.lst (ts.map V.ref)) ∧ ts.length = L.length ∧ ∀ (i : Nat) (t : Addr), ts[i]? = some t → ∃ x, L[i]? = some x ∧ H t = some (.tup [.int (x.1 : Int), .int (x.2 : Int)])
theorem Rows.same {H H' : Hp} {p : Addr} {L : List (Nat × Nat)} (h : Rows H p L) (s : Same H H') : Rows H' p L := by
  obtain ⟨ts, h1, h2, h3⟩ := h
  refine ⟨ts, s _ _ h1, h2, fun i t e => ?_⟩
  obtain ⟨x, e1, e2⟩ := h3 i t e
  exact ⟨x, e1, s _ _ e2⟩
theorem row_one {N : Addr → Prop} {H : Hp} {v : V} {x : Nat × Nat} (h : Rp N H v (powD x)) : ∃ t, v = V.ref t ∧ H t = some (.tup [.int (x.1 : Int), .int (x.2 : Int)]) := by
  cases h with
  | tup _ e r =>
    cases r with
    | cons a b =>
      cases a
      cases b with
      | cons c d =>
        cases c
        cases d
        exact ⟨_, rfl, e⟩
theorem rows_all {N : Addr → Prop} {H : Hp} : ∀ {L : List (Nat × Nat)} {vs : List V}, RpA N H vs (L.map powD) → ∃ ts : List Addr, vs = ts.map V.ref ∧ ts.length = L.length ∧ ∀ (i : Nat) (t : Addr), ts[i]? = some t → ∃ x, L[i]? = some x ∧ H t = some (.tup [.int (x.1 : Int), .int (x.2 : Int)])
  | [], _, h => by
    cases h
    exact ⟨[], rfl, rfl, fun i t e => by simp at e⟩
  | x :: L, _, h => by
    cases h with
    | cons h1 h2 =>
      obtain ⟨ts, rfl, hl, hi⟩ := rows_all h2
      obtain ⟨t, rfl, et⟩ := row_one h1
      refine ⟨t :: ts, rfl, by rw [List.length_cons, List.length_cons, hl], fun i u e => ?_⟩
      cases i with
      | zero =>
        cases e
        exact ⟨x, rfl, et⟩
      | succ i => exact hi i u e
theorem rows_of {N : Addr → Prop} {H : Hp} {p : Addr} {L : List (Nat × Nat)} (h : Rp N H (.ref p) (.list (L.map powD))) : Rows H p L := by
  cases h with
  | lst _ e r =>
    obtain ⟨ts, rfl, hl, hi⟩ := rows_all r
    exact ⟨ts, e, hl, hi⟩
def sp__law_powers (_ : PySem.W.Frag) : Sp := spec2 fun x y H Q _ => ∃ (n m : Nat) (a : Addr) (g : Nat → Nat), x = .int n ∧ y = .ref a ∧ 1 ≤ n ∧ n ≤ m ∧ m ≤ 1000000 ∧ IsLp m g ∧ H a = some (.lst ((List.range (m + 1)).map fun i => V.int (g i : Nat))) ∧ ∀ L p H', FacOf L n → Same H H' → Rp (New H) H' (.ref p) (.list (L.map powD)) → Q (.ref p) H'
theorem ok__law_powers {af : Addr} {fd : FuncData} (F : FunD K "_law_powers" "_law_powers" (defArgs s__law_powers) (defBody s__law_powers) (defScope s__law_powers) [] [] af fd) (B : Bt mg)  : FnG P w K mg base CX0 1 af fd ["number", "least"] (sp__law_powers K) := by
  refine okG F sc__law_powers ar2 fun cdv A outer s H vs Q E hg hr h => ?_
  refine ⟨_, PSs.nox (pss_cons (ps_par (i := 2) (j := 3) (by rfl) sc__law_powers.nd rfl rfl (by decide) rfl rfl (pa_cons (pe_lst pa_nil) (pa_cons (pv 0) pa_nil)) (by rfl))
    (pss_cons (ps_while PassesOwn.never (pt_cmpR op_gt (pv 3) pe_int (nomark _))
      (pss_cons (ps_par (i := 4) (j := 5) (by rfl) sc__law_powers.nd rfl rfl (by decide) rfl rfl (pa_cons (pe_ix ix_list (pv 1) (pv 3) (fun _ _ => rfl)) (pa_cons pe_int pa_nil)) (by rfl))
      (pss_cons (ps_while PassesOwn.never (pt_cmpR op_eq (pe_callTy call_int1 (by rfl) B.int (by decide +kernel) (pa_cons (pe_op op_mod (pv 3) (pv 4)) pa_nil)) pe_int (nomark _))
        (pss_one (ps_par (i := 3) (j := 5) (by rfl) sc__law_powers.nd rfl rfl (by decide) rfl rfl (pa_cons (pe_op op_fdivW (pv 3) (pv 4)) (pa_cons (pe_op op_add (pv 5) pe_int) pa_nil)) (by rfl))))
      (pss_one (ps_expr (pe_bm PySem.F.plainAttrs_list PySem.F.slot_list_append PySem.F.type_list_append mt_append (pv 2) (pa_cons (pe_tup (pa_cons (pv 4) (pa_cons (pv 5) pa_nil))) pa_nil)))))))
    (pss_one (ps_ret (pv 2))))), ?_⟩
  obtain ⟨_, _, rfl, n, m, a, g, rfl, rfl, h1, h2, h3, hg, ea, q⟩ := h
  refine ⟨sz0, fun fd hfd => ⟨_, rfl, _, _, rfl, ?_⟩⟩
  refine ⟨fun k σ H' => ∃ (vs : List V) (acc : List (Nat × Nat)) (left : Nat) (y4 y5 : Option V), σ = [some (.int n), some (.ref a), some (.ref fd), some (.int left), y4, y5] ∧ Same H H' ∧ H' fd = some (.lst vs) ∧ RpA (Nw H fd) H' vs (acc.map powD) ∧ FacOk 0 acc ∧ (∀ x ∈ acc, x.1 ≤ n ∧ ∀ q, Pr q → q ∣ left → x.1 < q) ∧ facP acc * left = n ∧ 0 < left ∧ left ≤ n ∧ left = k,
    ⟨_, [], [], n, none, none, rfl, Same.new (Same.refl H) hfd, upd_same, .nil, True.intro, by simp, by simp [facP], by omega, Nat.le_refl n, rfl⟩, fun k σ H' hW => ?_⟩
  obtain ⟨vs, acc, left, y4, y5, rfl, sm, ef, rp, ok, lt, pr, l0, ln, rfl⟩ := hW
  have vlen : vs.length ≤ 1000001 := by
    rw [rp.length, List.length_map]
    have := facOk_len ok (n + 1) fun x hx => by have := (lt x hx).1; omega
    omega
  refine ⟨_, rfl, _, _, rfl, rfl, _, rfl, ite2 (fun hc => ?_) (fun hc => ?_)⟩
  · have hc' : 2 ≤ left := by
      have : (1 : Int) < (left : Int) := of_decide_eq_true hc
      omega
    obtain ⟨pp, pd, pl⟩ := hg.1 left hc' (by omega)
    refine ⟨_, fun _ _ z => z, _, rfl, _, rfl, a, _, _, _, rfl, rfl, SqL.of (sm _ _ ea), map_range_at (by omega), _, _, rfl, ?_⟩
    have pln := hg.2 left
    generalize g left = p at pp pd pl pln ⊢
    have p2 := pp.1
    refine ⟨fun k σ H2 => ∃ l2 many : Nat, σ = [some (.int n), some (.ref a), some (.ref fd), some (.int l2), some (.int p), some (.int many)] ∧ H2 = H' ∧ left = l2 * p ^ many ∧ 0 < l2 ∧ l2 ≤ left ∧ l2 = k, ⟨_, left, 0, rfl, rfl, by simp, l0, Nat.le_refl _, rfl⟩, fun k σ H2 hW => ?_⟩
    obtain ⟨l2, many, rfl, rfl, el, l20, l2l, rfl⟩ := hW
    refine ⟨_, rfl, _, rfl, _, _, rfl, rfl, (show (0 : Int) < (p : Int) by omega), .inl ⟨_, rfl, rfl, _, rfl, ite2 (fun hd => ?_) (fun hd => ?_)⟩⟩
    · have hd' : p ∣ l2 := by
        have z : (l2 : Int) % (p : Int) = 0 := V.int.inj (of_decide_eq_true hd)
        exact Nat.dvd_of_mod_eq_zero (by omega)
      obtain ⟨k, rfl⟩ := hd'
      have hk : 0 < k := by
        rcases Nat.eq_zero_or_pos k with e | e
        · rw [e] at l20
          omega
        · exact e
      have hlt : k < p * k := by
        have := Nat.mul_le_mul_right k p2
        omega
      have ek : ((p * k : Nat) : Int) / (p : Int) = (k : Int) := by
        rw [Int.natCast_mul, Int.mul_ediv_cancel_left _ (by omega)]
      refine ⟨_, fun _ _ z => z, _, rfl, _, rfl, _, _, rfl, rfl, divw (by omega) (by omega), _, rfl, _, _, rfl, rfl, _, _, rfl, k, by omega, k, many + 1, ?_, rfl, ?_, hk, by omega, rfl⟩
      · show [some (V.int n), some (V.ref a), some (V.ref fd), some (V.int (((p * k : Nat) : Int) / (p : Int))), some (V.int p), some (V.int ((many : Int) + 1))] = _
        rw [ek, Int.natCast_add]
        rfl
      · rw [el, Nat.pow_succ, Nat.mul_comm p k, Nat.mul_assoc, Nat.mul_comm p]
    · have hd' : ¬ p ∣ l2 := fun z => hd (decide_eq_true (congrArg V.int (by
        have := Nat.mod_eq_zero_of_dvd z
        show (l2 : Int) % (p : Int) = 0
        omega)))
      have hm' : 1 ≤ many := by
        rcases Nat.eq_zero_or_pos many with e | e
        · rw [e, Nat.pow_zero, Nat.mul_one] at el
          rw [el] at pd
          exact (hd' pd).elim
        · exact e
      have l2d : l2 ∣ left := ⟨p ^ many, el⟩
      have llt : l2 < left := by
        rcases Nat.lt_or_ge l2 left with z | z
        · exact z
        · have e : left = l2 := by omega
          rw [e] at pd
          exact (hd' pd).elim
      refine ⟨_, rfl, .inl ⟨rfl, _, SqL.of ef⟩, _, rfl, _, rfl, sz2, fun t ht => ?_⟩
      have npt : fd ≠ t := ne_of_none ef ht
      refine ⟨fd, _, _, rfl, rfl, (upd_ne npt).trans ef, small_lt (by omega), l2, by omega, _, acc ++ [(p, many)], l2, _, _, rfl, (sm.new ht).mut hfd, upd_same, ?_, ok.snoc (fun x hx => (lt x hx).2 p pp pd) (Nat.zero_le _) pp hm', fun x hx => ?_, ?_, l20, by omega, rfl⟩
      · rw [List.map_append]
        refine ((rp.new ht).put nw_not).snoc ?_
        exact .tup ⟨sm.free ht, npt.symm⟩ ((upd_ne npt.symm).trans upd_same) (RpA.ints [(p : Int), (many : Int)])
      · rcases List.mem_append.mp hx with hx | hx
        · exact ⟨(lt x hx).1, fun q hq hqd => (lt x hx).2 q hq (Nat.dvd_trans hqd l2d)⟩
        · cases List.mem_singleton.mp hx
          refine ⟨by show p ≤ n; omega, fun q hq hqd => ?_⟩
          have h5 := pl q hq.1 (Nat.dvd_trans hqd l2d)
          rcases Nat.eq_or_lt_of_le h5 with h6 | h6
          · rw [← h6] at hqd
            exact (hd' hqd).elim
          · exact h6
      · rw [facP_snoc, ← pr, el, Nat.mul_assoc, Nat.mul_comm (p ^ many)]
  · have hm' : left = 1 := by
      have : ¬ (1 : Int) < (left : Int) := fun z => hc (decide_eq_true z)
      omega
    exact ⟨_, rfl, q acc fd H' ⟨ok, by rw [← pr, hm', Nat.mul_one]⟩ sm (.lst hfd ef (RpA.mono (fun _ z => z.1) (fun _ _ _ z => z) _ _ rp))⟩
def sp__law_sign (_ : PySem.W.Frag) : Sp := spec1 fun x H Q _ => ∃ (p : Addr) (L : List (Nat × Nat)), x = .ref p ∧ Rows H p L ∧ L.length ≤ 100 ∧ ∀ H', Same H H' → Q (.int (sgnL L)) H'
theorem ok__law_sign {af : Addr} {fd : FuncData} (F : FunD K "_law_sign" "_law_sign" (defArgs s__law_sign) (defBody s__law_sign) (defScope s__law_sign) [] [] af fd) (B : Bt mg)  : FnG P w K mg base CX0 1 af fd ["rows"] (sp__law_sign K) := by
  refine okG F sc__law_sign ar1 fun cdv A outer s H vs Q E hg hr h => ?_
  refine ⟨_, PSs.nox (pss_cons (ps_if (pt_val (pe_callB (cr_any rfl) (by rfl) B.any (by decide +kernel) (pa_cons (pe_lc (own := [("prime", 1), ("many", 2)]) (g := gTup K 2 (gCons (gName 1) (gCons (gName 2) gNil))) rfl sc__law_sign.nd ((pi_list (pv 0))) (blkOk_by (own := [("prime", 1), ("many", 2)]) (N := ["rows", "prime", "many"]) (sc := defScope s__law_sign) (by decide +kernel)) (fun _ _ _ _ _ => pg_tup (n := 2) (by rfl) (pgs_cons (pg_name (i := 1) sc__law_sign.nd rfl (.inl rfl) (.inr rfl)) (pgs_cons (pg_name (i := 2) sc__law_sign.nd rfl (.inl rfl) (.inr rfl)) pgs_nil (by rfl)) (by rfl)) (by rfl) (by rfl)) (fun _ _ _ _ _ => pts_nil) (fun _ _ _ _ _ => (pe_cmpR op_gt (pv 2) pe_int (nomark _)))) pa_nil)))
      (pss_one (ps_ret pe_int))
      pss_nil)
    (pss_one (ps_ret (pe_ifExp (pt_cmpR op_eq (pe_callTy call_int1 (by rfl) B.int (by decide +kernel) (pa_cons (pe_op op_mod (pe_callB call_len_seq (by rfl) B.len (by decide +kernel) (pa_cons (pv 0) pa_nil)) pe_int) pa_nil)) pe_int (nomark _)) pe_int (pe_un un_neg pe_int))))), ?_⟩
  obtain ⟨_, rfl, p, L, rfl, hr, hl, q⟩ := h
  obtain ⟨ts, e, hl2, hi⟩ := hr
  refine ⟨_, rfl, p, rfl, ⟨_, SqL.of e⟩, fun D hD => lc_list (K := K) (a := p) (xs := ts.map V.ref) (fun i H2 => Same H H2 ∧ H2 D = some (.lst (((L.take i).map fun x => decide (1 < x.2)).map V.bl))) ⟨(Same.refl _).new hD, upd_same⟩ (fun i H2 _ z => SqL.of (z.1 _ _ e)) ?_ ?_⟩
  · rintro i v H2 hv ⟨sm, eD⟩
    rw [List.getElem?_map] at hv
    obtain ⟨t, ht, rfl⟩ := Option.map_eq_some_iff.mp hv
    obtain ⟨x, hx, et⟩ := hi i t ht
    have hil : i < L.length := (List.getElem?_eq_some_iff.mp hx).1
    have hDn : H D = none := hD
    refine ⟨t, _, rfl, SqT.of (sm _ _ et), rfl, _, _, rfl, _, _, rfl, rfl, rfl, _, rfl, _, _, rfl, rfl, _, eD, ?_, sm.mut hDn, ?_⟩
    · rw [List.length_map, List.length_map, List.length_take]
      exact small_lt (by omega)
    · rw [upd_same, List.take_add_one, hx]
      simp only [Option.toList, List.map_append, List.map_cons, List.map_nil]
      refine congrArg (fun z => some (HO.lst (_ ++ [V.bl z]))) (decide_eq_decide.mpr ?_)
      omega
  · rintro H2 ⟨sm, eD⟩
    rw [List.length_map, hl2, List.take_length] at eD
    refine ⟨D, _, rfl, SqL.of eD, _, rfl, ?_⟩
    have ea : (List.map (fun x : Nat × Nat => decide (1 < x.2)) L).any id = L.any fun x => decide (1 < x.2) := by
      rw [List.any_map]
      rfl
    rw [ea]
    refine ite2 (fun hc => ?_) (fun hc => ?_)
    · have := q H2 sm
      unfold sgnL at this
      rw [if_pos hc] at this
      exact this
    · have q2 := q H2 sm
      unfold sgnL at q2
      rw [if_neg hc] at q2
      refine ⟨_, rfl, p, _, rfl, .inl (SqL.of (sm _ _ e)), _, _, rfl, rfl, (by show (0 : Int) < 2; decide), .inl ⟨_, rfl, rfl, _, rfl, ite2 (fun hd => ?_) (fun hd => ?_)⟩⟩
      · have : L.length % 2 = 0 := by
          have := V.int.inj (of_decide_eq_true hd)
          rw [List.length_map, hl2] at this
          omega
        rw [if_pos this] at q2
        exact q2
      · have : ¬ L.length % 2 = 0 := fun z => hd (decide_eq_true (by
          rw [List.length_map, hl2]
          refine congrArg V.int ?_
          omega))
        rw [if_neg this] at q2
        exact ⟨_, rfl, q2⟩

end
end M
namespace M
open PySem PySem.Spec PyProof.Rows L2 G
section
variable {P : Program} {w : World} {K : PySem.W.Frag} {mg : Str → Option Value} {base : Heap}
/-! numbers of entries -/
def sp_want_some (_ : PySem.W.Frag) : Sp := spec1 fun x H Q _ => ∃ n : Nat, x = .int n ∧ 1 ≤ n ∧ n ≤ 20000 ∧ Q .non H
theorem ok_want_some {af : Addr} {fd : FuncData} (F : FunD K "want_some" "want_some" (defArgs s_want_some) (defBody s_want_some) (defScope s_want_some) [] [] af fd) (B : Bt mg) (C_want_many : Cl P w K mg base 3 "want_many" 2 [.int 0] (sp_want_many K)) {t_MOST_SIEVED : Tok} (c_MOST_SIEVED : mg "MOST_SIEVED" = some (.int 20000 t_MOST_SIEVED)) : FnG P w K mg base CX0 4 af fd ["value"] (sp_want_some K) := by
  refine okG F sc_want_some ar1 fun cdv A outer s H vs Q E hg hr h => ?_
  refine ⟨_, PSs.nox (pss_cons (ps_expr (pe_cl C_want_many hg hr (by decide) rfl (pa_cons (pv 0) (pa_cons (pe_glob (v := .int 20000) rfl c_MOST_SIEVED ⟨_, rfl⟩) pa_nil))))
    (pss_one (ps_if (pt_cmpR op_eq (pv 0) pe_int (nomark _))
      (pss_one ps_never)
      pss_nil))), ?_⟩
  obtain ⟨_, rfl, n, rfl, h1, h2, q⟩ := h
  refine ⟨_, rfl, _, _, _, rfl, n, 20000, 0, rfl, rfl, rfl, by omega, by omega, by omega, _, rfl, rfl, _, bl_f (fun z => by have := V.int.inj z; omega), iteF q⟩
theorem nsV_len (l : List Nat) : (nsV l).length = l.length := by unfold nsV; rw [List.length_map]
theorem nsV_at {l : List Nat} {i : Nat} {x : V} (h : (nsV l)[i]? = some x) : ∃ p, l[i]? = some p ∧ x = V.int (p : Int) := by
  unfold nsV at h
  rw [List.getElem?_map] at h
  obtain ⟨p, hp, rfl⟩ := Option.map_eq_some_iff.mp h
  exact ⟨p, hp, rfl⟩

end
end M
namespace M
open PySem PySem.Spec PyProof.Rows L2 G
section
variable {P : Program} {w : World} {K : PySem.W.Frag} {mg : Str → Option Value} {base : Heap}
/-! signs by a sieve with marks -/
def plainB (m i : Nat) : Bool := decide (∀ q, q < m → Pr q → q ≤ i → q ∣ i → q = i)
theorem plainB_two (i : Nat) : plainB 2 i = true := decide_eq_true fun q h1 h2 _ _ => by
  have := h2.1
  omega
theorem plainB_self {m : Nat} (h : 2 ≤ m) : plainB m m = decide (Pr m) := decide_eq_decide.mpr ⟨fun z => Classical.byContradiction fun np => by
    obtain ⟨p, hp, hd, _, hl⟩ := not_pr_has h np
    have := z p hl hp (by omega) hd
    omega, fun z q h1 h2 _ h4 => h2.eq_of_dvd z h4⟩
theorem plainB_next_not {m i : Nat} (h : ¬ Pr m) : plainB (m + 1) i = plainB m i := decide_eq_decide.mpr ⟨fun z q h1 => z q (by omega), fun z q h1 h2 => by
    rcases Nat.lt_succ_iff_lt_or_eq.mp h1 with h3 | h3
    · exact z q h3 h2
    · rw [h3] at h2
      exact (h h2).elim⟩
theorem plainB_next {m i : Nat} (h : Pr m) : plainB (m + 1) i = if m ∣ i ∧ m ≤ i then decide (i = m) else plainB m i := by
  split
  · rename_i a
    refine decide_eq_decide.mpr ⟨fun z => (z m (by omega) h a.2 a.1).symm, fun z q h1 h2 h3 h4 => ?_⟩
    rw [z] at h4 ⊢
    exact h2.eq_of_dvd h h4
  · rename_i a
    refine decide_eq_decide.mpr ⟨fun z q h1 => z q (by omega), fun z q h1 h2 h3 h4 => ?_⟩
    rcases Nat.lt_succ_iff_lt_or_eq.mp h1 with h5 | h5
    · exact z q h5 h2 h3 h4
    · rw [h5] at h3 h4
      exact (a ⟨h4, h3⟩).elim
/-- the sign, 0 at 0 -/
def muT (k i : Nat) : Int := if i = 0 then 0 else muL (primesTo k) i
def muZ (i : Nat) : Int := if i = 0 then 0 else mu i
theorem muT_one {i : Nat} (h : i ≠ 0) : muT 1 i = 1 := by
  unfold muT
  rw [if_neg h, primesTo_one]
  rfl
theorem muT_next {m i : Nat} (h : Pr (m + 1)) : muT (m + 1) i = if (m + 1) * (m + 1) ∣ i ∧ (m + 1) * (m + 1) ≤ i then 0 else if m + 1 ∣ i ∧ m + 1 ≤ i then 0 - muT m i else muT m i := by
  unfold muT
  by_cases e : i = 0
  · subst e
    have : ¬ (m + 1) * (m + 1) ≤ 0 := by
      have := Nat.mul_pos (show 0 < m + 1 by omega) (show 0 < m + 1 by omega)
      omega
    rw [if_pos rfl, if_neg (fun z => this z.2), if_neg (fun z => by omega), if_pos rfl]
  · rw [if_neg e, if_neg e, muL_succ, if_pos h]
    unfold mstep
    by_cases a : (m + 1) * (m + 1) ∣ i
    · rw [if_pos a, if_pos ⟨a, Nat.le_of_dvd (by omega) a⟩]
    · rw [if_neg a, if_neg (show ¬ ((m + 1) * (m + 1) ∣ i ∧ (m + 1) * (m + 1) ≤ i) from fun z => a z.1)]
      by_cases b : m + 1 ∣ i
      · rw [if_pos b, if_pos ⟨b, Nat.le_of_dvd (by omega) b⟩]
      · rw [if_neg b, if_neg (show ¬ (m + 1 ∣ i ∧ m + 1 ≤ i) from fun z => b z.1)]
theorem muT_next_not {m i : Nat} (h : ¬ Pr (m + 1)) : muT (m + 1) i = muT m i := by
  unfold muT
  rw [muL_succ, if_neg h]
theorem muT_done {n i : Nat} (h : i ≤ n) : muT n i = muZ i := by
  unfold muT muZ
  split
  · rfl
  · exact muL_ge (by omega) h
def sp_signs_to (_ : PySem.W.Frag) : Sp := spec1 fun x H Q _ => ∃ n : Nat, x = .int n ∧ 1 ≤ n ∧ n ≤ 1000000 ∧ ∀ p H', Same H H' → H p = none → H' p = some (.lst ((List.range (n + 1)).map fun i => V.int (muZ i))) → Q (.ref p) H'
theorem ok_signs_to {af : Addr} {fd : FuncData} (F : FunD K "signs_to" "signs_to" (defArgs s_signs_to) (defBody s_signs_to) (defScope s_signs_to) [] [] af fd) (B : Bt mg)  : FnG P w K mg base CX0 1 af fd ["most"] (sp_signs_to K) := by
  refine okG F sc_signs_to ar1 fun cdv A outer s H vs Q E hg hr h => ?_
  refine ⟨_, PSs.nox (pss_cons (ps_par (i := 1) (j := 2) (by rfl) sc_signs_to.nd rfl rfl (by decide) rfl rfl (pa_cons (pe_op op_rep (pe_lst (pa_cons pe_int pa_nil)) (pe_op op_add (pv 0) pe_int)) (pa_cons (pe_op op_rep (pe_lst (pa_cons pe_bl pa_nil)) (pe_op op_add (pv 0) pe_int)) pa_nil)) (by rfl))
    (pss_cons (ps_asg pe_int (pg_sub (pv 1) pe_int set_list))
    (pss_cons (ps_for PassesOwn.never rfl (pi_range2 rfl B.range (pa_cons pe_int (pa_cons (pe_op op_add (pv 0) pe_int) pa_nil))) (pg_name (i := 3) sc_signs_to.nd rfl (.inl rfl))
      (pss_one (ps_if (pt_val (pe_ix ix_list (pv 2) (pv 3) (fun _ _ => rfl)))
        (pss_cons (ps_for PassesOwn.never rfl (pi_rangeW rfl B.range (pa_cons (pv 3) (pa_cons (pe_op op_add (pv 0) pe_int) (pa_cons (pv 3) pa_nil)))) (pg_name (i := 4) sc_signs_to.nd rfl (.inl rfl))
          (pss_cons (ps_asg (pe_cmpR op_eq (pv 4) (pv 3) (nomark _)) (pg_sub (pv 2) (pv 4) set_list))
          (pss_one (ps_asg (pe_op op_sub pe_int (pe_ix ix_list (pv 1) (pv 4) (fun _ _ => rfl))) (pg_sub (pv 1) (pv 4) set_list)))))
        (pss_one (ps_for PassesOwn.never rfl (pi_rangeW rfl B.range (pa_cons (pe_op op_mul (pv 3) (pv 3)) (pa_cons (pe_op op_add (pv 0) pe_int) (pa_cons (pe_op op_mul (pv 3) (pv 3)) pa_nil)))) (pg_name (i := 4) sc_signs_to.nd rfl (.inl rfl))
          (pss_one (ps_asg pe_int (pg_sub (pv 1) (pv 4) set_list))))))
        pss_nil)))
    (pss_one (ps_ret (pv 1)))))), ?_⟩
  obtain ⟨_, rfl, n, rfl, h1, h2, q⟩ := h
  have n0 : ((n : Int) + 1).toNat = n + 1 := by omega
  refine ⟨sz1, fun l0 hl0 => ⟨_, rfl, _, _, rfl, rfl, l0, _, _, rfl, rfl, upd_same, by omega, by omega, small_sz (by show 1 * _ ≤ _; omega), fun l hl => ?_⟩⟩
  have s0 := (Same.refl H).new (o := .lst [V.int 1]) hl0
  have z1 : H l = none := s0.free hl
  have s1 := s0.new (o := .lst (List.replicate ((n : Int) + 1).toNat [V.int 1]).flatten) hl
  have e1 := upd_same (H := upd H l0 (.lst [V.int 1])) (a := l) (o := .lst (List.replicate ((n : Int) + 1).toNat [V.int 1]).flatten)
  generalize upd (upd H l0 (.lst [V.int 1])) l (.lst (List.replicate ((n : Int) + 1).toNat [V.int 1]).flatten) = H1 at s1 e1 ⊢
  refine ⟨sz1, fun k0 hk0 => ⟨_, rfl, _, _, rfl, rfl, k0, _, _, rfl, rfl, upd_same, by omega, by omega, small_sz (by show 1 * _ ≤ _; omega), fun mk hmk => ⟨_, _, rfl, ?_⟩⟩⟩
  have s2 := (Same.refl H1).new (o := .lst [V.bl true]) hk0
  have z2 : H mk = none := s1.free (s2.free hmk)
  have s3 := s2.new (o := .lst (List.replicate ((n : Int) + 1).toNat [V.bl true]).flatten) hmk
  have e2 := upd_same (H := upd H1 k0 (.lst [V.bl true])) (a := mk) (o := .lst (List.replicate ((n : Int) + 1).toNat [V.bl true]).flatten)
  have lm : l ≠ mk := ne_of_none (s2 _ _ e1) hmk
  have e3 := s3 _ _ e1
  have sH := s1.trans s3
  generalize upd (upd H1 k0 (.lst [V.bl true])) mk (.lst (List.replicate ((n : Int) + 1).toNat [V.bl true]).flatten) = H2 at sH e2 e3 ⊢
  rw [n0, rep_flat] at e2 e3
  -- found[0] = 0
  refine ⟨_, rfl, l, _, _, 0, rfl, rfl, e3, ?_, ?_⟩
  · rw [len_map_range]
    exact ixN_nat (N := n + 1) (i := 0) (by omega)
  rw [map_range_set]
  refine ⟨_, rfl, _, _, rfl, rfl, _, _, rfl, ⟨by omega, by omega, by omega, by omega⟩, for_range (lo := 2) (fun j σ H' => ∃ y3 y4 : Option V, σ = [some (.int n), some (.ref l), some (.ref mk), y3, y4] ∧ Same H H' ∧ H' l = some (.lst ((List.range (n + 1)).map fun i => V.int (muT (j + 1) i))) ∧ H' mk = some (.lst ((List.range (n + 1)).map fun i => V.bl (plainB (j + 2) i)))) ⟨none, none, rfl, sH.mut z1, ?_, ?_⟩ ?_ ?_⟩
  · rw [upd_same]
    refine congrArg (fun z => some (HO.lst z)) (List.map_congr_left fun i _ => ?_)
    by_cases e : i = 0
    · rw [if_pos e, e]
      rfl
    · rw [if_neg e, muT_one e]
  · rw [upd_ne lm.symm, e2]
    refine congrArg (fun z => some (HO.lst z)) (List.map_congr_left fun i _ => ?_)
    rw [plainB_two]
  · rintro j σ H3 hj ⟨y3, y4, rfl, sm, el, em⟩
    have hj' : j + 2 ≤ n := by omega
    have cm : (2 : Int) + (j : Int) = ((j + 2 : Nat) : Int) := by omega
    rw [cm]
    refine ⟨_, rfl, _, rfl, mk, _, _, .bl (plainB (j + 2) (j + 2)), rfl, rfl, SqL.of em, map_range_at (by omega), _, rfl, ?_⟩
    rw [plainB_self (by omega)]
    refine ite2 (fun hc => ?_) (fun hc => ?_)
    · have hp : Pr (j + 2) := of_decide_eq_true hc
      generalize hm : j + 2 = m at *
      have mn : ∀ i, muT m i = if m * m ∣ i ∧ m * m ≤ i then 0 else if m ∣ i ∧ m ≤ i then 0 - muT (j + 1) i else muT (j + 1) i := fun i => by
        subst hm
        exact muT_next (m := j + 1) hp
      refine ⟨_, rfl, _, rfl, _, _, rfl, rfl, _, rfl, _, _, _, rfl, ⟨by omega, by omega, by omega, by omega, by omega, by omega⟩, for_rangeC (fun t σ H4 => ∃ y4 : Option V, σ = [some (.int n), some (.ref l), some (.ref mk), some (.int (m : Int)), y4] ∧ Same H H4 ∧ H4 l = some (.lst (hitL (n + 1) 0 m m t (fun i => V.int (0 - muT (j + 1) i)) (fun i => V.int (muT (j + 1) i)))) ∧ H4 mk = some (.lst (hitL (n + 1) 0 m m t (fun i => V.bl (decide (i = m))) (fun i => V.bl (plainB m i))))) ⟨y4, rfl, sm, by rw [hitL_zero]; exact el, by rw [hitL_zero]; exact em⟩ ?_ ?_⟩
      · rintro t σ H4 ht ⟨y4, rfl, sm4, el4, em4⟩
        obtain ⟨i, i1, i2, i3⟩ := hit_place (N := n + 1) (off := 0) (by omega) ht (by omega) (by omega)
        rw [i3]
        have ei : ((i + 0 : Nat) : Int) = (i : Int) := by omega
        rw [ei]
        have bd : V.bl (decide (V.int (i : Int) = V.int (m : Int))) = V.bl (decide (i = m)) := congrArg V.bl (decide_eq_decide.mpr ⟨fun z => by have := V.int.inj z; omega, fun z => by rw [z]⟩)
        refine ⟨_, rfl, _, rfl, rfl, _, rfl, _, rfl, mk, _, _, i, rfl, rfl, em4, ?_, ?_⟩
        · rw [hitL_len]
          exact ixN_nat i1
        rw [bd, hitL_set (f := fun i => V.bl (decide (i = m))) (by omega) (Nat.dvd_refl m) i2]
        have el5 := (upd_ne (H := H4) (o := .lst (hitL (n + 1) 0 m m (t + 1) (fun i => V.bl (decide (i = m))) (fun i => V.bl (plainB m i)))) lm).trans el4
        refine ⟨_, rfl, _, rfl, l, _, _, .int (muT (j + 1) i), rfl, rfl, SqL.of el5, hitL_get i2 i1, _, _, rfl, rfl, _, rfl, _, rfl, l, _, _, i, rfl, rfl, el5, ?_, ?_⟩
        · rw [hitL_len]
          exact ixN_nat i1
        refine ⟨_, rfl, (sm4.mut z2).mut z1, ?_, (upd_ne lm.symm).trans upd_same⟩
        rw [upd_same]
        exact congrArg (fun z => some (HO.lst z)) (hitL_set (f := fun i => V.int (0 - muT (j + 1) i)) (by omega) (Nat.dvd_refl m) i2)
      · rintro σ H4 ⟨y4, rfl, sm4, el4, em4⟩
        rw [hitL_done (by omega) (Nat.dvd_refl m) (by omega)] at el4 em4
        have sqb : m * m ≤ 1000000 * 1000000 := Nat.mul_le_mul (by omega) (by omega)
        have sq0 : 0 < m * m := Nat.mul_pos (by omega) (by omega)
        have sqc : ((m : Nat) : Int) * ((m : Nat) : Int) = ((m * m : Nat) : Int) := by rw [Int.natCast_mul]
        refine ⟨_, rfl, _, rfl, _, _, rfl, rfl, mulc ⟨by omega, by omega⟩, _, rfl, _, _, rfl, rfl, _, rfl, _, rfl, _, _, rfl, rfl, mulc ⟨by omega, by omega⟩, ((m * m : Nat) : Int), (n : Int) + 1, ((m * m : Nat) : Int), (by show [V.int ((m : Int) * (m : Int)), V.int ((n : Int) + 1), V.int ((m : Int) * (m : Int))] = _; rw [sqc]), ?_⟩
        generalize hsq : m * m = sq at *
        refine ⟨⟨by omega, by omega, by omega, by omega, by omega, by omega⟩, for_rangeC (fun t σ H5 => ∃ y4 : Option V, σ = [some (.int n), some (.ref l), some (.ref mk), some (.int (m : Int)), y4] ∧ Same H H5 ∧ H5 l = some (.lst (hitL (n + 1) 0 sq sq t (fun _ => V.int 0) (fun i => if m ∣ i + 0 ∧ m ≤ i + 0 then V.int (0 - muT (j + 1) i) else V.int (muT (j + 1) i)))) ∧ H5 mk = some (.lst ((List.range (n + 1)).map fun i => if m ∣ i + 0 ∧ m ≤ i + 0 then V.bl (decide (i = m)) else V.bl (plainB m i)))) ⟨y4, rfl, sm4, by rw [hitL_zero]; exact el4, em4⟩ ?_ ?_⟩
        · rintro t σ H5 ht ⟨y4, rfl, sm5, el5, em5⟩
          obtain ⟨i, i1, i2, i3⟩ := hit_place (N := n + 1) (off := 0) (by omega) ht (by omega) (by omega)
          rw [i3]
          have ei : ((i + 0 : Nat) : Int) = (i : Int) := by omega
          rw [ei]
          refine ⟨_, rfl, _, rfl, l, _, _, i, rfl, rfl, el5, ?_, ?_⟩
          · rw [hitL_len]
            exact ixN_nat i1
          refine ⟨_, rfl, sm5.mut z1, ?_, (upd_ne lm.symm).trans em5⟩
          rw [upd_same]
          exact congrArg (fun z => some (HO.lst z)) (hitL_set (f := fun _ => V.int 0) (by omega) (Nat.dvd_refl sq) i2)
        · rintro σ H5 ⟨y4, rfl, sm5, el5, em5⟩
          rw [hitL_done (by omega) (Nat.dvd_refl sq) (by omega)] at el5
          refine ⟨_, _, rfl, sm5, el5.trans (congrArg (fun z => some (HO.lst z)) (List.map_congr_left fun i hi => ?_)), em5.trans (congrArg (fun z => some (HO.lst z)) (List.map_congr_left fun i hi => ?_))⟩
          · rw [mn i, Nat.add_zero]
            split
            · rfl
            · split <;> rfl
          · rw [show j + 1 + 2 = m + 1 by omega, plainB_next hp, Nat.add_zero]
            split <;> rfl
    · have hp : ¬ Pr (j + 2) := fun z => hc (decide_eq_true z)
      refine ⟨_, _, rfl, sm, ?_, ?_⟩
      · rw [el]
        refine congrArg (fun z => some (HO.lst z)) (List.map_congr_left fun i _ => ?_)
        rw [muT_next_not hp]
      · rw [em]
        refine congrArg (fun z => some (HO.lst z)) (List.map_congr_left fun i _ => ?_)
        rw [show j + 1 + 2 = (j + 2) + 1 by omega, plainB_next_not hp]
  · rintro σ H3 ⟨y3, y4, rfl, sm, el, em⟩
    refine ⟨_, rfl, q l H3 sm z1 (el.trans (congrArg (fun z => some (HO.lst z)) (List.map_congr_left fun i hi => ?_)))⟩
    have := List.mem_range.mp hi
    rw [muT_done (show i ≤ _ by omega)]

end
end M
namespace M
open PySem PySem.Spec PyProof.Rows L2 G
section
variable {P : Program} {w : World} {K : PySem.W.Frag} {mg : Str → Option Value} {base : Heap}
/-! shares, share-free counts -/
theorem gcd_turn {a b : Nat} : Nat.gcd a b = Nat.gcd b (a % b) := by
  rw [Nat.gcd_comm a b, Nat.gcd_rec b a, Nat.gcd_comm]
def sp_share_of (_ : PySem.W.Frag) : Sp := spec2 fun x y H Q _ => ∃ a b : Nat, x = .int a ∧ y = .int b ∧ a ≤ 1000000000000 ∧ b ≤ 1000000000000 ∧ Q (.int (Nat.gcd a b : Nat)) H
def sp__law_share (_ : PySem.W.Frag) : Sp := spec2 fun x y H Q _ => ∃ a b : Nat, x = .int a ∧ y = .int b ∧ a ≤ 1000000000000 ∧ b ≤ 1000000000000 ∧ Q (.int (Nat.gcd a b : Nat)) H
theorem ok_share_of {af : Addr} {fd : FuncData} (F : FunD K "share_of" "share_of" (defArgs s_share_of) (defBody s_share_of) (defScope s_share_of) [] [] af fd) (B : Bt mg)  : FnG P w K mg base CX0 1 af fd ["near", "far"] (sp_share_of K) := by
  refine okG F sc_share_of ar2 fun cdv A outer s H vs Q E hg hr h => ?_
  refine ⟨_, PSs.nox (pss_cons (ps_par (i := 2) (j := 3) (by rfl) sc_share_of.nd rfl rfl (by decide) rfl rfl (pa_cons (pe_callB call_abs (by rfl) B.abs (by decide +kernel) (pa_cons (pv 0) pa_nil)) (pa_cons (pe_callB call_abs (by rfl) B.abs (by decide +kernel) (pa_cons (pv 1) pa_nil)) pa_nil)) (by rfl))
    (pss_cons (ps_while PassesOwn.never (pt_cmpR op_gt (pv 3) pe_int (nomark _))
      (pss_one (ps_par (i := 2) (j := 3) (by rfl) sc_share_of.nd rfl rfl (by decide) rfl rfl (pa_cons (pv 3) (pa_cons (pe_op op_mod (pv 2) (pv 3)) pa_nil)) (by rfl))))
    (pss_one (ps_ret (pv 2))))), ?_⟩
  obtain ⟨_, _, rfl, a, b, rfl, rfl, h1, h2, q⟩ := h
  refine ⟨_, rfl, _, rfl, _, rfl, _, rfl, _, _, rfl, ?_⟩
  dsimp only []
  rw [if_neg (show ¬ (a : Int) < 0 by omega), if_neg (show ¬ (b : Int) < 0 by omega)]
  refine ⟨fun m σ H' => ∃ c d : Nat, σ = [some (.int (a : Int)), some (.int (b : Int)), some (.int (c : Int)), some (.int (d : Int))] ∧ H' = H ∧ Nat.gcd c d = Nat.gcd a b ∧ d = m, ⟨_, a, b, rfl, rfl, rfl, rfl⟩, fun m σ H' hW => ?_⟩
  obtain ⟨c, d, rfl, rfl, hg', rfl⟩ := hW
  refine ⟨_, rfl, _, _, rfl, rfl, _, rfl, ite2 (fun hc => ?_) (fun hc => ?_)⟩
  · have d0 : 0 < d := by
      have : (0 : Int) < (d : Int) := of_decide_eq_true hc
      omega
    have lt := Nat.mod_lt c d0
    exact ⟨_, fun _ _ z => z, _, rfl, _, rfl, _, rfl, _, _, rfl, rfl, (show (0 : Int) < (d : Int) by omega), _, _, rfl, c % d, by omega, d, c % d, rfl, rfl, gcd_turn.symm.trans hg', rfl⟩
  · have d0 : d = 0 := by
      have : ¬ (0 : Int) < (d : Int) := fun z => hc (decide_eq_true z)
      omega
    subst d0
    rw [Nat.gcd_zero_right] at hg'
    rw [← hg'] at q
    exact ⟨_, rfl, q⟩
theorem ok__law_share {af : Addr} {fd : FuncData} (F : FunD K "_law_share" "_law_share" (defArgs s__law_share) (defBody s__law_share) (defScope s__law_share) [] [] af fd) (B : Bt mg)  : FnG P w K mg base CX0 1 af fd ["near", "far"] (sp__law_share K) := by
  refine okG F sc__law_share ar2 fun cdv A outer s H vs Q E hg hr h => ?_
  refine ⟨_, PSs.nox (pss_cons (ps_par (i := 2) (j := 3) (by rfl) sc__law_share.nd rfl rfl (by decide) rfl rfl (pa_cons (pv 0) (pa_cons (pv 1) pa_nil)) (by rfl))
    (pss_cons (ps_while PassesOwn.never (pt_cmpR op_gt (pv 3) pe_int (nomark _))
      (pss_one (ps_par (i := 2) (j := 3) (by rfl) sc__law_share.nd rfl rfl (by decide) rfl rfl (pa_cons (pv 3) (pa_cons (pe_callTy call_int1 (by rfl) B.int (by decide +kernel) (pa_cons (pe_op op_mod (pv 2) (pv 3)) pa_nil)) pa_nil)) (by rfl))))
    (pss_one (ps_ret (pv 2))))), ?_⟩
  obtain ⟨_, _, rfl, a, b, rfl, rfl, h1, h2, q⟩ := h
  refine ⟨_, rfl, _, rfl, _, _, rfl, ?_⟩
  refine ⟨fun m σ H' => ∃ c d : Nat, σ = [some (.int (a : Int)), some (.int (b : Int)), some (.int (c : Int)), some (.int (d : Int))] ∧ H' = H ∧ Nat.gcd c d = Nat.gcd a b ∧ d = m, ⟨_, a, b, rfl, rfl, rfl, rfl⟩, fun m σ H' hW => ?_⟩
  obtain ⟨c, d, rfl, rfl, hg', rfl⟩ := hW
  refine ⟨_, rfl, _, _, rfl, rfl, _, rfl, ite2 (fun hc => ?_) (fun hc => ?_)⟩
  · have d0 : 0 < d := by
      have : (0 : Int) < (d : Int) := of_decide_eq_true hc
      omega
    have lt := Nat.mod_lt c d0
    exact ⟨_, fun _ _ z => z, _, rfl, _, rfl, _, rfl, _, _, rfl, rfl, (show (0 : Int) < (d : Int) by omega), .inl ⟨_, rfl, _, _, rfl, c % d, by omega, d, c % d, rfl, rfl, gcd_turn.symm.trans hg', rfl⟩⟩
  · have d0 : d = 0 := by
      have : ¬ (0 : Int) < (d : Int) := fun z => hc (decide_eq_true z)
      omega
    subst d0
    rw [Nat.gcd_zero_right] at hg'
    rw [← hg'] at q
    exact ⟨_, rfl, q⟩
def sp_share (_ : PySem.W.Frag) : Sp := spec2 fun x y H Q _ => ∃ a b : Nat, x = .int a ∧ y = .int b ∧ 1 ≤ a ∧ 1 ≤ b ∧ a ≤ 1000000000000 ∧ b ≤ 1000000000000 ∧ Q (.int (Nat.gcd a b : Nat)) H
theorem ok_share {af : Addr} {fd : FuncData} (F : FunD K "share" "share" (defArgs s_share) (defBody s_share) (defScope s_share) [] [] af fd) (B : Bt mg) (C_want_number : Cl P w K mg base 3 "want_number" 2 [] (sp_want_number K)) (C_want_other_number : Cl P w K mg base 3 "want_other_number" 2 [] (sp_want_other_number K)) (C_share_of : Cl P w K mg base 1 "share_of" 2 [] (sp_share_of K)) {t_GREATEST : Tok} (c_GREATEST : mg "GREATEST" = some (.int 1000000000000 t_GREATEST)) : FnG P w K mg base CX0 4 af fd ["number", "other"] (sp_share K) := by
  refine okG F sc_share ar2 fun cdv A outer s H vs Q E hg hr h => ?_
  refine ⟨_, PSs.nox (pss_cons (ps_expr (pe_cl C_want_number hg hr (by decide) rfl (pa_cons (pv 0) (pa_cons (pe_glob (v := .int 1000000000000) rfl c_GREATEST ⟨_, rfl⟩) pa_nil))))
    (pss_cons (ps_expr (pe_cl C_want_other_number hg hr (by decide) rfl (pa_cons (pv 1) (pa_cons (pe_glob (v := .int 1000000000000) rfl c_GREATEST ⟨_, rfl⟩) pa_nil))))
    (pss_one (ps_ret (pe_cl C_share_of hg hr (by decide) rfl (pa_cons (pv 0) (pa_cons (pv 1) pa_nil))))))), ?_⟩
  obtain ⟨_, _, rfl, a, b, rfl, rfl, h1, h2, h3, h4, q⟩ := h
  exact ⟨_, rfl, _, _, rfl, a, _, rfl, rfl, by omega, by omega, _, rfl, _, _, rfl, b, _, rfl, rfl, by omega, by omega, _, rfl, _, rfl, _, _, rfl, a, b, rfl, rfl, h3, h4, q⟩
def sp_power_of (_ : PySem.W.Frag) : Sp := spec2 fun x y H Q _ => ∃ p e : Nat, x = .int p ∧ y = .int e ∧ p ≤ 1000000000000 ∧ e ≤ 1000000 ∧ Q (.int (p ^ e : Nat)) H
theorem ok_power_of {af : Addr} {fd : FuncData} (F : FunD K "power_of" "power_of" (defArgs s_power_of) (defBody s_power_of) (defScope s_power_of) [] [] af fd) (B : Bt mg)  : FnG P w K mg base CX0 1 af fd ["base", "many"] (sp_power_of K) := by
  refine okG F sc_power_of ar2 fun cdv A outer s H vs Q E hg hr h => ?_
  refine ⟨_, PSs.nox (pss_cons (ps_set (i := 2) sc_power_of.nd rfl (.inl rfl) pe_int)
    (pss_cons (ps_for PassesOwn.never rfl (pi_range1 rfl B.range (pa_cons (pv 1) pa_nil)) (pg_name (i := 3) sc_power_of.nd rfl (.inl rfl))
      (pss_one (ps_set (i := 2) sc_power_of.nd rfl (.inl rfl) (pe_op op_mul (pv 2) (pv 0)))))
    (pss_one (ps_ret (pv 2))))), ?_⟩
  obtain ⟨_, _, rfl, p, e, rfl, rfl, h1, h2, q⟩ := h
  refine ⟨_, rfl, _, rfl, by omega, by omega, for_range (lo := 0) (fun j σ H' => ∃ y3 : Option V, σ = [some (.int (p : Int)), some (.int (e : Int)), some (.int ((p ^ j : Nat) : Int)), y3] ∧ H' = H) ⟨none, rfl, rfl⟩ ?_ ?_⟩
  · rintro j σ H' hj ⟨y3, rfl, rfl⟩
    refine ⟨_, rfl, _, rfl, _, _, rfl, rfl, mulc' ⟨by omega, by omega⟩, some (.int (0 + (j : Int))), ?_, rfl⟩
    rw [Nat.pow_succ, Int.natCast_mul]
    rfl
  · rintro σ H' ⟨y3, rfl, rfl⟩
    rw [show (e : Int).toNat = e by omega]
    exact ⟨_, rfl, q⟩
theorem shL_snoc (L : List (Nat × Nat)) (p e : Nat) : shL (L ++ [(p, e)]) = shL L * p ^ (e - 1) * ((e + 1) * p - e) := by
  induction L with
  | nil => simp [shL]
  | cons x r ih =>
    obtain ⟨a, b⟩ := x
    rw [List.cons_append, shL, shL, ih, Nat.mul_assoc, Nat.mul_assoc, Nat.mul_assoc, Nat.mul_assoc, Nat.mul_assoc]
theorem phL_snoc (L : List (Nat × Nat)) (p e : Nat) : phL (L ++ [(p, e)]) = phL L * (p ^ (e - 1) * (p - 1)) := by
  induction L with
  | nil => simp [phL]
  | cons x r ih =>
    obtain ⟨a, b⟩ := x
    rw [List.cons_append, phL, phL, ih, ← Nat.mul_assoc]
theorem mem_pow' : ∀ (L : List (Nat × Nat)) {p e : Nat}, (p, e) ∈ L → p ^ e ∣ facP L
  | [], _, _, h => by cases h
  | (a, f) :: r, p, e, h => by
    rcases List.mem_cons.mp h with z | z
    · cases z
      exact Nat.dvd_mul_right _ _
    · exact Nat.dvd_trans (mem_pow' r z) (Nat.dvd_mul_left _ _)
/-- what a row of powers is bounded by -/
theorem row_b {L : List (Nat × Nat)} {n p e : Nat} (hL : FacOf L n) (hn : n ≤ 1000000000000) (h : (p, e) ∈ L) : 2 ≤ p ∧ 1 ≤ e ∧ e ≤ 40 ∧ p ≤ 1000000000000 ∧ p ^ (e - 1) ≤ 1000000000000 := by
  obtain ⟨_, pp, m1⟩ := hL.1.mem h
  have p2 := pp.1
  have n1 : 0 < n := by rw [← hL.2]; exact FacOk.pos hL.1
  have d := mem_pow' L h
  rw [hL.2] at d
  have pn := Nat.le_of_dvd n1 d
  have a : p ^ 1 ≤ p ^ e := Nat.pow_le_pow_right (by omega) m1
  have b : p ^ (e - 1) ≤ p ^ e := Nat.pow_le_pow_right (by omega) (by omega)
  have c : 2 ^ e ≤ p ^ e := Nat.pow_le_pow_left p2 e
  refine ⟨p2, m1, ?_, by rw [Nat.pow_one] at a; omega, by omega⟩
  refine Classical.byContradiction fun z => ?_
  have : 2 ^ 41 ≤ 2 ^ e := Nat.pow_le_pow_right (by decide) (by omega)
  have : (1000000000000 : Nat) < 2 ^ 41 := by decide
  omega
def sp_shares_at (_ : PySem.W.Frag) : Sp := spec1 fun x H Q _ => ∃ n : Nat, x = .int n ∧ 1 ≤ n ∧ n ≤ 1000000000000 ∧ ∀ H', Same H H' → Q (.int (hN n)) H'
theorem ok_shares_at {af : Addr} {fd : FuncData} (F : FunD K "shares_at" "shares_at" (defArgs s_shares_at) (defBody s_shares_at) (defScope s_shares_at) [] [] af fd) (B : Bt mg) (C_powers_of : Cl P w K mg base 1 "powers_of" 1 [] (sp_powers_of K)) (C_power_of : Cl P w K mg base 1 "power_of" 2 [] (sp_power_of K)) : FnG P w K mg base CX0 2 af fd ["number"] (sp_shares_at K) := by
  refine okG F sc_shares_at ar1 fun cdv A outer s H vs Q E hg hr h => ?_
  refine ⟨_, PSs.nox (pss_cons (ps_set (i := 1) sc_shares_at.nd rfl (.inl rfl) pe_int)
    (pss_cons (ps_for PassesOwn.never rfl ((pi_list (pe_cl C_powers_of hg hr (by decide) rfl (pa_cons (pv 0) pa_nil)))) (pg_tup rfl (pgs_cons (pg_name (i := 2) sc_shares_at.nd rfl (.inl rfl)) (pgs_cons (pg_name (i := 3) sc_shares_at.nd rfl (.inl rfl)) pgs_nil)))
      (pss_one (ps_set (i := 1) sc_shares_at.nd rfl (.inl rfl) (pe_op op_mul (pe_op op_mul (pv 1) (pe_cl C_power_of hg hr (by decide) rfl (pa_cons (pv 2) (pa_cons (pe_op op_sub (pv 3) pe_int) pa_nil)))) (pe_op op_sub (pe_op op_mul (pe_op op_add (pv 3) pe_int) (pv 2)) (pv 3))))))
    (pss_one (ps_ret (pv 1))))), ?_⟩
  obtain ⟨_, rfl, n, rfl, h1, h2, q⟩ := h
  refine ⟨_, rfl, _, rfl, n, rfl, h1, h2, fun L p H1 hL s1 rp => ?_⟩
  obtain ⟨ts, e, hl2, hi⟩ := rows_of rp
  refine ⟨p, rfl, ⟨_, SqL.of e⟩, for_list (K := K) (a := p) (xs := ts.map V.ref) (fun i σ H' => ∃ y2 y3 : Option V, σ = [some (.int n), some (.int (shL (L.take i) : Nat)), y2, y3] ∧ H' = H1) ⟨none, none, rfl, rfl⟩ (fun i σ H' _ ⟨_, _, _, z⟩ => by rw [z]; exact SqL.of e) ?_ ?_⟩
  · rintro i v σ H3 hv ⟨y2, y3, rfl, rfl⟩
    rw [List.getElem?_map] at hv
    obtain ⟨t, ht, rfl⟩ := Option.map_eq_some_iff.mp hv
    obtain ⟨x, hx, et⟩ := hi i t ht
    obtain ⟨pr, many⟩ := x
    obtain ⟨b1, b2, b3, b4, b5⟩ := row_b hL h2 (List.mem_of_getElem? hx)
    have tk : L.take (i + 1) = L.take i ++ [(pr, many)] := by
      rw [List.take_add_one, hx]
      rfl
    have e1 : (many : Int) - 1 = ((many - 1 : Nat) : Int) := by omega
    have b6 : (many + 1) * pr ≤ 41 * 1000000000000 := Nat.mul_le_mul (by omega) b4
    have b7 : many ≤ (many + 1) * pr := Nat.le_trans (by omega) (Nat.le_mul_of_pos_right (many + 1) (by omega))
    have e2 : ((many : Int) + 1) * (pr : Int) - (many : Int) = (((many + 1) * pr - many : Nat) : Int) := by
      rw [Int.ofNat_sub b7, Int.natCast_mul]
      rfl
    refine ⟨t, _, rfl, SqT.of et, rfl, _, _, rfl, _, _, rfl, rfl, _, rfl, _, rfl, _, rfl, _, _, rfl, rfl, _, _, rfl, pr, many - 1, rfl, congrArg V.int e1, b4, by omega, ?_⟩
    refine ⟨_, _, rfl, rfl, mulc' ⟨by omega, by omega⟩, _, rfl, _, _, rfl, rfl, _, rfl, _, _, rfl, rfl, mulc ⟨by omega, by omega⟩, _, rfl, _, _, rfl, rfl, _, _, rfl, rfl, ?_, some (.int (pr : Int)), some (.int (many : Int)), ?_, rfl⟩
    · rw [e2]
      exact mulc' ⟨by omega, by omega⟩
    · rw [tk, shL_snoc, Int.natCast_mul, Int.natCast_mul, ← e2]
      rfl
  · rintro σ H3 ⟨y2, y3, rfl, rfl⟩
    rw [List.length_map, hl2, List.take_length, ← sh_fac hL]
    exact ⟨_, rfl, q _ s1⟩
def sp_share_sum (_ : PySem.W.Frag) : Sp := spec1 fun x H Q _ => ∃ n : Nat, x = .int n ∧ 1 ≤ n ∧ n ≤ 1000000000000 ∧ ∀ H', Same H H' → Q (.int (hN n)) H'
theorem ok_share_sum {af : Addr} {fd : FuncData} (F : FunD K "share_sum" "share_sum" (defArgs s_share_sum) (defBody s_share_sum) (defScope s_share_sum) [] [] af fd) (B : Bt mg) (C_want_number : Cl P w K mg base 3 "want_number" 2 [] (sp_want_number K)) (C_shares_at : Cl P w K mg base 2 "shares_at" 1 [] (sp_shares_at K)) {t_GREATEST : Tok} (c_GREATEST : mg "GREATEST" = some (.int 1000000000000 t_GREATEST)) : FnG P w K mg base CX0 4 af fd ["number"] (sp_share_sum K) := by
  refine okG F sc_share_sum ar1 fun cdv A outer s H vs Q E hg hr h => ?_
  refine ⟨_, PSs.nox (pss_cons (ps_expr (pe_cl C_want_number hg hr (by decide) rfl (pa_cons (pv 0) (pa_cons (pe_glob (v := .int 1000000000000) rfl c_GREATEST ⟨_, rfl⟩) pa_nil))))
    (pss_one (ps_ret (pe_cl C_shares_at hg hr (by decide) rfl (pa_cons (pv 0) pa_nil))))), ?_⟩
  obtain ⟨_, rfl, n, rfl, h1, h2, q⟩ := h
  exact ⟨_, rfl, _, _, rfl, n, _, rfl, rfl, by omega, by omega, _, rfl, _, rfl, n, rfl, h1, h2, q⟩

end
end M
namespace M
open PySem PySem.Spec PyProof.Rows L2 G
section
variable {P : Program} {w : World} {K : PySem.W.Frag} {mg : Str → Option Value} {base : Heap}
/-! share-free counts, by powers, by sieves; couples -/
theorem facP_drop {L : List (Nat × Nat)} {i p e : Nat} (h : L[i]? = some (p, e)) : facP (L.drop i) = p ^ e * facP (L.drop (i + 1)) := by
  obtain ⟨hl, hx⟩ := List.getElem?_eq_some_iff.mp h
  rw [List.drop_eq_getElem_cons hl, hx]
  rfl
def sp_free_count (_ : PySem.W.Frag) : Sp := spec1 fun x H Q _ => ∃ n : Nat, x = .int n ∧ 1 ≤ n ∧ n ≤ 1000000 ∧ ∀ H', Same H H' → Q (.int (phN n)) H'
theorem ok_free_count {af : Addr} {fd : FuncData} (F : FunD K "free_count" "free_count" (defArgs s_free_count) (defBody s_free_count) (defScope s_free_count) [] [] af fd) (B : Bt mg) (C_powers_of : Cl P w K mg base 1 "powers_of" 1 [] (sp_powers_of K)) : FnG P w K mg base CX0 2 af fd ["number"] (sp_free_count K) := by
  refine okG F sc_free_count ar1 fun cdv A outer s H vs Q E hg hr h => ?_
  refine ⟨_, PSs.nox (pss_cons (ps_set (i := 1) sc_free_count.nd rfl (.inl rfl) (pv 0))
    (pss_cons (ps_for PassesOwn.never rfl ((pi_list (pe_cl C_powers_of hg hr (by decide) rfl (pa_cons (pv 0) pa_nil)))) (pg_tup rfl (pgs_cons (pg_name (i := 2) sc_free_count.nd rfl (.inl rfl)) (pgs_cons (pg_name (i := 3) sc_free_count.nd rfl (.inl rfl)) pgs_nil)))
      (pss_one (ps_set (i := 1) sc_free_count.nd rfl (.inl rfl) (pe_op op_mul (pe_op op_fdivW (pv 1) (pv 2)) (pe_op op_sub (pv 2) pe_int)))))
    (pss_one (ps_ret (pv 1))))), ?_⟩
  obtain ⟨_, rfl, n, rfl, h1, h2, q⟩ := h
  refine ⟨_, rfl, _, rfl, _, rfl, n, rfl, h1, by omega, fun L p H1 hL s1 rp => ?_⟩
  obtain ⟨ts, e, hl2, hi⟩ := rows_of rp
  refine ⟨p, rfl, ⟨_, SqL.of e⟩, for_list (K := K) (a := p) (xs := ts.map V.ref) (fun i σ H' => ∃ y2 y3 : Option V, σ = [some (.int n), some (.int (phL (L.take i) * facP (L.drop i) : Nat)), y2, y3] ∧ H' = H1) ⟨none, none, by rw [List.take_zero, List.drop_zero, hL.2]; show _ = [_, some (V.int ((1 * n : Nat) : Int)), _, _]; rw [Nat.one_mul]; rfl, rfl⟩ (fun i σ H' _ ⟨_, _, _, z⟩ => by rw [z]; exact SqL.of e) ?_ ?_⟩
  · rintro i v σ H3 hv ⟨y2, y3, rfl, rfl⟩
    rw [List.getElem?_map] at hv
    obtain ⟨t, ht, rfl⟩ := Option.map_eq_some_iff.mp hv
    obtain ⟨x, hx, et⟩ := hi i t ht
    obtain ⟨pr, many⟩ := x
    obtain ⟨b1, b2, b3, b4, b5⟩ := row_b hL (by omega) (List.mem_of_getElem? hx)
    have tk : L.take (i + 1) = L.take i ++ [(pr, many)] := by
      rw [List.take_add_one, hx]
      rfl
    obtain ⟨f, rfl⟩ : ∃ f, many = f + 1 := ⟨many - 1, by omega⟩
    have e2 : ((phL (L.take i) * facP (L.drop i) : Nat) : Int) / (pr : Int) = (phL (L.take i) * (pr ^ f * facP (L.drop (i + 1))) : Nat) := by
      rw [facP_drop hx, Nat.pow_succ, Nat.mul_comm (pr ^ f) pr, Nat.mul_assoc pr, Nat.mul_left_comm, Int.natCast_mul, Int.mul_ediv_cancel_left _ (by omega)]
    refine ⟨t, _, rfl, SqT.of et, rfl, _, _, rfl, _, _, rfl, rfl, _, rfl, _, rfl, _, _, rfl, rfl, divw (by omega) (by omega), _, rfl, _, _, rfl, rfl, _, _, rfl, rfl, mulc' ⟨by omega, by omega⟩, some (.int (pr : Int)), some (.int ((f + 1 : Nat) : Int)), ?_, rfl⟩
    show [some (V.int n), some (V.int (((phL (L.take i) * facP (L.drop i) : Nat) : Int) / (pr : Int) * ((pr : Int) - 1))), _, _] = _
    rw [e2, tk, phL_snoc, Nat.add_sub_cancel, show (pr : Int) - 1 = ((pr - 1 : Nat) : Int) by omega, ← Int.natCast_mul]
    congr 5
    rw [Nat.mul_assoc, Nat.mul_assoc, Nat.mul_assoc, Nat.mul_comm (facP (L.drop (i + 1))), Nat.mul_assoc (pr ^ f) (pr - 1)]
  · rintro σ H3 ⟨y2, y3, rfl, rfl⟩
    rw [List.length_map, hl2, List.take_length, List.drop_length]
    refine ⟨_, rfl, ?_⟩
    have := q H3 s1
    rw [ph_fac hL] at this
    show Q (.int ((phL L * 1 : Nat) : Int)) H3
    rw [Nat.mul_one]
    exact this
def sp_share_free (_ : PySem.W.Frag) : Sp := spec1 fun x H Q _ => ∃ n : Nat, x = .int n ∧ 1 ≤ n ∧ n ≤ 1000000 ∧ ∀ H', Same H H' → Q (.int (phN n)) H'
theorem ok_share_free {af : Addr} {fd : FuncData} (F : FunD K "share_free" "share_free" (defArgs s_share_free) (defBody s_share_free) (defScope s_share_free) [] [] af fd) (B : Bt mg) (C_free_count : Cl P w K mg base 2 "free_count" 1 [] (sp_free_count K)) (C_is_number_of : Cl P w K mg base 2 "is_number_of" 2 [] (sp_is_number_of K)) {t_GREATEST_IN : Tok} (c_GREATEST_IN : mg "GREATEST_IN" = some (.int 1000000 t_GREATEST_IN)) : FnG P w K mg base CX0 3 af fd ["number"] (sp_share_free K) := by
  refine okG F sc_share_free ar1 fun cdv A outer s H vs Q E hg hr h => ?_
  refine ⟨_, PSs.nox (pss_cons (ps_if (pt_not (pt_val (pe_cl C_is_number_of hg hr (by decide) rfl (pa_cons (pv 0) (pa_cons (pe_glob (v := .int 1000000) rfl c_GREATEST_IN ⟨_, rfl⟩) pa_nil)))))
      (pss_one ps_never)
      pss_nil)
    (pss_one (ps_ret (pe_cl C_free_count hg hr (by decide) rfl (pa_cons (pv 0) pa_nil))))), ?_⟩
  obtain ⟨_, rfl, n, rfl, h1, h2, q⟩ := h
  exact ⟨_, rfl, _, _, rfl, n, _, rfl, rfl, by omega, by omega, true, rfl, iteF ⟨_, rfl, _, rfl, n, rfl, h1, h2, q⟩⟩
/-- a sieve's value -/
noncomputable def facsN (n : Nat) : List (Nat × Nat) := if h : 0 < n then Classical.choose (fac_ex h) else []
theorem facsN_ok {n : Nat} (h : 0 < n) : FacOf (facsN n) n := by
  unfold facsN
  rw [dif_pos h]
  exact Classical.choose_spec (fac_ex h)
noncomputable def frN (ps : List Nat) (n : Nat) : Nat := mixL (fun q => decide (q ∈ ps)) (facsN n)
theorem frN_nil {n : Nat} (h : 0 < n) : frN [] n = n := by
  unfold frN
  rw [mixL_congr (T := fun _ => false) fun x _ => by simp, mixL_none, (facsN_ok h).2]
theorem frN_snoc {ps : List Nat} {p n : Nat} (h : 0 < n) (hp : Pr p) (hn : p ∉ ps) : frN (ps ++ [p]) n = if p ∣ n then frN ps n / p * (p - 1) else frN ps n := by
  have := mixL_step (S := fun q => decide (q ∈ ps)) hp (decide_eq_false hn) (facsN_ok h).1
  rw [(facsN_ok h).2] at this
  unfold frN
  rw [← this]
  refine mixL_congr fun x _ => ?_
  rw [Bool.eq_iff_iff]
  simp
theorem frN_all {ps : List Nat} {n : Nat} (h : 0 < n) (hp : ∀ p, Pr p → p ≤ n → p ∈ ps) : (frN ps n : Int) = phN n := by
  have ok := facsN_ok h
  have key : ∀ x ∈ facsN n, x.1 ≤ n := fun x hx => by
    have d := mem_pow' _ (p := x.1) (e := x.2) hx
    rw [ok.2] at d
    exact Nat.le_of_dvd h (Nat.dvd_trans (dvd_pow_self (ok.1.mem hx).2.2) d)
  rw [ph_fac ok]
  unfold frN
  rw [mixL_all fun x hx => decide_eq_true (hp x.1 (ok.1.mem hx).2.1 (key x hx))]
theorem frN_le {ps : List Nat} {n : Nat} (h : 0 < n) : frN ps n ≤ n := by
  have ok := facsN_ok h
  unfold frN
  have : ∀ {b : Nat} {L : List (Nat × Nat)}, FacOk b L → mixL (fun q => decide (q ∈ ps)) L ≤ facP L := by
    intro b L
    induction L generalizing b with
    | nil => exact fun _ => Nat.le_refl 1
    | cons x r ih =>
      obtain ⟨p, e⟩ := x
      rintro ⟨h1, h2, h3, h4⟩
      refine Nat.mul_le_mul ?_ (ih h4)
      split
      · obtain ⟨f, rfl⟩ : ∃ f, e = f + 1 := ⟨e - 1, by omega⟩
        rw [Nat.add_sub_cancel, Nat.pow_succ]
        exact Nat.mul_le_mul_left _ (Nat.sub_le _ _)
      · exact Nat.le_refl _
  have := this ok.1
  rw [ok.2] at this
  exact this
theorem primesTo_nd (n : Nat) : (primesTo n).Nodup := (List.nodup_range).filter _
def sp_frees_of (_ : PySem.W.Frag) : Sp := spec1 fun x H Q _ => ∃ n : Nat, x = .int n ∧ 1 ≤ n ∧ n ≤ 20000 ∧ ∀ p H', Same H H' → H p = none → H' p = some (.lst ((List.range n).map fun i => V.int (phN (i + 1)))) → Q (.ref p) H'
theorem ok_frees_of {af : Addr} {fd : FuncData} (F : FunD K "frees_of" "frees_of" (defArgs s_frees_of) (defBody s_frees_of) (defScope s_frees_of) [] [] af fd) (B : Bt mg) (C_primes_to : Cl P w K mg base 1 "primes_to" 1 [] (sp_primes_to K)) : FnG P w K mg base CX0 2 af fd ["many"] (sp_frees_of K) := by
  refine okG F sc_frees_of ar1 fun cdv A outer s H vs Q E hg hr h => ?_
  refine ⟨_, PSs.nox (pss_cons (ps_set (i := 1) sc_frees_of.nd rfl (.inl rfl) (pe_listRg rfl (by rfl) B.list (prg_2 (by rfl) B.range pe_int (pe_op op_add (pv 0) pe_int))))
    (pss_cons (ps_for PassesOwn.never rfl ((pi_list (pe_cl C_primes_to hg hr (by decide) rfl (pa_cons (pv 0) pa_nil)))) (pg_name (i := 2) sc_frees_of.nd rfl (.inl rfl))
      (pss_one (ps_for PassesOwn.never rfl (pi_rangeW rfl B.range (pa_cons (pv 2) (pa_cons (pe_op op_add (pv 0) pe_int) (pa_cons (pv 2) pa_nil)))) (pg_name (i := 3) sc_frees_of.nd rfl (.inl rfl))
        (pss_one (ps_asg (pe_op op_mul (pe_op op_fdivW (pe_ix ix_list (pv 1) (pe_op op_sub (pv 3) pe_int) (fun _ _ => rfl)) (pv 2)) (pe_op op_sub (pv 2) pe_int)) (pg_sub (pv 1) (pe_op op_sub (pv 3) pe_int) set_list))))))
    (pss_one (ps_ret (pv 1))))), ?_⟩
  obtain ⟨_, rfl, n, rfl, h1, h2, q⟩ := h
  refine ⟨_, rfl, _, _, rfl, rfl, _, _, rfl, rfl, RgOk.of_le (by omega) (by omega) (by omega) (by omega), fun l hl => ?_⟩
  have z1 : H l = none := hl
  have s1 := (Same.refl H).new (o := .lst (rgV 1 ((n : Int) + 1))) hl
  have e1 : (upd H l (.lst (rgV 1 ((n : Int) + 1)))) l = some (.lst ((List.range n).map fun i => V.int (frN [] (i + 1) : Nat))) := by
    rw [upd_same]
    unfold rgV
    rw [show ((n : Int) + 1 - 1).toNat = n by omega]
    refine congrArg (fun z => some (HO.lst z)) (List.map_congr_left fun i _ => congrArg V.int ?_)
    rw [frN_nil (by omega)]
    omega
  generalize upd H l (.lst (rgV 1 ((n : Int) + 1))) = H0 at s1 e1 ⊢
  refine ⟨_, rfl, _, rfl, n, rfl, by omega, fun p H1 sm hp ep => ?_⟩
  have lp : l ≠ p := ne_of_none e1 hp
  have el := sm _ _ e1
  have sH := s1.trans sm
  refine ⟨p, rfl, ⟨_, SqL.of ep⟩, for_list (K := K) (a := p) (xs := nsV (primesTo n)) (fun j σ H' => ∃ y2 y3 : Option V, σ = [some (.int n), some (.ref l), y2, y3] ∧ Same H H' ∧ H' p = some (.lst (nsV (primesTo n))) ∧ H' l = some (.lst ((List.range n).map fun i => V.int (frN ((primesTo n).take j) (i + 1) : Nat))))
    ⟨none, none, rfl, sH, ep, el⟩ (fun j σ H' _ ⟨_, _, _, _, z, _⟩ => SqL.of z) ?_ ?_⟩
  · rintro j x σ H' hx ⟨y2, y3, rfl, sm', ep', el'⟩
    obtain ⟨m, hm, rfl⟩ := nsV_at hx
    obtain ⟨mn, mp⟩ := mem_primesTo.mp (List.mem_of_getElem? hm)
    have m2 := mp.1
    have nin : m ∉ (primesTo n).take j := fun z => by
      obtain ⟨k, hk, e⟩ := List.getElem_of_mem z
      rw [List.length_take] at hk
      rw [List.getElem_take] at e
      obtain ⟨hj, ej⟩ := List.getElem?_eq_some_iff.mp hm
      have := (List.getElem_inj (primesTo_nd n)).mp (e.trans ej.symm)
      omega
    refine ⟨_, rfl, _, rfl, _, _, rfl, rfl, _, rfl, _, _, _, rfl, ⟨by omega, by omega, by omega, by omega, by omega, by omega⟩, for_rangeC (fun t σ H2 => ∃ y3 : Option V, σ = [some (.int n), some (.ref l), some (.int (m : Int)), y3] ∧ Same H H2 ∧ H2 p = some (.lst (nsV (primesTo n))) ∧ H2 l = some (.lst (hitL n 1 m m t (fun i => V.int (frN ((primesTo n).take j) (i + 1) / m * (m - 1) : Nat)) (fun i => V.int (frN ((primesTo n).take j) (i + 1) : Nat))))) ⟨y3, rfl, sm', ep', by rw [hitL_zero]; exact el'⟩ ?_ ?_⟩
    · rintro t σ H2 ht ⟨y3, rfl, sm2, ep2, el2⟩
      obtain ⟨i, i1, i2, i3⟩ := hit_place (N := n) (off := 1) (by omega) ht (by omega) (by omega)
      rw [i3]
      have ei : ((i + 1 : Nat) : Int) - 1 = (i : Int) := by omega
      have vv : V.int (((frN ((primesTo n).take j) (i + 1) : Nat) : Int) / (m : Int) * ((m : Int) - 1)) = V.int (frN ((primesTo n).take j) (i + 1) / m * (m - 1) : Nat) := by
        rw [show (m : Int) - 1 = ((m - 1 : Nat) : Int) by omega, Int.natCast_mul]
        rfl
      refine ⟨_, rfl, _, rfl, _, _, rfl, rfl, l, _, _, .int (frN ((primesTo n).take j) (i + 1) : Nat), rfl, rfl, SqL.of el2, ?_, _, rfl, _, _, rfl, rfl, divw (by omega) (by omega), _, rfl, _, _, rfl, rfl, _, _, rfl, rfl, mulc' ⟨by omega, by omega⟩, _, rfl, _, rfl, _, _, rfl, rfl, l, _, _, i, rfl, rfl, el2, ?_, ?_⟩
      · rw [ei, hitL_get i2 i1]
      · rw [ei, hitL_len]
        exact ixN_nat i1
      · refine ⟨_, rfl, sm2.mut z1, (upd_ne lp.symm).trans ep2, ?_⟩
        rw [upd_same]
        dsimp only []
        rw [vv]
        exact congrArg (fun z => some (HO.lst z)) (hitL_set (f := fun i => V.int (frN ((primesTo n).take j) (i + 1) / m * (m - 1) : Nat)) (by omega) (Nat.dvd_refl m) i2)
    · rintro σ H2 ⟨y3, rfl, sm2, ep2, el2⟩
      rw [hitL_done (by omega) (Nat.dvd_refl m) (by omega)] at el2
      refine ⟨_, _, rfl, sm2, ep2, el2.trans (congrArg (fun z => some (HO.lst z)) (List.map_congr_left fun i hi => ?_))⟩
      rw [List.take_add_one, hm]
      show _ = V.int ((frN ((primesTo n).take j ++ [m]) (i + 1) : Nat) : Int)
      rw [frN_snoc (by omega) mp nin]
      by_cases a : m ∣ i + 1
      · have := Nat.le_of_dvd (by omega) a
        rw [if_pos ⟨a, this⟩, if_pos a]
      · rw [if_neg (fun z => a z.1), if_neg a]
  · rintro σ H' ⟨y2, y3, rfl, sm', ep', el'⟩
    refine ⟨_, rfl, q l H' sm' z1 (el'.trans (congrArg (fun z => some (HO.lst z)) (List.map_congr_left fun i hi => ?_)))⟩
    have hi := List.mem_range.mp hi
    rw [nsV_len, List.take_length, frN_all (by omega) fun p hp hpi => mem_primesTo.mpr ⟨by omega, hp⟩]
def sp_share_frees (_ : PySem.W.Frag) : Sp := spec1 fun x H Q _ => ∃ n : Nat, x = .int n ∧ 1 ≤ n ∧ n ≤ 20000 ∧ ∀ p H', Same H H' → H p = none → H' p = some (.lst ((List.range n).map fun i => V.int (phN (i + 1)))) → Q (.ref p) H'
theorem ok_share_frees {af : Addr} {fd : FuncData} (F : FunD K "share_frees" "share_frees" (defArgs s_share_frees) (defBody s_share_frees) (defScope s_share_frees) [] [] af fd) (B : Bt mg) (C_want_some : Cl P w K mg base 4 "want_some" 1 [] (sp_want_some K)) (C_frees_of : Cl P w K mg base 2 "frees_of" 1 [] (sp_frees_of K)) : FnG P w K mg base CX0 5 af fd ["many"] (sp_share_frees K) := by
  refine okG F sc_share_frees ar1 fun cdv A outer s H vs Q E hg hr h => ?_
  refine ⟨_, PSs.nox (pss_cons (ps_expr (pe_cl C_want_some hg hr (by decide) rfl (pa_cons (pv 0) pa_nil)))
    (pss_one (ps_ret (pe_cl C_frees_of hg hr (by decide) rfl (pa_cons (pv 0) pa_nil))))), ?_⟩
  obtain ⟨_, rfl, n, rfl, h1, h2, q⟩ := h
  exact ⟨_, rfl, _, rfl, n, rfl, h1, h2, _, rfl, _, rfl, n, rfl, h1, h2, q⟩
def copN (n : Nat) : Int := 2 * sumR phN n - 1
def sp_couples_to (_ : PySem.W.Frag) : Sp := spec1 fun x H Q _ => ∃ n : Nat, x = .int n ∧ 1 ≤ n ∧ n ≤ 1000000 ∧ ∀ H', Same H H' → Q (.int (copN n)) H'
theorem ok_couples_to {af : Addr} {fd : FuncData} (F : FunD K "couples_to" "couples_to" (defArgs s_couples_to) (defBody s_couples_to) (defScope s_couples_to) [] [] af fd) (B : Bt mg) (C_signs_to : Cl P w K mg base 1 "signs_to" 1 [] (sp_signs_to K)) : FnG P w K mg base CX0 2 af fd ["number"] (sp_couples_to K) := by
  refine okG F sc_couples_to ar1 fun cdv A outer s H vs Q E hg hr h => ?_
  refine ⟨_, PSs.nox (pss_cons (ps_set (i := 1) sc_couples_to.nd rfl (.inl rfl) (pe_cl C_signs_to hg hr (by decide) rfl (pa_cons (pv 0) pa_nil)))
    (pss_one (ps_ret (pe_callB (cr_sum rfl) (by rfl) B.sum (by decide +kernel) (pa_cons (pe_lc (own := [("one", 2), ("sign", 3)]) (g := gTup K 2 (gCons (gName 2) (gCons (gName 3) gNil))) rfl sc_couples_to.nd ((pi_enum (by rfl) B.enumerate (pa_cons (pv 1) pa_nil))) (blkOk_by (own := [("one", 2), ("sign", 3)]) (N := ["number", "signs", "one", "sign"]) (sc := defScope s_couples_to) (by decide +kernel)) (fun _ _ _ _ _ => pg_tup (n := 2) (by rfl) (pgs_cons (pg_name (i := 2) sc_couples_to.nd rfl (.inl rfl) (.inr rfl)) (pgs_cons (pg_name (i := 3) sc_couples_to.nd rfl (.inl rfl) (.inr rfl)) pgs_nil (by rfl)) (by rfl)) (by rfl) (by rfl)) (fun _ _ _ _ _ => pts_one (pt_cmpR op_ne (pv 3) pe_int (nomark _))) (fun _ _ _ _ _ => (pe_op op_mul (pe_op op_mul (pv 3) (pe_op op_fdivW (pv 0) (pv 2))) (pe_op op_fdivW (pv 0) (pv 2))))) pa_nil))))), ?_⟩
  obtain ⟨_, rfl, n, rfl, h1, h2, q⟩ := h
  refine ⟨_, rfl, _, rfl, n, rfl, h1, h2, fun p H2 s2 hp ep => ?_⟩
  refine ⟨_, rfl, p, _, rfl, SqL.of ep, fun D hD => lc_it (walk_enum (xs := (List.range (n + 1)).map fun i => V.int (muZ i))) (fun i H3 => Same H2 H3 ∧ ∃ ns : List Int, H3 D = some (.lst (ns.map V.int)) ∧ ns.length ≤ i ∧ ns.sum = ((List.range i).map fun d => muZ d * (((n / d : Nat) : Int) * (n / d : Nat))).sum) ⟨(Same.refl _).new hD, [], upd_same, Nat.le_refl 0, rfl⟩ (fun i H3 _ z => SqL.of (z.1 _ _ ep)) ?_ ?_⟩
  · rintro i v H3 H4 hi ⟨s3, ns, eD, hl, hs⟩ ⟨T, x, y, rfl, hT, rfl, ex, ey⟩
    rw [len_map_range] at hi
    cases (Option.some.inj ex)
    have ey' : y = V.int (muZ i) := by
      have ey : ((List.range (n + 1)).map fun i => V.int (muZ i))[i]? = some y := ey
      rw [List.getElem?_map, List.getElem?_range hi] at ey
      exact (Option.some.inj ey).symm
    subst ey'
    have nD : D ≠ T := ne_of_none eD hT
    have hDn : H2 D = none := hD
    have sn : ((List.range (i + 1)).map fun d => muZ d * (((n / d : Nat) : Int) * (n / d : Nat))).sum = ((List.range i).map fun d => muZ d * (((n / d : Nat) : Int) * (n / d : Nat))).sum + muZ i * (((n / i : Nat) : Int) * (n / i : Nat)) := by
      rw [List.range_succ, List.map_append, List.sum_append]
      simp
    refine ⟨T, _, rfl, SqT.of upd_same, rfl, _, _, rfl, _, _, rfl, rfl, rfl, _, rfl, rfl, _, rfl, ite2 (fun hc => ?_) (fun hc => ?_)⟩
    · have i1 : 1 ≤ i := by
        rcases Nat.eq_zero_or_pos i with e | e
        · subst e
          exact absurd hc (by decide)
        · exact e
      have dle : n / i ≤ n := Nat.div_le_self _ _
      refine ⟨_, rfl, _, rfl, _, rfl, _, _, rfl, rfl, divw (by omega) (by omega), _, _, rfl, rfl, mulc' (j := ((n / i : Nat) : Int)) ⟨Int.natCast_nonneg _, Int.le_trans (Int.ofNat_le.mpr dle) (by omega)⟩, _, rfl, _, rfl, _, _, rfl, rfl, divw (by omega) (by omega), _, _, rfl, rfl, mulc' (j := ((n / i : Nat) : Int)) ⟨Int.natCast_nonneg _, Int.le_trans (Int.ofNat_le.mpr dle) (by omega)⟩, ns.map V.int, (upd_ne nD).trans eD, small_lt (by rw [List.length_map]; omega), (s3.new hT).mut hDn, ns ++ [muZ i * ((n / i : Nat) : Int) * (n / i : Nat)], ?_, by rw [List.length_append]; exact Nat.succ_le_succ hl, ?_⟩
      · rw [upd_same, List.map_append]
        rfl
      · rw [sn, List.sum_append, hs, ← Int.mul_assoc]
        simp
    · have z : muZ i = 0 := by
        refine Classical.byContradiction fun z => hc ?_
        show (!decide (V.int (muZ i) = V.int 0)) = true
        rw [decide_eq_false fun y => z (V.int.inj y)]
        rfl
      refine ⟨s3.new hT, ns, (upd_ne nD).trans eD, by omega, ?_⟩
      rw [sn, z, hs]
      simp
  · rintro H3 ⟨s3, ns, eD, hl, hs⟩
    refine ⟨D, ns, rfl, SqL.of eD, ?_⟩
    have e : ns.sum = copN n := by
      have c := couples_sum n (Nat.le_refl n)
      rw [if_neg (show ¬ n = 0 by omega)] at c
      unfold copN
      rw [hs, len_map_range, ← c, ← sum_range, List.range_succ_eq_map, List.map_cons, List.sum_cons, List.map_map]
      show muZ 0 * _ + _ = _
      rw [show muZ 0 = 0 from rfl, Int.zero_mul, Int.zero_add]
      refine congrArg List.sum (List.map_congr_left fun i _ => ?_)
      show muZ (i + 1) * _ = _
      unfold muZ
      rw [if_neg (by omega)]
    rw [e]
    exact q _ (s2.trans s3)
def sp_free_couples (_ : PySem.W.Frag) : Sp := spec1 fun x H Q _ => ∃ n : Nat, x = .int n ∧ 1 ≤ n ∧ n ≤ 1000000 ∧ ∀ H', Same H H' → Q (.int (copN n)) H'
theorem ok_free_couples {af : Addr} {fd : FuncData} (F : FunD K "free_couples" "free_couples" (defArgs s_free_couples) (defBody s_free_couples) (defScope s_free_couples) [] [] af fd) (B : Bt mg) (C_want_number : Cl P w K mg base 3 "want_number" 2 [] (sp_want_number K)) (C_couples_to : Cl P w K mg base 2 "couples_to" 1 [] (sp_couples_to K)) {t_MOST_FREE : Tok} (c_MOST_FREE : mg "MOST_FREE" = some (.int 1000000 t_MOST_FREE)) : FnG P w K mg base CX0 4 af fd ["number"] (sp_free_couples K) := by
  refine okG F sc_free_couples ar1 fun cdv A outer s H vs Q E hg hr h => ?_
  refine ⟨_, PSs.nox (pss_cons (ps_expr (pe_cl C_want_number hg hr (by decide) rfl (pa_cons (pv 0) (pa_cons (pe_glob (v := .int 1000000) rfl c_MOST_FREE ⟨_, rfl⟩) pa_nil))))
    (pss_one (ps_ret (pe_cl C_couples_to hg hr (by decide) rfl (pa_cons (pv 0) pa_nil))))), ?_⟩
  obtain ⟨_, rfl, n, rfl, h1, h2, q⟩ := h
  exact ⟨_, rfl, _, _, rfl, n, _, rfl, rfl, by omega, by omega, _, rfl, _, rfl, n, rfl, h1, h2, q⟩
def sp_share_free_sum (_ : PySem.W.Frag) : Sp := spec1 fun x H Q _ => ∃ n : Nat, x = .int n ∧ 1 ≤ n ∧ n ≤ 1000000 ∧ ∀ H', Same H H' → Q (.int (sumR phN n)) H'
theorem ok_share_free_sum {af : Addr} {fd : FuncData} (F : FunD K "share_free_sum" "share_free_sum" (defArgs s_share_free_sum) (defBody s_share_free_sum) (defScope s_share_free_sum) [] [] af fd) (B : Bt mg) (C_want_number : Cl P w K mg base 3 "want_number" 2 [] (sp_want_number K)) (C_couples_to : Cl P w K mg base 2 "couples_to" 1 [] (sp_couples_to K)) {t_MOST_FREE : Tok} (c_MOST_FREE : mg "MOST_FREE" = some (.int 1000000 t_MOST_FREE)) : FnG P w K mg base CX0 4 af fd ["number"] (sp_share_free_sum K) := by
  refine okG F sc_share_free_sum ar1 fun cdv A outer s H vs Q E hg hr h => ?_
  refine ⟨_, PSs.nox (pss_cons (ps_expr (pe_cl C_want_number hg hr (by decide) rfl (pa_cons (pv 0) (pa_cons (pe_glob (v := .int 1000000) rfl c_MOST_FREE ⟨_, rfl⟩) pa_nil))))
    (pss_one (ps_ret (pe_op op_fdivW (pe_op op_add (pe_cl C_couples_to hg hr (by decide) rfl (pa_cons (pv 0) pa_nil)) pe_int) pe_int)))), ?_⟩
  obtain ⟨_, rfl, n, rfl, h1, h2, q⟩ := h
  refine ⟨_, rfl, _, _, rfl, n, _, rfl, rfl, by omega, by omega, _, rfl, _, rfl, n, rfl, h1, h2, fun H' s => ⟨_, _, rfl, rfl, _, _, rfl, rfl, divw (by decide) (by decide), ?_⟩⟩
  have e : (copN n + 1) / 2 = sumR phN n := by
    unfold copN
    omega
  show Q (.int ((copN n + 1) / 2)) H'
  rw [e]
  exact q _ s

end
end M
namespace M
open PySem PySem.Spec PyProof.Rows L2 G
section
variable {P : Program} {w : World} {K : PySem.W.Frag} {mg : Str → Option Value} {base : Heap}
/-! the divisors by the powers, all sums over them -/
def DivL (ns : List Int) (n : Nat) : Prop := (∀ F : Int → Int, (ns.map F).sum = dsum (fun d => F (d : Int)) n) ∧ ∀ x ∈ ns, ∃ d : Nat, x = (d : Int) ∧ d ∣ n
def gsum (f : Nat → Int) (p m j : Nat) : Int := ((List.range j).map fun t => dsum (fun d => f (p ^ t * d)) m).sum
theorem gsum_all {p m : Nat} (hp : Pr p) (hm : ¬ p ∣ m) (m1 : 1 ≤ m) : ∀ (e : Nat) (f : Nat → Int), gsum f p m (e + 1) = dsum f (p ^ e * m)
  | 0, f => by
    unfold gsum
    simp
  | e + 1, f => by
    rw [dsum_pow f hp hm m1 e, ← gsum_all hp hm m1 e]
    unfold gsum
    rw [List.range_succ_eq_map, List.map_cons, List.sum_cons, List.map_map]
    congr 1
    · refine sumR_congr fun i _ _ => ?_
      simp
    · refine congrArg List.sum (List.map_congr_left fun t _ => ?_)
      refine sumR_congr fun i _ _ => ?_
      show (if i ∣ m then f (p ^ (t + 1) * i) else 0) = if i ∣ m then f (p * (p ^ t * i)) else 0
      rw [Nat.pow_succ, Nat.mul_comm (p ^ t) p, Nat.mul_assoc]
theorem len_sum (ns : List Int) : (ns.map fun _ => (1 : Int)).sum = ns.length := by
  induction ns with
  | nil => rfl
  | cons x r ih => rw [List.map_cons, List.sum_cons, ih, List.length_cons]; omega
theorem facP_app (L M : List (Nat × Nat)) : facP (L ++ M) = facP L * facP M := by
  induction L with
  | nil => simp [facP]
  | cons x r ih =>
    obtain ⟨p, e⟩ := x
    rw [List.cons_append, facP, facP, ih, Nat.mul_assoc]
theorem DivL.len {ns : List Int} {n : Nat} (h : DivL ns n) : (ns.length : Int) = tauN n := by
  rw [← len_sum]
  exact h.1 _
theorem tau_2n {n : Nat} (h : 1 ≤ n) : tauN n ≤ 2 * n := by
  refine tau_le h ?_
  have := Nat.le_mul_of_pos_left (n + 1) (show 0 < n + 1 by omega)
  omega
theorem sum_perm {a b : List Int} (h : a.Perm b) : a.sum = b.sum := by
  induction h with
  | nil => rfl
  | cons x _ ih => rw [List.sum_cons, List.sum_cons, ih]
  | swap x y l => simp only [List.sum_cons]; omega
  | trans _ _ h1 h2 => exact h1.trans h2
theorem FacOk.take_nd {b : Nat} {L : List (Nat × Nat)} (h : FacOk b L) : ∀ {i p e : Nat}, L[i]? = some (p, e) → FacOk b (L.take i) ∧ ∀ x ∈ L.take i, x.1 < p := by
  intro i p e hx
  induction L generalizing b i with
  | nil => simp at hx
  | cons y r ih =>
    obtain ⟨q, f⟩ := y
    obtain ⟨h1, h2, h3, h4⟩ := h
    cases i with
    | zero => exact ⟨True.intro, fun x hx => by simp at hx⟩
    | succ i =>
      obtain ⟨k1, k2⟩ := ih h4 hx
      refine ⟨⟨h1, h2, h3, k1⟩, fun x hm => ?_⟩
      rcases List.mem_cons.mp hm with z | z
      · rw [z]
        have hm2 : (p, e) ∈ r := List.mem_of_getElem? hx
        have := (h4.mem hm2).1
        omega
      · exact k2 x z
def sp_divisors_by (_ : PySem.W.Frag) : Sp := spec1 fun x H Q _ => ∃ (p : Addr) (L : List (Nat × Nat)) (n : Nat), x = .ref p ∧ Rows H p L ∧ FacOf L n ∧ n ≤ 1000000 ∧ ∀ (r : Addr) (H' : Hp) (ns : List Int), Same H H' → DivL ns n → H' r = some (.lst (ns.map V.int)) → Q (.ref r) H'
theorem ok_divisors_by {af : Addr} {fd : FuncData} (F : FunD K "divisors_by" "divisors_by" (defArgs s_divisors_by) (defBody s_divisors_by) (defScope s_divisors_by) [] [] af fd) (B : Bt mg)  : FnG P w K mg base CX0 1 af fd ["powers"] (sp_divisors_by K) := by
  refine okG F sc_divisors_by ar1 fun cdv A outer s H vs Q E hg hr h => ?_
  refine ⟨_, PSs.nox (pss_cons (ps_set (i := 1) sc_divisors_by.nd rfl (.inl rfl) (pe_lst (pa_cons pe_int pa_nil)))
    (pss_cons (ps_for PassesOwn.never rfl ((pi_list (pv 0))) (pg_tup rfl (pgs_cons (pg_name (i := 2) sc_divisors_by.nd rfl (.inl rfl)) (pgs_cons (pg_name (i := 3) sc_divisors_by.nd rfl (.inl rfl)) pgs_nil)))
      (pss_cons (ps_asg (pe_tup (pa_cons (pe_lst pa_nil) (pa_cons pe_int pa_nil))) (pg_tup rfl (pgs_cons (pg_name (i := 4) sc_divisors_by.nd rfl (.inl rfl)) (pgs_cons (pg_name (i := 5) sc_divisors_by.nd rfl (.inr rfl)) pgs_nil))))
      (pss_cons (ps_for PassesOwn.never rfl (pi_range1 rfl B.range (pa_cons (pe_op op_add (pv 3) pe_int) pa_nil)) (pg_name (i := 6) sc_divisors_by.nd rfl (.inl rfl))
        (pss_cons (ps_expr (pe_bm PySem.F.plainAttrs_list PySem.F.slot_list_extend PySem.F.type_list_extend mt_extend (pv 4) (pa_cons (pe_lc (own := [("one", 7)]) rfl sc_divisors_by.nd ((pi_list (pv 1))) (blkOk_by (own := [("one", 7)]) (N := ["powers", "found", "prime", "many", "longer", "factor", "turn", "one"]) (sc := defScope s_divisors_by) (by decide +kernel)) (fun _ _ _ _ _ => pg_name (i := 7) sc_divisors_by.nd rfl (.inl rfl) (.inr rfl)) (fun _ _ _ _ _ => pts_nil) (fun _ _ _ _ _ => (pe_op op_mul (pv 7) (pv 5)))) pa_nil)))
        (pss_one (ps_set (i := 5) sc_divisors_by.nd rfl (.inr rfl) (pe_op op_mul (pv 5) (pv 2))))))
      (pss_one (ps_set (i := 1) sc_divisors_by.nd rfl (.inl rfl) (pv 4))))))
    (pss_one (ps_ret (pe_callB cr_sortedI (by rfl) B.sorted (by decide +kernel) (pa_cons (pv 1) pa_nil)))))), ?_⟩
  obtain ⟨_, rfl, p, L, n, rfl, hr, hL, hn, q⟩ := h
  have n1 : 1 ≤ n := by rw [← hL.2]; exact FacOk.pos hL.1
  obtain ⟨ts, ep, hl2, hi⟩ := hr
  refine ⟨sz1, fun l0 hl0 => ?_⟩
  have s0 := (Same.refl H).new (o := .lst [V.int 1]) hl0
  have e0 : (upd H l0 (.lst [V.int 1])) l0 = some (.lst [V.int 1]) := upd_same
  generalize upd H l0 (.lst [V.int 1]) = H1 at s0 e0 ⊢
  refine ⟨_, rfl, p, rfl, ⟨_, SqL.of (s0 _ _ ep)⟩, for_list (K := K) (a := p) (xs := ts.map V.ref) (fun i σ H' => ∃ (l : Addr) (ns : List Int) (y2 y3 y4 y5 y6 : Option V), σ = [some (.ref p), some (.ref l), y2, y3, y4, y5, y6, none] ∧ Same H H' ∧ H' l = some (.lst (ns.map V.int)) ∧ DivL ns (facP (L.take i)))
    ⟨l0, [1], none, none, none, none, none, rfl, s0, e0, ⟨fun F => by show F 1 + 0 = sumR (fun d => if d ∣ 1 then F (d : Int) else 0) 1; rw [sumR, sumR, if_pos (by simp)]; show F 1 + 0 = 0 + F 1; omega, fun x hx => ⟨1, by simpa using hx, Nat.dvd_refl 1⟩⟩⟩ (fun i σ H' _ ⟨_, _, _, _, _, _, _, _, z, _⟩ => SqL.of (z _ _ ep)) ?_ ?_⟩
  · rintro i v σ H3 hv ⟨l, ns, y2, y3, y4, y5, y6, rfl, sm, el, dv⟩
    rw [List.getElem?_map] at hv
    obtain ⟨t, ht, rfl⟩ := Option.map_eq_some_iff.mp hv
    obtain ⟨x, hx, et⟩ := hi i t ht
    obtain ⟨pr, many⟩ := x
    obtain ⟨_, pp, m1⟩ := hL.1.mem (List.mem_of_getElem? hx)
    obtain ⟨b1, b2, b3, b4, b5⟩ := row_b hL (by omega) (List.mem_of_getElem? hx)
    obtain ⟨okt, ltt⟩ := FacOk.take_nd hL.1 hx
    have tk : L.take (i + 1) = L.take i ++ [(pr, many)] := by
      rw [List.take_add_one, hx]
      rfl
    have pos := FacOk.pos okt
    have nd : ¬ pr ∣ facP (L.take i) := fun z => by
      obtain ⟨x, hxm, e⟩ := okt.dvd pp z
      have := ltt x hxm
      omega
    have mle : facP (L.take i) ≤ n := by
      have : facP (L.take i) ∣ n := ⟨facP (L.drop i), by rw [← facP_app, List.take_append_drop, hL.2]⟩
      exact Nat.le_of_dvd n1 this
    have fk : facP (L.take (i + 1)) = pr ^ many * facP (L.take i) := by rw [tk, facP_snoc, Nat.mul_comm]
    have nl : ns.length ≤ 2 * n := by
      have := dv.len
      have := tau_2n pos
      omega
    have pj : pr ^ many ≤ 1000000 := by
      have : pr ^ many ≤ n := by
        have d := mem_pow' L (List.mem_of_getElem? hx)
        rw [hL.2] at d
        exact Nat.le_of_dvd n1 d
      omega
    generalize facP (L.take i) = m at dv nd pos mle fk
    clear okt ltt tk
    refine ⟨t, _, rfl, SqT.of (sm _ _ et), rfl, _, _, rfl, _, _, rfl, rfl, ?_⟩
    refine ⟨sz0, fun lg hlg => ⟨sz2, fun tu htu => ⟨tu, _, rfl, SqT.of upd_same, rfl, _, _, rfl, _, _, rfl, rfl, ?_⟩⟩⟩
    have sg := (Same.refl H3).new (o := .lst []) hlg
    have eg0 : (upd H3 lg (.lst [])) lg = some (.lst []) := upd_same
    have su := (Same.refl (upd H3 lg (.lst []))).new (o := .tup [.ref lg, .int 1]) htu
    have zg : H lg = none := sm.free hlg
    have ngl : l ≠ lg := ne_of_none el hlg
    have el2 := su _ _ (sg _ _ el)
    have eg := su _ _ eg0
    have sH := (sm.trans sg).trans su
    generalize upd (upd H3 lg (.lst [])) tu (.tup [.ref lg, .int 1]) = H4 at el2 eg sH ⊢
    refine ⟨_, rfl, _, _, rfl, rfl, _, rfl, by omega, by omega, for_range (lo := 0) (fun j σ H' => ∃ (ms : List Int) (y6 : Option V), σ = [some (.ref p), some (.ref l), some (.int (pr : Int)), some (.int (many : Int)), some (.ref lg), some (.int ((pr ^ j : Nat) : Int)), y6, none] ∧ Same H H' ∧ H' l = some (.lst (ns.map V.int)) ∧ H' lg = some (.lst (ms.map V.int)) ∧ ms.length = j * ns.length ∧ (∀ F : Int → Int, (ms.map F).sum = gsum (fun d => F (d : Int)) pr m j) ∧ ∀ x ∈ ms, ∃ d : Nat, x = (d : Int) ∧ d ∣ pr ^ many * m)
      ⟨[], y6, rfl, sH, el2, eg, by simp, fun F => rfl, fun x hx => by simp at hx⟩ ?_ ?_⟩
    · rintro j σ H5 hj ⟨ms, z6, rfl, s5, e5, g5, ml, msum, mdv⟩
      have jm : j ≤ many := by omega
      have pjj : pr ^ j ≤ pr ^ many := Nat.pow_le_pow_right (by omega) jm
      have lens : (j + 1) * ns.length ≤ 41 * 2000000 / 10 := by
        have h41 : (j + 1) ≤ 41 := by omega
        have : 2 ^ j ≤ pr ^ j := Nat.pow_le_pow_left b1 j
        have j20 : j ≤ 20 := by
          refine Classical.byContradiction fun z => ?_
          have h21 : 2 ^ 21 ≤ 2 ^ j := Nat.pow_le_pow_right (by decide) (by omega)
          have : (1000000 : Nat) < 2 ^ 21 := by decide
          omega
        have h3 : ns.length ≤ 2 * m := by
          have := dv.len
          have := tau_2n pos
          omega
        have h4 : (j + 1) * ns.length ≤ pr ^ many * (2 * m) := by
          refine Nat.mul_le_mul ?_ h3
          have : j < 2 ^ j := Nat.lt_two_pow_self
          omega
        have h5 : pr ^ many * m ≤ n := by
          have : facP (L.take (i + 1)) ∣ n := ⟨facP (L.drop (i + 1)), by rw [← facP_app, List.take_append_drop, hL.2]⟩
          rw [fk] at this
          exact Nat.le_of_dvd n1 this
        rw [Nat.mul_left_comm] at h4
        omega
      rw [Nat.succ_mul] at lens
      refine ⟨_, rfl, .inl ⟨rfl, _, SqL.of g5⟩, _, rfl, l, rfl, ⟨_, SqL.of e5⟩, fun D hD => lc_list (K := K) (a := l) (xs := ns.map V.int) (fun k H6 => Same H5 H6 ∧ H6 D = some (.lst (((ns.take k).map fun x => x * ((pr ^ j : Nat) : Int)).map V.int))) ⟨(Same.refl _).new hD, upd_same⟩ (fun k H6 _ z => SqL.of (z.1 _ _ e5)) ?_ ?_⟩
      · rintro k x H6 hx ⟨s6, eD⟩
        rw [List.getElem?_map] at hx
        obtain ⟨y, hy, rfl⟩ := Option.map_eq_some_iff.mp hx
        have hk : k < ns.length := (List.getElem?_eq_some_iff.mp hy).1
        have hDn : H5 D = none := hD
        refine ⟨rfl, _, rfl, _, rfl, _, _, rfl, rfl, mulc' ⟨by omega, by omega⟩, _, eD, ?_, s6.mut hDn, ?_⟩
        · rw [List.length_map, List.length_map, List.length_take]
          exact small_lt (by omega)
        · rw [upd_same, List.take_add_one, hy]
          simp only [Option.toList, List.map_append, List.map_cons, List.map_nil]
      · rintro H6 ⟨s6, eD⟩
        rw [List.length_map, List.take_length] at eD
        refine ⟨lg, D, _, _, rfl, rfl, s6 _ _ g5, eD, ?_, ?_⟩
        · simp only [List.length_map]
          exact small_sz (by omega)
        refine ⟨_, rfl, _, rfl, _, _, rfl, rfl, mulc ⟨by omega, by omega⟩, ms ++ ns.map (fun x => x * ((pr ^ j : Nat) : Int)), some (.int (0 + (j : Int))), ?_, (s5.trans s6).mut zg, (upd_ne ngl).trans (s6 _ _ e5), ?_, ?_, fun F => ?_, fun x hx => ?_⟩
        · rw [Nat.pow_succ, Int.natCast_mul]
          rfl
        · rw [upd_same, List.map_append]
        · rw [List.length_append, List.length_map, ml, Nat.succ_mul]
        · rw [List.map_append, List.sum_append, List.map_map, msum F]
          unfold gsum
          rw [List.range_succ, List.map_append, List.sum_append]
          congr 1
          have := dv.1 (F ∘ fun x => x * ((pr ^ j : Nat) : Int))
          rw [this]
          show _ = dsum (fun d => F ((pr ^ j * d : Nat) : Int)) m + 0
          rw [Int.add_zero]
          refine sumR_congr fun d _ _ => ?_
          split
          · refine congrArg F ?_
            show (d : Int) * ((pr ^ j : Nat) : Int) = ((pr ^ j * d : Nat) : Int)
            rw [Int.natCast_mul, Int.mul_comm]
          · rfl
        · rcases List.mem_append.mp hx with hx | hx
          · exact mdv x hx
          · obtain ⟨y, hy, rfl⟩ := List.mem_map.mp hx
            obtain ⟨d, rfl, hd⟩ := dv.2 y hy
            refine ⟨pr ^ j * d, by rw [Int.natCast_mul, Int.mul_comm], Nat.mul_dvd_mul (Nat.pow_dvd_pow pr jm) hd⟩
    · rintro σ H5 ⟨ms, z6, rfl, s5, e5, g5, ml, msum, mdv⟩
      rw [show ((many : Int) + 1).toNat = many + 1 by omega] at msum
      refine ⟨_, rfl, lg, ms, _, _, _, _, _, rfl, s5, g5, ?_⟩
      rw [fk]
      exact ⟨fun F => by rw [msum F, gsum_all pp nd pos], mdv⟩
  · rintro σ H3 ⟨l, ns, y2, y3, y4, y5, y6, rfl, sm, el, dv⟩
    rw [List.length_map, hl2, List.take_length, hL.2] at dv
    refine ⟨_, rfl, l, ns, rfl, SqL.of el, fun ns' r pm _ hr => q r _ ns' (sm.new hr) ⟨fun F => (sum_perm (pm.map F)).trans (dv.1 F), fun x hx => dv.2 x (pm.mem_iff.mp hx)⟩ upd_same⟩
def sp_divisors_of (_ : PySem.W.Frag) : Sp := spec1 fun x H Q _ => ∃ n : Nat, x = .int n ∧ 1 ≤ n ∧ n ≤ 1000000 ∧ ∀ (r : Addr) (H' : Hp) (ns : List Int), Same H H' → DivL ns n → H' r = some (.lst (ns.map V.int)) → Q (.ref r) H'
theorem ok_divisors_of {af : Addr} {fd : FuncData} (F : FunD K "divisors_of" "divisors_of" (defArgs s_divisors_of) (defBody s_divisors_of) (defScope s_divisors_of) [] [] af fd) (B : Bt mg) (C_divisors_by : Cl P w K mg base 1 "divisors_by" 1 [] (sp_divisors_by K)) (C_powers_of : Cl P w K mg base 1 "powers_of" 1 [] (sp_powers_of K)) : FnG P w K mg base CX0 2 af fd ["number"] (sp_divisors_of K) := by
  refine okG F sc_divisors_of ar1 fun cdv A outer s H vs Q E hg hr h => ?_
  refine ⟨_, PSs.nox (pss_one (ps_ret (pe_cl C_divisors_by hg hr (by decide) rfl (pa_cons (pe_cl C_powers_of hg hr (by decide) rfl (pa_cons (pv 0) pa_nil)) pa_nil)))), ?_⟩
  obtain ⟨_, rfl, n, rfl, h1, h2, q⟩ := h
  exact ⟨_, rfl, _, rfl, n, rfl, h1, by omega, fun L p H1 hL s1 rp => ⟨_, rfl, p, L, n, rfl, rows_of rp, hL, h2, fun r H2 ns s2 dv e => q r H2 ns (s1.trans s2) dv e⟩⟩
def sp_divisors (_ : PySem.W.Frag) : Sp := spec1 fun x H Q _ => ∃ n : Nat, x = .int n ∧ 1 ≤ n ∧ n ≤ 1000000 ∧ ∀ (r : Addr) (H' : Hp) (ns : List Int), Same H H' → DivL ns n → H' r = some (.lst (ns.map V.int)) → Q (.ref r) H'
theorem ok_divisors {af : Addr} {fd : FuncData} (F : FunD K "divisors" "divisors" (defArgs s_divisors) (defBody s_divisors) (defScope s_divisors) [] [] af fd) (B : Bt mg) (C_want_number : Cl P w K mg base 3 "want_number" 2 [] (sp_want_number K)) (C_divisors_of : Cl P w K mg base 2 "divisors_of" 1 [] (sp_divisors_of K)) {t_GREATEST : Tok} (c_GREATEST : mg "GREATEST" = some (.int 1000000000000 t_GREATEST)) : FnG P w K mg base CX0 4 af fd ["number"] (sp_divisors K) := by
  refine okG F sc_divisors ar1 fun cdv A outer s H vs Q E hg hr h => ?_
  refine ⟨_, PSs.nox (pss_cons (ps_expr (pe_cl C_want_number hg hr (by decide) rfl (pa_cons (pv 0) (pa_cons (pe_glob (v := .int 1000000000000) rfl c_GREATEST ⟨_, rfl⟩) pa_nil))))
    (pss_one (ps_ret (pe_cl C_divisors_of hg hr (by decide) rfl (pa_cons (pv 0) pa_nil))))), ?_⟩
  obtain ⟨_, rfl, n, rfl, h1, h2, q⟩ := h
  exact ⟨_, rfl, _, _, rfl, n, _, rfl, rfl, by omega, by omega, _, rfl, _, rfl, n, rfl, h1, h2, q⟩
/-! the law's own share-free count -/
def sp__law_free (_ : PySem.W.Frag) : Sp := spec1 fun x H Q _ => ∃ (p : Addr) (L : List (Nat × Nat)) (n : Nat), x = .ref p ∧ Rows H p L ∧ FacOf L n ∧ n ≤ 1000000 ∧ Q (.int (phN n)) H
theorem ok__law_free {af : Addr} {fd : FuncData} (F : FunD K "_law_free" "_law_free" (defArgs s__law_free) (defBody s__law_free) (defScope s__law_free) [] [] af fd) (B : Bt mg)  : FnG P w K mg base CX0 1 af fd ["rows"] (sp__law_free K) := by
  refine okG F sc__law_free ar1 fun cdv A outer s H vs Q E hg hr h => ?_
  refine ⟨_, PSs.nox (pss_cons (ps_set (i := 1) sc__law_free.nd rfl (.inl rfl) pe_int)
    (pss_cons (ps_for PassesOwn.never rfl ((pi_list (pv 0))) (pg_tup rfl (pgs_cons (pg_name (i := 2) sc__law_free.nd rfl (.inl rfl)) (pgs_cons (pg_name (i := 3) sc__law_free.nd rfl (.inl rfl)) pgs_nil)))
      (pss_cons (ps_set (i := 1) sc__law_free.nd rfl (.inl rfl) (pe_op op_mul (pv 1) (pe_op op_sub (pv 2) pe_int)))
      (pss_one (ps_for PassesOwn.never rfl (pi_range1 rfl B.range (pa_cons (pe_op op_sub (pv 3) pe_int) pa_nil)) (pg_name (i := 4) sc__law_free.nd rfl (.inl rfl))
        (pss_one (ps_set (i := 1) sc__law_free.nd rfl (.inl rfl) (pe_op op_mul (pv 1) (pv 2))))))))
    (pss_one (ps_ret (pv 1))))), ?_⟩
  obtain ⟨_, rfl, p, L, n, rfl, hr, hL, hn, q⟩ := h
  obtain ⟨ts, e, hl2, hi⟩ := hr
  refine ⟨_, rfl, p, rfl, ⟨_, SqL.of e⟩, for_list (K := K) (a := p) (xs := ts.map V.ref) (fun i σ H' => ∃ y2 y3 y4 : Option V, σ = [some (.ref p), some (.int (phL (L.take i) : Nat)), y2, y3, y4] ∧ H' = H) ⟨none, none, none, rfl, rfl⟩ (fun i σ H' _ ⟨_, _, _, _, z⟩ => by rw [z]; exact SqL.of e) ?_ ?_⟩
  · rintro i v σ H3 hv ⟨y2, y3, y4, rfl, rfl⟩
    rw [List.getElem?_map] at hv
    obtain ⟨t, ht, rfl⟩ := Option.map_eq_some_iff.mp hv
    obtain ⟨x, hx, et⟩ := hi i t ht
    obtain ⟨a, b⟩ := x
    obtain ⟨b1, b2, b3, b4, b5⟩ := row_b hL (by omega) (List.mem_of_getElem? hx)
    have tk : L.take (i + 1) = L.take i ++ [(a, b)] := by
      rw [List.take_add_one, hx]
      rfl
    refine ⟨t, _, rfl, SqT.of et, rfl, _, _, rfl, _, _, rfl, rfl, _, rfl, _, rfl, _, _, rfl, rfl, _, _, rfl, rfl, mulc' ⟨by omega, by omega⟩, _, rfl, _, _, rfl, rfl, _, rfl, by omega, by omega, for_range (lo := 0) (fun j σ H' => ∃ y4 : Option V, σ = [some (.ref p), some (.int (phL (L.take i) * (a ^ j * (a - 1)) : Nat)), some (.int (a : Int)), some (.int (b : Int)), y4] ∧ H' = H3) ⟨y4, ?_, rfl⟩ ?_ ?_⟩
    · rw [Nat.pow_zero, Nat.one_mul, Int.natCast_mul, show ((a - 1 : Nat) : Int) = (a : Int) - 1 by omega]
      rfl
    · rintro j σ H4 hj ⟨z4, rfl, rfl⟩
      refine ⟨_, rfl, _, rfl, _, _, rfl, rfl, mulc' ⟨by omega, by omega⟩, some (.int (0 + (j : Int))), ?_, rfl⟩
      have e5 : phL (L.take i) * (a ^ (j + 1) * (a - 1)) = phL (L.take i) * (a ^ j * (a - 1)) * a := by rw [Nat.pow_succ]; ac_rfl
      rw [e5, Int.natCast_mul _ a]
      rfl
    · rintro σ H4 ⟨z4, rfl, rfl⟩
      rw [show ((b : Int) - 1).toNat = b - 1 by omega]
      refine ⟨some (.int (a : Int)), some (.int (b : Int)), z4, ?_, rfl⟩
      rw [tk, phL_snoc]
  · rintro σ H3 ⟨y2, y3, y4, rfl, rfl⟩
    rw [List.length_map, hl2, List.take_length, ← ph_fac hL]
    exact ⟨_, rfl, q⟩
def sp_powers (_ : PySem.W.Frag) : Sp := spec1 fun x H Q _ => ∃ n : Nat, x = .int n ∧ 1 ≤ n ∧ n ≤ 1000000000000 ∧ ∀ L p H', FacOf L n → Same H H' → Rp (New H) H' (.ref p) (.list (L.map powD)) → Q (.ref p) H'
theorem ok_powers {af : Addr} {fd : FuncData} (F : FunD K "powers" "powers" (defArgs s_powers) (defBody s_powers) (defScope s_powers) [] [] af fd) (B : Bt mg) (C_want_number : Cl P w K mg base 3 "want_number" 2 [] (sp_want_number K)) (C_powers_of : Cl P w K mg base 1 "powers_of" 1 [] (sp_powers_of K)) {t_GREATEST : Tok} (c_GREATEST : mg "GREATEST" = some (.int 1000000000000 t_GREATEST)) : FnG P w K mg base CX0 4 af fd ["number"] (sp_powers K) := by
  refine okG F sc_powers ar1 fun cdv A outer s H vs Q E hg hr h => ?_
  refine ⟨_, PSs.nox (pss_cons (ps_expr (pe_cl C_want_number hg hr (by decide) rfl (pa_cons (pv 0) (pa_cons (pe_glob (v := .int 1000000000000) rfl c_GREATEST ⟨_, rfl⟩) pa_nil))))
    (pss_one (ps_ret (pe_cl C_powers_of hg hr (by decide) rfl (pa_cons (pv 0) pa_nil))))), ?_⟩
  obtain ⟨_, rfl, n, rfl, h1, h2, q⟩ := h
  exact ⟨_, rfl, _, _, rfl, n, _, rfl, rfl, by omega, by omega, _, rfl, _, rfl, n, rfl, h1, h2, q⟩

end
end M
namespace M
/-! signs by division, known sums of share-free counts -/
def PC : List Nat := [2, 3, 5, 7, 11, 13, 17, 19, 23, 29, 31, 37, 41, 43, 47, 53, 59, 61, 67, 71, 73, 79, 83, 89, 97]
def stepC (p l : Nat) (s : Int) (k : Nat → Int → Int) : Int :=
  match Nat.beq (l % p) 0 with
  | true => match Nat.beq (l / p % p) 0 with
    | true => 0
    | false => k (l / p) (Int.neg s)
  | false => k l s
def muCL : List Nat → Nat → Int → Int
  | [], l, s => match Nat.ble l 1 with
    | true => s
    | false => Int.neg s
  | p :: ps, l, s => stepC p l s (muCL ps)
def muC (n : Nat) : Int := muCL PC n 1
theorem PC_ok : PC = primesTo 100 := by decide +kernel
theorem muCL_ok : ∀ (ps : List Nat) (l : Nat) (s : Int), (∀ p ∈ ps, Pr p) → (∀ q, Pr q → q ∣ l → q ∉ ps → 101 ≤ q) → 0 < l → l < 10201 → muCL ps l s = s * mu l
  | [], l, s, _, h2, h3, h4 => by
    rw [muCL]
    cases e : Nat.ble l 1 with
    | true =>
      have : l = 1 := by
        have := Nat.le_of_ble_eq_true e
        omega
      subst this
      rw [mu_one]
      simp
    | false =>
      have l2 : 2 ≤ l := by
        refine Classical.byContradiction fun z => ?_
        have : Nat.ble l 1 = true := Nat.ble_eq_true_of_le (by omega)
        rw [e] at this
        cases this
      have hp : Pr l := Pr.sq_bound l2 fun q hq hs hd => by
        have := h2 q hq hd (by simp)
        have := Nat.mul_le_mul this this
        omega
      rw [mu_prime hp]
      show - s = _
      omega
  | p :: ps, l, s, h1, h2, h3, h4 => by
    have hp := h1 p List.mem_cons_self
    have p2 := hp.1
    rw [muCL]
    unfold stepC
    cases e : Nat.beq (l % p) 0 with
    | false =>
      have nd : ¬ p ∣ l := fun z => by
        have := Nat.mod_eq_zero_of_dvd z
        rw [this] at e
        cases e
      refine muCL_ok ps l s (fun q hq => h1 q (List.mem_cons_of_mem _ hq)) (fun q hq hd hn => h2 q hq hd fun z => ?_) h3 h4
      rcases List.mem_cons.mp z with z | z
      · rw [z] at hd
        exact nd hd
      · exact hn z
    | true =>
      have d : p ∣ l := Nat.dvd_of_mod_eq_zero (Nat.eq_of_beq_eq_true e)
      obtain ⟨t, rfl⟩ := d
      rw [Nat.mul_div_cancel_left t (by omega : 0 < p)]
      have t0 : 0 < t := by
        rcases Nat.eq_zero_or_pos t with z | z
        · rw [z] at h3
          omega
        · exact z
      have tl : t ≤ p * t := Nat.le_mul_of_pos_left t (by omega)
      show (match Nat.beq (t % p) 0 with | true => 0 | false => muCL ps t (Int.neg s)) = _
      cases e2 : Nat.beq (t % p) 0 with
      | true =>
        rw [mu_mul_dvd hp (Nat.dvd_of_mod_eq_zero (Nat.eq_of_beq_eq_true e2)) t0]
        simp
      | false =>
        have nd : ¬ p ∣ t := fun z => by
          have := Nat.mod_eq_zero_of_dvd z
          rw [this] at e2
          cases e2
        show muCL ps t (- s) = _
        rw [muCL_ok ps t (- s) (fun q hq => h1 q (List.mem_cons_of_mem _ hq)) (fun q hq hd hn => h2 q hq (Nat.dvd_trans hd (Nat.dvd_mul_left t p)) fun z => ?_) t0 (by omega), mu_mul hp nd, Int.mul_neg, Int.neg_mul]
        rcases List.mem_cons.mp z with z | z
        · rw [z] at hd
          exact nd hd
        · exact hn z
theorem muC_ok {n : Nat} (h0 : 0 < n) (h : n < 10201) : muC n = mu n := by
  unfold muC
  rw [muCL_ok PC n 1 (fun p hp => by rw [PC_ok] at hp; exact (mem_primesTo.mp hp).2) (fun q hq _ hn => ?_) h0 h, Int.one_mul]
  refine Classical.byContradiction fun z => hn ?_
  rw [PC_ok]
  exact mem_primesTo.mpr ⟨by omega, hq⟩
theorem sumR_app (f : Nat → Int) (a : Nat) : ∀ b : Nat, sumR f (a + b) = sumR f a + sumR (fun i => f (a + i)) b
  | 0 => by simp [sumR]
  | b + 1 => by
    rw [show a + (b + 1) = (a + b) + 1 by omega, sumR, sumR_app f a b, sumR, Int.add_assoc]
    rfl
def sumBB (f : Nat → Int) (m : Nat) : Nat → Int
  | 0 => 0
  | k + 1 => sumBB f m k + sumR (fun i => f (m * k + i)) m
theorem sumBB_ok (f : Nat → Int) (m : Nat) : ∀ k : Nat, sumBB f m k = sumR f (m * k)
  | 0 => rfl
  | k + 1 => by rw [sumBB, sumBB_ok f m k, Nat.mul_succ, sumR_app]
theorem free_by {n : Nat} (h0 : 1 ≤ n) (h : n ≤ 10000) : 2 * sumR phN n - 1 = sumR (fun d => muC d * (((n / d : Nat) : Int) * (n / d : Nat))) n := by
  have := couples_sum n (Nat.le_refl n)
  rw [if_neg (show ¬ n = 0 by omega)] at this
  rw [← this]
  exact sumR_congr fun i h1 h2 => by rw [muC_ok (by omega) (by omega)]
theorem free_10 : sumR phN 10 = 32 := by
  have h := free_by (n := 10) (by decide) (by decide)
  have e : sumR (fun d => muC d * (((10 / d : Nat) : Int) * (10 / d : Nat))) 10 = 63 := by decide +kernel
  rw [e] at h
  omega
theorem free_100 : sumR phN 100 = 3044 := by
  have h := free_by (n := 100) (by decide) (by decide)
  have e : sumR (fun d => muC d * (((100 / d : Nat) : Int) * (100 / d : Nat))) 100 = 6087 := by decide +kernel
  rw [e] at h
  omega
theorem free_10000 : sumR phN 10000 = 30397486 := by
  have h := free_by (n := 10000) (by decide) (by decide)
  have e : sumR (fun d => muC d * (((10000 / d : Nat) : Int) * (10000 / d : Nat))) 10000 = 60794971 := by
    rw [show sumR (fun d => muC d * (((10000 / d : Nat) : Int) * (10000 / d : Nat))) 10000 = sumBB (fun d => muC d * (((10000 / d : Nat) : Int) * (10000 / d : Nat))) 100 100 from (sumBB_ok _ 100 100).symm]
    decide +kernel
  rw [e] at h
  omega
theorem fac_len : ∀ {b : Nat} {L : List (Nat × Nat)}, FacOk b L → 2 ^ L.length ≤ facP L
  | _, [], _ => Nat.le_refl 1
  | b, (p, e) :: r, ⟨_, h2, h3, h4⟩ => by
    have ih := fac_len h4
    have a : p ^ 1 ≤ p ^ e := Nat.pow_le_pow_right (by have := h2.1; omega) h3
    rw [Nat.pow_one] at a
    have := Nat.mul_le_mul (Nat.le_trans h2.1 a) ih
    rw [List.length_cons, Nat.pow_succ, Nat.mul_comm]
    exact this
theorem fac_short {L : List (Nat × Nat)} {n : Nat} (h : FacOf L n) (hn : n ≤ 1000000000000) : L.length ≤ 100 := by
  have := fac_len h.1
  rw [h.2] at this
  refine Classical.byContradiction fun z => ?_
  have h2 : 2 ^ 100 ≤ 2 ^ L.length := Nat.pow_le_pow_right (by decide) (by omega)
  have h3 : (1000000000000 : Nat) < 2 ^ 100 := by decide
  omega

end M
namespace M
open PySem PySem.Spec PyProof.Rows L2 G
section
variable {P : Program} {w : World} {K : PySem.W.Frag} {mg : Str → Option Value} {base : Heap}
/-! the law of share-free couples -/
theorem ne_same {Q : Bool → Hp → Prop} {x y : V} {H : Hp} (h : x = y) (q : Q false H) : Q (!decide (x = y)) H := by
  rw [decide_eq_true h]
  exact q
theorem not_self {x y : V} (h : x = y) : ¬ (!decide (x = y)) = true := by
  rw [decide_eq_true h]
  decide
def sp__law_right (_ : PySem.W.Frag) : Sp := spec1 fun x H Q _ => ∃ a, x = .ref a ∧ PotAt H a ∧ ∀ H', Grow a H H' → Q (.bl true) H'
theorem pow9 : (10 : Int) ^ Int.toNat 9 = 1000000000 := by decide
theorem pow4 : (10 : Int) ^ Int.toNat 4 = 10000 := by decide
def phI (n : Nat) : List Int := (List.range n).map fun i => phN (i + 1)
theorem phI_V (n : Nat) : ((List.range n).map fun i => V.int (phN (i + 1))) = (phI n).map V.int := by
  unfold phI
  rw [List.map_map]
  rfl
theorem phI_len (n : Nat) : (phI n).length = n := by
  unfold phI
  rw [List.length_map, List.length_range]
theorem phI_sum (n : Nat) : (phI n).sum = sumR phN n := sum_range phN n
theorem ph_b {n : Nat} (h : 1 ≤ n) : 0 ≤ phN n ∧ phN n ≤ n := by
  obtain ⟨L, hL⟩ := fac_ex h
  have e := frN_all (ps := primesTo n) h fun p hp hpi => mem_primesTo.mpr ⟨hpi, hp⟩
  have l := frN_le (ps := primesTo n) h
  omega
theorem phI_small {n : Nat} (hn : n ≤ 3000) : ∀ x ∈ phI n, x.natAbs < 10 ^ 14 := by
  intro x hx
  obtain ⟨i, hi, rfl⟩ := List.mem_map.mp hx
  have := List.mem_range.mp hi
  have := ph_b (n := i + 1) (by omega)
  omega
theorem sumph_b : ∀ n : Nat, 0 ≤ sumR phN n ∧ sumR phN n ≤ (n : Int) * n
  | 0 => by simp [sumR]
  | n + 1 => by
    have h1 := sumph_b n
    have h2 := ph_b (n := n + 1) (by omega)
    rw [sumR]
    have : ((n + 1 : Nat) : Int) * ((n + 1 : Nat) : Int) = (n : Int) * n + 2 * n + 1 := by
      rw [Int.natCast_add, Int.mul_add, Int.add_mul]
      simp
      omega
    omega
theorem phI_last {n : Nat} (h : 1 ≤ n) : atI ((phI n).map V.int) (-1) = some (.int (phN n)) := by
  obtain ⟨m, rfl⟩ : ∃ m, n = m + 1 := ⟨n - 1, by omega⟩
  unfold phI
  rw [List.range_succ, List.map_append, List.map_append]
  exact atI_last _ _
/-- the pot and the list stand -/
structure Lv2 (H0 : Hp) (a D : Addr) (n : Nat) (H : Hp) : Prop where
  pot : PotAt H a
  dn : D ≠ a
  dt : H D = some (.lst ((phI n).map V.int))
  gr : Grow a H0 H
theorem Lv2.same {H0 H H' : Hp} {a D : Addr} {n : Nat} (h : Lv2 H0 a D n H) (s : Same H H') : Lv2 H0 a D n H' := ⟨h.pot.same s, h.dn, s _ _ h.dt, h.gr.trans (Grow.of s)⟩
theorem Lv2.grow {H0 H H' : Hp} {a D : Addr} {n : Nat} (h : Lv2 H0 a D n H) (g : Grow a H H') (p : PotAt H' a) : Lv2 H0 a D n H' := ⟨p, h.dn, g _ _ h.dn h.dt, h.gr.trans g⟩
theorem good_two {c : Nat} {ns ms : List Int} (h : ∀ x ∈ ns, x.natAbs < 10 ^ c) (h' : ∀ x ∈ ms, x.natAbs < 10 ^ c) (hc : c ≤ 500) (hn : (c + 8) * (ns.length + ms.length + 3) ≤ 16777216) : Good (.list [.list (ns.map PyData.int), .list (ms.map PyData.int)]) := by
  have f : ∀ l : List Int, (∀ x ∈ l, x.natAbs < 10 ^ c) → fine c (.list (l.map PyData.int)) = true := fun l hl => by
    rw [fine]
    exact fineAll_map fun x hx => by simpa [fine] using hl x hx
  have dd : ∀ l : List Int, PyData.depthAll (l.map PyData.int) ≤ 0 := fun l => depthAll_map (f := PyData.int) (xs := l) (k := 0) fun x _ => by simp [PyData.depth]
  have nn : ∀ l : List Int, nodesAll (l.map PyData.int) ≤ l.length * 1 := fun l => nodesAll_map (f := PyData.int) (xs := l) (k := 1) fun x _ => by simp [nodes]
  refine Good.of (c := c) ?_ hc ?_ ?_
  · rw [fine, fineAll, fineAll, fineAll, f ns h, f ms h']
    rfl
  · rw [PyData.depth, PyData.depthAll, PyData.depthAll, PyData.depthAll, PyData.depth, PyData.depth]
    have := dd ns
    have := dd ms
    omega
  · rw [nodes, nodesAll, nodesAll, nodesAll, nodes, nodes]
    have := nn ns
    have := nn ms
    refine Nat.le_trans (Nat.mul_le_mul_left (c + 8) ?_) hn
    omega
theorem ok__law_right {af : Addr} {fd : FuncData} (F : FunD K "_law_right" "_law_right" (defArgs s__law_right) (defBody s__law_right) (defScope s__law_right) [] [] af fd) (B : Bt mg) (C__law_least : Cl P w K mg base 1 "_law_least" 1 [] (sp__law_least K)) (C_powers : Cl P w K mg base 4 "powers" 1 [] (sp_powers K)) (C__law_draw : Cl P w K mg base 1 "_law_draw" 2 [] (sp__law_draw K)) (C__law_free : Cl P w K mg base 1 "_law_free" 1 [] (sp__law_free K)) (C_free_couples : Cl P w K mg base 4 "free_couples" 1 [] (sp_free_couples K)) (C_share_free : Cl P w K mg base 3 "share_free" 1 [] (sp_share_free K)) (C_share_sum : Cl P w K mg base 4 "share_sum" 1 [] (sp_share_sum K)) (C__law_pick : Cl P w K mg base 2 "_law_pick" 2 [] (sp__law_pick K)) (C__law_powers : Cl P w K mg base 1 "_law_powers" 2 [] (sp__law_powers K)) (C_share_free_sum : Cl P w K mg base 4 "share_free_sum" 1 [] (sp_share_free_sum K)) (C__law_share : Cl P w K mg base 1 "_law_share" 2 [] (sp__law_share K)) (C_share : Cl P w K mg base 4 "share" 2 [] (sp_share K)) (C_share_frees : Cl P w K mg base 5 "share_frees" 1 [] (sp_share_frees K)) (C_share_free_sum_number : Clk P w K mg base 4 "share_free_sum" ["number"] (fun zs => [zs.getD 0 .non]) (sp_share_free_sum K)) (C_free_couples_number : Clk P w K mg base 4 "free_couples" ["number"] (fun zs => [zs.getD 0 .non]) (sp_free_couples K)) (C_share_frees_many : Clk P w K mg base 5 "share_frees" ["many"] (fun zs => [zs.getD 0 .non]) (sp_share_frees K)) (C_share_sum_number : Clk P w K mg base 4 "share_sum" ["number"] (fun zs => [zs.getD 0 .non]) (sp_share_sum K)) (C_divisors : Cl P w K mg base 4 "divisors" 1 [] (sp_divisors K)) : FnG P w K mg base CX0 6 af fd ["pot"] (sp__law_right K) := by
  refine okG F sc__law_right ar1 fun cdv A outer s H vs Q E hg hr h => ?_
  refine ⟨_, PSs.nox (pss_cons (ps_set (i := 1) sc__law_right.nd rfl (.inl rfl) (pe_op op_add pe_int (pe_cl C__law_draw hg hr (by decide) rfl (pa_cons (pv 0) (pa_cons (pe_cl C__law_pick hg hr (by decide) rfl (pa_cons (pv 0) (pa_cons (pe_lst (pa_cons pe_int (pa_cons pe_int (pa_cons pe_int pa_nil)))) pa_nil))) pa_nil)))))
    (pss_cons (ps_set (i := 2) sc__law_right.nd rfl (.inr rfl) (pe_cl C__law_least hg hr (by decide) rfl (pa_cons (pv 1) pa_nil)))
    (pss_cons (ps_setLc (i := 3) (own := [("one", 7)]) rfl sc__law_right.nd rfl rfl (sw_true rfl rfl rfl (by decide +kernel)) (pi_range2 rfl B.range (pa_cons pe_int (pa_cons (pe_op op_add (pv 1) pe_int) pa_nil))) (blkOk_by (own := [("one", 7)]) (N := ["pot", "number", "least", "due", "small", "count", "middle", "one", "total", "great", "told", "prime", "many", "part", "at", "other", "near", "far"]) (sc := defScope s__law_right) (by decide +kernel)) (fun _ _ _ _ _ => pg_name (i := 7) sc__law_right.nd rfl (.inl rfl) (.inr rfl)) (fun _ _ _ _ _ => pts_nil) (fun _ _ _ _ _ => (pe_cl C__law_free hg hr (by decide) rfl (pa_cons (pe_cl C__law_powers hg hr (by decide) rfl (pa_cons (pv 7) (pa_cons (pv 2) pa_nil))) pa_nil))))
    (pss_cons (ps_if (PW.pt (pw_or (pt_cmpR op_ne (pe_callB (call_repr_data hg hr.units) (by rfl) B.repr (by decide +kernel) (pa_cons (pe_lst (pa_cons (pe_cl C_share_frees hg hr (by decide) rfl (pa_cons (pv 1) pa_nil)) (pa_cons (pe_clk C_share_frees_many hg hr (by decide) rfl (pk_cons (pv 1) pk_nil) kw_len1) pa_nil))) pa_nil)) (pe_callB (call_repr_data hg hr.units) (by rfl) B.repr (by decide +kernel) (pa_cons (pe_lst (pa_cons (pv 3) (pa_cons (pv 3) pa_nil))) pa_nil)) (nomark _)) (pw_or1 (pt_cmpR op_ne (pe_cl C_share_free hg hr (by decide) rfl (pa_cons (pv 1) pa_nil)) (pe_ix ix_list (pv 3) (pe_un un_neg pe_int) (fun _ _ => rfl)) (nomark _)))))
      (pss_one (ps_ret pe_bl))
      pss_nil)
    (pss_cons (ps_if (pt_cmpR op_ne (pe_callB (call_repr_data hg hr.units) (by rfl) B.repr (by decide +kernel) (pa_cons (pe_lst (pa_cons (pe_cl C_share_free_sum hg hr (by decide) rfl (pa_cons (pv 1) pa_nil)) (pa_cons (pe_clk C_share_free_sum_number hg hr (by decide) rfl (pk_cons (pv 1) pk_nil) kw_len1) (pa_cons (pe_cl C_free_couples hg hr (by decide) rfl (pa_cons (pv 1) pa_nil)) (pa_cons (pe_clk C_free_couples_number hg hr (by decide) rfl (pk_cons (pv 1) pk_nil) kw_len1) pa_nil))))) pa_nil)) (pe_callB (call_repr_data hg hr.units) (by rfl) B.repr (by decide +kernel) (pa_cons (pe_op op_cat (pe_op op_rep (pe_lst (pa_cons (pe_callB (cr_sum rfl) (by rfl) B.sum (by decide +kernel) (pa_cons (pv 3) pa_nil)) pa_nil)) pe_int) (pe_op op_rep (pe_lst (pa_cons (pe_op op_sub (pe_op op_mul pe_int (pe_callB (cr_sum rfl) (by rfl) B.sum (by decide +kernel) (pa_cons (pv 3) pa_nil))) pe_int) pa_nil)) pe_int)) pa_nil)) (nomark _))
      (pss_one (ps_ret pe_bl))
      pss_nil)
    (pss_cons (ps_set (i := 4) sc__law_right.nd rfl (.inr rfl) (pe_op op_add pe_int (pe_cl C__law_draw hg hr (by decide) rfl (pa_cons (pv 0) (pa_cons pe_int pa_nil)))))
    (pss_cons (ps_set (i := 5) sc__law_right.nd rfl (.inl rfl) (pe_callB (cr_sum rfl) (by rfl) B.sum (by decide +kernel) (pa_cons (pe_lc (own := [("near", 16)]) rfl sc__law_right.nd (pi_range2 rfl B.range (pa_cons pe_int (pa_cons (pe_op op_add (pv 4) pe_int) pa_nil))) (blkOk_by (own := [("near", 16)]) (N := ["pot", "number", "least", "due", "small", "count", "middle", "one", "total", "great", "told", "prime", "many", "part", "at", "other", "near", "far"]) (sc := defScope s__law_right) (by decide +kernel)) (fun _ _ _ _ _ => pg_name (i := 16) sc__law_right.nd rfl (.inr rfl) (.inl rfl)) (fun _ _ _ _ _ => pts_nil) (fun _ _ _ _ _ => (pe_callB (kCall rLenS (K := K) rfl call_len_seq) (by rfl) B.len (by decide +kernel) (pa_cons (pe_lc (own := [("far", 17)]) rfl sc__law_right.nd (pi_range2 rfl B.range (pa_cons pe_int (pa_cons (pe_op op_add (pv 4) pe_int) pa_nil))) (blkOk_in (own := [("far", 17)]) (N := ["pot", "number", "least", "due", "small", "count", "middle", "one", "total", "great", "told", "prime", "many", "part", "at", "other", "near", "far"]) (sc := defScope s__law_right) rfl (by decide +kernel)) (fun _ _ _ _ _ => pg_name (i := 17) sc__law_right.nd rfl (.inl rfl) (.inr rfl)) (fun _ _ _ _ _ => pts_one (pt_cmpR op_eq (pe_cl C__law_share hg hr (by decide) rfl (pa_cons (pv 16) (pa_cons (pv 17) pa_nil))) pe_int (nomark _))) (fun _ _ _ _ _ => (pv 17))) pa_nil)))) pa_nil)))
    (pss_cons (ps_if (pt_cmpR op_ne (pe_cl C_free_couples hg hr (by decide) rfl (pa_cons (pv 4) pa_nil)) (pv 5) (nomark _))
      (pss_one (ps_ret pe_bl))
      pss_nil)
    (pss_cons (ps_set (i := 6) sc__law_right.nd rfl (.inl rfl) (pe_op op_add pe_int (pe_cl C__law_draw hg hr (by decide) rfl (pa_cons (pv 0) (pa_cons (pe_op op_mul pe_int (pe_op op_pow pe_int pe_int)) pa_nil)))))
    (pss_cons (ps_if (pt_cmpR op_ne (pe_op op_sub (pe_cl C_share_free_sum hg hr (by decide) rfl (pa_cons (pv 6) pa_nil)) (pe_cl C_share_free_sum hg hr (by decide) rfl (pa_cons (pe_op op_sub (pv 6) pe_int) pa_nil))) (pe_cl C_share_free hg hr (by decide) rfl (pa_cons (pv 6) pa_nil)) (nomark _))
      (pss_one (ps_ret pe_bl))
      pss_nil)
    (pss_cons (ps_set (i := 7) sc__law_right.nd rfl (.inr rfl) (pe_op op_add pe_int (pe_cl C__law_draw hg hr (by decide) rfl (pa_cons (pv 0) (pa_cons pe_int pa_nil)))))
    (pss_cons (ps_set (i := 8) sc__law_right.nd rfl (.inl rfl) (pe_callB (cr_sum rfl) (by rfl) B.sum (by decide +kernel) (pa_cons (pe_lc (own := [("other", 15)]) rfl sc__law_right.nd (pi_range2 rfl B.range (pa_cons pe_int (pa_cons (pe_op op_add (pv 7) pe_int) pa_nil))) (blkOk_by (own := [("other", 15)]) (N := ["pot", "number", "least", "due", "small", "count", "middle", "one", "total", "great", "told", "prime", "many", "part", "at", "other", "near", "far"]) (sc := defScope s__law_right) (by decide +kernel)) (fun _ _ _ _ _ => pg_name (i := 15) sc__law_right.nd rfl (.inl rfl) (.inr rfl)) (fun _ _ _ _ _ => pts_nil) (fun _ _ _ _ _ => (pe_cl C__law_share hg hr (by decide) rfl (pa_cons (pv 7) (pa_cons (pv 15) pa_nil))))) pa_nil)))
    (pss_cons (ps_if (PW.pt (pw_or (pt_cmpR op_ne (pe_callB (call_repr_data hg hr.units) (by rfl) B.repr (by decide +kernel) (pa_cons (pe_lst (pa_cons (pe_cl C_share_sum hg hr (by decide) rfl (pa_cons (pv 7) pa_nil)) (pa_cons (pe_clk C_share_sum_number hg hr (by decide) rfl (pk_cons (pv 7) pk_nil) kw_len1) pa_nil))) pa_nil)) (pe_callB (call_repr_data hg hr.units) (by rfl) B.repr (by decide +kernel) (pa_cons (pe_lst (pa_cons (pv 8) (pa_cons (pv 8) pa_nil))) pa_nil)) (nomark _)) (pw_or1 (pt_cmpR op_ne (pv 8) (pe_callB (cr_sum rfl) (by rfl) B.sum (by decide +kernel) (pa_cons (pe_lc (own := [("part", 13)]) rfl sc__law_right.nd ((pi_list (pe_cl C_divisors hg hr (by decide) rfl (pa_cons (pv 7) pa_nil)))) (blkOk_by (own := [("part", 13)]) (N := ["pot", "number", "least", "due", "small", "count", "middle", "one", "total", "great", "told", "prime", "many", "part", "at", "other", "near", "far"]) (sc := defScope s__law_right) (by decide +kernel)) (fun _ _ _ _ _ => pg_name (i := 13) sc__law_right.nd rfl (.inl rfl) (.inr rfl)) (fun _ _ _ _ _ => pts_nil) (fun _ _ _ _ _ => (pe_op op_mul (pv 13) (pe_cl C_share_free hg hr (by decide) rfl (pa_cons (pe_op op_fdivW (pv 7) (pv 13)) pa_nil))))) pa_nil)) (nomark _)))))
      (pss_one (ps_ret pe_bl))
      pss_nil)
    (pss_cons (ps_set (i := 9) sc__law_right.nd rfl (.inl rfl) (pe_op op_add pe_int (pe_cl C__law_draw hg hr (by decide) rfl (pa_cons (pv 0) (pa_cons (pe_op op_pow pe_int pe_int) pa_nil)))))
    (pss_cons (ps_set (i := 10) sc__law_right.nd rfl (.inl rfl) pe_int)
    (pss_cons (ps_for PassesOwn.never rfl ((pi_list (pe_cl C_powers hg hr (by decide) rfl (pa_cons (pv 9) pa_nil)))) (pg_tup rfl (pgs_cons (pg_name (i := 11) sc__law_right.nd rfl (.inl rfl)) (pgs_cons (pg_name (i := 12) sc__law_right.nd rfl (.inl rfl)) pgs_nil)))
      (pss_cons (ps_set (i := 13) sc__law_right.nd rfl (.inl rfl) (pe_op op_sub (pe_op op_mul (pe_op op_add (pv 12) pe_int) (pv 11)) (pv 12)))
      (pss_cons (ps_for PassesOwn.never rfl (pi_range1 rfl B.range (pa_cons (pe_op op_sub (pv 12) pe_int) pa_nil)) (pg_name (i := 14) sc__law_right.nd rfl (.inl rfl))
        (pss_one (ps_set (i := 13) sc__law_right.nd rfl (.inl rfl) (pe_op op_mul (pv 13) (pv 11)))))
      (pss_one (ps_set (i := 10) sc__law_right.nd rfl (.inl rfl) (pe_op op_mul (pv 10) (pv 13)))))))
    (pss_cons (ps_if (pt_cmpR op_ne (pe_cl C_share_sum hg hr (by decide) rfl (pa_cons (pv 9) pa_nil)) (pv 10) (nomark _))
      (pss_one (ps_ret pe_bl))
      pss_nil)
    (pss_cons (ps_set (i := 15) sc__law_right.nd rfl (.inl rfl) (pe_op op_add pe_int (pe_cl C__law_draw hg hr (by decide) rfl (pa_cons (pv 0) (pa_cons pe_int pa_nil)))))
    (pss_cons (ps_if (PW.pt (pw_and (pt_cmpR op_eq (pe_cl C_share hg hr (by decide) rfl (pa_cons (pv 9) (pa_cons (pv 15) pa_nil))) pe_int (nomark _)) (pw_and1 (pt_cmpR op_ne (pe_cl C_share_sum hg hr (by decide) rfl (pa_cons (pe_op op_mul (pv 9) (pv 15)) pa_nil)) (pe_op op_mul (pv 10) (pe_cl C_share_sum hg hr (by decide) rfl (pa_cons (pv 15) pa_nil))) (nomark _)))))
      (pss_one (ps_ret pe_bl))
      pss_nil)
    (pss_cons (ps_expr (pe_bm PySem.F.plainAttrs_list PySem.F.slot_list_append PySem.F.type_list_append mt_append (pe_cl C_share_frees hg hr (by decide) rfl (pa_cons (pv 1) pa_nil)) (pa_cons pe_non pa_nil)))
    (pss_one (ps_ret (pe_and (pe_cmpR (op_eqD hr.units) (pe_cl C_share_frees hg hr (by decide) rfl (pa_cons (pv 1) pa_nil)) (pv 3) (nomark _)) (pe_one (pe_cmpR (op_eqD hr.units) (pe_lst (pa_cons (pe_cl C_share_free_sum hg hr (by decide) rfl (pa_cons pe_int pa_nil)) (pa_cons (pe_cl C_share_free_sum hg hr (by decide) rfl (pa_cons pe_int pa_nil)) (pa_cons (pe_cl C_share_free_sum hg hr (by decide) rfl (pa_cons (pe_op op_pow pe_int pe_int) pa_nil)) pa_nil)))) (pe_lst (pa_cons pe_int (pa_cons pe_int (pa_cons pe_int pa_nil)))) (nomark _)))))))))))))))))))))))))), ?_⟩
  obtain ⟨_, rfl, a, rfl, hp, q⟩ := h
  refine ⟨_, rfl, _, rfl, sz3, fun p3 hp3 => ⟨_, _, rfl, a, p3, _, rfl, rfl, hp.new hp3, hp.ne hp3, SqL.of upd_same, by decide, by decide, fun v H4 hv g4 p4 => ?_⟩⟩
  have gr4 := ((Grow.refl a H).new hp3).trans g4
  obtain ⟨m, rfl, _, m1, m2⟩ := picked (ns := [10, 200, 3000]) (lo := 10) (hi := 3000) hv (by decide)
  refine ⟨_, _, rfl, a, m, rfl, rfl, p4, by omega, by omega, fun d H5 d1 d2 g5 p5 => ?_⟩
  have gr5 := gr4.trans g5
  obtain ⟨d, rfl⟩ := Int.eq_ofNat_of_zero_le d1
  refine ⟨_, _, rfl, rfl, ?_⟩
  dsimp only []
  rw [show (1 : Int) + (d : Int) = ((d + 1 : Nat) : Int) by omega]
  obtain ⟨n, hn, n1, n2⟩ : ∃ n : Nat, d + 1 = n ∧ 1 ≤ n ∧ n ≤ 3000 := ⟨d + 1, rfl, by omega, by omega⟩
  rw [hn]
  -- least
  refine ⟨_, rfl, _, rfl, n, rfl, n1, by omega, fun l H6 g s6 hl hg el => ?_⟩
  -- due
  refine ⟨_, rfl, _, _, rfl, rfl, _, _, rfl, ⟨by omega, by omega, by omega, by omega⟩, fun D hD => lc_range (lo := 1) (fun i H7 => Same H6 H7 ∧ H7 D = some (.lst ((phI i).map V.int))) ⟨(Same.refl _).new hD, upd_same⟩ ?_ ?_⟩
  · rintro i H7 hi ⟨s7, eD⟩
    have hDn : H6 D = none := hD
    refine ⟨rfl, _, rfl, _, rfl, _, _, rfl, i + 1, n, l, g, congrArg V.int (by omega), rfl, by omega, by omega, by omega, hg, s7 _ _ el, fun L p H8 hL s8 rp => ?_⟩
    refine ⟨_, rfl, p, L, i + 1, rfl, rows_of rp, hL, by omega, _, s8 _ _ eD, small_lt (by rw [List.length_map, phI_len]; omega), (s7.trans s8).mut hDn, ?_⟩
    rw [upd_same]
    unfold phI
    rw [List.range_succ, List.map_append, List.map_append]
    rfl
  rintro H7 ⟨s7, eD⟩
  rw [show ((n : Int) + 1 - 1).toNat = n by omega] at eD
  have lv : Lv2 H a D n H7 := ⟨p5.same (s6.trans s7), (p5.same s6).ne hD, eD, (gr5.trans (Grow.of s6)).trans (Grow.of s7)⟩
  clear eD s7 hD el hl s6 p5 gr5 g5
  dsimp only [gName, tSeq]
  refine if_skip (Lv2 H a D n) (fun Q' hq => ?_) (fun H8 lv8 => ?_)
  · refine ⟨_, rfl, _, rfl, n, rfl, n1, by omega, fun p H8 s8 hp8 e8 => ⟨_, rfl, _, rfl, n, rfl, n1, by omega, fun p' H9 s9 hp9 e9 => ⟨sz2, fun u hu => ?_⟩⟩⟩
    have gd := good_two (c := 14) (phI_small n2) (phI_small n2) (by decide) (by rw [phI_len]; omega)
    rw [phI_V] at e8 e9
    have su := (Same.refl H9).new (o := .lst [.ref p, .ref p']) hu
    refine ⟨u, _, rfl, .lst (SqL.of upd_same) (.cons (dp_ints (SqL.of (su _ _ (s9 _ _ e8)))) (.cons (dp_ints (SqL.of (su _ _ e9))) .nil)), gd.showable, gd.noDict, gd.deep, gd.fits, ?_⟩
    have lu := ((lv.same s8).same s9).same su
    refine ⟨_, rfl, _, rfl, sz2, fun w hw => ?_⟩
    have sw := (Same.refl (upd H9 u (.lst [.ref p, .ref p']))).new (o := .lst [.ref D, .ref D]) hw
    refine ⟨w, _, rfl, .lst (SqL.of upd_same) (.cons (dp_ints (SqL.of (sw _ _ lu.dt))) (.cons (dp_ints (SqL.of (sw _ _ lu.dt))) .nil)), gd.showable, gd.noDict, gd.deep, gd.fits, ?_⟩
    refine ⟨rfl, _, rfl, ite2 (fun z => absurd z (not_self rfl)) (fun _ => ?_)⟩
    have lw := lu.same sw
    refine ⟨_, rfl, _, rfl, n, rfl, n1, by omega, fun H10 s10 => ⟨_, rfl, _, rfl, D, _, _, _, rfl, rfl, SqL.of (lw.same s10).dt, phI_last n1, rfl, _, rfl, ne_same rfl (hq _ (lw.same s10))⟩⟩
  dsimp only [tNext, tSeq]
  -- sums, couples
  have pb := sumph_b n
  have nb : (n : Int) * n ≤ 3000 * 3000 := Int.mul_le_mul (by omega) (by omega) (by omega) (by omega)
  have g4 : Good (.list ([sumR phN n, sumR phN n, copN n, copN n].map PyData.int)) := good_ints (c := 14) (by intro x hx; unfold copN at hx; simp at hx; omega) (by decide) (by show (14 + 8) * 5 ≤ 16777216; decide)
  clear pb nb
  refine if_skip (Lv2 H a D n) (fun Q' hq => ?_) (fun H9 lv9 => ?_)
  · refine ⟨_, rfl, _, rfl, n, rfl, n1, by omega, fun H9 s9 => ⟨_, rfl, _, rfl, n, rfl, n1, by omega, fun H10 s10 => ⟨_, rfl, _, rfl, n, rfl, n1, by omega, fun H11 s11 => ⟨_, rfl, _, rfl, n, rfl, n1, by omega, fun H12 s12 => ⟨sz4, fun u hu => ⟨u, _, rfl, dp_ints (ns := [sumR phN n, sumR phN n, copN n, copN n]) (SqL.of upd_same), g4.showable, g4.noDict, g4.deep, g4.fits, ?_⟩⟩⟩⟩⟩⟩
    have lu := (lv8.same (((s9.trans s10).trans s11).trans s12)).same ((Same.refl _).new (o := .lst [.int (sumR phN n), .int (sumR phN n), .int (copN n), .int (copN n)]) hu)
    refine ⟨_, rfl, D, phI n, rfl, SqL.of lu.dt, sz1, fun u2 hu2 => ⟨u2, 2, _, rfl, rfl, upd_same, by decide, by decide, small_sz (by show 1 * 2 ≤ _; decide), fun u3 hu3 => ?_⟩⟩
    have l2 := lu.same ((Same.refl _).new (o := .lst [V.int (phI n).sum]) hu2)
    have l3 := l2.same ((Same.refl _).new (o := .lst (List.replicate (Int.toNat 2) [V.int (phI n).sum]).flatten) hu3)
    refine ⟨_, rfl, D, phI n, rfl, SqL.of l3.dt, _, _, rfl, rfl, c64, _, _, rfl, rfl, sz1, fun u4 hu4 => ⟨u4, 2, _, rfl, rfl, upd_same, by decide, by decide, small_sz (by show 1 * 2 ≤ _; decide), fun u5 hu5 => ?_⟩⟩
    have l4 := l3.same ((Same.refl _).new (o := .lst [V.int (2 * (phI n).sum - 1)]) hu4)
    have l5 := l4.same ((Same.refl _).new (o := .lst (List.replicate (Int.toNat 2) [V.int (2 * (phI n).sum - 1)]).flatten) hu5)
    refine ⟨u3, u5, _, _, rfl, rfl, (upd_ne (ne_of_none ((upd_ne (ne_of_none upd_same hu4)).trans upd_same) hu5)).trans ((upd_ne (ne_of_none upd_same hu4)).trans upd_same), upd_same, small_sz (by show 2 + 2 ≤ _; decide), fun w hw => ?_⟩
    have l6 := l5.same ((Same.refl _).new (o := .lst ((List.replicate (Int.toNat 2) [V.int (phI n).sum]).flatten ++ (List.replicate (Int.toNat 2) [V.int (2 * (phI n).sum - 1)]).flatten)) hw)
    refine ⟨w, _, rfl, dp_ints (ns := [sumR phN n, sumR phN n, copN n, copN n]) (SqL.of (upd_same.trans ?_)), g4.showable, g4.noDict, g4.deep, g4.fits, ?_⟩
    · rw [phI_sum]
      rfl
    · exact ⟨rfl, _, rfl, ne_same rfl (hq _ l6)⟩
  clear g4
  dsimp only [tNext, tSeq]
  -- small
  refine ⟨_, rfl, _, _, rfl, a, _, rfl, rfl, lv9.pot, by decide, by decide, fun d2 H10 e1 e2 g10 p10 => ?_⟩
  obtain ⟨d2, rfl⟩ := Int.eq_ofNat_of_zero_le e1
  have lv10 := lv9.grow g10 p10
  refine ⟨_, _, rfl, rfl, ?_⟩
  dsimp only []
  rw [show (1 : Int) + (d2 : Int) = ((d2 + 1 : Nat) : Int) by omega]
  obtain ⟨M, hM, M1, M2⟩ : ∃ n : Nat, d2 + 1 = n ∧ 1 ≤ n ∧ n ≤ 60 := ⟨d2 + 1, rfl, by omega, by omega⟩
  rw [hM]
  clear hM e1 e2 g10 p10
  dsimp only [gName]
  -- count
  refine ⟨_, rfl, _, _, rfl, rfl, _, _, rfl, ⟨by omega, by omega, by omega, by omega⟩, fun D2 hD2 => lc_range (lo := 1) (fun i H11 => Same H10 H11 ∧ ∃ ns : List Int, H11 D2 = some (.lst (ns.map V.int)) ∧ ns.length ≤ i ∧ ns.sum = sumR (fun a => sumR (fun b => if Nat.gcd a b = 1 then (1 : Int) else 0) M) i) ⟨(Same.refl _).new hD2, [], upd_same, Nat.le_refl 0, rfl⟩ ?_ ?_⟩
  · rintro i H11 hi ⟨s11, ns, eD, hl, hs⟩
    have hDn : H10 D2 = none := hD2
    have iM : i + 1 ≤ M := by omega
    have ci : (1 : Int) + (i : Int) = ((i + 1 : Nat) : Int) := by omega
    refine ⟨rfl, _, rfl, _, _, rfl, rfl, _, _, rfl, ⟨by omega, by omega, by omega, by omega⟩, fun D3 hD3 => lc_range (lo := 1) (fun j H12 => Same H11 H12 ∧ ∃ acc : List V, H12 D3 = some (.lst acc) ∧ acc.length ≤ j ∧ (acc.length : Int) = sumR (fun b => if Nat.gcd (i + 1) b = 1 then (1 : Int) else 0) j) ⟨(Same.refl _).new hD3, [], upd_same, Nat.le_refl 0, rfl⟩ ?_ ?_⟩
    · rintro j H12 hj ⟨s12, acc, e3, al, ap⟩
      have hDn3 : H11 D3 = none := hD3
      refine ⟨rfl, _, rfl, _, rfl, _, _, rfl, i + 1, j + 1, congrArg V.int ci, congrArg V.int (show (1 : Int) + (j : Int) = ((j + 1 : Nat) : Int) by omega), by omega, by omega, rfl, _, rfl, ite2 (fun hc => ?_) (fun hc => ?_)⟩
      · have hg1 : Nat.gcd (i + 1) (j + 1) = 1 := by
          have := V.int.inj (of_decide_eq_true hc)
          omega
        refine ⟨_, rfl, acc, e3, small_lt (by omega), s12.mut hDn3, _, upd_same, ?_, ?_⟩
        · rw [List.length_append]
          exact Nat.succ_le_succ al
        · rw [List.length_append, sumR, if_pos hg1, ← ap]
          show ((acc.length + 1 : Nat) : Int) = _
          omega
      · have hg1 : ¬ Nat.gcd (i + 1) (j + 1) = 1 := fun z => hc (decide_eq_true (by rw [z]; rfl))
        refine ⟨s12, acc, e3, by omega, ?_⟩
        rw [sumR, if_neg hg1, ← ap]
        omega
    · rintro H12 ⟨s12, acc, e3, al, ap⟩
      rw [show ((M : Int) + 1 - 1).toNat = M by omega] at al ap
      refine ⟨D3, acc, rfl, .inl (SqL.of e3), ns.map V.int, s12 _ _ eD, small_lt (by rw [List.length_map]; omega), (s11.trans s12).mut hDn, ns ++ [(acc.length : Int)], ?_, by rw [List.length_append]; exact Nat.succ_le_succ hl, ?_⟩
      · rw [upd_same, List.map_append]
        rfl
      · rw [sumR, List.sum_append, hs, ap]
        simp
  rintro H11 ⟨s11, ns, eD, hl, hs⟩
  rw [show ((M : Int) + 1 - 1).toNat = M by omega, couples_count, couples_sum M (Nat.le_refl M), if_neg (show ¬ M = 0 by omega)] at hs
  refine ⟨D2, ns, rfl, SqL.of eD, ?_⟩
  have lv11 := lv10.same s11
  rw [hs]
  clear hs hl eD s11 hD2
  dsimp only [gName, tSeq]
  refine if_skip (Lv2 H a D n) (fun Q' hq => ?_) (fun H12 lv12 => ?_)
  · exact ⟨_, rfl, _, rfl, M, rfl, by omega, by omega, fun H12 s12 => ⟨_, rfl, rfl, _, rfl, ne_same rfl (hq _ (lv11.same s12))⟩⟩
  dsimp only [tNext, tSeq]
  -- middle
  refine ⟨_, rfl, _, _, rfl, rfl, ⟨by decide, by decide, by decide⟩, _, _, rfl, rfl, c64, _, _, rfl, a, _, rfl, rfl, lv12.pot, by decide, by decide, fun d3 H13 e3 e4 g13 p13 => ?_⟩
  obtain ⟨d3, rfl⟩ := Int.eq_ofNat_of_zero_le e3
  rw [pow4] at e4
  have lv13 := lv12.grow g13 p13
  refine ⟨_, _, rfl, rfl, ?_⟩
  dsimp only []
  rw [show (2 : Int) + (d3 : Int) = ((d3 + 1 + 1 : Nat) : Int) by omega]
  obtain ⟨G, hG, G1, G2⟩ : ∃ n : Nat, d3 + 1 = n ∧ 1 ≤ n ∧ n ≤ 20001 := ⟨d3 + 1, rfl, by omega, by omega⟩
  rw [hG]
  clear hG e3 e4 g13 p13
  dsimp only [gName]
  have em : ((G + 1 : Nat) : Int) - 1 = (G : Int) := by omega
  refine if_skip (Lv2 H a D n) (fun Q' hq => ?_) (fun H14 lv14 => ?_)
  · refine ⟨_, rfl, _, rfl, G + 1, rfl, by omega, by omega, fun H14 s14 => ⟨_, rfl, _, _, rfl, rfl, _, rfl, G, congrArg V.int em, by omega, by omega, fun H15 s15 => ⟨_, _, rfl, rfl, _, rfl, _, rfl, G + 1, rfl, by omega, by omega, fun H16 s16 => ⟨rfl, _, rfl, ?_⟩⟩⟩⟩
    have e : sumR phN (G + 1) - sumR phN G = phN (G + 1) := by
      rw [sumR]
      omega
    exact ne_same (congrArg V.int e) (hq _ (((lv13.same s14).same s15).same s16))
  dsimp only [tNext, tSeq]
  -- one
  refine ⟨_, rfl, _, _, rfl, a, _, rfl, rfl, lv14.pot, by decide, by decide, fun d4 H15 e1 e2 g15 p15 => ?_⟩
  obtain ⟨d4, rfl⟩ := Int.eq_ofNat_of_zero_le e1
  have lv15 := lv14.grow g15 p15
  refine ⟨_, _, rfl, rfl, ?_⟩
  dsimp only []
  rw [show (1 : Int) + (d4 : Int) = ((d4 + 1 : Nat) : Int) by omega]
  obtain ⟨O, hO, O1, O2⟩ : ∃ n : Nat, d4 + 1 = n ∧ 1 ≤ n ∧ n ≤ 400 := ⟨d4 + 1, rfl, by omega, by omega⟩
  rw [hO]
  clear hO e1 e2 g15 p15
  dsimp only [gName]
  -- total
  refine ⟨_, rfl, _, _, rfl, rfl, _, _, rfl, ⟨by omega, by omega, by omega, by omega⟩, fun D2 hD2 => lc_range (lo := 1) (fun i H16 => Same H15 H16 ∧ ∃ ns : List Int, H16 D2 = some (.lst (ns.map V.int)) ∧ ns.length ≤ i ∧ ns.sum = sumR (fun k => (Nat.gcd O k : Nat)) i) ⟨(Same.refl _).new hD2, [], upd_same, Nat.le_refl 0, rfl⟩ ?_ ?_⟩
  · rintro i H16 hi ⟨s16, ns, eD, hl, hs⟩
    have hDn : H15 D2 = none := hD2
    refine ⟨rfl, _, rfl, _, rfl, _, _, rfl, O, i + 1, rfl, congrArg V.int (show (1 : Int) + (i : Int) = ((i + 1 : Nat) : Int) by omega), by omega, by omega, ns.map V.int, eD, small_lt (by rw [List.length_map]; omega), s16.mut hDn, ns ++ [((Nat.gcd O (i + 1) : Nat) : Int)], ?_, by rw [List.length_append]; exact Nat.succ_le_succ hl, ?_⟩
    · rw [upd_same, List.map_append]
      rfl
    · rw [sumR, List.sum_append, hs]
      simp
  rintro H16 ⟨s16, ns, eD, hl, hs⟩
  rw [show ((O : Int) + 1 - 1).toNat = O by omega, shares_sum O1] at hs
  refine ⟨D2, ns, rfl, SqL.of eD, ?_⟩
  have lv16 := lv15.same s16
  rw [hs]
  clear hs hl eD s16 hD2
  dsimp only [gName, tSeq]
  have hb : 0 ≤ hN O ∧ hN O ≤ 160000 := by
    rw [← shares_sum O1]
    have : ∀ k, 0 ≤ sumR (fun k => ((Nat.gcd O k : Nat) : Int)) k ∧ sumR (fun k => ((Nat.gcd O k : Nat) : Int)) k ≤ 400 * k := by
      intro k
      induction k with
      | zero => simp [sumR]
      | succ k ih =>
        have := Nat.gcd_le_left (k + 1) O1
        rw [sumR]
        omega
    have := this O
    omega
  have g2 : Good (.list ([hN O, hN O].map PyData.int)) := good_ints (c := 14) (by intro x hx; simp at hx; omega) (by decide) (by show (14 + 8) * 3 ≤ 16777216; decide)
  refine if_skip (Lv2 H a D n) (fun Q' hq => ?_) (fun H17 lv17 => ?_)
  · refine ⟨_, rfl, _, rfl, O, rfl, by omega, by omega, fun H17 s17 => ⟨_, rfl, _, rfl, O, rfl, by omega, by omega, fun H18 s18 => ⟨sz2, fun u hu => ⟨u, _, rfl, dp_ints (SqL.of upd_same), g2.showable, g2.noDict, g2.deep, g2.fits, ?_⟩⟩⟩⟩
    have lu := (lv16.same (s17.trans s18)).same ((Same.refl _).new (o := .lst [.int (hN O), .int (hN O)]) hu)
    refine ⟨_, rfl, _, rfl, sz2, fun w hw => ⟨w, _, rfl, dp_ints (SqL.of upd_same), g2.showable, g2.noDict, g2.deep, g2.fits, ?_⟩⟩
    have lw := lu.same ((Same.refl _).new (o := .lst [.int (hN O), .int (hN O)]) hw)
    refine ⟨rfl, _, rfl, ite2 (fun z => absurd z (not_self rfl)) (fun _ => ?_)⟩
    -- total != sum([..])
    refine ⟨_, rfl, _, rfl, _, rfl, O, rfl, by omega, by omega, fun r H19 ds s19 dv e19 => ?_⟩
    have l19 := lw.same s19
    refine ⟨r, rfl, ⟨_, SqL.of e19⟩, fun D3 hD3 => lc_list (K := K) (a := r) (xs := ds.map V.int) (fun i H20 => Same H19 H20 ∧ H20 D3 = some (.lst (((ds.take i).map fun x => x * phN (O / x.toNat)).map V.int))) ⟨(Same.refl _).new hD3, upd_same⟩ (fun i H20 _ z => SqL.of (z.1 _ _ e19)) ?_ ?_⟩
    · rintro i x H20 hx ⟨s20, eD3⟩
      rw [List.getElem?_map] at hx
      obtain ⟨y, hy, rfl⟩ := Option.map_eq_some_iff.mp hx
      obtain ⟨d, rfl, hd⟩ := dv.2 y (List.mem_of_getElem? hy)
      have hk : i < ds.length := (List.getElem?_eq_some_iff.mp hy).1
      have dl := dv.len
      have t2 := tau_2n O1
      have hDn3 : H19 D3 = none := hD3
      have d1 : 1 ≤ d := by
        rcases Nat.eq_zero_or_pos d with z | z
        · rw [z] at hd
          have := Nat.eq_zero_of_zero_dvd hd
          omega
        · exact z
      have od : 1 ≤ O / d ∧ O / d ≤ O := ⟨Nat.div_pos (Nat.le_of_dvd O1 hd) d1, Nat.div_le_self _ _⟩
      have dO := Nat.le_of_dvd O1 hd
      refine ⟨rfl, _, rfl, _, rfl, _, rfl, _, _, rfl, rfl, divw (by omega) (by omega), _, rfl, O / d, rfl, od.1, by omega, fun H21 s21 => ⟨_, _, rfl, rfl, mulc ⟨by omega, by omega⟩, _, s21 _ _ eD3, ?_, (s20.trans s21).mut hDn3, ?_⟩⟩
      · rw [List.length_map, List.length_map, List.length_take]
        exact small_lt (by omega)
      · rw [upd_same, List.take_add_one, hy]
        simp only [Option.toList, List.map_append, List.map_cons, List.map_nil]
        rfl
    · rintro H20 ⟨s20, eD3⟩
      rw [List.length_map, List.take_length] at eD3
      refine ⟨D3, _, rfl, SqL.of eD3, rfl, _, rfl, ?_⟩
      have e : hN O = (ds.map fun x => x * phN (O / x.toNat)).sum := by
        rw [dv.1]
        unfold hN
        rw [cs_turn _ O1]
        refine sumR_congr fun d _ _ => ?_
        simp only [Int.toNat_natCast]
      exact ne_same (congrArg V.int e) (hq _ (l19.same s20))
  clear g2 hb
  dsimp only [tNext, tSeq]
  -- great
  refine ⟨_, rfl, _, _, rfl, rfl, ⟨by decide, by decide, by decide⟩, _, _, rfl, a, _, rfl, rfl, lv17.pot, by decide, by decide, fun d5 H18 e1 e2 g18 p18 => ?_⟩
  obtain ⟨d5, rfl⟩ := Int.eq_ofNat_of_zero_le e1
  rw [pow9] at e2
  have lv18 := lv17.grow g18 p18
  refine ⟨_, _, rfl, rfl, ?_⟩
  dsimp only []
  rw [show (1 : Int) + (d5 : Int) = ((d5 + 1 : Nat) : Int) by omega]
  obtain ⟨T, hT, T1, T2⟩ : ∃ n : Nat, d5 + 1 = n ∧ 1 ≤ n ∧ n ≤ 1000000000 := ⟨d5 + 1, rfl, by omega, by omega⟩
  rw [hT]
  clear hT e1 e2 g18 p18
  dsimp only [gName]
  refine ⟨_, rfl, _, rfl, T, rfl, by omega, by omega, fun L p H19 hL s19 rp => ?_⟩
  obtain ⟨ts, e19, hl2, hi2⟩ := rows_of rp
  have lv19 := lv18.same s19
  refine ⟨p, rfl, ⟨_, SqL.of e19⟩, for_list (K := K) (a := p) (xs := ts.map V.ref) (fun i σ H' => ∃ y11 y12 y13 y14 : Option V, σ = [some (.ref a), some (.int (n : Int)), some (.ref l), some (.ref D), some (.int (M : Int)), some (.int (2 * sumR phN M - 1)), some (.int ((G + 1 : Nat) : Int)), some (.int (O : Int)), some (.int (hN O)), some (.int (T : Int)), some (.int (shL (L.take i) : Nat)), y11, y12, y13, y14, none, none, none] ∧ H' = H19) ⟨none, none, none, none, rfl, rfl⟩ (fun i σ H' _ ⟨_, _, _, _, _, z⟩ => by rw [z]; exact SqL.of e19) ?_ ?_⟩
  · rintro i v σ H20 hv ⟨y11, y12, y13, y14, rfl, rfl⟩
    rw [List.getElem?_map] at hv
    obtain ⟨t, ht, rfl⟩ := Option.map_eq_some_iff.mp hv
    obtain ⟨x, hx, et⟩ := hi2 i t ht
    obtain ⟨pr, many⟩ := x
    obtain ⟨b1, b2, b3, b4, b5⟩ := row_b hL (by omega) (List.mem_of_getElem? hx)
    have tk : L.take (i + 1) = L.take i ++ [(pr, many)] := by
      rw [List.take_add_one, hx]
      rfl
    have dT := mem_pow' L (List.mem_of_getElem? hx)
    rw [hL.2] at dT
    have pT := Nat.le_of_dvd T1 dT
    have p1 : pr ^ 1 ≤ pr ^ many := Nat.pow_le_pow_right (by omega) b2
    rw [Nat.pow_one] at p1
    have b6 : (many + 1) * pr ≤ 41 * 1000000000 := Nat.mul_le_mul (by omega) (by omega)
    have b7 : many ≤ (many + 1) * pr := Nat.le_trans (by omega) (Nat.le_mul_of_pos_right (many + 1) (by omega))
    have e2 : ((many : Int) + 1) * (pr : Int) - (many : Int) = (((many + 1) * pr - many : Nat) : Int) := by
      rw [Int.ofNat_sub b7, Int.natCast_mul]
      rfl
    have b8 : ((many + 1) * pr - many) * pr ^ (many - 1) ≤ 41 * 1000000000 := by
      have h1 : ((many + 1) * pr - many) * pr ^ (many - 1) ≤ ((many + 1) * pr) * pr ^ (many - 1) := Nat.mul_le_mul_right _ (Nat.sub_le _ _)
      have h2 : ((many + 1) * pr) * pr ^ (many - 1) = (many + 1) * pr ^ many := by
        obtain ⟨f, rfl⟩ : ∃ f, many = f + 1 := ⟨many - 1, by omega⟩
        rw [Nat.add_sub_cancel, Nat.pow_succ, Nat.mul_assoc, Nat.mul_comm pr]
      have h3 : (many + 1) * pr ^ many ≤ 41 * 1000000000 := Nat.mul_le_mul (by omega) (by omega)
      omega
    refine ⟨t, _, rfl, SqT.of et, rfl, _, _, rfl, _, _, rfl, rfl, ?_⟩
    refine ⟨_, rfl, _, _, rfl, rfl, _, rfl, _, _, rfl, rfl, mulc ⟨by omega, by omega⟩, _, rfl, _, _, rfl, rfl, ?_⟩
    dsimp only [gName]
    rw [e2]
    generalize hw : (many + 1) * pr - many = w at b8 e2 ⊢
    refine ⟨_, rfl, _, _, rfl, rfl, _, rfl, by omega, by omega, for_range (lo := 0) (fun j σ H' => ∃ y14 : Option V, σ = [some (.ref a), some (.int (n : Int)), some (.ref l), some (.ref D), some (.int (M : Int)), some (.int (2 * sumR phN M - 1)), some (.int ((G + 1 : Nat) : Int)), some (.int (O : Int)), some (.int (hN O)), some (.int (T : Int)), some (.int (shL (L.take i) : Nat)), some (.int (pr : Int)), some (.int (many : Int)), some (.int (w * pr ^ j : Nat)), y14, none, none, none] ∧ H' = H20) ⟨y14, ?_, rfl⟩ ?_ ?_⟩
    · rw [Nat.pow_zero, Nat.mul_one]
      rfl
    · rintro j σ H21 hj ⟨z14, rfl, rfl⟩
      refine ⟨_, rfl, _, rfl, _, _, rfl, rfl, mulc' ⟨by omega, by omega⟩, some (.int (0 + (j : Int))), ?_, rfl⟩
      rw [Nat.pow_succ, ← Nat.mul_assoc, Int.natCast_mul _ pr]
      rfl
    · rintro σ H21 ⟨z14, rfl, rfl⟩
      rw [show ((many : Int) - 1).toNat = many - 1 by omega]
      refine ⟨_, rfl, _, rfl, _, _, rfl, rfl, mulc' ⟨Int.natCast_nonneg _, Int.le_trans (Int.ofNat_le.mpr b8) (by decide)⟩, some (.int (pr : Int)), some (.int (many : Int)), some (.int (w * pr ^ (many - 1) : Nat)), z14, ?_, rfl⟩
      have e3 : shL (L.take (i + 1)) = shL (L.take i) * (w * pr ^ (many - 1)) := by
        rw [tk, shL_snoc, Nat.mul_assoc, Nat.mul_comm (pr ^ (many - 1)), hw]
      rw [e3, Int.natCast_mul]
      rfl
  rintro σ H20 ⟨y11, y12, y13, y14, rfl, rfl⟩
  rw [List.length_map, hl2, List.take_length, ← sh_fac hL]
  clear hi2 e19 rp
  dsimp only [tSeq]
  refine if_skip (Lv2 H a D n) (fun Q' hq => ?_) (fun H21 lv21 => ?_)
  · exact ⟨_, rfl, _, rfl, T, rfl, by omega, by omega, fun H21 s21 => ⟨_, rfl, rfl, _, rfl, ne_same rfl (hq _ (lv19.same s21))⟩⟩
  dsimp only [tNext, tSeq]
  -- other
  refine ⟨_, rfl, _, _, rfl, a, _, rfl, rfl, lv21.pot, by decide, by decide, fun d6 H22 e1 e2 g22 p22 => ?_⟩
  obtain ⟨d6, rfl⟩ := Int.eq_ofNat_of_zero_le e1
  have lv22 := lv21.grow g22 p22
  refine ⟨_, _, rfl, rfl, ?_⟩
  dsimp only []
  rw [show (1 : Int) + (d6 : Int) = ((d6 + 1 : Nat) : Int) by omega]
  obtain ⟨W, hW, W1, W2⟩ : ∃ n : Nat, d6 + 1 = n ∧ 1 ≤ n ∧ n ≤ 900 := ⟨d6 + 1, rfl, by omega, by omega⟩
  rw [hW]
  clear hW e1 e2 g22 p22
  dsimp only [gName]
  refine if_skip (Lv2 H a D n) (fun Q' hq => ?_) (fun H23 lv23 => ?_)
  · refine ⟨_, rfl, _, rfl, _, _, rfl, T, W, rfl, rfl, by omega, by omega, by omega, by omega, rfl, _, rfl, ite2 (fun hc => ?_) (fun _ => hq _ lv22)⟩
    have hg1 : Nat.gcd T W = 1 := by
      have := V.int.inj (of_decide_eq_true hc)
      omega
    have tw : T * W ≤ 1000000000 * 900 := Nat.mul_le_mul T2 W2
    have tw1 : 1 ≤ T * W := Nat.mul_pos T1 W1
    have twc : (T : Int) * (W : Int) = ((T * W : Nat) : Int) := by rw [Int.natCast_mul]
    have mm := h_coprime T1 W1 hg1
    have hWb : 0 ≤ hN W ∧ hN W ≤ 810000 := by
      rw [← shares_sum W1]
      have : ∀ k, 0 ≤ sumR (fun k => ((Nat.gcd W k : Nat) : Int)) k ∧ sumR (fun k => ((Nat.gcd W k : Nat) : Int)) k ≤ 900 * k := by
        intro k
        induction k with
        | zero => simp [sumR]
        | succ k ih =>
          have := Nat.gcd_le_left (k + 1) W1
          rw [sumR]
          omega
      have := this W
      omega
    refine ⟨_, rfl, _, rfl, _, _, rfl, rfl, mulc ⟨by omega, by omega⟩, _, rfl, T * W, congrArg V.int twc, tw1, by omega, fun H23 s23 => ⟨_, rfl, _, rfl, _, rfl, W, rfl, by omega, by omega, fun H24 s24 => ⟨_, _, rfl, rfl, mulc' ⟨by omega, by omega⟩, rfl, _, rfl, ne_same (congrArg V.int mm) (hq _ (lv22.same (s23.trans s24)))⟩⟩⟩
  dsimp only [tNext, tSeq]
  -- share_frees(number).append(None)
  refine ⟨_, rfl, _, rfl, n, rfl, n1, by omega, fun p4 H24 s24 hp4 e24 => ⟨.inl ⟨rfl, _, SqL.of e24⟩, p4, _, _, rfl, rfl, e24, small_lt (by simp; omega), ?_⟩⟩
  have lv24 := lv23.same (s24.mut (o := .lst ((List.range n).map (fun i => V.int (phN (i + 1))) ++ [V.non])) hp4)
  generalize upd H24 p4 (.lst ((List.range n).map (fun i => V.int (phN (i + 1))) ++ [V.non])) = H25 at lv24 ⊢
  -- what is told
  have gd : Good (.list ((phI n).map PyData.int)) := good_ints (c := 14) (phI_small n2) (by decide) (by rw [phI_len]; omega)
  refine ⟨_, rfl, _, rfl, n, rfl, n1, by omega, fun p5 H26 s26 hp5 e26 => ?_⟩
  rw [phI_V] at e26
  have lv26 := lv24.same s26
  refine ⟨_, rfl, _, _, dp_ints (SqL.of e26), dp_ints (SqL.of lv26.dt), gd.shaped, gd.shaped, _, rfl, ite2 (fun _ => ?_) (fun z => absurd gd.refl z)⟩
  have g3 : Good (.list (([32, 3044, 30397486] : List Int).map PyData.int)) := good_ints (c := 14) (by decide) (by decide) (by decide)
  refine ⟨_, rfl, 10, rfl, by decide, by decide, fun H27 s27 => ⟨_, rfl, 100, rfl, by decide, by decide, fun H28 s28 => ⟨_, _, rfl, rfl, ⟨by decide, by decide, by decide⟩, _, rfl, 10000, congrArg V.int pow4, by decide, by decide, fun H29 s29 => ?_⟩⟩⟩
  rw [free_10, free_100, free_10000]
  refine ⟨sz3, fun u hu => ⟨sz3, fun w hw => ⟨_, _, dp_ints (ns := [32, 3044, 30397486]) (SqL.of ((upd_ne (ne_of_none upd_same hw)).trans upd_same)), dp_ints (ns := [32, 3044, 30397486]) (SqL.of upd_same), g3.shaped, g3.shaped, ?_⟩⟩⟩
  rw [g3.refl]
  exact q _ (((lv26.same ((s27.trans s28).trans s29)).same ((Same.refl _).new (o := .lst [.int 32, .int 3044, .int 30397486]) hu)).same ((Same.refl _).new (o := .lst [.int 32, .int 3044, .int 30397486]) hw)).gr

end
end M
namespace M
open PySem PySem.Spec PyProof.Rows L2 G
section
variable {P : Program} {w : World} {K : PySem.W.Frag} {mg : Str → Option Value} {base : Heap}
/-! the law: one pot -/
def sp_law (K : PySem.W.Frag) : Sp := spec1 fun x H Q _ => ∃ (l : Addr) (ns : List Int), x = .ref l ∧ SqL K H l (ns.map V.int) ∧ ns.length ≤ 63 ∧ ∀ H', Q (.bl true) H'
theorem ok_law {af : Addr} {fd : FuncData} (F : FunD K "law" "law" (defArgs s_law) (defBody s_law) (defScope s_law) [] [] af fd) (B : Bt mg) (C__law_right : Cl P w K mg base 6 "_law_right" 1 [] (sp__law_right K)) (C__law_pot : Cl P w K mg base 1 "_law_pot" 2 [] (sp__law_pot K)) : FnG P w K mg base CX0 7 af fd ["script"] (sp_law K) := by
  refine okG F sc_law ar1 fun cdv A outer s H vs Q E hg hr h => ?_
  refine ⟨_, PSs.nox (pss_one (ps_ret (pe_cl C__law_right hg hr (by decide) rfl (pa_cons (pe_cl C__law_pot hg hr (by decide) rfl (pa_cons (pv 0) (pa_cons pe_int pa_nil))) pa_nil)))), ?_⟩
  obtain ⟨_, rfl, l, ns, rfl, hS, hn, q⟩ := h
  exact ⟨_, rfl, _, _, rfl, l, ns, 0, rfl, rfl, hS, by decide, fun a H3 s3 ha hp => ⟨_, rfl, a, rfl, hp, fun H4 g4 => q _⟩⟩
theorem law_ends (H : Hp) (a : Addr) (ns : List Int) (hl : ns.length ≤ 63) (hS : SqL K H a (ns.map V.int)) : sp_law K [.ref a] H (fun v _ => v = .bl true) E0 :=
  ⟨_, rfl, a, ns, rfl, hS, hl, fun _ => rfl⟩

end
end M
namespace M
open PySem PySem.Spec PyProof.Rows L2 G
def d_is_integer : He.DefD := ⟨("is_integer", none), "is_integer", "is_integer", defArgs s_is_integer, defBody s_is_integer, defScope s_is_integer, [], []⟩
def d_is_count : He.DefD := ⟨("is_count", none), "is_count", "is_count", defArgs s_is_count, defBody s_is_count, defScope s_is_count, [], []⟩
def d_want_many : He.DefD := ⟨("want_many", none), "want_many", "want_many", defArgs s_want_many, defBody s_want_many, defScope s_want_many, [.int 0], []⟩
def d_is_number_of : He.DefD := ⟨("is_number_of", none), "is_number_of", "is_number_of", defArgs s_is_number_of, defBody s_is_number_of, defScope s_is_number_of, [], []⟩
def d_want_number : He.DefD := ⟨("want_number", none), "want_number", "want_number", defArgs s_want_number, defBody s_want_number, defScope s_want_number, [], []⟩
def d_want_other_number : He.DefD := ⟨("want_other_number", none), "want_other_number", "want_other_number", defArgs s_want_other_number, defBody s_want_other_number, defScope s_want_other_number, [], []⟩
def d_share_of : He.DefD := ⟨("share_of", none), "share_of", "share_of", defArgs s_share_of, defBody s_share_of, defScope s_share_of, [], []⟩
def d_power_of : He.DefD := ⟨("power_of", none), "power_of", "power_of", defArgs s_power_of, defBody s_power_of, defScope s_power_of, [], []⟩
def d_powers_of : He.DefD := ⟨("powers_of", none), "powers_of", "powers_of", defArgs s_powers_of, defBody s_powers_of, defScope s_powers_of, [], []⟩
def d_divisors_by : He.DefD := ⟨("divisors_by", none), "divisors_by", "divisors_by", defArgs s_divisors_by, defBody s_divisors_by, defScope s_divisors_by, [], []⟩
def d_divisors_of : He.DefD := ⟨("divisors_of", none), "divisors_of", "divisors_of", defArgs s_divisors_of, defBody s_divisors_of, defScope s_divisors_of, [], []⟩
def d_primes_to : He.DefD := ⟨("primes_to", none), "primes_to", "primes_to", defArgs s_primes_to, defBody s_primes_to, defScope s_primes_to, [], []⟩
def d_share : He.DefD := ⟨("share", none), "share", "share", defArgs s_share, defBody s_share, defScope s_share, [], []⟩
def d_powers : He.DefD := ⟨("powers", none), "powers", "powers", defArgs s_powers, defBody s_powers, defScope s_powers, [], []⟩
def d_divisors : He.DefD := ⟨("divisors", none), "divisors", "divisors", defArgs s_divisors, defBody s_divisors, defScope s_divisors, [], []⟩
def d_signs_to : He.DefD := ⟨("signs_to", none), "signs_to", "signs_to", defArgs s_signs_to, defBody s_signs_to, defScope s_signs_to, [], []⟩
def d_couples_to : He.DefD := ⟨("couples_to", none), "couples_to", "couples_to", defArgs s_couples_to, defBody s_couples_to, defScope s_couples_to, [], []⟩
def d_shares_at : He.DefD := ⟨("shares_at", none), "shares_at", "shares_at", defArgs s_shares_at, defBody s_shares_at, defScope s_shares_at, [], []⟩
def d_free_couples : He.DefD := ⟨("free_couples", none), "free_couples", "free_couples", defArgs s_free_couples, defBody s_free_couples, defScope s_free_couples, [], []⟩
def d_share_free_sum : He.DefD := ⟨("share_free_sum", none), "share_free_sum", "share_free_sum", defArgs s_share_free_sum, defBody s_share_free_sum, defScope s_share_free_sum, [], []⟩
def d_share_sum : He.DefD := ⟨("share_sum", none), "share_sum", "share_sum", defArgs s_share_sum, defBody s_share_sum, defScope s_share_sum, [], []⟩
def d_free_count : He.DefD := ⟨("free_count", none), "free_count", "free_count", defArgs s_free_count, defBody s_free_count, defScope s_free_count, [], []⟩
def d_share_free : He.DefD := ⟨("share_free", none), "share_free", "share_free", defArgs s_share_free, defBody s_share_free, defScope s_share_free, [], []⟩
def d_frees_of : He.DefD := ⟨("frees_of", none), "frees_of", "frees_of", defArgs s_frees_of, defBody s_frees_of, defScope s_frees_of, [], []⟩
def d_want_some : He.DefD := ⟨("want_some", none), "want_some", "want_some", defArgs s_want_some, defBody s_want_some, defScope s_want_some, [], []⟩
def d_share_frees : He.DefD := ⟨("share_frees", none), "share_frees", "share_frees", defArgs s_share_frees, defBody s_share_frees, defScope s_share_frees, [], []⟩
def d__law_pot : He.DefD := ⟨("_law_pot", none), "_law_pot", "_law_pot", defArgs s__law_pot, defBody s__law_pot, defScope s__law_pot, [], []⟩
def d__law_draw : He.DefD := ⟨("_law_draw", none), "_law_draw", "_law_draw", defArgs s__law_draw, defBody s__law_draw, defScope s__law_draw, [], []⟩
def d__law_pick : He.DefD := ⟨("_law_pick", none), "_law_pick", "_law_pick", defArgs s__law_pick, defBody s__law_pick, defScope s__law_pick, [], []⟩
def d__law_share : He.DefD := ⟨("_law_share", none), "_law_share", "_law_share", defArgs s__law_share, defBody s__law_share, defScope s__law_share, [], []⟩
def d__law_least : He.DefD := ⟨("_law_least", none), "_law_least", "_law_least", defArgs s__law_least, defBody s__law_least, defScope s__law_least, [], []⟩
def d__law_powers : He.DefD := ⟨("_law_powers", none), "_law_powers", "_law_powers", defArgs s__law_powers, defBody s__law_powers, defScope s__law_powers, [], []⟩
def d__law_sign : He.DefD := ⟨("_law_sign", none), "_law_sign", "_law_sign", defArgs s__law_sign, defBody s__law_sign, defScope s__law_sign, [], []⟩
def d__law_free : He.DefD := ⟨("_law_free", none), "_law_free", "_law_free", defArgs s__law_free, defBody s__law_free, defScope s__law_free, [], []⟩
def d__law_count : He.DefD := ⟨("_law_count", none), "_law_count", "_law_count", defArgs s__law_count, defBody s__law_count, defScope s__law_count, [], []⟩
def d__law_sum : He.DefD := ⟨("_law_sum", none), "_law_sum", "_law_sum", defArgs s__law_sum, defBody s__law_sum, defScope s__law_sum, [], []⟩
def d__law_right : He.DefD := ⟨("_law_right", none), "_law_right", "_law_right", defArgs s__law_right, defBody s__law_right, defScope s__law_right, [], []⟩
def d_law : He.DefD := ⟨("law", none), "law", "law", defArgs s_law, defBody s_law, defScope s_law, [], []⟩
def fn : List He.DefD := [d_is_integer, d_is_count, d_want_many, d_is_number_of, d_want_number, d_want_other_number, d_share_of, d_power_of, d_powers_of, d_divisors_by, d_divisors_of, d_primes_to, d_share, d_powers, d_divisors, d_signs_to, d_couples_to, d_shares_at, d_free_couples, d_share_free_sum, d_share_sum, d_free_count, d_share_free, d_frees_of, d_want_some, d_share_frees, d__law_pot, d__law_draw, d__law_pick, d__law_share, d__law_least, d__law_powers, d__law_sign, d__law_free, d__law_count, d__law_sum, d__law_right, d_law]
def fa : List He.Fa := [.glo "is_integer", .glo "is_count", .glo "want_many", .glo "is_number_of", .glo "want_number", .glo "want_other_number", .glo "share_of", .glo "power_of", .glo "powers_of", .glo "divisors_by", .glo "divisors_of", .glo "primes_to", .glo "share", .glo "powers", .glo "divisors", .glo "signs_to", .glo "couples_to", .glo "shares_at", .glo "free_couples", .glo "share_free_sum", .glo "share_sum", .glo "free_count", .glo "share_free", .glo "frees_of", .glo "want_some", .glo "share_frees", .glo "_law_pot", .glo "_law_draw", .glo "_law_pick", .glo "_law_share", .glo "_law_least", .glo "_law_powers", .glo "_law_sign", .glo "_law_free", .glo "_law_count", .glo "_law_sum", .glo "_law_right", .glo "law"] ++ btNames.map He.Fa.free ++ [.int "GREATEST" 1000000000000, .int "MOST_FREE" 1000000, .int "GREATEST_IN" 1000000, .int "MOST_SIEVED" 20000]

def ex (K : PySem.W.Frag) : Bool := true
abbrev R : PySem.W.OpenRow := PySem.W.OpenLaw.row PySem.Challenge.rw_divisorsums_k94_whole_share_free_couples
abbrev hk : PySem.W.Hook := G.hookE 4 fa fn ex
def ob (s : PySem.W.SharedT) : G.AlE := G.obsE 4 fa fn ex (HandSHeadRun.getT s)
theorem ob_eq (s : PySem.W.SharedT) : ob s = hk.obs s.abs := G.obsE_eq (HandSHeadRun.getT_eq s)
def loose : List Str := [("is_integer" : Str), ("is_count" : Str), ("want_many" : Str), ("is_number_of" : Str), ("want_number" : Str), ("want_other_number" : Str), ("share_of" : Str), ("power_of" : Str), ("powers_of" : Str), ("divisors_by" : Str), ("divisors_of" : Str), ("primes_to" : Str), ("share" : Str), ("powers" : Str), ("divisors" : Str), ("signs_to" : Str), ("couples_to" : Str), ("shares_at" : Str), ("free_couples" : Str), ("share_free_sum" : Str), ("share_sum" : Str), ("free_count" : Str), ("share_free" : Str), ("frees_of" : Str), ("want_some" : Str), ("share_frees" : Str), ("_law_pot" : Str), ("_law_draw" : Str), ("_law_pick" : Str), ("_law_share" : Str), ("_law_least" : Str), ("_law_powers" : Str), ("_law_sign" : Str), ("_law_free" : Str), ("_law_count" : Str), ("_law_sum" : Str), ("_law_right" : Str), ("NumberError" : Str), ("InvalidNumber" : Str), ("InvalidOther" : Str), ("InvalidMany" : Str), ("GREATEST" : Str), ("MOST_FREE" : Str), ("GREATEST_IN" : Str), ("MOST_SIEVED" : Str)]
theorem run (w : World) : HandSHeadRun.RunEq R (PySem.W.view R.prog [52]) hk ob 4000 loose w := by
  intro os
  kernel_rfl
theorem facts {P : Program} {w : World} {K : PySem.W.Frag} {h : Heap} {mg : Str → Option Value} {f : Addr} (X : K.In h) (G0 : h.Ns mainGlobals mg) (hfa : mg ("law" : Str) = some (.ref f)) (c : He.SaysD fa fn K) (cx : ex K = true) :
    ∃ fd : FuncData, (∀ (s : Shared) (v : Value), BindsTo s fd ⟨[v], []⟩ [("script", v)]) ∧ ∀ base : Heap, K.In base → base.Ns mainGlobals mg → FnG P w K mg base CX0 7 f fd ["script"] (sp_law K) := by
  have B : Bt mg := Bt.of fun x hx => by
    exact He.free_ok X G0 (says_mem c (List.mem_append_left _ (List.mem_append_right _ (List.mem_map_of_mem hx))))
  obtain ⟨t_GREATEST, c_GREATEST⟩ := He.int_ok X G0 (c.fact 58 (f := .int "GREATEST" 1000000000000) rfl)
  obtain ⟨t_MOST_FREE, c_MOST_FREE⟩ := He.int_ok X G0 (c.fact 59 (f := .int "MOST_FREE" 1000000) rfl)
  obtain ⟨t_GREATEST_IN, c_GREATEST_IN⟩ := He.int_ok X G0 (c.fact 60 (f := .int "GREATEST_IN" 1000000) rfl)
  obtain ⟨t_MOST_SIEVED, c_MOST_SIEVED⟩ := He.int_ok X G0 (c.fact 61 (f := .int "MOST_SIEVED" 20000) rfl)
  obtain ⟨fd_is_integer, F_is_integer⟩ := c.def_ 0 (d := d_is_integer) rfl
  have m_is_integer := He.glo_ok X G0 (c.fact 0 (f := .glo "is_integer") rfl)
  obtain ⟨fd_is_count, F_is_count⟩ := c.def_ 1 (d := d_is_count) rfl
  have m_is_count := He.glo_ok X G0 (c.fact 1 (f := .glo "is_count") rfl)
  obtain ⟨fd_want_many, F_want_many⟩ := c.def_ 2 (d := d_want_many) rfl
  have m_want_many := He.glo_ok X G0 (c.fact 2 (f := .glo "want_many") rfl)
  obtain ⟨fd_is_number_of, F_is_number_of⟩ := c.def_ 3 (d := d_is_number_of) rfl
  have m_is_number_of := He.glo_ok X G0 (c.fact 3 (f := .glo "is_number_of") rfl)
  obtain ⟨fd_want_number, F_want_number⟩ := c.def_ 4 (d := d_want_number) rfl
  have m_want_number := He.glo_ok X G0 (c.fact 4 (f := .glo "want_number") rfl)
  obtain ⟨fd_want_other_number, F_want_other_number⟩ := c.def_ 5 (d := d_want_other_number) rfl
  have m_want_other_number := He.glo_ok X G0 (c.fact 5 (f := .glo "want_other_number") rfl)
  obtain ⟨fd_share_of, F_share_of⟩ := c.def_ 6 (d := d_share_of) rfl
  have m_share_of := He.glo_ok X G0 (c.fact 6 (f := .glo "share_of") rfl)
  obtain ⟨fd_power_of, F_power_of⟩ := c.def_ 7 (d := d_power_of) rfl
  have m_power_of := He.glo_ok X G0 (c.fact 7 (f := .glo "power_of") rfl)
  obtain ⟨fd_powers_of, F_powers_of⟩ := c.def_ 8 (d := d_powers_of) rfl
  have m_powers_of := He.glo_ok X G0 (c.fact 8 (f := .glo "powers_of") rfl)
  obtain ⟨fd_divisors_by, F_divisors_by⟩ := c.def_ 9 (d := d_divisors_by) rfl
  have m_divisors_by := He.glo_ok X G0 (c.fact 9 (f := .glo "divisors_by") rfl)
  obtain ⟨fd_divisors_of, F_divisors_of⟩ := c.def_ 10 (d := d_divisors_of) rfl
  have m_divisors_of := He.glo_ok X G0 (c.fact 10 (f := .glo "divisors_of") rfl)
  obtain ⟨fd_primes_to, F_primes_to⟩ := c.def_ 11 (d := d_primes_to) rfl
  have m_primes_to := He.glo_ok X G0 (c.fact 11 (f := .glo "primes_to") rfl)
  obtain ⟨fd_share, F_share⟩ := c.def_ 12 (d := d_share) rfl
  have m_share := He.glo_ok X G0 (c.fact 12 (f := .glo "share") rfl)
  obtain ⟨fd_powers, F_powers⟩ := c.def_ 13 (d := d_powers) rfl
  have m_powers := He.glo_ok X G0 (c.fact 13 (f := .glo "powers") rfl)
  obtain ⟨fd_divisors, F_divisors⟩ := c.def_ 14 (d := d_divisors) rfl
  have m_divisors := He.glo_ok X G0 (c.fact 14 (f := .glo "divisors") rfl)
  obtain ⟨fd_signs_to, F_signs_to⟩ := c.def_ 15 (d := d_signs_to) rfl
  have m_signs_to := He.glo_ok X G0 (c.fact 15 (f := .glo "signs_to") rfl)
  obtain ⟨fd_couples_to, F_couples_to⟩ := c.def_ 16 (d := d_couples_to) rfl
  have m_couples_to := He.glo_ok X G0 (c.fact 16 (f := .glo "couples_to") rfl)
  obtain ⟨fd_shares_at, F_shares_at⟩ := c.def_ 17 (d := d_shares_at) rfl
  have m_shares_at := He.glo_ok X G0 (c.fact 17 (f := .glo "shares_at") rfl)
  obtain ⟨fd_free_couples, F_free_couples⟩ := c.def_ 18 (d := d_free_couples) rfl
  have m_free_couples := He.glo_ok X G0 (c.fact 18 (f := .glo "free_couples") rfl)
  obtain ⟨fd_share_free_sum, F_share_free_sum⟩ := c.def_ 19 (d := d_share_free_sum) rfl
  have m_share_free_sum := He.glo_ok X G0 (c.fact 19 (f := .glo "share_free_sum") rfl)
  obtain ⟨fd_share_sum, F_share_sum⟩ := c.def_ 20 (d := d_share_sum) rfl
  have m_share_sum := He.glo_ok X G0 (c.fact 20 (f := .glo "share_sum") rfl)
  obtain ⟨fd_free_count, F_free_count⟩ := c.def_ 21 (d := d_free_count) rfl
  have m_free_count := He.glo_ok X G0 (c.fact 21 (f := .glo "free_count") rfl)
  obtain ⟨fd_share_free, F_share_free⟩ := c.def_ 22 (d := d_share_free) rfl
  have m_share_free := He.glo_ok X G0 (c.fact 22 (f := .glo "share_free") rfl)
  obtain ⟨fd_frees_of, F_frees_of⟩ := c.def_ 23 (d := d_frees_of) rfl
  have m_frees_of := He.glo_ok X G0 (c.fact 23 (f := .glo "frees_of") rfl)
  obtain ⟨fd_want_some, F_want_some⟩ := c.def_ 24 (d := d_want_some) rfl
  have m_want_some := He.glo_ok X G0 (c.fact 24 (f := .glo "want_some") rfl)
  obtain ⟨fd_share_frees, F_share_frees⟩ := c.def_ 25 (d := d_share_frees) rfl
  have m_share_frees := He.glo_ok X G0 (c.fact 25 (f := .glo "share_frees") rfl)
  obtain ⟨fd__law_pot, F__law_pot⟩ := c.def_ 26 (d := d__law_pot) rfl
  have m__law_pot := He.glo_ok X G0 (c.fact 26 (f := .glo "_law_pot") rfl)
  obtain ⟨fd__law_draw, F__law_draw⟩ := c.def_ 27 (d := d__law_draw) rfl
  have m__law_draw := He.glo_ok X G0 (c.fact 27 (f := .glo "_law_draw") rfl)
  obtain ⟨fd__law_pick, F__law_pick⟩ := c.def_ 28 (d := d__law_pick) rfl
  have m__law_pick := He.glo_ok X G0 (c.fact 28 (f := .glo "_law_pick") rfl)
  obtain ⟨fd__law_share, F__law_share⟩ := c.def_ 29 (d := d__law_share) rfl
  have m__law_share := He.glo_ok X G0 (c.fact 29 (f := .glo "_law_share") rfl)
  obtain ⟨fd__law_least, F__law_least⟩ := c.def_ 30 (d := d__law_least) rfl
  have m__law_least := He.glo_ok X G0 (c.fact 30 (f := .glo "_law_least") rfl)
  obtain ⟨fd__law_powers, F__law_powers⟩ := c.def_ 31 (d := d__law_powers) rfl
  have m__law_powers := He.glo_ok X G0 (c.fact 31 (f := .glo "_law_powers") rfl)
  obtain ⟨fd__law_sign, F__law_sign⟩ := c.def_ 32 (d := d__law_sign) rfl
  have m__law_sign := He.glo_ok X G0 (c.fact 32 (f := .glo "_law_sign") rfl)
  obtain ⟨fd__law_free, F__law_free⟩ := c.def_ 33 (d := d__law_free) rfl
  have m__law_free := He.glo_ok X G0 (c.fact 33 (f := .glo "_law_free") rfl)
  obtain ⟨fd__law_count, F__law_count⟩ := c.def_ 34 (d := d__law_count) rfl
  have m__law_count := He.glo_ok X G0 (c.fact 34 (f := .glo "_law_count") rfl)
  obtain ⟨fd__law_sum, F__law_sum⟩ := c.def_ 35 (d := d__law_sum) rfl
  have m__law_sum := He.glo_ok X G0 (c.fact 35 (f := .glo "_law_sum") rfl)
  obtain ⟨fd__law_right, F__law_right⟩ := c.def_ 36 (d := d__law_right) rfl
  have m__law_right := He.glo_ok X G0 (c.fact 36 (f := .glo "_law_right") rfl)
  obtain ⟨fd_law, F_law⟩ := c.def_ 37 (d := d_law) rfl
  have m_law := He.glo_ok X G0 (c.fact 37 (f := .glo "law") rfl)
  cases (hfa.symm.trans m_law)
  refine ⟨fd_law, fun s v => FunD.bindsA (ps := ["script"]) F_law (fun _ _ _ _ _ _ us hl => match us, hl with | [_], _ => rfl) s [v] rfl, fun base _ _ => ?_⟩
  have G__law_least := ok__law_least (P := P) (w := w) (base := base) F__law_least B  
  have C__law_least : Cl P w K mg base 1 "_law_least" 1 [] (sp__law_least K) := ⟨_, _, _, [], G__law_least, rfl, m__law_least, F__law_least.kp, FunD.bindsN (ps := ["most"]) F__law_least (fun _ _ _ _ _ _ us hl => match us, hl with | [_], _ => rfl), .nil⟩
  have G_is_integer := ok_is_integer (P := P) (w := w) (base := base) F_is_integer B  
  have C_is_integer : Cl P w K mg base 1 "is_integer" 1 [] (sp_is_integer K) := ⟨_, _, _, [], G_is_integer, rfl, m_is_integer, F_is_integer.kp, FunD.bindsN (ps := ["value"]) F_is_integer (fun _ _ _ _ _ _ us hl => match us, hl with | [_], _ => rfl), .nil⟩
  have G_is_number_of := ok_is_number_of (P := P) (w := w) (base := base) F_is_number_of B C_is_integer 
  have C_is_number_of : Cl P w K mg base 2 "is_number_of" 2 [] (sp_is_number_of K) := ⟨_, _, _, [], G_is_number_of, rfl, m_is_number_of, F_is_number_of.kp, FunD.bindsN (ps := ["value", "most"]) F_is_number_of (fun _ _ _ _ _ _ us hl => match us, hl with | [_, _], _ => rfl), .nil⟩
  have G_want_number := ok_want_number (P := P) (w := w) (base := base) F_want_number B C_is_number_of 
  have C_want_number : Cl P w K mg base 3 "want_number" 2 [] (sp_want_number K) := ⟨_, _, _, [], G_want_number, rfl, m_want_number, F_want_number.kp, FunD.bindsN (ps := ["value", "most"]) F_want_number (fun _ _ _ _ _ _ us hl => match us, hl with | [_, _], _ => rfl), .nil⟩
  have G_powers_of := ok_powers_of (P := P) (w := w) (base := base) F_powers_of B  
  have C_powers_of : Cl P w K mg base 1 "powers_of" 1 [] (sp_powers_of K) := ⟨_, _, _, [], G_powers_of, rfl, m_powers_of, F_powers_of.kp, FunD.bindsN (ps := ["number"]) F_powers_of (fun _ _ _ _ _ _ us hl => match us, hl with | [_], _ => rfl), .nil⟩
  have G_powers := ok_powers (P := P) (w := w) (base := base) F_powers B C_want_number C_powers_of c_GREATEST 
  have C_powers : Cl P w K mg base 4 "powers" 1 [] (sp_powers K) := ⟨_, _, _, [], G_powers, rfl, m_powers, F_powers.kp, FunD.bindsN (ps := ["number"]) F_powers (fun _ _ _ _ _ _ us hl => match us, hl with | [_], _ => rfl), .nil⟩
  have G__law_draw := ok__law_draw (P := P) (w := w) (base := base) F__law_draw B  
  have C__law_draw : Cl P w K mg base 1 "_law_draw" 2 [] (sp__law_draw K) := ⟨_, _, _, [], G__law_draw, rfl, m__law_draw, F__law_draw.kp, FunD.bindsN (ps := ["pot", "many"]) F__law_draw (fun _ _ _ _ _ _ us hl => match us, hl with | [_, _], _ => rfl), .nil⟩
  have G__law_free := ok__law_free (P := P) (w := w) (base := base) F__law_free B  
  have C__law_free : Cl P w K mg base 1 "_law_free" 1 [] (sp__law_free K) := ⟨_, _, _, [], G__law_free, rfl, m__law_free, F__law_free.kp, FunD.bindsN (ps := ["rows"]) F__law_free (fun _ _ _ _ _ _ us hl => match us, hl with | [_], _ => rfl), .nil⟩
  have G_signs_to := ok_signs_to (P := P) (w := w) (base := base) F_signs_to B  
  have C_signs_to : Cl P w K mg base 1 "signs_to" 1 [] (sp_signs_to K) := ⟨_, _, _, [], G_signs_to, rfl, m_signs_to, F_signs_to.kp, FunD.bindsN (ps := ["most"]) F_signs_to (fun _ _ _ _ _ _ us hl => match us, hl with | [_], _ => rfl), .nil⟩
  have G_couples_to := ok_couples_to (P := P) (w := w) (base := base) F_couples_to B C_signs_to 
  have C_couples_to : Cl P w K mg base 2 "couples_to" 1 [] (sp_couples_to K) := ⟨_, _, _, [], G_couples_to, rfl, m_couples_to, F_couples_to.kp, FunD.bindsN (ps := ["number"]) F_couples_to (fun _ _ _ _ _ _ us hl => match us, hl with | [_], _ => rfl), .nil⟩
  have G_free_couples := ok_free_couples (P := P) (w := w) (base := base) F_free_couples B C_want_number C_couples_to c_MOST_FREE 
  have C_free_couples : Cl P w K mg base 4 "free_couples" 1 [] (sp_free_couples K) := ⟨_, _, _, [], G_free_couples, rfl, m_free_couples, F_free_couples.kp, FunD.bindsN (ps := ["number"]) F_free_couples (fun _ _ _ _ _ _ us hl => match us, hl with | [_], _ => rfl), .nil⟩
  have C_free_couples_number : Clk P w K mg base 4 "free_couples" ["number"] (fun zs => [zs.getD 0 .non]) (sp_free_couples K) := by
    have to := FunD.kwOnly (ps := ["number"]) (ks := ["number"]) (g := fun ws => [ws.getD 0 .none]) F_free_couples fun _ _ _ _ _ _ ws hl => match ws, hl with | [_], _ => rfl
    exact ⟨_, _, _, fun ws => [ws.getD 0 .none], G_free_couples, m_free_couples, F_free_couples.kp, to, fun {zs ws} r => .cons (vals_getD r 0) .nil⟩
  have G_free_count := ok_free_count (P := P) (w := w) (base := base) F_free_count B C_powers_of 
  have C_free_count : Cl P w K mg base 2 "free_count" 1 [] (sp_free_count K) := ⟨_, _, _, [], G_free_count, rfl, m_free_count, F_free_count.kp, FunD.bindsN (ps := ["number"]) F_free_count (fun _ _ _ _ _ _ us hl => match us, hl with | [_], _ => rfl), .nil⟩
  have G_share_free := ok_share_free (P := P) (w := w) (base := base) F_share_free B C_free_count C_is_number_of c_GREATEST_IN 
  have C_share_free : Cl P w K mg base 3 "share_free" 1 [] (sp_share_free K) := ⟨_, _, _, [], G_share_free, rfl, m_share_free, F_share_free.kp, FunD.bindsN (ps := ["number"]) F_share_free (fun _ _ _ _ _ _ us hl => match us, hl with | [_], _ => rfl), .nil⟩
  have G_power_of := ok_power_of (P := P) (w := w) (base := base) F_power_of B  
  have C_power_of : Cl P w K mg base 1 "power_of" 2 [] (sp_power_of K) := ⟨_, _, _, [], G_power_of, rfl, m_power_of, F_power_of.kp, FunD.bindsN (ps := ["base", "many"]) F_power_of (fun _ _ _ _ _ _ us hl => match us, hl with | [_, _], _ => rfl), .nil⟩
  have G_shares_at := ok_shares_at (P := P) (w := w) (base := base) F_shares_at B C_powers_of C_power_of 
  have C_shares_at : Cl P w K mg base 2 "shares_at" 1 [] (sp_shares_at K) := ⟨_, _, _, [], G_shares_at, rfl, m_shares_at, F_shares_at.kp, FunD.bindsN (ps := ["number"]) F_shares_at (fun _ _ _ _ _ _ us hl => match us, hl with | [_], _ => rfl), .nil⟩
  have G_share_sum := ok_share_sum (P := P) (w := w) (base := base) F_share_sum B C_want_number C_shares_at c_GREATEST 
  have C_share_sum : Cl P w K mg base 4 "share_sum" 1 [] (sp_share_sum K) := ⟨_, _, _, [], G_share_sum, rfl, m_share_sum, F_share_sum.kp, FunD.bindsN (ps := ["number"]) F_share_sum (fun _ _ _ _ _ _ us hl => match us, hl with | [_], _ => rfl), .nil⟩
  have C_share_sum_number : Clk P w K mg base 4 "share_sum" ["number"] (fun zs => [zs.getD 0 .non]) (sp_share_sum K) := by
    have to := FunD.kwOnly (ps := ["number"]) (ks := ["number"]) (g := fun ws => [ws.getD 0 .none]) F_share_sum fun _ _ _ _ _ _ ws hl => match ws, hl with | [_], _ => rfl
    exact ⟨_, _, _, fun ws => [ws.getD 0 .none], G_share_sum, m_share_sum, F_share_sum.kp, to, fun {zs ws} r => .cons (vals_getD r 0) .nil⟩
  have G__law_pick := ok__law_pick (P := P) (w := w) (base := base) F__law_pick B C__law_draw 
  have C__law_pick : Cl P w K mg base 2 "_law_pick" 2 [] (sp__law_pick K) := ⟨_, _, _, [], G__law_pick, rfl, m__law_pick, F__law_pick.kp, FunD.bindsN (ps := ["pot", "some"]) F__law_pick (fun _ _ _ _ _ _ us hl => match us, hl with | [_, _], _ => rfl), .nil⟩
  have G__law_powers := ok__law_powers (P := P) (w := w) (base := base) F__law_powers B  
  have C__law_powers : Cl P w K mg base 1 "_law_powers" 2 [] (sp__law_powers K) := ⟨_, _, _, [], G__law_powers, rfl, m__law_powers, F__law_powers.kp, FunD.bindsN (ps := ["number", "least"]) F__law_powers (fun _ _ _ _ _ _ us hl => match us, hl with | [_, _], _ => rfl), .nil⟩
  have G_share_free_sum := ok_share_free_sum (P := P) (w := w) (base := base) F_share_free_sum B C_want_number C_couples_to c_MOST_FREE 
  have C_share_free_sum : Cl P w K mg base 4 "share_free_sum" 1 [] (sp_share_free_sum K) := ⟨_, _, _, [], G_share_free_sum, rfl, m_share_free_sum, F_share_free_sum.kp, FunD.bindsN (ps := ["number"]) F_share_free_sum (fun _ _ _ _ _ _ us hl => match us, hl with | [_], _ => rfl), .nil⟩
  have C_share_free_sum_number : Clk P w K mg base 4 "share_free_sum" ["number"] (fun zs => [zs.getD 0 .non]) (sp_share_free_sum K) := by
    have to := FunD.kwOnly (ps := ["number"]) (ks := ["number"]) (g := fun ws => [ws.getD 0 .none]) F_share_free_sum fun _ _ _ _ _ _ ws hl => match ws, hl with | [_], _ => rfl
    exact ⟨_, _, _, fun ws => [ws.getD 0 .none], G_share_free_sum, m_share_free_sum, F_share_free_sum.kp, to, fun {zs ws} r => .cons (vals_getD r 0) .nil⟩
  have G__law_share := ok__law_share (P := P) (w := w) (base := base) F__law_share B  
  have C__law_share : Cl P w K mg base 1 "_law_share" 2 [] (sp__law_share K) := ⟨_, _, _, [], G__law_share, rfl, m__law_share, F__law_share.kp, FunD.bindsN (ps := ["near", "far"]) F__law_share (fun _ _ _ _ _ _ us hl => match us, hl with | [_, _], _ => rfl), .nil⟩
  have G_want_other_number := ok_want_other_number (P := P) (w := w) (base := base) F_want_other_number B C_is_number_of 
  have C_want_other_number : Cl P w K mg base 3 "want_other_number" 2 [] (sp_want_other_number K) := ⟨_, _, _, [], G_want_other_number, rfl, m_want_other_number, F_want_other_number.kp, FunD.bindsN (ps := ["value", "most"]) F_want_other_number (fun _ _ _ _ _ _ us hl => match us, hl with | [_, _], _ => rfl), .nil⟩
  have G_share_of := ok_share_of (P := P) (w := w) (base := base) F_share_of B  
  have C_share_of : Cl P w K mg base 1 "share_of" 2 [] (sp_share_of K) := ⟨_, _, _, [], G_share_of, rfl, m_share_of, F_share_of.kp, FunD.bindsN (ps := ["near", "far"]) F_share_of (fun _ _ _ _ _ _ us hl => match us, hl with | [_, _], _ => rfl), .nil⟩
  have G_share := ok_share (P := P) (w := w) (base := base) F_share B C_want_number C_want_other_number C_share_of c_GREATEST 
  have C_share : Cl P w K mg base 4 "share" 2 [] (sp_share K) := ⟨_, _, _, [], G_share, rfl, m_share, F_share.kp, FunD.bindsN (ps := ["number", "other"]) F_share (fun _ _ _ _ _ _ us hl => match us, hl with | [_, _], _ => rfl), .nil⟩
  have G_is_count := ok_is_count (P := P) (w := w) (base := base) F_is_count B C_is_integer 
  have C_is_count : Cl P w K mg base 2 "is_count" 1 [] (sp_is_count K) := ⟨_, _, _, [], G_is_count, rfl, m_is_count, F_is_count.kp, FunD.bindsN (ps := ["value"]) F_is_count (fun _ _ _ _ _ _ us hl => match us, hl with | [_], _ => rfl), .nil⟩
  have G_want_many := ok_want_many (P := P) (w := w) (base := base) F_want_many B C_is_count 
  have C_want_many : Cl P w K mg base 3 "want_many" 2 [.int 0] (sp_want_many K) := by
    obtain ⟨us, u1, u2⟩ := FunD.binds1 (ps := ["value", "most", "least"]) F_want_many 2 0 (by simp [d_want_many, He.DefD.dvs]) rfl (fun _ _ _ _ _ _ _ us its h1 h2 => match us, its, h1, h2 with | [_, _], [_], _, _ => ⟨_, rfl, rfl⟩)
    exact ⟨_, _, _, us, G_want_many, rfl, m_want_many, F_want_many.kp, u2, u1⟩
  have G_want_some := ok_want_some (P := P) (w := w) (base := base) F_want_some B C_want_many c_MOST_SIEVED 
  have C_want_some : Cl P w K mg base 4 "want_some" 1 [] (sp_want_some K) := ⟨_, _, _, [], G_want_some, rfl, m_want_some, F_want_some.kp, FunD.bindsN (ps := ["value"]) F_want_some (fun _ _ _ _ _ _ us hl => match us, hl with | [_], _ => rfl), .nil⟩
  have G_primes_to := ok_primes_to (P := P) (w := w) (base := base) F_primes_to B  
  have C_primes_to : Cl P w K mg base 1 "primes_to" 1 [] (sp_primes_to K) := ⟨_, _, _, [], G_primes_to, rfl, m_primes_to, F_primes_to.kp, FunD.bindsN (ps := ["most"]) F_primes_to (fun _ _ _ _ _ _ us hl => match us, hl with | [_], _ => rfl), .nil⟩
  have G_frees_of := ok_frees_of (P := P) (w := w) (base := base) F_frees_of B C_primes_to 
  have C_frees_of : Cl P w K mg base 2 "frees_of" 1 [] (sp_frees_of K) := ⟨_, _, _, [], G_frees_of, rfl, m_frees_of, F_frees_of.kp, FunD.bindsN (ps := ["many"]) F_frees_of (fun _ _ _ _ _ _ us hl => match us, hl with | [_], _ => rfl), .nil⟩
  have G_share_frees := ok_share_frees (P := P) (w := w) (base := base) F_share_frees B C_want_some C_frees_of 
  have C_share_frees : Cl P w K mg base 5 "share_frees" 1 [] (sp_share_frees K) := ⟨_, _, _, [], G_share_frees, rfl, m_share_frees, F_share_frees.kp, FunD.bindsN (ps := ["many"]) F_share_frees (fun _ _ _ _ _ _ us hl => match us, hl with | [_], _ => rfl), .nil⟩
  have C_share_frees_many : Clk P w K mg base 5 "share_frees" ["many"] (fun zs => [zs.getD 0 .non]) (sp_share_frees K) := by
    have to := FunD.kwOnly (ps := ["many"]) (ks := ["many"]) (g := fun ws => [ws.getD 0 .none]) F_share_frees fun _ _ _ _ _ _ ws hl => match ws, hl with | [_], _ => rfl
    exact ⟨_, _, _, fun ws => [ws.getD 0 .none], G_share_frees, m_share_frees, F_share_frees.kp, to, fun {zs ws} r => .cons (vals_getD r 0) .nil⟩
  have G_divisors_by := ok_divisors_by (P := P) (w := w) (base := base) F_divisors_by B  
  have C_divisors_by : Cl P w K mg base 1 "divisors_by" 1 [] (sp_divisors_by K) := ⟨_, _, _, [], G_divisors_by, rfl, m_divisors_by, F_divisors_by.kp, FunD.bindsN (ps := ["powers"]) F_divisors_by (fun _ _ _ _ _ _ us hl => match us, hl with | [_], _ => rfl), .nil⟩
  have G_divisors_of := ok_divisors_of (P := P) (w := w) (base := base) F_divisors_of B C_divisors_by C_powers_of 
  have C_divisors_of : Cl P w K mg base 2 "divisors_of" 1 [] (sp_divisors_of K) := ⟨_, _, _, [], G_divisors_of, rfl, m_divisors_of, F_divisors_of.kp, FunD.bindsN (ps := ["number"]) F_divisors_of (fun _ _ _ _ _ _ us hl => match us, hl with | [_], _ => rfl), .nil⟩
  have G_divisors := ok_divisors (P := P) (w := w) (base := base) F_divisors B C_want_number C_divisors_of c_GREATEST 
  have C_divisors : Cl P w K mg base 4 "divisors" 1 [] (sp_divisors K) := ⟨_, _, _, [], G_divisors, rfl, m_divisors, F_divisors.kp, FunD.bindsN (ps := ["number"]) F_divisors (fun _ _ _ _ _ _ us hl => match us, hl with | [_], _ => rfl), .nil⟩
  have G__law_right := ok__law_right (P := P) (w := w) (base := base) F__law_right B C__law_least C_powers C__law_draw C__law_free C_free_couples C_share_free C_share_sum C__law_pick C__law_powers C_share_free_sum C__law_share C_share C_share_frees C_share_free_sum_number C_free_couples_number C_share_frees_many C_share_sum_number C_divisors 
  have C__law_right : Cl P w K mg base 6 "_law_right" 1 [] (sp__law_right K) := ⟨_, _, _, [], G__law_right, rfl, m__law_right, F__law_right.kp, FunD.bindsN (ps := ["pot"]) F__law_right (fun _ _ _ _ _ _ us hl => match us, hl with | [_], _ => rfl), .nil⟩
  have G__law_pot := ok__law_pot (P := P) (w := w) (base := base) F__law_pot B  
  have C__law_pot : Cl P w K mg base 1 "_law_pot" 2 [] (sp__law_pot K) := ⟨_, _, _, [], G__law_pot, rfl, m__law_pot, F__law_pot.kp, FunD.bindsN (ps := ["script", "k"]) F__law_pot (fun _ _ _ _ _ _ us hl => match us, hl with | [_, _], _ => rfl), .nil⟩
  have G_law := ok_law (P := P) (w := w) (base := base) F_law B C__law_right C__law_pot 
  exact G_law
end M
open PySem PySem.W PySem.Calls PyProof.Rows
set_option maxRecDepth 100000 in
set_option maxHeartbeats 0 in
theorem PySem.Challenge.cw_divisorsums_k94_whole_share_free_couples_holds : PySem.Challenge.rw_divisorsums_k94_whole_share_free_couples.Holds := by
  w_on; o_law
  refine HandSHeadRun.head_any (r := OpenLaw.row PySem.Challenge.rw_divisorsums_k94_whole_share_free_couples) (q := view (OpenLaw.row PySem.Challenge.rw_divisorsums_k94_whole_share_free_couples).prog [52]) (H := M.hk) (ob := M.ob) (M := 4000) (loose := M.loose) (d := HandSHeadRun.topDef (OpenLaw.row PySem.Challenge.rw_divisorsums_k94_whole_share_free_couples).prog 52) (kwd := []) M.ob_eq
    (by kernel_rfl) (fun s => by kernel_rfl) M.run (by kernel_rfl) (by kernel_rfl) (by kernel_rfl) (by rfl) (by first | assumption | decide +kernel) (by decide +kernel) ⟨rfl, rfl, rfl, rfl, rfl, by decide +kernel⟩ ?hw ?hc
  case hw => w_witness2
  case hc =>
    refine G.walk_G (l := PySem.Challenge.rw_divisorsums_k94_whole_share_free_couples) (n := 63) (k := 7) (x := "script") rfl (by decide) (by kernel_rfl) ⟨rfl, by decide, by decide⟩ ?F
    intro w mg fa h Y G0 hmg0
    obtain ⟨K, KX, c, cx⟩ := Y
    have hmg : mg ("law" : PySem.Str) = some (.ref fa) := by
      have e : (HandSHeadRun.topDef (OpenLaw.row PySem.Challenge.rw_divisorsums_k94_whole_share_free_couples).prog 52).name = ("law" : PySem.Str) := by kernel_rfl
      rw [← e]
      exact hmg0
    obtain ⟨fd, hb, hF⟩ := M.facts (P := (PySem.Challenge.rw_divisorsums_k94_whole_share_free_couples).prog) (w := w) KX G0 hmg c cx
    exact ⟨K, fd, M.sp_law K, KX, hb, fun H a ns hl hS => M.law_ends H a ns hl hS, hF⟩
