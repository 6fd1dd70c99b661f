import PyProof.Rows.All
import Wide.All
import OpenK.AllK
import Wide.FinOn
import Lean
import PyProof.ReprRoads
import HandS.Walk
import HandS.Conv
import HandS.ForMost
import HandS.Defaults
import HandS.WideBits
import HandS.Style
import HandS.IsInst
import HandS.TupAny
import HandS.SortInts
import HandS.Head0
import HandS.Head1
import HandS.Head2
import HandS.HeadEnd
import HandS.HeadHook1
import HandS.HeadHook2
import HandS.SetFor
import HandS.Strs
import PySem.Challenge.RW_divisorsums_k84_whole_tables_as_products
set_option Elab.async false
set_option linter.all false
set_option maxRecDepth 100000
set_option maxHeartbeats 16000000
/-! A layer of my own over HandS: defs called where no repr is under way, repr of data, keyword calls. -/
namespace G
open PySem PySem.Spec PyProof.Rows L2

/-! ### defs that may use repr -/
/-- what a def promises where no guarded code runs around it -/
structure FnG (P : Program) (w : World) (K : PySem.W.Frag) (mg : Str → Option Value) (base : Heap) (CX : CXT) (k : Nat) (f : Addr) (fd : FuncData) (ps : List Str) (sp : Sp) : Prop where
  arity : ∀ vs H Q E, sp vs H Q E → vs.length = ps.length
  go : ∀ {A : Around} {outer : List Env} {s : Shared} {H : Hp} {args : Args} {us : List Value} {vs : List V} {Q : VK} {E : XK},
    A.guards = some [] → Room k A → Env0 P w K mg base A outer s H → BindsTo s fd args (ps.zip us) → Vals vs us → sp vs H Q E →
      codeAny (model P w) A (.call (.ref f) args) (CR CX outer P w H s Q E) s

section
variable {P : Program} {w : World} {K : PySem.W.Frag} {mg : Str → Option Value} {base : Heap} {CX : CXT} {k : Nat} {f : Addr} {fd : FuncData} {ps : List Str} {sp : Sp}
theorem FnG.up {j : Nat} (F : FnG P w K mg base CX k f fd ps sp) (h : k ≤ j) : FnG P w K mg base CX j f fd ps sp :=
  ⟨F.arity, fun g r => F.go g (r.mono h)⟩
theorem FnG.weak {sp' : Sp} (F : FnG P w K mg base CX k f fd ps sp) (h : ∀ vs H Q E, sp' vs H Q E → sp vs H Q E) : FnG P w K mg base CX k f fd ps sp' :=
  ⟨fun vs H Q E q => F.arity vs H Q E (h _ _ _ _ q), fun g r e b v q => F.go g r e b v (h _ _ _ _ q)⟩
/-- how a body's end is a call's end -/
theorem ends_of {N : List Str} {qual : Str} {scope : Scope} {cdv : Value} {A : Around} {outer : List Env} {s s' : Shared} {H : Hp} {Q : VK} {E : XK} {fl : Flow}
    (hs : SP (cxOf CX P w K mg base N qual scope f cdv A outer s H E) [] { nx := fun _ H' => Q .non H', rt := Q } fl s') :
    ∃ u, (fl = .ret u ∨ (fl = .next ∧ u = Value.none)) ∧ CE outer P w H s Q u s' := by
  match fl, hs with
  | .ret u, ⟨v, _, H', J, rv, q⟩ => exact ⟨u, .inl rfl, v, H', J.os, J.bare, J.base, J.hok, rv, q⟩
  | .next, ⟨_, H', J, q⟩ => exact ⟨.none, .inr ⟨rfl, rfl⟩, .non, H', J.os, J.bare, J.base, J.hok, rfl, q⟩
  | .brk, ⟨_, _, _, q⟩ => exact False.elim q
  | .cont, ⟨_, _, _, q⟩ => exact False.elim q
/-- a def by its body, told that no guarded code runs around it -/
theorem okG {x qual : Str} {params : Arguments} {body : List Stmt} {scope : Scope} {dvs : List V} {kws : List (Str × V)} {N : List Str}
    (F : FunD K x qual params body scope dvs kws f fd) (S : FnScope N ps scope) (hl : ∀ vs H Q E, sp vs H Q E → vs.length = ps.length)
    (hb : ∀ (cdv : Value) (A : Around) (outer : List Env) (s : Shared) (H : Hp) (vs : List V) (Q : VK) (E : XK),
      A.guards = some [] → Room k (A.deeper (envOfC qual scope s.heap.objs.size f cdv)) → sp vs H Q E →
      ∃ t, PSs (cxOf CX P w K mg base N qual scope f cdv A outer s H E) body t ∧ t { nx := fun _ H' => Q .non H', rt := Q } (start N vs) H) :
    FnG P w K mg base CX (k + 1) f fd ps sp := by
  obtain ⟨oc, od, dV, kV, doc, pm, an, cdv, ct, osl, rfl, lk, hcd, _, _⟩ := F.ex
  constructor
  · exact hl
  intro A outer s H args us vs Q E g r e0 bd rv q
  have inK : K.In s.heap := PySem.W.Frag.In.keeps e0.mod.kin fun b o z => (e0.bs b o z).1
  have nl : s.heap.NoLimit := e0.mod.nolimit.keeps fun b o z => (e0.bs b o z).1
  have cellOf : ∀ n : Str, scope.names.lookup n = some .cell → ((cellsFrom (s.heap.objs.size + 1) scope.names []).lookup n).isSome = true :=
    fun n z => PySem.W.cellsFrom_some _ _ _ (.inl z)
  refine codeAny_call_function r.depth (inK _ _ lk) rfl S.co S.gen rfl (PySem.W.codeRec_of inK hcd) (bd _ _ _ _ ?_)
  refine wpAny_newFunctionEnv_cells S.kind (fun y hy => (S.par y.1 (List.of_mem_zip (a := y.1) (b := y.2) hy).1).imp (fun z => z) fun z => ⟨z, cellOf _ z⟩) ?_
  intro env he s1 x
  subst he
  obtain ⟨t, ht, hq⟩ := hb cdv A outer s H vs Q E g (r.deeper _) q
  have J := inv_start (CX := CX) (E := E) S r.hd e0 (hl _ _ _ _ q) rv x
  refine ⟨nl.keeps x.toInCall.keep, codeAny_func (wpAny_mono (ht.run [] s1 (start N vs) H _ J hq) ?_ fun _ _ z => z)⟩
  intro fl s' hs
  obtain ⟨u, z | ⟨z, z'⟩, c⟩ := ends_of hs
  · subst z; exact c
  · subst z; subst z'; exact c
end

/-- a def of the module that may be called by its name: ds are the values that its defaults fill in behind the written ones -/
structure Cl (P : Program) (w : World) (K : PySem.W.Frag) (mg : Str → Option Value) (base : Heap) (k : Nat) (x : Str) (n : Nat) (ds : List V) (sp : Sp) : Prop where
  ex : ∃ (f : Addr) (fd : FuncData) (ps : List Str) (us : List Value), FnG P w K mg base CX0 k f fd ps sp ∧ ps.length = n + ds.length ∧ mg x = some (.ref f) ∧ PySem.W.keepIn K (.ref f) = true ∧ Binds K fd ps us ∧ Vals ds us
/-- .. with keywords ks alone: gV puts the keywords' values in the parameters' order -/
structure Clk (P : Program) (w : World) (K : PySem.W.Frag) (mg : Str → Option Value) (base : Heap) (k : Nat) (x : Str) (ks : List Str) (gV : List V → List V) (sp : Sp) : Prop where
  ex : ∃ (f : Addr) (fd : FuncData) (ps : List Str) (g : List Value → List Value), FnG P w K mg base CX0 k f fd ps sp ∧ mg x = some (.ref f) ∧ PySem.W.keepIn K (.ref f) = true ∧
    (∀ (s : Shared) (ws : List Value), K.In s.heap → ws.length = ks.length → BindsTo s fd ⟨[], ks.zip ws⟩ (ps.zip (g ws))) ∧ ∀ {zs : List V} {ws : List Value}, Vals zs ws → Vals (gV zs) (g ws)

theorem kw_len1 {ta : TE} {a : Str} (σ : L2.St) (H : Hp) (Q : List V → Hp → Prop) (h : tCons ta tNil σ H Q) : tCons ta tNil σ H fun zs H1 => zs.length = [a].length ∧ Q zs H1 := by
  have e : (fun (v : V) (H1 : Hp) => ([v] : List V).length = [a].length ∧ Q [v] H1) = fun v H1 => Q [v] H1 := by
    funext v H1
    simp
  show ta σ H fun (v : V) (H1 : Hp) => ([v] : List V).length = [a].length ∧ Q [v] H1
  rw [e]
  exact h
theorem kw_len2 {ta tb : TE} {a b : Str} (σ : L2.St) (H : Hp) (Q : List V → Hp → Prop) (h : tCons ta (tCons tb tNil) σ H Q) : tCons ta (tCons tb tNil) σ H fun zs H1 => zs.length = [a, b].length ∧ Q zs H1 := by
  have e : (fun (v : V) (H1 : Hp) => tb σ H1 fun (u : V) (H2 : Hp) => ([v, u] : List V).length = [a, b].length ∧ Q [v, u] H2) = fun v H1 => tb σ H1 fun u H2 => Q [v, u] H2 := by
    funext v H1
    have e2 : (fun (u : V) (H2 : Hp) => ([v, u] : List V).length = [a, b].length ∧ Q [v, u] H2) = fun u H2 => Q [v, u] H2 := by
      funext u H2
      simp
    rw [e2]
  show ta σ H fun (v : V) (H1 : Hp) => tb σ H1 fun (u : V) (H2 : Hp) => ([v, u] : List V).length = [a, b].length ∧ Q [v, u] H2
  rw [e]
  exact h

section
variable {X : Cx} {CX : CXT} {k j n : Nat} {f : Addr} {fd : FuncData} {ps ks : List Str} {sp : Sp} {dvs : List V} {ds : List Value} {E : XK} {x : Str} {p pos : Pos} {e : Expr} {es : List Expr} {t tk : TA} {kws : List Keyword} {gV : List V → List V}
/-- behind a callee -/
theorem after {pins : List (Addr × Obj)} {σ : L2.St} {H : Hp} {s s' : Shared} {Q : VK} {r : Result} (I : Inv X pins σ H s) (h : CR CX0 X.stack X.prog X.w H s Q E r s') : ∃ u, r = .ok (.ret u) ∧ EP X pins σ Q u s' := by
  match r, h with
  | .ok (.ret u), q => exact ⟨u, rfl, I.after q⟩
  | .ok .next, q => exact False.elim q
  | .ok .brk, q => exact False.elim q
  | .ok .cont, q => exact False.elim q
  | .error _, q => exact False.elim q
def tCl (sp : Sp) (dvs : List V) (n : Nat) (t : TA) : TE := fun σ H Q => t σ H fun vs H1 => sp (vs ++ dvs) H1 Q E0
/-- f(e, ..) -/
theorem pe_cl (C : Cl X.prog X.w X.K X.mg X.base k x n dvs sp) (g : X.A.guards = some []) (hr : Room j X.A) (hkj : k ≤ j) (hg : Gl X x) (ha : PA X (e :: es) t)
    (hdb : (x == ("__debug__" : Str)) = false := by decide) (he : starEach (e :: es) X.env = (false, eval e X.env) :: starEach es X.env := by rfl) (hpl : (backTo pos (starEach es X.env)).any (·.1) = false := by rfl) :
    PE X (.Call (.Name x p) (e :: es) [] pos) (tCl sp dvs n t) := by
  obtain ⟨f, fd, ps, us0, F, _, hm, hk, hb, hd⟩ := C.ex
  constructor
  intro pins s σ H Q I h
  refine wpAny_Call_Name_kw (ld_glob I hg hm ?_ hdb)
  refine PySem.W.callWith_K (h₀ := X.base) I.ok.mod.kin hk ?_ he hpl
  refine thn (ha.run pos pins s σ H _ I h) ?_
  rintro us s1 ⟨vs, H1, I1, r, q⟩
  have r2 : Vals (vs ++ dvs) (us ++ us0) := r.append hd
  have hl : (us ++ us0).length = ps.length := r2.length.symm.trans (F.arity _ _ _ _ q)
  refine ⟨I1.kIn, wpAny_call (codeAny_mono (F.go g (hr.mono hkj) I1.env0 (hb s1 us I1.kIn hl) r2 q) ?_)⟩
  intro r s' z
  obtain ⟨u, z1, z2⟩ := after I1 z
  subst z1
  exact z2
/-- f(k = e, ..) -/
theorem pe_clk (C : Clk X.prog X.w X.K X.mg X.base k x ks gV sp) (g : X.A.guards = some []) (hr : Room j X.A) (hkj : k ≤ j) (hg : Gl X x) (hkw : PK X kws tk)
    (hn : ∀ σ H Q, tk σ H Q → tk σ H fun zs H1 => zs.length = ks.length ∧ Q zs H1)
    (hall : (backToKw pos (keywordEach kws X.env)).all (·.1.isSome) = true := by rfl) (hks : (backToKw pos (keywordEach kws X.env)).filterMap (·.1) = ks := by rfl) (hdb : (x == ("__debug__" : Str)) = false := by decide)
    (hpl : ((backTo pos (starEach [] X.env)).any (·.1) || (backToKw pos (keywordEach kws X.env)).any (·.1.isNone)) = false := by rfl) :
    PE X (.Call (.Name x p) [] kws pos) (tCl (fun vs => sp (gV vs)) [] 0 tk) := by
  obtain ⟨f, fd, ps, gf, F, hm, hk, hb, rel⟩ := C.ex
  constructor
  intro pins s σ H Q I h
  have h' := hn σ H _ h
  refine wpAny_Call_Name_kw (ld_glob I hg hm ?_ hdb)
  refine PySem.W.callWith_KW0 (h₀ := X.base) I.ok.mod.kin hk hall ?_ hpl
  refine thn (hkw.run pos pins s σ H _ I h') ?_
  rintro ws s1 ⟨zs, H1, I1, rz, hzl, q⟩
  rw [List.append_nil] at q
  refine ⟨I1.kIn, ?_⟩
  rw [hks]
  refine wpAny_call (codeAny_mono (F.go (us := gf ws) g (hr.mono hkj) I1.env0 (hb s1 ws I1.kIn (rz.length.symm.trans hzl)) (rel rz) q) ?_)
  intro r s' z
  obtain ⟨u, z1, z2⟩ := after I1 z
  subst z1
  exact z2
end

/-! ### repr of data -/
section
variable {X : Cx}
/-- repr(x), x data without dicts whose text is not too long -/
def rRepr (K : PySem.W.Frag) : List V → Hp → VK → Prop := fun xs H Q => ∃ (a : Addr) (d : PyData), xs = [.ref a] ∧ Dp K H (.ref a) d ∧ d.showable = true ∧ d.hasDict = false ∧ d.depth ≤ 50 ∧ d.shown.length ≤ sizeLine ∧ Q (.str d.shown) H
theorem call_repr_data (g : X.A.guards = some []) (hu : X.A.units + 64 < cLine) : CallR X (.builtin "repr") (rRepr X.K) := by
  rintro pins s σ H xs us Q I r ⟨a, d, rfl, hd, h1, h2, h3, h4, q⟩
  obtain ⟨u, rfl, ru⟩ := vals1 r
  cases (show u = Value.ref a from ru)
  obtain ⟨as, rd⟩ := Dp.reads I d _ _ hd rfl
  refine repr_of_reads' rd h1 (fun z => by rw [h2] at z; cases z) g (by omega) (fun _ _ z => z) (fun h' u tk k => ?_) h4
  exact ⟨.str d.shown, H, I.kept k, ⟨_, rfl⟩, q⟩
end
end G

namespace G
open PySem PySem.Spec PyProof.Rows L2
/-! ### the law's own call -/
section
variable {P : Program} {w : World} {K : PySem.W.Frag} {mg mb : Str → Option Value} {k : Nat} {fa a : Addr} {fd : FuncData} {x : Str} {sp : Sp} {s : Shared} {vs : List Value} {ns : List Int}
abbrev LawEnd (s : Shared) (r : Result) (s' : Shared) : Prop := r = .ok (.ret (.bool true)) ∧ OldK s.heap s'.heap ∧ s'.os = s.os ∧ AllBare s'.gens
/-- where at most the script is tracked -/
theorem enter_at {H : Hp} (KX : K.In s.heap) (n1 : s.heap.Ns mainGlobals mg) (n2 : s.heap.Ns builtinsNs mb) (n3 : ∀ y : Str, y ≠ "__name__" → mb y = bootBuiltins y) (n4 : s.heap.NoLimit) (n5 : s.gens = #[])
    (ha : s.heap.get? a = some { cls := .type "list", data := .seq vs.toArray }) (hr : Room k callerA)
    (F : ∀ base : Heap, K.In base → base.Ns mainGlobals mg → FnG P w K mg base CX0 k fa fd [x] sp) (hb : ∀ (t : Shared) (u : Value), BindsTo t fd ⟨[u], []⟩ [(x, u)])
    (only : Only H) (alone : ∀ b, H b ≠ none → b = a ∧ K.lookup a = none) (hok : HOk P w H s.heap) (q : sp [.ref a] H (fun v _ => v = .bl true) E0) :
    codeAny (model P w) callerA (.call (.ref fa) ⟨[.ref a], []⟩) (LawEnd s) s := by
  have stays : ∀ {b : Addr} {o : Obj}, s.heap.get? b = some o → H b = none → (hidT s.heap H).get? b = some o := fun z n => hidT_get z n
  have free_of : ∀ {b : Addr}, ¬ (b = a ∧ K.lookup a = none) → H b = none := by
    intro b nb
    refine Classical.byContradiction fun z => nb (alone b z)
  have nsKeep : ∀ {b : Addr} {m : Str → Option Value}, s.heap.Ns b m → (hidT s.heap H).Ns b m := by
    rintro b m ⟨o, es, ep, z, d, rest⟩
    refine ⟨o, es, ep, stays z (free_of ?_), d, rest⟩
    rintro ⟨e, _⟩
    rw [e, ha] at z
    rw [← Option.some.inj z] at d
    cases d
  have inBase : K.In (hidT s.heap H) := by
    intro b o z
    refine stays (KX b o z) (free_of ?_)
    rintro ⟨e, n⟩
    rw [e, n] at z
    cases z
  have md : Mod K mg (hidT s.heap H) := by
    refine ⟨inBase, nsKeep n1, ⟨mb, nsKeep n2, n3⟩, ?_⟩
    obtain ⟨mc, m1, m2⟩ := n4
    exact ⟨mc, nsKeep m1, m2⟩
  have start0 : Env0 P w K mg (hidT s.heap H) callerA [] s H := by
    refine ⟨rfl, md, fun b o z => of_hidT z, Nat.le_of_eq (hidT_size _ _), trivial, ?_, hok, .of_eq n5⟩
    intro b z
    cases z
  have run := (F _ inBase (nsKeep n1)).go rfl hr start0 (hb s (.ref a)) (show Vals [V.ref a] [Value.ref a] from .cons rfl .nil) q
  refine codeAny_mono run ?_
  intro r t z
  match r, z with
  | .error _, z => exact z.elim
  | .ok .next, z => exact z.elim
  | .ok .brk, z => exact z.elim
  | .ok .cont, z => exact z.elim
  | .ok (.ret u), ⟨v, H', z1, z2, un, hok', rv, e⟩ =>
    have e' : v = .bl true := e
    subst e'
    have eu : u = Value.bool true := rv
    subst eu
    refine ⟨rfl, OldK.of_keep ?_, z1, z2⟩
    intro b o z
    cases hq : H b with
    | none => exact un.keep b o z hq (fun n => nomatch n) (fun n => nomatch n)
    | some u =>
      obtain n | ⟨ob, xs, n⟩ := only b
      · rw [hq] at n
        cases n
      · have n' := un.frzs b ob _ n
        have y1 := (hok b _ n).1
        have y2 := (hok' b _ n').1
        rw [z] at y1
        rw [y2, ← y1]
def Hp.nil : Hp := fun _ => none
def Hp.one (a : Addr) (o : Obj) (xs : List V) : Hp := fun b => if b = a then some (.frz o (.lst xs)) else none
theorem law_callG (KX : K.In s.heap) (n1 : s.heap.Ns mainGlobals mg) (n2 : s.heap.Ns builtinsNs mb) (n3 : ∀ y : Str, y ≠ "__name__" → mb y = bootBuiltins y) (n4 : s.heap.NoLimit) (n5 : s.gens = #[])
    (ha : s.heap.get? a = some { cls := .type "list", data := .seq vs.toArray }) (hi : IntsAre vs ns) (hl : ns.length ≤ sizeLine) (hr : Room k callerA)
    (F : ∀ base : Heap, K.In base → base.Ns mainGlobals mg → FnG P w K mg base CX0 k fa fd [x] sp) (hb : ∀ (t : Shared) (u : Value), BindsTo t fd ⟨[u], []⟩ [(x, u)])
    (hsp : ∀ H : Hp, SqL K H a (ns.map V.int) → sp [.ref a] H (fun v _ => v = .bl true) E0) :
    codeAny (model P w) callerA (.call (.ref fa) ⟨[.ref a], []⟩) (LawEnd s) s := by
  have rv := vals_ints hi
  have hlen := hi.length
  by_cases own : K.lookup a = none
  · have at_a : Hp.one a { cls := .type "list", data := .seq vs.toArray } (ns.map V.int) a = some (.frz { cls := .type "list", data := .seq vs.toArray } (.lst (ns.map V.int))) := if_pos rfl
    refine enter_at (H := Hp.one a { cls := .type "list", data := .seq vs.toArray } (ns.map V.int)) KX n1 n2 n3 n4 n5 ha hr F hb (fun b => ?_) (fun b z => ⟨?_, own⟩) (fun b u z => ?_) (hsp _ (.inl (.inr ⟨_, at_a⟩)))
    · by_cases e : b = a
      · exact .inr ⟨_, _, by rw [e]; exact at_a⟩
      · exact .inl (if_neg e)
    · exact Classical.byContradiction fun e => z (if_neg e)
    · have e : b = a := Classical.byContradiction fun e => by
        rw [show Hp.one a _ _ b = none from if_neg e] at z
        cases z
      subst e
      rw [at_a] at z
      cases z
      exact ⟨ha, by rw [List.length_map]; exact hl, vs, _, rv, ha⟩
  · obtain ⟨o, e⟩ := Option.ne_none_iff_exists'.mp own
    have e' := KX a o e
    rw [ha] at e'
    have eo := Option.some.inj e'
    subst eo
    refine enter_at (H := Hp.nil) KX n1 n2 n3 n4 n5 ha hr F hb (fun b => .inl rfl) (fun b z => (z rfl).elim) (fun b u z => by cases (show (none : Option HO) = some u from z)) (hsp _ ?_)
    exact .inr ⟨_, vs.toArray, _, e, rfl, rfl, rfl, by rw [List.size_toArray, hlen]; exact hl, by simpa using rv⟩
end
/-- the end of a law's row -/
theorem walk_G {l : PySem.W.OpenLaw} {n k : Nat} {q : Program} {loose : List Str} {XP : (Str → Option Value) → Heap → Prop} {YP : World → Heap → Prop} {d : DefRec} {x : Str}
    (hn : l.most = some n) (hn2 : n ≤ sizeLine) (hdf : d.params.defaults = []) (hr : Room k callerA)
    (F : ∀ (w : World) (mg : Str → Option Value) (fa : Addr) (h : Heap), YP w h → h.Ns mainGlobals mg → mg d.name = some (.ref fa) →
      ∃ (K : PySem.W.Frag) (fd : FuncData) (sp : Sp), K.In h ∧ (∀ (s : Shared) (u : Value), BindsTo s fd ⟨[u], []⟩ [(x, u)]) ∧
        (∀ (H : Hp) (a : Addr) (ns : List Int), ns.length ≤ n → SqL K H a (ns.map V.int) → sp [.ref a] H (fun v _ => v = .bl true) E0) ∧
        ∀ base : Heap, K.In base → base.Ns mainGlobals mg → FnG l.prog w K mg base CX0 k fa fd [x] sp) :
    PySem.W.WalkO q loose XP YP l.row.toRowW d [] (fun f vs => PySem.call f vs) := by
  refine Att.attach_call hn hdf ?_
  intro w s₀ s₁ mg mb fa o pm cd doc a vs ns G Y ho hd hcd hmg hobj hints hlen hg
  obtain ⟨K, fd, sp, z1, z2, z3, z4⟩ := F w mg fa _ Y G.T.g hmg
  exact law_callG z1 G.T.g G.T.b G.T.builtins G.T.nolimit hg hobj hints (Nat.le_trans hlen hn2) hr z4 z2 fun H hS => z3 H a ns hlen hS

/-! ### promises by the number of arguments -/
def spec1 (R : V → Hp → VK → XK → Prop) : Sp := fun vs H Q E => ∃ a, vs = [a] ∧ R a H Q E
def spec2 (R : V → V → Hp → VK → XK → Prop) : Sp := fun vs H Q E => ∃ a b, vs = [a, b] ∧ R a b H Q E
def spec3 (R : V → V → V → Hp → VK → XK → Prop) : Sp := fun vs H Q E => ∃ a b c, vs = [a, b, c] ∧ R a b c H Q E
theorem ar1 {R : V → Hp → VK → XK → Prop} (vs : List V) (H : Hp) (Q : VK) (E : XK) (h : spec1 R vs H Q E) : vs.length = 1 := by
  obtain ⟨a, rfl, _⟩ := h
  rfl
theorem ar2 {R : V → V → Hp → VK → XK → Prop} (vs : List V) (H : Hp) (Q : VK) (E : XK) (h : spec2 R vs H Q E) : vs.length = 2 := by
  obtain ⟨a, b, rfl, _⟩ := h
  rfl
theorem ar3 {R : V → V → V → Hp → VK → XK → Prop} (vs : List V) (H : Hp) (Q : VK) (E : XK) (h : spec3 R vs H Q E) : vs.length = 3 := by
  obtain ⟨a, b, c, rfl, _⟩ := h
  rfl

/-! ### the built-ins' names -/
structure Bt (mg : Str → Option Value) : Prop where
  abs : mg "abs" = none
  all : mg "all" = none
  any : mg "any" = none
  bool : mg "bool" = none
  dict : mg "dict" = none
  divmod : mg "divmod" = none
  enumerate : mg "enumerate" = none
  int : mg "int" = none
  isinstance : mg "isinstance" = none
  len : mg "len" = none
  list : mg "list" = none
  max : mg "max" = none
  min : mg "min" = none
  range : mg "range" = none
  repr : mg "repr" = none
  reversed : mg "reversed" = none
  set : mg "set" = none
  sorted : mg "sorted" = none
  sum : mg "sum" = none
  tuple : mg "tuple" = none
  zip : mg "zip" = none
def btNames : List Str := ["abs", "all", "any", "bool", "dict", "divmod", "enumerate", "int", "isinstance", "len", "list", "max", "min", "range", "repr", "reversed", "set", "sorted", "sum", "tuple", "zip"]
theorem Bt.of {mg : Str → Option Value} (h : ∀ x ∈ btNames, mg x = none) : Bt mg := by
  constructor <;> exact h _ (by unfold btNames; simp)

/-! ### heaps: what stands, but for one changing list at a -/
/-- every object but that at a is as it was -/
def Grow (a : Addr) (H H' : Hp) : Prop := ∀ b o, b ≠ a → H b = some o → H' b = some o
theorem Grow.refl (a : Addr) (H : Hp) : Grow a H H := fun _ _ _ h => h
theorem Grow.trans {a : Addr} {H H1 H2 : Hp} (x : Grow a H H1) (y : Grow a H1 H2) : Grow a H H2 := fun b o n h => y b o n (x b o n h)
theorem Grow.of {a : Addr} {H H' : Hp} (x : Same H H') : Grow a H H' := fun b o _ h => x b o h
theorem Grow.new {a p : Addr} {H H' : Hp} {o : HO} (x : Grow a H H') (h : H' p = none) : Grow a H (upd H' p o) := fun b u n z => by
  rw [upd_ne (ne_of_none (x b u n z) h)]
  exact x b u n z
theorem Grow.put {a : Addr} {H H' : Hp} {o : HO} (x : Grow a H H') : Grow a H (upd H' a o) := fun b u n z => by
  rw [upd_ne n]
  exact x b u n z
theorem _root_.L2.Same.new {p : Addr} {H H' : Hp} {o : HO} (x : Same H H') (h : H' p = none) : Same H (upd H' p o) := fun b u z => by
  rw [upd_ne (ne_of_none (x b u z) h)]
  exact x b u z
/-- an object that H does not know changes -/
theorem _root_.L2.Same.mut {p : Addr} {H H' : Hp} {o : HO} (x : Same H H') (h : H p = none) : Same H (upd H' p o) := fun b u z => by
  rw [upd_ne (ne_of_none z h)]
  exact x b u z
theorem _root_.L2.Same.tup {K : PySem.W.Frag} {H H' : Hp} {a : Addr} {xs : List V} (e : Same H H') (h : SqT K H a xs) : SqT K H' a xs := by
  rcases h with (h | ⟨o, h⟩) | h
  · exact .inl (.inl (e _ _ h))
  · exact .inl (.inr ⟨o, e _ _ h⟩)
  · exact .inr h
theorem mulc {i j : Int} (h : 0 ≤ i ∧ i ≤ 18446744073709551615) : CMul i j := .inl (by omega)
theorem mulc' {i j : Int} (h : 0 ≤ j ∧ j ≤ 18446744073709551615) : CMul i j := .inr (by omega)
theorem divw {i j : Int} (h : 0 < j) (h2 : j < 2 ^ 64) : CDivW i j := wide_div h (b := 64) (by omega) (by decide) (by decide)
theorem divp {i j : Int} (h : 0 < j) (h2 : j < 2 ^ 64) : CDivP i j := ⟨h, PyProof.noPylong_of_log2 (Nat.lt_of_lt_of_le (PySem.Flt.log2_lt_of (by decide : 0 < 64) (by omega)) (by decide))⟩
end G

namespace G
open PySem PySem.Spec PyProof.Rows L2
theorem blT {Q : VK} {H : Hp} {p : Prop} [Decidable p] (h : p) (q : Q (.bl true) H) : Q (.bl (decide p)) H := by
  rw [decide_eq_true h]
  exact q
theorem blF {Q : VK} {H : Hp} {p : Prop} [Decidable p] (h : ¬ p) (q : Q (.bl false) H) : Q (.bl (decide p)) H := by
  rw [decide_eq_false h]
  exact q
theorem bl_t {p : Prop} [Decidable p] (h : p) : V.bl (decide p) = .bl true := congrArg V.bl (decide_eq_true h)
theorem bl_f {p : Prop} [Decidable p] (h : ¬ p) : V.bl (decide p) = .bl false := congrArg V.bl (decide_eq_false h)
theorem bl_nt {p : Prop} [Decidable p] (h : ¬ p) : V.bl (!decide p) = .bl true := by rw [decide_eq_false h]; rfl
theorem bl_nf {p : Prop} [Decidable p] (h : p) : V.bl (!decide p) = .bl false := by rw [decide_eq_true h]; rfl
theorem sz0 : ([] : List V).length ≤ sizeLine := Nat.zero_le _
theorem sz1 {a : V} : ([a] : List V).length ≤ sizeLine := by show 1 ≤ sizeLine; decide
theorem sz2 {a b : V} : ([a, b] : List V).length ≤ sizeLine := by show 2 ≤ sizeLine; decide
theorem sz3 {a b c : V} : ([a, b, c] : List V).length ≤ sizeLine := by show 3 ≤ sizeLine; decide
theorem sz4 {a b c d : V} : ([a, b, c, d] : List V).length ≤ sizeLine := by show 4 ≤ sizeLine; decide
theorem sz5 {a b c d e : V} : ([a, b, c, d, e] : List V).length ≤ sizeLine := by show 5 ≤ sizeLine; decide
theorem sz6 {a b c d e f : V} : ([a, b, c, d, e, f] : List V).length ≤ sizeLine := by show 6 ≤ sizeLine; decide
theorem max0 (x : Int) : 0 ≤ (if x > 0 then x else 0) := by
  split <;> omega
theorem at_ints {ns : List Int} {k : Nat} (h : k < ns.length) : atI (ns.map V.int) (k : Int) = some (.int ns[k]) := atI_nat (by rw [List.getElem?_map, List.getElem?_eq_getElem h]; rfl)
theorem c64 {i j : Int} (h : i.natAbs < 18446744073709551616 := by decide) : CMul (i) j := .inl (by omega)
theorem at0 {α : Type} {x y : α} : atI [x, y] 0 = some x := rfl
theorem at1 {α : Type} {x y : α} : atI [x, y] 1 = some y := rfl
theorem divNN {p m : Int} (h : 0 ≤ p) (hm : 0 < m) : 0 ≤ p / m := Int.ediv_nonneg h (by omega)
theorem says_mem {fa : List He.Fa} {fn : List He.DefD} {K : PySem.W.Frag} (c : He.SaysD fa fn K) {f : He.Fa} (h : f ∈ fa) : f.ok K = true :=
  List.all_eq_true.mp (He.ba (show ((fa.all fun f => f.ok K) && fn.all fun d => d.ok K) = true from congrArg (fun z : He.AlD => z.1) c)).1 f h
/-! ### keywords alone, no defaults -/
theorem FunD.kwOnly {K : PySem.W.Frag} {x qual : Str} {params : Arguments} {body : List Stmt} {scope : Scope} {kws : List (Str × V)} {f : Addr} {fd : FuncData} {ps ks : List Str} {g : List Value → List Value}
    (F : FunD K x qual params body scope [] kws f fd)
    (h : ∀ (kV doc pm : Value) (an : Option Addr) (cdv ct : Value) (ws : List Value), ws.length = ks.length → bindArgs (PySem.W.fnOf x qual params body scope .none kV doc pm an cdv ct) ⟨[], ks.zip ws⟩ = pure (ps.zip (g ws))) :
    ∀ (s : Shared) (ws : List Value), K.In s.heap → ws.length = ks.length → BindsTo s fd ⟨[], ks.zip ws⟩ (ps.zip (g ws)) := by
  obtain ⟨oc, od, dV, kV, doc, pm, an, cdv, ct, osl, rfl, _, _, hD, _⟩ := F.ex
  intro s ws _ hl
  rcases hD with ⟨_, rfl⟩ | ⟨e, _⟩
  · exact BindsTo.of_eq (h kV doc pm an cdv ct ws hl)
  · exact (e rfl).elim

/-! ### plain data: ints below a bound, lists and tuples of such -/
mutual
def fine (c : Nat) : PyData → Bool
  | .none => true
  | .bool _ => true
  | .int i => decide (i.natAbs < 10 ^ c)
  | .str _ => false
  | .list ds => fineAll c ds
  | .tuple ds => fineAll c ds
  | .dict _ => false
def fineAll (c : Nat) : List PyData → Bool
  | [] => true
  | d :: ds => fine c d && fineAll c ds
end
mutual
def nodes : PyData → Nat
  | .list ds => 1 + nodesAll ds
  | .tuple ds => 1 + nodesAll ds
  | .none | .bool _ | .int _ | .str _ | .dict _ => 1
def nodesAll : List PyData → Nat
  | [] => 0
  | d :: ds => nodes d + nodesAll ds
end
theorem fineAll_iff {c : Nat} : ∀ {ds : List PyData}, fineAll c ds = true ↔ ∀ d ∈ ds, fine c d = true
  | [] => by simp [fineAll]
  | d :: ds => by simp [fineAll, fineAll_iff (ds := ds)]
theorem fineAll_map {α : Type} {c : Nat} {f : α → PyData} {xs : List α} (h : ∀ x ∈ xs, fine c (f x) = true) : fineAll c (xs.map f) = true :=
  fineAll_iff.mpr fun d hd => by
    obtain ⟨x, hx, rfl⟩ := List.mem_map.mp hd
    exact h x hx
theorem nodesAll_map {α : Type} {k : Nat} {f : α → PyData} : ∀ {xs : List α}, (∀ x ∈ xs, nodes (f x) ≤ k) → nodesAll (xs.map f) ≤ xs.length * k
  | [], _ => by simp [nodesAll]
  | x :: xs, h => by
    have h1 := h x List.mem_cons_self
    have h2 := nodesAll_map (f := f) (k := k) fun y hy => h y (List.mem_cons_of_mem x hy)
    rw [List.map_cons, nodesAll, List.length_cons, Nat.succ_mul]
    omega
theorem depthAll_map {α : Type} {k : Nat} {f : α → PyData} : ∀ {xs : List α}, (∀ x ∈ xs, (f x).depth ≤ k) → PyData.depthAll (xs.map f) ≤ k
  | [], _ => by simp [PyData.depthAll]
  | x :: xs, h => by
    have h1 := h x List.mem_cons_self
    have h2 := depthAll_map (f := f) (k := k) fun y hy => h y (List.mem_cons_of_mem x hy)
    rw [List.map_cons, PyData.depthAll]
    exact Nat.max_le.mpr ⟨h1, h2⟩
mutual
theorem fine_can {c : Nat} : ∀ d : PyData, fine c d = true → d.canLay0 = true
  | .none, _ => rfl
  | .bool _, _ => rfl
  | .int _, _ => rfl
  | .str _, h => by simp [fine] at h
  | .list ds, h => by
    rw [PyData.canLay0]
    exact fineAll_can ds (by simpa [fine] using h)
  | .tuple ds, h => by
    rw [PyData.canLay0]
    exact fineAll_can ds (by simpa [fine] using h)
  | .dict _, h => by simp [fine] at h
theorem fineAll_can {c : Nat} : ∀ ds : List PyData, fineAll c ds = true → PyData.canLayAll0 ds = true
  | [], _ => rfl
  | d :: ds, h => by
    have h' : fine c d = true ∧ fineAll c ds = true := by simpa [fineAll] using h
    rw [PyData.canLayAll0, fine_can d h'.1, fineAll_can ds h'.2]
    rfl
end
theorem pow_big {c : Nat} (hc : c ≤ 500) : 10 ^ c ≤ 2 ^ 1920 := Nat.le_trans (Nat.pow_le_pow_right (by decide) hc) (by decide +kernel)
mutual
theorem fine_show {c : Nat} (hc : c ≤ 500) : ∀ d : PyData, fine c d = true → d.showable = true
  | .none, _ => by simp [PyData.showable]
  | .bool _, _ => by simp [PyData.showable]
  | .int i, h => by
    have h' : i.natAbs < 10 ^ c := by simpa [fine] using h
    have := PySem.Flt.log2_lt_of (by decide : 0 < 1920) (Nat.lt_of_lt_of_le h' (pow_big hc))
    simpa [PyData.showable] using this
  | .str _, h => by simp [fine] at h
  | .list ds, h => by
    rw [PyData.showable]
    exact fineAll_show hc ds (by simpa [fine] using h)
  | .tuple ds, h => by
    rw [PyData.showable]
    exact fineAll_show hc ds (by simpa [fine] using h)
  | .dict _, h => by simp [fine] at h
theorem fineAll_show {c : Nat} (hc : c ≤ 500) : ∀ ds : List PyData, fineAll c ds = true → PyData.showableAll ds = true
  | [], _ => by simp [PyData.showableAll]
  | d :: ds, h => by
    have h' : fine c d = true ∧ fineAll c ds = true := by simpa [fineAll] using h
    rw [PyData.showableAll, fine_show hc d h'.1, fineAll_show hc ds h'.2]
    rfl
end
mutual
theorem fine_eqv {c : Nat} : ∀ d : PyData, fine c d = true → PyData.eqv d d = true
  | .none, _ => by simp [PyData.eqv]
  | .bool _, _ => by simp [PyData.eqv]
  | .int _, _ => by simp [PyData.eqv]
  | .str _, h => by simp [fine] at h
  | .list ds, h => by
    rw [PyData.eqv]
    exact fineAll_eqv ds (by simpa [fine] using h)
  | .tuple ds, h => by
    rw [PyData.eqv]
    exact fineAll_eqv ds (by simpa [fine] using h)
  | .dict _, h => by simp [fine] at h
theorem fineAll_eqv {c : Nat} : ∀ ds : List PyData, fineAll c ds = true → PyData.eqvAll ds ds = true
  | [], _ => by simp [PyData.eqvAll]
  | d :: ds, h => by
    have h' : fine c d = true ∧ fineAll c ds = true := by simpa [fineAll] using h
    rw [PyData.eqvAll, fine_eqv d h'.1, fineAll_eqv ds h'.2]
    rfl
end
theorem len_of (s : String) : ((s : Str)).length = s.length := PySem.ofString_length s
mutual
theorem fine_len {c : Nat} : ∀ d : PyData, fine c d = true → d.shown.length + 3 ≤ (c + 8) * nodes d
  | .none, _ => by
    rw [PyData.shown, len_of, nodes]
    have e : "None".length = 4 := rfl
    omega
  | .bool b, _ => by
    have e1 : "True".length = 4 := rfl
    have e2 : "False".length = 5 := rfl
    rw [PyData.shown, nodes]
    cases b
    · simp only [Bool.false_eq_true, if_false]
      rw [len_of]
      omega
    · simp only [if_true]
      rw [len_of]
      omega
  | .int i, h => by
    have h' : i.natAbs < 10 ^ c := by simpa [fine] using h
    rw [PyData.shown, len_of, nodes]
    by_cases hc : 0 < c
    · have := int_text_length_le10 hc h'
      omega
    · have e : c = 0 := by omega
      subst e
      have e2 : i = 0 := by
        have : i.natAbs < 1 := h'
        omega
      subst e2
      have e3 : (toString (0 : Int)).length = 1 := by decide
      omega
  | .str _, h => by simp [fine] at h
  | .list ds, h => by
    have h1 := fineAll_len ds (by simpa [fine] using h)
    have h2 := listText_len_le (PyData.shownAll ds)
    have e := Nat.mul_add (c + 8) 1 (nodesAll ds)
    rw [PyData.shown, nodes]
    omega
  | .tuple ds, h => by
    have h1 := fineAll_len ds (by simpa [fine] using h)
    have h2 := tupleText_len_le (PyData.shownAll ds)
    have e := Nat.mul_add (c + 8) 1 (nodesAll ds)
    rw [PyData.shown, nodes]
    omega
  | .dict _, h => by simp [fine] at h
theorem fineAll_len {c : Nat} : ∀ ds : List PyData, fineAll c ds = true → ((PyData.shownAll ds).map (·.length)).sum + 3 * (PyData.shownAll ds).length ≤ (c + 8) * nodesAll ds
  | [], _ => by simp [PyData.shownAll, nodesAll]
  | d :: ds, h => by
    have h' : fine c d = true ∧ fineAll c ds = true := by simpa [fineAll] using h
    have h1 := fine_len d h'.1
    have h2 := fineAll_len ds h'.2
    have e := Nat.mul_add (c + 8) (nodes d) (nodesAll ds)
    rw [PyData.shownAll, nodesAll, List.map_cons, List.sum_cons, List.length_cons]
    omega
end
/-- what repr and == ask of data -/
structure Good (d : PyData) : Prop where
  shaped : SeqAt.shaped d = true
  showable : d.showable = true
  noDict : d.hasDict = false
  deep : d.depth ≤ 50
  fits : d.shown.length ≤ sizeLine
  refl : PyData.eqv d d = true
theorem Good.of {c : Nat} {d : PyData} (h : fine c d = true) (hc : c ≤ 500) (hd : d.depth ≤ 50) (hn : (c + 8) * nodes d ≤ 16777216) : Good d :=
  ⟨by unfold SeqAt.shaped; rw [fine_can d h, Bool.true_and]; exact decide_eq_true (by omega), fine_show hc d h, PyData.hasDict_of_canLay d (fine_can d h), hd, by have := fine_len d h; rw [sizeLine_eq]; omega, fine_eqv d h⟩
theorem Good.int {c : Nat} {i : Int} (h : i.natAbs < 10 ^ c) (hc : c ≤ 500) : Good (.int i) :=
  Good.of (c := c) (by simpa [fine] using h) hc (by simp [PyData.depth]) (by rw [nodes]; omega)
theorem Good.eqD {K : PySem.W.Frag} {H : Hp} {x y : V} {d : PyData} {Q : VK} (g : Good d) (hx : Dp K H x d) (hy : Dp K H y d) (q : Q (.bl true) H) : rEqD K x y H Q :=
  ⟨d, d, hx, hy, g.shaped, g.shaped, by rw [g.refl]; exact q⟩
theorem Good.neD {K : PySem.W.Frag} {H : Hp} {x y : V} {d : PyData} {Q : VK} (g : Good d) (hx : Dp K H x d) (hy : Dp K H y d) (q : Q (.bl false) H) : rNeD K x y H Q :=
  ⟨d, d, hx, hy, g.shaped, g.shaped, by rw [g.refl]; exact q⟩
theorem Good.rep {K : PySem.W.Frag} {H : Hp} {a : Addr} {d : PyData} {Q : VK} (g : Good d) (hx : Dp K H (.ref a) d) (q : Q (.str d.shown) H) : rRepr K [.ref a] H Q :=
  ⟨a, d, rfl, hx, g.showable, g.noDict, g.deep, g.fits, q⟩

/-! ### data that stands in the heap, its nodes where N says -/
mutual
inductive Rp (N : Addr → Prop) (H : Hp) : V → PyData → Prop
  | non : Rp N H .non .none
  | bl (b : Bool) : Rp N H (.bl b) (.bool b)
  | int (i : Int) : Rp N H (.int i) (.int i)
  | lst {a : Addr} {xs : List V} {ds : List PyData} : N a → H a = some (.lst xs) → RpA N H xs ds → Rp N H (.ref a) (.list ds)
  | tup {a : Addr} {xs : List V} {ds : List PyData} : N a → H a = some (.tup xs) → RpA N H xs ds → Rp N H (.ref a) (.tuple ds)
inductive RpA (N : Addr → Prop) (H : Hp) : List V → List PyData → Prop
  | nil : RpA N H [] []
  | cons {v : V} {vs : List V} {d : PyData} {ds : List PyData} : Rp N H v d → RpA N H vs ds → RpA N H (v :: vs) (d :: ds)
end
section
variable {N N' : Addr → Prop} {H H' : Hp} {K : PySem.W.Frag}
mutual
theorem Rp.mono (hN : ∀ a, N a → N' a) (hH : ∀ a o, N a → H a = some o → H' a = some o) : ∀ (d : PyData) (v : V), Rp N H v d → Rp N' H' v d
  | .none, _, h => by cases h; exact .non
  | .bool b, _, h => by cases h; exact .bl b
  | .int i, _, h => by cases h; exact .int i
  | .str _, _, h => by cases h
  | .list ds, _, h => by
    cases h with
    | lst n e r => exact .lst (hN _ n) (hH _ _ n e) (RpA.mono hN hH ds _ r)
  | .tuple ds, _, h => by
    cases h with
    | tup n e r => exact .tup (hN _ n) (hH _ _ n e) (RpA.mono hN hH ds _ r)
  | .dict _, _, h => by cases h
theorem RpA.mono (hN : ∀ a, N a → N' a) (hH : ∀ a o, N a → H a = some o → H' a = some o) : ∀ (ds : List PyData) (vs : List V), RpA N H vs ds → RpA N' H' vs ds
  | [], _, h => by cases h; exact .nil
  | d :: ds, _, h => by
    cases h with
    | cons h1 h2 => exact .cons (Rp.mono hN hH d _ h1) (RpA.mono hN hH ds _ h2)
end
mutual
theorem Rp.dp : ∀ (d : PyData) (v : V), Rp N H v d → Dp K H v d
  | .none, _, h => by cases h; exact .non
  | .bool b, _, h => by cases h; exact .bl b
  | .int i, _, h => by cases h; exact .int i
  | .str _, _, h => by cases h
  | .list ds, _, h => by
    cases h with
    | lst n e r => exact .lst (SqL.of e) (RpA.dp ds _ r)
  | .tuple ds, _, h => by
    cases h with
    | tup n e r => exact .tup (SqT.of e) (RpA.dp ds _ r)
  | .dict _, _, h => by cases h
theorem RpA.dp : ∀ (ds : List PyData) (vs : List V), RpA N H vs ds → DpAll K H vs ds
  | [], _, h => by cases h; exact .nil
  | d :: ds, _, h => by
    cases h with
    | cons h1 h2 => exact .cons (Rp.dp d _ h1) (RpA.dp ds _ h2)
end
theorem Rp.same {v : V} {d : PyData} (h : Rp N H v d) (s : Same H H') : Rp N H' v d := Rp.mono (fun _ z => z) (fun a o _ e => s a o e) d v h
theorem RpA.same {vs : List V} {ds : List PyData} (h : RpA N H vs ds) (s : Same H H') : RpA N H' vs ds := RpA.mono (fun _ z => z) (fun a o _ e => s a o e) ds vs h
theorem Rp.grow {a : Addr} {v : V} {d : PyData} (h : Rp (· ≠ a) H v d) (g : Grow a H H') : Rp (· ≠ a) H' v d := Rp.mono (fun _ z => z) (fun b o n e => g b o n e) d v h
theorem RpA.grow {a : Addr} {vs : List V} {ds : List PyData} (h : RpA (· ≠ a) H vs ds) (g : Grow a H H') : RpA (· ≠ a) H' vs ds := RpA.mono (fun _ z => z) (fun b o n e => g b o n e) ds vs h
theorem Rp.off {a : Addr} {v : V} {d : PyData} {o : HO} (h : Rp (fun p => H p = none) H' v d) (e : H a = some o) : Rp (· ≠ a) H' v d := Rp.mono (fun b z => fun q => by rw [q, e] at z; cases z) (fun _ _ _ z => z) d v h
theorem RpA.length {vs : List V} {ds : List PyData} (h : RpA N H vs ds) : vs.length = ds.length := by
  induction ds generalizing vs with
  | nil => cases h; rfl
  | cons d ds ih =>
    cases h with
    | cons h1 h2 => rw [List.length_cons, List.length_cons, ih h2]
theorem RpA.app {vs us : List V} {ds es : List PyData} (h : RpA N H vs ds) (h' : RpA N H us es) : RpA N H (vs ++ us) (ds ++ es) := by
  induction ds generalizing vs with
  | nil => cases h; exact h'
  | cons d ds ih =>
    cases h with
    | cons h1 h2 => exact .cons h1 (ih h2)
theorem RpA.snoc {vs : List V} {ds : List PyData} {v : V} {d : PyData} (h : RpA N H vs ds) (h' : Rp N H v d) : RpA N H (vs ++ [v]) (ds ++ [d]) := h.app (.cons h' .nil)
theorem RpA.get {vs : List V} {ds : List PyData} (h : RpA N H vs ds) : ∀ {i : Nat} {d : PyData}, ds[i]? = some d → ∃ v, vs[i]? = some v ∧ Rp N H v d := by
  induction ds generalizing vs with
  | nil => intro i d e; simp at e
  | cons d0 ds ih =>
    cases h with
    | cons h1 h2 =>
      intro i d e
      cases i with
      | zero =>
        simp at e
        subst e
        exact ⟨_, rfl, h1⟩
      | succ i =>
        obtain ⟨v, e1, e2⟩ := ih h2 (i := i) (by simpa using e)
        exact ⟨v, by simpa using e1, e2⟩
theorem RpA.getV {vs : List V} {ds : List PyData} (h : RpA N H vs ds) {i : Nat} {v : V} (e : vs[i]? = some v) : ∃ d, ds[i]? = some d ∧ Rp N H v d := by
  have hi : i < ds.length := by
    have := (List.getElem?_eq_some_iff.mp e).1
    rw [← h.length]
    exact this
  obtain ⟨u, e1, e2⟩ := h.get (List.getElem?_eq_getElem hi)
  rw [e] at e1
  cases e1
  exact ⟨_, List.getElem?_eq_getElem hi, e2⟩
theorem RpA.ints (ns : List Int) : RpA N H (ns.map V.int) (ns.map PyData.int) := by
  induction ns with
  | nil => exact .nil
  | cons n ns ih => exact .cons (.int n) ih
theorem RpA.dropLast {vs : List V} {ds : List PyData} (h : RpA N H vs ds) : RpA N H vs.dropLast ds.dropLast := by
  induction ds generalizing vs with
  | nil => cases h; exact .nil
  | cons d ds ih =>
    cases h with
    | cons h1 h2 =>
      cases h2 with
      | nil => exact .nil
      | cons h3 h4 => exact .cons h1 (ih (.cons h3 h4))
theorem RpA.set {vs : List V} {ds : List PyData} (h : RpA N H vs ds) {v : V} {d : PyData} (h' : Rp N H v d) : ∀ i : Nat, RpA N H (vs.set i v) (ds.set i d) := by
  induction ds generalizing vs with
  | nil => cases h; intro i; exact .nil
  | cons d0 ds ih =>
    cases h with
    | cons h1 h2 =>
      intro i
      cases i with
      | zero => exact .cons h' h2
      | succ i => exact .cons h1 (ih h2 i)
end
theorem Rp.put {v : V} {d : PyData} {p : Addr} {o : HO} (h : Rp N H v d) (n : ¬ N p) : Rp N (upd H p o) v d := Rp.mono (fun _ z => z) (fun a u k e => (upd_ne (fun q => n (by rw [← q]; exact k))).trans e) d v h
theorem RpA.put {vs : List V} {ds : List PyData} {p : Addr} {o : HO} (h : RpA N H vs ds) (n : ¬ N p) : RpA N (upd H p o) vs ds := RpA.mono (fun _ z => z) (fun a u k e => (upd_ne (fun q => n (by rw [← q]; exact k))).trans e) ds vs h
theorem Rp.new {v : V} {d : PyData} {p : Addr} {o : HO} (h : Rp N H v d) (e : H p = none) : Rp N (upd H p o) v d := h.same (Same.new (Same.refl H) e)
theorem RpA.new {vs : List V} {ds : List PyData} {p : Addr} {o : HO} (h : RpA N H vs ds) (e : H p = none) : RpA N (upd H p o) vs ds := h.same (Same.new (Same.refl H) e)
theorem RpA.unsnoc : ∀ {ds : List PyData} {vs : List V} {d : PyData}, RpA N H vs (ds ++ [d]) → ∃ vs' v, vs = vs' ++ [v] ∧ RpA N H vs' ds ∧ Rp N H v d
  | [], _, d, h => by
    cases h with
    | cons h1 h2 =>
      cases h2
      exact ⟨[], _, rfl, .nil, h1⟩
  | d0 :: ds, _, d, h => by
    cases h with
    | cons h1 h2 =>
      obtain ⟨vs', v, rfl, h3, h4⟩ := RpA.unsnoc h2
      exact ⟨_ :: vs', v, rfl, .cons h1 h3, h4⟩
theorem set_last {α : Type} (xs : List α) (x y : α) : (xs ++ [x]).set xs.length y = xs ++ [y] := by
  induction xs with
  | nil => rfl
  | cons z xs ih => rw [List.cons_append, List.length_cons, List.set_cons_succ, ih]; rfl
theorem ixN_last {α : Type} (xs : List α) (x : α) : ixN (xs ++ [x]).length (-1) = some xs.length := by
  rw [List.length_append, List.length_singleton]
  unfold ixN
  rw [if_neg (by decide), if_pos (by omega)]
  congr 1
  omega
/-- new, and not the list that grows -/
abbrev Nw (H : Hp) (p : Addr) (a : Addr) : Prop := H a = none ∧ a ≠ p
abbrev New (H : Hp) (a : Addr) : Prop := H a = none
theorem nw_not {H : Hp} {p : Addr} : ¬ Nw H p p := fun z => z.2 rfl
/-- a list of ints stands -/
theorem Grow.seq {K : PySem.W.Frag} {a l : Addr} {H H' : Hp} {xs : List V} (g : Grow a H H') (n : l ≠ a) (h : SqL K H l xs) : SqL K H' l xs := by
  rcases h with (h | ⟨o, h⟩) | h
  · exact .inl (.inl (g _ _ n h))
  · exact .inl (.inr ⟨o, g _ _ n h⟩)
  · exact .inr h
theorem _root_.L2.Same.tracked {H H' : Hp} (e : Same H H') {a : Addr} (h : H a ≠ none) : H' a ≠ none := fun z => h (e.free z)
end G

namespace G
open PySem PySem.Spec PyProof.Rows L2
/-! ### the head's facts, one more look among them -/
abbrev AlE : Type := He.AlD × Bool
def obsE (n : Nat) (fa : List He.Fa) (fn : List He.DefD) (ex : PySem.W.Frag → Bool) (g : Addr → Option Obj) : AlE :=
  (He.obsD fa fn (He.frG g (He.asD g n)), ex (He.frG g (He.asD g n)))
def hookE (n : Nat) (fa : List He.Fa) (fn : List He.DefD) (ex : PySem.W.Frag → Bool) : PySem.W.Hook where
  α := AlE
  obs := fun s => obsE n fa fn ex s.heap.get?
  val := fun _ => (He.valD fn, true)
  says := fun _ h => ∃ K : PySem.W.Frag, K.In h ∧ He.SaysD fa fn K ∧ ex K = true
  of := fun _ _ e => ⟨_, He.frG_in, congrArg (fun z : AlE => z.1) e, congrArg (fun z : AlE => z.2) e⟩
  keeps := by
    rintro _ _ _ ⟨K, z1, z2, z3⟩ k
    exact ⟨K, PySem.W.Frag.In.keeps z1 k, z2, z3⟩
theorem obsE_eq {n : Nat} {fa : List He.Fa} {fn : List He.DefD} {ex : PySem.W.Frag → Bool} {g : Addr → Option Obj} {s : Shared} (h : ∀ a, g a = s.heap.get? a) : obsE n fa fn ex g = (hookE n fa fn ex).obs s := by
  have e : g = s.heap.get? := funext h
  rw [e] <;> rfl
/-! ### a call without arguments -/
def spec0 (R : Hp → VK → XK → Prop) : Sp := fun vs H Q E => vs = [] ∧ R H Q E
theorem ar0 {R : Hp → VK → XK → Prop} (vs : List V) (H : Hp) (Q : VK) (E : XK) (h : spec0 R vs H Q E) : vs.length = 0 := by
  obtain ⟨rfl, _⟩ := h
  rfl
theorem pe_cl0 {X : Cx} {k j n : Nat} {sp : Sp} {dvs : List V} {x : Str} {p pos : Pos} (C : Cl X.prog X.w X.K X.mg X.base k x n dvs sp) (g : X.A.guards = some []) (hr : Room j X.A) (hkj : k ≤ j) (hg : Gl X x) (hdb : (x == ("__debug__" : Str)) = false := by decide) :
    PE X (.Call (.Name x p) [] [] pos) (tCl sp dvs n tNil) := by
  obtain ⟨f, fd, ps, us0, F, _, hm, hk, hb, hd⟩ := C.ex
  constructor
  intro pins s σ H Q I h
  refine wpAny_Call_Name_kw (ld_glob I hg hm ?_ hdb)
  refine PySem.W.callWith_K0 I.kIn hk ?_
  have q : sp ([] ++ dvs) H Q E0 := h
  have hl : ([] ++ us0).length = ps.length := (show Vals ([] ++ dvs) ([] ++ us0) from hd).length.symm.trans (F.arity _ _ _ _ q)
  refine wpAny_call (codeAny_mono (F.go g (hr.mono hkj) I.env0 (hb s [] I.kIn hl) (show Vals ([] ++ dvs) ([] ++ us0) from hd) q) ?_)
  intro r s' z
  obtain ⟨u, z1, z2⟩ := after I z
  subst z1
  exact z2
/-! ### data that is only compared -/
theorem can_map {α : Type} {f : α → PyData} : ∀ {xs : List α}, (∀ x ∈ xs, (f x).canLay0 = true) → PyData.canLayAll0 (xs.map f) = true
  | [], _ => by simp [PyData.canLayAll0]
  | x :: xs, h => by
    rw [List.map_cons, PyData.canLayAll0, h x List.mem_cons_self, can_map fun y hy => h y (List.mem_cons_of_mem _ hy)]
    rfl
theorem shaped_map {α : Type} {f : α → PyData} {xs : List α} (h : ∀ x, (f x).canLay0 = true) (hd : ∀ x, (f x).depth ≤ 60) : SeqAt.shaped (.list (xs.map f)) = true := by
  unfold SeqAt.shaped
  rw [PyData.canLay0, can_map fun x _ => h x, Bool.true_and]
  refine decide_eq_true ?_
  rw [PyData.depth]
  have := depthAll_map (f := f) (xs := xs) (k := 60) fun x _ => hd x
  omega
theorem eqv_map {α : Type} [DecidableEq α] {f : α → PyData} (h : ∀ x y, PyData.eqv (f x) (f y) = decide (x = y)) : ∀ (xs ys : List α), PyData.eqvAll (xs.map f) (ys.map f) = decide (xs = ys)
  | [], [] => by simp [PyData.eqvAll]
  | [], y :: ys => by simp [PyData.eqvAll]
  | x :: xs, [] => by simp [PyData.eqvAll]
  | x :: xs, y :: ys => by
    rw [List.map_cons, List.map_cons, PyData.eqvAll, h, eqv_map h xs ys, Bool.eq_iff_iff]
    simp
theorem eqv_list {α : Type} [DecidableEq α] {f : α → PyData} (h : ∀ x y, PyData.eqv (f x) (f y) = decide (x = y)) (xs ys : List α) : PyData.eqv (.list (xs.map f)) (.list (ys.map f)) = decide (xs = ys) := by
  rw [PyData.eqv, eqv_map h]
theorem eqv_int (i j : Int) : PyData.eqv (.int i) (.int j) = decide (i = j) := by
  rw [PyData.eqv, Bool.eq_iff_iff]
  simp
theorem vals_getD : ∀ {zs : List V} {ws : List Value}, Vals zs ws → ∀ i : Nat, RelV (zs.getD i .non) (ws.getD i .none)
  | [], [], _, _ => rfl
  | _ :: _, _ :: _, .cons r _, 0 => r
  | _ :: zs, _ :: ws, .cons _ t, i + 1 => by
    simpa using vals_getD t i
/-! ### a test that comes out false -/
theorem if_skip {c : TT} {t u : TS} {D : Ends} {σ : L2.St} {H : Hp} (R : Hp → Prop) (hc : ∀ Q : Bool → Hp → Prop, (∀ H', R H' → Q false H') → c σ H Q) (k : ∀ H', R H' → u D σ H') : tIfS c t u D σ H :=
  hc _ fun H' r => by
    rw [if_neg Bool.false_ne_true]
    exact k H' r
theorem if_take {c : TT} {t u : TS} {D : Ends} {σ : L2.St} {H : Hp} (R : Hp → Prop) (hc : ∀ Q : Bool → Hp → Prop, (∀ H', R H' → Q true H') → c σ H Q) (k : ∀ H', R H' → t D σ H') : tIfS c t u D σ H :=
  hc _ fun H' r => by
    rw [if_pos rfl]
    exact k H' r
theorem good_ints {c : Nat} {ns : List Int} (h : ∀ x ∈ ns, x.natAbs < 10 ^ c) (hc : c ≤ 500) (hn : (c + 8) * (ns.length + 1) ≤ 16777216) : Good (.list (ns.map PyData.int)) := by
  refine Good.of (c := c) ?_ hc ?_ ?_
  · rw [fine]
    exact fineAll_map fun x hx => by simpa [fine] using h x hx
  · rw [PyData.depth]
    have := depthAll_map (f := PyData.int) (xs := ns) (k := 0) fun x _ => by simp [PyData.depth]
    omega
  · rw [nodes]
    have := nodesAll_map (f := PyData.int) (xs := ns) (k := 1) fun x _ => by simp [nodes]
    have := Nat.mul_le_mul_left (c + 8) (show 1 + nodesAll (ns.map PyData.int) ≤ ns.length + 1 by omega)
    omega
theorem dp_ints {K : PySem.W.Frag} {H : Hp} {a : Addr} {ns : List Int} (h : SqL K H a (ns.map V.int)) : Dp K H (.ref a) (.list (ns.map PyData.int)) :=
  .lst h (RpA.dp (N := fun _ => True) _ _ (RpA.ints ns))
/-! ### lists of numbers -/
def nV (k : Nat) : V := .int (k : Int)
def nsV (l : List Nat) : List V := l.map nV
theorem nsV_ints (l : List Nat) : nsV l = (l.map fun k : Nat => (k : Int)).map V.int := by unfold nsV; rw [List.map_map]; rfl
theorem nsV_snoc (l : List Nat) (k : Nat) : nsV (l ++ [k]) = nsV l ++ [.int (k : Int)] := by unfold nsV; rw [List.map_append]; rfl
theorem map_range_at {α : Type} {N i : Nat} {f : Nat → α} (h : i < N) : atI ((List.range N).map f) (i : Int) = some (f i) := atI_nat (by rw [List.getElem?_map, List.getElem?_range h]; rfl)
theorem map_range_set {α : Type} {N i : Nat} {f : Nat → α} {v : α} : ((List.range N).map f).set i v = (List.range N).map fun k => if k = i then v else f k := by
  apply List.ext_getElem?
  intro j
  rw [List.getElem?_set, List.getElem?_map, List.getElem?_map]
  by_cases h : j < N
  · rw [List.getElem?_range h]
    by_cases e : i = j
    · subst e
      rw [if_pos rfl, if_pos (by simp [h])]
      simp
    · rw [if_neg e]
      simp [show ¬ j = i from fun z => e z.symm]
  · have : (List.range N)[j]? = none := List.getElem?_eq_none (by simp; omega)
    rw [this]
    split
    · split
      · rename_i z
        simp at z
        omega
      · rfl
    · rfl
theorem ixN_nat {N i : Nat} (h : i < N) : ixN N (i : Int) = some i := by
  unfold ixN
  rw [if_pos (by omega), if_pos (by omega)]
  simp
theorem len_map_range {α : Type} {N : Nat} {f : Nat → α} : ((List.range N).map f).length = N := by simp
theorem rep_flat {α : Type} {n : Nat} {x : α} : (List.replicate n [x]).flatten = (List.range n).map fun _ => x := by
  induction n with
  | zero => rfl
  | succ n ih =>
    rw [List.replicate_succ', List.flatten_append, ih, List.range_succ, List.map_append]
    rfl
theorem small_sz {n : Nat} (h : n ≤ 16777216) : n ≤ sizeLine := by rw [sizeLine_eq]; exact h
theorem small_lt {n : Nat} (h : n < 16777216) : n < sizeLine := by rw [sizeLine_eq]; exact h
/-! ### range(i, j, c), any positive step -/
/-- how many turns -/
def turns (i j c : Int) : Nat := if i < j then ((j - i - 1) / c + 1).toNat else 0
theorem turns_size {i j c : Int} (hc : 0 < c) : Builtin.Range.rangeSize i j c = (turns i j c : Int) := by
  unfold Builtin.Range.rangeSize turns
  rw [if_pos hc]
  by_cases h : i < j
  · rw [if_pos h, if_pos h]
    have : 0 ≤ (j - i - 1) / c := Int.ediv_nonneg (by omega) (by omega)
    omega
  · rw [if_neg h, if_neg h]
    rfl
theorem turns_le {i j c : Int} (hc : 0 < c) (h : i ≤ j) : (turns i j c : Int) ≤ j - i := by
  unfold turns
  by_cases h : i < j
  · rw [if_pos h]
    have h1 : 0 ≤ (j - i - 1) / c := Int.ediv_nonneg (by omega) (by omega)
    have h2 : (j - i - 1) / c ≤ j - i - 1 := Int.ediv_le_self _ (by omega)
    omega
  · rw [if_neg h]
    omega
/-- a turn lies below the end -/
theorem turns_lt {i j c : Int} {k : Nat} (hc : 0 < c) (h : k < turns i j c) : i + k * c < j := by
  unfold turns at h
  by_cases hij : i < j
  · rw [if_pos hij] at h
    have h1 : 0 ≤ (j - i - 1) / c := Int.ediv_nonneg (by omega) (by omega)
    have h2 : (k : Int) ≤ (j - i - 1) / c := by omega
    have h3 : (k : Int) * c ≤ j - i - 1 := (Int.le_ediv_iff_mul_le hc).mp h2
    omega
  · rw [if_neg hij] at h
    omega
/-- and what lies below the end is a turn -/
theorem turns_mem {i j c : Int} {k : Nat} (hc : 0 < c) (h : i + k * c < j) : k < turns i j c := by
  unfold turns
  have hk : 0 ≤ (k : Int) * c := Int.mul_nonneg (by omega) (by omega)
  rw [if_pos (by omega)]
  have : (k : Int) ≤ (j - i - 1) / c := (Int.le_ediv_iff_mul_le hc).mpr (by omega)
  omega
def RgW (i j c : Int) : Prop := 0 ≤ i ∧ 0 ≤ j ∧ 0 < c ∧ i < 2 ^ 61 ∧ j < 2 ^ 61 ∧ c < 2 ^ 61
theorem RgW.fits {i j c : Int} (h : RgW i j c) : Builtin.Range.small i j c = true := by
  obtain ⟨h1, h2, h3, h4, h5, h6⟩ := h
  unfold Builtin.Range.small
  rw [turns_size h3]
  have h7 : 0 ≤ (turns i j c : Int) ∧ (turns i j c : Int) < 2 ^ 62 := by
    by_cases hij : i ≤ j
    · have := turns_le h3 hij
      omega
    · have : turns i j c = 0 := by unfold turns; rw [if_neg (by omega)]
      omega
  simp only [Builtin.Range.rangeFitsLong, Bool.and_eq_true, Bool.or_eq_true, decide_eq_true_eq, beq_iff_eq]
  rw [if_pos (show c > 0 from h3)]
  simp only [Bool.and_eq_true, decide_eq_true_eq]
  omega
def iRngW (ta : TA) : TI := fun σ H R => ta σ H fun vs H1 => ∃ i j c : Int, vs = [.int i, .int j, .int c] ∧ RgW i j c ∧ R (Itc i c (turns i j c)) H1
theorem pi_rangeW {X : Cx} {tg a b c : Expr} {ta : TA} {p pos : Pos} (hg : Gl X "range") (hm : X.mg "range" = none) (ha : PA X [a, b, c] ta)
    (hs : starEach [a, b, c] X.env = (false, eval a X.env) :: starEach [b, c] X.env := by rfl) (hpl : (backTo pos (starEach [b, c] X.env)).any (·.1) = false := by rfl) :
    PI X tg (.Call (.Name "range" p) [a, b, c] [] pos) (iRngW ta) := by
  constructor
  intro pins s σ H R I h
  refine Call_ (ld_blt I hg hm boot_range (PyProof.Rows.callWith_type1 (thn (ha.run pos pins s σ H _ I h) ?_) hs hpl))
  rintro us s1 ⟨vs, H1, I1, r1, i, j, k, e, hw, q⟩
  subst e
  have hk : 0 < k := hw.2.2.1
  obtain ⟨t, t', t'', rfl⟩ : ∃ t t' t'', us = [Value.int i t, Value.int j t', Value.int k t''] := by
    match us, r1 with
    | [_, _, _], .cons ⟨t, z⟩ (.cons ⟨t', z'⟩ (.cons ⟨t'', z''⟩ .nil)) => exact ⟨t, t', t'', by rw [z, z', z'']⟩
  have lo : k.natAbs < 2 ^ 61 := by
    have := hw.2.2.2.2.2
    omega
  refine call_range_3 (by omega) ?_ (.inl (PyProof.noPylong_of_log2 (Nat.lt_of_lt_of_le (PySem.Flt.log2_lt_of (by decide) lo) (by decide))))
  refine wpAny_pyIter_range (IsRange.new ..) hw.fits ?_
  have I2 : Inv X pins σ H1 { s1 with heap := s1.heap.push { cls := .type "range", data := .fields #[.int i t, .int j t', .int k t''] } } := I1.kept (t' := s1.toks) fun b o e => Heap.get?_push_of_some _ e
  refine pi_one (tk := s1.toks) I2 _ (turn_rangeC _ i k (turns i j k)) ?_ q
  have z1 : i + ((0 : Nat) : Int) * k = i := by simp
  have z2 : (turns i j k : Int) - ((0 : Nat) : Int) = Builtin.Range.rangeSize i j k := by rw [turns_size hk]; simp
  show IsRangeIter _ _ (i + ((0 : Nat) : Int) * k) ((turns i j k : Int) - ((0 : Nat) : Int)) k
  rw [z1, z2]
  exact Heap.get?_push_size _ rfl
/-! ### rules inside a comprehension: the fragment named -/
theorem kIx (R : PySem.W.Frag → V → V → Hp → VK → Prop) {X : Cx} {K : PySem.W.Frag} (h : X.K = K) (t : IxR X (R X.K)) : IxR X (R K) := h ▸ t
theorem kSl (R : PySem.W.Frag → V → Option Int → Option Int → Hp → VK → Prop) {X : Cx} {K : PySem.W.Frag} (h : X.K = K) (t : SlR X (R X.K)) : SlR X (R K) := h ▸ t
theorem kPi (R : PySem.W.Frag → TI) {X : Cx} {K : PySem.W.Frag} {tg l : Expr} (h : X.K = K) (t : PI X tg l (R X.K)) : PI X tg l (R K) := h ▸ t
theorem kPt (R : PySem.W.Frag → TT) {X : Cx} {K : PySem.W.Frag} {e : Expr} (h : X.K = K) (t : PT X e (R X.K)) : PT X e (R K) := h ▸ t
theorem kOp (R : PySem.W.Frag → V → V → Hp → VK → Prop) {X : Cx} {K : PySem.W.Frag} {f : Value → Value → Sem Value} (h : X.K = K) (t : OpR X f (R X.K)) : OpR X f (R K) := h ▸ t
theorem kCall (R : PySem.W.Frag → List V → Hp → VK → Prop) {X : Cx} {K : PySem.W.Frag} {f : Value} (h : X.K = K) (t : CallR X f (R X.K)) : CallR X f (R K) := h ▸ t
def rLenS (K : PySem.W.Frag) : List V → Hp → VK → Prop := fun xs H Q => ∃ p ys, xs = [.ref p] ∧ (SqL K H p ys ∨ SqT K H p ys) ∧ Q (.int ys.length) H
def rListOf (K : PySem.W.Frag) : List V → Hp → VK → Prop := fun xs H Q => ∃ p ys, xs = [.ref p] ∧ (SqL K H p ys ∨ SqT K H p ys) ∧ ∀ l, H l = none → Q (.ref l) (upd H l (.lst ys))
def tTru (ta : TE) (K : PySem.W.Frag) : TT := fun σ H Q => ta σ H fun x H' => ∃ k, TruV K x H' k ∧ Q k H'
/-- a scope within a scope -/
def relS (scope sc : Scope) : Scope := { scope with names := scope.names.map fun (n, k) => if (k == .free && sc.kind == .function && sc.names.lookup n == some .cell) then (n, .cell) else (n, k) }
theorem blkOk_in {N : List Str} {outer sc scope : Scope} {cl : List (Str × Addr)} {C : Addr} {env : Env} {own : List (Str × Nat)} (he : env.scope = sc) (h : blkC N (relS outer sc) scope own = true) : BlkOk N (compEnvC outer cl C env).scope scope own := by
  subst he
  exact blkOk_by h
end G

namespace G
open PySem PySem.Spec PyProof.Rows L2
theorem SqL.same {K : PySem.W.Frag} {l : Addr} {xs : List V} {H H' : Hp} (s : Same H H') (h : SqL K H l xs) : SqL K H' l xs := by
  rcases h with (h | ⟨o, h⟩) | h
  · exact .inl (.inl (s _ _ h))
  · exact .inl (.inr ⟨o, s _ _ h⟩)
  · exact .inr h
theorem SqT.same {K : PySem.W.Frag} {l : Addr} {xs : List V} {H H' : Hp} (s : Same H H') (h : SqT K H l xs) : SqT K H' l xs := Same.tup s h
theorem Rp.lift {H H1 H' : Hp} {v : V} {d : PyData} (h : Rp (New H1) H' v d) (s : Same H H1) : Rp (New H) H' v d := Rp.mono (fun a z => s.free z) (fun _ _ _ e => e) d v h
theorem RpA.lift {H H1 H' : Hp} {v : List V} {d : List PyData} (h : RpA (New H1) H' v d) (s : Same H H1) : RpA (New H) H' v d := RpA.mono (fun a z => s.free z) (fun _ _ _ e => e) d v h
theorem rpa_ints {N : Addr → Prop} {H : Hp} : ∀ {ns : List Int} {vs : List V}, RpA N H vs (ns.map PyData.int) → vs = ns.map V.int
  | [], _, h => by cases h; rfl
  | n :: ns, _, h => by
    cases h with
    | cons h1 h2 =>
      cases h1
      rw [rpa_ints h2]
      rfl
theorem rpa_bls {N : Addr → Prop} {H : Hp} : ∀ {ns : List Bool} {vs : List V}, RpA N H vs (ns.map PyData.bool) → vs = ns.map V.bl
  | [], _, h => by cases h; rfl
  | n :: ns, _, h => by
    cases h with
    | cons h1 h2 =>
      cases h1
      rw [rpa_bls h2]
      rfl
theorem Rp.ints {N : Addr → Prop} {H : Hp} {p : Addr} {ns : List Int} (h : Rp N H (.ref p) (.list (ns.map PyData.int))) : H p = some (.lst (ns.map V.int)) := by
  cases h with
  | lst n e r => rw [e, rpa_ints r]
theorem Rp.bls {N : Addr → Prop} {H : Hp} {p : Addr} {ns : List Bool} (h : Rp N H (.ref p) (.list (ns.map PyData.bool))) : H p = some (.lst (ns.map V.bl)) := by
  cases h with
  | lst n e r => rw [e, rpa_bls r]
theorem Rp.node {N : Addr → Prop} {H : Hp} {p : Addr} {ds : List PyData} (h : Rp N H (.ref p) (.list ds)) : N p ∧ ∃ vs, H p = some (.lst vs) ∧ RpA N H vs ds := by
  cases h with
  | lst n e r => exact ⟨n, _, e, r⟩
theorem Rp.isRef {N : Addr → Prop} {H : Hp} {v : V} {ds : List PyData} (h : Rp N H v (.list ds)) : ∃ p, v = .ref p ∧ N p ∧ ∃ vs, H p = some (.lst vs) ∧ RpA N H vs ds := by
  cases h with
  | lst n e r => exact ⟨_, rfl, n, _, e, r⟩
/-! ### comprehensions that only make new data -/
section
variable {g : TG} {tt : TT} {te : TE} {vs : List Nat} {σ : L2.St} {D : Addr} {Qd : Hp → Prop} {H1 : Hp}
theorem lcF_list {α : Type} {K : PySem.W.Frag} {a : Addr} {c : α → V} {src : List α} (p : α → Bool) (d : α → PyData) (hD : H1 D = none) (hS : SqL K H1 a (src.map c)) (hn : src.length < 16777216)
    (hs : ∀ (i : Nat) (x : α) (H : Hp) (R : V → Hp → Prop) (S : Hp → Prop), src[i]? = some x → Same H1 H → (p x = true → ∀ y H4, Same H H4 → Rp (New H) H4 y (d x) → R y H4) → (p x = false → ∀ H3, Same H H3 → S H3) →
      g (c x) (wipe σ vs) H fun σ2 H2 => wipe σ2 vs = wipe σ vs ∧ tt σ2 H2 fun b H3 => if b = true then te σ2 H3 R else S H3)
    (hd : ∀ H, Same H1 H → Rp (New H1) H (.ref D) (.list ((src.filter p).map d)) → Qd H) :
    ∃ W : Nat → Nat → Hp → Prop, (∃ m, W 0 m (upd H1 D (.lst []))) ∧ ∀ i m H, W i m H →
      ((Itl K a).stop i H ∧ Qd H) ∨ ((Itl K a).go i H ∧ ∃ Nx : Hp → Prop, (∀ H', Nx H' → ∃ m', m' < m ∧ W (i + 1) m' H') ∧ ∀ x H', (Itl K a).yld i H x H' → g x (wipe σ vs) H' fun σ2 H2 => wipe σ2 vs = wipe σ vs ∧ tt σ2 H2 fun b H3 =>
        if b = true then te σ2 H3 fun y H4 => ∃ acc, H4 D = some (.lst acc) ∧ acc.length < sizeLine ∧ Nx (upd H4 D (.lst (acc ++ [y]))) else Nx H3) := by
  refine lc_list (K := K) (a := a) (xs := src.map c) (fun i H => Same H1 H ∧ ∃ acc, acc.length ≤ i ∧ H D = some (.lst acc) ∧ RpA (Nw H1 D) H acc (((src.take i).filter p).map d)) ⟨(Same.refl _).new hD, [], Nat.le_refl 0, upd_same, .nil⟩ (fun i H _ z => SqL.same z.1 hS) ?_ ?_
  · rintro i x H hx ⟨s1, acc, al, eD, ra⟩
    rw [List.getElem?_map] at hx
    obtain ⟨z, hz, rfl⟩ := Option.map_eq_some_iff.mp hx
    have hi : i < src.length := (List.getElem?_eq_some_iff.mp hz).1
    have tk : src.take (i + 1) = src.take i ++ [z] := by rw [List.take_add_one, hz]; rfl
    refine hs i z H _ _ hz s1 (fun hp y H4 s4 ry => ?_) (fun hp H3 s3 => ?_)
    · refine ⟨acc, s4 _ _ eD, small_lt (by omega), (s1.trans s4).mut hD, acc ++ [y], by rw [List.length_append]; exact Nat.succ_le_succ al, upd_same, ?_⟩
      rw [tk, List.filter_append, List.map_append, List.filter_cons, hp]
      refine RpA.put ((ra.same s4).app (.cons (Rp.mono (fun b hb => ⟨s1.free hb, ne_of_none eD hb |>.symm⟩) (fun _ _ _ e => e) _ _ ry) .nil)) nw_not
    · refine ⟨s1.trans s3, acc, by omega, s3 _ _ eD, ?_⟩
      rw [tk, List.filter_append, List.map_append, List.filter_cons, hp]
      simpa using ra.same s3
  · rintro H ⟨s1, acc, al, eD, ra⟩
    rw [List.length_map, List.take_length] at ra
    exact hd H s1 (.lst hD eD (RpA.mono (fun b z => z.1) (fun _ _ _ e => e) _ _ ra))
/-- .. without a test -/
theorem lcM_list {α : Type} {K : PySem.W.Frag} {a : Addr} {c : α → V} {src : List α} (d : α → PyData) (hD : H1 D = none) (hS : SqL K H1 a (src.map c)) (hn : src.length < 16777216)
    (hs : ∀ (i : Nat) (x : α) (H : Hp) (R : V → Hp → Prop) (S : Hp → Prop), src[i]? = some x → Same H1 H → (∀ y H4, Same H H4 → Rp (New H) H4 y (d x) → R y H4) →
      g (c x) (wipe σ vs) H fun σ2 H2 => wipe σ2 vs = wipe σ vs ∧ tt σ2 H2 fun b H3 => if b = true then te σ2 H3 R else S H3)
    (hd : ∀ H, Same H1 H → Rp (New H1) H (.ref D) (.list (src.map d)) → Qd H) :
    ∃ W : Nat → Nat → Hp → Prop, (∃ m, W 0 m (upd H1 D (.lst []))) ∧ ∀ i m H, W i m H →
      ((Itl K a).stop i H ∧ Qd H) ∨ ((Itl K a).go i H ∧ ∃ Nx : Hp → Prop, (∀ H', Nx H' → ∃ m', m' < m ∧ W (i + 1) m' H') ∧ ∀ x H', (Itl K a).yld i H x H' → g x (wipe σ vs) H' fun σ2 H2 => wipe σ2 vs = wipe σ vs ∧ tt σ2 H2 fun b H3 =>
        if b = true then te σ2 H3 fun y H4 => ∃ acc, H4 D = some (.lst acc) ∧ acc.length < sizeLine ∧ Nx (upd H4 D (.lst (acc ++ [y]))) else Nx H3) :=
  lcF_list (fun _ => true) d hD hS hn (fun i x H R S hx s k _ => hs i x H R S hx s (k rfl)) (fun H s r => hd H s (by rwa [List.filter_eq_self.mpr (fun _ _ => rfl)] at r))
/-- over a range -/
theorem lcF_range {lo : Int} {n : Nat} (p : Nat → Bool) (d : Nat → PyData) (hD : H1 D = none) (hn : n < 16777216)
    (hs : ∀ i H (R : V → Hp → Prop) (S : Hp → Prop), i < n → Same H1 H → (p i = true → ∀ y H4, Same H H4 → Rp (New H) H4 y (d i) → R y H4) → (p i = false → ∀ H3, Same H H3 → S H3) →
      g (.int (lo + i)) (wipe σ vs) H fun σ2 H2 => wipe σ2 vs = wipe σ vs ∧ tt σ2 H2 fun b H3 => if b = true then te σ2 H3 R else S H3)
    (hd : ∀ H, Same H1 H → Rp (New H1) H (.ref D) (.list (((List.range n).filter p).map d)) → Qd H) :
    ∃ W : Nat → Nat → Hp → Prop, (∃ m, W 0 m (upd H1 D (.lst []))) ∧ ∀ i m H, W i m H →
      ((Itr lo n).stop i H ∧ Qd H) ∨ ((Itr lo n).go i H ∧ ∃ Nx : Hp → Prop, (∀ H', Nx H' → ∃ m', m' < m ∧ W (i + 1) m' H') ∧ ∀ x H', (Itr lo n).yld i H x H' → g x (wipe σ vs) H' fun σ2 H2 => wipe σ2 vs = wipe σ vs ∧ tt σ2 H2 fun b H3 =>
        if b = true then te σ2 H3 fun y H4 => ∃ acc, H4 D = some (.lst acc) ∧ acc.length < sizeLine ∧ Nx (upd H4 D (.lst (acc ++ [y]))) else Nx H3) := by
  refine lc_range (fun i H => Same H1 H ∧ ∃ acc, acc.length ≤ i ∧ H D = some (.lst acc) ∧ RpA (Nw H1 D) H acc (((List.range i).filter p).map d)) ⟨(Same.refl _).new hD, [], Nat.le_refl 0, upd_same, .nil⟩ ?_ ?_
  · rintro i H hi ⟨s1, acc, al, eD, ra⟩
    refine hs i H _ _ hi s1 (fun hp y H4 s4 ry => ?_) (fun hp H3 s3 => ?_)
    · refine ⟨acc, s4 _ _ eD, small_lt (by omega), (s1.trans s4).mut hD, acc ++ [y], by rw [List.length_append]; exact Nat.succ_le_succ al, upd_same, ?_⟩
      rw [List.range_succ, List.filter_append, List.map_append, List.filter_cons, hp]
      refine RpA.put ((ra.same s4).app (.cons (Rp.mono (fun b hb => ⟨s1.free hb, ne_of_none eD hb |>.symm⟩) (fun _ _ _ e => e) _ _ ry) .nil)) nw_not
    · refine ⟨s1.trans s3, acc, by omega, s3 _ _ eD, ?_⟩
      rw [List.range_succ, List.filter_append, List.map_append, List.filter_cons, hp]
      simpa using ra.same s3
  · rintro H ⟨s1, acc, al, eD, ra⟩
    exact hd H s1 (.lst hD eD (RpA.mono (fun b z => z.1) (fun _ _ _ e => e) _ _ ra))
theorem lcM_range {lo : Int} {n : Nat} (d : Nat → PyData) (hD : H1 D = none) (hn : n < 16777216)
    (hs : ∀ i H (R : V → Hp → Prop) (S : Hp → Prop), i < n → Same H1 H → (∀ y H4, Same H H4 → Rp (New H) H4 y (d i) → R y H4) →
      g (.int (lo + i)) (wipe σ vs) H fun σ2 H2 => wipe σ2 vs = wipe σ vs ∧ tt σ2 H2 fun b H3 => if b = true then te σ2 H3 R else S H3)
    (hd : ∀ H, Same H1 H → Rp (New H1) H (.ref D) (.list ((List.range n).map d)) → Qd H) :
    ∃ W : Nat → Nat → Hp → Prop, (∃ m, W 0 m (upd H1 D (.lst []))) ∧ ∀ i m H, W i m H →
      ((Itr lo n).stop i H ∧ Qd H) ∨ ((Itr lo n).go i H ∧ ∃ Nx : Hp → Prop, (∀ H', Nx H' → ∃ m', m' < m ∧ W (i + 1) m' H') ∧ ∀ x H', (Itr lo n).yld i H x H' → g x (wipe σ vs) H' fun σ2 H2 => wipe σ2 vs = wipe σ vs ∧ tt σ2 H2 fun b H3 =>
        if b = true then te σ2 H3 fun y H4 => ∃ acc, H4 D = some (.lst acc) ∧ acc.length < sizeLine ∧ Nx (upd H4 D (.lst (acc ++ [y]))) else Nx H3) :=
  lcF_range (fun _ => true) d hD hn (fun i H R S hx s k _ => hs i H R S hx s (k rfl)) (fun H s r => hd H s (by rwa [List.filter_eq_self.mpr (fun _ _ => rfl)] at r))
/-- over a tuple -/
theorem lcM_tup {α : Type} {K : PySem.W.Frag} {a : Addr} {c : α → V} {src : List α} (d : α → PyData) (hD : H1 D = none) (hS : SqT K H1 a (src.map c)) (hn : src.length < 16777216)
    (hs : ∀ (i : Nat) (x : α) (H : Hp) (R : V → Hp → Prop) (S : Hp → Prop), src[i]? = some x → Same H1 H → (∀ y H4, Same H H4 → Rp (New H) H4 y (d x) → R y H4) →
      g (c x) (wipe σ vs) H fun σ2 H2 => wipe σ2 vs = wipe σ vs ∧ tt σ2 H2 fun b H3 => if b = true then te σ2 H3 R else S H3)
    (hd : ∀ H, Same H1 H → Rp (New H1) H (.ref D) (.list (src.map d)) → Qd H) :
    ∃ W : Nat → Nat → Hp → Prop, (∃ m, W 0 m (upd H1 D (.lst []))) ∧ ∀ i m H, W i m H →
      ((Itt K a).stop i H ∧ Qd H) ∨ ((Itt K a).go i H ∧ ∃ Nx : Hp → Prop, (∀ H', Nx H' → ∃ m', m' < m ∧ W (i + 1) m' H') ∧ ∀ x H', (Itt K a).yld i H x H' → g x (wipe σ vs) H' fun σ2 H2 => wipe σ2 vs = wipe σ vs ∧ tt σ2 H2 fun b H3 =>
        if b = true then te σ2 H3 fun y H4 => ∃ acc, H4 D = some (.lst acc) ∧ acc.length < sizeLine ∧ Nx (upd H4 D (.lst (acc ++ [y]))) else Nx H3) := by
  refine lc_it (walk_tup (xs := src.map c)) (fun i H => Same H1 H ∧ ∃ acc, acc.length ≤ i ∧ H D = some (.lst acc) ∧ RpA (Nw H1 D) H acc ((src.take i).map d)) ⟨(Same.refl _).new hD, [], Nat.le_refl 0, upd_same, .nil⟩ (fun i H _ z => SqT.same z.1 hS) ?_ ?_
  · rintro i x H H' hi ⟨s1, acc, al, eD, ra⟩ ⟨eH, hx⟩
    have eH : H' = H := eH
    subst eH
    have hx : (src.map c)[i]? = some x := hx
    rw [List.getElem?_map] at hx
    obtain ⟨z, hz, rfl⟩ := Option.map_eq_some_iff.mp hx
    have hi : i < src.length := (List.getElem?_eq_some_iff.mp hz).1
    have tk : src.take (i + 1) = src.take i ++ [z] := by rw [List.take_add_one, hz]; rfl
    refine hs i z _ _ _ hz s1 (fun y H4 s4 ry => ?_)
    refine ⟨acc, s4 _ _ eD, small_lt (by omega), (s1.trans s4).mut hD, acc ++ [y], by rw [List.length_append]; exact Nat.succ_le_succ al, upd_same, ?_⟩
    rw [tk, List.map_append]
    exact RpA.put ((ra.same s4).app (.cons (Rp.mono (fun b hb => ⟨s1.free hb, (ne_of_none eD hb).symm⟩) (fun _ _ _ e => e) _ _ ry) .nil)) nw_not
  · rintro H ⟨s1, acc, al, eD, ra⟩
    rw [List.length_map, List.take_length] at ra
    exact hd H s1 (.lst hD eD (RpA.mono (fun b z => z.1) (fun _ _ _ e => e) _ _ ra))
/-- over zip of two lists -/
theorem lcM_zip {K : PySem.W.Frag} {a b : Addr} {xs ys : List V} {n : Nat} (d : Nat → PyData) (hD : H1 D = none) (ha : SqL K H1 a xs) (hb : SqL K H1 b ys) (hl : n = min xs.length ys.length) (hn : n < 16777216)
    (hs : ∀ (i : Nat) (T : Addr) (x y : V) (H : Hp) (R : V → Hp → Prop) (S : Hp → Prop), i < n → xs[i]? = some x → ys[i]? = some y → Same H1 H → H T = some (.tup [x, y]) → (∀ y H4, Same H H4 → Rp (New H) H4 y (d i) → R y H4) →
      g (.ref T) (wipe σ vs) H fun σ2 H2 => wipe σ2 vs = wipe σ vs ∧ tt σ2 H2 fun b H3 => if b = true then te σ2 H3 R else S H3)
    (hd : ∀ H, Same H1 H → Rp (New H1) H (.ref D) (.list ((List.range n).map d)) → Qd H) :
    ∃ W : Nat → Nat → Hp → Prop, (∃ m, W 0 m (upd H1 D (.lst []))) ∧ ∀ i m H, W i m H →
      ((Itz K a b).stop i H ∧ Qd H) ∨ ((Itz K a b).go i H ∧ ∃ Nx : Hp → Prop, (∀ H', Nx H' → ∃ m', m' < m ∧ W (i + 1) m' H') ∧ ∀ x H', (Itz K a b).yld i H x H' → g x (wipe σ vs) H' fun σ2 H2 => wipe σ2 vs = wipe σ vs ∧ tt σ2 H2 fun b H3 =>
        if b = true then te σ2 H3 fun y H4 => ∃ acc, H4 D = some (.lst acc) ∧ acc.length < sizeLine ∧ Nx (upd H4 D (.lst (acc ++ [y]))) else Nx H3) := by
  refine lc_it (walk_zip hl) (fun i H => Same H1 H ∧ ∃ acc, acc.length ≤ i ∧ H D = some (.lst acc) ∧ RpA (Nw H1 D) H acc ((List.range i).map d)) ⟨(Same.refl _).new hD, [], Nat.le_refl 0, upd_same, .nil⟩ (fun i H _ z => ⟨SqL.same z.1 ha, SqL.same z.1 hb⟩) ?_ ?_
  · rintro i x H H' hi ⟨s1, acc, al, eD, ra⟩ ⟨T, x, z, rfl, hT, rfl, ex, ez⟩
    have sT := (Same.refl H).new (o := .tup [x, z]) hT
    refine hs i T x z _ _ _ hi ex ez (s1.trans sT) upd_same (fun y H4 s4 ry => ?_)
    have s4' := sT.trans s4
    refine ⟨acc, s4' _ _ eD, small_lt (by omega), (s1.trans s4').mut hD, acc ++ [y], by rw [List.length_append]; exact Nat.succ_le_succ al, upd_same, ?_⟩
    rw [List.range_succ, List.map_append]
    refine RpA.put ((ra.same s4').app (.cons (Rp.mono (fun b hb => ⟨(s1.trans sT).free hb, (ne_of_none (sT _ _ eD) hb).symm⟩) (fun _ _ _ e => e) _ _ ry) .nil)) nw_not
  · rintro H ⟨s1, acc, al, eD, ra⟩
    exact hd H s1 (.lst hD eD (RpA.mono (fun b z => z.1) (fun _ _ _ e => e) _ _ ra))
end
/-! ### a word between two statements -/
def tCutG (t u : TS) : TS := fun D σ H => ∃ Mid : L2.St → Hp → Prop, t { D with nx := Mid } σ H ∧ ∀ σ' H', Mid σ' H' → u D σ' H'
theorem pss_cutG {X : Cx} {st : Stmt} {rest : List Stmt} {t u : TS} (h1 : PS X st t) (h2 : PSs X rest u) : PSs X (st :: rest) (tCutG t u) := by
  refine ⟨fun pins s σ H D I h => ?_⟩
  obtain ⟨Mid, hm, hu⟩ := h
  refine wpAny_execs_cons (thn (h1.run pins s σ H { D with nx := Mid } I hm) fun f s1 q => ?_)
  cases f with
  | next =>
    obtain ⟨σ', H', I', q⟩ := q
    exact h2.run pins s1 σ' H' D I' (hu σ' H' q)
  | ret v => exact q
  | brk => exact q
  | cont => exact q
theorem atC {α : Type} {x : α} {xs : List α} : atI (x :: xs) 0 = some x := by
  show atI (x :: xs) ((0 : Nat) : Int) = some x
  exact atI_nat rfl
/-! ### // by any divisor but nought -/
def CDivA (_ j : Int) : Prop := j ≠ 0 ∧ j.natAbs < 2 ^ 200
theorem op_fdivA {X : Cx} : OpR X (binaryOp .FloorDiv) (rI CDivA fun i j => .int (i.fdiv j)) := opI fun i j _ _ _ _ _ hc q => by
  obtain ⟨h1, h2⟩ := hc
  exact floordiv_int h1 q (.inl (PyProof.noPylong_of_log2 (Nat.lt_of_lt_of_le (PySem.Flt.log2_lt_of (by decide : 0 < 200) h2) (by decide))))
/-! ### tables: lists of lists of ints -/
def tabD (rows : List (List Int)) : PyData := .list (rows.map fun r => .list (r.map PyData.int))
theorem fine_tab {c : Nat} {rows : List (List Int)} (h : ∀ r ∈ rows, ∀ x ∈ r, x.natAbs < 10 ^ c) : fine c (tabD rows) = true := by
  unfold tabD
  rw [fine]
  refine fineAll_map fun r hr => ?_
  rw [fine]
  exact fineAll_map fun x hx => by simpa [fine] using h r hr x hx
theorem depth_tab (rows : List (List Int)) : (tabD rows).depth ≤ 2 := by
  unfold tabD
  rw [PyData.depth]
  have := depthAll_map (f := fun r : List Int => PyData.list (r.map PyData.int)) (xs := rows) (k := 1) fun r _ => by
    show (PyData.list (r.map PyData.int)).depth ≤ 1
    rw [PyData.depth]
    have := depthAll_map (f := PyData.int) (xs := r) (k := 0) fun x _ => by simp [PyData.depth]
    omega
  omega
theorem nodes_tab {m : Nat} {rows : List (List Int)} (h : ∀ r ∈ rows, r.length ≤ m) : nodes (tabD rows) ≤ 1 + rows.length * (1 + m) := by
  unfold tabD
  rw [nodes]
  have := nodesAll_map (f := fun r : List Int => PyData.list (r.map PyData.int)) (xs := rows) (k := 1 + m) fun r hr => by
    show nodes (PyData.list (r.map PyData.int)) ≤ 1 + m
    rw [nodes]
    have := nodesAll_map (f := PyData.int) (xs := r) (k := 1) fun x _ => by simp [nodes]
    have := h r hr
    omega
  omega
theorem good_tab {c m : Nat} {rows : List (List Int)} (h : ∀ r ∈ rows, ∀ x ∈ r, x.natAbs < 10 ^ c) (hm : ∀ r ∈ rows, r.length ≤ m) (hc : c ≤ 500) (hn : (c + 8) * (1 + rows.length * (1 + m)) ≤ 16777216) : Good (tabD rows) :=
  Good.of (fine_tab h) hc (by have := depth_tab rows; omega) (Nat.le_trans (Nat.mul_le_mul_left _ (nodes_tab hm)) hn)
theorem eqvAll_len : ∀ {xs ys : List PyData}, PyData.eqvAll xs ys = true → xs.length = ys.length
  | [], [], _ => rfl
  | [], _ :: _, h => by simp [PyData.eqvAll] at h
  | _ :: _, [], h => by simp [PyData.eqvAll] at h
  | x :: xs, y :: ys, h => by
    rw [PyData.eqvAll, Bool.and_eq_true] at h
    rw [List.length_cons, List.length_cons, eqvAll_len h.2]
end G
namespace G
open PySem PySem.Spec PyProof.Rows L2
theorem all_rep (m : Nat) : (List.replicate m true).all id = true := by
  induction m with
  | zero => rfl
  | succ m ih => rw [List.replicate_succ, List.all_cons, ih]; rfl
theorem map_bl {α : Type} (f : α → Bool) (l : List α) : l.map (fun x => PyData.bool (f x)) = (l.map f).map PyData.bool := (List.map_map (l := l)).symm
theorem map_in {α : Type} (f : α → Int) (l : List α) : l.map (fun x => PyData.int (f x)) = (l.map f).map PyData.int := (List.map_map (l := l)).symm
theorem map_vi {α : Type} (f : α → Int) (l : List α) : l.map (fun x => V.int (f x)) = (l.map f).map V.int := (List.map_map (l := l)).symm
theorem cut_to (xs : List V) (k : Nat) : cutV xs none (some (k : Int)) = xs.take k := by
  unfold cutV
  rw [HT.sIx_none, HT.sIx_nat, List.drop_zero, Nat.sub_zero]
  rcases Nat.le_total k xs.length with h | h
  · rw [Nat.min_eq_left h]
  · rw [Nat.min_eq_right h, List.take_length, List.take_of_length_le h]
theorem cut_from (xs : List V) (k : Nat) : cutV xs (some (k : Int)) none = xs.drop k := by
  unfold cutV
  rw [HT.sIx_none, HT.sIx_nat]
  rcases Nat.le_total k xs.length with h | h
  · rw [Nat.min_eq_left h, List.take_of_length_le (by rw [List.length_drop]; exact Nat.le_refl _)]
  · rw [Nat.min_eq_right h, Nat.sub_self, List.take_zero, List.drop_of_length_le h]
theorem nsV_len (l : List Nat) : (nsV l).length = l.length := by unfold nsV; rw [List.length_map]
theorem nsV_at {l : List Nat} {i : Nat} {x : V} (h : (nsV l)[i]? = some x) : ∃ p, l[i]? = some p ∧ x = V.int (p : Int) := by
  unfold nsV at h
  rw [List.getElem?_map] at h
  obtain ⟨p, hp, rfl⟩ := Option.map_eq_some_iff.mp h
  exact ⟨p, hp, rfl⟩
end G

namespace G
open PySem PySem.Spec PyProof.Rows L2
/-! ### d.update(d2) -/
def rUpdD : V → List V → Hp → VK → Prop := fun x vs H Q => ∃ (a b : Addr) (kvs more : List (Key × V)), x = .ref a ∧ vs = [.ref b] ∧ a ≠ b ∧ H a = some (.dK kvs) ∧ H b = some (.dK more) ∧ kvs.length + more.length ≤ sizeLine ∧ Q .non (upd H a (.dK (mergeK kvs more)))
theorem mt_updD {X : Cx} : MtR X "dict.update" rUpdD := by
  intro pins s σ H x vs v us Q I rx rv h
  obtain ⟨a, b, kvs, more, ex, ev, hab, ea, eb, hz, q⟩ := h
  subst ex
  subst ev
  obtain rfl : v = Value.ref a := rx
  obtain ⟨u, rfl, ru⟩ := rv.one
  obtain rfl : u = Value.ref b := ru
  obtain ⟨za, na, ws, ra, da⟩ := dk_of I.hok ea
  obtain ⟨zb, nb, zs, rb, db⟩ := dk_of I.hok eb
  refine call_meetsIn PySem.F.slot_dict_update da.typeIs PySem.F.entry_dict_update (PySem.F.args_dict_update_2 _ _) (meets_dict_update (mixKind X.prog X.w) a b hab nb) ⟨ws, zs, da, db, by rw [← ra.length, ← rb.length]; exact hz, fun hp dm _ hs => ?_⟩
  have stands : ∃ o, hp.get? a = some o := let ⟨o, _, _, ho, _⟩ := dm; ⟨o, ho⟩
  exact ⟨.non, _, d_write (t' := s.toks) I (by rw [ea]; exact True.intro) hs stands (dk_new (Nat.le_trans (length_mergeK more kvs) hz) na (.merge rb ra) dm), rfl, q⟩
end G
/-! ### set(xs), xs a list of ints -/
namespace G
open PySem PySem.Spec PyProof.Rows L2
section
variable {P : Program} {w : World} {A : Around} {E : Value → Shared → Prop} {s : Shared}
/-- the set as it is made -/
abbrev bare0 (w : World) : Obj := { cls := .type "set", dict := none, data := .set #[] 0 (.fresh 0 0 (!w.params.followText "set-order")) }
/-- the heap with it -/
abbrev hp0 (w : World) (s : Shared) : Heap := s.heap.push (bare0 w)
set_option maxRecDepth 100000 in
set_option maxHeartbeats 6400000 in
theorem set_of_ints {l : Addr} {xs : Array Value} (ks : List Int) {Q : Value → Shared → Prop} (nh : A.handled = none) (isl : s.heap.IsList l xs) (ia : IntsAre xs.toList ks) (few : ks.length + 1 < scanBound)
    (fin : ∀ (g : Heap) (tk c : Nat), SetR w g s.heap.objs.size (fun j => decide (j ∈ ks)) c → c ≤ ks.length → (∀ b o, s.heap.get? b = some o → g.get? b = some o) → Q (.ref s.heap.objs.size) { s with heap := g, toks := tk }) :
    wpAny (model P w) A (call (.type "set") [.ref l]) Q E s := by
  have same : xs.size = ks.length := by
    have z := IntsAre.length ia
    rwa [Array.length_toList] at z
  obtain ⟨ca, ta, mroA⟩ := F.called_set.mro
  have madeA := F.called_set.made; have subA := F.called_set.sub
  refine wpAny_call (codeAny_of_tree ?_); show wpAny _ _ (callAny (.type "set") _) _ _ _
  refine wpAny_pure ⟨Code.quiet_builtin _ (by decide +kernel), codeAny_builtin (F.entry_type_call) ?_⟩
  rw [Around.under_plain (weight_type_call_type "set" [Value.ref l] []) rfl]
  have nt := F.called_set.notType; have cc := F.called_set.canCreate; have tc := F.typeCall_set_1 (.ref l)
  repeat (any_goals (first | assumption | wp_step))
  refine codeAny_mono (code_set_led1 (.ref l) (E := E) (Q₁ := fun y t => y = .ref s.heap.objs.size ∧ t = { s with heap := hp0 w s }) ⟨rfl, rfl⟩) fun r t hr => ?_
  cases r with
  | error e => exact hr
  | ok fl =>
    cases fl with
    | ret y =>
      obtain ⟨rfl, rfl⟩ := hr
      have at0 : (hp0 w s).get? s.heap.objs.size = some (bare0 w) := Heap.get?_push_size _ rfl
      have ty0 : Shared.TypeIs { s with heap := hp0 w s } (.ref s.heap.objs.size) "set" := ⟨_, at0, rfl⟩
      have li := F.called_set.init.lookup; have bi := F.called_set.init.bind (.ref s.heap.objs.size)
      repeat (any_goals (first | assumption | wp_step))
      refine codeAny_mono (codeAny_call_builtin (R := wants (fun r t => r = .none ∧ ∃ g tk c, t = { s with heap := g, toks := tk } ∧ SetR w g s.heap.objs.size (fun j => decide (j ∈ ks)) c ∧ c ≤ ks.length ∧ (∀ b o, s.heap.get? b = some o → g.get? b = some o)) E) F.called_set.init.plain F.entry_set_init (check_set_init_1 ty0 ?_)) fun r2 t2 h2 => ?_
      · obtain ⟨⟨obc, obd, obv, obs⟩, obat, cl, nl, dl⟩ := isl
        simp only at cl dl
        subst cl; subst dl
        have obat' : (hp0 w s).get? l = some { cls := .type "list", dict := obd, data := .seq xs nl, slots := obs } := Heap.get?_push_of_some _ obat
        have sl1 := F.sub_list_set; have sl2 := F.sub_list_frozenset
        have nd : (Value.type "list" == Value.type "dict") = false := by decide
        have isl' : (hp0 w s).IsList l xs := ⟨_, obat', rfl, nl, rfl⟩
        unfold Builtin.«set.__init__» noKeywords Builtin.Frozenset.updateFrom
        generalize eIter : pyIter = IT
        wp_walk
        subst eIter
        refine wpAny_pyIter_list isl' ?_
        refine wpAny_bind (wpAny_runValue ?_)
        have below : l < s.heap.objs.size := Heap.lt_size obat
        have nh3 : A.in1.in1.in1.handled = none := by simp [nh]
        have sz0' : (hp0 w s).objs.size = s.heap.objs.size + 1 := Heap.size_push ..
        have apart : l ≠ (hp0 w s).objs.size := by
          rw [sz0']
          exact Nat.ne_of_lt (Nat.lt_succ_of_lt below)
        have out : s.heap.objs.size ∉ [(hp0 w s).objs.size, l] := by
          rw [sz0']
          intro z
          rcases List.mem_cons.mp z with z | z
          · exact absurd z (Nat.ne_of_lt (Nat.lt_succ_self _))
          · exact absurd (List.mem_singleton.mp z) (Nat.ne_of_gt below)
        have val : ∀ (i : Nat) (v : Value), xs[i]? = some v → ∃ k t, ks[i]? = some k ∧ v = .int k t := fun i v hv => by
          have hi : i < ks.length := by
            rw [← same]
            exact (Array.getElem?_eq_some_iff.mp hv).1
          obtain ⟨t, e⟩ := PyProof.Rows.IntsAre.int_at ia i v ((Array.getElem?_toList).trans hv)
          exact ⟨ks[i], t, List.getElem?_eq_getElem hi, by rw [e, List.getD_eq_getElem?_getD, List.getElem?_eq_getElem hi]; rfl⟩
        refine set_update_ints ((Walks.list nh3 _ l apart xs).toS) s.heap.objs.size out ks same few val (xs.size - 0) 0 _ (by omega) (Nat.zero_le _) ⟨⟨_, Heap.get?_push_size _ rfl, rfl, rfl⟩, (isl'.push _)⟩ ?start ?stop
        case start => exact ⟨0, Nat.le_refl 0, setR_new_at (Heap.get?_push_of_some _ at0)⟩
        case stop =>
          intro t c mv hc R
          obtain ⟨g, gs, dr, tk, os⟩ := t
          have e1 : gs = s.gens := mv.gens
          have e2 : dr = s.drawn := mv.drawn
          have e3 : os = s.os := mv.os
          subst e1; subst e2; subst e3
          show wpAny _ _ _ _ _ _
          refine wpAny_pure ?_; show wpAny _ _ (ret Value.none) _ _ _
          rw [same] at hc
          refine wpAny_pure ⟨rfl, g, tk, c, rfl, R, hc, fun b o e => ?_⟩
          have hb := Heap.lt_size e
          refine mv.heap b o ?_ (Heap.get?_push_of_some _ (Heap.get?_push_of_some _ e))
          intro z
          rcases List.mem_cons.mp z with z | z
          · exact absurd z (Nat.ne_of_lt hb)
          · have z := List.mem_singleton.mp z
            rw [sz0'] at z
            exact absurd z (Nat.ne_of_lt (Nat.lt_succ_of_lt hb))
      · cases r2 with
        | error e => exact h2
        | ok f2 =>
          cases f2 with
          | ret r =>
            obtain ⟨rfl, g, tk, c, rfl, R, hc, kp⟩ := h2
            repeat (any_goals (first | assumption | wp_step))
            exact fin _ _ _ R hc kp
          | next => exact h2.elim
          | brk => exact h2.elim
          | cont => exact h2.elim
    | next => exact hr.elim
    | brk => exact hr.elim
    | cont => exact hr.elim
end
end G

/-! ### sum(lists, []) -/
namespace G
open PySem PySem.Spec PyProof.Rows L2
/-- the lists at some addresses -/
def LstsAt (h : Heap) (as : List Addr) (cs : List (List Value)) : Prop := ∀ (i : Nat) (a : Addr) (its : List Value), as[i]? = some a → cs[i]? = some its → ∃ n, IsL h a its.toArray n
section
variable {P : Program} {w : World} {A : Around} {E : Value → Shared → Prop}
theorem sum_lists_loop {I S : Addr} {fp : List Addr} {G : Array GenState → Array GenState → Prop} {n : Nat} {Pv : Nat → Value → Prop} {St : Nat → Shared → Prop} {R : Result → Shared → Prop}
    (W : WalksS P w A.in1 I fp [I] G n Pv St) (hI : ∀ i s, St i s → ∃ o, s.heap.get? I = some o) (as : List Addr) (cs : List (List Value)) (hn : cs.length = n) (hv : ∀ i v, Pv i v → ∃ a, as[i]? = some a ∧ v = .ref a)
    (out : S ∉ fp) (off : ∀ a ∈ as, a ≠ S ∧ a ≠ I) (hz : cs.flatten.length ≤ sizeLine) :
    ∀ (k i : Nat) (s : Shared) (t : Addr) (c nt : Nat), n - i = k → i ≤ n → St i s → s.heap.get? S = some { cls := .type "list", dict := none, data := .seq #[.ref t] c, slots := #[] } → t ≠ S → t ≠ I →
      IsL s.heap t (cs.take i).flatten.toArray nt → LstsAt s.heap as cs → (i = 0 ∨ S < t) → (∀ s' t' nt', Moved [S, I] G s s' → IsL s'.heap t' cs.flatten.toArray nt' → (n = 0 ∨ S < t') → R (.ok (.ret (.ref t'))) s') →
      codeAny (model P w) A (.builtin "sum.loop" ⟨[.ref I, .ref S, rawInt 2, rawInt 0], []⟩) R s := by
  have SI : S ≠ I := fun z => out (by rw [z]; exact W.sub I List.mem_cons_self)
  have nS : S ∉ [I] := fun z => SI (List.mem_singleton.mp z)
  have more : ∀ b ∈ [I], b ∈ [S, I] := fun b hb => List.mem_cons_of_mem _ hb
  intro k
  induction k with
  | zero =>
    intro i s t c nt hk hi st atS tS tI tot lsts far fin
    have e : i = n := by omega
    subst e
    refine codeAny_builtin (F.entry_sum_loop) ?_
    rw [Around.under_plainId (F.plain_sum_loop) _]
    show wpAny _ A.in1 (seqItems? (Value.ref S) >>= _) _ _ s
    refine wpAny_bind (wpAny_seqItems atS rfl ?_)
    show wpAny _ A.in1 (tryCatch (pyNext (Value.ref I)) _ >>= _) _ _ s
    refine wpAny_bind (wpAny_tryCatch (W.done s _ _ st fun s' mv => ?_))
    rw [List.take_of_length_le (by omega)] at tot
    exact wpAny_pure (fin s' t nt (mv.mono more) (mv.heap t _ (fun z => tI (List.mem_singleton.mp z)) tot) far)
  | succ k ih =>
    intro i s t c nt hk hi st atS tS tI tot lsts far fin
    have lt : i < n := by omega
    refine codeAny_builtin (F.entry_sum_loop) ?_
    rw [Around.under_plainId (F.plain_sum_loop) _]
    show wpAny _ A.in1 (seqItems? (Value.ref S) >>= _) _ _ s
    refine wpAny_bind (wpAny_seqItems atS rfl ?_)
    show wpAny _ A.in1 (tryCatch (pyNext (Value.ref I)) _ >>= _) _ _ s
    refine wpAny_bind (wpAny_tryCatch (W.item i s _ _ lt st fun v s' pv st' mv => ?_))
    obtain ⟨a, ha, rfl⟩ := hv i v pv
    have ci : cs[i]? = some cs[i] := List.getElem?_eq_getElem (by omega)
    obtain ⟨na, la⟩ := lsts i a _ ha ci
    have offa := off a (List.mem_of_getElem? ha)
    have atS' := mv.heap S _ nS atS
    have tot' : IsL s'.heap t (cs.take i).flatten.toArray nt := mv.heap t _ (fun z => tI (List.mem_singleton.mp z)) tot
    have la' : IsL s'.heap a cs[i].toArray na := mv.heap a _ (fun z => offa.2 (List.mem_singleton.mp z)) la
    have tk : cs.take (i + 1) = cs.take i ++ [cs[i]] := by rw [List.take_add_one, ci]; rfl
    have fl : (cs.take (i + 1)).flatten = (cs.take i).flatten ++ cs[i] := by rw [tk, List.flatten_append]; simp
    have sz : (cs.take i).flatten.length + cs[i].length ≤ sizeLine := by
      have e : cs.flatten = (cs.take (i + 1)).flatten ++ (cs.drop (i + 1)).flatten := by rw [← List.flatten_append, List.take_append_drop]
      rw [e, fl, List.length_append, List.length_append] at hz
      omega
    show wpAny _ A.in1 ((holding [Value.ref a] (binaryOp .Add (.ref t) (.ref a))).attempt >>= _) _ _ _
    refine wpAny_bind (wpAny_attempt (wpAny_holding (PySem.P.add_list tot' la' ?_ (by rw [List.size_toArray, List.size_toArray]; exact sz))))
    obtain ⟨oI, eI⟩ := hI _ s' st'
    have Sl := Heap.lt_size atS'
    have Il := Heap.lt_size eI
    have atS1 : (s'.heap.push { cls := .type "list", data := .seq ((cs.take i).flatten.toArray ++ cs[i].toArray) }).get? S = _ := Heap.get?_push_of_some _ atS'
    show wpAny _ A.in1 (updateSeq S (fun _ => #[Value.ref s'.heap.objs.size]) >>= _) _ _ _
    refine wpAny_bind (wpAny_updateSeq atS1 rfl ?_)
    have atS2 := Heap.get?_update_self (Obj.mapSeq fun _ => #[Value.ref s'.heap.objs.size]) atS1 rfl
    refine wpAny_bind (wpAny_letGo ?_)
    have other : ∀ (b : Addr) (o : Obj), b ≠ S → (s'.heap.push { cls := .type "list", data := .seq ((cs.take i).flatten.toArray ++ cs[i].toArray) }).get? b = some o →
        (((s'.heap.push { cls := .type "list", data := .seq ((cs.take i).flatten.toArray ++ cs[i].toArray) }).update S (Obj.mapSeq fun _ => #[Value.ref s'.heap.objs.size])).update S (Obj.mapSeq fun _ => #[Value.ref s'.heap.objs.size])).get? b = some o := fun b o hb e =>
      (Heap.get?_update_other _ _ hb.symm).trans ((Heap.get?_update_other _ _ hb.symm).trans e)
    have old : ∀ (b : Addr) (o : Obj), b ≠ S → s'.heap.get? b = some o → _ := fun b o hb e => other b o hb (Heap.get?_push_of_some _ e)
    refine wpAny_bind (wpAny_updateSeq atS2 rfl (wpAny_pure ⟨plainId_quiet (F.plain_sum_loop) _, ih (i + 1) _ s'.heap.objs.size _ 0 (by omega) lt (W.frame _ s' _ _ st' (Nat.le_refl _) fun b hb o e => ?_) (Heap.get?_update_self _ atS2 rfl) (Nat.ne_of_gt Sl) (Nat.ne_of_gt Il) ?_ ?_ (.inr Sl) fun s'' t'' nt'' mv'' l'' far'' => ?_⟩))
    · exact old b o (fun z => out (z ▸ hb)) e
    · have ea : (cs.take (i + 1)).flatten.toArray = (cs.take i).flatten.toArray ++ cs[i].toArray := by
        rw [fl]
        simp
      rw [ea]
      exact other _ _ (Nat.ne_of_gt Sl) (IsL.new s'.heap _)
    · intro j b its hb hj
      obtain ⟨m, e⟩ := lsts j b its hb hj
      have offb := off b (List.mem_of_getElem? hb)
      exact ⟨m, old _ _ offb.1 (mv.heap b _ (fun z => offb.2 (List.mem_singleton.mp z)) e)⟩
    · refine fin s'' t'' nt'' (Moved.trans W.gtrans ((mv.mono more).then_heap (Nat.le_refl _) fun b o hb e => ?_) mv'') l'' far''
      exact old b o (fun z => hb (by rw [z]; exact List.mem_cons_self)) e
/-- what sum(xs, start) of lists comes to -/
theorem sum_lists {s : Shared} {l t : Addr} {its : Array Value} {nt : Nat} (as : List Addr) (cs : List (List Value)) {Q : Value → Shared → Prop} (nh : A.handled = none) (isl : s.heap.IsList l its) (eas : its.toList = as.map Value.ref) (len : cs.length = as.length)
    (few : 0 < cs.length) (tot : IsL s.heap t #[] nt) (lsts : LstsAt s.heap as cs) (hz : cs.flatten.length ≤ sizeLine)
    (fin : ∀ s' t' nt', (∀ b o, s.heap.get? b = some o → s'.heap.get? b = some o) → s'.gens = s.gens → s'.os = s.os → IsL s'.heap t' cs.flatten.toArray nt' → s.heap.objs.size ≤ t' → Q (.ref t') s') :
    wpAny (model P w) A (call (.builtin "sum") [.ref l, .ref t]) Q E s := by
  refine call_function_tree F.kind_sum F.plain_sum F.entry_sum (by unfold argsOk; kernel_rfl) ?_
  unfold Builtin.«sum»
  simp only [List.length_cons, List.length_nil]
  rw [if_neg (by decide)]
  refine wpAny_bind (wpAny_of_eq (show Builtin.Builtins.bindParams "sum" ["start"] 0 { pos := [Value.ref t], kw := [] } = pure [some (Value.ref t)] from rfl) ?_)
  refine wpAny_bind (wpAny_pyIter_list isl ?_)
  have old1 : ∀ (b : Addr) (o : Obj), s.heap.get? b = some o → (s.heap.push { cls := .type "list_iterator", data := .fields #[.ref l, .int 0 0] }).get? b = some o := fun b o e => Heap.get?_push_of_some _ e
  have tot1 : IsL (s.heap.push { cls := .type "list_iterator", data := .fields #[.ref l, .int 0 0] }) t #[] nt := old1 _ _ tot
  have ty1 : Shared.TypeIs { s with heap := s.heap.push { cls := .type "list_iterator", data := .fields #[.ref l, .int 0 0] } } (.ref t) "list" := ⟨_, tot1, rfl⟩
  refine wpAny_bind (wpAny_pure ?_)
  simp only [List.forIn_cons, List.forIn_nil]
  refine wpAny_bind (wpAny_bind (wpAny_bind (wpAny_isInstance (b := false) ty1 (PySem.F.sub_list_str) ?_)))
  simp only [Bool.false_eq_true, if_false]
  refine wpAny_pure (wpAny_bind (wpAny_bind (wpAny_isInstance (b := false) ty1 (PySem.F.sub_list_bytes) ?_)))
  simp only [Bool.false_eq_true, if_false]
  refine wpAny_pure (wpAny_bind (wpAny_bind (wpAny_isInstance (b := false) ty1 (PySem.F.sub_list_bytearray) ?_)))
  simp only [Bool.false_eq_true, if_false]
  refine wpAny_pure (wpAny_pure ?_)
  refine wpAny_bind (wpAny_newObj_type ?_)
  have lsz := (fun (i : Nat) (a : Addr) (ha : as[i]? = some a) => (show a < s.heap.objs.size from by
    have hi : i < cs.length := by
      rw [len]
      exact (List.getElem?_eq_some_iff.mp ha).1
    obtain ⟨m, e⟩ := lsts i a _ ha (List.getElem?_eq_getElem hi)
    exact Heap.lt_size e))
  have bl : l < s.heap.objs.size := by
    obtain ⟨o, e, _⟩ := isl
    exact Heap.lt_size e
  have bt : t < s.heap.objs.size := Heap.lt_size tot
  have sz1 : (s.heap.push { cls := .type "list_iterator", data := .fields #[.ref l, .int 0 0] }).objs.size = s.heap.objs.size + 1 := Heap.size_push ..
  have isz : its.size = as.length := by
    have e := congrArg List.length eas
    rwa [Array.length_toList, List.length_map] at e
  refine wpAny_pure ⟨plainId_quiet (F.plain_sum_loop) _, sum_lists_loop ((Walks.list (by simp [nh]) s.heap.objs.size l (Nat.ne_of_lt bl) its).toS) (fun i s st => ?_) as cs (by rw [len, isz]) (fun i v hv => ?_) ?_ (fun a ha => ?_) hz (its.size - 0) 0 _ t 0 nt rfl (Nat.zero_le _) ?_ (Heap.get?_push_size _ rfl) ?_ ?_ ?_ ?_ (.inl rfl) fun s' t' nt' mv l' far => ?_⟩
  · obtain ⟨⟨o, e, _⟩, _⟩ := st
    exact ⟨o, e⟩
  · have hv : its[i]? = some v := hv
    have hv2 : its.toList[i]? = some v := (Array.getElem?_toList).trans hv
    rw [eas, List.getElem?_map] at hv2
    obtain ⟨a, ha, rfl⟩ := Option.map_eq_some_iff.mp hv2
    exact ⟨a, ha, rfl⟩
  · rw [sz1]
    intro z
    rcases List.mem_cons.mp z with z | z
    · exact absurd z (Nat.ne_of_gt (Nat.lt_succ_self _))
    · exact absurd (List.mem_singleton.mp z) (Nat.ne_of_gt (Nat.lt_succ_of_lt bl))
  · obtain ⟨i, ha⟩ := List.mem_iff_getElem?.mp ha
    have := lsz i a ha
    rw [sz1]
    exact ⟨Nat.ne_of_lt (Nat.lt_succ_of_lt this), Nat.ne_of_lt this⟩
  · obtain ⟨o, e, c1, c2⟩ := isl
    exact ⟨⟨_, Heap.get?_push_of_some _ (Heap.get?_push_size _ rfl), rfl, rfl⟩, ⟨o, Heap.get?_push_of_some _ (Heap.get?_push_of_some _ e), c1, c2⟩⟩
  · rw [sz1]
    exact Nat.ne_of_lt (Nat.lt_succ_of_lt bt)
  · exact Nat.ne_of_lt bt
  · exact Heap.get?_push_of_some _ tot1
  · intro i a m ha hm
    obtain ⟨k, e⟩ := lsts i a m ha hm
    exact ⟨k, Heap.get?_push_of_some _ (old1 _ _ e)⟩
  · rw [sz1] at far
    refine fin s' t' nt' (fun b o e => ?_) mv.gens mv.os l' ?_
    · have bb := Heap.lt_size e
      refine mv.heap b o (fun z => ?_) (Heap.get?_push_of_some _ (old1 _ _ e))
      rcases List.mem_cons.mp z with z | z
      · rw [sz1] at z
        exact absurd z (Nat.ne_of_lt (Nat.lt_succ_of_lt bb))
      · exact absurd (List.mem_singleton.mp z) (Nat.ne_of_lt bb)
    · rcases far with z | z
      · omega
      · exact Nat.le_of_lt (Nat.lt_trans (Nat.lt_succ_self _) z)
end
section
variable {X : Cx}
/-- set(xs), xs a list of ints -/
def rSetL (K : PySem.W.Frag) (w : World) : List V → Hp → VK → Prop := fun vs H Q => ∃ (a : Addr) (ks : List Int), vs = [.ref a] ∧ SqL K H a (ks.map V.int) ∧ ks.length + 1 < scanBound ∧
  ∀ (p : Addr) (n : Nat), H p = none → n ≤ ks.length → Q (.ref p) (upd H p (SetO w p (fun j => decide (j ∈ ks)) n))
theorem cr_setL (hc : X.calm = true) : CallR X (.type "set") (rSetL X.K X.w) := by
  intro pins s σ H vs us Q I r h
  obtain ⟨a, ks, rfl, hs, few, q⟩ := h
  obtain ⟨u, rfl, ru⟩ := vals1 r
  obtain rfl : u = Value.ref a := ru
  obtain ⟨its, rv, pl, hz⟩ := I.list hs
  obtain ⟨o, n, ho, hcl, hd, hdat⟩ := pl
  refine set_of_ints ks (I.ok.hd hc) ⟨o, ho, hcl, n, hdat⟩ (by simpa using ints_of_vals rv) few fun g tk c R hle kp => ?_
  exact ⟨.ref _, upd H s.heap.objs.size (SetO X.w s.heap.objs.size (fun j => decide (j ∈ ks)) c), I.laid (t' := tk) kp (Nat.le_refl _) (setO_new R), rfl, q _ _ (I.hok.fresh (Nat.le_refl _)) hle⟩
/-- sum(xs, []), xs a list of lists, at least one -/
def rSumL (K : PySem.W.Frag) : List V → Hp → VK → Prop := fun vs H Q => ∃ (a t : Addr) (as : List Addr) (cs : List (List V)), vs = [.ref a, .ref t] ∧ SqL K H a (as.map V.ref) ∧ H t = some (.lst []) ∧ cs.length = as.length ∧ 0 < cs.length ∧
  (∀ (i : Nat) (b : Addr) (xs : List V), as[i]? = some b → cs[i]? = some xs → H b = some (.lst xs)) ∧ cs.flatten.length ≤ sizeLine ∧ ∀ p, H p = none → Q (.ref p) (upd H p (.lst cs.flatten))
theorem vals_flat : ∀ {cs : List (List V)} {us : List (List Value)}, Paired Vals cs us → Vals cs.flatten us.flatten
  | _, _, .nil => .nil
  | _, _, .cons r t => by
    rw [List.flatten_cons, List.flatten_cons]
    exact r.append (vals_flat t)
theorem cr_sumL (hc : X.calm = true) : CallR X (.builtin "sum") (rSumL X.K) := by
  intro pins s σ H vs us Q I r h
  obtain ⟨a, t, as, cs, rfl, hs, ht, hl, h0, hcs, hz, q⟩ := h
  obtain ⟨u1, u2, rfl, r1, r2⟩ := vals2 r
  obtain rfl : u1 = Value.ref a := r1
  obtain rfl : u2 = Value.ref t := r2
  obtain ⟨its, rv, pl, hz2⟩ := I.list hs
  have ei := refs_at rv
  obtain ⟨o, n, ho, hcl, hd, hdat⟩ := pl
  obtain ⟨_, its0, n0, r0, hl0, e0⟩ := I.lstM ht
  have z0 := r0.zero
  subst z0
  -- each list's values
  have pick : ∀ (as : List Addr) (cs : List (List V)), as.length = cs.length → (∀ (i : Nat) (b : Addr) (xs : List V), as[i]? = some b → cs[i]? = some xs → H b = some (.lst xs)) → ∃ us : List (List Value), Paired Vals cs us ∧ LstsAt s.heap as us := by
    intro as
    induction as with
    | nil =>
      intro cs hl _
      cases cs with
      | nil => exact ⟨[], .nil, fun i a m ha => by simp at ha⟩
      | cons x cs => simp at hl
    | cons b as ih =>
      intro cs hl hcs
      cases cs with
      | nil => simp at hl
      | cons x cs =>
        obtain ⟨us, pu, lu⟩ := ih cs (by simpa using hl) fun i b' xs h1 h2 => hcs (i + 1) b' xs (by simpa using h1) (by simpa using h2)
        obtain ⟨_, ib, nb, rb, _, eb⟩ := I.lstM (hcs 0 b x rfl rfl)
        refine ⟨ib :: us, .cons rb pu, fun i a m ha hm => ?_⟩
        cases i with
        | zero =>
          cases ha
          cases hm
          exact ⟨nb, eb⟩
        | succ i => exact lu i a m (by simpa using ha) (by simpa using hm)
  obtain ⟨us, pu, lu⟩ := pick as cs hl.symm hcs
  have rel := vals_flat pu
  have el : us.length = cs.length := (Paired.length pu).symm
  have ef : us.flatten.length ≤ sizeLine := by
    rw [← rel.length]
    exact hz
  refine sum_lists as us (I.ok.hd hc) ⟨o, ho, hcl, n, hdat⟩ (by simpa using ei) (by rw [el, hl]) (by rw [el]; exact h0) e0 lu ef fun s' p np kp gs os lp far => ?_
  have hn : H p = none := I.hok.fresh far
  have J : Inv X pins σ (upd H p (.lst cs.flatten)) { s with heap := s'.heap, gens := s'.gens, drawn := s'.drawn, toks := s'.toks } :=
    I.call (ch := []) (Un.laid kp far hn) (I.hok.laid kp far ⟨hz, us.flatten, np, rel, lp⟩) (by rw [gs]; exact I.bare) (fun _ z => nomatch z)
  have e : s' = { s with heap := s'.heap, gens := s'.gens, drawn := s'.drawn, toks := s'.toks } := by
    cases s'
    cases s
    cases os
    rfl
  rw [e]
  exact ⟨.ref p, _, J, rfl, q p hn⟩
end
end G

namespace M
open PySem PySem.Spec PyProof.Rows L2 G
def top (i : Nat) : Stmt := PySem.Challenge.pw_divisorsums_k84_whole_tables_as_products.main.body.getD i (.Pass ⟨0, 0, 0, 0⟩)
abbrev s_is_integer : Stmt := top 10
theorem sc_is_integer : FnScope ["value"] ["value"] (defScope s_is_integer) := ⟨rfl, rfl, rfl, by decide +kernel, rfl, by decide +kernel, by decide +kernel⟩
abbrev s_is_list : Stmt := top 11
theorem sc_is_list : FnScope ["value"] ["value"] (defScope s_is_list) := ⟨rfl, rfl, rfl, by decide +kernel, rfl, by decide +kernel, by decide +kernel⟩
abbrev s_want_at_most : Stmt := top 12
theorem sc_want_at_most : FnScope ["what", "limit", "number"] ["what", "limit", "number"] (defScope s_want_at_most) := ⟨rfl, rfl, rfl, by decide +kernel, rfl, by decide +kernel, by decide +kernel⟩
abbrev s_is_number_of : Stmt := top 14
theorem sc_is_number_of : FnScope ["value", "most"] ["value", "most"] (defScope s_is_number_of) := ⟨rfl, rfl, rfl, by decide +kernel, rfl, by decide +kernel, by decide +kernel⟩
abbrev s_share_of : Stmt := top 15
theorem sc_share_of : FnScope ["near", "far", "one", "other"] ["near", "far"] (defScope s_share_of) := ⟨rfl, rfl, rfl, by decide +kernel, rfl, by decide +kernel, by decide +kernel⟩
abbrev s_powers_of : Stmt := top 16
theorem sc_powers_of : FnScope ["number", "found", "left", "prime", "many"] ["number"] (defScope s_powers_of) := ⟨rfl, rfl, rfl, by decide +kernel, rfl, by decide +kernel, by decide +kernel⟩
abbrev s_divisors_by : Stmt := top 17
theorem sc_divisors_by : FnScope ["powers", "found", "prime", "many", "longer", "factor", "turn", "one"] ["powers"] (defScope s_divisors_by) := ⟨rfl, rfl, rfl, by decide +kernel, rfl, by decide +kernel, by decide +kernel⟩
abbrev s_divisors_of : Stmt := top 18
theorem sc_divisors_of : FnScope ["number"] ["number"] (defScope s_divisors_of) := ⟨rfl, rfl, rfl, by decide +kernel, rfl, by decide +kernel, by decide +kernel⟩
abbrev s_is_lot_value : Stmt := top 23
theorem sc_is_lot_value : FnScope ["value", "one", "near", "far"] ["value"] (defScope s_is_lot_value) := ⟨rfl, rfl, rfl, by decide +kernel, rfl, by decide +kernel, by decide +kernel⟩
abbrev s_want_lot : Stmt := top 24
theorem sc_want_lot : FnScope ["value"] ["value"] (defScope s_want_lot) := ⟨rfl, rfl, rfl, by decide +kernel, rfl, by decide +kernel, by decide +kernel⟩
abbrev s_is_table_value : Stmt := top 25
theorem sc_is_table_value : FnScope ["value", "row", "one"] ["value"] (defScope s_is_table_value) := ⟨rfl, rfl, rfl, by decide +kernel, rfl, by decide +kernel, by decide +kernel⟩
abbrev s_want_table : Stmt := top 26
theorem sc_want_table : FnScope ["value"] ["value"] (defScope s_want_table) := ⟨rfl, rfl, rfl, by decide +kernel, rfl, by decide +kernel, by decide +kernel⟩
abbrev s_shares_of : Stmt := top 27
theorem sc_shares_of : FnScope ["numbers", "near", "far"] ["numbers"] (defScope s_shares_of) := ⟨rfl, rfl, rfl, by decide +kernel, rfl, by decide +kernel, by decide +kernel⟩
abbrev s_multiples_of : Stmt := top 28
theorem sc_multiples_of : FnScope ["numbers", "near", "far"] ["numbers"] (defScope s_multiples_of) := ⟨rfl, rfl, rfl, by decide +kernel, rfl, by decide +kernel, by decide +kernel⟩
abbrev s_times_of : Stmt := top 29
theorem sc_times_of : FnScope ["table", "other", "size", "found", "row", "to", "at"] ["table", "other"] (defScope s_times_of) := ⟨rfl, rfl, rfl, by decide +kernel, rfl, by decide +kernel, by decide +kernel⟩
abbrev s_turned_of : Stmt := top 30
theorem sc_turned_of : FnScope ["table", "at", "row"] ["table"] (defScope s_turned_of) := ⟨rfl, rfl, rfl, by decide +kernel, rfl, by decide +kernel, by decide +kernel⟩
abbrev s_worth_of : Stmt := top 31
theorem sc_worth_of : FnScope ["table", "rows", "sign", "last", "size", "at", "some", "row", "late", "to", "whole"] ["table"] (defScope s_worth_of) := ⟨rfl, rfl, rfl, by decide +kernel, rfl, by decide +kernel, by decide +kernel⟩
abbrev s_free_count : Stmt := top 32
theorem sc_free_count : FnScope ["number", "found", "prime", "many"] ["number"] (defScope s_free_count) := ⟨rfl, rfl, rfl, by decide +kernel, rfl, by decide +kernel, by decide +kernel⟩
abbrev s_share_table : Stmt := top 33
theorem sc_share_table : FnScope ["numbers"] ["numbers"] (defScope s_share_table) := ⟨rfl, rfl, rfl, by decide +kernel, rfl, by decide +kernel, by decide +kernel⟩
abbrev s_multiple_table : Stmt := top 34
theorem sc_multiple_table : FnScope ["numbers"] ["numbers"] (defScope s_multiple_table) := ⟨rfl, rfl, rfl, by decide +kernel, rfl, by decide +kernel, by decide +kernel⟩
abbrev s_divisor_table : Stmt := top 35
theorem sc_divisor_table : FnScope ["numbers", "others", "near", "far"] ["numbers", "others"] (defScope s_divisor_table) := ⟨rfl, rfl, rfl, by decide +kernel, rfl, by decide +kernel, by decide +kernel⟩
abbrev s_table_times : Stmt := top 36
theorem sc_table_times : FnScope ["table", "other"] ["table", "other"] (defScope s_table_times) := ⟨rfl, rfl, rfl, by decide +kernel, rfl, by decide +kernel, by decide +kernel⟩
abbrev s_turned_table : Stmt := top 37
theorem sc_turned_table : FnScope ["table"] ["table"] (defScope s_turned_table) := ⟨rfl, rfl, rfl, by decide +kernel, rfl, by decide +kernel, by decide +kernel⟩
abbrev s_table_worth : Stmt := top 38
theorem sc_table_worth : FnScope ["table"] ["table"] (defScope s_table_worth) := ⟨rfl, rfl, rfl, by decide +kernel, rfl, by decide +kernel, by decide +kernel⟩
abbrev s_share_free : Stmt := top 39
theorem sc_share_free : FnScope ["number"] ["number"] (defScope s_share_free) := ⟨rfl, rfl, rfl, by decide +kernel, rfl, by decide +kernel, by decide +kernel⟩
abbrev s_middle_of : Stmt := top 40
theorem sc_middle_of : FnScope ["numbers", "every", "number", "one"] ["numbers"] (defScope s_middle_of) := ⟨rfl, rfl, rfl, by decide +kernel, rfl, by decide +kernel, by decide +kernel⟩
abbrev s_lacking_of : Stmt := top 42
theorem sc_lacking_of : FnScope ["numbers", "number", "one"] ["numbers"] (defScope s_lacking_of) := ⟨rfl, rfl, rfl, by decide +kernel, rfl, by decide +kernel, by decide +kernel⟩
abbrev s_is_closed_of : Stmt := top 43
theorem sc_is_closed_of : FnScope ["numbers"] ["numbers"] (defScope s_is_closed_of) := ⟨rfl, rfl, rfl, by decide +kernel, rfl, by decide +kernel, by decide +kernel⟩
abbrev s_closure_of : Stmt := top 44
theorem sc_closure_of : FnScope ["numbers", "every", "number", "one"] ["numbers"] (defScope s_closure_of) := ⟨rfl, rfl, rfl, by decide +kernel, rfl, by decide +kernel, by decide +kernel⟩
abbrev s_is_closed : Stmt := top 45
theorem sc_is_closed : FnScope ["numbers"] ["numbers"] (defScope s_is_closed) := ⟨rfl, rfl, rfl, by decide +kernel, rfl, by decide +kernel, by decide +kernel⟩
abbrev s_closed_lot : Stmt := top 46
theorem sc_closed_lot : FnScope ["numbers", "found"] ["numbers"] (defScope s_closed_lot) := ⟨rfl, rfl, rfl, by decide +kernel, rfl, by decide +kernel, by decide +kernel⟩
abbrev s_share_worth : Stmt := top 47
theorem sc_share_worth : FnScope ["numbers"] ["numbers"] (defScope s_share_worth) := ⟨rfl, rfl, rfl, by decide +kernel, rfl, by decide +kernel, by decide +kernel⟩
abbrev s__law_pot : Stmt := top 49
theorem sc__law_pot : FnScope ["script", "k", "cell"] ["script", "k"] (defScope s__law_pot) := ⟨rfl, rfl, rfl, by decide +kernel, rfl, by decide +kernel, by decide +kernel⟩
abbrev s__law_draw : Stmt := top 50
theorem sc__law_draw : FnScope ["pot", "many", "digit"] ["pot", "many"] (defScope s__law_draw) := ⟨rfl, rfl, rfl, by decide +kernel, rfl, by decide +kernel, by decide +kernel⟩
abbrev s__law_pick : Stmt := top 51
theorem sc__law_pick : FnScope ["pot", "some"] ["pot", "some"] (defScope s__law_pick) := ⟨rfl, rfl, rfl, by decide +kernel, rfl, by decide +kernel, by decide +kernel⟩
abbrev s__law_share : Stmt := top 52
theorem sc__law_share : FnScope ["near", "far", "one", "other"] ["near", "far"] (defScope s__law_share) := ⟨rfl, rfl, rfl, by decide +kernel, rfl, by decide +kernel, by decide +kernel⟩
abbrev s__law_divisors : Stmt := top 53
theorem sc__law_divisors : FnScope ["number", "found", "at"] ["number"] (defScope s__law_divisors) := ⟨rfl, rfl, rfl, by decide +kernel, rfl, by decide +kernel, by decide +kernel⟩
abbrev s__law_primes : Stmt := top 54
theorem sc__law_primes : FnScope ["number", "found", "left", "at"] ["number"] (defScope s__law_primes) := ⟨rfl, rfl, rfl, by decide +kernel, rfl, by decide +kernel, by decide +kernel⟩
abbrev s__law_free : Stmt := top 55
theorem sc__law_free : FnScope ["number", "found", "prime"] ["number"] (defScope s__law_free) := ⟨rfl, rfl, rfl, by decide +kernel, rfl, by decide +kernel, by decide +kernel⟩
abbrev s__law_sign : Stmt := top 56
theorem sc__law_sign : FnScope ["number", "primes", "prime"] ["number"] (defScope s__law_sign) := ⟨rfl, rfl, rfl, by decide +kernel, rfl, by decide +kernel, by decide +kernel⟩
abbrev s__law_worth : Stmt := top 57
theorem sc__law_worth : FnScope ["table", "rows", "above", "below", "at", "some", "lead", "late", "part", "row", "one", "other"] ["table"] (defScope s__law_worth) := ⟨rfl, rfl, rfl, by decide +kernel, rfl, by decide +kernel, by decide +kernel⟩
abbrev s__law_lot : Stmt := top 58
theorem sc__law_lot : FnScope ["pot", "most", "kind", "found", "more", "at"] ["pot", "most"] (defScope s__law_lot) := ⟨rfl, rfl, rfl, by decide +kernel, rfl, by decide +kernel, by decide +kernel⟩
abbrev s__law_is_closed : Stmt := top 59
theorem sc__law_is_closed : FnScope ["numbers", "number", "one"] ["numbers"] (defScope s__law_is_closed) := ⟨rfl, rfl, rfl, by decide +kernel, rfl, by decide +kernel, by decide +kernel⟩
abbrev s__law_product : Stmt := top 60
theorem sc__law_product : FnScope ["numbers", "found", "number"] ["numbers"] (defScope s__law_product) := ⟨rfl, rfl, rfl, by decide +kernel, rfl, by decide +kernel, by decide +kernel⟩
abbrev s__law_right : Stmt := top 61
theorem sc__law_right : FnScope ["pot", "turn", "numbers", "every", "table", "middle", "shares", "at", "to", "total", "lot", "square", "weights", "many", "near", "far", "number", "one", "free", "by", "row", "late", "other"] ["pot"] (defScope s__law_right) := ⟨rfl, rfl, rfl, by decide +kernel, rfl, by decide +kernel, by decide +kernel⟩
abbrev s_law : Stmt := top 62
theorem sc_law : FnScope ["script", "k"] ["script"] (defScope s_law) := ⟨rfl, rfl, rfl, by decide +kernel, rfl, by decide +kernel, by decide +kernel⟩
end M
namespace M
open PySem PySem.Spec PyProof.Rows L2 G
section
variable {P : Program} {w : World} {K : PySem.W.Frag} {mg : Str → Option Value} {base : Heap}
/-! whole numbers, their bounds -/
def sp_is_integer (_ : PySem.W.Frag) : Sp := spec1 fun x H Q _ => ∃ n : Int, x = .int n ∧ Q (.bl true) H
theorem ok_is_integer {af : Addr} {fd : FuncData} (F : FunD K "is_integer" "is_integer" (defArgs s_is_integer) (defBody s_is_integer) (defScope s_is_integer) [] [] af fd) (B : Bt mg)  : FnG P w K mg base CX0 1 af fd ["value"] (sp_is_integer K) := by
  refine okG F sc_is_integer ar1 fun cdv A outer s H vs Q E hg hr h => ?_
  refine ⟨_, PSs.nox (pss_one (ps_ret (pe_and (pe_callB call_isi (by rfl) B.isinstance (by decide +kernel) (pa_cons (pv 0) (pa_cons (pe_bltn (v := .ty "int") (by rfl) B.int (by decide +kernel) rfl) pa_nil))) (pe_one (pe_not (pe_callB call_isi (by rfl) B.isinstance (by decide +kernel) (pa_cons (pv 0) (pa_cons (pe_bltn (v := .ty "bool") (by rfl) B.bool (by decide +kernel) rfl) pa_nil)))))))), ?_⟩
  obtain ⟨_, rfl, n, rfl, q⟩ := h
  refine ⟨_, rfl, _, _, _, _, true, rfl, .ty "int", .base (.int n), kit_ty (by decide +kernel), true, rfl, iteT ?_⟩
  exact ⟨_, rfl, _, _, _, _, false, rfl, .ty "bool", .base (.int n), kit_ty (by decide +kernel), false, rfl, q⟩
def sp_is_count (_ : PySem.W.Frag) : Sp := spec1 fun x H Q _ => ∃ n : Int, x = .int n ∧ Q (.bl (decide (0 ≤ n))) H
def sp_want_many (_ : PySem.W.Frag) : Sp := spec3 fun x y z H Q _ => ∃ n m l : Int, x = .int n ∧ y = .int m ∧ z = .int l ∧ 0 ≤ n ∧ l ≤ n ∧ n ≤ m ∧ Q .non H
end
end M
namespace M
open PySem PySem.Spec PyProof.Rows L2 G
section
variable {P : Program} {w : World} {K : PySem.W.Frag} {mg : Str → Option Value} {base : Heap}
/-! numbers within bounds -/
def sp_is_number_of (_ : PySem.W.Frag) : Sp := spec2 fun x y H Q _ => ∃ n m : Int, x = .int n ∧ y = .int m ∧ 1 ≤ n ∧ n ≤ m ∧ Q (.bl true) H
theorem ok_is_number_of {af : Addr} {fd : FuncData} (F : FunD K "is_number_of" "is_number_of" (defArgs s_is_number_of) (defBody s_is_number_of) (defScope s_is_number_of) [] [] af fd) (B : Bt mg) (C_is_integer : Cl P w K mg base 1 "is_integer" 1 [] (sp_is_integer K)) : FnG P w K mg base CX0 2 af fd ["value", "most"] (sp_is_number_of K) := by
  refine okG F sc_is_number_of ar2 fun cdv A outer s H vs Q E hg hr h => ?_
  refine ⟨_, PSs.nox (pss_one (ps_ret (pe_and (pe_cl C_is_integer hg hr (by decide) rfl (pa_cons (pv 0) pa_nil)) (pe_one (pe_chain op_le op_le pe_int (pv 0) (pv 1)))))), ?_⟩
  obtain ⟨_, _, rfl, n, m, rfl, rfl, h1, h2, q⟩ := h
  refine ⟨_, rfl, _, rfl, n, rfl, true, rfl, iteT ?_⟩
  refine ⟨_, rfl, _, _, rfl, rfl, true, bl_t h1, iteT ⟨_, rfl, _, _, rfl, rfl, blT (Q := Q) h2 q⟩⟩
def sp_want_number (_ : PySem.W.Frag) : Sp := spec2 fun x y H Q _ => ∃ n m : Int, x = .int n ∧ y = .int m ∧ 1 ≤ n ∧ n ≤ m ∧ Q .non H
end
end M
namespace M
open PySem PySem.Spec PyProof.Rows L2 G
section
variable {P : Program} {w : World} {K : PySem.W.Frag} {mg : Str → Option Value} {base : Heap}
def sp_want_other_number (_ : PySem.W.Frag) : Sp := spec2 fun x y H Q _ => ∃ n m : Int, x = .int n ∧ y = .int m ∧ 1 ≤ n ∧ n ≤ m ∧ Q .non H
end
end M
namespace M
open PySem PySem.Spec PyProof.Rows L2 G
section
variable {P : Program} {w : World} {K : PySem.W.Frag} {mg : Str → Option Value} {base : Heap}
/-! the law's own draws -/
/-- a pot: two ints that are not negative, the second one not great -/
def PotAt (H : Hp) (a : Addr) : Prop := ∃ p q : Int, H a = some (.lst [.int p, .int q]) ∧ 0 ≤ p ∧ 0 ≤ q ∧ q ≤ 4294967296
def sp__law_pot (K : PySem.W.Frag) : Sp := spec2 fun x y H Q _ => ∃ (l : Addr) (ns : List Int) (k : Nat), x = .ref l ∧ y = .int k ∧ SqL K H l (ns.map V.int) ∧ k ≤ 63 ∧ ∀ a H', Same H H' → H a = none → PotAt H' a → Q (.ref a) H'
theorem potLast (x : Int) : 0 ≤ x % 2147483563 + 1 ∧ x % 2147483563 + 1 ≤ 4294967296 := by omega
theorem potMod (x : Int) : 0 ≤ x % 2147483549 ∧ x % 2147483549 ≤ 18446744073709551615 := by omega
theorem ok__law_pot {af : Addr} {fd : FuncData} (F : FunD K "_law_pot" "_law_pot" (defArgs s__law_pot) (defBody s__law_pot) (defScope s__law_pot) [] [] af fd) (B : Bt mg)  : FnG P w K mg base CX0 1 af fd ["script", "k"] (sp__law_pot K) := by
  refine okG F sc__law_pot ar2 fun cdv A outer s H vs Q E hg hr h => ?_
  refine ⟨_, PSs.nox (pss_cons (ps_set (i := 2) sc__law_pot.nd rfl (.inl rfl) (pe_ifExp (pt_cmpR op_lt (pv 1) (pe_callB call_len_seq (by rfl) B.len (by decide +kernel) (pa_cons (pv 0) pa_nil)) (nomark _)) (pe_callB call_abs (by rfl) B.abs (by decide +kernel) (pa_cons (pe_ix ix_list (pv 0) (pv 1) (fun _ _ => rfl)) pa_nil)) (pe_op op_add (pe_op op_mul pe_int (pv 1)) pe_int)))
    (pss_one (ps_ret (pe_lst (pa_cons (pe_callB (call_max2 rfl) (by rfl) B.max (by decide +kernel) (pa_cons pe_int (pa_cons (pe_op op_sub (pv 2) (pe_op op_pow pe_int pe_int)) pa_nil))) (pa_cons (pe_op op_add (pe_op op_mod (pe_callTy call_int1 (by rfl) B.int (by decide +kernel) (pa_cons (pe_op op_add (pe_op op_add (pe_op op_mul (pe_op op_mod (pe_callTy call_int1 (by rfl) B.int (by decide +kernel) (pa_cons (pv 2) pa_nil)) pe_int) pe_int) (pe_op op_mul pe_int (pv 1))) pe_int) pa_nil)) pe_int) pe_int) pa_nil)))))), ?_⟩
  obtain ⟨_, _, rfl, l, ns, k, rfl, rfl, hS, hk, q⟩ := h
  refine ⟨_, rfl, _, rfl, l, _, rfl, .inl hS, _, _, rfl, rfl, _, rfl, ite2 (fun hlt => ?_) (fun _ => ?_)⟩
  · have hlt' : k < ns.length := by
      have := of_decide_eq_true hlt
      rw [List.length_map] at this
      omega
    refine ⟨_, rfl, _, rfl, l, _, _, _, rfl, rfl, hS, at_ints hlt', _, rfl, ?_⟩
    refine ⟨_, rfl, _, _, rfl, rfl, ⟨by decide, by decide, by decide⟩, _, _, rfl, rfl, _, _, rfl, _, rfl, .inl ⟨_, rfl, _, _, rfl, rfl, (by show (0 : Int) < _; decide), _, _, rfl, rfl, mulc (potMod _), _, rfl, _, _, rfl, rfl, c64, _, _, rfl, rfl, _, _, rfl, rfl, .inl ⟨_, rfl, _, _, rfl, rfl, (by show (0 : Int) < _; decide), _, _, rfl, rfl, sz2, fun p hp => ?_⟩⟩⟩
    exact q p _ (Same.new (Same.refl _) hp) hp ⟨_, _, upd_same, max0 _, potLast _⟩
  · refine ⟨_, rfl, _, _, rfl, rfl, c64, _, _, rfl, rfl, ?_⟩
    refine ⟨_, rfl, _, _, rfl, rfl, ⟨by decide, by decide, by decide⟩, _, _, rfl, rfl, _, _, rfl, _, rfl, .inl ⟨_, rfl, _, _, rfl, rfl, (by show (0 : Int) < _; decide), _, _, rfl, rfl, mulc (potMod _), _, rfl, _, _, rfl, rfl, c64, _, _, rfl, rfl, _, _, rfl, rfl, .inl ⟨_, rfl, _, _, rfl, rfl, (by show (0 : Int) < _; decide), _, _, rfl, rfl, sz2, fun p hp => ?_⟩⟩⟩
    exact q p _ (Same.new (Same.refl _) hp) hp ⟨_, _, upd_same, max0 _, potLast _⟩
def sp__law_draw (_ : PySem.W.Frag) : Sp := spec2 fun x y H Q _ => ∃ (a : Addr) (m : Int), x = .ref a ∧ y = .int m ∧ PotAt H a ∧ 0 < m ∧ m < 2 ^ 64 ∧ ∀ (d : Int) H', 0 ≤ d → d < m → Grow a H H' → PotAt H' a → Q (.int d) H'
theorem ok__law_draw {af : Addr} {fd : FuncData} (F : FunD K "_law_draw" "_law_draw" (defArgs s__law_draw) (defBody s__law_draw) (defScope s__law_draw) [] [] af fd) (B : Bt mg)  : FnG P w K mg base CX0 1 af fd ["pot", "many"] (sp__law_draw K) := by
  refine okG F sc__law_draw ar2 fun cdv A outer s H vs Q E hg hr h => ?_
  refine ⟨_, PSs.nox (pss_cons (ps_if (pt_cmpR op_gt (pe_ix ix_list (pv 0) pe_int (fun _ _ => rfl)) pe_int (nomark _))
      (pss_cons (ps_asg (pe_callB call_divmodW (by rfl) B.divmod (by decide +kernel) (pa_cons (pe_ix ix_list (pv 0) pe_int (fun _ _ => rfl)) (pa_cons (pv 1) pa_nil))) (pg_tup rfl (pgs_cons (pg_sub (pv 0) pe_int set_list) (pgs_cons (pg_name (i := 2) sc__law_draw.nd rfl (.inl rfl)) pgs_nil))))
      (pss_one (ps_ret (pv 2))))
      pss_nil)
    (pss_cons (ps_asg (pe_op op_mod (pe_callTy call_int1 (by rfl) B.int (by decide +kernel) (pa_cons (pe_op op_add (pe_op op_mul (pe_ix ix_list (pv 0) pe_int (fun _ _ => rfl)) pe_int) pe_int) pa_nil)) pe_int) (pg_sub (pv 0) pe_int set_list))
    (pss_one (ps_ret (pe_op op_mod (pe_callTy call_int1 (by rfl) B.int (by decide +kernel) (pa_cons (pe_op op_fdivW (pe_op op_mod (pe_callTy call_int1 (by rfl) B.int (by decide +kernel) (pa_cons (pe_op op_mul (pe_ix ix_list (pv 0) pe_int (fun _ _ => rfl)) (pe_ix ix_list (pv 0) pe_int (fun _ _ => rfl))) pa_nil)) pe_int) pe_int) pa_nil)) (pv 1)))))), ?_⟩
  obtain ⟨_, _, rfl, a, m, rfl, rfl, ⟨p, r, hp, h0, h1, h2⟩, hm, hm2, q⟩ := h
  refine ⟨_, rfl, a, _, _, _, rfl, rfl, SqL.of hp, at0, _, _, rfl, rfl, _, rfl, ite2 (fun _ => ?_) (fun _ => ?_)⟩
  · refine ⟨_, rfl, a, _, _, _, rfl, rfl, SqL.of hp, at0, _, rfl, p, m, rfl, divp hm hm2, fun t ht => ?_⟩
    have nat' : a ≠ t := ne_of_none hp ht
    refine ⟨t, _, rfl, SqT.of upd_same, rfl, _, _, rfl, ⟨_, rfl, a, _, _, 0, rfl, rfl, (upd_ne nat').trans hp, rfl, _, _, rfl, ⟨rfl, _, rfl, ?_⟩⟩⟩
    refine q _ _ (Int.emod_nonneg _ (by omega)) (Int.emod_lt_of_pos _ hm) (((Grow.refl a H).new ht).put) ⟨_, _, upd_same, divNN h0 hm, h1, h2⟩
  · refine ⟨_, rfl, a, _, _, _, rfl, rfl, SqL.of hp, at1, _, _, rfl, rfl, mulc ⟨h1, by omega⟩, _, _, rfl, rfl, .inl ⟨_, rfl, _, _, rfl, rfl, (by show (0 : Int) < _; decide), _, rfl, a, _, _, 1, rfl, rfl, hp, rfl, ?_⟩⟩
    have e1 : (upd H a (.lst ([V.int p, V.int r].set 1 (.int ((r * 40014 + 13001) % 2147483563))))) a = some (.lst [.int p, .int ((r * 40014 + 13001) % 2147483563)]) := upd_same
    have b1 : 0 ≤ (r * 40014 + 13001) % 2147483563 ∧ (r * 40014 + 13001) % 2147483563 ≤ 4294967296 := by omega
    refine ⟨_, rfl, a, _, _, _, rfl, rfl, SqL.of e1, at1, _, rfl, a, _, _, _, rfl, rfl, SqL.of e1, at1, _, _, rfl, rfl, mulc ⟨b1.1, by omega⟩, .inl ⟨_, rfl, _, _, rfl, rfl, (by show (0 : Int) < _; decide), _, _, rfl, rfl, divw (by decide) (by decide), .inl ⟨_, rfl, _, rfl, _, _, rfl, rfl, hm, ?_⟩⟩⟩
    exact q _ _ (Int.emod_nonneg _ (by omega)) (Int.emod_lt_of_pos _ hm) (Grow.put (Grow.refl a H)) ⟨_, _, e1, h0, b1⟩
def sp__law_pick (K : PySem.W.Frag) : Sp := spec2 fun x y H Q _ => ∃ (a l : Addr) (xs : List V), x = .ref a ∧ y = .ref l ∧ PotAt H a ∧ l ≠ a ∧ SqL K H l xs ∧ 0 < xs.length ∧ xs.length < 100000 ∧ ∀ (v : V) H', v ∈ xs → Grow a H H' → PotAt H' a → Q v H'
theorem ok__law_pick {af : Addr} {fd : FuncData} (F : FunD K "_law_pick" "_law_pick" (defArgs s__law_pick) (defBody s__law_pick) (defScope s__law_pick) [] [] af fd) (B : Bt mg) (C__law_draw : Cl P w K mg base 1 "_law_draw" 2 [] (sp__law_draw K)) : FnG P w K mg base CX0 2 af fd ["pot", "some"] (sp__law_pick K) := by
  refine okG F sc__law_pick ar2 fun cdv A outer s H vs Q E hg hr h => ?_
  refine ⟨_, PSs.nox (pss_one (ps_ret (pe_ix ix_list (pv 1) (pe_cl C__law_draw hg hr (by decide) rfl (pa_cons (pv 0) (pa_cons (pe_callB call_len_seq (by rfl) B.len (by decide +kernel) (pa_cons (pv 1) pa_nil)) pa_nil))) (fun _ _ => rfl)))), ?_⟩
  obtain ⟨_, _, rfl, a, l, xs, rfl, rfl, hp, hl, hS, hn, hn2, q⟩ := h
  refine ⟨_, rfl, _, rfl, _, rfl, l, xs, rfl, .inl hS, _, _, rfl, a, _, rfl, rfl, hp, by omega, by omega, fun d H' h1 h2 g hp' => ?_⟩
  obtain ⟨i, rfl⟩ := Int.eq_ofNat_of_zero_le h1
  have hi : i < xs.length := by omega
  exact ⟨l, xs, _, xs[i], rfl, rfl, g.seq hl hS, atI_nat (List.getElem?_eq_getElem hi), q _ _ (List.getElem_mem hi) g hp'⟩

end
end M
namespace M
open PySem PySem.Spec PyProof.Rows L2 G
section
variable {P : Program} {w : World} {K : PySem.W.Frag} {mg : Str → Option Value} {base : Heap}
theorem PotAt.same {H H' : Hp} {a : Addr} (h : PotAt H a) (s : Same H H') : PotAt H' a := by
  obtain ⟨p, q, e, r⟩ := h
  exact ⟨p, q, s _ _ e, r⟩
theorem PotAt.ne {H : Hp} {a b : Addr} (h : PotAt H a) (e : H b = none) : b ≠ a := by
  obtain ⟨p, q, z, _⟩ := h
  rintro rfl
  rw [e] at z
  cases z
theorem PotAt.new {H : Hp} {a b : Addr} {o : HO} (h : PotAt H a) (e : H b = none) : PotAt (upd H b o) a := h.same ((Same.refl H).new e)
/-- the pot, and a list that stands; what stood at first stands -/
structure Lv (H0 : Hp) (a l : Addr) (xs : List V) (H : Hp) : Prop where
  pot : PotAt H a
  ne : l ≠ a
  at_ : H l = some (.lst xs)
  gr : Grow a H0 H
theorem Lv.same {H0 : Hp} {a l : Addr} {xs : List V} {H H' : Hp} (h : Lv H0 a l xs H) (s : Same H H') : Lv H0 a l xs H' := ⟨h.pot.same s, h.ne, s _ _ h.at_, h.gr.trans (Grow.of s)⟩
theorem Lv.grow {H0 : Hp} {a l : Addr} {xs : List V} {H H' : Hp} (h : Lv H0 a l xs H) (g : Grow a H H') (p : PotAt H' a) : Lv H0 a l xs H' := ⟨p, h.ne, g _ _ h.ne h.at_, h.gr.trans g⟩
/-- a picked int lies within -/
theorem picked {v : V} {ns : List Int} {lo hi : Int} (h : v ∈ ns.map V.int) (hb : ∀ x ∈ ns, lo ≤ x ∧ x ≤ hi) : ∃ m : Int, v = .int m ∧ m ∈ ns ∧ lo ≤ m ∧ m ≤ hi := by
  obtain ⟨x, hx, rfl⟩ := List.mem_map.mp h
  exact ⟨x, rfl, hx, hb x hx⟩

end
end M
namespace M
open PySem PySem.Spec PyProof.Rows L2 G
section
variable {P : Program} {w : World} {K : PySem.W.Frag} {mg : Str → Option Value} {base : Heap}
/-! lists in which multiples are set, one by one -/
/-- whether k is one of the first j multiples of m from st on -/
def hit (st m j k : Nat) : Bool := decide (m ∣ k) && decide (st ≤ k) && decide (k < st + j * m)
theorem hit_zero (st m k : Nat) : hit st m 0 k = false := by
  unfold hit
  rw [Bool.eq_false_iff]
  intro z
  simp only [Bool.and_eq_true, decide_eq_true_eq] at z
  omega
theorem hit_next {st m j k : Nat} (hm : 0 < m) (hd : m ∣ st) : hit st m (j + 1) k = (hit st m j k || decide (k = st + j * m)) := by
  unfold hit
  rw [Bool.eq_iff_iff]
  simp only [Bool.and_eq_true, Bool.or_eq_true, decide_eq_true_eq, Nat.succ_mul]
  constructor
  · rintro ⟨⟨h1, h2⟩, h3⟩
    by_cases e : k < st + j * m
    · exact .inl ⟨⟨h1, h2⟩, e⟩
    · refine .inr ?_
      have d : m ∣ k - (st + j * m) := Nat.dvd_sub h1 (Nat.dvd_add hd (Nat.dvd_mul_left m j))
      rcases Nat.eq_zero_or_pos (k - (st + j * m)) with z | z
      · omega
      · have := Nat.le_of_dvd z d
        omega
  · rintro (⟨⟨h1, h2⟩, h3⟩ | rfl)
    · exact ⟨⟨h1, h2⟩, by omega⟩
    · exact ⟨⟨Nat.dvd_add hd (Nat.dvd_mul_left m j), Nat.le_add_right _ _⟩, by omega⟩
theorem hit_here {st m j : Nat} : hit st m j (st + j * m) = false := by
  unfold hit
  simp
theorem hit_done {st m k : Nat} {hi : Int} (hm : 0 < m) (hd : m ∣ st) (hk : (k : Int) < hi) : hit st m (turns st hi m) k = (decide (m ∣ k) && decide (st ≤ k)) := by
  unfold hit
  by_cases h1 : m ∣ k
  · by_cases h2 : st ≤ k
    · rw [decide_eq_true h1, decide_eq_true h2]
      simp only [Bool.true_and]
      refine decide_eq_true ?_
      obtain ⟨c, hc⟩ := Nat.dvd_sub h1 hd
      have e : k = st + c * m := by rw [Nat.mul_comm]; omega
      have := turns_mem (i := st) (j := hi) (c := m) (k := c) (by omega) (by
        have : (k : Int) = (st : Int) + (c : Int) * (m : Int) := by rw [e, Int.natCast_add, Int.natCast_mul]
        omega)
      have := Nat.mul_lt_mul_of_pos_right this hm
      omega
    · rw [decide_eq_false h2]
      simp
  · rw [decide_eq_false h1]
    simp
/-- the list, j of the multiples set; what stands at i belongs to the number i + off -/
def hitL (N off st m j : Nat) (f g : Nat → V) : List V := (List.range N).map fun i => if hit st m j (i + off) then f i else g i
section
variable {N off st m j : Nat} {f g : Nat → V}
theorem hitL_zero : hitL N off st m 0 f g = (List.range N).map g := by
  unfold hitL
  refine List.map_congr_left fun i _ => ?_
  rw [hit_zero]
  rfl
theorem hitL_len : (hitL N off st m j f g).length = N := len_map_range
theorem hitL_get {i : Nat} (e : i + off = st + j * m) (h : i < N) : atI (hitL N off st m j f g) (i : Int) = some (g i) := by
  unfold hitL
  rw [map_range_at h, e, hit_here]
  rfl
theorem hitL_set {i : Nat} (hm : 0 < m) (hd : m ∣ st) (e : i + off = st + j * m) : (hitL N off st m j f g).set i (f i) = hitL N off st m (j + 1) f g := by
  unfold hitL
  rw [map_range_set]
  refine List.map_congr_left fun k _ => ?_
  rw [hit_next hm hd]
  by_cases ek : k = i
  · rw [if_pos ek, ← e, ek, decide_eq_true rfl, Bool.or_true]
    rfl
  · rw [if_neg ek, decide_eq_false (show ¬ k + off = st + j * m by omega), Bool.or_false]
theorem hitL_done {hi : Int} (hm : 0 < m) (hd : m ∣ st) (hN : ((N + off : Nat) : Int) ≤ hi) : hitL N off st m (turns st hi m) f g = (List.range N).map fun i => if m ∣ i + off ∧ st ≤ i + off then f i else g i := by
  unfold hitL
  refine List.map_congr_left fun i hi' => ?_
  have := List.mem_range.mp hi'
  rw [hit_done hm hd (by omega)]
  by_cases h1 : m ∣ i + off <;> by_cases h2 : st ≤ i + off <;> simp [h1, h2]
/-- a turn's place -/
theorem hit_place {hi : Int} (hm : 0 < m) (hj : j < turns st hi m) (hN : hi ≤ ((N + off : Nat) : Int)) (ho : off ≤ st) : ∃ i, i < N ∧ i + off = st + j * m ∧ (st : Int) + (j : Int) * (m : Int) = ((i + off : Nat) : Int) := by
  have lt := turns_lt (by omega) hj
  have e : (st : Int) + (j : Int) * (m : Int) = ((st + j * m : Nat) : Int) := by rw [Int.natCast_add, Int.natCast_mul]
  refine ⟨st + j * m - off, ?_, by omega, by omega⟩
  rw [e] at lt
  omega
end

end
end M
namespace M
/-! primes -/
def Pr (p : Nat) : Prop := 2 ≤ p ∧ ∀ d, d < p → 2 ≤ d → ¬ d ∣ p
instance (p : Nat) : Decidable (Pr p) := by unfold Pr; exact inferInstance
theorem Pr.two {p : Nat} (h : Pr p) : 2 ≤ p := h.1
theorem Pr.dvd {p d : Nat} (h : Pr p) (hd : d ∣ p) : d = 1 ∨ d = p := by
  have h0 : d ≠ 0 := by
    rintro rfl
    have := Nat.eq_zero_of_zero_dvd hd
    have := h.1
    omega
  have h1 := Nat.le_of_dvd (by have := h.1; omega) hd
  by_cases h2 : d = p
  · exact .inr h2
  · by_cases h3 : 2 ≤ d
    · exact (h.2 d (by omega) h3 hd).elim
    · exact .inl (by omega)
theorem Pr.coprime {p a : Nat} (h : Pr p) (ha : ¬ p ∣ a) : Nat.Coprime p a := by
  rcases h.dvd (Nat.gcd_dvd_left p a) with e | e
  · exact e
  · exact (ha (by rw [← e]; exact Nat.gcd_dvd_right p a)).elim
/-- Euclid -/
theorem Pr.mul {p a b : Nat} (h : Pr p) (hd : p ∣ a * b) : p ∣ a ∨ p ∣ b := by
  by_cases ha : p ∣ a
  · exact .inl ha
  · exact .inr (Nat.Coprime.dvd_of_dvd_mul_left (h.coprime ha) hd)
theorem Pr.pow {p a : Nat} (h : Pr p) : ∀ {k : Nat}, p ∣ a ^ k → p ∣ a
  | 0, hd => by
    rw [Nat.pow_zero] at hd
    have := Nat.le_of_dvd (by decide) hd
    have := h.1
    omega
  | k + 1, hd => by
    rw [Nat.pow_succ] at hd
    rcases h.mul hd with h1 | h1
    · exact h.pow h1
    · exact h1
theorem Pr.eq_of_dvd {p q : Nat} (h : Pr p) (hq : Pr q) (hd : p ∣ q) : p = q := by
  rcases hq.dvd hd with e | e
  · have := h.1
    omega
  · exact e
/-- the least divisor above 1 -/
theorem least_div : ∀ {n : Nat}, 2 ≤ n → ∃ p, Pr p ∧ p ∣ n ∧ (p = n ∨ p * p ≤ n) ∧ ∀ d, 2 ≤ d → d ∣ n → p ≤ d := by
  intro n hn
  have ex : ∃ d, 2 ≤ d ∧ d ∣ n := ⟨n, hn, Nat.dvd_refl n⟩
  have key : ∀ k : Nat, (∃ d, d ≤ k ∧ 2 ≤ d ∧ d ∣ n) → ∃ p, 2 ≤ p ∧ p ∣ n ∧ ∀ d, 2 ≤ d → d ∣ n → p ≤ d := by
    intro k
    induction k with
    | zero =>
      rintro ⟨d, h1, h2, _⟩
      omega
    | succ k ih =>
      intro h
      by_cases hk : ∃ d, d ≤ k ∧ 2 ≤ d ∧ d ∣ n
      · exact ih hk
      · obtain ⟨d, h1, h2, h3⟩ := h
        refine ⟨d, h2, h3, fun e he hd => ?_⟩
        rcases Nat.lt_or_ge e d with h4 | h4
        · exact (hk ⟨e, by omega, he, hd⟩).elim
        · exact h4
  obtain ⟨p, h1, h2, h3⟩ := key n ⟨n, Nat.le_refl n, hn, Nat.dvd_refl n⟩
  refine ⟨p, ⟨h1, fun d hd hd2 hdp => ?_⟩, h2, ?_, h3⟩
  · have := h3 d hd2 (Nat.dvd_trans hdp h2)
    omega
  · obtain ⟨m, hm⟩ := h2
    by_cases hm1 : m ≤ 1
    · left
      have : m ≠ 0 := by
        rintro rfl
        omega
      have : m = 1 := by omega
      rw [hm, this, Nat.mul_one]
    · right
      have := h3 m (by omega) ⟨p, by rw [hm, Nat.mul_comm]⟩
      rw [hm]
      exact Nat.mul_le_mul_left p this
theorem prime_div {n : Nat} (hn : 2 ≤ n) : ∃ p, Pr p ∧ p ∣ n := by
  obtain ⟨p, h1, h2, _⟩ := least_div hn
  exact ⟨p, h1, h2⟩
theorem not_pr_has {n : Nat} (hn : 2 ≤ n) (h : ¬ Pr n) : ∃ p, Pr p ∧ p ∣ n ∧ p * p ≤ n ∧ p < n := by
  obtain ⟨p, h1, h2, h3, _⟩ := least_div hn
  rcases h3 with rfl | h3
  · exact (h h1).elim
  · have : p < p * p := by
      have := h1.1
      have := Nat.mul_le_mul_left p this
      omega
    exact ⟨p, h1, h2, h3, by omega⟩
/-- the primes to a bound -/
def primesTo (n : Nat) : List Nat := (List.range (n + 1)).filter fun k => decide (Pr k)
theorem mem_primesTo {n p : Nat} : p ∈ primesTo n ↔ p ≤ n ∧ Pr p := by
  unfold primesTo
  rw [List.mem_filter, List.mem_range, decide_eq_true_eq, Nat.lt_succ_iff]
theorem primesTo_succ (n : Nat) : primesTo (n + 1) = primesTo n ++ if Pr (n + 1) then [n + 1] else [] := by
  unfold primesTo
  rw [List.range_succ, List.filter_append]
  congr 1
  by_cases h : Pr (n + 1)
  · simp [h]
  · simp [h]
theorem not_pr0 : ¬ Pr 0 := by decide
theorem not_pr1 : ¬ Pr 1 := by decide
theorem primesTo_one : primesTo 1 = [] := by decide
/-! the sieve: after the numbers below m, k stands where no prime below m whose square is at most k goes into it -/
def sieved (m k : Nat) : Bool := decide (∀ q, q < m → Pr q → q * q ≤ k → ¬ q ∣ k)
theorem sieved_prime {m : Nat} (h : 2 ≤ m) : sieved m m = decide (Pr m) := by
  unfold sieved
  by_cases hp : Pr m
  · rw [decide_eq_true hp, decide_eq_true]
    intro q h1 h2 h3 h4
    have := h2.eq_of_dvd hp h4
    omega
  · rw [decide_eq_false hp, decide_eq_false]
    intro h1
    obtain ⟨p, a, b, c, d⟩ := not_pr_has h hp
    exact h1 p d a c b
theorem sieved_next_not {m k : Nat} (h : ¬ Pr m) : sieved (m + 1) k = sieved m k := by
  unfold sieved
  refine decide_eq_decide.mpr ⟨fun z q h1 => z q (by omega), fun z q h1 h2 => ?_⟩
  by_cases e : q = m
  · subst e
    exact (h h2).elim
  · exact z q (by omega) h2
theorem sieved_next {m k : Nat} (h : Pr m) : sieved (m + 1) k = (sieved m k && !(decide (m * m ≤ k) && decide (m ∣ k))) := by
  unfold sieved
  by_cases h1 : m * m ≤ k ∧ m ∣ k
  · rw [decide_eq_true h1.1, decide_eq_true h1.2, decide_eq_false]
    · simp
    · intro z
      exact z m (by omega) h h1.1 h1.2
  · have : (decide (m * m ≤ k) && decide (m ∣ k)) = false := by
      rw [Bool.eq_false_iff]
      intro z
      simp only [Bool.and_eq_true, decide_eq_true_eq] at z
      exact h1 z
    rw [this, Bool.not_false, Bool.and_true]
    refine decide_eq_decide.mpr ⟨fun z q h2 => z q (by omega), fun z q h2 h3 h4 h5 => ?_⟩
    by_cases e : q = m
    · subst e
      exact h1 ⟨h4, h5⟩
    · exact z q (by omega) h3 h4 h5
theorem sieved_two (k : Nat) : sieved 2 k = true := by
  unfold sieved
  refine decide_eq_true fun q h1 h2 => ?_
  have := h2.1
  omega
/-! primes in a row -/
theorem Pr.sq_bound {n : Nat} (hn : 2 ≤ n) (h : ∀ q, Pr q → q * q ≤ n → ¬ q ∣ n) : Pr n := by
  refine Classical.byContradiction fun z => ?_
  obtain ⟨p, a, b, c, _⟩ := not_pr_has hn z
  exact h p a c b

end M
namespace M
open PySem PySem.Spec PyProof.Rows L2 G
section
variable {P : Program} {w : World} {K : PySem.W.Frag} {mg : Str → Option Value} {base : Heap}
/-! the primes to a bound, by a sieve -/
def sp_primes_to (_ : PySem.W.Frag) : Sp := spec1 fun x H Q _ => ∃ n : Nat, x = .int n ∧ n ≤ 1000000 ∧ ∀ p H', Same H H' → H p = none → H' p = some (.lst (nsV (primesTo n))) → Q (.ref p) H'
theorem primesTo_len (n : Nat) : (primesTo n).length ≤ n + 1 := by
  unfold primesTo
  have := List.length_filter_le (fun k => decide (Pr k)) (List.range (n + 1))
  rw [List.length_range] at this
  exact this
end
end M
namespace M
/-! powers of primes -/
def facP : List (Nat × Nat) → Nat
  | [] => 1
  | (p, e) :: r => p ^ e * facP r
/-- primes from b on, rising, exponents from 1 on -/
def FacOk : Nat → List (Nat × Nat) → Prop
  | _, [] => True
  | b, (p, e) :: r => b ≤ p ∧ Pr p ∧ 1 ≤ e ∧ FacOk (p + 1) r
/-- the powers of n -/
def FacOf (L : List (Nat × Nat)) (n : Nat) : Prop := FacOk 0 L ∧ facP L = n
theorem FacOk.mono {b c : Nat} (h : c ≤ b) : ∀ {L : List (Nat × Nat)}, FacOk b L → FacOk c L
  | [], _ => True.intro
  | (_, _) :: _, ⟨h1, h2, h3, h4⟩ => ⟨Nat.le_trans h h1, h2, h3, h4⟩
theorem FacOk.mem : ∀ {b : Nat} {L : List (Nat × Nat)} {x : Nat × Nat}, FacOk b L → x ∈ L → b ≤ x.1 ∧ Pr x.1 ∧ 1 ≤ x.2
  | b, (p, e) :: r, x, ⟨h1, h2, h3, h4⟩, hx => by
    rcases List.mem_cons.mp hx with rfl | hx
    · exact ⟨h1, h2, h3⟩
    · obtain ⟨a, c, d⟩ := FacOk.mem h4 hx
      exact ⟨by omega, c, d⟩
theorem FacOk.pos : ∀ {b : Nat} {L : List (Nat × Nat)}, FacOk b L → 0 < facP L
  | _, [], _ => by decide
  | _, (p, e) :: r, ⟨_, h2, _, h4⟩ => Nat.mul_pos (Nat.pow_pos (by have := h2.1; omega)) (FacOk.pos h4)
theorem FacOk.snoc : ∀ {b p e : Nat} {L : List (Nat × Nat)}, FacOk b L → (∀ x ∈ L, x.1 < p) → b ≤ p → Pr p → 1 ≤ e → FacOk b (L ++ [(p, e)])
  | b, p, e, [], _, _, h1, h2, h3 => ⟨h1, h2, h3, True.intro⟩
  | b, p, e, (q, f) :: r, ⟨g1, g2, g3, g4⟩, hx, h1, h2, h3 =>
    ⟨g1, g2, g3, FacOk.snoc g4 (fun x hm => hx x (List.mem_cons_of_mem _ hm)) (hx _ List.mem_cons_self) h2 h3⟩
theorem facP_snoc (L : List (Nat × Nat)) (p e : Nat) : facP (L ++ [(p, e)]) = facP L * p ^ e := by
  induction L with
  | nil => simp [facP]
  | cons x r ih =>
    obtain ⟨q, f⟩ := x
    rw [List.cons_append, facP, facP, ih, Nat.mul_assoc]
theorem FacOk.dvd : ∀ {b q : Nat} {L : List (Nat × Nat)}, FacOk b L → Pr q → q ∣ facP L → ∃ x ∈ L, x.1 = q
  | _, q, [], _, hq, hd => by
    have := Nat.le_of_dvd (by decide) (show q ∣ 1 from hd)
    have := hq.1
    omega
  | _, q, (p, e) :: r, ⟨_, h2, _, h4⟩, hq, hd => by
    rcases hq.mul hd with h | h
    · exact ⟨_, List.mem_cons_self, (hq.eq_of_dvd h2 (hq.pow h)).symm⟩
    · obtain ⟨x, hx, e⟩ := FacOk.dvd h4 hq h
      exact ⟨x, List.mem_cons_of_mem _ hx, e⟩
theorem dvd_pow_self {p e : Nat} (h : 1 ≤ e) : p ∣ p ^ e := by
  obtain ⟨k, rfl⟩ : ∃ k, e = k + 1 := ⟨e - 1, by omega⟩
  rw [Nat.pow_succ]
  exact Nat.dvd_mul_left p _
theorem not_dvd_rest {p : Nat} {r : List (Nat × Nat)} (hp : Pr p) (h : FacOk (p + 1) r) : ¬ p ∣ facP r := by
  intro hd
  obtain ⟨x, hx, e⟩ := h.dvd hp hd
  have := (h.mem hx).1
  omega
theorem pow_cancel {p : Nat} (hp : Pr p) : ∀ {e f a b : Nat}, ¬ p ∣ a → ¬ p ∣ b → p ^ e * a = p ^ f * b → e = f ∧ a = b
  | 0, 0, a, b, _, _, h => by simpa using h
  | 0, f + 1, a, b, ha, _, h => by
    exfalso
    apply ha
    rw [Nat.pow_zero, Nat.one_mul] at h
    rw [h, Nat.pow_succ, Nat.mul_assoc, Nat.mul_left_comm]
    exact Nat.dvd_mul_right p _
  | e + 1, 0, a, b, _, hb, h => by
    exfalso
    apply hb
    rw [Nat.pow_zero, Nat.one_mul] at h
    rw [← h, Nat.pow_succ, Nat.mul_assoc, Nat.mul_left_comm]
    exact Nat.dvd_mul_right p _
  | e + 1, f + 1, a, b, ha, hb, h => by
    rw [Nat.pow_succ, Nat.pow_succ, Nat.mul_right_comm, Nat.mul_right_comm (p ^ f)] at h
    have h' := Nat.eq_of_mul_eq_mul_right (show 0 < p by have := hp.1; omega) h
    obtain ⟨h1, h2⟩ := pow_cancel hp ha hb h'
    exact ⟨by omega, h2⟩
/-- each number has just one -/
theorem fac_uniq : ∀ {b c : Nat} {L M : List (Nat × Nat)}, FacOk b L → FacOk c M → facP L = facP M → L = M
  | _, _, [], [], _, _, _ => rfl
  | _, _, [], (q, f) :: s, _, ⟨_, h2, h3, h4⟩, h => by
    exfalso
    have hd : q ∣ facP [] := by rw [h]; exact Nat.dvd_trans (dvd_pow_self h3) (Nat.dvd_mul_right _ _)
    have := Nat.le_of_dvd (by decide) (show q ∣ 1 from hd)
    have := h2.1
    omega
  | _, _, (p, e) :: r, [], ⟨_, h2, h3, h4⟩, _, h => by
    exfalso
    have hd : p ∣ facP [] := by rw [← h]; exact Nat.dvd_trans (dvd_pow_self h3) (Nat.dvd_mul_right _ _)
    have := Nat.le_of_dvd (by decide) (show p ∣ 1 from hd)
    have := h2.1
    omega
  | _, _, (p, e) :: r, (q, f) :: s, h1@⟨_, p2, p3, p4⟩, h2@⟨_, q2, q3, q4⟩, h => by
    have d1 : p ∣ facP ((q, f) :: s) := by rw [← h]; exact Nat.dvd_trans (dvd_pow_self p3) (Nat.dvd_mul_right _ _)
    have d2 : q ∣ facP ((p, e) :: r) := by rw [h]; exact Nat.dvd_trans (dvd_pow_self q3) (Nat.dvd_mul_right _ _)
    have e1 : q ≤ p := by
      obtain ⟨x, hx, ex⟩ := FacOk.dvd h2 p2 d1
      rcases List.mem_cons.mp hx with rfl | hx
      · exact Nat.le_of_eq ex
      · have := (q4.mem hx).1
        omega
    have e2 : p ≤ q := by
      obtain ⟨x, hx, ex⟩ := FacOk.dvd h1 q2 d2
      rcases List.mem_cons.mp hx with rfl | hx
      · exact Nat.le_of_eq ex
      · have := (p4.mem hx).1
        omega
    have epq : p = q := Nat.le_antisymm e2 e1
    subst epq
    obtain ⟨e3, e4⟩ := pow_cancel p2 (not_dvd_rest p2 p4) (not_dvd_rest p2 q4) h
    subst e3
    rw [fac_uniq p4 q4 e4]
theorem FacOf.uniq {L M : List (Nat × Nat)} {n : Nat} (h : FacOf L n) (h' : FacOf M n) : L = M := fac_uniq h.1 h'.1 (h.2.trans h'.2.symm)
theorem FacOf.prime {n : Nat} (h : Pr n) : FacOf [(n, 1)] n := ⟨⟨Nat.zero_le _, h, Nat.le_refl 1, True.intro⟩, by simp [facP]⟩
theorem FacOf.is_prime {L : List (Nat × Nat)} {n : Nat} (h : FacOf L n) : L = [(n, 1)] ↔ Pr n := by
  constructor
  · rintro rfl
    exact h.1.2.1
  · intro hp
    exact h.uniq (.prime hp)
/-- how a number is stripped of p -/
theorem strip_ex {p : Nat} (hp : 2 ≤ p) : ∀ n : Nat, 0 < n → ∃ e m, n = m * p ^ e ∧ ¬ p ∣ m ∧ 0 < m := by
  intro n
  induction n using Nat.strongRecOn with
  | ind n ih =>
    intro h0
    by_cases hd : p ∣ n
    · obtain ⟨k, rfl⟩ := hd
      have hk : 0 < k := by
        rcases Nat.eq_zero_or_pos k with e | e
        · rw [e] at h0
          omega
        · exact e
      have hlt : k < p * k := by
        have := Nat.mul_le_mul_right k hp
        omega
      obtain ⟨e, m, h1, h2, h3⟩ := ih k hlt hk
      exact ⟨e + 1, m, by rw [h1, Nat.pow_succ, Nat.mul_comm p, Nat.mul_assoc], h2, h3⟩
    · exact ⟨0, n, by simp, hd, h0⟩
theorem fac_from : ∀ (k b n : Nat), n ≤ k → 0 < n → (∀ q, Pr q → q ∣ n → b ≤ q) → ∃ L, FacOk b L ∧ facP L = n := by
  intro k
  induction k with
  | zero => intro b n h1 h2; omega
  | succ k ih =>
    intro b n h1 h2 h3
    by_cases hn : 2 ≤ n
    · obtain ⟨p, hp, hd, _, hl⟩ := least_div hn
      obtain ⟨e, m, a1, a2, a3⟩ := strip_ex hp.1 n h2
      have he : 1 ≤ e := by
        rcases Nat.eq_zero_or_pos e with z | z
        · subst z
          rw [Nat.pow_zero, Nat.mul_one] at a1
          subst a1
          exact (a2 hd).elim
        · exact z
      have hm : m < n := by
        have h5 : 2 ≤ p ^ e := Nat.le_trans hp.1 (Nat.le_of_dvd (Nat.pow_pos (by have := hp.1; omega)) (dvd_pow_self he))
        have := Nat.mul_le_mul_left m h5
        omega
      obtain ⟨L, l1, l2⟩ := ih (p + 1) m (by omega) a3 (fun q hq hqd => by
        have h5 := hl q hq.1 (by rw [a1]; exact Nat.dvd_trans hqd (Nat.dvd_mul_right _ _))
        rcases Nat.eq_or_lt_of_le h5 with z | z
        · subst z
          exact (a2 hqd).elim
        · omega)
      exact ⟨(p, e) :: L, ⟨h3 p hp hd, hp, he, l1⟩, by rw [facP, l2, a1, Nat.mul_comm]⟩
    · have : n = 1 := by omega
      subst this
      exact ⟨[], True.intro, rfl⟩
theorem fac_ex {n : Nat} (h : 0 < n) : ∃ L, FacOf L n := by
  obtain ⟨L, h1, h2⟩ := fac_from n 0 n (Nat.le_refl n) h fun _ _ _ => Nat.zero_le _
  exact ⟨L, h1, h2⟩
/-! trial division -/
/-- no prime below p goes into m -/
def Rough (p m : Nat) : Prop := ∀ q, Pr q → q ∣ m → p ≤ q
theorem Rough.two (m : Nat) : Rough 2 m := fun _ h _ => h.1
theorem Rough.of_dvd {p m k : Nat} (h : Rough p m) (hd : k ∣ m) : Rough p k := fun q hq hqd => h q hq (Nat.dvd_trans hqd hd)
theorem Rough.prime {p m : Nat} (h : Rough p m) (hp : 2 ≤ p) (hd : p ∣ m) : Pr p := by
  obtain ⟨q, hq, hqd, _⟩ := least_div hp
  have h1 := h q hq (Nat.dvd_trans hqd hd)
  have h2 := Nat.le_of_dvd (by omega) hqd
  have : q = p := by omega
  rw [← this]
  exact hq
theorem Rough.next2 {m : Nat} (h : Rough 2 m) (hd : ¬ 2 ∣ m) : Rough 3 m := fun q hq hqd => by
  have h1 := h q hq hqd
  rcases Nat.eq_or_lt_of_le h1 with z | z
  · subst z
    exact (hd hqd).elim
  · omega
theorem even_not_prime {q : Nat} (h : q % 2 = 0) (h2 : 2 < q) : ¬ Pr q := fun hq => by
  rcases hq.dvd (Nat.dvd_of_mod_eq_zero h) with e | e
  · omega
  · omega
theorem Rough.next {p m : Nat} (h : Rough p m) (hp : p % 2 = 1) (h3 : 3 ≤ p) (hd : ¬ p ∣ m) : Rough (p + 2) m := fun q hq hqd => by
  have h1 := h q hq hqd
  rcases Nat.eq_or_lt_of_le h1 with z | z
  · subst z
    exact (hd hqd).elim
  · rcases Nat.eq_or_lt_of_le (show p + 1 ≤ q from z) with y | y
    · exact (even_not_prime (by omega) (by omega) hq).elim
    · omega
theorem Rough.last {p m : Nat} (h : Rough p m) (hm : 1 < m) (hs : m < p * p) : Pr m := by
  refine Pr.sq_bound hm fun q hq h1 h2 => ?_
  have h3 := h q hq h2
  have := Nat.mul_le_mul h3 h3
  omega

end M
namespace M
open PySem PySem.Spec PyProof.Rows L2 G
section
variable {P : Program} {w : World} {K : PySem.W.Frag} {mg : Str → Option Value} {base : Heap}
/-! the powers of a number, by trial -/
def powD (x : Nat × Nat) : PyData := .tuple [.int x.1, .int x.2]
def sp_powers_of (_ : PySem.W.Frag) : Sp := spec1 fun x H Q _ => ∃ n : Nat, x = .int n ∧ 1 ≤ n ∧ n ≤ 1000000000000 ∧ ∀ L p H', FacOf L n → Same H H' → Rp (New H) H' (.ref p) (.list (L.map powD)) → Q (.ref p) H'
theorem sq_small {p m : Nat} (h : p * p ≤ m) (hm : m ≤ 1000000000000) : p ≤ 1000000 := by
  refine Classical.byContradiction fun z => ?_
  have := Nat.mul_le_mul (show 1000001 ≤ p by omega) (show 1000001 ≤ p by omega)
  omega
theorem facOk_len : ∀ {b : Nat} {L : List (Nat × Nat)}, FacOk b L → ∀ t, (∀ x ∈ L, x.1 < t) → L.length ≤ t - b
  | _, [], _, _, _ => Nat.zero_le _
  | b, (p, e) :: r, ⟨h1, _, _, h4⟩, t, ht => by
    have h5 := facOk_len h4 t fun x hx => ht x (List.mem_cons_of_mem _ hx)
    have h6 : p < t := ht (p, e) List.mem_cons_self
    rw [List.length_cons]
    omega
theorem ok_powers_of {af : Addr} {fd : FuncData} (F : FunD K "powers_of" "powers_of" (defArgs s_powers_of) (defBody s_powers_of) (defScope s_powers_of) [] [] af fd) (B : Bt mg)  : FnG P w K mg base CX0 1 af fd ["number"] (sp_powers_of K) := by
  refine okG F sc_powers_of ar1 fun cdv A outer s H vs Q E hg hr h => ?_
  refine ⟨_, PSs.nox (pss_cons (ps_par3 (i := 1) (j := 2) (l := 3) (by rfl) sc_powers_of.nd rfl rfl rfl (by decide) (by decide) (by decide) rfl rfl rfl (pa_cons (pe_lst pa_nil) (pa_cons (pv 0) (pa_cons pe_int pa_nil))) (by rfl))
    (pss_cons (ps_while PassesOwn.never (pt_cmpR op_le (pe_op op_mul (pv 3) (pv 3)) (pv 2) (nomark _))
      (pss_cons (ps_set (i := 4) sc_powers_of.nd rfl (.inl rfl) pe_int)
      (pss_cons (ps_while PassesOwn.never (pt_cmpR op_eq (pe_op op_mod (pv 2) (pv 3)) pe_int (nomark _))
        (pss_one (ps_par (i := 2) (j := 4) (by rfl) sc_powers_of.nd rfl rfl (by decide) rfl rfl (pa_cons (pe_op op_fdivW (pv 2) (pv 3)) (pa_cons (pe_op op_add (pv 4) pe_int) pa_nil)) (by rfl))))
      (pss_cons (ps_if (pt_cmpR op_gt (pv 4) pe_int (nomark _))
        (pss_one (ps_expr (pe_bm PySem.F.plainAttrs_list PySem.F.slot_list_append PySem.F.type_list_append mt_append (pv 1) (pa_cons (pe_tup (pa_cons (pv 3) (pa_cons (pv 4) pa_nil))) pa_nil))))
        pss_nil)
      (pss_one (ps_set (i := 3) sc_powers_of.nd rfl (.inl rfl) (pe_op op_add (pv 3) (pe_ifExp (pt_cmpR op_eq (pv 3) pe_int (nomark _)) pe_int pe_int))))))))
    (pss_cons (ps_if (pt_cmpR op_gt (pv 2) pe_int (nomark _))
      (pss_one (ps_expr (pe_bm PySem.F.plainAttrs_list PySem.F.slot_list_append PySem.F.type_list_append mt_append (pv 1) (pa_cons (pe_tup (pa_cons (pv 2) (pa_cons pe_int pa_nil))) pa_nil))))
      pss_nil)
    (pss_one (ps_ret (pv 1)))))), ?_⟩
  obtain ⟨_, rfl, n, rfl, h1, h2, q⟩ := h
  refine ⟨sz0, fun fd hfd => ⟨_, rfl, _, _, _, rfl, ?_⟩⟩
  refine ⟨fun m σ H' => ∃ (vs : List V) (acc : List (Nat × Nat)) (left p : Nat) (y : Option V), σ = [some (.int n), some (.ref fd), some (.int left), some (.int p), y] ∧ Same H H' ∧ H' fd = some (.lst vs) ∧ RpA (Nw H fd) H' vs (acc.map powD) ∧ FacOk 0 acc ∧ (∀ x ∈ acc, x.1 < p) ∧ facP acc * left = n ∧ 0 < left ∧ left ≤ n ∧ Rough p left ∧ (p = 2 ∨ 3 ≤ p ∧ p % 2 = 1) ∧ p ≤ 1000002 ∧ m = 1000002 - p,
    ⟨_, [], [], n, 2, none, rfl, Same.new (Same.refl H) hfd, upd_same, .nil, True.intro, by simp, by simp [facP], by omega, Nat.le_refl n, Rough.two n, .inl rfl, by omega, rfl⟩, fun m σ H' hW => ?_⟩
  obtain ⟨vs, acc, left, p, y, rfl, sm, ef, rp, ok, lt, pr, l0, ln, ro, pp, pb, rfl⟩ := hW
  have p2 : 2 ≤ p := by omega
  have vlen : vs.length ≤ 1000002 := by
    rw [rp.length, List.length_map]
    have := facOk_len ok p lt
    omega
  refine ⟨_, rfl, _, rfl, _, _, rfl, rfl, mulc ⟨by omega, by omega⟩, _, rfl, _, _, rfl, rfl, _, rfl, ite2 (fun hc => ?_) (fun hc => ?_)⟩
  · have hc' : p * p ≤ left := by
      have : (p : Int) * (p : Int) ≤ (left : Int) := of_decide_eq_true hc
      rw [← Int.natCast_mul] at this
      omega
    have psm := sq_small hc' (by omega)
    refine ⟨_, fun _ _ z => z, ?_⟩
    -- many = 0, the inner loop
    refine ⟨fun m σ H2 => ∃ l2 many : Nat, σ = [some (.int n), some (.ref fd), some (.int l2), some (.int p), some (.int many)] ∧ H2 = H' ∧ left = l2 * p ^ many ∧ 0 < l2 ∧ l2 ≤ left ∧ l2 = m, ⟨_, left, 0, rfl, rfl, by simp, l0, Nat.le_refl _, rfl⟩, fun m σ H2 hW => ?_⟩
    obtain ⟨l2, many, rfl, rfl, el, l20, l2l, rfl⟩ := hW
    refine ⟨_, rfl, _, rfl, _, _, rfl, rfl, (show (0 : Int) < (p : Int) by omega), rfl, _, rfl, ite2 (fun hd => ?_) (fun hd => ?_)⟩
    · have hd' : p ∣ l2 := by
        have z : (l2 : Int) % (p : Int) = 0 := V.int.inj (of_decide_eq_true hd)
        exact Nat.dvd_of_mod_eq_zero (by omega)
      obtain ⟨k, rfl⟩ := hd'
      have hk : 0 < k := by
        rcases Nat.eq_zero_or_pos k with e | e
        · rw [e] at l20
          omega
        · exact e
      have hlt : k < p * k := by
        have := Nat.mul_le_mul_right k p2
        omega
      have ek : ((p * k : Nat) : Int) / (p : Int) = (k : Int) := by
        rw [Int.natCast_mul, Int.mul_ediv_cancel_left _ (by omega)]
      refine ⟨_, fun _ _ z => z, _, rfl, _, rfl, _, _, rfl, rfl, divw (by omega) (by omega), _, rfl, _, _, rfl, rfl, _, _, rfl, k, by omega, k, many + 1, ?_, rfl, ?_, hk, by omega, rfl⟩
      · show [some (V.int n), some (V.ref fd), some (V.int (((p * k : Nat) : Int) / (p : Int))), some (V.int p), some (V.int ((many : Int) + 1))] = _
        rw [ek, Int.natCast_add]
        rfl
      · rw [el, Nat.pow_succ, Nat.mul_comm p k, Nat.mul_assoc, Nat.mul_comm p]
    · have hd' : ¬ p ∣ l2 := fun z => hd (decide_eq_true (congrArg V.int (by
        have := Nat.mod_eq_zero_of_dvd z
        show (l2 : Int) % (p : Int) = 0
        omega)))
      have ro2 : Rough p l2 := ro.of_dvd ⟨p ^ many, el⟩
      -- what the next turn is
      have next : ∀ (vs' : List V) (acc' : List (Nat × Nat)) (H3 : Hp), Same H H3 → H3 fd = some (.lst vs') → RpA (Nw H fd) H3 vs' (acc'.map powD) → FacOk 0 acc' → (∀ x ∈ acc', x.1 ≤ p) → facP acc' * l2 = n →
          ∃ m', m' < 1000002 - p ∧ ∃ (vs : List V) (acc : List (Nat × Nat)) (left p' : Nat) (y : Option V), [some (V.int n), some (V.ref fd), some (V.int l2), some (V.int ((p : Int) + (if p = 2 then 1 else 2))), some (V.int many)] = [some (.int n), some (.ref fd), some (.int left), some (.int p'), y] ∧ Same H H3 ∧ H3 fd = some (.lst vs) ∧ RpA (Nw H fd) H3 vs (acc.map powD) ∧ FacOk 0 acc ∧ (∀ x ∈ acc, x.1 < p') ∧ facP acc * left = n ∧ 0 < left ∧ left ≤ n ∧ Rough p' left ∧ (p' = 2 ∨ 3 ≤ p' ∧ p' % 2 = 1) ∧ p' ≤ 1000002 ∧ m' = 1000002 - p' := by
        intro vs' acc' H3 s3 e3 r3 o3 lt3 pr3
        by_cases hp2 : p = 2
        · subst hp2
          exact ⟨_, by omega, vs', acc', l2, 3, some (.int many), rfl, s3, e3, r3, o3, fun x hx => Nat.lt_succ_of_le (lt3 x hx), pr3, l20, by omega, ro2.next2 hd', .inr ⟨by omega, by omega⟩, by omega, rfl⟩
        · refine ⟨_, ?_, vs', acc', l2, p + 2, some (.int many), ?_, s3, e3, r3, o3, fun x hx => ?_, pr3, l20, by omega, ro2.next (by omega) (by omega) hd', .inr ⟨by omega, by omega⟩, by omega, rfl⟩
          · omega
          · rw [if_neg hp2, Int.natCast_add]
            rfl
          · have := lt3 x hx
            omega
      have step : ∀ (H3 : Hp) (R : L2.St → Hp → Prop), R [some (V.int n), some (V.ref fd), some (V.int l2), some (V.int ((p : Int) + (if p = 2 then 1 else 2))), some (V.int many)] H3 →
          tAsg (tOp (rI0 fun i j => .int (i + j)) (tVar 3) (tIf (tTest (tOp rEq (tVar 3) (tC (.int 2)))) (tC (.int 1)) (tC (.int 2)))) (gName 3) { nx := R, rt := Q } [some (V.int n), some (V.ref fd), some (V.int l2), some (V.int p), some (V.int many)] H3 := by
        intro H3 R hR
        refine ⟨_, rfl, _, rfl, rfl, _, rfl, ite2 (fun hp2 => ?_) (fun hp2 => ?_)⟩
        · have hp2' : p = 2 := by
            have z : (p : Int) = 2 := V.int.inj (of_decide_eq_true hp2)
            omega
          rw [if_pos hp2'] at hR
          exact ⟨_, _, rfl, rfl, hR⟩
        · have hp2' : ¬ p = 2 := fun z => hp2 (decide_eq_true (by rw [z]; rfl))
          rw [if_neg hp2'] at hR
          exact ⟨_, _, rfl, rfl, hR⟩
      refine ⟨_, rfl, _, _, rfl, rfl, _, rfl, ite2 (fun hm => ?_) (fun hm => ?_)⟩
      · have hm' : 1 ≤ many := by
          have : (0 : Int) < (many : Int) := of_decide_eq_true hm
          omega
        have pprime : Pr p := ro.prime p2 (by rw [el]; exact Nat.dvd_trans (dvd_pow_self hm') (Nat.dvd_mul_left _ _))
        refine ⟨_, rfl, .inl ⟨rfl, _, SqL.of ef⟩, _, rfl, _, rfl, sz2, fun t ht => ?_⟩
        have npt : fd ≠ t := ne_of_none ef ht
        refine ⟨fd, _, _, rfl, rfl, (upd_ne npt).trans ef, small_lt (by omega), step _ _ (next _ (acc ++ [(p, many)]) _ ((sm.new ht).mut hfd) upd_same ?_ (ok.snoc lt (Nat.zero_le _) pprime hm') (fun x hx => ?_) ?_)⟩
        · rw [List.map_append]
          refine ((rp.new ht).put nw_not).snoc ?_
          exact .tup ⟨sm.free ht, npt.symm⟩ ((upd_ne npt.symm).trans upd_same) (RpA.ints [(p : Int), (many : Int)])
        · rcases List.mem_append.mp hx with hx | hx
          · exact Nat.le_of_lt (lt x hx)
          · cases List.mem_singleton.mp hx
            exact Nat.le_refl _
        · rw [facP_snoc, ← pr, el, Nat.mul_assoc, Nat.mul_comm (p ^ many)]
      · have hm' : many = 0 := by
          have : ¬ (0 : Int) < (many : Int) := fun z => hm (decide_eq_true z)
          omega
        refine step _ _ (next _ acc _ sm ef rp ok (fun x hx => Nat.le_of_lt (lt x hx)) ?_)
        rw [← pr, el, hm', Nat.pow_zero, Nat.mul_one]
  · have hc' : left < p * p := by
      have : ¬ (p : Int) * (p : Int) ≤ (left : Int) := fun z => hc (decide_eq_true z)
      rw [← Int.natCast_mul] at this
      omega
    refine ⟨_, rfl, _, _, rfl, rfl, _, rfl, ite2 (fun hm => ?_) (fun hm => ?_)⟩
    · have hm' : 1 < left := by
        have : (1 : Int) < (left : Int) := of_decide_eq_true hm
        omega
      have lp := ro.last hm' hc'
      refine ⟨_, rfl, .inl ⟨rfl, _, SqL.of ef⟩, _, rfl, sz2, fun t ht => ?_⟩
      have npt : fd ≠ t := ne_of_none ef ht
      have fin : FacOf (acc ++ [(left, 1)]) n := ⟨ok.snoc (fun x hx => Nat.lt_of_lt_of_le (lt x hx) (ro left lp (Nat.dvd_refl _))) (Nat.zero_le _) lp (Nat.le_refl 1), by rw [facP_snoc, Nat.pow_one, pr]⟩
      refine ⟨fd, _, _, rfl, rfl, (upd_ne npt).trans ef, small_lt (by omega), _, rfl, q _ fd _ fin ((sm.new ht).mut hfd) (.lst hfd upd_same ?_)⟩
      rw [List.map_append]
      refine RpA.mono (fun _ z => z.1) (fun _ _ _ z => z) _ _ (((rp.new ht).put nw_not).snoc (d := powD (left, 1)) ?_)
      exact .tup ⟨sm.free ht, npt.symm⟩ ((upd_ne npt.symm).trans upd_same) (RpA.ints [(left : Int), 1])
    · have hm' : left = 1 := by
        have : ¬ (1 : Int) < (left : Int) := fun z => hm (decide_eq_true z)
        omega
      exact ⟨_, rfl, q acc fd H' ⟨ok, by rw [← pr, hm', Nat.mul_one]⟩ sm (.lst hfd ef (RpA.mono (fun _ z => z.1) (fun _ _ _ z => z) _ _ rp))⟩

end
end M
namespace M
/-! sums of a row -/
/-- f 1 + .. + f n -/
def sumR (f : Nat → Int) : Nat → Int
  | 0 => 0
  | n + 1 => sumR f n + f (n + 1)
theorem sumR_congr {f g : Nat → Int} : ∀ {n : Nat}, (∀ i, 1 ≤ i → i ≤ n → f i = g i) → sumR f n = sumR g n
  | 0, _ => rfl
  | n + 1, h => by rw [sumR, sumR, sumR_congr fun i h1 h2 => h i h1 (by omega), h (n + 1) (by omega) (by omega)]
theorem sumR_add (f g : Nat → Int) : ∀ n : Nat, sumR (fun i => f i + g i) n = sumR f n + sumR g n
  | 0 => rfl
  | n + 1 => by
    rw [sumR, sumR, sumR, sumR_add f g n]
    omega
theorem sumR_neg (f : Nat → Int) : ∀ n : Nat, sumR (fun i => - f i) n = - sumR f n
  | 0 => rfl
  | n + 1 => by
    rw [sumR, sumR, sumR_neg f n]
    omega
theorem sumR_mul (c : Int) (f : Nat → Int) : ∀ n : Nat, sumR (fun i => c * f i) n = c * sumR f n
  | 0 => by simp [sumR]
  | n + 1 => by rw [sumR, sumR, sumR_mul c f n, Int.mul_add]
theorem sumR_zero {f : Nat → Int} {n : Nat} (h : ∀ i, 1 ≤ i → i ≤ n → f i = 0) : sumR f n = 0 := by
  rw [sumR_congr (g := fun _ => 0) h]
  induction n with
  | zero => rfl
  | succ n ih => rw [sumR, ih fun i h1 h2 => h i h1 (by omega)]; rfl
/-- behind M nothing -/
theorem sumR_trunc {f : Nat → Int} {M : Nat} : ∀ {N : Nat}, M ≤ N → (∀ i, M < i → i ≤ N → f i = 0) → sumR f N = sumR f M
  | 0, h, _ => by
    have : M = 0 := by omega
    rw [this]
  | N + 1, h, z => by
    by_cases e : M = N + 1
    · rw [e]
    · rw [sumR, sumR_trunc (N := N) (by omega) fun i h1 h2 => z i h1 (by omega), z (N + 1) (by omega) (by omega)]
      omega
/-- by whether p goes into -/
theorem sumR_mult {p : Nat} (hp : 0 < p) (f : Nat → Int) : ∀ n : Nat, sumR (fun i => if p ∣ i then f i else 0) n = sumR (fun i => f (p * i)) (n / p)
  | 0 => by simp [sumR]
  | n + 1 => by
    rw [sumR, sumR_mult hp f n, Nat.succ_div]
    by_cases h : p ∣ n + 1
    · rw [if_pos h, if_pos h, sumR]
      congr 1
      have e := Nat.succ_div (a := n) (b := p)
      rw [if_pos h] at e
      rw [← e, Nat.mul_div_cancel' h]
    · rw [if_neg h, if_neg h]
      simp
theorem sumR_split {p : Nat} (hp : 0 < p) (f : Nat → Int) (n : Nat) : sumR f n = sumR (fun i => if p ∣ i then 0 else f i) n + sumR (fun i => f (p * i)) (n / p) := by
  rw [← sumR_mult hp, ← sumR_add]
  refine sumR_congr fun i _ _ => ?_
  split <;> omega
/-- one alone -/
theorem sumR_one {f : Nat → Int} {n k : Nat} (h1 : 1 ≤ k) (h2 : k ≤ n) (h : ∀ i, 1 ≤ i → i ≤ n → i ≠ k → f i = 0) : sumR f n = f k := by
  induction n with
  | zero => omega
  | succ n ih =>
    rw [sumR]
    by_cases e : k = n + 1
    · subst e
      rw [sumR_zero fun i a b => h i a (by omega) (by omega)]
      omega
    · rw [ih (by omega) fun i a b c => h i a (by omega) c, h (n + 1) (by omega) (by omega) (by omega)]
      omega
/-- sums of a list of numbers from 1 on -/
theorem sum_range (f : Nat → Int) : ∀ n : Nat, ((List.range n).map fun i => f (i + 1)).sum = sumR f n
  | 0 => rfl
  | n + 1 => by
    rw [List.range_succ, List.map_append, List.sum_append, sum_range f n, sumR]
    simp

end M
namespace M
/-! signs of numbers -/
def mstep (i : Nat) (s : Int) (p : Nat) : Int := if p * p ∣ i then 0 else if p ∣ i then 0 - s else s
def muL (ps : List Nat) (i : Nat) : Int := ps.foldl (mstep i) 1
def mu (i : Nat) : Int := muL (primesTo i) i
theorem muL_snoc (ps : List Nat) (p i : Nat) : muL (ps ++ [p]) i = mstep i (muL ps i) p := by
  unfold muL
  rw [List.foldl_append]
  rfl
theorem muL_succ (n i : Nat) : muL (primesTo (n + 1)) i = if Pr (n + 1) then mstep i (muL (primesTo n) i) (n + 1) else muL (primesTo n) i := by
  rw [primesTo_succ]
  split
  · rw [muL_snoc]
  · rw [List.append_nil]
theorem muL_more {i : Nat} (hi : 1 ≤ i) : ∀ k : Nat, muL (primesTo (i + k)) i = mu i
  | 0 => rfl
  | k + 1 => by
    rw [show i + (k + 1) = (i + k) + 1 by omega, muL_succ, muL_more hi k]
    split
    · unfold mstep
      have h1 : ¬ (i + k + 1) ∣ i := fun z => by
        have := Nat.le_of_dvd (by omega) z
        omega
      rw [if_neg fun z => h1 (Nat.dvd_trans (Nat.dvd_mul_left _ _) z), if_neg h1]
    · rfl
theorem muL_ge {i n : Nat} (hi : 1 ≤ i) (h : i ≤ n) : muL (primesTo n) i = mu i := by
  obtain ⟨k, rfl⟩ := Nat.exists_eq_add_of_le h
  exact muL_more hi k
theorem mu_one : mu 1 = 1 := by decide
theorem muL_sq {p i : Nat} (hp : Pr p) (hd : p * p ∣ i) : ∀ k : Nat, muL (primesTo (p + k)) i = 0
  | 0 => by
    obtain ⟨q, rfl⟩ : ∃ q, p = q + 1 := ⟨p - 1, by have := hp.1; omega⟩
    rw [Nat.add_zero, muL_succ, if_pos hp]
    unfold mstep
    rw [if_pos hd]
  | k + 1 => by
    rw [show p + (k + 1) = (p + k) + 1 by omega, muL_succ, muL_sq hp hd k]
    unfold mstep
    split
    · split
      · rfl
      · split <;> rfl
    · rfl
theorem mu_sq {p i : Nat} (hp : Pr p) (hd : p * p ∣ i) (hi : 0 < i) : mu i = 0 := by
  have h1 := Nat.le_of_dvd hi hd
  have h2 : p ≤ p * p := Nat.le_mul_of_pos_left p (by have := hp.1; omega)
  obtain ⟨k, hk⟩ := Nat.exists_eq_add_of_le (show p ≤ i by omega)
  unfold mu
  rw [show primesTo i = primesTo (p + k) by rw [← hk]]
  exact muL_sq hp hd k
theorem dvd_mul_pr {p q d : Nat} (hp : Pr p) (hq : Pr q) (h : p ≠ q) : q ∣ p * d ↔ q ∣ d := by
  constructor
  · intro z
    rcases hq.mul z with z | z
    · exact (h (hq.eq_of_dvd hp z).symm).elim
    · exact z
  · exact fun z => Nat.dvd_trans z (Nat.dvd_mul_left d p)
theorem sq_coprime {p a : Nat} (hp : Pr p) (ha : ¬ p ∣ a) : Nat.Coprime (p * p) a := Nat.Coprime.mul_left (hp.coprime ha) (hp.coprime ha)
theorem dvd_mul_sq {p q d : Nat} (hp : Pr p) (hq : Pr q) (h : p ≠ q) : q * q ∣ p * d ↔ q * q ∣ d := by
  have nd : ¬ q ∣ p := fun z => h (hq.eq_of_dvd hp z).symm
  exact ⟨fun z => (sq_coprime hq nd).dvd_of_dvd_mul_left z, fun z => Nat.dvd_trans z (Nat.dvd_mul_left d p)⟩
theorem muL_mul {p d : Nat} (hp : Pr p) (hd : ¬ p ∣ d) : ∀ k : Nat, muL (primesTo k) (p * d) = if p ≤ k then - muL (primesTo k) d else muL (primesTo k) d
  | 0 => by
    rw [if_neg (by have := hp.1; omega)]
    rfl
  | k + 1 => by
    rw [muL_succ, muL_succ, muL_mul hp hd k]
    by_cases hk : Pr (k + 1)
    · rw [if_pos hk, if_pos hk]
      by_cases e : p = k + 1
      · rw [if_neg (by omega), if_pos (by omega), ← e]
        unfold mstep
        have n1 : ¬ p * p ∣ p * d := fun z => hd (Nat.dvd_of_mul_dvd_mul_left (by have := hp.1; omega) z)
        have n2 : ¬ p * p ∣ d := fun z => hd (Nat.dvd_trans (Nat.dvd_mul_left _ _) z)
        rw [if_neg n1, if_pos (Nat.dvd_mul_right p d), if_neg n2, if_neg hd]
        omega
      · unfold mstep
        simp only [dvd_mul_pr hp hk e, dvd_mul_sq hp hk e]
        by_cases l : p ≤ k
        · rw [if_pos l, if_pos (show p ≤ k + 1 by omega)]
          split
          · rfl
          · split <;> omega
        · rw [if_neg l, if_neg (show ¬ p ≤ k + 1 by omega)]
    · rw [if_neg hk, if_neg hk]
      have : p ≠ k + 1 := fun z => hk (by rw [← z]; exact hp)
      by_cases l : p ≤ k
      · rw [if_pos l, if_pos (by omega)]
      · rw [if_neg l, if_neg (by omega)]
theorem mu_mul {p d : Nat} (hp : Pr p) (hd : ¬ p ∣ d) : mu (p * d) = - mu d := by
  have hd0 : 0 < d := by
    rcases Nat.eq_zero_or_pos d with e | e
    · rw [e] at hd
      exact (hd (Nat.dvd_zero p)).elim
    · exact e
  have h1 : d ≤ p * d := Nat.le_mul_of_pos_left d (by have := hp.1; omega)
  have h2 : p ≤ p * d := Nat.le_mul_of_pos_right p hd0
  unfold mu
  rw [muL_mul hp hd, if_pos h2]
  show - muL (primesTo (p * d)) d = - mu d
  rw [muL_ge hd0 h1]
theorem mu_mul_dvd {p d : Nat} (hp : Pr p) (hd : p ∣ d) (h0 : 0 < d) : mu (p * d) = 0 := mu_sq hp (Nat.mul_dvd_mul_left p hd) (Nat.mul_pos (by have := hp.1; omega) h0)
theorem mu_prime {p : Nat} (hp : Pr p) : mu p = -1 := by
  have := mu_mul (d := 1) hp fun z => by
    have := Nat.le_of_dvd (by decide) z
    have := hp.1
    omega
  rw [Nat.mul_one, mu_one] at this
  exact this
/-- by the powers of primes -/
def sgnL (L : List (Nat × Nat)) : Int := if L.any fun x => decide (1 < x.2) then 0 else if L.length % 2 = 0 then 1 else -1
theorem sgnL_cons (p e : Nat) (r : List (Nat × Nat)) (he : 1 ≤ e) : sgnL ((p, e) :: r) = if 1 < e then 0 else - sgnL r := by
  unfold sgnL
  rw [List.any_cons, List.length_cons]
  by_cases h : 1 < e
  · simp [h]
  · simp only [h, decide_false, Bool.false_or, if_false]
    split
    · rfl
    · split <;> split <;> omega
theorem mu_ok : ∀ {b : Nat} {L : List (Nat × Nat)}, FacOk b L → mu (facP L) = sgnL L
  | _, [], _ => by
    show mu 1 = _
    rw [mu_one]
    rfl
  | b, (p, e) :: r, ⟨h1, h2, h3, h4⟩ => by
    rw [sgnL_cons _ _ _ h3]
    have ih := mu_ok h4
    have nd := not_dvd_rest h2 h4
    have pos := FacOk.pos h4
    show mu (p ^ e * facP r) = _
    split
    · rename_i h
      refine mu_sq h2 ?_ (Nat.mul_pos (Nat.pow_pos (by have := h2.1; omega)) pos)
      obtain ⟨k, rfl⟩ : ∃ k, e = k + 2 := ⟨e - 2, by omega⟩
      refine Nat.dvd_trans ?_ (Nat.dvd_mul_right _ _)
      rw [Nat.pow_succ, Nat.pow_succ, Nat.mul_assoc]
      exact Nat.dvd_mul_left _ _
    · have e1 : e = 1 := by omega
      rw [e1, Nat.pow_one, mu_mul h2 nd, ih]
theorem mu_fac {L : List (Nat × Nat)} {n : Nat} (h : FacOf L n) : mu n = sgnL L := by
  rw [← h.2]
  exact mu_ok h.1
theorem mu_small (n : Nat) : mu n = 0 ∨ mu n = 1 ∨ mu n = -1 := by
  unfold mu muL
  generalize primesTo n = ps
  have : ∀ (ps : List Nat) (s : Int), (s = 0 ∨ s = 1 ∨ s = -1) → (ps.foldl (mstep n) s = 0 ∨ ps.foldl (mstep n) s = 1 ∨ ps.foldl (mstep n) s = -1) := by
    intro ps
    induction ps with
    | nil => intro s h; exact h
    | cons p ps ih =>
      intro s h
      refine ih _ ?_
      unfold mstep
      split
      · omega
      · split <;> omega
  exact this ps 1 (by omega)
/-- a number without squares has no prime twice -/
theorem mu_ne {p n : Nat} (h : mu n ≠ 0) (hp : Pr p) (h0 : 0 < n) : ¬ p * p ∣ n := fun z => h (mu_sq hp z h0)
theorem mu_zero_has {n : Nat} (h0 : 0 < n) (h : mu n = 0) : ∃ p, Pr p ∧ p * p ∣ n := by
  obtain ⟨L, hL⟩ := fac_ex h0
  have e := mu_fac hL
  rw [h] at e
  unfold sgnL at e
  split at e
  · rename_i a
    obtain ⟨x, hx, hx2⟩ := List.any_eq_true.mp a
    obtain ⟨p, m⟩ := x
    have hm : 1 < m := of_decide_eq_true hx2
    have ok := hL.1.mem hx
    refine ⟨p, ok.2.1, ?_⟩
    have : p ^ m ∣ facP L := by
      clear e a h hL
      induction L with
      | nil => cases hx
      | cons y r ih =>
        obtain ⟨q, f⟩ := y
        rcases List.mem_cons.mp hx with z | z
        · cases z
          exact Nat.dvd_mul_right _ _
        · exact Nat.dvd_trans (ih z) (Nat.dvd_mul_left _ _)
    rw [hL.2] at this
    obtain ⟨k, rfl⟩ : ∃ k, m = k + 2 := ⟨m - 2, by omega⟩
    refine Nat.dvd_trans ?_ this
    rw [Nat.pow_succ, Nat.pow_succ, Nat.mul_assoc]
    exact Nat.dvd_mul_left _ _
  · split at e <;> omega
/-! sums of signs -/
theorem mu_sum {n N : Nat} (h1 : 1 ≤ n) (h2 : n ≤ N) : sumR (fun d => if d ∣ n then mu d else 0) N = if n = 1 then 1 else 0 := by
  by_cases e : n = 1
  · subst e
    rw [if_pos rfl, sumR_one (k := 1) (by decide) h2 fun i a _ b => ?_, if_pos (Nat.dvd_refl 1), mu_one]
    rw [if_neg fun z => b (Nat.dvd_one.mp z)]
  · rw [if_neg e]
    obtain ⟨p, hp, hd⟩ := prime_div (show 2 ≤ n by omega)
    have p2 := hp.1
    rw [sumR_split (p := p) (by omega)]
    have a : sumR (fun i => if p ∣ i then 0 else if i ∣ n then mu i else 0) N = sumR (fun i => if p ∣ i then 0 else if i ∣ n then mu i else 0) (N / p) := by
      refine sumR_trunc (Nat.div_le_self _ _) fun i hi _ => ?_
      by_cases hpi : p ∣ i
      · rw [if_pos hpi]
      · rw [if_neg hpi, if_neg]
        intro hin
        have := (hp.coprime hpi).mul_dvd_of_dvd_of_dvd hd hin
        have := Nat.le_of_dvd (by omega) this
        have := (Nat.le_div_iff_mul_le (show 0 < p by omega)).mpr (show i * p ≤ N by rw [Nat.mul_comm]; omega)
        omega
    rw [a, ← sumR_add]
    refine sumR_zero fun i i1 i2 => ?_
    by_cases hpi : p ∣ i
    · rw [if_pos hpi, mu_mul_dvd hp hpi (by omega)]
      split <;> rfl
    · rw [if_neg hpi, mu_mul hp hpi]
      by_cases hin : i ∣ n
      · rw [if_pos hin, if_pos ((hp.coprime hpi).mul_dvd_of_dvd_of_dvd hd hin)]
        omega
      · rw [if_neg hin, if_neg fun z => hin (Nat.dvd_trans (Nat.dvd_mul_left i p) z)]
        rfl
/-- signs by quotients -/
theorem mu_quot : ∀ {n : Nat} (N : Nat), n ≤ N → sumR (fun k => mu k * (n / k : Nat)) N = if n = 0 then 0 else 1
  | 0, N, _ => by
    rw [if_pos rfl]
    refine sumR_zero fun i _ _ => ?_
    rw [Nat.zero_div]
    simp
  | n + 1, N, h => by
    rw [if_neg (by omega)]
    have e : sumR (fun k => mu k * ((n + 1) / k : Nat)) N = sumR (fun k => mu k * (n / k : Nat)) N + sumR (fun d => if d ∣ n + 1 then mu d else 0) N := by
      rw [← sumR_add]
      refine sumR_congr fun i _ _ => ?_
      rw [Nat.succ_div]
      split
      · rw [Int.natCast_add, Int.mul_add]
        simp
      · simp
    rw [e, mu_quot N (by omega), mu_sum (by omega) h]
    by_cases z : n = 0
    · rw [if_pos z, if_pos (by omega)]
      rfl
    · rw [if_neg z, if_neg (by omega)]
      rfl
/-! numbers without squares -/
theorem mu_sqsum {n N : Nat} (h1 : 1 ≤ n) (h2 : n < (N + 1) * (N + 1)) : sumR (fun d => if d * d ∣ n then mu d else 0) N = if mu n = 0 then 0 else 1 := by
  have N1 : 1 ≤ N := by
    rcases Nat.eq_zero_or_pos N with e | e
    · rw [e] at h2
      omega
    · exact e
  by_cases e : mu n = 0
  · rw [if_pos e]
    obtain ⟨p, hp, hd⟩ := mu_zero_has h1 e
    have p2 := hp.1
    rw [sumR_split (p := p) (by omega)]
    have both : ∀ i, ¬ p ∣ i → i * i ∣ n → (p * i) * (p * i) ∣ n := by
      intro i hpi hin
      have c : Nat.Coprime (p * p) (i * i) := Nat.Coprime.mul_right (sq_coprime hp hpi) (sq_coprime hp hpi)
      have := c.mul_dvd_of_dvd_of_dvd hd hin
      rw [show p * i * (p * i) = p * p * (i * i) by rw [Nat.mul_assoc, Nat.mul_assoc, Nat.mul_left_comm i p i]]
      exact this
    have a : sumR (fun i => if p ∣ i then 0 else if i * i ∣ n then mu i else 0) N = sumR (fun i => if p ∣ i then 0 else if i * i ∣ n then mu i else 0) (N / p) := by
      refine sumR_trunc (Nat.div_le_self _ _) fun i hi _ => ?_
      by_cases hpi : p ∣ i
      · rw [if_pos hpi]
      · rw [if_neg hpi, if_neg]
        intro hin
        have := Nat.le_of_dvd (by omega) (both i hpi hin)
        have g : N < p * i := by
          have := (Nat.div_lt_iff_lt_mul (show 0 < p by omega)).mp hi
          rw [Nat.mul_comm]
          exact this
        have := Nat.mul_le_mul (show N + 1 ≤ p * i from g) (show N + 1 ≤ p * i from g)
        omega
    rw [a, ← sumR_add]
    refine sumR_zero fun i i1 i2 => ?_
    by_cases hpi : p ∣ i
    · rw [if_pos hpi, mu_mul_dvd hp hpi (by omega)]
      split <;> rfl
    · rw [if_neg hpi, mu_mul hp hpi]
      by_cases hin : i * i ∣ n
      · rw [if_pos hin, if_pos (both i hpi hin)]
        omega
      · rw [if_neg hin, if_neg fun z => hin (Nat.dvd_trans (Nat.mul_dvd_mul (Nat.dvd_mul_left i p) (Nat.dvd_mul_left i p)) z)]
        rfl
  · rw [if_neg e, sumR_one (k := 1) (by decide) N1 fun i a _ b => ?_]
    · rw [if_pos (Nat.one_dvd n), mu_one]
    · rw [if_neg]
      intro z
      obtain ⟨p, hp, hpd⟩ := prime_div (show 2 ≤ i by omega)
      exact e (mu_sq hp (Nat.dvd_trans (Nat.mul_dvd_mul hpd hpd) z) (by omega))
/-- how many to n -/
def plainN (n : Nat) : Int := sumR (fun i => if mu i = 0 then 0 else 1) n
theorem plain_sum : ∀ {n : Nat} (N : Nat), n < (N + 1) * (N + 1) → sumR (fun d => mu d * (n / (d * d) : Nat)) N = plainN n
  | 0, N, _ => by
    refine Eq.trans (sumR_zero fun i _ _ => ?_) rfl
    rw [Nat.zero_div]
    simp
  | n + 1, N, h => by
    have e : sumR (fun k => mu k * ((n + 1) / (k * k) : Nat)) N = sumR (fun k => mu k * (n / (k * k) : Nat)) N + sumR (fun d => if d * d ∣ n + 1 then mu d else 0) N := by
      rw [← sumR_add]
      refine sumR_congr fun i _ _ => ?_
      rw [Nat.succ_div]
      split
      · rw [Int.natCast_add, Int.mul_add]
        simp
      · simp
    rw [e, plain_sum N (by omega), mu_sqsum (by omega) h, plainN, plainN, sumR]
theorem plain_step (n : Nat) : plainN (n + 1) - plainN n = if mu (n + 1) = 0 then 0 else 1 := by
  unfold plainN
  rw [sumR]
  omega
/-- each number is a square times a number without squares, in one way -/
theorem one_square : ∀ (k n N : Nat), n ≤ k → 1 ≤ n → n < (N + 1) * (N + 1) → sumR (fun s => if s * s ∣ n then (if mu (n / (s * s)) = 0 then 0 else 1) else 0) N = 1
  | 0, n, N, h, h1, _ => by omega
  | k + 1, n, N, h, h1, h2 => by
    have N1 : 1 ≤ N := by
      rcases Nat.eq_zero_or_pos N with e | e
      · rw [e] at h2
        omega
      · exact e
    by_cases e : mu n = 0
    · obtain ⟨p, hp, hd⟩ := mu_zero_has h1 e
      have p2 := hp.1
      obtain ⟨m, rfl⟩ := hd
      have m0 : 1 ≤ m := by
        rcases Nat.eq_zero_or_pos m with z | z
        · rw [z] at h1
          omega
        · exact z
      have pp : 4 ≤ p * p := Nat.mul_le_mul p2 p2
      have mlt : m < p * p * m := by
        have := Nat.mul_le_mul_right m pp
        omega
      rw [sumR_split (p := p) (by omega)]
      have a : sumR (fun i => if p ∣ i then 0 else if i * i ∣ p * p * m then (if mu (p * p * m / (i * i)) = 0 then 0 else 1) else 0) N = 0 := by
        refine sumR_zero fun i i1 _ => ?_
        by_cases hpi : p ∣ i
        · rw [if_pos hpi]
        · rw [if_neg hpi]
          by_cases hin : i * i ∣ p * p * m
          · rw [if_pos hin, if_pos]
            have c : Nat.Coprime (i * i) (p * p) := (Nat.Coprime.mul_right (sq_coprime hp hpi) (sq_coprime hp hpi)).symm
            obtain ⟨t, rfl⟩ := c.dvd_of_dvd_mul_left hin
            have ii : 0 < i * i := Nat.mul_pos (by omega) (by omega)
            rw [show p * p * (i * i * t) = i * i * (p * p * t) by rw [Nat.mul_left_comm], Nat.mul_div_cancel_left _ ii]
            refine mu_sq hp (Nat.dvd_mul_right _ _) (Nat.mul_pos (by omega) ?_)
            rcases Nat.eq_zero_or_pos t with z | z
            · rw [z] at m0
              omega
            · exact z
          · rw [if_neg hin]
      have b : sumR (fun i => if p * i * (p * i) ∣ p * p * m then (if mu (p * p * m / (p * i * (p * i))) = 0 then 0 else 1) else 0) (N / p) = sumR (fun s => if s * s ∣ m then (if mu (m / (s * s)) = 0 then 0 else 1) else 0) (N / p) := by
        refine sumR_congr fun i _ _ => ?_
        rw [show p * i * (p * i) = p * p * (i * i) by rw [Nat.mul_assoc, Nat.mul_assoc, Nat.mul_left_comm i p i], Nat.mul_div_mul_left _ _ (by omega : 0 < p * p)]
        by_cases z : i * i ∣ m
        · rw [if_pos z, if_pos (Nat.mul_dvd_mul_left _ z)]
        · rw [if_neg z, if_neg fun y => z (Nat.dvd_of_mul_dvd_mul_left (by omega : 0 < p * p) y)]
      rw [a, b, one_square k m (N / p) (by omega) m0 ?_]
      · rfl
      · have g := Nat.lt_mul_div_succ N (show 0 < p by omega)
        refine Classical.byContradiction fun z => ?_
        have h3 : (N / p + 1) * (N / p + 1) ≤ m := by omega
        have h4 := Nat.mul_le_mul_left (p * p) h3
        rw [show p * p * ((N / p + 1) * (N / p + 1)) = (p * (N / p + 1)) * (p * (N / p + 1)) by rw [Nat.mul_assoc, Nat.mul_assoc, Nat.mul_left_comm (N / p + 1) p]] at h4
        have h5 := Nat.mul_le_mul (show N + 1 ≤ p * (N / p + 1) from g) (show N + 1 ≤ p * (N / p + 1) from g)
        omega
    · rw [sumR_one (k := 1) (by decide) N1 fun i a _ b => ?_]
      · rw [if_pos (by simp), if_neg (by simpa using e)]
      · rw [if_neg]
        intro z
        obtain ⟨p, hp, hpd⟩ := prime_div (show 2 ≤ i by omega)
        exact e (mu_sq hp (Nat.dvd_trans (Nat.mul_dvd_mul hpd hpd) z) (by omega))
theorem plain_squares : ∀ {n : Nat} (N : Nat), n < (N + 1) * (N + 1) → sumR (fun s => plainN (n / (s * s))) N = n
  | 0, N, _ => by
    refine Eq.trans (sumR_zero fun i _ _ => ?_) rfl
    rw [Nat.zero_div]
    rfl
  | n + 1, N, h => by
    have e : sumR (fun s => plainN ((n + 1) / (s * s))) N = sumR (fun s => plainN (n / (s * s))) N + sumR (fun s => if s * s ∣ n + 1 then (if mu ((n + 1) / (s * s)) = 0 then 0 else 1) else 0) N := by
      rw [← sumR_add]
      refine sumR_congr fun i _ _ => ?_
      have sd := Nat.succ_div (a := n) (b := i * i)
      by_cases z : i * i ∣ n + 1
      · rw [if_pos z] at sd ⊢
        rw [sd]
        have := plain_step (n / (i * i))
        omega
      · rw [if_neg z] at sd ⊢
        rw [sd]
        simp
    rw [e, plain_squares N (by omega), one_square (n + 1) (n + 1) N (Nat.le_refl _) (by omega) h]
    omega

end M
namespace M
/-! divisors: how many, their sum -/
def dsum (f : Nat → Int) (n : Nat) : Int := sumR (fun d => if d ∣ n then f d else 0) n
theorem dsum_more {f : Nat → Int} {n N : Nat} (h1 : 1 ≤ n) (h : n ≤ N) : sumR (fun d => if d ∣ n then f d else 0) N = dsum f n :=
  sumR_trunc h fun i hi _ => if_neg fun z => by
    have := Nat.le_of_dvd (by omega) z
    omega
theorem dsum_pow {p m : Nat} (f : Nat → Int) (hp : Pr p) (hm : ¬ p ∣ m) (m1 : 1 ≤ m) (e : Nat) : dsum f (p ^ (e + 1) * m) = dsum f m + dsum (fun d => f (p * d)) (p ^ e * m) := by
  have p2 := hp.1
  have pe : 0 < p ^ e := Nat.pow_pos (by omega)
  have n1 : p ^ (e + 1) * m = p * (p ^ e * m) := by rw [Nat.pow_succ, Nat.mul_comm (p ^ e) p, Nat.mul_assoc]
  have c : ∀ d, ¬ p ∣ d → (d ∣ p ^ (e + 1) * m ↔ d ∣ m) := fun d hd => by
    have hc : Nat.Coprime d (p ^ (e + 1)) := Nat.Coprime.pow_right _ (hp.coprime hd).symm
    exact ⟨fun z => hc.dvd_of_dvd_mul_left z, fun z => Nat.dvd_trans z (Nat.dvd_mul_left _ _)⟩
  have ml : m ≤ p ^ (e + 1) * m := Nat.le_mul_of_pos_left m (Nat.pow_pos (by omega))
  show sumR (fun d => if d ∣ p ^ (e + 1) * m then f d else 0) (p ^ (e + 1) * m) = _
  rw [sumR_split (p := p) (by omega)]
  congr 1
  · rw [← dsum_more m1 ml]
    refine sumR_congr fun i _ _ => ?_
    by_cases h : p ∣ i
    · rw [if_pos h, if_neg fun z => hm (Nat.dvd_trans h z)]
    · rw [if_neg h]
      by_cases g : i ∣ m
      · rw [if_pos g, if_pos ((c i h).mpr g)]
      · rw [if_neg g, if_neg fun z => g ((c i h).mp z)]
  · rw [n1, Nat.mul_div_cancel_left _ (by omega : 0 < p)]
    refine sumR_congr fun i _ _ => ?_
    by_cases g : i ∣ p ^ e * m
    · rw [if_pos g, if_pos (Nat.mul_dvd_mul_left p g)]
    · rw [if_neg g, if_neg fun z => g (Nat.dvd_of_mul_dvd_mul_left (by omega) z)]
theorem dsum_mul (c : Int) (f : Nat → Int) (n : Nat) : dsum (fun d => c * f d) n = c * dsum f n := by
  unfold dsum
  rw [← sumR_mul]
  refine sumR_congr fun i _ _ => ?_
  split
  · rfl
  · simp
def tauN (n : Nat) : Int := dsum (fun _ => 1) n
def sigN (n : Nat) : Int := dsum (fun d => d) n
theorem tau_pow {p m : Nat} (hp : Pr p) (hm : ¬ p ∣ m) (m1 : 1 ≤ m) : ∀ e : Nat, tauN (p ^ e * m) = (e + 1 : Nat) * tauN m
  | 0 => by simp
  | e + 1 => by
    unfold tauN
    rw [dsum_pow _ hp hm m1 e]
    have := tau_pow hp hm m1 e
    unfold tauN at this
    rw [this, Int.natCast_add (e + 1) 1, Int.add_mul]
    omega
def geo (p : Nat) : Nat → Nat
  | 0 => 1
  | e + 1 => geo p e * p + 1
theorem sig_pow {p m : Nat} (hp : Pr p) (hm : ¬ p ∣ m) (m1 : 1 ≤ m) : ∀ e : Nat, sigN (p ^ e * m) = (geo p e : Nat) * sigN m
  | 0 => by simp [geo]
  | e + 1 => by
    unfold sigN
    rw [dsum_pow _ hp hm m1 e]
    have := sig_pow hp hm m1 e
    unfold sigN at this
    have e2 : dsum (fun d => ((p * d : Nat) : Int)) (p ^ e * m) = (p : Int) * dsum (fun d => (d : Int)) (p ^ e * m) := by
      rw [← dsum_mul]
      rfl
    rw [e2, this, geo, Int.natCast_add, Int.natCast_mul, Int.add_mul, ← Int.mul_assoc, Int.mul_comm (p : Int)]
    simp only [Int.natCast_one, Int.one_mul]
    omega
def tauL : List (Nat × Nat) → Nat
  | [] => 1
  | (_, e) :: r => (e + 1) * tauL r
def sigL : List (Nat × Nat) → Nat
  | [] => 1
  | (p, e) :: r => geo p e * sigL r
theorem tau_ok : ∀ {b : Nat} {L : List (Nat × Nat)}, FacOk b L → tauN (facP L) = tauL L
  | _, [], _ => by
    show tauN 1 = 1
    decide
  | b, (p, e) :: r, ⟨h1, h2, h3, h4⟩ => by
    show tauN (p ^ e * facP r) = ((e + 1) * tauL r : Nat)
    rw [tau_pow h2 (not_dvd_rest h2 h4) (FacOk.pos h4), tau_ok h4, Int.natCast_mul]
theorem sig_ok : ∀ {b : Nat} {L : List (Nat × Nat)}, FacOk b L → sigN (facP L) = sigL L
  | _, [], _ => by
    show sigN 1 = 1
    decide
  | b, (p, e) :: r, ⟨h1, h2, h3, h4⟩ => by
    show sigN (p ^ e * facP r) = (geo p e * sigL r : Nat)
    rw [sig_pow h2 (not_dvd_rest h2 h4) (FacOk.pos h4), sig_ok h4, Int.natCast_mul]
theorem tau_fac {L : List (Nat × Nat)} {n : Nat} (h : FacOf L n) : tauN n = tauL L := by
  rw [← h.2]
  exact tau_ok h.1
theorem sig_fac {L : List (Nat × Nat)} {n : Nat} (h : FacOf L n) : sigN n = sigL L := by
  rw [← h.2]
  exact sig_ok h.1
/-- sums over divisors, summed -/
theorem dsum_quot (f : Nat → Int) : ∀ {n : Nat} (N : Nat), n ≤ N → sumR (fun k => f k * (n / k : Nat)) N = sumR (dsum f) n
  | 0, N, _ => by
    refine Eq.trans (sumR_zero fun i _ _ => ?_) rfl
    rw [Nat.zero_div]
    simp
  | n + 1, N, h => by
    have e : sumR (fun k => f k * ((n + 1) / k : Nat)) N = sumR (fun k => f k * (n / k : Nat)) N + sumR (fun d => if d ∣ n + 1 then f d else 0) N := by
      rw [← sumR_add]
      refine sumR_congr fun i _ _ => ?_
      rw [Nat.succ_div]
      split
      · rw [Int.natCast_add, Int.mul_add]
        simp
      · simp
    rw [e, dsum_quot f N (by omega), dsum_more (by omega) h, sumR]
theorem tau_quot (n : Nat) : sumR (fun k => (n / k : Nat)) n = sumR tauN n := by
  have := dsum_quot (fun _ => 1) n (Nat.le_refl n)
  rw [← show sumR (dsum fun _ => 1) n = sumR tauN n from rfl, ← this]
  exact sumR_congr fun i _ _ => by omega
theorem sig_quot (n : Nat) : sumR (fun k => (k : Int) * (n / k : Nat)) n = sumR sigN n := dsum_quot (fun d => d) n (Nat.le_refl n)
/-! twice the near ones -/
theorem sumR_swap (f : Nat → Nat → Int) (m : Nat) : ∀ n : Nat, sumR (fun i => sumR (f i) m) n = sumR (fun j => sumR (fun i => f i j) n) m
  | 0 => by
    show 0 = _
    exact (sumR_zero fun i _ _ => rfl).symm
  | n + 1 => by
    rw [sumR, sumR_swap f m n, ← sumR_add]
    rfl
theorem count_to {d n : Nat} (hd : 1 ≤ d) : ∀ N : Nat, sumR (fun e => if d * e ≤ n then 1 else 0) N = (if n / d ≤ N then n / d else N : Nat)
  | 0 => by
    rw [sumR]
    generalize n / d = q
    split <;> omega
  | N + 1 => by
    rw [sumR, count_to hd N]
    have := Nat.le_div_iff_mul_le (k := d) (x := N + 1) (y := n) (by omega)
    rw [Nat.mul_comm (N + 1) d] at this
    generalize n / d = q at this ⊢
    by_cases h : d * (N + 1) ≤ n
    · have := this.mpr h
      rw [if_pos h]
      split <;> (try split) <;> omega
    · have : ¬ N + 1 ≤ q := fun z => h (this.mp z)
      rw [if_neg h]
      split <;> (try split) <;> omega
theorem hyper {n r : Nat} (h1 : r * r ≤ n) (h2 : n < (r + 1) * (r + 1)) : sumR (fun k => (n / k : Nat)) n = 2 * sumR (fun k => (n / k : Nat)) r - r * r := by
  have rn : r ≤ n := by
    rcases Nat.eq_zero_or_pos r with e | e
    · omega
    · exact Nat.le_trans (Nat.le_mul_of_pos_left r e) h1
  have a : ∀ d, 1 ≤ d → sumR (fun e => if d * e ≤ n then (1 : Int) else 0) n = (n / d : Nat) := fun d hd => by
    rw [count_to hd, if_pos (Nat.div_le_self _ _)]
  have e1 : sumR (fun k => (n / k : Nat)) n = sumR (fun d => sumR (fun e => if d * e ≤ n then (1 : Int) else 0) n) n := sumR_congr fun i i1 _ => (a i i1).symm
  have pt : ∀ d e : Nat, (if d * e ≤ n then (1 : Int) else 0) = (if d ≤ r then (if d * e ≤ n then 1 else 0) else 0) + ((if e ≤ r then (if d * e ≤ n then 1 else 0) else 0) + - (if d ≤ r then (if e ≤ r then 1 else 0) else 0)) := fun d e => by
    by_cases x : d ≤ r
    · by_cases y : e ≤ r
      · have := Nat.mul_le_mul x y
        have z : d * e ≤ n := by omega
        simp [x, y, z]
      · simp [x, y]
    · by_cases y : e ≤ r
      · simp [x, y]
      · have := Nat.mul_le_mul (show r + 1 ≤ d by omega) (show r + 1 ≤ e by omega)
        have z : ¬ d * e ≤ n := by omega
        simp [x, y, z]
  have cut : ∀ (f : Nat → Int), sumR (fun d => if d ≤ r then f d else 0) n = sumR f r := fun f => by
    rw [sumR_trunc (f := fun d => if d ≤ r then f d else 0) rn fun i hi _ => if_neg (by omega)]
    exact sumR_congr fun i _ hi => if_pos hi
  have s1 : sumR (fun d => sumR (fun e => if d ≤ r then (if d * e ≤ n then (1 : Int) else 0) else 0) n) n = sumR (fun k => (n / k : Nat)) r := by
    rw [← cut fun k => ((n / k : Nat) : Int)]
    refine sumR_congr fun d d1 _ => ?_
    by_cases x : d ≤ r
    · simp only [x, if_true]
      exact a d d1
    · simp only [x, if_false]
      exact sumR_zero fun _ _ _ => rfl
  have s2 : sumR (fun d => sumR (fun e => if e ≤ r then (if d * e ≤ n then (1 : Int) else 0) else 0) n) n = sumR (fun k => (n / k : Nat)) r := by
    rw [sumR_swap]
    refine Eq.trans (sumR_congr fun e _ _ => sumR_congr fun d _ _ => ?_) s1
    rw [Nat.mul_comm]
  have sq : ∀ m : Nat, sumR (fun _ => (r : Int)) m = r * m := fun m => by
    induction m with
    | zero => simp [sumR]
    | succ m ih => rw [sumR, ih, Int.natCast_add, Int.mul_add]; simp
  have one : ∀ m : Nat, sumR (fun _ => (1 : Int)) m = m := fun m => by
    induction m with
    | zero => rfl
    | succ m ih => rw [sumR, ih]; rfl
  have s3 : sumR (fun d => sumR (fun e => - (if d ≤ r then (if e ≤ r then (1 : Int) else 0) else 0)) n) n = - (r * r : Int) := by
    rw [sumR_congr (g := fun d => - (if d ≤ r then (r : Int) else 0)) fun d _ _ => ?_]
    · rw [sumR_neg, cut fun _ => (r : Int), sq]
    · rw [sumR_neg]
      by_cases x : d ≤ r
      · simp only [x, if_true]
        rw [cut fun _ => 1, one]
      · simp only [x, if_false]
        rw [sumR_zero fun _ _ _ => rfl]
  rw [e1, sumR_congr fun d _ _ => sumR_congr fun e _ _ => pt d e]
  rw [sumR_congr (g := fun d => sumR (fun e => if d ≤ r then (if d * e ≤ n then (1 : Int) else 0) else 0) n + (sumR (fun e => if e ≤ r then (if d * e ≤ n then (1 : Int) else 0) else 0) n + sumR (fun e => - (if d ≤ r then (if e ≤ r then (1 : Int) else 0) else 0)) n)) fun d _ _ => by rw [sumR_add, sumR_add]]
  rw [sumR_add, sumR_add, s1, s2, s3]
  omega
theorem sumR_mono {f g : Nat → Int} : ∀ {n : Nat}, (∀ i, 1 ≤ i → i ≤ n → f i ≤ g i) → sumR f n ≤ sumR g n
  | 0, _ => Int.le_refl 0
  | n + 1, h => Int.add_le_add (sumR_mono fun i h1 h2 => h i h1 (by omega)) (h (n + 1) (by omega) (by omega))
/-- at most twice the root -/
theorem tau_le {n r : Nat} (h0 : 1 ≤ n) (h2 : n < (r + 1) * (r + 1)) : tauN n ≤ 2 * r := by
  have one : ∀ m : Nat, sumR (fun _ => (1 : Int)) m = m := fun m => by
    induction m with
    | zero => rfl
    | succ m ih => rw [sumR, ih]; rfl
  have a : ∀ d, 1 ≤ d → sumR (fun e => if d * e = n then (1 : Int) else 0) n = if d ∣ n then 1 else 0 := fun d hd => by
    by_cases g : d ∣ n
    · obtain ⟨k, rfl⟩ := g
      have k1 : 1 ≤ k := by
        rcases Nat.eq_zero_or_pos k with z | z
        · rw [z] at h0
          omega
        · exact z
      rw [if_pos (Nat.dvd_mul_right d k), sumR_one (k := k) k1 (Nat.le_mul_of_pos_left k hd) fun i _ _ hi => if_neg fun z => hi (Nat.eq_of_mul_eq_mul_left hd z)]
      rw [if_pos rfl]
    · rw [if_neg g, sumR_zero fun e _ _ => if_neg fun z => g ⟨e, z.symm⟩]
  have e1 : tauN n = sumR (fun d => sumR (fun e => if d * e = n then (1 : Int) else 0) n) n := sumR_congr fun d d1 _ => (a d d1).symm
  have cut : ∀ (f : Nat → Int), (∀ d, 0 ≤ f d) → (∀ d, f d ≤ 1) → sumR (fun d => if d ≤ r then f d else 0) n ≤ r := fun f f0 f1 => by
    have : ∀ m, sumR (fun d => if d ≤ r then f d else 0) m ≤ (if m ≤ r then m else r : Nat) := fun m => by
      induction m with
      | zero => simp [sumR]
      | succ m ih =>
        rw [sumR]
        have := f1 (m + 1)
        have := f0 (m + 1)
        split at ih <;> split <;> (try split) <;> omega
    refine Int.le_trans (this n) ?_
    split <;> omega
  have half : sumR (fun d => if d ≤ r then (if d ∣ n then (1 : Int) else 0) else 0) n ≤ r := cut _ (fun d => by split <;> omega) (fun d => by split <;> omega)
  have pt : ∀ d e : Nat, (if d * e = n then (1 : Int) else 0) ≤ (if d ≤ r then (if d * e = n then 1 else 0) else 0) + (if e ≤ r then (if d * e = n then 1 else 0) else 0) := fun d e => by
    by_cases x : d ≤ r
    · by_cases y : e ≤ r <;> simp [x, y] <;> split <;> omega
    · by_cases y : e ≤ r
      · simp [x, y]
      · have := Nat.mul_le_mul (show r + 1 ≤ d by omega) (show r + 1 ≤ e by omega)
        have z : ¬ d * e = n := by omega
        simp [x, y, z]
  have s1 : sumR (fun d => sumR (fun e => if d ≤ r then (if d * e = n then (1 : Int) else 0) else 0) n) n ≤ r := by
    refine Int.le_trans (Int.le_of_eq (sumR_congr fun d d1 _ => ?_)) half
    by_cases x : d ≤ r
    · simp only [x, if_true]
      exact a d d1
    · simp only [x, if_false]
      exact sumR_zero fun _ _ _ => rfl
  have s2 : sumR (fun d => sumR (fun e => if e ≤ r then (if d * e = n then (1 : Int) else 0) else 0) n) n ≤ r := by
    rw [sumR_swap]
    refine Int.le_trans (Int.le_of_eq (sumR_congr fun e _ _ => sumR_congr fun d _ _ => ?_)) s1
    rw [Nat.mul_comm]
  rw [e1]
  refine Int.le_trans (sumR_mono fun d _ _ => sumR_mono fun e _ _ => pt d e) ?_
  rw [sumR_congr (g := fun d => sumR (fun e => if d ≤ r then (if d * e = n then (1 : Int) else 0) else 0) n + sumR (fun e => if e ≤ r then (if d * e = n then (1 : Int) else 0) else 0) n) fun d _ _ => sumR_add _ _ _, sumR_add]
  omega

end M
namespace M
/-! share-free counts -/
theorem pe_pos {p e : Nat} (hp : Pr p) : 0 < p ^ e := Nat.pow_pos (by have := hp.1; omega)
/-- by the powers -/
def phL : List (Nat × Nat) → Nat
  | [] => 1
  | (p, e) :: r => p ^ (e - 1) * (p - 1) * phL r
/-- the primes of S done, the others not -/
def mixL (S : Nat → Bool) : List (Nat × Nat) → Nat
  | [] => 1
  | (p, e) :: r => (if S p then p ^ (e - 1) * (p - 1) else p ^ e) * mixL S r
theorem mixL_none : ∀ L : List (Nat × Nat), mixL (fun _ => false) L = facP L
  | [] => rfl
  | (p, e) :: r => by
    rw [mixL, mixL_none r, facP]
    rfl
theorem mixL_all {S : Nat → Bool} : ∀ {L : List (Nat × Nat)}, (∀ x ∈ L, S x.1 = true) → mixL S L = phL L
  | [], _ => rfl
  | (p, e) :: r, h => by
    rw [mixL, phL, mixL_all fun x hx => h x (List.mem_cons_of_mem _ hx), if_pos (h (p, e) List.mem_cons_self)]
theorem mixL_congr {S T : Nat → Bool} : ∀ {L : List (Nat × Nat)}, (∀ x ∈ L, S x.1 = T x.1) → mixL S L = mixL T L
  | [], _ => rfl
  | (p, e) :: r, h => by
    rw [mixL, mixL, mixL_congr fun x hx => h x (List.mem_cons_of_mem _ hx), h (p, e) List.mem_cons_self]
theorem mixL_dvd {S : Nat → Bool} {p : Nat} (hS : S p = false) : ∀ {b : Nat} {L : List (Nat × Nat)}, FacOk b L → (∃ x ∈ L, x.1 = p) → p ∣ mixL S L
  | _, [], _, h => by
    obtain ⟨x, hx, _⟩ := h
    cases hx
  | b, (q, e) :: r, ⟨_, h2, h3, h4⟩, h => by
    rw [mixL]
    by_cases hq : q = p
    · subst hq
      rw [hS]
      exact Nat.dvd_trans (dvd_pow_self h3) (Nat.dvd_mul_right _ _)
    · obtain ⟨x, hx, e⟩ := h
      rcases List.mem_cons.mp hx with z | z
      · rw [z] at e
        exact (hq e).elim
      · exact Nat.dvd_trans (mixL_dvd hS h4 ⟨x, z, e⟩) (Nat.dvd_mul_left _ _)
/-- one prime more -/
theorem mixL_step {S : Nat → Bool} {p : Nat} (hp : Pr p) (hS : S p = false) : ∀ {b : Nat} {L : List (Nat × Nat)}, FacOk b L → mixL (fun q => S q || decide (q = p)) L = if p ∣ facP L then mixL S L / p * (p - 1) else mixL S L
  | _, [], _ => by
    rw [if_neg fun z => by
      have := Nat.le_of_dvd (by decide) (show p ∣ 1 from z)
      have := hp.1
      omega]
    rfl
  | b, (q, e) :: r, ⟨h1, h2, h3, h4⟩ => by
    have p0 : 0 < p := by have := hp.1; omega
    by_cases hq : q = p
    · subst hq
      have same : mixL (fun x => S x || decide (x = q)) r = mixL S r := mixL_congr fun x hx => by
        have := (h4.mem hx).1
        rw [decide_eq_false (by omega), Bool.or_false]
      rw [if_pos (show q ∣ facP ((q, e) :: r) from Nat.dvd_trans (dvd_pow_self h3) (Nat.dvd_mul_right _ _)), mixL, mixL, same, hS, decide_eq_true rfl]
      simp only [Bool.or_true, if_true, Bool.false_eq_true, if_false]
      obtain ⟨f, rfl⟩ : ∃ f, e = f + 1 := ⟨e - 1, by omega⟩
      rw [Nat.add_sub_cancel, Nat.pow_succ, Nat.mul_comm (q ^ f) q, Nat.mul_assoc q, Nat.mul_div_cancel_left _ p0, Nat.mul_right_comm]
    · have ih := mixL_step (S := S) hp hS h4
      rw [mixL, mixL, ih, decide_eq_false hq, Bool.or_false]
      have eqv : p ∣ facP ((q, e) :: r) ↔ p ∣ facP r := by
        constructor
        · intro z
          rcases hp.mul z with z | z
          · exact (hq (hp.eq_of_dvd h2 (hp.pow z)).symm).elim
          · exact z
        · exact fun z => Nat.dvd_trans z (Nat.dvd_mul_left _ _)
      by_cases hd : p ∣ facP r
      · rw [if_pos hd, if_pos (eqv.mpr hd)]
        obtain ⟨t, ht⟩ := mixL_dvd hS h4 (h4.dvd hp hd)
        rw [ht, Nat.mul_div_cancel_left _ p0, Nat.mul_left_comm _ p t, Nat.mul_div_cancel_left _ p0, Nat.mul_assoc]
      · rw [if_neg hd, if_neg fun z => hd (eqv.mp z)]
/-- signs over quotients -/
def phN (n : Nat) : Int := sumR (fun d => if d ∣ n then mu d * (n / d : Nat) else 0) n
theorem phN_more {n N : Nat} (h1 : 1 ≤ n) (h : n ≤ N) : sumR (fun d => if d ∣ n then mu d * (n / d : Nat) else 0) N = phN n :=
  sumR_trunc h fun i hi _ => if_neg fun z => by
    have := Nat.le_of_dvd (by omega) z
    omega
theorem phN_pow {p m : Nat} (hp : Pr p) (hm : ¬ p ∣ m) (m1 : 1 ≤ m) (e : Nat) : phN (p ^ (e + 1) * m) = (p ^ e * (p - 1) : Nat) * phN m := by
  have p2 := hp.1
  have n1 : p ^ (e + 1) * m = p * (p ^ e * m) := by rw [Nat.pow_succ, Nat.mul_comm (p ^ e) p, Nat.mul_assoc]
  have c : ∀ d, ¬ p ∣ d → ∀ k, (d ∣ p ^ k * m ↔ d ∣ m) := fun d hd k => by
    have hc : Nat.Coprime d (p ^ k) := Nat.Coprime.pow_right _ (hp.coprime hd).symm
    exact ⟨fun z => hc.dvd_of_dvd_mul_left z, fun z => Nat.dvd_trans z (Nat.dvd_mul_left _ _)⟩
  have ml : ∀ k, m ≤ p ^ k * m := fun k => Nat.le_mul_of_pos_left m (pe_pos hp)
  have quo : ∀ d k, 1 ≤ d → d ∣ m → ((p ^ k * m / d : Nat) : Int) = (p ^ k : Nat) * (m / d : Nat) := fun d k d1 hd => by
    rw [Nat.mul_div_assoc _ hd, Int.natCast_mul]
  unfold phN
  rw [sumR_split (p := p) (by omega)]
  have a : sumR (fun d => if p ∣ d then 0 else if d ∣ p ^ (e + 1) * m then mu d * (p ^ (e + 1) * m / d : Nat) else 0) (p ^ (e + 1) * m) = (p ^ (e + 1) : Nat) * phN m := by
    rw [← phN_more m1 (ml (e + 1)), ← sumR_mul]
    refine sumR_congr fun i i1 _ => ?_
    by_cases h : p ∣ i
    · rw [if_pos h, if_neg fun z => hm (Nat.dvd_trans h z), Int.mul_zero]
    · rw [if_neg h]
      by_cases g : i ∣ m
      · rw [if_pos g, if_pos ((c i h (e + 1)).mpr g), quo i (e + 1) i1 g, Int.mul_left_comm]
      · rw [if_neg g, if_neg fun z => g ((c i h (e + 1)).mp z), Int.mul_zero]
  have b : sumR (fun i => if p * i ∣ p ^ (e + 1) * m then mu (p * i) * (p ^ (e + 1) * m / (p * i) : Nat) else 0) (p ^ (e + 1) * m / p) = - ((p ^ e : Nat) * phN m) := by
    rw [n1, Nat.mul_div_cancel_left _ (by omega : 0 < p), ← phN_more m1 (ml e), ← sumR_mul, ← sumR_neg]
    refine sumR_congr fun i i1 _ => ?_
    rw [Nat.mul_div_mul_left _ _ (by omega : 0 < p)]
    by_cases h : p ∣ i
    · rw [mu_mul_dvd hp h i1, if_neg fun z => hm (Nat.dvd_trans h z)]
      split <;> simp
    · rw [mu_mul hp h]
      by_cases g : i ∣ m
      · rw [if_pos g, if_pos (Nat.mul_dvd_mul_left p ((c i h e).mpr g)), quo i e i1 g, Int.neg_mul, Int.mul_left_comm]
      · rw [if_neg g, if_neg fun z => g ((c i h e).mp (Nat.dvd_of_mul_dvd_mul_left (by omega) z))]
        simp
  rw [a, b]
  have e3 : ((p ^ (e + 1) : Nat) : Int) = (p ^ e * (p - 1) : Nat) + (p ^ e : Nat) := by
    rw [← Int.natCast_add, Nat.pow_succ, ← Nat.mul_succ, show (p - 1).succ = p by omega]
  show _ = ((p ^ e * (p - 1) : Nat) : Int) * phN m
  rw [e3, Int.add_mul]
  omega
theorem ph_ok : ∀ {b : Nat} {L : List (Nat × Nat)}, FacOk b L → phN (facP L) = phL L
  | _, [], _ => by
    show phN 1 = 1
    decide
  | b, (p, e) :: r, ⟨h1, h2, h3, h4⟩ => by
    obtain ⟨f, rfl⟩ : ∃ f, e = f + 1 := ⟨e - 1, by omega⟩
    show phN (p ^ (f + 1) * facP r) = (p ^ (f + 1 - 1) * (p - 1) * phL r : Nat)
    rw [phN_pow h2 (not_dvd_rest h2 h4) (FacOk.pos h4), ph_ok h4, Nat.add_sub_cancel, Int.natCast_mul (p ^ f * (p - 1)) (phL r)]
theorem ph_fac {L : List (Nat × Nat)} {n : Nat} (h : FacOf L n) : phN n = phL L := by
  rw [← h.2]
  exact ph_ok h.1
/-! couples -/
theorem sq_succ_div {d n : Nat} : (((n + 1) / d : Nat) : Int) * ((n + 1) / d : Nat) = ((n / d : Nat) : Int) * (n / d : Nat) + (if d ∣ n + 1 then 2 * (((n + 1) / d : Nat) : Int) - 1 else 0) := by
  rw [Nat.succ_div]
  split
  · rw [Int.natCast_add]
    generalize ((n / d : Nat) : Int) = q
    rw [Int.mul_add, Int.add_mul]
    simp
    omega
  · simp
theorem couples_sum : ∀ {n : Nat} (N : Nat), n ≤ N → sumR (fun d => mu d * (((n / d : Nat) : Int) * (n / d : Nat))) N = 2 * sumR phN n - if n = 0 then 0 else 1
  | 0, N, _ => by
    rw [if_pos rfl]
    refine Eq.trans (sumR_zero fun i _ _ => ?_) rfl
    rw [Nat.zero_div]
    simp
  | n + 1, N, h => by
    have e : sumR (fun d => mu d * ((((n + 1) / d : Nat) : Int) * ((n + 1) / d : Nat))) N = sumR (fun d => mu d * (((n / d : Nat) : Int) * (n / d : Nat))) N + (2 * phN (n + 1) - sumR (fun d => if d ∣ n + 1 then mu d else 0) N) := by
      rw [← phN_more (by omega) h, ← sumR_mul, Int.sub_eq_add_neg, ← sumR_neg, ← sumR_add, ← sumR_add]
      refine sumR_congr fun i _ _ => ?_
      rw [sq_succ_div, Int.mul_add]
      split
      · have := Int.mul_left_comm (mu i) 2 (((n + 1) / i : Nat) : Int)
        rw [Int.mul_sub]
        omega
      · simp
    rw [e, couples_sum N (by omega), mu_sum (by omega) h, sumR, if_neg (show ¬ n + 1 = 0 by omega)]
    by_cases z : n = 0
    · rw [if_pos z, if_pos (show n + 1 = 1 by omega), z, show sumR phN 0 = 0 from rfl]
      omega
    · rw [if_neg z, if_neg (show ¬ n + 1 = 1 by omega)]
      omega
theorem mult_to {d : Nat} (hd : 1 ≤ d) : ∀ n : Nat, sumR (fun a => if d ∣ a then (1 : Int) else 0) n = (n / d : Nat)
  | 0 => by simp [sumR]
  | n + 1 => by
    rw [sumR, mult_to hd n, Nat.succ_div]
    split <;> omega
/-- couples that share nothing -/
theorem couples_count (n : Nat) : sumR (fun a => sumR (fun b => if Nat.gcd a b = 1 then (1 : Int) else 0) n) n = sumR (fun d => mu d * (((n / d : Nat) : Int) * (n / d : Nat))) n := by
  have a1 : ∀ a b, 1 ≤ a → a ≤ n → 1 ≤ b → (if Nat.gcd a b = 1 then (1 : Int) else 0) = sumR (fun d => mu d * ((if d ∣ a then 1 else 0) * (if d ∣ b then 1 else 0))) n := fun a b h1 h2 h3 => by
    have g1 : 1 ≤ Nat.gcd a b := Nat.gcd_pos_of_pos_left b h1
    have g2 : Nat.gcd a b ≤ n := Nat.le_trans (Nat.gcd_le_left b h1) h2
    rw [← mu_sum g1 g2]
    refine sumR_congr fun d _ _ => ?_
    by_cases x : d ∣ a
    · by_cases y : d ∣ b
      · rw [if_pos (Nat.dvd_gcd x y), if_pos x, if_pos y]
        simp
      · rw [if_neg fun z => y (Nat.dvd_trans z (Nat.gcd_dvd_right a b)), if_neg y]
        simp
    · rw [if_neg fun z => x (Nat.dvd_trans z (Nat.gcd_dvd_left a b)), if_neg x]
      simp
  rw [sumR_congr (g := fun a => sumR (fun d => mu d * ((if d ∣ a then 1 else 0) * (n / d : Nat))) n) fun a h1 h2 => ?_]
  · rw [sumR_swap]
    refine sumR_congr fun d d1 _ => ?_
    rw [sumR_mul]
    congr 1
    rw [sumR_congr (g := fun a => ((n / d : Nat) : Int) * (if d ∣ a then 1 else 0)) fun a _ _ => Int.mul_comm _ _, sumR_mul, mult_to d1]
  · rw [sumR_congr fun b b1 _ => a1 a b h1 h2 b1, sumR_swap]
    refine sumR_congr fun d d1 _ => ?_
    rw [sumR_mul, sumR_mul, mult_to d1]

end M
namespace M
/-! sums of shares -/
/-- f over the divisors, each with the number's part -/
def cs (f : Nat → Int) (n : Nat) : Int := sumR (fun d => if d ∣ n then f d * (n / d : Nat) else 0) n
theorem cs_more {f : Nat → Int} {n N : Nat} (h1 : 1 ≤ n) (h : n ≤ N) : sumR (fun d => if d ∣ n then f d * (n / d : Nat) else 0) N = cs f n :=
  sumR_trunc h fun i hi _ => if_neg fun z => by
    have := Nat.le_of_dvd (by omega) z
    omega
theorem cs_congr {f g : Nat → Int} {n : Nat} (h : ∀ d, 1 ≤ d → d ∣ n → f d = g d) : cs f n = cs g n := sumR_congr fun i i1 _ => by
  by_cases z : i ∣ n
  · rw [if_pos z, if_pos z, h i i1 z]
  · rw [if_neg z, if_neg z]
theorem cs_mul (c : Int) (f : Nat → Int) (n : Nat) : cs (fun d => c * f d) n = c * cs f n := by
  unfold cs
  rw [← sumR_mul]
  refine sumR_congr fun i _ _ => ?_
  split
  · rw [Int.mul_assoc]
  · simp
theorem dvd_pm {p m d : Nat} (hp : Pr p) (hd : ¬ p ∣ d) (k : Nat) : d ∣ p ^ k * m ↔ d ∣ m := by
  have hc : Nat.Coprime d (p ^ k) := Nat.Coprime.pow_right _ (hp.coprime hd).symm
  exact ⟨fun z => hc.dvd_of_dvd_mul_left z, fun z => Nat.dvd_trans z (Nat.dvd_mul_left _ _)⟩
theorem cs_pow {p m : Nat} (f : Nat → Int) (hp : Pr p) (hm : ¬ p ∣ m) (m1 : 1 ≤ m) (e : Nat) : cs f (p ^ (e + 1) * m) = (p ^ (e + 1) : Nat) * cs f m + cs (fun d => f (p * d)) (p ^ e * m) := by
  have p2 := hp.1
  have n1 : p ^ (e + 1) * m = p * (p ^ e * m) := by rw [Nat.pow_succ, Nat.mul_comm (p ^ e) p, Nat.mul_assoc]
  have ml : m ≤ p ^ (e + 1) * m := Nat.le_mul_of_pos_left m (pe_pos hp)
  show sumR (fun d => if d ∣ p ^ (e + 1) * m then f d * (p ^ (e + 1) * m / d : Nat) else 0) (p ^ (e + 1) * m) = _
  rw [sumR_split (p := p) (by omega)]
  congr 1
  · rw [← cs_more m1 ml, ← sumR_mul]
    refine sumR_congr fun i i1 _ => ?_
    by_cases h : p ∣ i
    · rw [if_pos h, if_neg fun z => hm (Nat.dvd_trans h z), Int.mul_zero]
    · rw [if_neg h]
      by_cases g : i ∣ m
      · rw [if_pos g, if_pos ((dvd_pm hp h _).mpr g), Nat.mul_div_assoc _ g, Int.natCast_mul, Int.mul_left_comm]
      · rw [if_neg g, if_neg fun z => g ((dvd_pm hp h _).mp z), Int.mul_zero]
  · rw [n1, Nat.mul_div_cancel_left _ (by omega : 0 < p)]
    refine sumR_congr fun i _ _ => ?_
    rw [Nat.mul_div_mul_left _ _ (by omega : 0 < p)]
    by_cases g : i ∣ p ^ e * m
    · rw [if_pos g, if_pos (Nat.mul_dvd_mul_left p g)]
    · rw [if_neg g, if_neg fun z => g (Nat.dvd_of_mul_dvd_mul_left (by omega) z)]
theorem ph_mul {p j : Nat} (hp : Pr p) (h : ¬ p ∣ j) (h1 : 1 ≤ j) : phN (p * j) = ((p : Int) - 1) * phN j := by
  have := phN_pow hp h h1 0
  rw [Nat.pow_zero, Nat.one_mul, Nat.zero_add, Nat.pow_one] at this
  rw [this]
  congr 1
  have := hp.1
  omega
theorem ph_mul_dvd {p j : Nat} (hp : Pr p) (h : p ∣ j) (h1 : 1 ≤ j) : phN (p * j) = (p : Int) * phN j := by
  obtain ⟨e, t, rfl, ht, t0⟩ := strip_ex hp.1 j h1
  obtain ⟨f, rfl⟩ : ∃ f, e = f + 1 := by
    cases e with
    | zero =>
      rw [Nat.pow_zero, Nat.mul_one] at h
      exact (ht h).elim
    | succ f => exact ⟨f, rfl⟩
  have e1 : p * (t * p ^ (f + 1)) = p ^ (f + 1 + 1) * t := by rw [Nat.pow_succ p (f + 1), Nat.mul_comm t, Nat.mul_comm (p ^ (f + 1)) p, Nat.mul_assoc]
  rw [e1, Nat.mul_comm t, phN_pow hp ht t0, phN_pow hp ht t0, Nat.pow_succ, ← Int.mul_assoc, ← Int.natCast_mul]
  congr 2
  rw [Nat.mul_comm (p ^ f) p, Nat.mul_assoc]
theorem ph_twice {p j : Nat} (hp : Pr p) (h1 : 1 ≤ j) : phN (p * (p * j)) = (p : Int) * phN (p * j) := ph_mul_dvd hp (Nat.dvd_mul_right p j) (Nat.mul_pos (by have := hp.1; omega) h1)
/-- all divisors' share-free counts together -/
theorem gauss_pow {p m : Nat} (hp : Pr p) (hm : ¬ p ∣ m) (m1 : 1 ≤ m) (h : dsum phN m = m) : ∀ e : Nat, dsum (fun d => phN (p * d)) (p ^ e * m) = ((p ^ (e + 1) : Nat) - 1) * (m : Int)
  | 0 => by
    rw [Nat.pow_zero, Nat.one_mul, Nat.zero_add, Nat.pow_one, ← h, ← dsum_mul]
    refine sumR_congr fun i i1 _ => ?_
    by_cases z : i ∣ m
    · rw [if_pos z, if_pos z]
      exact ph_mul hp (fun y => hm (Nat.dvd_trans y z)) i1
    · rw [if_neg z, if_neg z]
  | e + 1 => by
    rw [dsum_pow _ hp hm m1 e]
    have a : dsum (fun d => phN (p * d)) m = ((p : Int) - 1) * m := by
      have := gauss_pow hp hm m1 h 0
      rw [Nat.pow_zero, Nat.one_mul, Nat.zero_add, Nat.pow_one] at this
      exact this
    have b : dsum (fun d => phN (p * (p * d))) (p ^ e * m) = (p : Int) * dsum (fun d => phN (p * d)) (p ^ e * m) := by
      rw [← dsum_mul]
      refine sumR_congr fun i i1 _ => ?_
      split
      · exact ph_twice hp i1
      · rfl
    rw [a, b, gauss_pow hp hm m1 h e, ← Int.mul_assoc, ← Int.add_mul]
    congr 1
    rw [Nat.pow_succ p (e + 1), Int.natCast_mul, Int.mul_sub, Int.mul_comm ((p ^ (e + 1) : Nat) : Int)]
    omega
theorem gauss_ok : ∀ {b : Nat} {L : List (Nat × Nat)}, FacOk b L → dsum phN (facP L) = facP L
  | _, [], _ => by
    show dsum phN 1 = 1
    decide
  | b, (p, e) :: r, ⟨h1, h2, h3, h4⟩ => by
    obtain ⟨f, rfl⟩ : ∃ f, e = f + 1 := ⟨e - 1, by omega⟩
    have ih := gauss_ok h4
    have nd := not_dvd_rest h2 h4
    have pos := FacOk.pos h4
    show dsum phN (p ^ (f + 1) * facP r) = (p ^ (f + 1) * facP r : Nat)
    rw [dsum_pow _ h2 nd pos f, gauss_pow h2 nd pos ih f, ih, Int.natCast_mul, Int.sub_mul]
    omega
theorem gauss {n : Nat} (h : 1 ≤ n) : dsum phN n = n := by
  obtain ⟨L, hL⟩ := fac_ex h
  rw [← hL.2]
  exact gauss_ok hL.1
def hN (n : Nat) : Int := cs phN n
/-- all shares of n together -/
theorem shares_sum {n : Nat} (h : 1 ≤ n) : sumR (fun k => (Nat.gcd n k : Nat)) n = hN n := by
  have a : ∀ k, 1 ≤ k → ((Nat.gcd n k : Nat) : Int) = sumR (fun d => (if d ∣ n then phN d else 0) * (if d ∣ k then 1 else 0)) n := fun k k1 => by
    have g1 : 1 ≤ Nat.gcd n k := Nat.gcd_pos_of_pos_left k h
    rw [← gauss g1, ← dsum_more g1 (Nat.gcd_le_left k h)]
    refine sumR_congr fun d _ _ => ?_
    by_cases x : d ∣ n
    · by_cases y : d ∣ k
      · rw [if_pos (Nat.dvd_gcd x y), if_pos x, if_pos y, Int.mul_one]
      · rw [if_neg fun z => y (Nat.dvd_trans z (Nat.gcd_dvd_right n k)), if_neg y, Int.mul_zero]
    · rw [if_neg fun z => x (Nat.dvd_trans z (Nat.gcd_dvd_left n k)), if_neg x, Int.zero_mul]
  rw [sumR_congr fun k k1 _ => a k k1, sumR_swap]
  refine sumR_congr fun d d1 _ => ?_
  rw [sumR_mul, mult_to d1]
  split
  · rfl
  · simp
theorem hK {p m : Nat} (hp : Pr p) (hm : ¬ p ∣ m) (m1 : 1 ≤ m) : ∀ e : Nat, cs (fun d => phN (p * d)) (p ^ e * m) = ((e + 1 : Nat) : Int) * ((p ^ e : Nat) * (((p : Int) - 1) * hN m))
  | 0 => by
    rw [Nat.pow_zero, Nat.one_mul]
    have : cs (fun d => phN (p * d)) m = ((p : Int) - 1) * hN m := by
      unfold hN
      rw [← cs_mul]
      exact cs_congr fun d d1 hd => ph_mul hp (fun y => hm (Nat.dvd_trans y hd)) d1
    rw [this]
    simp
  | e + 1 => by
    have a := hK hp hm m1 0
    rw [Nat.pow_zero, Nat.one_mul] at a
    have b : cs (fun d => phN (p * (p * d))) (p ^ e * m) = (p : Int) * cs (fun d => phN (p * d)) (p ^ e * m) := by
      rw [← cs_mul]
      exact cs_congr fun d d1 _ => ph_twice hp d1
    rw [cs_pow _ hp hm m1 e, a, b, hK hp hm m1 e]
    generalize ((p : Int) - 1) * hN m = x
    rw [show (((0 + 1 : Nat) : Int) * (((1 : Nat) : Int) * x)) = x by simp, Int.natCast_add (e + 1) 1, Int.add_mul, Nat.pow_succ, Int.natCast_mul, Int.mul_left_comm (p : Int), ← Int.mul_assoc (p : Int), Int.mul_comm (p : Int)]
    simp only [Int.natCast_one, Int.one_mul]
    omega
theorem h_pow {p m : Nat} (hp : Pr p) (hm : ¬ p ∣ m) (m1 : 1 ≤ m) (e : Nat) : hN (p ^ (e + 1) * m) = (p ^ e : Nat) * (((e + 2 : Nat) : Int) * p - (e + 1 : Nat)) * hN m := by
  unfold hN
  rw [cs_pow _ hp hm m1 e, hK hp hm m1 e]
  show _ * hN m + _ = _ * hN m
  generalize hN m = x
  rw [Nat.pow_succ, Int.natCast_mul, show ((e + 1 : Nat) : Int) * (((p ^ e : Nat) : Int) * (((p : Int) - 1) * x)) = ((p ^ e : Nat) : Int) * (((e + 1 : Nat) : Int) * ((p : Int) - 1)) * x by
    rw [Int.mul_left_comm, Int.mul_assoc, Int.mul_assoc], ← Int.add_mul, ← Int.mul_add]
  congr 2
  rw [Int.mul_sub, Int.mul_one, show ((e + 2 : Nat) : Int) = ((e + 1 : Nat) : Int) + 1 by omega, Int.add_mul]
  omega
def shL : List (Nat × Nat) → Nat
  | [] => 1
  | (p, e) :: r => p ^ (e - 1) * ((e + 1) * p - e) * shL r
theorem sh_ok : ∀ {b : Nat} {L : List (Nat × Nat)}, FacOk b L → ∀ {m : Nat}, 1 ≤ m → (∀ x ∈ L, ¬ x.1 ∣ m) → hN (facP L * m) = shL L * hN m
  | _, [], _, m, _, _ => by
    show hN (1 * m) = ((1 : Nat) : Int) * hN m
    rw [Nat.one_mul]
    simp
  | b, (p, e) :: r, ⟨h1, h2, h3, h4⟩, m, m1, hx => by
    obtain ⟨f, rfl⟩ : ∃ f, e = f + 1 := ⟨e - 1, by omega⟩
    have nd : ¬ p ∣ facP r * m := fun z => by
      rcases h2.mul z with z | z
      · exact not_dvd_rest h2 h4 z
      · exact hx (p, f + 1) List.mem_cons_self z
    show hN (p ^ (f + 1) * facP r * m) = (p ^ (f + 1 - 1) * ((f + 1 + 1) * p - (f + 1)) * shL r : Nat) * hN m
    rw [Nat.mul_assoc, h_pow h2 nd (Nat.mul_pos (FacOk.pos h4) m1) f, sh_ok h4 m1 fun x hm => hx x (List.mem_cons_of_mem _ hm), Nat.add_sub_cancel, ← Int.mul_assoc, Int.natCast_mul (p ^ f * ((f + 1 + 1) * p - (f + 1))), Int.natCast_mul (p ^ f)]
    congr 3
    have : f + 1 ≤ (f + 1 + 1) * p := Nat.le_trans (by omega) (Nat.le_mul_of_pos_right (f + 1 + 1) (by have := h2.1; omega))
    rw [Int.ofNat_sub this, Int.natCast_mul]
theorem h_one : hN 1 = 1 := by decide
theorem sh_fac {L : List (Nat × Nat)} {n : Nat} (h : FacOf L n) : hN n = shL L := by
  have := sh_ok h.1 (m := 1) (Nat.le_refl 1) fun x hx z => by
    have := Nat.le_of_dvd (by decide) z
    have := (h.1.mem hx).2.1.1
    omega
  rw [h_one, Nat.mul_one, h.2, Int.mul_one] at this
  exact this
/-- of numbers that share nothing: products -/
theorem h_coprime {a b : Nat} (ha : 1 ≤ a) (hb : 1 ≤ b) (h : Nat.gcd a b = 1) : hN (a * b) = hN a * hN b := by
  obtain ⟨L, hL⟩ := fac_ex ha
  rw [sh_fac hL, ← sh_ok hL.1 hb fun x hx z => ?_, hL.2]
  have ok := hL.1.mem hx
  have d1 : x.1 ∣ a := by
    rw [← hL.2]
    exact Nat.dvd_trans (dvd_pow_self ok.2.2) (by
      clear ok h hL z
      induction L with
      | nil => cases hx
      | cons y r ih =>
        obtain ⟨q, f⟩ := y
        rcases List.mem_cons.mp hx with w | w
        · rw [w]
          exact Nat.dvd_mul_right _ _
        · exact Nat.dvd_trans (ih w) (Nat.dvd_mul_left _ _))
  have d2 := Nat.dvd_gcd d1 z
  rw [h] at d2
  have := Nat.le_of_dvd (by decide) d2
  have := ok.2.1.1
  omega
/-- the other way round -/
theorem cs_turn (f : Nat → Int) {n : Nat} (h : 1 ≤ n) : cs f n = dsum (fun d => (d : Int) * f (n / d)) n := by
  have one : ∀ d, 1 ≤ d → d ∣ n → 1 ≤ n / d ∧ n / d ≤ n ∧ d * (n / d) = n := fun d d1 hd => ⟨Nat.div_pos (Nat.le_of_dvd h hd) d1, Nat.div_le_self _ _, Nat.mul_div_cancel' hd⟩
  have a : cs f n = sumR (fun d => sumR (fun e => if d * e = n then f d * e else 0) n) n := sumR_congr fun d d1 _ => by
    by_cases g : d ∣ n
    · obtain ⟨o1, o2, o3⟩ := one d d1 g
      rw [if_pos g, sumR_one (k := n / d) o1 o2 fun e _ _ he => if_neg fun z => he (Nat.eq_of_mul_eq_mul_left d1 (z.trans o3.symm)), if_pos o3]
    · rw [if_neg g, sumR_zero fun e _ _ => if_neg fun z => g ⟨e, z.symm⟩]
  rw [a, sumR_swap]
  refine sumR_congr fun e e1 _ => ?_
  by_cases g : e ∣ n
  · obtain ⟨o1, o2, o3⟩ := one e e1 g
    rw [if_pos g, sumR_one (k := n / e) o1 o2 fun d _ _ hd => if_neg fun z => hd (Nat.eq_of_mul_eq_mul_left e1 ((Nat.mul_comm e d).trans (z.trans o3.symm))), if_pos (by rw [Nat.mul_comm]; exact o3), Int.mul_comm]
  · rw [if_neg g, sumR_zero fun d _ _ => if_neg fun z => g ⟨d, by rw [Nat.mul_comm]; exact z.symm⟩]

end M
namespace M
/-! least primes -/
def IsLeast (i v : Nat) : Prop := Pr v ∧ v ∣ i ∧ ∀ d, 2 ≤ d → d ∣ i → v ≤ d
/-- numbers lowered to primes below k that go into them -/
def lpT : Nat → Nat → Nat
  | 0, i => i
  | k + 1, i => if Pr k ∧ k ∣ i ∧ 2 * k ≤ i then (if k < lpT k i then k else lpT k i) else lpT k i
theorem lpT_ok {i : Nat} (hi : 2 ≤ i) : ∀ k : Nat, lpT k i ∣ i ∧ 2 ≤ lpT k i ∧ ∀ q, q < k → Pr q → q ∣ i → lpT k i ≤ q
  | 0 => ⟨Nat.dvd_refl i, hi, fun q h => by omega⟩
  | k + 1 => by
    obtain ⟨h1, h2, h3⟩ := lpT_ok hi k
    rw [lpT]
    by_cases c : Pr k ∧ k ∣ i ∧ 2 * k ≤ i
    · rw [if_pos c]
      have k2 := c.1.1
      split
      · refine ⟨c.2.1, k2, fun q hq hp hd => ?_⟩
        by_cases e : q = k
        · omega
        · have := h3 q (by omega) hp hd
          omega
      · refine ⟨h1, h2, fun q hq hp hd => ?_⟩
        by_cases e : q = k
        · omega
        · exact h3 q (by omega) hp hd
    · rw [if_neg c]
      refine ⟨h1, h2, fun q hq hp hd => ?_⟩
      by_cases e : q = k
      · subst e
        have hlt : ¬ 2 * q ≤ i := fun z => c ⟨hp, hd, z⟩
        obtain ⟨t, rfl⟩ := hd
        have t1 : t = 1 := by
          rcases Nat.lt_or_ge t 2 with z | z
          · have : t ≠ 0 := by
              rintro rfl
              omega
            omega
          · have := Nat.mul_le_mul_left q z
            omega
        subst t1
        have := Nat.le_of_dvd (by omega) h1
        omega
      · exact h3 q (by omega) hp hd
theorem lpT_self {m : Nat} (h : 2 ≤ m) : lpT m m = m ↔ Pr m := by
  obtain ⟨h1, h2, h3⟩ := lpT_ok h m
  constructor
  · intro z
    refine Classical.byContradiction fun np => ?_
    obtain ⟨p, hp, hd, _, hl⟩ := not_pr_has h np
    have := h3 p hl hp hd
    omega
  · intro z
    rcases z.dvd h1 with e | e
    · omega
    · exact e
theorem lpT_least {i k : Nat} (h : 2 ≤ i) (hk : i < k) : IsLeast i (lpT k i) := by
  obtain ⟨h1, h2, h3⟩ := lpT_ok h k
  obtain ⟨p, hp, hd, _, hl⟩ := least_div h
  have a := h3 p (by have := Nat.le_of_dvd (by omega) hd; omega) hp hd
  have b := hl _ h2 h1
  have e : lpT k i = p := by omega
  rw [e]
  exact ⟨hp, hd, hl⟩
theorem lpT_le (i : Nat) : ∀ k : Nat, lpT k i ≤ i
  | 0 => Nat.le_refl i
  | k + 1 => by
    rw [lpT]
    have := lpT_le i k
    split
    · split <;> omega
    · exact this

end M
namespace M
open PySem PySem.Spec PyProof.Rows L2 G
section
variable {P : Program} {w : World} {K : PySem.W.Frag} {mg : Str → Option Value} {base : Heap}
/-! the law's own least primes and powers -/
def IsLp (n : Nat) (g : Nat → Nat) : Prop := (∀ i, 2 ≤ i → i ≤ n → IsLeast i (g i)) ∧ ∀ i, g i ≤ i
def Rows (H : Hp) (p : Addr) (L : List (Nat × Nat)) : Prop := ∃ ts : List Addr, H p = some (.lst (ts.map V.ref)) ∧ ts.length = L.length ∧ ∀ (i : Nat) (t : Addr), ts[i]? = some t → ∃ x, L[i]? = some x ∧ H t = some (.tup [.int (x.1 : Int), .int (x.2 : Int)])
theorem Rows.same {H H' : Hp} {p : Addr} {L : List (Nat × Nat)} (h : Rows H p L) (s : Same H H') : Rows H' p L := by
  obtain ⟨ts, h1, h2, h3⟩ := h
  refine ⟨ts, s _ _ h1, h2, fun i t e => ?_⟩
  obtain ⟨x, e1, e2⟩ := h3 i t e
  exact ⟨x, e1, s _ _ e2⟩
theorem row_one {N : Addr → Prop} {H : Hp} {v : V} {x : Nat × Nat} (h : Rp N H v (powD x)) : ∃ t, v = V.ref t ∧ H t = some (.tup [.int (x.1 : Int), .int (x.2 : Int)]) := by
  cases h with
  | tup _ e r =>
    cases r with
    | cons a b =>
      cases a
      cases b with
      | cons c d =>
        cases c
        cases d
        exact ⟨_, rfl, e⟩
theorem rows_all {N : Addr → Prop} {H : Hp} : ∀ {L : List (Nat × Nat)} {vs : List V}, RpA N H vs (L.map powD) → ∃ ts : List Addr, vs = ts.map V.ref ∧ ts.length = L.length ∧ ∀ (i : Nat) (t : Addr), ts[i]? = some t → ∃ x, L[i]? = some x ∧ H t = some (.tup [.int (x.1 : Int), .int (x.2 : Int)])
  | [], _, h => by
    cases h
    exact ⟨[], rfl, rfl, fun i t e => by simp at e⟩
  | x :: L, _, h => by
    cases h with
    | cons h1 h2 =>
      obtain ⟨ts, rfl, hl, hi⟩ := rows_all h2
      obtain ⟨t, rfl, et⟩ := row_one h1
      refine ⟨t :: ts, rfl, by rw [List.length_cons, List.length_cons, hl], fun i u e => ?_⟩
      cases i with
      | zero =>
        cases e
        exact ⟨x, rfl, et⟩
      | succ i => exact hi i u e
theorem rows_of {N : Addr → Prop} {H : Hp} {p : Addr} {L : List (Nat × Nat)} (h : Rp N H (.ref p) (.list (L.map powD))) : Rows H p L := by
  cases h with
  | lst _ e r =>
    obtain ⟨ts, rfl, hl, hi⟩ := rows_all r
    exact ⟨ts, e, hl, hi⟩
end
end M
namespace M
open PySem PySem.Spec PyProof.Rows L2 G
section
variable {P : Program} {w : World} {K : PySem.W.Frag} {mg : Str → Option Value} {base : Heap}
/-! numbers of entries -/
def sp_want_some (_ : PySem.W.Frag) : Sp := spec1 fun x H Q _ => ∃ n : Nat, x = .int n ∧ 1 ≤ n ∧ n ≤ 20000 ∧ Q .non H
theorem nsV_len (l : List Nat) : (nsV l).length = l.length := by unfold nsV; rw [List.length_map]
theorem nsV_at {l : List Nat} {i : Nat} {x : V} (h : (nsV l)[i]? = some x) : ∃ p, l[i]? = some p ∧ x = V.int (p : Int) := by
  unfold nsV at h
  rw [List.getElem?_map] at h
  obtain ⟨p, hp, rfl⟩ := Option.map_eq_some_iff.mp h
  exact ⟨p, hp, rfl⟩

end
end M
namespace M
open PySem PySem.Spec PyProof.Rows L2 G
section
variable {P : Program} {w : World} {K : PySem.W.Frag} {mg : Str → Option Value} {base : Heap}
/-! signs by a sieve with marks -/
def plainB (m i : Nat) : Bool := decide (∀ q, q < m → Pr q → q ≤ i → q ∣ i → q = i)
theorem plainB_two (i : Nat) : plainB 2 i = true := decide_eq_true fun q h1 h2 _ _ => by
  have := h2.1
  omega
theorem plainB_self {m : Nat} (h : 2 ≤ m) : plainB m m = decide (Pr m) := decide_eq_decide.mpr ⟨fun z => Classical.byContradiction fun np => by
    obtain ⟨p, hp, hd, _, hl⟩ := not_pr_has h np
    have := z p hl hp (by omega) hd
    omega, fun z q h1 h2 _ h4 => h2.eq_of_dvd z h4⟩
theorem plainB_next_not {m i : Nat} (h : ¬ Pr m) : plainB (m + 1) i = plainB m i := decide_eq_decide.mpr ⟨fun z q h1 => z q (by omega), fun z q h1 h2 => by
    rcases Nat.lt_succ_iff_lt_or_eq.mp h1 with h3 | h3
    · exact z q h3 h2
    · rw [h3] at h2
      exact (h h2).elim⟩
theorem plainB_next {m i : Nat} (h : Pr m) : plainB (m + 1) i = if m ∣ i ∧ m ≤ i then decide (i = m) else plainB m i := by
  split
  · rename_i a
    refine decide_eq_decide.mpr ⟨fun z => (z m (by omega) h a.2 a.1).symm, fun z q h1 h2 h3 h4 => ?_⟩
    rw [z] at h4 ⊢
    exact h2.eq_of_dvd h h4
  · rename_i a
    refine decide_eq_decide.mpr ⟨fun z q h1 => z q (by omega), fun z q h1 h2 h3 h4 => ?_⟩
    rcases Nat.lt_succ_iff_lt_or_eq.mp h1 with h5 | h5
    · exact z q h5 h2 h3 h4
    · rw [h5] at h3 h4
      exact (a ⟨h4, h3⟩).elim
/-- the sign, 0 at 0 -/
def muT (k i : Nat) : Int := if i = 0 then 0 else muL (primesTo k) i
def muZ (i : Nat) : Int := if i = 0 then 0 else mu i
theorem muT_one {i : Nat} (h : i ≠ 0) : muT 1 i = 1 := by
  unfold muT
  rw [if_neg h, primesTo_one]
  rfl
theorem muT_next {m i : Nat} (h : Pr (m + 1)) : muT (m + 1) i = if (m + 1) * (m + 1) ∣ i ∧ (m + 1) * (m + 1) ≤ i then 0 else if m + 1 ∣ i ∧ m + 1 ≤ i then 0 - muT m i else muT m i := by
  unfold muT
  by_cases e : i = 0
  · subst e
    have : ¬ (m + 1) * (m + 1) ≤ 0 := by
      have := Nat.mul_pos (show 0 < m + 1 by omega) (show 0 < m + 1 by omega)
      omega
    rw [if_pos rfl, if_neg (fun z => this z.2), if_neg (fun z => by omega), if_pos rfl]
  · rw [if_neg e, if_neg e, muL_succ, if_pos h]
    unfold mstep
    by_cases a : (m + 1) * (m + 1) ∣ i
    · rw [if_pos a, if_pos ⟨a, Nat.le_of_dvd (by omega) a⟩]
    · rw [if_neg a, if_neg (show ¬ ((m + 1) * (m + 1) ∣ i ∧ (m + 1) * (m + 1) ≤ i) from fun z => a z.1)]
      by_cases b : m + 1 ∣ i
      · rw [if_pos b, if_pos ⟨b, Nat.le_of_dvd (by omega) b⟩]
      · rw [if_neg b, if_neg (show ¬ (m + 1 ∣ i ∧ m + 1 ≤ i) from fun z => b z.1)]
theorem muT_next_not {m i : Nat} (h : ¬ Pr (m + 1)) : muT (m + 1) i = muT m i := by
  unfold muT
  rw [muL_succ, if_neg h]
theorem muT_done {n i : Nat} (h : i ≤ n) : muT n i = muZ i := by
  unfold muT muZ
  split
  · rfl
  · exact muL_ge (by omega) h
def sp_signs_to (_ : PySem.W.Frag) : Sp := spec1 fun x H Q _ => ∃ n : Nat, x = .int n ∧ 1 ≤ n ∧ n ≤ 1000000 ∧ ∀ p H', Same H H' → H p = none → H' p = some (.lst ((List.range (n + 1)).map fun i => V.int (muZ i))) → Q (.ref p) H'
end
end M
namespace M
open PySem PySem.Spec PyProof.Rows L2 G
section
variable {P : Program} {w : World} {K : PySem.W.Frag} {mg : Str → Option Value} {base : Heap}
/-! shares, share-free counts -/
theorem gcd_turn {a b : Nat} : Nat.gcd a b = Nat.gcd b (a % b) := by
  rw [Nat.gcd_comm a b, Nat.gcd_rec b a, Nat.gcd_comm]
def sp_share_of (_ : PySem.W.Frag) : Sp := spec2 fun x y H Q _ => ∃ a b : Nat, x = .int a ∧ y = .int b ∧ a ≤ 1000000000000 ∧ b ≤ 1000000000000 ∧ Q (.int (Nat.gcd a b : Nat)) H
def sp__law_share (_ : PySem.W.Frag) : Sp := spec2 fun x y H Q _ => ∃ a b : Nat, x = .int a ∧ y = .int b ∧ a ≤ 1000000000000 ∧ b ≤ 1000000000000 ∧ Q (.int (Nat.gcd a b : Nat)) H
theorem ok_share_of {af : Addr} {fd : FuncData} (F : FunD K "share_of" "share_of" (defArgs s_share_of) (defBody s_share_of) (defScope s_share_of) [] [] af fd) (B : Bt mg)  : FnG P w K mg base CX0 1 af fd ["near", "far"] (sp_share_of K) := by
  refine okG F sc_share_of ar2 fun cdv A outer s H vs Q E hg hr h => ?_
  refine ⟨_, PSs.nox (pss_cons (ps_par (i := 2) (j := 3) (by rfl) sc_share_of.nd rfl rfl (by decide) rfl rfl (pa_cons (pe_callB call_abs (by rfl) B.abs (by decide +kernel) (pa_cons (pv 0) pa_nil)) (pa_cons (pe_callB call_abs (by rfl) B.abs (by decide +kernel) (pa_cons (pv 1) pa_nil)) pa_nil)) (by rfl))
    (pss_cons (ps_while PassesOwn.never (pt_cmpR op_gt (pv 3) pe_int (nomark _))
      (pss_one (ps_par (i := 2) (j := 3) (by rfl) sc_share_of.nd rfl rfl (by decide) rfl rfl (pa_cons (pv 3) (pa_cons (pe_op op_mod (pv 2) (pv 3)) pa_nil)) (by rfl))))
    (pss_one (ps_ret (pv 2))))), ?_⟩
  obtain ⟨_, _, rfl, a, b, rfl, rfl, h1, h2, q⟩ := h
  refine ⟨_, rfl, _, rfl, _, rfl, _, rfl, _, _, rfl, ?_⟩
  dsimp only []
  rw [if_neg (show ¬ (a : Int) < 0 by omega), if_neg (show ¬ (b : Int) < 0 by omega)]
  refine ⟨fun m σ H' => ∃ c d : Nat, σ = [some (.int (a : Int)), some (.int (b : Int)), some (.int (c : Int)), some (.int (d : Int))] ∧ H' = H ∧ Nat.gcd c d = Nat.gcd a b ∧ d = m, ⟨_, a, b, rfl, rfl, rfl, rfl⟩, fun m σ H' hW => ?_⟩
  obtain ⟨c, d, rfl, rfl, hg', rfl⟩ := hW
  refine ⟨_, rfl, _, _, rfl, rfl, _, rfl, ite2 (fun hc => ?_) (fun hc => ?_)⟩
  · have d0 : 0 < d := by
      have : (0 : Int) < (d : Int) := of_decide_eq_true hc
      omega
    have lt := Nat.mod_lt c d0
    exact ⟨_, fun _ _ z => z, _, rfl, _, rfl, _, rfl, _, _, rfl, rfl, (show (0 : Int) < (d : Int) by omega), _, _, rfl, c % d, by omega, d, c % d, rfl, rfl, gcd_turn.symm.trans hg', rfl⟩
  · have d0 : d = 0 := by
      have : ¬ (0 : Int) < (d : Int) := fun z => hc (decide_eq_true z)
      omega
    subst d0
    rw [Nat.gcd_zero_right] at hg'
    rw [← hg'] at q
    exact ⟨_, rfl, q⟩
theorem ok__law_share {af : Addr} {fd : FuncData} (F : FunD K "_law_share" "_law_share" (defArgs s__law_share) (defBody s__law_share) (defScope s__law_share) [] [] af fd) (B : Bt mg)  : FnG P w K mg base CX0 1 af fd ["near", "far"] (sp__law_share K) := by
  refine okG F sc__law_share ar2 fun cdv A outer s H vs Q E hg hr h => ?_
  refine ⟨_, PSs.nox (pss_cons (ps_par (i := 2) (j := 3) (by rfl) sc__law_share.nd rfl rfl (by decide) rfl rfl (pa_cons (pv 0) (pa_cons (pv 1) pa_nil)) (by rfl))
    (pss_cons (ps_while PassesOwn.never (pt_cmpR op_gt (pv 3) pe_int (nomark _))
      (pss_one (ps_par (i := 2) (j := 3) (by rfl) sc__law_share.nd rfl rfl (by decide) rfl rfl (pa_cons (pv 3) (pa_cons (pe_callTy call_int1 (by rfl) B.int (by decide +kernel) (pa_cons (pe_op op_mod (pv 2) (pv 3)) pa_nil)) pa_nil)) (by rfl))))
    (pss_one (ps_ret (pv 2))))), ?_⟩
  obtain ⟨_, _, rfl, a, b, rfl, rfl, h1, h2, q⟩ := h
  refine ⟨_, rfl, _, rfl, _, _, rfl, ?_⟩
  refine ⟨fun m σ H' => ∃ c d : Nat, σ = [some (.int (a : Int)), some (.int (b : Int)), some (.int (c : Int)), some (.int (d : Int))] ∧ H' = H ∧ Nat.gcd c d = Nat.gcd a b ∧ d = m, ⟨_, a, b, rfl, rfl, rfl, rfl⟩, fun m σ H' hW => ?_⟩
  obtain ⟨c, d, rfl, rfl, hg', rfl⟩ := hW
  refine ⟨_, rfl, _, _, rfl, rfl, _, rfl, ite2 (fun hc => ?_) (fun hc => ?_)⟩
  · have d0 : 0 < d := by
      have : (0 : Int) < (d : Int) := of_decide_eq_true hc
      omega
    have lt := Nat.mod_lt c d0
    exact ⟨_, fun _ _ z => z, _, rfl, _, rfl, _, rfl, _, _, rfl, rfl, (show (0 : Int) < (d : Int) by omega), .inl ⟨_, rfl, _, _, rfl, c % d, by omega, d, c % d, rfl, rfl, gcd_turn.symm.trans hg', rfl⟩⟩
  · have d0 : d = 0 := by
      have : ¬ (0 : Int) < (d : Int) := fun z => hc (decide_eq_true z)
      omega
    subst d0
    rw [Nat.gcd_zero_right] at hg'
    rw [← hg'] at q
    exact ⟨_, rfl, q⟩
def sp_share (_ : PySem.W.Frag) : Sp := spec2 fun x y H Q _ => ∃ a b : Nat, x = .int a ∧ y = .int b ∧ 1 ≤ a ∧ 1 ≤ b ∧ a ≤ 1000000000000 ∧ b ≤ 1000000000000 ∧ Q (.int (Nat.gcd a b : Nat)) H
def sp_power_of (_ : PySem.W.Frag) : Sp := spec2 fun x y H Q _ => ∃ p e : Nat, x = .int p ∧ y = .int e ∧ p ≤ 1000000000000 ∧ e ≤ 1000000 ∧ Q (.int (p ^ e : Nat)) H
theorem shL_snoc (L : List (Nat × Nat)) (p e : Nat) : shL (L ++ [(p, e)]) = shL L * p ^ (e - 1) * ((e + 1) * p - e) := by
  induction L with
  | nil => simp [shL]
  | cons x r ih =>
    obtain ⟨a, b⟩ := x
    rw [List.cons_append, shL, shL, ih, Nat.mul_assoc, Nat.mul_assoc, Nat.mul_assoc, Nat.mul_assoc, Nat.mul_assoc]
theorem phL_snoc (L : List (Nat × Nat)) (p e : Nat) : phL (L ++ [(p, e)]) = phL L * (p ^ (e - 1) * (p - 1)) := by
  induction L with
  | nil => simp [phL]
  | cons x r ih =>
    obtain ⟨a, b⟩ := x
    rw [List.cons_append, phL, phL, ih, ← Nat.mul_assoc]
theorem mem_pow' : ∀ (L : List (Nat × Nat)) {p e : Nat}, (p, e) ∈ L → p ^ e ∣ facP L
  | [], _, _, h => by cases h
  | (a, f) :: r, p, e, h => by
    rcases List.mem_cons.mp h with z | z
    · cases z
      exact Nat.dvd_mul_right _ _
    · exact Nat.dvd_trans (mem_pow' r z) (Nat.dvd_mul_left _ _)
/-- what a row of powers is bounded by -/
theorem row_b {L : List (Nat × Nat)} {n p e : Nat} (hL : FacOf L n) (hn : n ≤ 1000000000000) (h : (p, e) ∈ L) : 2 ≤ p ∧ 1 ≤ e ∧ e ≤ 40 ∧ p ≤ 1000000000000 ∧ p ^ (e - 1) ≤ 1000000000000 := by
  obtain ⟨_, pp, m1⟩ := hL.1.mem h
  have p2 := pp.1
  have n1 : 0 < n := by rw [← hL.2]; exact FacOk.pos hL.1
  have d := mem_pow' L h
  rw [hL.2] at d
  have pn := Nat.le_of_dvd n1 d
  have a : p ^ 1 ≤ p ^ e := Nat.pow_le_pow_right (by omega) m1
  have b : p ^ (e - 1) ≤ p ^ e := Nat.pow_le_pow_right (by omega) (by omega)
  have c : 2 ^ e ≤ p ^ e := Nat.pow_le_pow_left p2 e
  refine ⟨p2, m1, ?_, by rw [Nat.pow_one] at a; omega, by omega⟩
  refine Classical.byContradiction fun z => ?_
  have : 2 ^ 41 ≤ 2 ^ e := Nat.pow_le_pow_right (by decide) (by omega)
  have : (1000000000000 : Nat) < 2 ^ 41 := by decide
  omega
def sp_shares_at (_ : PySem.W.Frag) : Sp := spec1 fun x H Q _ => ∃ n : Nat, x = .int n ∧ 1 ≤ n ∧ n ≤ 1000000000000 ∧ ∀ H', Same H H' → Q (.int (hN n)) H'
def sp_share_sum (_ : PySem.W.Frag) : Sp := spec1 fun x H Q _ => ∃ n : Nat, x = .int n ∧ 1 ≤ n ∧ n ≤ 1000000000000 ∧ ∀ H', Same H H' → Q (.int (hN n)) H'
end
end M
namespace M
open PySem PySem.Spec PyProof.Rows L2 G
section
variable {P : Program} {w : World} {K : PySem.W.Frag} {mg : Str → Option Value} {base : Heap}
/-! share-free counts, by powers, by sieves; couples -/
theorem facP_drop {L : List (Nat × Nat)} {i p e : Nat} (h : L[i]? = some (p, e)) : facP (L.drop i) = p ^ e * facP (L.drop (i + 1)) := by
  obtain ⟨hl, hx⟩ := List.getElem?_eq_some_iff.mp h
  rw [List.drop_eq_getElem_cons hl, hx]
  rfl
def sp_free_count (_ : PySem.W.Frag) : Sp := spec1 fun x H Q _ => ∃ n : Nat, x = .int n ∧ 1 ≤ n ∧ n ≤ 1000000 ∧ ∀ H', Same H H' → Q (.int (phN n)) H'
theorem ok_free_count {af : Addr} {fd : FuncData} (F : FunD K "free_count" "free_count" (defArgs s_free_count) (defBody s_free_count) (defScope s_free_count) [] [] af fd) (B : Bt mg) (C_powers_of : Cl P w K mg base 1 "powers_of" 1 [] (sp_powers_of K)) : FnG P w K mg base CX0 2 af fd ["number"] (sp_free_count K) := by
  refine okG F sc_free_count ar1 fun cdv A outer s H vs Q E hg hr h => ?_
  refine ⟨_, PSs.nox (pss_cons (ps_set (i := 1) sc_free_count.nd rfl (.inl rfl) (pv 0))
    (pss_cons (ps_for PassesOwn.never rfl ((pi_list (pe_cl C_powers_of hg hr (by decide) rfl (pa_cons (pv 0) pa_nil)))) (pg_tup rfl (pgs_cons (pg_name (i := 2) sc_free_count.nd rfl (.inl rfl)) (pgs_cons (pg_name (i := 3) sc_free_count.nd rfl (.inl rfl)) pgs_nil)))
      (pss_one (ps_set (i := 1) sc_free_count.nd rfl (.inl rfl) (pe_op op_mul (pe_op op_fdivW (pv 1) (pv 2)) (pe_op op_sub (pv 2) pe_int)))))
    (pss_one (ps_ret (pv 1))))), ?_⟩
  obtain ⟨_, rfl, n, rfl, h1, h2, q⟩ := h
  refine ⟨_, rfl, _, rfl, _, rfl, n, rfl, h1, by omega, fun L p H1 hL s1 rp => ?_⟩
  obtain ⟨ts, e, hl2, hi⟩ := rows_of rp
  refine ⟨p, rfl, ⟨_, SqL.of e⟩, for_list (K := K) (a := p) (xs := ts.map V.ref) (fun i σ H' => ∃ y2 y3 : Option V, σ = [some (.int n), some (.int (phL (L.take i) * facP (L.drop i) : Nat)), y2, y3] ∧ H' = H1) ⟨none, none, by rw [List.take_zero, List.drop_zero, hL.2]; show _ = [_, some (V.int ((1 * n : Nat) : Int)), _, _]; rw [Nat.one_mul]; rfl, rfl⟩ (fun i σ H' _ ⟨_, _, _, z⟩ => by rw [z]; exact SqL.of e) ?_ ?_⟩
  · rintro i v σ H3 hv ⟨y2, y3, rfl, rfl⟩
    rw [List.getElem?_map] at hv
    obtain ⟨t, ht, rfl⟩ := Option.map_eq_some_iff.mp hv
    obtain ⟨x, hx, et⟩ := hi i t ht
    obtain ⟨pr, many⟩ := x
    obtain ⟨b1, b2, b3, b4, b5⟩ := row_b hL (by omega) (List.mem_of_getElem? hx)
    have tk : L.take (i + 1) = L.take i ++ [(pr, many)] := by
      rw [List.take_add_one, hx]
      rfl
    obtain ⟨f, rfl⟩ : ∃ f, many = f + 1 := ⟨many - 1, by omega⟩
    have e2 : ((phL (L.take i) * facP (L.drop i) : Nat) : Int) / (pr : Int) = (phL (L.take i) * (pr ^ f * facP (L.drop (i + 1))) : Nat) := by
      rw [facP_drop hx, Nat.pow_succ, Nat.mul_comm (pr ^ f) pr, Nat.mul_assoc pr, Nat.mul_left_comm, Int.natCast_mul, Int.mul_ediv_cancel_left _ (by omega)]
    refine ⟨t, _, rfl, SqT.of et, rfl, _, _, rfl, _, _, rfl, rfl, _, rfl, _, rfl, _, _, rfl, rfl, divw (by omega) (by omega), _, rfl, _, _, rfl, rfl, _, _, rfl, rfl, mulc' ⟨by omega, by omega⟩, some (.int (pr : Int)), some (.int ((f + 1 : Nat) : Int)), ?_, rfl⟩
    show [some (V.int n), some (V.int (((phL (L.take i) * facP (L.drop i) : Nat) : Int) / (pr : Int) * ((pr : Int) - 1))), _, _] = _
    rw [e2, tk, phL_snoc, Nat.add_sub_cancel, show (pr : Int) - 1 = ((pr - 1 : Nat) : Int) by omega, ← Int.natCast_mul]
    congr 5
    rw [Nat.mul_assoc, Nat.mul_assoc, Nat.mul_assoc, Nat.mul_comm (facP (L.drop (i + 1))), Nat.mul_assoc (pr ^ f) (pr - 1)]
  · rintro σ H3 ⟨y2, y3, rfl, rfl⟩
    rw [List.length_map, hl2, List.take_length, List.drop_length]
    refine ⟨_, rfl, ?_⟩
    have := q H3 s1
    rw [ph_fac hL] at this
    show Q (.int ((phL L * 1 : Nat) : Int)) H3
    rw [Nat.mul_one]
    exact this
def sp_share_free (_ : PySem.W.Frag) : Sp := spec1 fun x H Q _ => ∃ n : Nat, x = .int n ∧ 1 ≤ n ∧ n ≤ 1000000 ∧ ∀ H', Same H H' → Q (.int (phN n)) H'
theorem ok_share_free {af : Addr} {fd : FuncData} (F : FunD K "share_free" "share_free" (defArgs s_share_free) (defBody s_share_free) (defScope s_share_free) [] [] af fd) (B : Bt mg) (C_free_count : Cl P w K mg base 2 "free_count" 1 [] (sp_free_count K)) (C_is_number_of : Cl P w K mg base 2 "is_number_of" 2 [] (sp_is_number_of K)) {t_GREATEST_IN : Tok} (c_GREATEST_IN : mg "GREATEST_IN" = some (.int 1000000 t_GREATEST_IN)) : FnG P w K mg base CX0 3 af fd ["number"] (sp_share_free K) := by
  refine okG F sc_share_free ar1 fun cdv A outer s H vs Q E hg hr h => ?_
  refine ⟨_, PSs.nox (pss_cons (ps_if (pt_not (pt_val (pe_cl C_is_number_of hg hr (by decide) rfl (pa_cons (pv 0) (pa_cons (pe_glob (v := .int 1000000) rfl c_GREATEST_IN ⟨_, rfl⟩) pa_nil)))))
      (pss_one ps_never)
      pss_nil)
    (pss_one (ps_ret (pe_cl C_free_count hg hr (by decide) rfl (pa_cons (pv 0) pa_nil))))), ?_⟩
  obtain ⟨_, rfl, n, rfl, h1, h2, q⟩ := h
  exact ⟨_, rfl, _, _, rfl, n, _, rfl, rfl, by omega, by omega, true, rfl, iteF ⟨_, rfl, _, rfl, n, rfl, h1, h2, q⟩⟩
/-- a sieve's value -/
noncomputable def facsN (n : Nat) : List (Nat × Nat) := if h : 0 < n then Classical.choose (fac_ex h) else []
theorem facsN_ok {n : Nat} (h : 0 < n) : FacOf (facsN n) n := by
  unfold facsN
  rw [dif_pos h]
  exact Classical.choose_spec (fac_ex h)
noncomputable def frN (ps : List Nat) (n : Nat) : Nat := mixL (fun q => decide (q ∈ ps)) (facsN n)
theorem frN_nil {n : Nat} (h : 0 < n) : frN [] n = n := by
  unfold frN
  rw [mixL_congr (T := fun _ => false) fun x _ => by simp, mixL_none, (facsN_ok h).2]
theorem frN_snoc {ps : List Nat} {p n : Nat} (h : 0 < n) (hp : Pr p) (hn : p ∉ ps) : frN (ps ++ [p]) n = if p ∣ n then frN ps n / p * (p - 1) else frN ps n := by
  have := mixL_step (S := fun q => decide (q ∈ ps)) hp (decide_eq_false hn) (facsN_ok h).1
  rw [(facsN_ok h).2] at this
  unfold frN
  rw [← this]
  refine mixL_congr fun x _ => ?_
  rw [Bool.eq_iff_iff]
  simp
theorem frN_all {ps : List Nat} {n : Nat} (h : 0 < n) (hp : ∀ p, Pr p → p ≤ n → p ∈ ps) : (frN ps n : Int) = phN n := by
  have ok := facsN_ok h
  have key : ∀ x ∈ facsN n, x.1 ≤ n := fun x hx => by
    have d := mem_pow' _ (p := x.1) (e := x.2) hx
    rw [ok.2] at d
    exact Nat.le_of_dvd h (Nat.dvd_trans (dvd_pow_self (ok.1.mem hx).2.2) d)
  rw [ph_fac ok]
  unfold frN
  rw [mixL_all fun x hx => decide_eq_true (hp x.1 (ok.1.mem hx).2.1 (key x hx))]
theorem frN_le {ps : List Nat} {n : Nat} (h : 0 < n) : frN ps n ≤ n := by
  have ok := facsN_ok h
  unfold frN
  have : ∀ {b : Nat} {L : List (Nat × Nat)}, FacOk b L → mixL (fun q => decide (q ∈ ps)) L ≤ facP L := by
    intro b L
    induction L generalizing b with
    | nil => exact fun _ => Nat.le_refl 1
    | cons x r ih =>
      obtain ⟨p, e⟩ := x
      rintro ⟨h1, h2, h3, h4⟩
      refine Nat.mul_le_mul ?_ (ih h4)
      split
      · obtain ⟨f, rfl⟩ : ∃ f, e = f + 1 := ⟨e - 1, by omega⟩
        rw [Nat.add_sub_cancel, Nat.pow_succ]
        exact Nat.mul_le_mul_left _ (Nat.sub_le _ _)
      · exact Nat.le_refl _
  have := this ok.1
  rw [ok.2] at this
  exact this
theorem primesTo_nd (n : Nat) : (primesTo n).Nodup := (List.nodup_range).filter _
def sp_frees_of (_ : PySem.W.Frag) : Sp := spec1 fun x H Q _ => ∃ n : Nat, x = .int n ∧ 1 ≤ n ∧ n ≤ 20000 ∧ ∀ p H', Same H H' → H p = none → H' p = some (.lst ((List.range n).map fun i => V.int (phN (i + 1)))) → Q (.ref p) H'
def sp_share_frees (_ : PySem.W.Frag) : Sp := spec1 fun x H Q _ => ∃ n : Nat, x = .int n ∧ 1 ≤ n ∧ n ≤ 20000 ∧ ∀ p H', Same H H' → H p = none → H' p = some (.lst ((List.range n).map fun i => V.int (phN (i + 1)))) → Q (.ref p) H'
def copN (n : Nat) : Int := 2 * sumR phN n - 1
def sp_couples_to (_ : PySem.W.Frag) : Sp := spec1 fun x H Q _ => ∃ n : Nat, x = .int n ∧ 1 ≤ n ∧ n ≤ 1000000 ∧ ∀ H', Same H H' → Q (.int (copN n)) H'
def sp_free_couples (_ : PySem.W.Frag) : Sp := spec1 fun x H Q _ => ∃ n : Nat, x = .int n ∧ 1 ≤ n ∧ n ≤ 1000000 ∧ ∀ H', Same H H' → Q (.int (copN n)) H'
def sp_share_free_sum (_ : PySem.W.Frag) : Sp := spec1 fun x H Q _ => ∃ n : Nat, x = .int n ∧ 1 ≤ n ∧ n ≤ 1000000 ∧ ∀ H', Same H H' → Q (.int (sumR phN n)) H'
end
end M
namespace M
open PySem PySem.Spec PyProof.Rows L2 G
section
variable {P : Program} {w : World} {K : PySem.W.Frag} {mg : Str → Option Value} {base : Heap}
/-! the divisors by the powers, all sums over them -/
def DivL (ns : List Int) (n : Nat) : Prop := (∀ F : Int → Int, (ns.map F).sum = dsum (fun d => F (d : Int)) n) ∧ ∀ x ∈ ns, ∃ d : Nat, x = (d : Int) ∧ d ∣ n
def gsum (f : Nat → Int) (p m j : Nat) : Int := ((List.range j).map fun t => dsum (fun d => f (p ^ t * d)) m).sum
theorem gsum_all {p m : Nat} (hp : Pr p) (hm : ¬ p ∣ m) (m1 : 1 ≤ m) : ∀ (e : Nat) (f : Nat → Int), gsum f p m (e + 1) = dsum f (p ^ e * m)
  | 0, f => by
    unfold gsum
    simp
  | e + 1, f => by
    rw [dsum_pow f hp hm m1 e, ← gsum_all hp hm m1 e]
    unfold gsum
    rw [List.range_succ_eq_map, List.map_cons, List.sum_cons, List.map_map]
    congr 1
    · refine sumR_congr fun i _ _ => ?_
      simp
    · refine congrArg List.sum (List.map_congr_left fun t _ => ?_)
      refine sumR_congr fun i _ _ => ?_
      show (if i ∣ m then f (p ^ (t + 1) * i) else 0) = if i ∣ m then f (p * (p ^ t * i)) else 0
      rw [Nat.pow_succ, Nat.mul_comm (p ^ t) p, Nat.mul_assoc]
theorem len_sum (ns : List Int) : (ns.map fun _ => (1 : Int)).sum = ns.length := by
  induction ns with
  | nil => rfl
  | cons x r ih => rw [List.map_cons, List.sum_cons, ih, List.length_cons]; omega
theorem facP_app (L M : List (Nat × Nat)) : facP (L ++ M) = facP L * facP M := by
  induction L with
  | nil => simp [facP]
  | cons x r ih =>
    obtain ⟨p, e⟩ := x
    rw [List.cons_append, facP, facP, ih, Nat.mul_assoc]
theorem DivL.len {ns : List Int} {n : Nat} (h : DivL ns n) : (ns.length : Int) = tauN n := by
  rw [← len_sum]
  exact h.1 _
theorem tau_2n {n : Nat} (h : 1 ≤ n) : tauN n ≤ 2 * n := by
  refine tau_le h ?_
  have := Nat.le_mul_of_pos_left (n + 1) (show 0 < n + 1 by omega)
  omega
theorem sum_perm {a b : List Int} (h : a.Perm b) : a.sum = b.sum := by
  induction h with
  | nil => rfl
  | cons x _ ih => rw [List.sum_cons, List.sum_cons, ih]
  | swap x y l => simp only [List.sum_cons]; omega
  | trans _ _ h1 h2 => exact h1.trans h2
theorem FacOk.take_nd {b : Nat} {L : List (Nat × Nat)} (h : FacOk b L) : ∀ {i p e : Nat}, L[i]? = some (p, e) → FacOk b (L.take i) ∧ ∀ x ∈ L.take i, x.1 < p := by
  intro i p e hx
  induction L generalizing b i with
  | nil => simp at hx
  | cons y r ih =>
    obtain ⟨q, f⟩ := y
    obtain ⟨h1, h2, h3, h4⟩ := h
    cases i with
    | zero => exact ⟨True.intro, fun x hx => by simp at hx⟩
    | succ i =>
      obtain ⟨k1, k2⟩ := ih h4 hx
      refine ⟨⟨h1, h2, h3, k1⟩, fun x hm => ?_⟩
      rcases List.mem_cons.mp hm with z | z
      · rw [z]
        have hm2 : (p, e) ∈ r := List.mem_of_getElem? hx
        have := (h4.mem hm2).1
        omega
      · exact k2 x z
def sp_divisors_by (_ : PySem.W.Frag) : Sp := spec1 fun x H Q _ => ∃ (p : Addr) (L : List (Nat × Nat)) (n : Nat), x = .ref p ∧ Rows H p L ∧ FacOf L n ∧ n ≤ 1000000 ∧ ∀ (r : Addr) (H' : Hp) (ns : List Int), Same H H' → DivL ns n → H' r = some (.lst (ns.map V.int)) → Q (.ref r) H'
theorem ok_divisors_by {af : Addr} {fd : FuncData} (F : FunD K "divisors_by" "divisors_by" (defArgs s_divisors_by) (defBody s_divisors_by) (defScope s_divisors_by) [] [] af fd) (B : Bt mg)  : FnG P w K mg base CX0 1 af fd ["powers"] (sp_divisors_by K) := by
  refine okG F sc_divisors_by ar1 fun cdv A outer s H vs Q E hg hr h => ?_
  refine ⟨_, PSs.nox (pss_cons (ps_set (i := 1) sc_divisors_by.nd rfl (.inl rfl) (pe_lst (pa_cons pe_int pa_nil)))
    (pss_cons (ps_for PassesOwn.never rfl ((pi_list (pv 0))) (pg_tup rfl (pgs_cons (pg_name (i := 2) sc_divisors_by.nd rfl (.inl rfl)) (pgs_cons (pg_name (i := 3) sc_divisors_by.nd rfl (.inl rfl)) pgs_nil)))
      (pss_cons (ps_asg (pe_tup (pa_cons (pe_lst pa_nil) (pa_cons pe_int pa_nil))) (pg_tup rfl (pgs_cons (pg_name (i := 4) sc_divisors_by.nd rfl (.inl rfl)) (pgs_cons (pg_name (i := 5) sc_divisors_by.nd rfl (.inr rfl)) pgs_nil))))
      (pss_cons (ps_for PassesOwn.never rfl (pi_range1 rfl B.range (pa_cons (pe_op op_add (pv 3) pe_int) pa_nil)) (pg_name (i := 6) sc_divisors_by.nd rfl (.inl rfl))
        (pss_cons (ps_expr (pe_bm PySem.F.plainAttrs_list PySem.F.slot_list_extend PySem.F.type_list_extend mt_extend (pv 4) (pa_cons (pe_lc (own := [("one", 7)]) rfl sc_divisors_by.nd ((pi_list (pv 1))) (blkOk_by (own := [("one", 7)]) (N := ["powers", "found", "prime", "many", "longer", "factor", "turn", "one"]) (sc := defScope s_divisors_by) (by decide +kernel)) (fun _ _ _ _ _ => pg_name (i := 7) sc_divisors_by.nd rfl (.inl rfl) (.inr rfl)) (fun _ _ _ _ _ => pts_nil) (fun _ _ _ _ _ => (pe_op op_mul (pv 7) (pv 5)))) pa_nil)))
        (pss_one (ps_set (i := 5) sc_divisors_by.nd rfl (.inr rfl) (pe_op op_mul (pv 5) (pv 2))))))
      (pss_one (ps_set (i := 1) sc_divisors_by.nd rfl (.inl rfl) (pv 4))))))
    (pss_one (ps_ret (pe_callB cr_sortedI (by rfl) B.sorted (by decide +kernel) (pa_cons (pv 1) pa_nil)))))), ?_⟩
  obtain ⟨_, rfl, p, L, n, rfl, hr, hL, hn, q⟩ := h
  have n1 : 1 ≤ n := by rw [← hL.2]; exact FacOk.pos hL.1
  obtain ⟨ts, ep, hl2, hi⟩ := hr
  refine ⟨sz1, fun l0 hl0 => ?_⟩
  have s0 := (Same.refl H).new (o := .lst [V.int 1]) hl0
  have e0 : (upd H l0 (.lst [V.int 1])) l0 = some (.lst [V.int 1]) := upd_same
  generalize upd H l0 (.lst [V.int 1]) = H1 at s0 e0 ⊢
  refine ⟨_, rfl, p, rfl, ⟨_, SqL.of (s0 _ _ ep)⟩, for_list (K := K) (a := p) (xs := ts.map V.ref) (fun i σ H' => ∃ (l : Addr) (ns : List Int) (y2 y3 y4 y5 y6 : Option V), σ = [some (.ref p), some (.ref l), y2, y3, y4, y5, y6, none] ∧ Same H H' ∧ H' l = some (.lst (ns.map V.int)) ∧ DivL ns (facP (L.take i)))
    ⟨l0, [1], none, none, none, none, none, rfl, s0, e0, ⟨fun F => by show F 1 + 0 = sumR (fun d => if d ∣ 1 then F (d : Int) else 0) 1; rw [sumR, sumR, if_pos (by simp)]; show F 1 + 0 = 0 + F 1; omega, fun x hx => ⟨1, by simpa using hx, Nat.dvd_refl 1⟩⟩⟩ (fun i σ H' _ ⟨_, _, _, _, _, _, _, _, z, _⟩ => SqL.of (z _ _ ep)) ?_ ?_⟩
  · rintro i v σ H3 hv ⟨l, ns, y2, y3, y4, y5, y6, rfl, sm, el, dv⟩
    rw [List.getElem?_map] at hv
    obtain ⟨t, ht, rfl⟩ := Option.map_eq_some_iff.mp hv
    obtain ⟨x, hx, et⟩ := hi i t ht
    obtain ⟨pr, many⟩ := x
    obtain ⟨_, pp, m1⟩ := hL.1.mem (List.mem_of_getElem? hx)
    obtain ⟨b1, b2, b3, b4, b5⟩ := row_b hL (by omega) (List.mem_of_getElem? hx)
    obtain ⟨okt, ltt⟩ := FacOk.take_nd hL.1 hx
    have tk : L.take (i + 1) = L.take i ++ [(pr, many)] := by
      rw [List.take_add_one, hx]
      rfl
    have pos := FacOk.pos okt
    have nd : ¬ pr ∣ facP (L.take i) := fun z => by
      obtain ⟨x, hxm, e⟩ := okt.dvd pp z
      have := ltt x hxm
      omega
    have mle : facP (L.take i) ≤ n := by
      have : facP (L.take i) ∣ n := ⟨facP (L.drop i), by rw [← facP_app, List.take_append_drop, hL.2]⟩
      exact Nat.le_of_dvd n1 this
    have fk : facP (L.take (i + 1)) = pr ^ many * facP (L.take i) := by rw [tk, facP_snoc, Nat.mul_comm]
    have nl : ns.length ≤ 2 * n := by
      have := dv.len
      have := tau_2n pos
      omega
    have pj : pr ^ many ≤ 1000000 := by
      have : pr ^ many ≤ n := by
        have d := mem_pow' L (List.mem_of_getElem? hx)
        rw [hL.2] at d
        exact Nat.le_of_dvd n1 d
      omega
    generalize facP (L.take i) = m at dv nd pos mle fk
    clear okt ltt tk
    refine ⟨t, _, rfl, SqT.of (sm _ _ et), rfl, _, _, rfl, _, _, rfl, rfl, ?_⟩
    refine ⟨sz0, fun lg hlg => ⟨sz2, fun tu htu => ⟨tu, _, rfl, SqT.of upd_same, rfl, _, _, rfl, _, _, rfl, rfl, ?_⟩⟩⟩
    have sg := (Same.refl H3).new (o := .lst []) hlg
    have eg0 : (upd H3 lg (.lst [])) lg = some (.lst []) := upd_same
    have su := (Same.refl (upd H3 lg (.lst []))).new (o := .tup [.ref lg, .int 1]) htu
    have zg : H lg = none := sm.free hlg
    have ngl : l ≠ lg := ne_of_none el hlg
    have el2 := su _ _ (sg _ _ el)
    have eg := su _ _ eg0
    have sH := (sm.trans sg).trans su
    generalize upd (upd H3 lg (.lst [])) tu (.tup [.ref lg, .int 1]) = H4 at el2 eg sH ⊢
    refine ⟨_, rfl, _, _, rfl, rfl, _, rfl, by omega, by omega, for_range (lo := 0) (fun j σ H' => ∃ (ms : List Int) (y6 : Option V), σ = [some (.ref p), some (.ref l), some (.int (pr : Int)), some (.int (many : Int)), some (.ref lg), some (.int ((pr ^ j : Nat) : Int)), y6, none] ∧ Same H H' ∧ H' l = some (.lst (ns.map V.int)) ∧ H' lg = some (.lst (ms.map V.int)) ∧ ms.length = j * ns.length ∧ (∀ F : Int → Int, (ms.map F).sum = gsum (fun d => F (d : Int)) pr m j) ∧ ∀ x ∈ ms, ∃ d : Nat, x = (d : Int) ∧ d ∣ pr ^ many * m)
      ⟨[], y6, rfl, sH, el2, eg, by simp, fun F => rfl, fun x hx => by simp at hx⟩ ?_ ?_⟩
    · rintro j σ H5 hj ⟨ms, z6, rfl, s5, e5, g5, ml, msum, mdv⟩
      have jm : j ≤ many := by omega
      have pjj : pr ^ j ≤ pr ^ many := Nat.pow_le_pow_right (by omega) jm
      have lens : (j + 1) * ns.length ≤ 41 * 2000000 / 10 := by
        have h41 : (j + 1) ≤ 41 := by omega
        have : 2 ^ j ≤ pr ^ j := Nat.pow_le_pow_left b1 j
        have j20 : j ≤ 20 := by
          refine Classical.byContradiction fun z => ?_
          have h21 : 2 ^ 21 ≤ 2 ^ j := Nat.pow_le_pow_right (by decide) (by omega)
          have : (1000000 : Nat) < 2 ^ 21 := by decide
          omega
        have h3 : ns.length ≤ 2 * m := by
          have := dv.len
          have := tau_2n pos
          omega
        have h4 : (j + 1) * ns.length ≤ pr ^ many * (2 * m) := by
          refine Nat.mul_le_mul ?_ h3
          have : j < 2 ^ j := Nat.lt_two_pow_self
          omega
        have h5 : pr ^ many * m ≤ n := by
          have : facP (L.take (i + 1)) ∣ n := ⟨facP (L.drop (i + 1)), by rw [← facP_app, List.take_append_drop, hL.2]⟩
          rw [fk] at this
          exact Nat.le_of_dvd n1 this
        rw [Nat.mul_left_comm] at h4
        omega
      rw [Nat.succ_mul] at lens
      refine ⟨_, rfl, .inl ⟨rfl, _, SqL.of g5⟩, _, rfl, l, rfl, ⟨_, SqL.of e5⟩, fun D hD => lc_list (K := K) (a := l) (xs := ns.map V.int) (fun k H6 => Same H5 H6 ∧ H6 D = some (.lst (((ns.take k).map fun x => x * ((pr ^ j : Nat) : Int)).map V.int))) ⟨(Same.refl _).new hD, upd_same⟩ (fun k H6 _ z => SqL.of (z.1 _ _ e5)) ?_ ?_⟩
      · rintro k x H6 hx ⟨s6, eD⟩
        rw [List.getElem?_map] at hx
        obtain ⟨y, hy, rfl⟩ := Option.map_eq_some_iff.mp hx
        have hk : k < ns.length := (List.getElem?_eq_some_iff.mp hy).1
        have hDn : H5 D = none := hD
        refine ⟨rfl, _, rfl, _, rfl, _, _, rfl, rfl, mulc' ⟨by omega, by omega⟩, _, eD, ?_, s6.mut hDn, ?_⟩
        · rw [List.length_map, List.length_map, List.length_take]
          exact small_lt (by omega)
        · rw [upd_same, List.take_add_one, hy]
          simp only [Option.toList, List.map_append, List.map_cons, List.map_nil]
      · rintro H6 ⟨s6, eD⟩
        rw [List.length_map, List.take_length] at eD
        refine ⟨lg, D, _, _, rfl, rfl, s6 _ _ g5, eD, ?_, ?_⟩
        · simp only [List.length_map]
          exact small_sz (by omega)
        refine ⟨_, rfl, _, rfl, _, _, rfl, rfl, mulc ⟨by omega, by omega⟩, ms ++ ns.map (fun x => x * ((pr ^ j : Nat) : Int)), some (.int (0 + (j : Int))), ?_, (s5.trans s6).mut zg, (upd_ne ngl).trans (s6 _ _ e5), ?_, ?_, fun F => ?_, fun x hx => ?_⟩
        · rw [Nat.pow_succ, Int.natCast_mul]
          rfl
        · rw [upd_same, List.map_append]
        · rw [List.length_append, List.length_map, ml, Nat.succ_mul]
        · rw [List.map_append, List.sum_append, List.map_map, msum F]
          unfold gsum
          rw [List.range_succ, List.map_append, List.sum_append]
          congr 1
          have := dv.1 (F ∘ fun x => x * ((pr ^ j : Nat) : Int))
          rw [this]
          show _ = dsum (fun d => F ((pr ^ j * d : Nat) : Int)) m + 0
          rw [Int.add_zero]
          refine sumR_congr fun d _ _ => ?_
          split
          · refine congrArg F ?_
            show (d : Int) * ((pr ^ j : Nat) : Int) = ((pr ^ j * d : Nat) : Int)
            rw [Int.natCast_mul, Int.mul_comm]
          · rfl
        · rcases List.mem_append.mp hx with hx | hx
          · exact mdv x hx
          · obtain ⟨y, hy, rfl⟩ := List.mem_map.mp hx
            obtain ⟨d, rfl, hd⟩ := dv.2 y hy
            refine ⟨pr ^ j * d, by rw [Int.natCast_mul, Int.mul_comm], Nat.mul_dvd_mul (Nat.pow_dvd_pow pr jm) hd⟩
    · rintro σ H5 ⟨ms, z6, rfl, s5, e5, g5, ml, msum, mdv⟩
      rw [show ((many : Int) + 1).toNat = many + 1 by omega] at msum
      refine ⟨_, rfl, lg, ms, _, _, _, _, _, rfl, s5, g5, ?_⟩
      rw [fk]
      exact ⟨fun F => by rw [msum F, gsum_all pp nd pos], mdv⟩
  · rintro σ H3 ⟨l, ns, y2, y3, y4, y5, y6, rfl, sm, el, dv⟩
    rw [List.length_map, hl2, List.take_length, hL.2] at dv
    refine ⟨_, rfl, l, ns, rfl, SqL.of el, fun ns' r pm _ hr => q r _ ns' (sm.new hr) ⟨fun F => (sum_perm (pm.map F)).trans (dv.1 F), fun x hx => dv.2 x (pm.mem_iff.mp hx)⟩ upd_same⟩
def sp_divisors_of (_ : PySem.W.Frag) : Sp := spec1 fun x H Q _ => ∃ n : Nat, x = .int n ∧ 1 ≤ n ∧ n ≤ 1000000 ∧ ∀ (r : Addr) (H' : Hp) (ns : List Int), Same H H' → DivL ns n → H' r = some (.lst (ns.map V.int)) → Q (.ref r) H'
theorem ok_divisors_of {af : Addr} {fd : FuncData} (F : FunD K "divisors_of" "divisors_of" (defArgs s_divisors_of) (defBody s_divisors_of) (defScope s_divisors_of) [] [] af fd) (B : Bt mg) (C_divisors_by : Cl P w K mg base 1 "divisors_by" 1 [] (sp_divisors_by K)) (C_powers_of : Cl P w K mg base 1 "powers_of" 1 [] (sp_powers_of K)) : FnG P w K mg base CX0 2 af fd ["number"] (sp_divisors_of K) := by
  refine okG F sc_divisors_of ar1 fun cdv A outer s H vs Q E hg hr h => ?_
  refine ⟨_, PSs.nox (pss_one (ps_ret (pe_cl C_divisors_by hg hr (by decide) rfl (pa_cons (pe_cl C_powers_of hg hr (by decide) rfl (pa_cons (pv 0) pa_nil)) pa_nil)))), ?_⟩
  obtain ⟨_, rfl, n, rfl, h1, h2, q⟩ := h
  exact ⟨_, rfl, _, rfl, n, rfl, h1, by omega, fun L p H1 hL s1 rp => ⟨_, rfl, p, L, n, rfl, rows_of rp, hL, h2, fun r H2 ns s2 dv e => q r H2 ns (s1.trans s2) dv e⟩⟩
def sp_divisors (_ : PySem.W.Frag) : Sp := spec1 fun x H Q _ => ∃ n : Nat, x = .int n ∧ 1 ≤ n ∧ n ≤ 1000000 ∧ ∀ (r : Addr) (H' : Hp) (ns : List Int), Same H H' → DivL ns n → H' r = some (.lst (ns.map V.int)) → Q (.ref r) H'
/-! the law's own share-free count -/
def sp_powers (_ : PySem.W.Frag) : Sp := spec1 fun x H Q _ => ∃ n : Nat, x = .int n ∧ 1 ≤ n ∧ n ≤ 1000000000000 ∧ ∀ L p H', FacOf L n → Same H H' → Rp (New H) H' (.ref p) (.list (L.map powD)) → Q (.ref p) H'
end
end M
namespace M
/-! sorted lists, divisors in sequence -/
theorem sorted_lt {l : List Int} (h : l.Pairwise (· ≤ ·)) (hn : l.Nodup) : l.Pairwise (· < ·) := by
  induction l with
  | nil => exact .nil
  | cons x l ih =>
    obtain ⟨h1, h2⟩ := List.pairwise_cons.mp h
    obtain ⟨n1, n2⟩ := List.nodup_cons.mp hn
    refine List.pairwise_cons.mpr ⟨fun y hy => ?_, ih h2 n2⟩
    have := h1 y hy
    have : x ≠ y := fun z => n1 (z ▸ hy)
    omega
theorem sorted_uniq : ∀ {a b : List Int}, a.Pairwise (· < ·) → b.Pairwise (· < ·) → (∀ x, x ∈ a ↔ x ∈ b) → a = b
  | [], [], _, _, _ => rfl
  | [], y :: b, _, _, h => by have := (h y).mpr List.mem_cons_self; simp at this
  | x :: a, [], _, _, h => by have := (h x).mp List.mem_cons_self; simp at this
  | x :: a, y :: b, ha, hb, h => by
    obtain ⟨a1, a2⟩ := List.pairwise_cons.mp ha
    obtain ⟨b1, b2⟩ := List.pairwise_cons.mp hb
    have e : x = y := by
      rcases List.mem_cons.mp ((h x).mp List.mem_cons_self) with z | z
      · exact z
      · rcases List.mem_cons.mp ((h y).mpr List.mem_cons_self) with w | w
        · exact w.symm
        · have := a1 y w
          have := b1 x z
          omega
    subst e
    rw [sorted_uniq a2 b2 fun z => ?_]
    constructor
    · intro hz
      rcases List.mem_cons.mp ((h z).mp (List.mem_cons_of_mem x hz)) with w | w
      · have := a1 z hz
        omega
      · exact w
    · intro hz
      rcases List.mem_cons.mp ((h z).mpr (List.mem_cons_of_mem x hz)) with w | w
      · have := b1 z hz
        omega
      · exact w
def divsL (n : Nat) : List Nat := (List.range (n + 1)).filter fun d => decide (0 < d ∧ d ∣ n)
theorem mem_divsL {n d : Nat} (hn : 0 < n) : d ∈ divsL n ↔ d ∣ n := by
  unfold divsL
  rw [List.mem_filter, List.mem_range, decide_eq_true_iff]
  constructor
  · exact fun h => h.2.2
  · exact fun h => ⟨Nat.lt_succ_of_le (Nat.le_of_dvd hn h), Nat.pos_of_dvd_of_pos h hn, h⟩
theorem divsL_lt (n : Nat) : ((divsL n).map fun d : Nat => (d : Int)).Pairwise (· < ·) := by
  rw [List.pairwise_map]
  refine (List.Pairwise.filter _ List.pairwise_lt_range).imp fun h => ?_
  omega
theorem perm_sorted {ns ms ns' : List Int} (hp : ns'.Perm ns) (hs : ns'.Pairwise (· ≤ ·)) (hn : ns.Nodup) (hm : ms.Pairwise (· < ·)) (h : ∀ x, x ∈ ns ↔ x ∈ ms) : ns' = ms :=
  sorted_uniq (sorted_lt hs (hp.nodup_iff.mpr hn)) hm fun x => (hp.mem_iff).trans (h x)
/-- the divisors that a search from below has met, at turn k -/
structure Met (n k : Nat) (ds : List Nat) : Prop where
  nodup : ds.Nodup
  mem : ∀ d, d ∈ ds ↔ d ∣ n ∧ (d < k ∨ n / d < k)
  len : ds.length ≤ 2 * k
theorem Met.start {n : Nat} (hn : 0 < n) : Met n 1 [] := ⟨.nil, fun d => by
  constructor
  · intro h
    simp at h
  · rintro ⟨h1, h2⟩
    have d0 := Nat.pos_of_dvd_of_pos h1 hn
    have := Nat.div_pos (Nat.le_of_dvd hn h1) d0
    omega, Nat.zero_le _⟩
theorem div_of_eq {n d k : Nat} (hn : 0 < n) (h : d ∣ n) (e : n / d = k) : d * k = n := by
  rw [← e]
  exact Nat.mul_div_cancel' h
theorem Met.skip {n k : Nat} {ds : List Nat} (hn : 0 < n) (h : Met n k ds) (hk : ¬ k ∣ n) : Met n (k + 1) ds := ⟨h.nodup, fun d => by
  rw [h.mem]
  constructor
  · rintro ⟨h1, h2⟩
    exact ⟨h1, by omega⟩
  · rintro ⟨h1, h2⟩
    refine ⟨h1, ?_⟩
    have a : d ≠ k := fun z => hk (z ▸ h1)
    have b : n / d ≠ k := fun z => hk ⟨d, by rw [Nat.mul_comm]; exact (div_of_eq hn h1 z).symm⟩
    omega, by have := h.len; omega⟩
theorem Met.square {n k : Nat} {ds : List Nat} (hn : 0 < n) (h : Met n k ds) (hk : k * k = n) : Met n (k + 1) (ds ++ [k]) := by
  have k0 : 0 < k := by
    rcases Nat.eq_zero_or_pos k with z | z
    · subst z
      omega
    · exact z
  have kd : k ∣ n := ⟨k, hk.symm⟩
  have nk : n / k = k := by rw [← hk]; exact Nat.mul_div_cancel _ k0
  refine ⟨?_, fun d => ?_, by rw [List.length_append, List.length_singleton]; have := h.len; omega⟩
  · rw [List.nodup_append]
    refine ⟨h.nodup, by simp, fun x hx y hy => ?_⟩
    cases List.mem_singleton.mp hy
    rintro rfl
    have := ((h.mem _).mp hx).2
    omega
  · rw [List.mem_append, h.mem, List.mem_singleton]
    constructor
    · rintro (⟨h1, h2⟩ | rfl)
      · exact ⟨h1, by omega⟩
      · exact ⟨kd, by omega⟩
    · rintro ⟨h1, h2⟩
      by_cases e : d = k
      · exact .inr e
      · refine .inl ⟨h1, ?_⟩
        by_cases e2 : n / d = k
        · have := div_of_eq hn h1 e2
          rw [← hk] at this
          exact absurd (Nat.eq_of_mul_eq_mul_right k0 this) e
        · omega
theorem Met.two {n k : Nat} {ds : List Nat} (hn : 0 < n) (h : Met n k ds) (hd : k ∣ n) (hk : k * k < n) : Met n (k + 1) (ds ++ [k, n / k]) := by
  have k0 := Nat.pos_of_dvd_of_pos hd hn
  obtain ⟨e, he⟩ := hd
  have ek : n / k = e := by rw [he]; exact Nat.mul_div_cancel_left _ k0
  have ke : k < e := by
    rw [he] at hk
    exact Nat.lt_of_mul_lt_mul_left hk
  have ne : n / e = k := by rw [he]; exact Nat.mul_div_cancel _ (by omega)
  have ed : e ∣ n := ⟨k, by rw [he, Nat.mul_comm]⟩
  rw [ek]
  refine ⟨?_, fun d => ?_, by rw [List.length_append]; have := h.len; show ds.length + 2 ≤ _; omega⟩
  · rw [List.nodup_append]
    refine ⟨h.nodup, by simp; omega, fun x hx y hy => ?_⟩
    have := ((h.mem _).mp hx).2
    rcases List.mem_cons.mp hy with z | z
    · subst z
      rintro rfl
      omega
    · cases List.mem_singleton.mp z
      rintro rfl
      omega
  · rw [List.mem_append, h.mem, List.mem_cons, List.mem_singleton]
    constructor
    · rintro (⟨h1, h2⟩ | rfl | rfl)
      · exact ⟨h1, by omega⟩
      · exact ⟨⟨e, he⟩, by omega⟩
      · exact ⟨ed, by omega⟩
    · rintro ⟨h1, h2⟩
      by_cases e1 : d = k
      · exact .inr (.inl e1)
      · by_cases e2 : d = e
        · exact .inr (.inr e2)
        · refine .inl ⟨h1, ?_⟩
          by_cases e3 : n / d = k
          · have := div_of_eq hn h1 e3
            rw [he, Nat.mul_comm k e] at this
            exact absurd (Nat.eq_of_mul_eq_mul_right k0 this) e2
          · omega
theorem Met.all {n k : Nat} {ds : List Nat} (hn : 0 < n) (h : Met n k ds) (hk : n < k * k) : ∀ d, d ∈ ds ↔ d ∣ n := fun d => by
  rw [h.mem]
  constructor
  · exact fun z => z.1
  · intro h1
    refine ⟨h1, ?_⟩
    refine Classical.byContradiction fun z => ?_
    have := Nat.mul_le_mul (show k ≤ d by omega) (show k ≤ n / d by omega)
    rw [Nat.mul_div_cancel' h1] at this
    omega
theorem Met.sorted {n k : Nat} {ds : List Nat} {ns' : List Int} (hn : 0 < n) (h : Met n k ds) (hk : n < k * k) (hp : ns'.Perm (ds.map fun d : Nat => (d : Int))) (hs : ns'.Pairwise (· ≤ ·)) : ns' = (divsL n).map fun d : Nat => (d : Int) := by
  refine perm_sorted hp hs ?_ (divsL_lt n) fun x => ?_
  · rw [List.Nodup, List.pairwise_map]
    exact h.nodup.imp fun a b => a (Int.ofNat.inj b)
  · rw [List.mem_map, List.mem_map]
    constructor
    · rintro ⟨d, hd, rfl⟩
      exact ⟨d, (mem_divsL hn).mpr ((h.all hn hk d).mp hd), rfl⟩
    · rintro ⟨d, hd, rfl⟩
      exact ⟨d, (h.all hn hk d).mpr ((mem_divsL hn).mp hd), rfl⟩

end M
namespace M
open PySem PySem.Spec PyProof.Rows L2 G
section
variable {P : Program} {w : World} {K : PySem.W.Frag} {mg : Str → Option Value} {base : Heap}
/-! the law's own divisors -/
def sp__law_divisors (_ : PySem.W.Frag) : Sp := spec1 fun x H Q _ => ∃ n : Nat, x = .int n ∧ 1 ≤ n ∧ n ≤ 1000000000 ∧ ∀ p H', Same H H' → H p = none → H' p = some (.lst (nsV (divsL n))) → Q (.ref p) H'
theorem int_mod {n k : Nat} : ((n : Int) % (k : Int) = 0) ↔ n % k = 0 := by omega
theorem ok__law_divisors {af : Addr} {fd : FuncData} (F : FunD K "_law_divisors" "_law_divisors" (defArgs s__law_divisors) (defBody s__law_divisors) (defScope s__law_divisors) [] [] af fd) (B : Bt mg)  : FnG P w K mg base CX0 1 af fd ["number"] (sp__law_divisors K) := by
  refine okG F sc__law_divisors ar1 fun cdv A outer s H vs Q E hg hr h => ?_
  refine ⟨_, PSs.nox (pss_cons (ps_par (i := 1) (j := 2) (by rfl) sc__law_divisors.nd rfl rfl (by decide) rfl rfl (pa_cons (pe_lst pa_nil) (pa_cons pe_int pa_nil)) (by rfl))
    (pss_cons (ps_while PassesOwn.never (pt_cmpR op_le (pe_op op_mul (pv 2) (pv 2)) (pv 0) (nomark _))
      (pss_cutG (ps_if (pt_cmpR op_eq (pe_callTy call_int1 (by rfl) B.int (by decide +kernel) (pa_cons (pe_op op_mod (pv 0) (pv 2)) pa_nil)) pe_int (nomark _))
        (pss_one (ps_expr (pe_bm PySem.F.plainAttrs_list PySem.F.slot_list_extend PySem.F.type_list_extend mt_extend (pv 1) (pa_cons (pe_ifExp (pt_cmpR op_eq (pe_op op_mul (pv 2) (pv 2)) (pv 0) (nomark _)) (pe_lst (pa_cons (pv 2) pa_nil)) (pe_lst (pa_cons (pv 2) (pa_cons (pe_op op_fdivW (pv 0) (pv 2)) pa_nil)))) pa_nil))))
        pss_nil)
      (pss_one (ps_set (i := 2) sc__law_divisors.nd rfl (.inl rfl) (pe_op op_add (pv 2) pe_int)))))
    (pss_one (ps_ret (pe_callB cr_sortedI (by rfl) B.sorted (by decide +kernel) (pa_cons (pv 1) pa_nil)))))), ?_⟩
  obtain ⟨_, rfl, n, rfl, h1, h2, q⟩ := h
  have hn : 0 < n := h1
  refine ⟨sz0, fun l hl => ⟨_, _, rfl, ?_⟩⟩
  refine ⟨fun m σ H' => ∃ (ds : List Nat) (k : Nat), σ = [some (.int n), some (.ref l), some (.int k)] ∧ Same H H' ∧ H' l = some (.lst (nsV ds)) ∧ Met n k ds ∧ 1 ≤ k ∧ k ≤ 40000 ∧ m = 50000 - k,
    ⟨_, [], 1, rfl, (Same.refl H).new hl, upd_same, Met.start hn, by decide, by decide, rfl⟩, fun m σ H' hW => ?_⟩
  obtain ⟨ds, k, rfl, sm, el, mt, k1, k2, rfl⟩ := hW
  refine ⟨_, rfl, _, rfl, _, _, rfl, rfl, mulc ⟨by omega, by omega⟩, _, rfl, _, _, rfl, rfl, _, rfl, ite2 (fun hc => ?_) (fun hc => ?_)⟩
  · have hc' : k * k ≤ n := by
      have : (k : Int) * (k : Int) ≤ (n : Int) := of_decide_eq_true hc
      rw [← Int.natCast_mul] at this
      omega
    have k3 : k ≤ 31623 := by
      refine Classical.byContradiction fun z => ?_
      have := Nat.mul_le_mul (show 31624 ≤ k by omega) (show 31624 ≤ k by omega)
      omega
    refine ⟨_, fun _ _ z => z, ?_⟩
    refine ⟨fun σ H2 => ∃ ds : List Nat, σ = [some (.int n), some (.ref l), some (.int k)] ∧ Same H H2 ∧ H2 l = some (.lst (nsV ds)) ∧ Met n (k + 1) ds, ⟨_, rfl, _, rfl, _, _, rfl, rfl, (by show (0 : Int) < _; omega), .inl ⟨_, rfl, rfl, _, rfl, ite2 (fun hd => ?_) (fun hd => ?_)⟩⟩, ?_⟩
    · have hd' : k ∣ n := Nat.dvd_of_mod_eq_zero (int_mod.mp (V.int.inj (of_decide_eq_true hd)))
      have dl := mt.len
      refine ⟨_, rfl, .inl ⟨rfl, _, SqL.of el⟩, _, rfl, _, rfl, _, _, rfl, rfl, mulc ⟨by omega, by omega⟩, _, rfl, rfl, _, rfl, ite2 (fun he => ?_) (fun he => ?_)⟩
      · have he' : k * k = n := by
          have := V.int.inj (of_decide_eq_true he)
          rw [← Int.natCast_mul] at this
          omega
        refine ⟨_, rfl, sz1, fun b hb => ⟨l, b, _, _, rfl, rfl, (upd_ne (ne_of_none el hb)).trans el, upd_same, small_sz (by rw [nsV_len]; show _ + 1 ≤ _; omega), ds ++ [k], rfl, (sm.new hb).mut hl, ?_, mt.square hn he'⟩⟩
        rw [upd_same, nsV_snoc]
      · have he' : k * k < n := by
          have : ¬ (k * k = n) := fun z => he (decide_eq_true (congrArg V.int (by rw [← Int.natCast_mul, z])))
          omega
        refine ⟨_, rfl, _, rfl, _, rfl, _, _, rfl, rfl, divw (by omega) (by omega), sz2, fun b hb => ⟨l, b, _, _, rfl, rfl, (upd_ne (ne_of_none el hb)).trans el, upd_same, small_sz (by rw [nsV_len]; show _ + 2 ≤ _; omega), ds ++ [k, n / k], rfl, (sm.new hb).mut hl, ?_, mt.two hn hd' he'⟩⟩
        rw [upd_same]
        unfold nsV
        rw [List.map_append]
        rfl
    · have hd' : ¬ k ∣ n := fun z => hd (decide_eq_true (congrArg V.int (int_mod.mpr (Nat.mod_eq_zero_of_dvd z))))
      exact ⟨ds, rfl, sm, el, mt.skip hn hd'⟩
    · rintro σ H2 ⟨ds, rfl, sm, el, mt⟩
      exact ⟨_, rfl, _, _, rfl, rfl, 50000 - (k + 1), by omega, ds, k + 1, rfl, sm, el, mt, by omega, by omega, rfl⟩
  · have hc' : n < k * k := by
      have : ¬ (k : Int) * (k : Int) ≤ (n : Int) := fun z => hc (decide_eq_true z)
      rw [← Int.natCast_mul] at this
      omega
    refine ⟨_, rfl, l, _, rfl, SqL.of (by rw [el, nsV_ints]), fun ns' p hp hs hn' => q p _ (sm.new hn') (sm.free hn') ?_⟩
    rw [upd_same, mt.sorted hn hc' hp hs, nsV_ints]

end
end M
namespace M
open PySem PySem.Spec PyProof.Rows L2 G
section
variable {P : Program} {w : World} {K : PySem.W.Frag} {mg : Str → Option Value} {base : Heap}
/-! lists or tuples -/
theorem SqL.ty {K : PySem.W.Frag} {H : Hp} {a : Addr} {xs : List V} (h : SqL K H a xs) : TyX K H (.ref a) (.type "list") := by
  rcases h with (h | ⟨o, h⟩) | ⟨o, _, _, h, c, _⟩
  · exact .base (.lst h)
  · exact .base (.frz h)
  · exact .kList h c
theorem SqT.ty {K : PySem.W.Frag} {H : Hp} {a : Addr} {xs : List V} (h : SqT K H a xs) : TyX K H (.ref a) (.type "tuple") := by
  rcases h with (h | ⟨o, h⟩) | ⟨o, _, _, h, c, _⟩
  · exact .base (.tup h)
  · exact .fTuple h
  · exact .kTuple h c
theorem lt_kinds : Paired ClsV [V.ty "list", V.ty "tuple"] [Value.type "list", Value.type "tuple"] := .cons (.ty "list") (.cons (.ty "tuple") .nil)
theorem kit_l {K : PySem.W.Frag} : PySem.W.kitAny K (.type "list") [.type "list", .type "tuple"] = some true := kitAny_cons (b := true) (kit_ty (by decide +kernel)) (fun z => by cases z) (fun _ => rfl)
theorem kit_t {K : PySem.W.Frag} : PySem.W.kitAny K (.type "tuple") [.type "list", .type "tuple"] = some true :=
  kitAny_cons (b := false) (kit_ty (by decide +kernel)) (fun _ => kitAny_cons (b := true) (kit_ty (by decide +kernel)) (fun z => by cases z) (fun _ => rfl)) (fun z => by cases z)
def sp_is_list (K : PySem.W.Frag) : Sp := spec1 fun x H Q _ => ∃ (p : Addr) (xs : List V), x = .ref p ∧ (SqL K H p xs ∨ SqT K H p xs) ∧ ∀ H', Same H H' → Q (.bl true) H'
theorem ok_is_list {af : Addr} {fd : FuncData} (F : FunD K "is_list" "is_list" (defArgs s_is_list) (defBody s_is_list) (defScope s_is_list) [] [] af fd) (B : Bt mg)  : FnG P w K mg base CX0 1 af fd ["value"] (sp_is_list K) := by
  refine okG F sc_is_list ar1 fun cdv A outer s H vs Q E hg hr h => ?_
  refine ⟨_, PSs.nox (pss_one (ps_ret (pe_callB call_isiT (by rfl) B.isinstance (by decide +kernel) (pa_cons (pv 0) (pa_cons (pe_tup (pa_cons (pe_bltn (v := .ty "list") (by rfl) B.list (by decide +kernel) rfl) (pa_cons (pe_bltn (v := .ty "tuple") (by rfl) B.tuple (by decide +kernel) rfl) pa_nil))) pa_nil))))), ?_⟩
  obtain ⟨_, rfl, p, xs, rfl, hS, q⟩ := h
  refine ⟨_, rfl, sz2, fun t ht => ?_⟩
  have s := (Same.refl H).new (o := .tup [.ty "list", .ty "tuple"]) ht
  rcases hS with hS | hS
  · exact ⟨_, t, _, _, _, true, rfl, upd_same, lt_kinds, SqL.ty (SqL.same s hS), kit_l, q _ s⟩
  · exact ⟨_, t, _, _, _, true, rfl, upd_same, lt_kinds, SqT.ty (SqT.same s hS), kit_t, q _ s⟩

end
end M
namespace M
/-! worths of tables by rows taken off, every division even: what the program's turn comes to -/
def stepM (M : Nat → Nat → Int) (k : Nat) (last : Int) : Nat → Nat → Int := fun a b => if k < a ∧ k < b then (M a b * M k k - M a k * M k b).fdiv last else M a b
def swapM (M : Nat → Nat → Int) (k b : Nat) : Nat → Nat → Int := fun i j => if i = k then M b j else if i = b then M k j else M i j
def DOk (last : Int) : Prop := last ≠ 0 ∧ last.natAbs < 2 ^ 200
def AllS (k n : Nat) (M : Nat → Nat → Int) : Prop := ∀ a b, k ≤ a → k ≤ b → a < n → b < n → (M a b).natAbs < 2 ^ 64
/-- from the turn k on, the sign, the last lead and the table being so, it comes to v -/
inductive Wo (n : Nat) : Nat → Int → Int → (Nat → Nat → Int) → Int → Prop
  | done {k : Nat} {sign last : Int} {M : Nat → Nat → Int} : k + 1 = n → (M k k).natAbs < 2 ^ 64 → Wo n k sign last M (sign * M k k)
  | zero {k : Nat} {sign last : Int} {M : Nat → Nat → Int} : k + 1 < n → M k k = 0 → (∀ i, k < i → i < n → M i k = 0) → Wo n k sign last M 0
  | swap {k : Nat} {sign last : Int} {M : Nat → Nat → Int} {v : Int} (b : Nat) : k + 1 < n → M k k = 0 → k < b → b < n → M b k ≠ 0 → (∀ i, k < i → i < b → M i k = 0) → AllS k n M → DOk last →
      Wo n (k + 1) (0 - sign) (M b k) (stepM (swapM M k b) k last) v → Wo n k sign last M v
  | go {k : Nat} {sign last : Int} {M : Nat → Nat → Int} {v : Int} : k + 1 < n → M k k ≠ 0 → AllS k n M → DOk last → Wo n (k + 1) sign (M k k) (stepM M k last) v → Wo n k sign last M v
theorem AllS.swap {k n b : Nat} {M : Nat → Nat → Int} (h : AllS k n M) (hb : k < b) (hn : b < n) : AllS k n (swapM M k b) := by
  intro i j hi hj hin hjn
  unfold swapM
  split
  · exact h b j (by omega) hj hn hjn
  · split
    · exact h k j (Nat.le_refl k) hj (by omega) hjn
    · exact h i j hi hj hin hjn
/-! the same, by lists, for the kernel -/
def smallB (x : Int) : Bool := Nat.ble x.natAbs 18446744073709551615
theorem smallB_ok {x : Int} (h : smallB x = true) : x.natAbs < 2 ^ 64 := by
  have := Nat.le_of_ble_eq_true h
  omega
def elimL (r : List Int) (last : Int) (q : List Int) : List Int := List.zipWith (fun x y => (x * r.headD 0 - q.headD 0 * y).fdiv last) q.tail r.tail
def barC : Nat → Int → Int → List (List Int) → Option Int
  | 0, sign, _, rows => match rows with
    | [[x]] => if smallB x then some (sign * x) else none
    | _ => none
  | f + 1, sign, last, rows => if (rows.all fun r => r.all smallB) && decide (last ≠ 0 ∧ last.natAbs < 2 ^ 200) then
      match rows with
      | [] => none
      | r :: rs => if r.headD 0 = 0 then
          if rs.findIdx (fun q => !decide (q.headD 0 = 0)) < rs.length then
            let k := rs.findIdx fun q => !decide (q.headD 0 = 0)
            let q := rs.getD k []
            barC f (0 - sign) (q.headD 0) ((rs.set k r).map (elimL q last))
          else some 0
        else barC f sign (r.headD 0) (rs.map (elimL r last))
    else none
def subM (M : Nat → Nat → Int) (k m : Nat) : List (List Int) := (List.range m).map fun i => (List.range m).map fun j => M (k + i) (k + j)
theorem subM_all {M : Nat → Nat → Int} {k m n : Nat} (hm : k + m = n) (h : ((subM M k m).all fun r => r.all smallB) = true) : AllS k n M := by
  intro a b ha hb han hbn
  have h1 := List.all_eq_true.mp h ((List.range m).map fun j => M (k + (a - k)) (k + j)) (List.mem_map.mpr ⟨a - k, List.mem_range.mpr (by omega), rfl⟩)
  have h2 := List.all_eq_true.mp h1 (M (k + (a - k)) (k + (b - k))) (List.mem_map.mpr ⟨b - k, List.mem_range.mpr (by omega), rfl⟩)
  rw [show k + (a - k) = a by omega, show k + (b - k) = b by omega] at h2
  exact smallB_ok h2
theorem row_head (f : Nat → Int) (m : Nat) : ((List.range (m + 1)).map f).headD 0 = f 0 := by
  rw [List.range_succ_eq_map]
  rfl
theorem row_tail (f : Nat → Int) (m : Nat) : ((List.range (m + 1)).map f).tail = (List.range m).map fun j => f (j + 1) := by
  rw [List.range_succ_eq_map, List.map_cons, List.tail_cons, List.map_map]
  rfl
theorem zip_range (f g : Nat → Int) (h : Int → Int → Int) (m : Nat) : List.zipWith h ((List.range m).map f) ((List.range m).map g) = (List.range m).map fun j => h (f j) (g j) := by
  apply List.ext_getElem?
  intro i
  rw [List.getElem?_zipWith, List.getElem?_map, List.getElem?_map, List.getElem?_map]
  by_cases hi : i < m
  · rw [List.getElem?_range hi]
    rfl
  · rw [List.getElem?_eq_none (by simp; omega)]
    rfl
theorem elim_row (P Q : Nat → Int) (last : Int) (m : Nat) : elimL ((List.range (m + 1)).map P) last ((List.range (m + 1)).map Q) = (List.range m).map fun j => (Q (j + 1) * P 0 - Q 0 * P (j + 1)).fdiv last := by
  unfold elimL
  rw [row_head, row_head, row_tail, row_tail, zip_range]
theorem subM_cons (M : Nat → Nat → Int) (k m : Nat) : subM M k (m + 1) = ((List.range (m + 1)).map fun j => M k (k + j)) :: (List.range m).map fun i => (List.range (m + 1)).map fun j => M (k + (i + 1)) (k + j) := by
  unfold subM
  rw [List.range_succ_eq_map, List.map_cons, List.map_map]
  rfl
theorem set_range {α : Type} (N i : Nat) (f : Nat → α) (v : α) : ((List.range N).map f).set i v = (List.range N).map fun k => if k = i then v else f k := by
  apply List.ext_getElem?
  intro j
  rw [List.getElem?_set, List.getElem?_map, List.getElem?_map]
  by_cases h : j < N
  · rw [List.getElem?_range h]
    by_cases e : i = j
    · subst e
      simp [h]
    · simp [e, show ¬ j = i from fun z => e z.symm]
  · have : (List.range N)[j]? = none := List.getElem?_eq_none (by simp; omega)
    rw [this]
    split
    · split
      · rename_i z
        simp at z
        omega
      · rfl
    · rfl
theorem barC_ok {n : Nat} : ∀ (f k : Nat) (sign last : Int) (M : Nat → Nat → Int) (v : Int), k + f + 1 = n → barC f sign last (subM M k (f + 1)) = some v → Wo n k sign last M v
  | 0, k, sign, last, M, v, hk, h => by
    have e : subM M k 1 = [[M k k]] := rfl
    rw [e] at h
    unfold barC at h
    simp only [] at h
    split at h
    · rename_i hs
      cases h
      exact .done (by omega) (smallB_ok hs)
    · cases h
  | f + 1, k, sign, last, M, v, hk, h => by
    rw [subM_cons] at h
    unfold barC at h
    rw [← subM_cons] at h
    split at h
    · rename_i hc
      rw [Bool.and_eq_true] at hc
      have hS := subM_all (n := n) (by omega) hc.1
      have hD : DOk last := (of_decide_eq_true hc.2 : last ≠ 0 ∧ last.natAbs < 2 ^ 200)
      rw [subM_cons] at h
      simp only [row_head] at h
      by_cases h0 : M k (k + 0) = 0
      · rw [if_pos h0] at h
        have h0' : M k k = 0 := h0
        split at h
        · rename_i hi
          generalize hq : (List.findIdx (fun q : List Int => !decide (q.headD 0 = 0)) ((List.range (f + 1)).map fun i => (List.range (f + 1 + 1)).map fun j => M (k + (i + 1)) (k + j))) = t at h hi
          have ht : t < f + 1 := by simpa using hi
          have hp := List.findIdx_getElem (p := fun q : List Int => !decide (q.headD 0 = 0)) (xs := (List.range (f + 1)).map fun i => (List.range (f + 1 + 1)).map fun j => M (k + (i + 1)) (k + j)) (w := by rw [hq]; simpa using hi)
          have hne : ∀ i, i < t → M (k + (i + 1)) k = 0 := fun i hit => by
            have z := List.not_of_lt_findIdx (p := fun q : List Int => !decide (q.headD 0 = 0)) (xs := (List.range (f + 1)).map fun i => (List.range (f + 1 + 1)).map fun j => M (k + (i + 1)) (k + j)) (i := i) (by rw [hq]; exact hit)
            simp only [List.getElem_map, List.getElem_range, row_head] at z
            simpa using z
          have hpv : M (k + (t + 1)) k ≠ 0 := by
            simp only [List.getElem_map, List.getElem_range, row_head, hq] at hp
            simpa using hp
          have eg : (((List.range (f + 1)).map fun i => (List.range (f + 1 + 1)).map fun j => M (k + (i + 1)) (k + j)).getD t []) = (List.range (f + 1 + 1)).map fun j => M (k + (t + 1)) (k + j) := by
            rw [List.getD_eq_getElem?_getD, List.getElem?_map, List.getElem?_range ht]
            rfl
          simp only [eg, row_head] at h
          refine .swap (k + (t + 1)) (by omega) h0' (by omega) (by omega) hpv (fun i h1 h2 => ?_) hS hD (barC_ok f (k + 1) (0 - sign) _ _ v (by omega) ?_)
          · have := hne (i - k - 1) (by omega)
            rwa [show k + (i - k - 1 + 1) = i by omega] at this
          · rw [← h, set_range, List.map_map]
            congr 1
            unfold subM
            refine List.map_congr_left fun i hi' => ?_
            have hi2 := List.mem_range.mp hi'
            show _ = elimL _ last (if i = t then (List.range (f + 1 + 1)).map fun j => M k (k + j) else (List.range (f + 1 + 1)).map fun j => M (k + (i + 1)) (k + j))
            have er : (if i = t then (List.range (f + 1 + 1)).map fun j => M k (k + j) else (List.range (f + 1 + 1)).map fun j => M (k + (i + 1)) (k + j)) = (List.range (f + 1 + 1)).map fun j => (if i = t then M k (k + j) else M (k + (i + 1)) (k + j)) := by
              split <;> rfl
            rw [er, elim_row]
            refine List.map_congr_left fun j hj' => ?_
            unfold stepM swapM
            rw [if_pos ⟨by omega, by omega⟩]
            by_cases e : i = t
            · subst e
              simp [show k + 1 + i = k + (i + 1) by omega, show k + 1 + j = k + (j + 1) by omega]
            · simp [e, show ¬ k + 1 + i = k + (t + 1) by omega, show k + 1 + i = k + (i + 1) by omega, show k + 1 + j = k + (j + 1) by omega]
        · rename_i hi
          cases h
          refine .zero (by omega) h0' fun i h1 h2 => ?_
          have z := List.not_of_lt_findIdx (p := fun q : List Int => !decide (q.headD 0 = 0)) (xs := (List.range (f + 1)).map fun i => (List.range (f + 1 + 1)).map fun j => M (k + (i + 1)) (k + j)) (i := i - k - 1) (Nat.lt_of_lt_of_le (by rw [List.length_map, List.length_range]; omega) (Nat.le_of_not_lt hi))
          simp only [List.getElem_map, List.getElem_range, row_head] at z
          rw [show k + (i - k - 1 + 1) = i by omega] at z
          simpa using z
      · rw [if_neg h0] at h
        refine .go (by omega) h0 hS hD (barC_ok f (k + 1) sign _ _ v (by omega) ?_)
        rw [← h]
        show barC f sign (M k k) _ = barC f sign (M k (k + 0)) _
        congr 1
        unfold subM
        rw [List.map_map]
        refine List.map_congr_left fun i hi' => ?_
        show _ = elimL _ last ((List.range (f + 1 + 1)).map fun j => M (k + (i + 1)) (k + j))
        rw [elim_row]
        refine List.map_congr_left fun j hj' => ?_
        unfold stepM
        rw [if_pos ⟨by omega, by omega⟩]
        simp [show k + 1 + i = k + (i + 1) by omega, show k + 1 + j = k + (j + 1) by omega]
    · cases h

end M
namespace M
open PySem PySem.Spec PyProof.Rows L2 G
section
variable {P : Program} {w : World} {K : PySem.W.Frag} {mg : Str → Option Value} {base : Heap}
/-! tables that are worked on -/
structure TabM (K : PySem.W.Frag) (H : Hp) (a : Addr) (n : Nat) (ad : Nat → Addr) (M : Nat → Nat → Int) : Prop where
  top : SqL K H a ((List.range n).map fun i => V.ref (ad i))
  row : ∀ i, i < n → SqL K H (ad i) ((List.range n).map fun j => V.int (M i j))
theorem TabM.same {H H' : Hp} {a : Addr} {n : Nat} {ad : Nat → Addr} {M : Nat → Nat → Int} (h : TabM K H a n ad M) (s : Same H H') : TabM K H' a n ad M := ⟨SqL.same s h.top, fun i hi => SqL.same s (h.row i hi)⟩
structure Mat (H : Hp) (R : Addr) (n : Nat) (ad : Nat → Addr) (M : Nat → Nat → Int) : Prop where
  top : H R = some (.lst ((List.range n).map fun i => V.ref (ad i)))
  off : ∀ i, i < n → ad i ≠ R
  inj : ∀ i j, i < n → j < n → ad i = ad j → i = j
  row : ∀ i, i < n → H (ad i) = some (.lst ((List.range n).map fun j => V.int (M i j)))
section
variable {H H' : Hp} {R : Addr} {n : Nat} {ad : Nat → Addr} {M M' : Nat → Nat → Int}
theorem Mat.congr (h : Mat H R n ad M) (e : ∀ i j, i < n → j < n → M i j = M' i j) : Mat H R n ad M' :=
  ⟨h.top, h.off, h.inj, fun i hi => by rw [h.row i hi]; exact congrArg (fun z => some (HO.lst z)) (List.map_congr_left fun j hj => by rw [e i j hi (List.mem_range.mp hj)])⟩
theorem Mat.same (h : Mat H R n ad M) (s : Same H H') : Mat H' R n ad M := ⟨s _ _ h.top, h.off, h.inj, fun i hi => s _ _ (h.row i hi)⟩
theorem Mat.put (h : Mat H R n ad M) {i j : Nat} {v : Int} (hi : i < n) : Mat (upd H (ad i) (.lst (((List.range n).map fun b => V.int (M i b)).set j (.int v)))) R n ad (fun a b => if a = i ∧ b = j then v else M a b) := by
  refine ⟨(upd_ne (h.off i hi).symm).trans h.top, h.off, h.inj, fun a ha => ?_⟩
  by_cases e : a = i
  · subst e
    rw [upd_same, map_range_set]
    refine congrArg (fun z => some (HO.lst z)) (List.map_congr_left fun b _ => ?_)
    by_cases e2 : b = j
    · rw [if_pos e2, if_pos ⟨rfl, e2⟩]
    · rw [if_neg e2, if_neg (fun z => e2 z.2)]
  · refine (upd_ne fun z => e (h.inj a i ha hi z)).trans ((h.row a ha).trans (congrArg (fun z => some (HO.lst z)) (List.map_congr_left fun b _ => ?_)))
    rw [if_neg (fun z => e z.1)]
/-- a row's address put elsewhere, twice: rows exchanged -/
theorem Mat.swap (h : Mat H R n ad M) {k b : Nat} (hk : k < n) (hb : b < n) (hkb : k ≠ b) : Mat (upd (upd H R (.lst (((List.range n).map fun i => V.ref (ad i)).set k (.ref (ad b))))) R (.lst ((((List.range n).map fun i => V.ref (ad i)).set k (.ref (ad b))).set b (.ref (ad k))))) R n
    (fun i => if i = k then ad b else if i = b then ad k else ad i) (swapM M k b) := by
  have lt : ∀ i, i < n → (if i = k then b else if i = b then k else i) < n := fun i hi => by
    split
    · exact hb
    · split
      · exact hk
      · exact hi
  have ea : ∀ i, (if i = k then ad b else if i = b then ad k else ad i) = ad (if i = k then b else if i = b then k else i) := fun i => by
    split
    · rfl
    · split <;> rfl
  refine ⟨?_, fun i hi => ?_, fun i j hi hj z => ?_, fun i hi => ?_⟩
  · rw [upd_same, map_range_set, map_range_set]
    refine congrArg (fun z => some (HO.lst z)) (List.map_congr_left fun i _ => ?_)
    by_cases e1 : i = b
    · subst e1
      rw [if_pos rfl, if_neg (fun z => hkb z.symm), if_pos rfl]
    · rw [if_neg e1, if_neg e1]
      by_cases e2 : i = k
      · rw [if_pos e2, if_pos e2]
      · rw [if_neg e2, if_neg e2]
  · show (if i = k then ad b else if i = b then ad k else ad i) ≠ R
    rw [ea]
    exact h.off _ (lt i hi)
  · have z : (if i = k then ad b else if i = b then ad k else ad i) = (if j = k then ad b else if j = b then ad k else ad j) := z
    rw [ea, ea] at z
    have := h.inj _ _ (lt i hi) (lt j hj) z
    split at this <;> split at this <;> (try split at this) <;> (try split at this) <;> omega
  · show upd (upd H R _) R _ (if i = k then ad b else if i = b then ad k else ad i) = _
    rw [ea]
    have o := h.off _ (lt i hi)
    rw [upd_ne o, upd_ne o, h.row _ (lt i hi)]
    refine congrArg (fun z => some (HO.lst z)) (List.map_congr_left fun j _ => ?_)
    unfold swapM
    split
    · rfl
    · split <;> rfl
end
/-- a new table, read off its data -/
theorem TabM.of_rp {N : Addr → Prop} {H : Hp} {p : Addr} {n : Nat} {M : Nat → Nat → Int} (h : Rp N H (.ref p) (tabD ((List.range n).map fun i => (List.range n).map fun j => M i j))) : ∃ ad, TabM K H p n ad M := by
  obtain ⟨_, vs, e, ra⟩ := h.node
  rw [List.map_map] at ra
  have get : ∀ i, i < n → ∃ b, vs[i]? = some (.ref b) ∧ H b = some (.lst ((List.range n).map fun j => V.int (M i j))) := fun i hi => by
    obtain ⟨v, e1, e2⟩ := ra.get (i := i) (d := .list (((List.range n).map fun j => M i j).map PyData.int)) (by rw [List.getElem?_map, List.getElem?_range hi]; rfl)
    obtain ⟨b, rfl, _⟩ := e2.isRef
    refine ⟨b, e1, ?_⟩
    rw [e2.ints, List.map_map]
    rfl
  refine ⟨fun i => match vs[i]? with | some (.ref b) => b | _ => 0, ⟨SqL.of ?_, fun i hi => ?_⟩⟩
  · rw [e]
    refine congrArg (fun z => some (HO.lst z)) (List.ext_getElem? fun i => ?_)
    rw [List.getElem?_map]
    by_cases hi : i < n
    · obtain ⟨b, e1, _⟩ := get i hi
      rw [List.getElem?_range hi, e1]
      simp [e1]
    · rw [List.getElem?_eq_none (by rw [ra.length]; simp; omega), List.getElem?_eq_none (by simp; omega)]
      rfl
  · obtain ⟨b, e1, e2⟩ := get i hi
    simp only [e1]
    exact SqL.of e2

end
end M
namespace M
open PySem PySem.Spec PyProof.Rows L2 G
section
variable {P : Program} {w : World} {K : PySem.W.Frag} {mg : Str → Option Value} {base : Heap}
/-! worths of tables -/
def sp_worth_of (K : PySem.W.Frag) : Sp := spec1 fun x H Q _ => ∃ (a : Addr) (n : Nat) (ad : Nat → Addr) (M : Nat → Nat → Int) (v : Int), x = .ref a ∧ TabM K H a n ad M ∧ 1 ≤ n ∧ n ≤ 100 ∧ Wo n 0 1 1 M v ∧ ∀ H', Same H H' → Q (.int v) H'
/-- what is done of a turn: rows above k + 1 + i whole, of this one j places -/
def partM (M : Nat → Nat → Int) (k : Nat) (last : Int) (i j : Nat) : Nat → Nat → Int := fun a b => if k < a ∧ k < b ∧ (a < k + 1 + i ∨ a = k + 1 + i ∧ b < k + 1 + j) then (M a b * M k k - M a k * M k b).fdiv last else M a b
theorem partM_zero {M : Nat → Nat → Int} {k : Nat} {last : Int} : partM M k last 0 0 = M := by
  funext a b
  unfold partM
  rw [if_neg (by omega)]
theorem partM_next {M : Nat → Nat → Int} {k : Nat} {last : Int} {i j : Nat} : (fun a b => if a = k + 1 + i ∧ b = k + 1 + j then (M (k + 1 + i) (k + 1 + j) * M k k - M (k + 1 + i) k * M k (k + 1 + j)).fdiv last else partM M k last i j a b) = partM M k last i (j + 1) := by
  funext a b
  unfold partM
  by_cases e : a = k + 1 + i ∧ b = k + 1 + j
  · obtain ⟨rfl, rfl⟩ := e
    rw [if_pos ⟨rfl, rfl⟩, if_pos (by omega)]
  · rw [if_neg e]
    by_cases c : k < a ∧ k < b ∧ (a < k + 1 + i ∨ a = k + 1 + i ∧ b < k + 1 + j)
    · rw [if_pos c, if_pos (by omega)]
    · rw [if_neg c, if_neg (by omega)]
def addA (ad : Nat → Addr) (i : Nat) (l : Addr) : Nat → Addr := fun k => if k = i then l else ad k
theorem addA_at {ad : Nat → Addr} {i : Nat} {l : Addr} : addA ad i l i = l := if_pos rfl
theorem addA_ne {ad : Nat → Addr} {i k : Nat} {l : Addr} (h : k ≠ i) : addA ad i l k = ad k := if_neg h
theorem ok_worth_of {af : Addr} {fd : FuncData} (F : FunD K "worth_of" "worth_of" (defArgs s_worth_of) (defBody s_worth_of) (defScope s_worth_of) [] [] af fd) (B : Bt mg)  : FnG P w K mg base CX0 1 af fd ["table"] (sp_worth_of K) := by
  refine okG F sc_worth_of ar1 fun cdv A outer s H vs Q E hg hr h => ?_
  refine ⟨_, PSs.nox (pss_cons (ps_asg (pe_tup (pa_cons (pe_lc (own := [("row", 7)]) rfl sc_worth_of.nd ((pi_list (pv 0))) (blkOk_by (own := [("row", 7)]) (N := ["table", "rows", "sign", "last", "size", "at", "some", "row", "late", "to", "whole"]) (sc := defScope s_worth_of) (by decide +kernel)) (fun _ _ _ _ _ => pg_name (i := 7) sc_worth_of.nd rfl (.inl rfl) (.inr rfl)) (fun _ _ _ _ _ => pts_nil) (fun _ _ _ _ _ => (pe_callTy (kCall rListOf (K := K) rfl call_list_of) (by rfl) B.list (by decide +kernel) (pa_cons (pv 7) pa_nil)))) (pa_cons pe_int (pa_cons pe_int pa_nil)))) (pg_tup rfl (pgs_cons (pg_name (i := 1) sc_worth_of.nd rfl (.inr rfl)) (pgs_cons (pg_name (i := 2) sc_worth_of.nd rfl (.inl rfl)) (pgs_cons (pg_name (i := 3) sc_worth_of.nd rfl (.inl rfl)) pgs_nil)))))
    (pss_cons (ps_set (i := 4) sc_worth_of.nd rfl (.inl rfl) (pe_callB call_len_seq (by rfl) B.len (by decide +kernel) (pa_cons (pv 1) pa_nil)))
    (pss_cons (ps_for PassesOwn.never rfl (pi_range1 rfl B.range (pa_cons (pe_op op_sub (pv 4) pe_int) pa_nil)) (pg_name (i := 5) sc_worth_of.nd rfl (.inr rfl))
      (pss_cutG (ps_if (pt_cmpR op_eq (pe_ix ix_list (pe_ix ix_list (pv 1) (pv 5) (fun _ _ => rfl)) (pv 5) (fun _ _ => rfl)) pe_int (nomark _))
        (pss_cons (ps_setLc (i := 6) (own := [("late", 8)]) rfl sc_worth_of.nd rfl rfl (sw_true rfl rfl rfl (by decide +kernel)) (pi_range2 rfl B.range (pa_cons (pe_op op_add (pv 5) pe_int) (pa_cons (pv 4) pa_nil))) (blkOk_by (own := [("late", 8)]) (N := ["table", "rows", "sign", "last", "size", "at", "some", "row", "late", "to", "whole"]) (sc := defScope s_worth_of) (by decide +kernel)) (fun _ _ _ _ _ => pg_name (i := 8) sc_worth_of.nd rfl (.inl rfl) (.inr rfl)) (fun _ _ _ _ _ => pts_one (pt_cmpR op_ne (pe_ix (kIx rIxL (K := K) rfl ix_list) (pe_ix (kIx rIxL (K := K) rfl ix_list) (pv 1) (pv 8) (fun _ _ => rfl)) (pv 5) (fun _ _ => rfl)) pe_int (nomark _))) (fun _ _ _ _ _ => (pv 8)))
        (pss_cons (ps_if (pt_cmpR (op_eqD hr.units) (pv 6) (pe_lst pa_nil) (nomark _))
          (pss_one (ps_ret pe_int))
          pss_nil)
        (pss_cons (ps_set (i := 7) sc_worth_of.nd rfl (.inl rfl) (pe_ix ix_list (pv 1) (pv 5) (fun _ _ => rfl)))
        (pss_cons (ps_asg (pe_tup (pa_cons (pe_ix ix_list (pv 1) (pe_ix ix_list (pv 6) pe_int (fun _ _ => rfl)) (fun _ _ => rfl)) (pa_cons (pv 7) pa_nil))) (pg_tup rfl (pgs_cons (pg_sub (pv 1) (pv 5) set_list) (pgs_cons (pg_sub (pv 1) (pe_ix ix_list (pv 6) pe_int (fun _ _ => rfl)) set_list) pgs_nil))))
        (pss_one (ps_set (i := 2) sc_worth_of.nd rfl (.inl rfl) (pe_op op_sub pe_int (pv 2))))))))
        pss_nil)
      (pss_cons (ps_for PassesOwn.never rfl (pi_range2 rfl B.range (pa_cons (pe_op op_add (pv 5) pe_int) (pa_cons (pv 4) pa_nil))) (pg_name (i := 8) sc_worth_of.nd rfl (.inl rfl))
        (pss_one (ps_for PassesOwn.never rfl (pi_range2 rfl B.range (pa_cons (pe_op op_add (pv 5) pe_int) (pa_cons (pv 4) pa_nil))) (pg_name (i := 9) sc_worth_of.nd rfl (.inl rfl))
          (pss_cons (ps_set (i := 10) sc_worth_of.nd rfl (.inl rfl) (pe_op op_sub (pe_op op_mul (pe_ix ix_list (pe_ix ix_list (pv 1) (pv 8) (fun _ _ => rfl)) (pv 9) (fun _ _ => rfl)) (pe_ix ix_list (pe_ix ix_list (pv 1) (pv 5) (fun _ _ => rfl)) (pv 5) (fun _ _ => rfl))) (pe_op op_mul (pe_ix ix_list (pe_ix ix_list (pv 1) (pv 8) (fun _ _ => rfl)) (pv 5) (fun _ _ => rfl)) (pe_ix ix_list (pe_ix ix_list (pv 1) (pv 5) (fun _ _ => rfl)) (pv 9) (fun _ _ => rfl)))))
          (pss_one (ps_asg (pe_op op_fdivA (pv 10) (pv 3)) (pg_sub (pe_ix ix_list (pv 1) (pv 8) (fun _ _ => rfl)) (pv 9) set_list)))))))
      (pss_one (ps_set (i := 3) sc_worth_of.nd rfl (.inl rfl) (pe_ix ix_list (pe_ix ix_list (pv 1) (pv 5) (fun _ _ => rfl)) (pv 5) (fun _ _ => rfl)))))))
    (pss_one (ps_ret (pe_op op_mul (pv 2) (pe_ix ix_list (pe_ix ix_list (pv 1) (pe_op op_sub (pv 4) pe_int) (fun _ _ => rfl)) (pe_op op_sub (pv 4) pe_int) (fun _ _ => rfl)))))))), ?_⟩
  obtain ⟨_, rfl, a, n, ad0, M0, v, rfl, hT, n1, n2, wo, q⟩ := h
  -- the rows copied
  refine ⟨_, rfl, a, rfl, ⟨_, hT.top⟩, fun D hD => lc_list (K := K) (a := a) (xs := (List.range n).map fun i => V.ref (ad0 i)) (fun i H1 => Same H H1 ∧ ∃ ad : Nat → Addr, H1 D = some (.lst ((List.range i).map fun k => V.ref (ad k))) ∧ (∀ k, k < i → H (ad k) = none ∧ ad k ≠ D) ∧ (∀ k l, k < i → l < i → ad k = ad l → k = l) ∧ ∀ k, k < i → H1 (ad k) = some (.lst ((List.range n).map fun j => V.int (M0 k j))))
    ⟨(Same.refl H).new hD, ad0, upd_same, fun k z => by omega, fun k l z => by omega, fun k z => by omega⟩ (fun i H1 _ z => SqL.same z.1 hT.top) ?_ ?_⟩
  · rintro i x H1 hx ⟨s1, ad, e1, e2, e3, e4⟩
    have hi : i < n := by
      have := (List.getElem?_eq_some_iff.mp hx).1
      simpa using this
    rw [List.getElem?_map, List.getElem?_range hi] at hx
    cases hx
    refine ⟨rfl, _, rfl, ad0 i, _, rfl, .inl (SqL.same s1 (hT.row i hi)), fun l hl => ?_⟩
    have nlD : l ≠ D := (ne_of_none e1 hl).symm
    have hDl : D ≠ l := ne_of_none e1 hl
    have nl : ∀ k, k < i → ad k ≠ l := fun k hk => ne_of_none (e4 k hk) hl
    refine ⟨_, (upd_ne hDl).trans e1, small_lt (by simp; omega), (s1.new hl).mut hD, addA ad i l, ?_, ?_, ?_, ?_⟩
    · rw [upd_same, List.range_succ, List.map_append]
      refine congrArg (fun z => some (HO.lst z)) (congr (congrArg _ (List.map_congr_left fun k hk => ?_)) ?_)
      · have := List.mem_range.mp hk
        rw [addA_ne (by omega)]
      · show _ = [V.ref (addA ad i l i)]
        rw [addA_at]
    · intro k hk
      by_cases e : k = i
      · subst e
        rw [addA_at]
        exact ⟨s1.free hl, nlD⟩
      · rw [addA_ne e]
        exact e2 k (by omega)
    · intro k l' hk hl' z
      by_cases a1 : k = i <;> by_cases a2 : l' = i
      · omega
      · rw [a1, addA_at, addA_ne a2] at z
        exact absurd z.symm (nl l' (by omega))
      · rw [a2, addA_at, addA_ne a1] at z
        exact absurd z (nl k (by omega))
      · rw [addA_ne a1, addA_ne a2] at z
        exact e3 k l' (by omega) (by omega) z
    · intro k hk
      by_cases e : k = i
      · subst e
        rw [addA_at, upd_ne nlD, upd_same]
      · rw [addA_ne e, upd_ne (e2 k (by omega)).2, upd_ne (nl k (by omega))]
        exact e4 k (by omega)
  rintro H1 ⟨s1, ad, e1, e2, e3, e4⟩
  rw [List.length_map, List.length_range] at e1 e2 e3 e4
  have mt : Mat H1 D n ad M0 := ⟨e1, fun i hi => (e2 i hi).2, e3, e4⟩
  have fr : H D = none ∧ ∀ i, i < n → H (ad i) = none := ⟨hD, fun i hi => (e2 i hi).1⟩
  clear e1 e2 e3 e4 hD
  refine ⟨sz3, fun t ht => ⟨t, _, rfl, SqT.of upd_same, rfl, _, _, rfl, _, _, rfl, _, _, rfl, rfl, ?_⟩⟩
  have mt2 := mt.same ((Same.refl H1).new (o := .tup [.ref D, .int 1, .int 1]) ht)
  have s2 := s1.new (o := .tup [.ref D, .int 1, .int 1]) ht
  clear mt s1
  generalize upd H1 t (.tup [.ref D, .int 1, .int 1]) = H2 at mt2 s2
  refine ⟨_, rfl, D, _, rfl, .inl (SqL.of mt2.top), ?_⟩
  rw [List.length_map, List.length_range]
  -- the turns
  refine ⟨_, rfl, _, _, rfl, rfl, _, rfl, by omega, by omega, for_range (fun k σ H' => ∃ (ad : Nat → Addr) (M : Nat → Nat → Int) (sign last : Int) (y5 y6 y7 y8 y9 y10 : Option V), σ = [some (.ref a), some (.ref D), some (.int sign), some (.int last), some (.int n), y5, y6, y7, y8, y9, y10] ∧ Same H H' ∧ Mat H' D n ad M ∧ (∀ i, i < n → H (ad i) = none) ∧ Wo n k sign last M v ∧ k < n)
    ⟨ad, M0, 1, 1, none, none, none, none, none, none, rfl, s2, mt2, fr.2, wo, by omega⟩ ?_ ?_⟩
  · rintro k σ H' hk ⟨ad, M, sign, last, y5, y6, y7, y8, y9, y10, rfl, sm, mt, fad, wo, hkn⟩
    have hk1 : k + 1 < n := by omega
    rw [show (0 : Int) + (k : Int) = (k : Int) by omega]
    refine ⟨fun σ H2 => ∃ (ad : Nat → Addr) (M : Nat → Nat → Int) (sign : Int) (y6 y7 y8 y9 y10 : Option V), σ = [some (.ref a), some (.ref D), some (.int sign), some (.int last), some (.int n), some (.int k), y6, y7, y8, y9, y10] ∧ Same H H2 ∧ Mat H2 D n ad M ∧ (∀ i, i < n → H (ad i) = none) ∧ AllS k n M ∧ DOk last ∧ Wo n (k + 1) sign (M k k) (stepM M k last) v, ⟨_, rfl, _, rfl, D, _, _, _, rfl, rfl, SqL.of mt.top, map_range_at hkn, _, rfl, ad k, _, _, _, rfl, rfl, SqL.of (mt.row k hkn), map_range_at hkn, rfl, _, rfl, ite2 (fun hc => ?_) (fun hc => ?_)⟩, ?_⟩
    · have hc : M k k = 0 := V.int.inj (of_decide_eq_true hc)
      refine ⟨_, rfl, _, _, rfl, rfl, _, rfl, _, _, rfl, ⟨by omega, by omega, by omega, by omega⟩, fun D2 hD2 => lcF_range (fun i => !decide (V.int (M (k + 1 + i) k) = V.int 0)) (fun i => .int (((k + 1 + i : Nat) : Int))) hD2 (by omega) ?_ ?_⟩
      · intro i H3 R S hi s3 hR hS
        have hi : k + 1 + i < n := by omega
        have ei : ((k : Int) + 1 + (i : Int)) = ((k + 1 + i : Nat) : Int) := by omega
        have mt3 := mt.same s3
        rw [ei]
        refine ⟨rfl, _, rfl, _, rfl, D, _, _, _, rfl, rfl, SqL.of mt3.top, map_range_at hi, _, rfl, ad (k + 1 + i), _, _, _, rfl, rfl, SqL.of (mt3.row (k + 1 + i) hi), map_range_at hkn, rfl, _, rfl, ite2 (fun hb => ⟨_, rfl, hR hb _ _ (Same.refl _) (.int _)⟩) (fun hb => hS (by simpa using hb) _ (Same.refl _))⟩
      · intro H3 s3 r3
        obtain ⟨fl, hfl⟩ : ∃ fl : List Nat, ((List.range ((n : Int) - ((k : Int) + 1)).toNat).filter fun i => !decide (V.int (M (k + 1 + i) k) = V.int 0)) = fl := ⟨_, rfl⟩
        have hm : ∀ i, i ∈ fl ↔ i < n - (k + 1) ∧ M (k + 1 + i) k ≠ 0 := by
          intro i
          rw [← hfl, List.mem_filter, List.mem_range]
          constructor
          · rintro ⟨h1, h2⟩
            exact ⟨by omega, by simpa using h2⟩
          · rintro ⟨h1, h2⟩
            exact ⟨by omega, by simpa using h2⟩
        have hpw : fl.Pairwise (· < ·) := hfl ▸ List.Pairwise.filter _ List.pairwise_lt_range
        rw [hfl, show fl.map (fun i => PyData.int (((k + 1 + i : Nat) : Int))) = (fl.map fun i => ((k + 1 + i : Nat) : Int)).map PyData.int by rw [List.map_map]; rfl] at r3
        have e3 := r3.ints
        have mt3 := mt.same s3
        refine ⟨_, rfl, sz0, fun e he => ⟨.list ((fl.map fun i => ((k + 1 + i : Nat) : Int)).map PyData.int), .list [], dp_ints (SqL.of ((upd_ne (ne_of_none e3 he)).trans e3)), dp_ints (ns := []) (SqL.of upd_same), ?_, ?_, ?_⟩⟩
        · exact shaped_map (f := PyData.int) (fun _ => rfl) (fun _ => by simp [PyData.depth])
        · exact shaped_map (f := PyData.int) (xs := []) (fun _ => rfl) (fun _ => by simp [PyData.depth])
        rw [show PyData.eqv (.list ((fl.map fun i => ((k + 1 + i : Nat) : Int)).map PyData.int)) (.list []) = decide ((fl.map fun i => ((k + 1 + i : Nat) : Int)) = []) from eqv_list (f := PyData.int) eqv_int _ []]
        cases fl with
        | nil =>
          refine ⟨_, rfl, ite2 (fun _ => ?_) (fun z => absurd (decide_eq_true rfl) z)⟩
          have z0 : ∀ i, k < i → i < n → M i k = 0 := fun i h1 h2 => by
            refine Classical.byContradiction fun z => ?_
            have := (hm (i - (k + 1))).mpr ⟨by omega, by rwa [show k + 1 + (i - (k + 1)) = i by omega]⟩
            simp at this
          have hv : v = 0 := by
            cases wo with
            | done h1 _ => omega
            | zero _ _ _ => rfl
            | swap b _ _ h3 h4 h5 _ _ _ _ => exact absurd (z0 b h3 h4) h5
            | go _ h2 _ _ _ => exact absurd hc h2
          rw [← hv]
          exact q _ ((sm.trans s3).new he)
        | cons i0 fl =>
          refine ⟨_, rfl, ite2 (fun z => by simp at z) (fun _ => ?_)⟩
          obtain ⟨hi0, hne⟩ := (hm i0).mp List.mem_cons_self
          have hb : k + 1 + i0 < n := by omega
          have below : ∀ i, k < i → i < k + 1 + i0 → M i k = 0 := fun i h1 h2 => by
            refine Classical.byContradiction fun z => ?_
            have := (hm (i - (k + 1))).mpr ⟨by omega, by rwa [show k + 1 + (i - (k + 1)) = i by omega]⟩
            rcases List.mem_cons.mp this with e | e
            · omega
            · have := (List.pairwise_cons.mp hpw).1 _ e
              omega
          obtain ⟨hS, hD, wo2⟩ : AllS k n M ∧ DOk last ∧ Wo n (k + 1) (0 - sign) (M (k + 1 + i0) k) (stepM (swapM M k (k + 1 + i0)) k last) v := by
            cases wo with
            | done h1 _ => omega
            | zero _ _ h3 => exact absurd (h3 _ (by omega) hb) hne
            | swap b _ _ h3 h4 h5 h6 h7 h8 h9 =>
              have e : b = k + 1 + i0 := by
                rcases Nat.lt_trichotomy b (k + 1 + i0) with z | z | z
                · exact absurd (below b h3 z) h5
                · exact z
                · exact absurd (h6 (k + 1 + i0) (by omega) z) hne
              subst e
              exact ⟨h7, h8, h9⟩
            | go _ h2 _ _ _ => exact absurd hc h2
          have s4 := s3.new (o := .lst []) he
          have mt4 := mt3.same ((Same.refl H3).new (o := .lst []) he)
          have e4 : (upd H3 e (.lst [])) D2 = some (.lst (V.int ((k + 1 + i0 : Nat) : Int) :: (fl.map fun i => ((k + 1 + i : Nat) : Int)).map V.int)) := (upd_ne (ne_of_none e3 he)).trans e3
          have nDD : D ≠ D2 := ne_of_none mt.top hD2
          have sm4 := sm.trans s4
          clear e3 r3 mt3 he hm hpw hfl
          generalize upd H3 e (.lst []) = H4 at s4 mt4 e4 sm4
          refine ⟨_, rfl, _, rfl, D, _, _, _, rfl, rfl, SqL.of mt4.top, map_range_at hkn, ?_⟩
          refine ⟨_, rfl, _, rfl, D2, _, _, _, rfl, rfl, SqL.of e4, atC, D, _, _, _, rfl, rfl, SqL.of mt4.top, map_range_at hb, _, rfl, sz2, fun t ht => ?_⟩
          have tD : D ≠ t := ne_of_none mt4.top ht
          have tD2 : D2 ≠ t := ne_of_none e4 ht
          have mt5 := mt4.same ((Same.refl H4).new (o := .tup [.ref (ad (k + 1 + i0)), .ref (ad k)]) ht)
          have e5 : (upd H4 t (.tup [.ref (ad (k + 1 + i0)), .ref (ad k)])) D2 = _ := (upd_ne tD2).trans e4
          refine ⟨t, _, rfl, SqT.of upd_same, rfl, _, _, rfl, ⟨_, rfl, _, rfl, D, _, _, k, rfl, rfl, mt5.top, by rw [len_map_range]; exact ixN_nat hkn, ?_⟩⟩
          refine ⟨_, _, rfl, ⟨_, rfl, _, rfl, D2, _, _, _, rfl, rfl, SqL.of ((upd_ne nDD.symm).trans e5), atC, D, _, _, k + 1 + i0, rfl, rfl, upd_same, by rw [List.length_set, len_map_range]; exact ixN_nat hb, rfl, ?_⟩⟩
          refine ⟨_, rfl, _, _, rfl, rfl, _, swapM M k (k + 1 + i0), 0 - sign, _, _, _, _, _, rfl, ?_, mt5.swap hkn hb (by omega), fun i hi => ?_, hS.swap (by omega) hb, hD, ?_⟩
          · exact ((sm4.new ht).mut fr.1).mut fr.1
          · show H (if i = k then ad (k + 1 + i0) else if i = k + 1 + i0 then ad k else ad i) = none
            split
            · exact fad _ hb
            · split
              · exact fad _ hkn
              · exact fad _ hi
          · have : swapM M k (k + 1 + i0) k k = M (k + 1 + i0) k := by unfold swapM; rw [if_pos rfl]
            rw [this]
            exact wo2
    · have hc : M k k ≠ 0 := fun z => hc (decide_eq_true (by rw [z]))
      obtain ⟨hS, hD, wo2⟩ : AllS k n M ∧ DOk last ∧ Wo n (k + 1) sign (M k k) (stepM M k last) v := by
        cases wo with
        | done h1 _ => omega
        | zero _ h2 _ => exact absurd h2 hc
        | swap b _ h2 h3 h4 h5 h6 h7 h8 h9 => exact absurd h2 hc
        | go _ h2 h3 h4 h5 => exact ⟨h3, h4, h5⟩
      exact ⟨ad, M, sign, _, _, _, _, _, rfl, sm, mt, fad, hS, hD, wo2⟩
    -- the rows below
    clear wo sign mt fad sm ad M y5 y6 y7 y8 y9 y10
    rintro σ H2 ⟨ad, M, sign, y6, y7, y8, y9, y10, rfl, sm, mt, fad, hS, hD, wo⟩
    refine ⟨_, rfl, _, _, rfl, rfl, _, rfl, _, _, rfl, ⟨by omega, by omega, by omega, by omega⟩, for_range (fun i σ H3 => ∃ (y8 y9 y10 : Option V), σ = [some (.ref a), some (.ref D), some (.int sign), some (.int last), some (.int n), some (.int k), y6, y7, y8, y9, y10] ∧ Same H H3 ∧ Mat H3 D n ad (partM M k last i 0))
      ⟨y8, y9, y10, rfl, sm, by rw [partM_zero]; exact mt⟩ ?_ ?_⟩
    · rintro i σ H3 hi ⟨y8, y9, y10, rfl, sm, mt⟩
      have hi : k + 1 + i < n := by omega
      rw [show ((k : Int) + 1 + (i : Int)) = ((k + 1 + i : Nat) : Int) by omega]
      refine ⟨_, rfl, _, _, rfl, rfl, _, rfl, _, _, rfl, ⟨by omega, by omega, by omega, by omega⟩, for_range (fun j σ H4 => ∃ (y9 y10 : Option V), σ = [some (.ref a), some (.ref D), some (.int sign), some (.int last), some (.int n), some (.int k), y6, y7, some (.int ((k + 1 + i : Nat) : Int)), y9, y10] ∧ Same H H4 ∧ Mat H4 D n ad (partM M k last i j))
        ⟨y9, y10, rfl, sm, mt⟩ ?_ ?_⟩
      · rintro j σ H4 hj ⟨y9, y10, rfl, sm, mt⟩
        have hj : k + 1 + j < n := by omega
        rw [show ((k : Int) + 1 + (j : Int)) = ((k + 1 + j : Nat) : Int) by omega]
        have p1 : partM M k last i j (k + 1 + i) (k + 1 + j) = M (k + 1 + i) (k + 1 + j) := by unfold partM; rw [if_neg (by omega)]
        have p2 : partM M k last i j k k = M k k := by unfold partM; rw [if_neg (by omega)]
        have p3 : partM M k last i j (k + 1 + i) k = M (k + 1 + i) k := by unfold partM; rw [if_neg (by omega)]
        have p4 : partM M k last i j k (k + 1 + j) = M k (k + 1 + j) := by unfold partM; rw [if_neg (by omega)]
        have b1 := hS k k (Nat.le_refl k) (Nat.le_refl k) hkn hkn
        have b2 := hS (k + 1 + i) k (by omega) (by omega) hi hkn
        have put := mt.put (i := k + 1 + i) (j := k + 1 + j) (v := (M (k + 1 + i) (k + 1 + j) * M k k - M (k + 1 + i) k * M k (k + 1 + j)).fdiv last) hi
        rw [partM_next] at put
        refine ⟨_, rfl, _, rfl, D, _, _, _, rfl, rfl, SqL.of mt.top, map_range_at hi, _, rfl, ad (k + 1 + i), _, _, _, rfl, rfl, SqL.of (mt.row (k + 1 + i) hi), map_range_at hj, _, rfl, _, rfl, D, _, _, _, rfl, rfl, SqL.of mt.top, map_range_at hkn, _, rfl, ad k, _, _, _, rfl, rfl, SqL.of (mt.row k hkn), map_range_at hkn, _, _, rfl, rfl, by rw [p2]; exact .inr ⟨by omega, by omega⟩, _, rfl, _, rfl, D, _, _, _, rfl, rfl, SqL.of mt.top, map_range_at hi, _, rfl, ad (k + 1 + i), _, _, _, rfl, rfl, SqL.of (mt.row (k + 1 + i) hi), map_range_at hkn, _, rfl, _, rfl, D, _, _, _, rfl, rfl, SqL.of mt.top, map_range_at hkn, _, rfl, ad k, _, _, _, rfl, rfl, SqL.of (mt.row k hkn), map_range_at hj, _, _, rfl, rfl, by rw [p3]; exact .inl ⟨by omega, by omega⟩, _, _, rfl, rfl, ?_⟩
        rw [p1, p2, p3, p4]
        refine ⟨_, rfl, _, rfl, _, _, rfl, rfl, hD, _, rfl, _, rfl, D, _, _, _, rfl, rfl, SqL.of mt.top, map_range_at hi, _, rfl, ad (k + 1 + i), _, _, k + 1 + j, rfl, rfl, mt.row _ hi, by rw [len_map_range]; exact ixN_nat hj, ?_⟩
        exact ⟨_, _, rfl, sm.mut (fad _ hi), put⟩
      · rintro σ H4 ⟨y9, y10, rfl, sm, mt⟩
        refine ⟨_, y9, y10, rfl, sm, mt.congr fun x y hx hy => ?_⟩
        unfold partM
        by_cases c : k < x ∧ k < y ∧ (x < k + 1 + (i + 1) ∨ x = k + 1 + (i + 1) ∧ y < k + 1 + 0)
        · rw [if_pos c, if_pos (by omega)]
        · rw [if_neg c, if_neg (by omega)]
    · rintro σ H3 ⟨y8, y9, y10, rfl, sm, mt⟩
      have mt := mt.congr (M' := stepM M k last) fun x y hx hy => by
        unfold partM stepM
        by_cases c : k < x ∧ k < y
        · rw [if_pos c, if_pos (by omega)]
        · rw [if_neg c, if_neg (by omega)]
      refine ⟨_, rfl, _, rfl, D, _, _, _, rfl, rfl, SqL.of mt.top, map_range_at hkn, _, rfl, ad k, _, _, _, rfl, rfl, SqL.of (mt.row k hkn), map_range_at hkn, ?_⟩
      refine ⟨ad, stepM M k last, sign, _, _, _, _, _, _, _, rfl, sm, mt, fad, ?_, by omega⟩
      have : stepM M k last k k = M k k := by unfold stepM; rw [if_neg (by omega)]
      rw [this]
      exact wo
  · rintro σ H' ⟨ad, M, sign, last, y5, y6, y7, y8, y9, y10, rfl, sm, mt, fad, wo, hkn⟩
    rw [show ((n : Int) - 1).toNat = n - 1 by omega] at wo
    have hn1 : n - 1 < n := by omega
    have en : ((n : Int) - 1) = ((n - 1 : Nat) : Int) := by omega
    refine ⟨_, rfl, _, rfl, _, rfl, _, _, rfl, rfl, D, _, _, _, rfl, rfl, SqL.of mt.top, by rw [en]; exact map_range_at hn1, _, rfl, _, _, rfl, rfl, ad (n - 1), _, _, _, rfl, rfl, SqL.of (mt.row (n - 1) hn1), by rw [en]; exact map_range_at hn1, ?_⟩
    cases wo with
    | done h1 h2 => exact ⟨_, _, rfl, rfl, .inr ⟨by omega, by omega⟩, q _ sm⟩
    | zero h1 _ _ => omega
    | swap b h1 _ _ _ _ _ _ _ _ => omega
    | go h1 _ _ _ _ => omega

end
end M
namespace M
open PySem PySem.Spec PyProof.Rows L2 G
section
variable {P : Program} {w : World} {K : PySem.W.Frag} {mg : Str → Option Value} {base : Heap}
/-! tables handed in -/
def sp_is_table_value (K : PySem.W.Frag) : Sp := spec1 fun x H Q _ => ∃ (a : Addr) (n : Nat) (ad : Nat → Addr) (M : Nat → Nat → Int), x = .ref a ∧ TabM K H a n ad M ∧ 1 ≤ n ∧ n ≤ 12 ∧ (∀ i j, i < n → j < n → (M i j).natAbs < 1000000000000000000000000000000) ∧ ∀ H', Same H H' → Q (.bl true) H'
theorem ok_is_table_value {af : Addr} {fd : FuncData} (F : FunD K "is_table_value" "is_table_value" (defArgs s_is_table_value) (defBody s_is_table_value) (defScope s_is_table_value) [] [] af fd) (B : Bt mg) (C_is_list : Cl P w K mg base 1 "is_list" 1 [] (sp_is_list K)) (C_is_integer : Cl P w K mg base 1 "is_integer" 1 [] (sp_is_integer K)) {t_MOST_LOT : Tok} (c_MOST_LOT : mg "MOST_LOT" = some (.int 12 t_MOST_LOT)) {t_LONGEST : Tok} (c_LONGEST : mg "LONGEST" = some (.int 1000000000000000000000000000000 t_LONGEST)) : FnG P w K mg base CX0 2 af fd ["value"] (sp_is_table_value K) := by
  refine okG F sc_is_table_value ar1 fun cdv A outer s H vs Q E hg hr h => ?_
  refine ⟨_, PSs.nox (pss_cons (ps_if (PW.pt (pw_or (pt_not (pt_val (pe_cl C_is_list hg hr (by decide) rfl (pa_cons (pv 0) pa_nil)))) (pw_or1 (pt_not (pt_chain op_le op_le pe_int (pe_callB call_len_seq (by rfl) B.len (by decide +kernel) (pa_cons (pv 0) pa_nil)) (pe_glob (v := .int 12) rfl c_MOST_LOT ⟨_, rfl⟩))))))
      (pss_one (ps_ret pe_bl))
      pss_nil)
    (pss_cons (ps_for PassesOwn.never rfl ((pi_list (pv 0))) (pg_name (i := 1) sc_is_table_value.nd rfl (.inl rfl))
      (pss_cons (ps_if (PW.pt (pw_or (pt_not (pt_val (pe_cl C_is_list hg hr (by decide) rfl (pa_cons (pv 1) pa_nil)))) (pw_or1 (pt_cmpR op_ne (pe_callB call_len_seq (by rfl) B.len (by decide +kernel) (pa_cons (pv 1) pa_nil)) (pe_callB call_len_seq (by rfl) B.len (by decide +kernel) (pa_cons (pv 0) pa_nil)) (nomark _)))))
        (pss_one (ps_ret pe_bl))
        pss_nil)
      (pss_one (ps_if (pt_not (pt_val (pe_callB (cr_all rfl) (by rfl) B.all (by decide +kernel) (pa_cons (pe_lc (own := [("one", 2)]) rfl sc_is_table_value.nd ((pi_list (pv 1))) (blkOk_by (own := [("one", 2)]) (N := ["value", "row", "one"]) (sc := defScope s_is_table_value) (by decide +kernel)) (fun _ _ _ _ _ => pg_name (i := 2) sc_is_table_value.nd rfl (.inl rfl) (.inr rfl)) (fun _ _ _ _ _ => pts_nil) (fun _ _ _ _ _ => (pe_and (pe_cl C_is_integer hg hr (by decide) rfl (pa_cons (pv 2) pa_nil)) (pe_one (pe_chain op_lt op_lt (pe_op op_sub pe_int (pe_glob (v := .int 1000000000000000000000000000000) rfl c_LONGEST ⟨_, rfl⟩)) (pv 2) (pe_glob (v := .int 1000000000000000000000000000000) rfl c_LONGEST ⟨_, rfl⟩)))))) pa_nil))))
        (pss_one (ps_ret pe_bl))
        pss_nil))))
    (pss_one (ps_ret pe_bl)))), ?_⟩
  obtain ⟨_, rfl, a, n, ad, M, rfl, hT, n1, n2, hM, q⟩ := h
  refine ⟨_, rfl, _, rfl, a, _, rfl, .inl hT.top, fun H1 s1 => ⟨_, rfl, iteF ⟨_, rfl, a, _, rfl, .inl (hT.same s1).top, _, _, rfl, rfl, true, bl_t (by rw [len_map_range]; omega), iteT ⟨_, _, rfl, rfl, true, bl_t (by rw [len_map_range]; omega), iteF ?_⟩⟩⟩⟩
  refine ⟨_, rfl, a, rfl, ⟨_, (hT.same s1).top⟩, for_list (K := K) (a := a) (xs := (List.range n).map fun i => V.ref (ad i)) (fun i σ H2 => ∃ y1 y2 : Option V, σ = [some (.ref a), y1, y2] ∧ Same H H2) ⟨none, none, rfl, s1⟩ (fun i σ H2 _ ⟨_, _, _, z⟩ => (hT.same z).top) ?_ ?_⟩
  · rintro i x σ H2 hx ⟨y1, y2, rfl, s2⟩
    have hi : i < n := by
      have := (List.getElem?_eq_some_iff.mp hx).1
      simpa using this
    rw [List.getElem?_map, List.getElem?_range hi] at hx
    cases hx
    have r2 := SqL.same s2 (hT.row i hi)
    refine ⟨_, rfl, _, rfl, ad i, _, rfl, .inl r2, fun H3 s3 => ⟨_, rfl, iteF ⟨_, rfl, ad i, _, rfl, .inl (SqL.same s3 r2), _, rfl, a, _, rfl, .inl ((hT.same s2).same s3).top, ?_⟩⟩⟩
    refine ⟨rfl, _, bl_nf (by rw [len_map_range, len_map_range]), iteF ?_⟩
    have r3 := SqL.same s3 r2
    refine ⟨_, rfl, ad i, rfl, ⟨_, r3⟩, fun D hD => lcM_list (K := K) (c := fun j : Nat => V.int (M i j)) (src := List.range n) (fun _ => .bool true) hD r3 (by rw [List.length_range]; omega) ?_ ?_⟩
    · intro j z H4 R S hz s4 hR
      have hzn : z < n := List.mem_range.mp (List.mem_of_getElem? hz)
      have hb := hM i z hi hzn
      refine ⟨rfl, _, rfl, _, rfl, _, rfl, true, rfl, iteT ⟨_, _, rfl, rfl, _, rfl, _, _, rfl, rfl, true, bl_t (by omega), iteT ⟨_, _, rfl, rfl, blT (Q := R) (by omega) (hR _ _ (Same.refl _) (.bl true))⟩⟩⟩
    · intro H4 s4 r4
      rw [show (List.range n).map (fun _ : Nat => PyData.bool true) = (List.replicate n true).map PyData.bool by rw [List.map_replicate, List.map_const', List.length_range]] at r4
      refine ⟨D, _, rfl, SqL.of r4.bls, _, rfl, ?_⟩
      rw [all_rep]
      exact iteF ⟨_, _, rfl, ((s2.trans s3).trans s4)⟩
  · rintro σ H2 ⟨y1, y2, rfl, s2⟩
    exact q _ s2
def sp_want_table (K : PySem.W.Frag) : Sp := spec1 fun x H Q _ => ∃ (a : Addr) (n : Nat) (ad : Nat → Addr) (M : Nat → Nat → Int), x = .ref a ∧ TabM K H a n ad M ∧ 1 ≤ n ∧ n ≤ 12 ∧ (∀ i j, i < n → j < n → (M i j).natAbs < 1000000000000000000000000000000) ∧ ∀ H', Same H H' → Q .non H'
theorem ok_want_table {af : Addr} {fd : FuncData} (F : FunD K "want_table" "want_table" (defArgs s_want_table) (defBody s_want_table) (defScope s_want_table) [] [] af fd) (B : Bt mg) (C_is_table_value : Cl P w K mg base 2 "is_table_value" 1 [] (sp_is_table_value K)) : FnG P w K mg base CX0 3 af fd ["value"] (sp_want_table K) := by
  refine okG F sc_want_table ar1 fun cdv A outer s H vs Q E hg hr h => ?_
  refine ⟨_, PSs.nox (pss_one (ps_if (pt_not (pt_val (pe_cl C_is_table_value hg hr (by decide) rfl (pa_cons (pv 0) pa_nil))))
      (pss_one ps_never)
      pss_nil)), ?_⟩
  obtain ⟨_, rfl, a, n, ad, M, rfl, hT, n1, n2, hM, q⟩ := h
  exact ⟨_, rfl, _, rfl, a, n, ad, M, rfl, hT, n1, n2, hM, fun H1 s1 => ⟨_, rfl, iteF (q _ s1)⟩⟩
def sp_table_worth (K : PySem.W.Frag) : Sp := spec1 fun x H Q _ => ∃ (a : Addr) (n : Nat) (ad : Nat → Addr) (M : Nat → Nat → Int) (v : Int), x = .ref a ∧ TabM K H a n ad M ∧ 1 ≤ n ∧ n ≤ 12 ∧ (∀ i j, i < n → j < n → (M i j).natAbs < 1000000000000000000000000000000) ∧ Wo n 0 1 1 M v ∧ ∀ H', Same H H' → Q (.int v) H'
theorem ok_table_worth {af : Addr} {fd : FuncData} (F : FunD K "table_worth" "table_worth" (defArgs s_table_worth) (defBody s_table_worth) (defScope s_table_worth) [] [] af fd) (B : Bt mg) (C_want_table : Cl P w K mg base 3 "want_table" 1 [] (sp_want_table K)) (C_worth_of : Cl P w K mg base 1 "worth_of" 1 [] (sp_worth_of K)) : FnG P w K mg base CX0 4 af fd ["table"] (sp_table_worth K) := by
  refine okG F sc_table_worth ar1 fun cdv A outer s H vs Q E hg hr h => ?_
  refine ⟨_, PSs.nox (pss_cons (ps_expr (pe_cl C_want_table hg hr (by decide) rfl (pa_cons (pv 0) pa_nil)))
    (pss_one (ps_ret (pe_cl C_worth_of hg hr (by decide) rfl (pa_cons (pv 0) pa_nil))))), ?_⟩
  obtain ⟨_, rfl, a, n, ad, M, v, rfl, hT, n1, n2, hM, wo, q⟩ := h
  exact ⟨_, rfl, _, rfl, a, n, ad, M, rfl, hT, n1, n2, hM, fun H1 s1 => ⟨_, rfl, _, rfl, a, n, ad, M, v, rfl, hT.same s1, n1, by omega, wo, fun H2 s2 => q _ (s1.trans s2)⟩⟩

end
end M
namespace M
open PySem PySem.Spec PyProof.Rows L2 G
section
variable {P : Program} {w : World} {K : PySem.W.Frag} {mg : Str → Option Value} {base : Heap}
/-! lots handed in, their tables -/
structure LotF (n : Nat) (g : Nat → Nat) : Prop where
  n1 : 1 ≤ n
  n2 : n ≤ 12
  lo : ∀ i, i < n → 1 ≤ g i
  hi : ∀ i, i < n → g i ≤ 1000000
  up : ∀ i j, i < j → j < n → g i < g j
def gV (n : Nat) (g : Nat → Nat) : List V := (List.range n).map fun i => V.int (g i : Nat)
theorem gV_len {n : Nat} {g : Nat → Nat} : (gV n g).length = n := len_map_range
theorem gV_get {n i : Nat} {g : Nat → Nat} {x : V} (h : (gV n g)[i]? = some x) : i < n ∧ x = V.int (g i : Nat) := by
  have hi : i < n := by
    have := (List.getElem?_eq_some_iff.mp h).1
    rwa [gV_len] at this
  unfold gV at h
  rw [List.getElem?_map, List.getElem?_range hi] at h
  cases h
  exact ⟨hi, rfl⟩
theorem gV_drop {n i : Nat} {g : Nat → Nat} {x : V} (h : ((gV n g).drop 1)[i]? = some x) : i + 1 < n ∧ x = V.int (g (i + 1) : Nat) := by
  rw [List.getElem?_drop] at h
  have := gV_get h
  rw [Nat.add_comm] at this
  exact this
def sp_is_lot_value (K : PySem.W.Frag) : Sp := spec1 fun x H Q _ => ∃ (p : Addr) (n : Nat) (g : Nat → Nat), x = .ref p ∧ SqL K H p (gV n g) ∧ LotF n g ∧ ∀ H', Same H H' → Q (.bl true) H'
theorem ok_is_lot_value {af : Addr} {fd : FuncData} (F : FunD K "is_lot_value" "is_lot_value" (defArgs s_is_lot_value) (defBody s_is_lot_value) (defScope s_is_lot_value) [] [] af fd) (B : Bt mg) (C_is_list : Cl P w K mg base 1 "is_list" 1 [] (sp_is_list K)) (C_is_number_of : Cl P w K mg base 2 "is_number_of" 2 [] (sp_is_number_of K)) {t_MOST_LOT : Tok} (c_MOST_LOT : mg "MOST_LOT" = some (.int 12 t_MOST_LOT)) {t_GREATEST_IN : Tok} (c_GREATEST_IN : mg "GREATEST_IN" = some (.int 1000000 t_GREATEST_IN)) : FnG P w K mg base CX0 3 af fd ["value"] (sp_is_lot_value K) := by
  refine okG F sc_is_lot_value ar1 fun cdv A outer s H vs Q E hg hr h => ?_
  refine ⟨_, PSs.nox (pss_cons (ps_if (PW.pt (pw_or (pt_not (pt_val (pe_cl C_is_list hg hr (by decide) rfl (pa_cons (pv 0) pa_nil)))) (pw_or1 (pt_not (pt_chain op_le op_le pe_int (pe_callB call_len_seq (by rfl) B.len (by decide +kernel) (pa_cons (pv 0) pa_nil)) (pe_glob (v := .int 12) rfl c_MOST_LOT ⟨_, rfl⟩))))))
      (pss_one (ps_ret pe_bl))
      pss_nil)
    (pss_cons (ps_if (pt_not (pt_val (pe_callB (cr_all rfl) (by rfl) B.all (by decide +kernel) (pa_cons (pe_lc (own := [("one", 1)]) rfl sc_is_lot_value.nd ((pi_list (pv 0))) (blkOk_by (own := [("one", 1)]) (N := ["value", "one", "near", "far"]) (sc := defScope s_is_lot_value) (by decide +kernel)) (fun _ _ _ _ _ => pg_name (i := 1) sc_is_lot_value.nd rfl (.inl rfl) (.inr rfl)) (fun _ _ _ _ _ => pts_nil) (fun _ _ _ _ _ => (pe_cl C_is_number_of hg hr (by decide) rfl (pa_cons (pv 1) (pa_cons (pe_glob (v := .int 1000000) rfl c_GREATEST_IN ⟨_, rfl⟩) pa_nil))))) pa_nil))))
      (pss_one (ps_ret pe_bl))
      pss_nil)
    (pss_one (ps_ret (pe_callB (cr_all rfl) (by rfl) B.all (by decide +kernel) (pa_cons (pe_lc (own := [("near", 2), ("far", 3)]) (g := gTup K 2 (gCons (gName 2) (gCons (gName 3) gNil))) rfl sc_is_lot_value.nd ((pi_zip (by rfl) B.zip (pa_cons (pv 0) (pa_cons (pe_slice sl_list (pv 0) (po_some pe_int) po_none) pa_nil)))) (blkOk_by (own := [("near", 2), ("far", 3)]) (N := ["value", "one", "near", "far"]) (sc := defScope s_is_lot_value) (by decide +kernel)) (fun _ _ _ _ _ => pg_tup (n := 2) (by rfl) (pgs_cons (pg_name (i := 2) sc_is_lot_value.nd rfl (.inl rfl) (.inr rfl)) (pgs_cons (pg_name (i := 3) sc_is_lot_value.nd rfl (.inl rfl) (.inr rfl)) pgs_nil (by rfl)) (by rfl)) (by rfl) (by rfl)) (fun _ _ _ _ _ => pts_nil) (fun _ _ _ _ _ => (pe_cmpR op_lt (pv 2) (pv 3) (nomark _)))) pa_nil)))))), ?_⟩
  obtain ⟨_, rfl, p, n, g, rfl, hS, L, q⟩ := h
  have n1 := L.n1
  have n2 := L.n2
  refine ⟨_, rfl, _, rfl, p, _, rfl, .inl hS, fun H1 s1 => ⟨_, rfl, iteF ⟨_, rfl, p, _, rfl, .inl (SqL.same s1 hS), _, _, rfl, rfl, true, bl_t (by rw [gV_len]; omega), iteT ⟨_, _, rfl, rfl, true, bl_t (by rw [gV_len]; omega), iteF ?_⟩⟩⟩⟩
  refine ⟨_, rfl, p, rfl, ⟨_, SqL.same s1 hS⟩, fun D hD => lcM_list (K := K) (c := fun j : Nat => V.int (g j : Nat)) (src := List.range n) (fun _ => .bool true) hD (SqL.same s1 hS) (by rw [List.length_range]; omega) ?_ ?_⟩
  · intro j z H4 R S hz s4 hR
    have hzn : z < n := List.mem_range.mp (List.mem_of_getElem? hz)
    have b1 := L.lo z hzn
    have b2 := L.hi z hzn
    exact ⟨rfl, _, rfl, _, _, rfl, (g z : Nat), 1000000, rfl, rfl, by omega, by omega, hR _ _ (Same.refl _) (.bl true)⟩
  · intro H4 s4 r4
    rw [show (List.range n).map (fun _ : Nat => PyData.bool true) = (List.replicate n true).map PyData.bool by rw [List.map_replicate, List.map_const', List.length_range]] at r4
    refine ⟨D, _, rfl, SqL.of r4.bls, _, rfl, ?_⟩
    rw [all_rep]
    refine iteF ?_
    have S4 := SqL.same (s1.trans s4) hS
    refine ⟨_, rfl, _, rfl, _, rfl, p, _, rfl, S4, fun p2 hp2 => ?_⟩
    have S5 := SqL.same ((Same.refl H4).new (o := .lst ((gV n g).drop 1)) hp2) S4
    rw [show (some (1 : Int)) = some ((1 : Nat) : Int) from rfl, cut_from]
    refine ⟨_, _, _, _, rfl, S5, SqL.of upd_same, fun D2 hD2 => lcM_zip (n := n - 1) (fun _ => .bool true) hD2 S5 (SqL.of upd_same) (by rw [List.length_drop, gV_len]; omega) (by omega) ?_ ?_⟩
    · intro i T x y H6 R S hi hx hy s6 eT hR
      obtain ⟨_, rfl⟩ := gV_get hx
      obtain ⟨h2, rfl⟩ := gV_drop hy
      have := L.up i (i + 1) (by omega) h2
      exact ⟨T, _, rfl, SqT.of eT, rfl, _, _, rfl, _, _, rfl, rfl, rfl, _, rfl, _, rfl, _, _, rfl, rfl, blT (Q := R) (by omega) (hR _ _ (Same.refl _) (.bl true))⟩
    · intro H6 s6 r6
      rw [show (List.range (n - 1)).map (fun _ : Nat => PyData.bool true) = (List.replicate (n - 1) true).map PyData.bool by rw [List.map_replicate, List.map_const', List.length_range]] at r6
      refine ⟨D2, _, rfl, SqL.of r6.bls, ?_⟩
      rw [all_rep]
      exact q _ (((s1.trans s4).new hp2).trans s6)
def sp_want_lot (K : PySem.W.Frag) : Sp := spec1 fun x H Q _ => ∃ (p : Addr) (n : Nat) (g : Nat → Nat), x = .ref p ∧ SqL K H p (gV n g) ∧ LotF n g ∧ ∀ H', Same H H' → Q .non H'
theorem ok_want_lot {af : Addr} {fd : FuncData} (F : FunD K "want_lot" "want_lot" (defArgs s_want_lot) (defBody s_want_lot) (defScope s_want_lot) [] [] af fd) (B : Bt mg) (C_is_lot_value : Cl P w K mg base 3 "is_lot_value" 1 [] (sp_is_lot_value K)) : FnG P w K mg base CX0 4 af fd ["value"] (sp_want_lot K) := by
  refine okG F sc_want_lot ar1 fun cdv A outer s H vs Q E hg hr h => ?_
  refine ⟨_, PSs.nox (pss_one (ps_if (pt_not (pt_val (pe_cl C_is_lot_value hg hr (by decide) rfl (pa_cons (pv 0) pa_nil))))
      (pss_one ps_never)
      pss_nil)), ?_⟩
  obtain ⟨_, rfl, p, n, g, rfl, hS, L, q⟩ := h
  exact ⟨_, rfl, _, rfl, p, n, g, rfl, hS, L, fun H1 s1 => ⟨_, rfl, iteF (q _ s1)⟩⟩
def tabR (n m : Nat) (M : Nat → Nat → Int) : List (List Int) := (List.range n).map fun i => (List.range m).map fun j => M i j
theorem tabR_D {n m : Nat} {M : Nat → Nat → Int} : tabD (tabR n m M) = .list ((List.range n).map fun i => .list (((List.range m).map fun j => M i j).map PyData.int)) := by
  unfold tabD tabR
  rw [List.map_map]
  rfl
def gcdM (g : Nat → Nat) : Nat → Nat → Int := fun i j => (Nat.gcd (g i) (g j) : Nat)
def lcmM (g : Nat → Nat) : Nat → Nat → Int := fun i j => (g i / Nat.gcd (g i) (g j) * g j : Nat)
def divM (g h : Nat → Nat) : Nat → Nat → Int := fun i j => if h j ∣ g i then 1 else 0
def sp_shares_of (K : PySem.W.Frag) : Sp := spec1 fun x H Q _ => ∃ (p : Addr) (n : Nat) (g : Nat → Nat), x = .ref p ∧ SqL K H p (gV n g) ∧ LotF n g ∧ ∀ r H', Same H H' → Rp (New H) H' (.ref r) (tabD (tabR n n (gcdM g))) → Q (.ref r) H'
theorem ok_shares_of {af : Addr} {fd : FuncData} (F : FunD K "shares_of" "shares_of" (defArgs s_shares_of) (defBody s_shares_of) (defScope s_shares_of) [] [] af fd) (B : Bt mg) (C_share_of : Cl P w K mg base 1 "share_of" 2 [] (sp_share_of K)) : FnG P w K mg base CX0 2 af fd ["numbers"] (sp_shares_of K) := by
  refine okG F sc_shares_of ar1 fun cdv A outer s H vs Q E hg hr h => ?_
  refine ⟨_, PSs.nox (pss_one (ps_ret (pe_lc (own := [("near", 1)]) rfl sc_shares_of.nd ((pi_list (pv 0))) (blkOk_by (own := [("near", 1)]) (N := ["numbers", "near", "far"]) (sc := defScope s_shares_of) (by decide +kernel)) (fun _ _ _ _ _ => pg_name (i := 1) sc_shares_of.nd rfl (.inr rfl) (.inl rfl)) (fun _ _ _ _ _ => pts_nil) (fun _ _ _ _ _ => (pe_lc (own := [("far", 2)]) rfl sc_shares_of.nd ((kPi (fun K => iList K _) (K := K) rfl (pi_list (pv 0)))) (blkOk_in (own := [("far", 2)]) (N := ["numbers", "near", "far"]) (sc := defScope s_shares_of) rfl (by decide +kernel)) (fun _ _ _ _ _ => pg_name (i := 2) sc_shares_of.nd rfl (.inl rfl) (.inr rfl)) (fun _ _ _ _ _ => pts_nil) (fun _ _ _ _ _ => (pe_cl C_share_of hg hr (by decide) rfl (pa_cons (pv 1) (pa_cons (pv 2) pa_nil))))))))), ?_⟩
  obtain ⟨_, rfl, p, n, g, rfl, hS, L, q⟩ := h
  have n1 := L.n1
  have n2 := L.n2
  refine ⟨_, rfl, p, rfl, ⟨_, hS⟩, fun D hD => lcM_list (K := K) (c := fun i : Nat => V.int (g i : Nat)) (src := List.range n) (fun i => .list (((List.range n).map fun j => gcdM g i j).map PyData.int)) hD hS (by rw [List.length_range]; omega) ?_ ?_⟩
  · intro k i H1 R S hi s1 hR
    have hi : i < n := List.mem_range.mp (List.mem_of_getElem? hi)
    have i1 := L.lo i hi
    have i2 := L.hi i hi
    have S1 := SqL.same s1 hS
    refine ⟨rfl, _, rfl, p, rfl, ⟨_, S1⟩, fun D2 hD2 => lcM_list (K := K) (c := fun i : Nat => V.int (g i : Nat)) (src := List.range n) (fun j => .int (gcdM g i j)) hD2 S1 (by rw [List.length_range]; omega) ?_ ?_⟩
    · intro k2 j H2 R2 T2 hj s2 hR2
      have hj : j < n := List.mem_range.mp (List.mem_of_getElem? hj)
      have j1 := L.lo j hj
      have j2 := L.hi j hj
      have gp : 0 < Nat.gcd (g i) (g j) := Nat.gcd_pos_of_pos_left _ i1
      have gl : Nat.gcd (g i) (g j) ≤ g i := Nat.le_of_dvd i1 (Nat.gcd_dvd_left _ _)
      exact ⟨rfl, _, rfl, _, rfl, _, _, rfl, g i, g j, rfl, rfl, by omega, by omega, hR2 _ _ (Same.refl _) (.int _)⟩
    · intro H2 s2 r2
      rw [map_in] at r2
      exact hR _ _ s2 r2
  · intro H1 s1 r1
    rw [← tabR_D] at r1
    exact q _ _ s1 r1
def sp_share_table (K : PySem.W.Frag) : Sp := sp_shares_of K
theorem ok_share_table {af : Addr} {fd : FuncData} (F : FunD K "share_table" "share_table" (defArgs s_share_table) (defBody s_share_table) (defScope s_share_table) [] [] af fd) (B : Bt mg) (C_want_lot : Cl P w K mg base 4 "want_lot" 1 [] (sp_want_lot K)) (C_shares_of : Cl P w K mg base 2 "shares_of" 1 [] (sp_shares_of K)) : FnG P w K mg base CX0 5 af fd ["numbers"] (sp_share_table K) := by
  refine okG F sc_share_table ar1 fun cdv A outer s H vs Q E hg hr h => ?_
  refine ⟨_, PSs.nox (pss_cons (ps_expr (pe_cl C_want_lot hg hr (by decide) rfl (pa_cons (pv 0) pa_nil)))
    (pss_one (ps_ret (pe_cl C_shares_of hg hr (by decide) rfl (pa_cons (pv 0) pa_nil))))), ?_⟩
  obtain ⟨_, rfl, p, n, g, rfl, hS, L, q⟩ := h
  exact ⟨_, rfl, _, rfl, p, n, g, rfl, hS, L, fun H1 s1 => ⟨_, rfl, _, rfl, p, n, g, rfl, SqL.same s1 hS, L, fun r H2 s2 r2 => q r _ (s1.trans s2) (r2.lift s1)⟩⟩
def sp_multiples_of (K : PySem.W.Frag) : Sp := spec1 fun x H Q _ => ∃ (p : Addr) (n : Nat) (g : Nat → Nat), x = .ref p ∧ SqL K H p (gV n g) ∧ LotF n g ∧ ∀ r H', Same H H' → Rp (New H) H' (.ref r) (tabD (tabR n n (lcmM g))) → Q (.ref r) H'
theorem ok_multiples_of {af : Addr} {fd : FuncData} (F : FunD K "multiples_of" "multiples_of" (defArgs s_multiples_of) (defBody s_multiples_of) (defScope s_multiples_of) [] [] af fd) (B : Bt mg) (C_share_of : Cl P w K mg base 1 "share_of" 2 [] (sp_share_of K)) : FnG P w K mg base CX0 2 af fd ["numbers"] (sp_multiples_of K) := by
  refine okG F sc_multiples_of ar1 fun cdv A outer s H vs Q E hg hr h => ?_
  refine ⟨_, PSs.nox (pss_one (ps_ret (pe_lc (own := [("near", 1)]) rfl sc_multiples_of.nd ((pi_list (pv 0))) (blkOk_by (own := [("near", 1)]) (N := ["numbers", "near", "far"]) (sc := defScope s_multiples_of) (by decide +kernel)) (fun _ _ _ _ _ => pg_name (i := 1) sc_multiples_of.nd rfl (.inr rfl) (.inl rfl)) (fun _ _ _ _ _ => pts_nil) (fun _ _ _ _ _ => (pe_lc (own := [("far", 2)]) rfl sc_multiples_of.nd ((kPi (fun K => iList K _) (K := K) rfl (pi_list (pv 0)))) (blkOk_in (own := [("far", 2)]) (N := ["numbers", "near", "far"]) (sc := defScope s_multiples_of) rfl (by decide +kernel)) (fun _ _ _ _ _ => pg_name (i := 2) sc_multiples_of.nd rfl (.inl rfl) (.inr rfl)) (fun _ _ _ _ _ => pts_nil) (fun _ _ _ _ _ => (pe_op op_mul (pe_op op_fdivW (pv 1) (pe_cl C_share_of hg hr (by decide) rfl (pa_cons (pv 1) (pa_cons (pv 2) pa_nil)))) (pv 2)))))))), ?_⟩
  obtain ⟨_, rfl, p, n, g, rfl, hS, L, q⟩ := h
  have n1 := L.n1
  have n2 := L.n2
  refine ⟨_, rfl, p, rfl, ⟨_, hS⟩, fun D hD => lcM_list (K := K) (c := fun i : Nat => V.int (g i : Nat)) (src := List.range n) (fun i => .list (((List.range n).map fun j => lcmM g i j).map PyData.int)) hD hS (by rw [List.length_range]; omega) ?_ ?_⟩
  · intro k i H1 R S hi s1 hR
    have hi : i < n := List.mem_range.mp (List.mem_of_getElem? hi)
    have i1 := L.lo i hi
    have i2 := L.hi i hi
    have S1 := SqL.same s1 hS
    refine ⟨rfl, _, rfl, p, rfl, ⟨_, S1⟩, fun D2 hD2 => lcM_list (K := K) (c := fun i : Nat => V.int (g i : Nat)) (src := List.range n) (fun j => .int (lcmM g i j)) hD2 S1 (by rw [List.length_range]; omega) ?_ ?_⟩
    · intro k2 j H2 R2 T2 hj s2 hR2
      have hj : j < n := List.mem_range.mp (List.mem_of_getElem? hj)
      have j1 := L.lo j hj
      have j2 := L.hi j hj
      have gp : 0 < Nat.gcd (g i) (g j) := Nat.gcd_pos_of_pos_left _ i1
      have gl : Nat.gcd (g i) (g j) ≤ g i := Nat.le_of_dvd i1 (Nat.gcd_dvd_left _ _)
      refine ⟨rfl, _, rfl, _, rfl, _, rfl, _, _, rfl, g i, g j, rfl, rfl, by omega, by omega, _, _, rfl, rfl, divw (by omega) (by omega), _, rfl, _, _, rfl, rfl, mulc' ⟨by omega, by omega⟩, hR2 _ _ (Same.refl _) ?_⟩
      have e : ((g i : Nat) : Int) / ((Nat.gcd (g i) (g j) : Nat) : Int) * ((g j : Nat) : Int) = lcmM g i j := by
        unfold lcmM
        rw [Int.natCast_mul, Int.natCast_ediv]
      exact e ▸ .int _
    · intro H2 s2 r2
      rw [map_in] at r2
      exact hR _ _ s2 r2
  · intro H1 s1 r1
    rw [← tabR_D] at r1
    exact q _ _ s1 r1
def sp_multiple_table (K : PySem.W.Frag) : Sp := sp_multiples_of K
theorem ok_multiple_table {af : Addr} {fd : FuncData} (F : FunD K "multiple_table" "multiple_table" (defArgs s_multiple_table) (defBody s_multiple_table) (defScope s_multiple_table) [] [] af fd) (B : Bt mg) (C_want_lot : Cl P w K mg base 4 "want_lot" 1 [] (sp_want_lot K)) (C_multiples_of : Cl P w K mg base 2 "multiples_of" 1 [] (sp_multiples_of K)) : FnG P w K mg base CX0 5 af fd ["numbers"] (sp_multiple_table K) := by
  refine okG F sc_multiple_table ar1 fun cdv A outer s H vs Q E hg hr h => ?_
  refine ⟨_, PSs.nox (pss_cons (ps_expr (pe_cl C_want_lot hg hr (by decide) rfl (pa_cons (pv 0) pa_nil)))
    (pss_one (ps_ret (pe_cl C_multiples_of hg hr (by decide) rfl (pa_cons (pv 0) pa_nil))))), ?_⟩
  obtain ⟨_, rfl, p, n, g, rfl, hS, L, q⟩ := h
  exact ⟨_, rfl, _, rfl, p, n, g, rfl, hS, L, fun H1 s1 => ⟨_, rfl, _, rfl, p, n, g, rfl, SqL.same s1 hS, L, fun r H2 s2 r2 => q r _ (s1.trans s2) (r2.lift s1)⟩⟩

end
end M
namespace M
open PySem PySem.Spec PyProof.Rows L2 G
section
variable {P : Program} {w : World} {K : PySem.W.Frag} {mg : Str → Option Value} {base : Heap}
/-! divisor tables, tables turned and multiplied -/
def sp_divisor_table (K : PySem.W.Frag) : Sp := spec2 fun x y H Q _ => ∃ (p p2 : Addr) (n m : Nat) (g h : Nat → Nat), x = .ref p ∧ y = .ref p2 ∧ SqL K H p (gV n g) ∧ LotF n g ∧ SqL K H p2 (gV m h) ∧ LotF m h ∧ ∀ r H', Same H H' → Rp (New H) H' (.ref r) (tabD (tabR n m (divM g h))) → Q (.ref r) H'
theorem ok_divisor_table {af : Addr} {fd : FuncData} (F : FunD K "divisor_table" "divisor_table" (defArgs s_divisor_table) (defBody s_divisor_table) (defScope s_divisor_table) [] [] af fd) (B : Bt mg) (C_want_lot : Cl P w K mg base 4 "want_lot" 1 [] (sp_want_lot K)) (C_is_lot_value : Cl P w K mg base 3 "is_lot_value" 1 [] (sp_is_lot_value K)) : FnG P w K mg base CX0 5 af fd ["numbers", "others"] (sp_divisor_table K) := by
  refine okG F sc_divisor_table ar2 fun cdv A outer s H vs Q E hg hr h => ?_
  refine ⟨_, PSs.nox (pss_cons (ps_expr (pe_cl C_want_lot hg hr (by decide) rfl (pa_cons (pv 0) pa_nil)))
    (pss_cons (ps_if (pt_not (pt_val (pe_cl C_is_lot_value hg hr (by decide) rfl (pa_cons (pv 1) pa_nil))))
      (pss_one ps_never)
      pss_nil)
    (pss_one (ps_ret (pe_lc (own := [("near", 2)]) rfl sc_divisor_table.nd ((pi_list (pv 0))) (blkOk_by (own := [("near", 2)]) (N := ["numbers", "others", "near", "far"]) (sc := defScope s_divisor_table) (by decide +kernel)) (fun _ _ _ _ _ => pg_name (i := 2) sc_divisor_table.nd rfl (.inr rfl) (.inl rfl)) (fun _ _ _ _ _ => pts_nil) (fun _ _ _ _ _ => (pe_lc (own := [("far", 3)]) rfl sc_divisor_table.nd ((kPi (fun K => iList K _) (K := K) rfl (pi_list (pv 1)))) (blkOk_in (own := [("far", 3)]) (N := ["numbers", "others", "near", "far"]) (sc := defScope s_divisor_table) rfl (by decide +kernel)) (fun _ _ _ _ _ => pg_name (i := 3) sc_divisor_table.nd rfl (.inl rfl) (.inr rfl)) (fun _ _ _ _ _ => pts_nil) (fun _ _ _ _ _ => (pe_callTy call_int1 (by rfl) B.int (by decide +kernel) (pa_cons (pe_cmpR op_eq (pe_op op_mod (pv 2) (pv 3)) pe_int (nomark _)) pa_nil)))))))))), ?_⟩
  obtain ⟨_, _, rfl, p, p2, n, m, g, h, rfl, rfl, hS, L, hS2, L2, q⟩ := h
  have n2 := L.n2
  have m2 := L2.n2
  refine ⟨_, rfl, _, rfl, p, n, g, rfl, hS, L, fun H0 s0 => ⟨_, rfl, _, rfl, p2, m, h, rfl, SqL.same s0 hS2, L2, fun H00 s00 => ⟨_, rfl, iteF ?_⟩⟩⟩
  have s0 := s0.trans s00
  refine ⟨_, rfl, p, rfl, ⟨_, SqL.same s0 hS⟩, fun D hD => lcM_list (K := K) (c := fun i : Nat => V.int (g i : Nat)) (src := List.range n) (fun i => .list (((List.range m).map fun j => divM g h i j).map PyData.int)) hD (SqL.same s0 hS) (by rw [List.length_range]; omega) ?_ ?_⟩
  · intro k i H1 R S hi s1 hR
    have hi : i < n := List.mem_range.mp (List.mem_of_getElem? hi)
    have S1 := SqL.same (s0.trans s1) hS2
    refine ⟨rfl, _, rfl, p2, rfl, ⟨_, S1⟩, fun D2 hD2 => lcM_list (K := K) (c := fun i : Nat => V.int (h i : Nat)) (src := List.range m) (fun j => .int (divM g h i j)) hD2 S1 (by rw [List.length_range]; omega) ?_ ?_⟩
    · intro k2 j H2 R2 T2 hj s2 hR2
      have hj : j < m := List.mem_range.mp (List.mem_of_getElem? hj)
      have j1 := L2.lo j hj
      refine ⟨rfl, _, rfl, _, rfl, _, _, rfl, rfl, (by show (0 : Int) < _; omega), rfl, .inr ⟨_, rfl, hR2 _ _ (Same.refl _) ?_⟩⟩
      have e : divM g h i j = if decide (V.int (((g i : Nat) : Int) % ((h j : Nat) : Int)) = V.int 0) = true then 1 else 0 := by
        unfold divM
        by_cases c : h j ∣ g i
        · rw [if_pos c, if_pos (decide_eq_true (congrArg V.int (int_mod.mpr (Nat.mod_eq_zero_of_dvd c))))]
        · rw [if_neg c, if_neg (fun z => c (Nat.dvd_of_mod_eq_zero (int_mod.mp (V.int.inj (of_decide_eq_true z)))))]
      exact e ▸ .int _
    · intro H2 s2 r2
      rw [map_in] at r2
      exact hR _ _ s2 r2
  · intro H1 s1 r1
    rw [← tabR_D] at r1
    exact q _ _ (s0.trans s1) (r1.lift s0)
def turnM (M : Nat → Nat → Int) : Nat → Nat → Int := fun i j => M j i
def sp_turned_of (K : PySem.W.Frag) : Sp := spec1 fun x H Q _ => ∃ (a : Addr) (n : Nat) (ad : Nat → Addr) (M : Nat → Nat → Int), x = .ref a ∧ TabM K H a n ad M ∧ 1 ≤ n ∧ n ≤ 12 ∧ ∀ r H', Same H H' → Rp (New H) H' (.ref r) (tabD (tabR n n (turnM M))) → Q (.ref r) H'
theorem ok_turned_of {af : Addr} {fd : FuncData} (F : FunD K "turned_of" "turned_of" (defArgs s_turned_of) (defBody s_turned_of) (defScope s_turned_of) [] [] af fd) (B : Bt mg)  : FnG P w K mg base CX0 1 af fd ["table"] (sp_turned_of K) := by
  refine okG F sc_turned_of ar1 fun cdv A outer s H vs Q E hg hr h => ?_
  refine ⟨_, PSs.nox (pss_one (ps_ret (pe_lc (own := [("at", 1)]) rfl sc_turned_of.nd (pi_range1 rfl B.range (pa_cons (pe_callB call_len_seq (by rfl) B.len (by decide +kernel) (pa_cons (pe_ix ix_list (pv 0) pe_int (fun _ _ => rfl)) pa_nil)) pa_nil)) (blkOk_by (own := [("at", 1)]) (N := ["table", "at", "row"]) (sc := defScope s_turned_of) (by decide +kernel)) (fun _ _ _ _ _ => pg_name (i := 1) sc_turned_of.nd rfl (.inr rfl) (.inl rfl)) (fun _ _ _ _ _ => pts_nil) (fun _ _ _ _ _ => (pe_lc (own := [("row", 2)]) rfl sc_turned_of.nd ((kPi (fun K => iList K _) (K := K) rfl (pi_list (pv 0)))) (blkOk_in (own := [("row", 2)]) (N := ["table", "at", "row"]) (sc := defScope s_turned_of) rfl (by decide +kernel)) (fun _ _ _ _ _ => pg_name (i := 2) sc_turned_of.nd rfl (.inl rfl) (.inr rfl)) (fun _ _ _ _ _ => pts_nil) (fun _ _ _ _ _ => (pe_ix (kIx rIxL (K := K) rfl ix_list) (pv 2) (pv 1) (fun _ _ => rfl)))))))), ?_⟩
  obtain ⟨_, rfl, a, n, ad, M, rfl, hT, n1, n2, q⟩ := h
  refine ⟨_, rfl, a, _, 0, _, rfl, rfl, hT.top, map_range_at (i := 0) (by omega), ad 0, _, rfl, .inl (hT.row 0 (by omega)), _, rfl, by omega, by rw [len_map_range]; omega, fun D hD => ?_⟩
  rw [len_map_range, show (n : Int).toNat = n by omega]
  refine lcM_range (lo := 0) (fun i => .list (((List.range n).map fun j => turnM M i j).map PyData.int)) hD (by omega) ?_ ?_
  · intro i H1 R S hi s1 hR
    rw [show (0 : Int) + (i : Int) = (i : Int) by omega]
    have T1 := hT.same s1
    refine ⟨rfl, _, rfl, a, rfl, ⟨_, T1.top⟩, fun D2 hD2 => lcM_list (K := K) (c := fun k : Nat => V.ref (ad k)) (src := List.range n) (fun j => .int (turnM M i j)) hD2 T1.top (by rw [List.length_range]; omega) ?_ ?_⟩
    · intro k j H2 R2 S2 hj s2 hR2
      have hj : j < n := List.mem_range.mp (List.mem_of_getElem? hj)
      exact ⟨rfl, _, rfl, _, rfl, ad j, _, _, _, rfl, rfl, SqL.same s2 (T1.row j hj), map_range_at hi, hR2 _ _ (Same.refl _) (.int _)⟩
    · intro H2 s2 r2
      rw [map_in] at r2
      exact hR _ _ s2 r2
  · intro H1 s1 r1
    rw [← tabR_D] at r1
    exact q _ _ s1 r1
def sp_turned_table (K : PySem.W.Frag) : Sp := spec1 fun x H Q _ => ∃ (a : Addr) (n : Nat) (ad : Nat → Addr) (M : Nat → Nat → Int), x = .ref a ∧ TabM K H a n ad M ∧ 1 ≤ n ∧ n ≤ 12 ∧ (∀ i j, i < n → j < n → (M i j).natAbs < 1000000000000000000000000000000) ∧ ∀ r H', Same H H' → Rp (New H) H' (.ref r) (tabD (tabR n n (turnM M))) → Q (.ref r) H'
theorem ok_turned_table {af : Addr} {fd : FuncData} (F : FunD K "turned_table" "turned_table" (defArgs s_turned_table) (defBody s_turned_table) (defScope s_turned_table) [] [] af fd) (B : Bt mg) (C_want_table : Cl P w K mg base 3 "want_table" 1 [] (sp_want_table K)) (C_turned_of : Cl P w K mg base 1 "turned_of" 1 [] (sp_turned_of K)) : FnG P w K mg base CX0 4 af fd ["table"] (sp_turned_table K) := by
  refine okG F sc_turned_table ar1 fun cdv A outer s H vs Q E hg hr h => ?_
  refine ⟨_, PSs.nox (pss_cons (ps_expr (pe_cl C_want_table hg hr (by decide) rfl (pa_cons (pv 0) pa_nil)))
    (pss_one (ps_ret (pe_cl C_turned_of hg hr (by decide) rfl (pa_cons (pv 0) pa_nil))))), ?_⟩
  obtain ⟨_, rfl, a, n, ad, M, rfl, hT, n1, n2, hM, q⟩ := h
  exact ⟨_, rfl, _, rfl, a, n, ad, M, rfl, hT, n1, n2, hM, fun H1 s1 => ⟨_, rfl, _, rfl, a, n, ad, M, rfl, hT.same s1, n1, n2, fun r H2 s2 r2 => q r _ (s1.trans s2) (r2.lift s1)⟩⟩
def mulM (n : Nat) (A B : Nat → Nat → Int) : Nat → Nat → Int := fun i j => ((List.range n).map fun k => A i k * B k j).sum
def sp_times_of (K : PySem.W.Frag) : Sp := spec2 fun x y H Q _ => ∃ (a b : Addr) (n : Nat) (ad bd : Nat → Addr) (A B : Nat → Nat → Int), x = .ref a ∧ y = .ref b ∧ TabM K H a n ad A ∧ TabM K H b n bd B ∧ 1 ≤ n ∧ n ≤ 12 ∧ (∀ i j, i < n → j < n → (A i j).natAbs < 1000000000) ∧ ∀ r H', Same H H' → Rp (New H) H' (.ref r) (tabD (tabR n n (mulM n A B))) → Q (.ref r) H'
theorem ok_times_of {af : Addr} {fd : FuncData} (F : FunD K "times_of" "times_of" (defArgs s_times_of) (defBody s_times_of) (defScope s_times_of) [] [] af fd) (B : Bt mg)  : FnG P w K mg base CX0 1 af fd ["table", "other"] (sp_times_of K) := by
  refine okG F sc_times_of ar2 fun cdv A outer s H vs Q E hg hr h => ?_
  refine ⟨_, PSs.nox (pss_cons (ps_set (i := 2) sc_times_of.nd rfl (.inr rfl) (pe_callB call_len_seq (by rfl) B.len (by decide +kernel) (pa_cons (pv 1) pa_nil)))
    (pss_cons (ps_set (i := 3) sc_times_of.nd rfl (.inl rfl) (pe_lst pa_nil))
    (pss_cons (ps_for PassesOwn.never rfl ((pi_list (pv 0))) (pg_name (i := 4) sc_times_of.nd rfl (.inr rfl))
      (pss_one (ps_expr (pe_bm PySem.F.plainAttrs_list PySem.F.slot_list_append PySem.F.type_list_append mt_append (pv 3) (pa_cons (pe_lc (own := [("to", 5)]) rfl sc_times_of.nd (pi_range1 rfl B.range (pa_cons (pe_callB call_len_seq (by rfl) B.len (by decide +kernel) (pa_cons (pe_ix ix_list (pv 1) pe_int (fun _ _ => rfl)) pa_nil)) pa_nil)) (blkOk_by (own := [("to", 5)]) (N := ["table", "other", "size", "found", "row", "to", "at"]) (sc := defScope s_times_of) (by decide +kernel)) (fun _ _ _ _ _ => pg_name (i := 5) sc_times_of.nd rfl (.inr rfl) (.inl rfl)) (fun _ _ _ _ _ => pts_nil) (fun _ _ _ _ _ => (pe_callB (kCall rSum (K := K) rfl (cr_sum rfl)) (by rfl) B.sum (by decide +kernel) (pa_cons (pe_lc (own := [("at", 6)]) rfl sc_times_of.nd (pi_range1 rfl B.range (pa_cons (pv 2) pa_nil)) (blkOk_in (own := [("at", 6)]) (N := ["table", "other", "size", "found", "row", "to", "at"]) (sc := defScope s_times_of) rfl (by decide +kernel)) (fun _ _ _ _ _ => pg_name (i := 6) sc_times_of.nd rfl (.inl rfl) (.inr rfl)) (fun _ _ _ _ _ => pts_nil) (fun _ _ _ _ _ => (pe_op op_mul (pe_ix (kIx rIxL (K := K) rfl ix_list) (pv 4) (pv 6) (fun _ _ => rfl)) (pe_ix (kIx rIxL (K := K) rfl ix_list) (pe_ix (kIx rIxL (K := K) rfl ix_list) (pv 1) (pv 6) (fun _ _ => rfl)) (pv 5) (fun _ _ => rfl))))) pa_nil)))) pa_nil)))))
    (pss_one (ps_ret (pv 3)))))), ?_⟩
  obtain ⟨_, _, rfl, a, b, n, ad, bd, A, B, rfl, rfl, hA, hB, n1, n2, bA, q⟩ := h
  refine ⟨_, rfl, b, _, rfl, .inl hB.top, sz0, fun l hl => ⟨_, rfl, a, rfl, ⟨_, SqL.same ((Same.refl H).new hl) hA.top⟩, ?_⟩⟩
  rw [len_map_range]
  have s0 : Same H (upd H l (.lst [])) := (Same.refl H).new hl
  refine for_list (K := K) (a := a) (xs := (List.range n).map fun i => V.ref (ad i)) (fun i σ H2 => ∃ (y : Option V) (vs : List V), σ = [some (.ref a), some (.ref b), some (.int n), some (.ref l), y, none, none] ∧ Same H H2 ∧ H2 l = some (.lst vs) ∧ RpA (New (upd H l (.lst []))) H2 vs ((List.range i).map fun i => .list (((List.range n).map fun j => mulM n A B i j).map PyData.int)))
    ⟨none, [], rfl, s0, upd_same, .nil⟩ (fun i σ H2 _ ⟨_, _, _, z, _⟩ => SqL.same z hA.top) ?_ ?_
  · rintro i x σ H2 hx ⟨y, vs, rfl, s2, e2, r2⟩
    have hi : i < n := by
      have := (List.getElem?_eq_some_iff.mp hx).1
      simpa using this
    rw [List.getElem?_map, List.getElem?_range hi] at hx
    cases hx
    have B2 := hB.same s2
    refine ⟨_, rfl, .inl ⟨rfl, _, SqL.of e2⟩, ?_⟩
    refine ⟨_, rfl, b, _, 0, _, rfl, rfl, B2.top, map_range_at (i := 0) (by omega), bd 0, _, rfl, .inl (B2.row 0 (by omega)), _, rfl, by omega, by rw [len_map_range]; omega, fun D hD => ?_⟩
    rw [len_map_range, show (n : Int).toNat = n by omega]
    refine lcM_range (lo := 0) (fun j => .int (mulM n A B i j)) hD (by omega) ?_ ?_
    · intro j H3 R S hj s3 hR
      rw [show (0 : Int) + (j : Int) = (j : Int) by omega]
      refine ⟨rfl, _, rfl, _, rfl, by omega, by omega, fun D3 hD3 => ?_⟩
      rw [show (n : Int).toNat = n by omega]
      refine lcM_range (lo := 0) (fun k => .int (A i k * B k j)) hD3 (by omega) ?_ ?_
      · intro k H4 R4 S4 hk s4 hR4
        rw [show (0 : Int) + (k : Int) = (k : Int) by omega]
        have s24 := s3.trans s4
        have A4 := (hA.same s2).same s24
        have B4 := B2.same s24
        have := bA i k hi hk
        exact ⟨rfl, _, rfl, _, rfl, ad i, _, _, _, rfl, rfl, A4.row i hi, map_range_at hk, _, rfl, _, rfl, b, _, _, _, rfl, rfl, B4.top, map_range_at hk, _, rfl, bd k, _, _, _, rfl, rfl, B4.row k hk, map_range_at hj, _, _, rfl, rfl, .inl ⟨by omega, by omega⟩, hR4 _ _ (Same.refl _) (.int _)⟩
      · intro H4 s4 r4
        rw [map_in] at r4
        exact ⟨D3, _, rfl, SqL.of r4.ints, hR _ _ s4 (.int _)⟩
    · intro H3 s3 r3
      rw [map_in] at r3
      have e3 := s3 _ _ e2
      have lv : vs.length = i := by rw [r2.length, List.length_map, List.length_range]
      refine ⟨l, _, _, rfl, rfl, e3, small_lt (by omega), some (.ref (ad i)), vs ++ [.ref D], rfl, (s2.trans s3).mut hl, upd_same, ?_⟩
      rw [List.range_succ, List.map_append]
      have keep : ∀ b o, New (upd H l (.lst [])) b → H3 b = some o → upd H3 l (.lst (vs ++ [.ref D])) b = some o := fun b o hb e => (upd_ne (ne_of_none upd_same hb).symm).trans e
      refine RpA.snoc ((r2.same s3).mono (fun _ z => z) keep) ?_
      have nw : ∀ b, New H2 b → New (upd H l (.lst [])) b := fun b z => (upd_ne (ne_of_none e2 z).symm).trans (s2.free z)
      exact Rp.mono nw (fun b o hb e => keep b o (nw b hb) e) _ _ r3
  · rintro σ H2 ⟨y, vs, rfl, s2, e2, r2⟩
    rw [len_map_range] at r2
    refine ⟨_, rfl, q l _ s2 ?_⟩
    rw [tabR_D]
    exact .lst hl e2 (r2.lift s0)
def sp_table_times (K : PySem.W.Frag) : Sp := spec2 fun x y H Q _ => ∃ (a b : Addr) (n : Nat) (ad bd : Nat → Addr) (A B : Nat → Nat → Int), x = .ref a ∧ y = .ref b ∧ TabM K H a n ad A ∧ TabM K H b n bd B ∧ 1 ≤ n ∧ n ≤ 12 ∧ (∀ i j, i < n → j < n → (A i j).natAbs < 1000000000) ∧ (∀ i j, i < n → j < n → (B i j).natAbs < 1000000000) ∧ ∀ r H', Same H H' → Rp (New H) H' (.ref r) (tabD (tabR n n (mulM n A B))) → Q (.ref r) H'
theorem ok_table_times {af : Addr} {fd : FuncData} (F : FunD K "table_times" "table_times" (defArgs s_table_times) (defBody s_table_times) (defScope s_table_times) [] [] af fd) (B : Bt mg) (C_want_table : Cl P w K mg base 3 "want_table" 1 [] (sp_want_table K)) (C_times_of : Cl P w K mg base 1 "times_of" 2 [] (sp_times_of K)) (C_is_table_value : Cl P w K mg base 2 "is_table_value" 1 [] (sp_is_table_value K)) : FnG P w K mg base CX0 4 af fd ["table", "other"] (sp_table_times K) := by
  refine okG F sc_table_times ar2 fun cdv A outer s H vs Q E hg hr h => ?_
  refine ⟨_, PSs.nox (pss_cons (ps_expr (pe_cl C_want_table hg hr (by decide) rfl (pa_cons (pv 0) pa_nil)))
    (pss_cons (ps_if (pt_not (pt_val (pe_cl C_is_table_value hg hr (by decide) rfl (pa_cons (pv 1) pa_nil))))
      (pss_one ps_never)
      pss_nil)
    (pss_cons (ps_if (pt_cmpR op_ne (pe_callB call_len_seq (by rfl) B.len (by decide +kernel) (pa_cons (pv 0) pa_nil)) (pe_callB call_len_seq (by rfl) B.len (by decide +kernel) (pa_cons (pv 1) pa_nil)) (nomark _))
      (pss_one ps_never)
      pss_nil)
    (pss_one (ps_ret (pe_cl C_times_of hg hr (by decide) rfl (pa_cons (pv 0) (pa_cons (pv 1) pa_nil)))))))), ?_⟩
  obtain ⟨_, _, rfl, a, b, n, ad, bd, A, B, rfl, rfl, hA, hB, n1, n2, bA, bB, q⟩ := h
  refine ⟨_, rfl, _, rfl, a, n, ad, A, rfl, hA, n1, n2, fun i j hi hj => (by have := bA i j hi hj; omega), fun H1 s1 => ⟨_, rfl, _, rfl, b, n, bd, B, rfl, hB.same s1, n1, n2, fun i j hi hj => (by have := bB i j hi hj; omega), fun H2 s2 => ⟨_, rfl, iteF ?_⟩⟩⟩
  have s2 := s1.trans s2
  have A2 := hA.same s2
  have B2 := hB.same s2
  refine ⟨_, rfl, a, _, rfl, .inl A2.top, _, rfl, b, _, rfl, .inl B2.top, rfl, _, bl_nf (by rw [len_map_range, len_map_range]), iteF ?_⟩
  exact ⟨_, rfl, _, rfl, _, _, rfl, a, b, n, ad, bd, A, B, rfl, rfl, A2, B2, n1, n2, bA, fun r H3 s3 r3 => q r _ (s2.trans s3) (r3.lift s2)⟩
def sp_share_worth (K : PySem.W.Frag) : Sp := spec1 fun x H Q _ => ∃ (p : Addr) (n : Nat) (g : Nat → Nat) (v : Int), x = .ref p ∧ SqL K H p (gV n g) ∧ LotF n g ∧ Wo n 0 1 1 (gcdM g) v ∧ ∀ H', Same H H' → Q (.int v) H'
theorem ok_share_worth {af : Addr} {fd : FuncData} (F : FunD K "share_worth" "share_worth" (defArgs s_share_worth) (defBody s_share_worth) (defScope s_share_worth) [] [] af fd) (B : Bt mg) (C_want_lot : Cl P w K mg base 4 "want_lot" 1 [] (sp_want_lot K)) (C_worth_of : Cl P w K mg base 1 "worth_of" 1 [] (sp_worth_of K)) (C_shares_of : Cl P w K mg base 2 "shares_of" 1 [] (sp_shares_of K)) : FnG P w K mg base CX0 5 af fd ["numbers"] (sp_share_worth K) := by
  refine okG F sc_share_worth ar1 fun cdv A outer s H vs Q E hg hr h => ?_
  refine ⟨_, PSs.nox (pss_cons (ps_expr (pe_cl C_want_lot hg hr (by decide) rfl (pa_cons (pv 0) pa_nil)))
    (pss_one (ps_ret (pe_cl C_worth_of hg hr (by decide) rfl (pa_cons (pe_cl C_shares_of hg hr (by decide) rfl (pa_cons (pv 0) pa_nil)) pa_nil))))), ?_⟩
  obtain ⟨_, rfl, p, n, g, v, rfl, hS, L, wo, q⟩ := h
  have n1 := L.n1
  have n2 := L.n2
  refine ⟨_, rfl, _, rfl, p, n, g, rfl, hS, L, fun H1 s1 => ⟨_, rfl, _, rfl, p, n, g, rfl, SqL.same s1 hS, L, fun r H2 s2 r2 => ?_⟩⟩
  obtain ⟨ad, hT⟩ := TabM.of_rp (K := K) r2
  exact ⟨_, rfl, r, n, ad, _, v, rfl, hT, n1, by omega, wo, fun H3 s3 => q _ ((s1.trans s2).trans s3)⟩

end
end M
namespace M
open PySem PySem.Spec PyProof.Rows L2 G
section
variable {P : Program} {w : World} {K : PySem.W.Frag} {mg : Str → Option Value} {base : Heap}
/-! the lot of all divisors -/
theorem DivL.mem {ns : List Int} {n : Nat} (h : DivL ns n) (hn : 1 ≤ n) (x : Int) : x ∈ ns ↔ ∃ d : Nat, x = (d : Int) ∧ d ∣ n := by
  refine ⟨h.2 x, fun ⟨d, e, hd⟩ => Classical.byContradiction fun hx => ?_⟩
  have a := h.1 fun y => if y = x then 1 else 0
  have b : (ns.map fun y => if y = x then (1 : Int) else 0).sum = 0 := by
    have : (ns.map fun y => if y = x then (1 : Int) else 0) = ns.map fun _ => 0 := List.map_congr_left fun y hy => if_neg fun z : y = x => hx (z ▸ hy)
    rw [this]
    clear this a hx h
    induction ns with
    | nil => rfl
    | cons z l ih => rw [List.map_cons, List.sum_cons, ih]; rfl
  rw [b] at a
  have c : dsum (fun k => if ((k : Nat) : Int) = x then (1 : Int) else 0) n = 1 := by
    unfold dsum
    rw [sumR_one (k := d) (Nat.pos_of_dvd_of_pos hd hn) (Nat.le_of_dvd hn hd) (fun i _ _ hi => ?_), if_pos hd]
    · exact if_pos e.symm
    · split
      · exact if_neg (by omega)
      · rfl
  rw [c] at a
  exact absurd a (by decide)
theorem DivL.short {ns : List Int} {n : Nat} (h : DivL ns n) (hn : 1 ≤ n) : ns.length ≤ 2 * n := by
  have := h.len
  have := tau_2n hn
  omega
abbrev IKey : Type := Key
theorem put_keys {kvs : List (Key × V)} {ks : List Int} {k : Int} {v : V} (h : kvs.map (·.1) = ks.map Sum.inl) : (putK kvs (Sum.inl k) v).map (·.1) = (if k ∈ ks then ks else ks ++ [k]).map Sum.inl := by
  have hm : (kvs.any fun kv => decide (kv.1 = (Sum.inl k : Key))) = decide (k ∈ ks) := by
    rw [Bool.eq_iff_iff, List.any_eq_true, decide_eq_true_iff]
    have e : (Sum.inl k : Key) ∈ kvs.map (·.1) ↔ k ∈ ks := by
      rw [h, List.mem_map]
      exact ⟨fun ⟨y, hy, z⟩ => (Sum.inl.inj z : y = k) ▸ hy, fun z => ⟨k, z, rfl⟩⟩
    rw [← e, List.mem_map]
    exact ⟨fun ⟨x, hx, z⟩ => ⟨x, hx, of_decide_eq_true z⟩, fun ⟨x, hx, z⟩ => ⟨x, hx, decide_eq_true z⟩⟩
  unfold putK
  rw [hm]
  by_cases c : k ∈ ks
  · rw [if_pos (decide_eq_true c), if_pos c, List.map_map, ← h]
    refine List.map_congr_left fun x _ => ?_
    show (if x.1 = (Sum.inl k : Key) then (x.1, v) else x).1 = x.1
    split <;> rfl
  · rw [if_neg (by rw [decide_eq_false c]; exact Bool.false_ne_true), if_neg c, List.map_append, List.map_append, h]
    rfl
theorem merge_keys : ∀ {more : List (Key × V)} {ms : List Int} {kvs : List (Key × V)} {ks : List Int}, more.map (·.1) = ms.map Sum.inl → kvs.map (·.1) = ks.map Sum.inl → ks.Nodup →
    ∃ ks' : List Int, (mergeK kvs more).map (·.1) = ks'.map Sum.inl ∧ ks'.Nodup ∧ ∀ x, x ∈ ks' ↔ x ∈ ks ∨ x ∈ ms
  | [], [], kvs, ks, _, h, hn => ⟨ks, h, hn, fun x => by simp⟩
  | [], _ :: _, _, _, h, _, _ => by simp at h
  | _ :: _, [], _, _, h, _, _ => by simp at h
  | (k, v) :: more, m :: ms, kvs, ks, h, h2, hn => by
    rw [List.map_cons, List.map_cons] at h
    obtain ⟨h0, h1⟩ := List.cons.inj h
    have h0 : k = Sum.inl m := h0
    subst h0
    have hn2 : (if m ∈ ks then ks else ks ++ [m]).Nodup := by
      split
      · exact hn
      · rename_i c
        exact List.nodup_append.mpr ⟨hn, by simp, fun a ha b hb z => by simp at hb; exact c (by rw [← hb, ← z]; exact ha)⟩
    obtain ⟨ks', e1, e2, e3⟩ := merge_keys (more := more) (kvs := putK kvs (Sum.inl m) v) h1 (put_keys h2) hn2
    refine ⟨ks', e1, e2, fun x => ?_⟩
    rw [e3, List.mem_cons]
    split
    · rename_i c
      exact ⟨fun z => z.elim .inl fun y => .inr (.inr y), fun z => z.elim .inl fun y => y.elim (fun w => .inl (w ▸ c)) .inr⟩
    · rw [List.mem_append, List.mem_singleton, or_assoc]
/-- all divisors of a lot's numbers, in sequence -/
structure Clo (n : Nat) (g : Nat → Nat) (m : Nat) (h : Nat → Nat) : Prop where
  lot : LotF m h
  mem : ∀ d : Nat, (∃ i, i < n ∧ d ∣ g i) ↔ ∃ j, j < m ∧ h j = d
def gI (m : Nat) (h : Nat → Nat) : List Int := (List.range m).map fun j => ((h j : Nat) : Int)
theorem gI_V {m : Nat} {h : Nat → Nat} : (gI m h).map V.int = gV m h := by
  unfold gI gV
  rw [List.map_map]
  rfl
theorem gI_lt {m : Nat} {h : Nat → Nat} (L : LotF m h) : (gI m h).Pairwise (· < ·) := by
  unfold gI
  rw [List.pairwise_map]
  refine List.Pairwise.imp_of_mem (fun {a b} ha hb hab => ?_) (List.pairwise_lt_range (n := m))
  have := L.up a b hab (List.mem_range.mp hb)
  omega
theorem lt_nodup {l : List Int} (h : l.Pairwise (· < ·)) : l.Nodup := h.imp fun z => by omega
theorem Clo.memI {n m : Nat} {g h : Nat → Nat} (C : Clo n g m h) (x : Int) : x ∈ gI m h ↔ ∃ i, i < n ∧ ∃ d : Nat, x = (d : Int) ∧ d ∣ g i := by
  unfold gI
  rw [List.mem_map]
  constructor
  · rintro ⟨j, hj, rfl⟩
    obtain ⟨i, hi, hd⟩ := (C.mem (h j)).mpr ⟨j, List.mem_range.mp hj, rfl⟩
    exact ⟨i, hi, h j, rfl, hd⟩
  · rintro ⟨i, hi, d, rfl, hd⟩
    obtain ⟨j, hj, e⟩ := (C.mem d).mp ⟨i, hi, hd⟩
    exact ⟨j, List.mem_range.mpr hj, by rw [e]⟩
theorem Clo.keys {n m : Nat} {g h : Nat → Nat} (C : Clo n g m h) {ks : List Int} (hn : ks.Nodup) (e : ∀ x, x ∈ ks ↔ ∃ i, i < n ∧ ∃ d : Nat, x = (d : Int) ∧ d ∣ g i) : ks.length = m := by
  have : ks.Perm (gI m h) := (List.perm_ext_iff_of_nodup hn (lt_nodup (gI_lt C.lot))).mpr fun x => by rw [e, C.memI]
  rw [this.length_eq]
  unfold gI
  rw [List.length_map, List.length_range]
/-- the dict as far as i numbers -/
def DKat (g : Nat → Nat) (i : Nat) (H : Hp) (l : Addr) : Prop := ∃ (kvs : List (Key × V)) (ks : List Int), H l = some (.dK kvs) ∧ kvs.map (·.1) = ks.map Sum.inl ∧ ks.Nodup ∧ (∀ x, x ∈ ks ↔ ∃ k, k < i ∧ ∃ d : Nat, x = (d : Int) ∧ d ∣ g k) ∧ kvs.length ≤ 200 * i
theorem pairs_all {N : Addr → Prop} {H : Hp} : ∀ {ns : List Int} {vs : List V}, RpA N H vs (ns.map fun x => PyData.tuple [.int x, .bool true]) →
    ∃ ps : List Addr, vs = ps.map V.ref ∧ Paired (fun p (kv : Key × V) => SqT K H p [kV kv.1, kv.2]) ps (ns.map fun x => ((Sum.inl x : Key), V.bl true))
  | [], _, h => by
    cases h
    exact ⟨[], rfl, .nil⟩
  | x :: ns, _, h => by
    cases h with
    | cons a b =>
      obtain ⟨ps, rfl, hp⟩ := pairs_all b
      cases a with
      | tup _ e r =>
        cases r with
        | cons c d =>
          cases c
          cases d with
          | cons c2 d2 =>
            cases c2
            cases d2
            exact ⟨_ :: ps, rfl, .cons (SqT.of e) hp⟩
def sp_closure_of (K : PySem.W.Frag) : Sp := spec1 fun x H Q _ => ∃ (p : Addr) (n m : Nat) (g h : Nat → Nat), x = .ref p ∧ SqL K H p (gV n g) ∧ LotF n g ∧ (∀ i, i < n → g i ≤ 100) ∧ Clo n g m h ∧ ∀ r H', Same H H' → H r = none → H' r = some (.lst (gV m h)) → Q (.ref r) H'
theorem ok_closure_of {af : Addr} {fd : FuncData} (F : FunD K "closure_of" "closure_of" (defArgs s_closure_of) (defBody s_closure_of) (defScope s_closure_of) [] [] af fd) (B : Bt mg) (C_divisors_of : Cl P w K mg base 2 "divisors_of" 1 [] (sp_divisors_of K)) : FnG P w K mg base CX0 3 af fd ["numbers"] (sp_closure_of K) := by
  refine okG F sc_closure_of ar1 fun cdv A outer s H vs Q E hg hr h => ?_
  refine ⟨_, PSs.nox (pss_cons (ps_set (i := 1) sc_closure_of.nd rfl (.inl rfl) pe_dnewK)
    (pss_cons (ps_for PassesOwn.never rfl ((pi_list (pv 0))) (pg_name (i := 2) sc_closure_of.nd rfl (.inl rfl))
      (pss_one (ps_expr (pe_bm PySem.F.plainAttrs_dict PySem.F.slot_dict_update PySem.F.type_dict_update mt_updD (pv 1) (pa_cons (pe_callTy (call_dictP rfl) (by rfl) B.dict (by decide +kernel) (pa_cons (pe_lc (own := [("one", 3)]) rfl sc_closure_of.nd ((pi_list (pe_cl C_divisors_of hg hr (by decide) rfl (pa_cons (pv 2) pa_nil)))) (blkOk_by (own := [("one", 3)]) (N := ["numbers", "every", "number", "one"]) (sc := defScope s_closure_of) (by decide +kernel)) (fun _ _ _ _ _ => pg_name (i := 3) sc_closure_of.nd rfl (.inl rfl) (.inr rfl)) (fun _ _ _ _ _ => pts_nil) (fun _ _ _ _ _ => (pe_tup (pa_cons (pv 3) (pa_cons pe_bl pa_nil))))) pa_nil)) pa_nil)))))
    (pss_one (ps_ret (pe_callB (call_sortedDI rfl) (by rfl) B.sorted (by decide +kernel) (pa_cons (pv 1) pa_nil)))))), ?_⟩
  obtain ⟨_, rfl, p, n, m, g, h, rfl, hS, L, hb, C, q⟩ := h
  have n2 := L.n2
  refine fun l hl => ⟨_, rfl, p, rfl, ⟨_, SqL.same ((Same.refl H).new hl) hS⟩, ?_⟩
  refine for_list (K := K) (a := p) (xs := gV n g) (fun i σ H2 => ∃ (y : Option V), σ = [some (.ref p), some (.ref l), y, none] ∧ Same H H2 ∧ DKat g i H2 l)
    ⟨none, rfl, (Same.refl H).new hl, [], [], upd_same, rfl, .nil, fun x => ⟨fun z => (by simp at z), fun ⟨k, hk, _⟩ => (by omega)⟩, (by simp)⟩ (fun i σ H2 _ ⟨_, _, z, _⟩ => SqL.same z hS) ?_ ?_
  · rintro i x σ H2 hx ⟨y, rfl, s2, kvs, ks, e2, hk, hnd, hm, hlen⟩
    obtain ⟨hi, rfl⟩ := gV_get hx
    have i1 := L.lo i hi
    have i2 := hb i hi
    refine ⟨_, rfl, .inr (.inr (.inl ⟨rfl, .inl ⟨_, e2⟩⟩)), _, rfl, _, rfl, g i, rfl, i1, by omega, fun r H3 ns s3 hns e3 => ⟨r, rfl, ⟨_, SqL.of e3⟩, fun D hD => lcM_list (K := K) (c := V.int) (src := ns) (fun x => .tuple [.int x, .bool true]) hD (SqL.of e3) (by have := hns.short i1; omega) ?_ ?_⟩⟩
    · intro j x H4 R S hx s4 hR
      exact ⟨rfl, _, rfl, sz2, fun t ht => hR _ _ ((Same.refl _).new ht) (.tup ht upd_same (.cons (.int _) (.cons (.bl _) .nil)))⟩
    · intro H4 s4 r4
      obtain ⟨_, vs, e4, ra⟩ := r4.node
      obtain ⟨ps, rfl, hps⟩ := pairs_all (K := K) ra
      refine ⟨D, ps, _, rfl, SqL.of e4, hps, fun u hu => ?_⟩
      have el := s4 _ _ (s3 _ _ e2)
      have lu : l ≠ u := ne_of_none el hu
      obtain ⟨k1, a1, a2, a3⟩ := merge_keys (more := ns.map fun x => ((Sum.inl x : Key), V.bl true)) (ms := ns) (kvs := []) (ks := []) (by rw [List.map_map]; rfl) rfl .nil
      obtain ⟨k2, b1, b2, b3⟩ := merge_keys (more := mergeK [] (ns.map fun x => ((Sum.inl x : Key), V.bl true))) (ms := k1) (kvs := kvs) (ks := ks) a1 hk hnd
      have l1 := length_mergeK (ns.map fun x => ((Sum.inl x : Key), V.bl true)) []
      have l2 := length_mergeK (mergeK [] (ns.map fun x => ((Sum.inl x : Key), V.bl true))) kvs
      have l3 := hns.short i1
      rw [List.length_map, List.length_nil] at l1
      refine ⟨l, u, kvs, _, rfl, rfl, lu, (upd_ne lu).trans el, upd_same, small_sz (by omega), some (.int (g i : Nat)), rfl, (((s2.trans s3).trans s4).new hu).mut hl, _, k2, upd_same, b1, b2, fun x => ?_, by omega⟩
      rw [b3, a3, hm, hns.mem i1]
      constructor
      · rintro (⟨k, hk, z⟩ | z | z)
        · exact ⟨k, by omega, z⟩
        · simp at z
        · exact ⟨i, by omega, z⟩
      · rintro ⟨k, hk, z⟩
        by_cases c : k = i
        · exact .inr (.inr (c ▸ z))
        · exact .inl ⟨k, by omega, z⟩
  · rintro σ H2 ⟨y, rfl, s2, kvs, ks, e2, hk, hnd, hm, hlen⟩
    rw [gV_len] at hm
    have m2 := C.lot.n2
    refine ⟨_, rfl, l, kvs, ks, rfl, .inl e2, hk, by rw [C.keys hnd hm]; omega, fun ys r hp hs hr => q r _ (s2.new hr) (s2.free hr) ?_⟩
    rw [upd_same, perm_sorted hp hs hnd (gI_lt C.lot) (fun x => (hm x).trans (C.memI x).symm), gI_V]
def midD (m : Nat) (h : Nat → Nat) : PyData := .list ((List.range m).map fun j => .tuple [.int (h j : Nat), .int (phN (h j))])
def sp_middle_of (K : PySem.W.Frag) : Sp := spec1 fun x H Q _ => ∃ (p : Addr) (n m : Nat) (g h : Nat → Nat), x = .ref p ∧ SqL K H p (gV n g) ∧ LotF n g ∧ (∀ i, i < n → g i ≤ 100) ∧ Clo n g m h ∧ ∀ r H', Same H H' → Rp (New H) H' (.ref r) (midD m h) → Q (.ref r) H'
theorem ok_middle_of {af : Addr} {fd : FuncData} (F : FunD K "middle_of" "middle_of" (defArgs s_middle_of) (defBody s_middle_of) (defScope s_middle_of) [] [] af fd) (B : Bt mg) (C_want_lot : Cl P w K mg base 4 "want_lot" 1 [] (sp_want_lot K)) (C_free_count : Cl P w K mg base 2 "free_count" 1 [] (sp_free_count K)) (C_divisors_of : Cl P w K mg base 2 "divisors_of" 1 [] (sp_divisors_of K)) : FnG P w K mg base CX0 5 af fd ["numbers"] (sp_middle_of K) := by
  refine okG F sc_middle_of ar1 fun cdv A outer s H vs Q E hg hr h => ?_
  refine ⟨_, PSs.nox (pss_cons (ps_expr (pe_cl C_want_lot hg hr (by decide) rfl (pa_cons (pv 0) pa_nil)))
    (pss_cons (ps_set (i := 1) sc_middle_of.nd rfl (.inl rfl) pe_dnewK)
    (pss_cons (ps_for PassesOwn.never rfl ((pi_list (pv 0))) (pg_name (i := 2) sc_middle_of.nd rfl (.inl rfl))
      (pss_one (ps_expr (pe_bm PySem.F.plainAttrs_dict PySem.F.slot_dict_update PySem.F.type_dict_update mt_updD (pv 1) (pa_cons (pe_callTy (call_dictP rfl) (by rfl) B.dict (by decide +kernel) (pa_cons (pe_lc (own := [("one", 3)]) rfl sc_middle_of.nd ((pi_list (pe_cl C_divisors_of hg hr (by decide) rfl (pa_cons (pv 2) pa_nil)))) (blkOk_by (own := [("one", 3)]) (N := ["numbers", "every", "number", "one"]) (sc := defScope s_middle_of) (by decide +kernel)) (fun _ _ _ _ _ => pg_name (i := 3) sc_middle_of.nd rfl (.inl rfl) (.inr rfl)) (fun _ _ _ _ _ => pts_nil) (fun _ _ _ _ _ => (pe_tup (pa_cons (pv 3) (pa_cons pe_bl pa_nil))))) pa_nil)) pa_nil)))))
    (pss_one (ps_ret (pe_lc (own := [("one", 3)]) rfl sc_middle_of.nd ((pi_list (pe_callB (call_sortedDI rfl) (by rfl) B.sorted (by decide +kernel) (pa_cons (pv 1) pa_nil)))) (blkOk_by (own := [("one", 3)]) (N := ["numbers", "every", "number", "one"]) (sc := defScope s_middle_of) (by decide +kernel)) (fun _ _ _ _ _ => pg_name (i := 3) sc_middle_of.nd rfl (.inl rfl) (.inr rfl)) (fun _ _ _ _ _ => pts_nil) (fun _ _ _ _ _ => (pe_tup (pa_cons (pv 3) (pa_cons (pe_cl C_free_count hg hr (by decide) rfl (pa_cons (pv 3) pa_nil)) pa_nil)))))))))), ?_⟩
  obtain ⟨_, rfl, p, n, m, g, h, rfl, hS, L, hb, C, q⟩ := h
  have n2 := L.n2
  refine ⟨_, rfl, _, rfl, p, n, g, rfl, hS, L, fun H0 s0 => fun l hl => ⟨_, rfl, p, rfl, ⟨_, SqL.same (s0.new hl) hS⟩, ?_⟩⟩
  have q : ∀ r H', Same H0 H' → Rp (New H0) H' (.ref r) (midD m h) → Q (.ref r) H' := fun r H' s rp => q r _ (s0.trans s) (rp.lift s0)
  have hS := SqL.same s0 hS
  clear s0
  refine for_list (K := K) (a := p) (xs := gV n g) (fun i σ H2 => ∃ (y : Option V), σ = [some (.ref p), some (.ref l), y, none] ∧ Same H0 H2 ∧ DKat g i H2 l)
    ⟨none, rfl, (Same.refl H0).new hl, [], [], upd_same, rfl, .nil, fun x => ⟨fun z => (by simp at z), fun ⟨k, hk, _⟩ => (by omega)⟩, (by simp)⟩ (fun i σ H2 _ ⟨_, _, z, _⟩ => SqL.same z hS) ?_ ?_
  · rintro i x σ H2 hx ⟨y, rfl, s2, kvs, ks, e2, hk, hnd, hm, hlen⟩
    obtain ⟨hi, rfl⟩ := gV_get hx
    have i1 := L.lo i hi
    have i2 := hb i hi
    refine ⟨_, rfl, .inr (.inr (.inl ⟨rfl, .inl ⟨_, e2⟩⟩)), _, rfl, _, rfl, g i, rfl, i1, by omega, fun r H3 ns s3 hns e3 => ⟨r, rfl, ⟨_, SqL.of e3⟩, fun D hD => lcM_list (K := K) (c := V.int) (src := ns) (fun x => .tuple [.int x, .bool true]) hD (SqL.of e3) (by have := hns.short i1; omega) ?_ ?_⟩⟩
    · intro j x H4 R S hx s4 hR
      exact ⟨rfl, _, rfl, sz2, fun t ht => hR _ _ ((Same.refl _).new ht) (.tup ht upd_same (.cons (.int _) (.cons (.bl _) .nil)))⟩
    · intro H4 s4 r4
      obtain ⟨_, vs, e4, ra⟩ := r4.node
      obtain ⟨ps, rfl, hps⟩ := pairs_all (K := K) ra
      refine ⟨D, ps, _, rfl, SqL.of e4, hps, fun u hu => ?_⟩
      have el := s4 _ _ (s3 _ _ e2)
      have lu : l ≠ u := ne_of_none el hu
      obtain ⟨k1, a1, a2, a3⟩ := merge_keys (more := ns.map fun x => ((Sum.inl x : Key), V.bl true)) (ms := ns) (kvs := []) (ks := []) (by rw [List.map_map]; rfl) rfl .nil
      obtain ⟨k2, b1, b2, b3⟩ := merge_keys (more := mergeK [] (ns.map fun x => ((Sum.inl x : Key), V.bl true))) (ms := k1) (kvs := kvs) (ks := ks) a1 hk hnd
      have l1 := length_mergeK (ns.map fun x => ((Sum.inl x : Key), V.bl true)) []
      have l2 := length_mergeK (mergeK [] (ns.map fun x => ((Sum.inl x : Key), V.bl true))) kvs
      have l3 := hns.short i1
      rw [List.length_map, List.length_nil] at l1
      refine ⟨l, u, kvs, _, rfl, rfl, lu, (upd_ne lu).trans el, upd_same, small_sz (by omega), some (.int (g i : Nat)), rfl, (((s2.trans s3).trans s4).new hu).mut hl, _, k2, upd_same, b1, b2, fun x => ?_, by omega⟩
      rw [b3, a3, hm, hns.mem i1]
      constructor
      · rintro (⟨k, hk, z⟩ | z | z)
        · exact ⟨k, by omega, z⟩
        · simp at z
        · exact ⟨i, by omega, z⟩
      · rintro ⟨k, hk, z⟩
        by_cases c : k = i
        · exact .inr (.inr (c ▸ z))
        · exact .inl ⟨k, by omega, z⟩
  · rintro σ H2 ⟨y, rfl, s2, kvs, ks, e2, hk, hnd, hm, hlen⟩
    rw [gV_len] at hm
    have m2 := C.lot.n2
    refine ⟨_, rfl, l, kvs, ks, rfl, .inl e2, hk, by rw [C.keys hnd hm]; omega, fun ys r hp hs hr => ?_⟩
    obtain rfl : ys = gI m h := perm_sorted hp hs hnd (gI_lt C.lot) (fun x => (hm x).trans (C.memI x).symm)
    rw [gI_V]
    have s3 := s2.new (o := .lst (gV m h)) hr
    refine ⟨r, rfl, ⟨_, SqL.of upd_same⟩, fun D hD => lcM_list (K := K) (c := fun j : Nat => V.int (h j : Nat)) (src := List.range m) (fun j => .tuple [.int (h j : Nat), .int (phN (h j))]) hD (SqL.of upd_same) (by rw [List.length_range]; omega) ?_ ?_⟩
    · intro k j H4 R S hj s4 hR
      have hj : j < m := List.mem_range.mp (List.mem_of_getElem? hj)
      have j1 := C.lot.lo j hj
      have j2 := C.lot.hi j hj
      exact ⟨rfl, _, rfl, _, rfl, _, rfl, h j, rfl, j1, j2, fun H5 s5 => ⟨sz2, fun t ht => hR _ _ (s5.new ht) (.tup (s5.free ht) upd_same (.cons (.int _) (.cons (.int _) .nil)))⟩⟩
    · intro H4 s4 r4
      exact q _ _ (s3.trans s4) (r4.lift s3)
def sp_want_at_most (_ : PySem.W.Frag) : Sp := spec3 fun x y z H Q _ => ∃ l n : Int, y = .int l ∧ z = .int n ∧ n ≤ l ∧ Q .non H
theorem ok_want_at_most {af : Addr} {fd : FuncData} (F : FunD K "want_at_most" "want_at_most" (defArgs s_want_at_most) (defBody s_want_at_most) (defScope s_want_at_most) [] [] af fd) (B : Bt mg)  : FnG P w K mg base CX0 1 af fd ["what", "limit", "number"] (sp_want_at_most K) := by
  refine okG F sc_want_at_most ar3 fun cdv A outer s H vs Q E hg hr h => ?_
  refine ⟨_, PSs.nox (pss_one (ps_if (pt_cmpR op_gt (pv 2) (pv 1) (nomark _))
      (pss_one ps_never)
      pss_nil)), ?_⟩
  obtain ⟨_, _, _, rfl, l, n, rfl, rfl, hl, q⟩ := h
  exact ⟨_, rfl, _, rfl, _, _, rfl, rfl, _, bl_f (by omega), iteF q⟩
def sp_closed_lot (K : PySem.W.Frag) : Sp := sp_closure_of K
theorem ok_closed_lot {af : Addr} {fd : FuncData} (F : FunD K "closed_lot" "closed_lot" (defArgs s_closed_lot) (defBody s_closed_lot) (defScope s_closed_lot) [] [] af fd) (B : Bt mg) (C_want_lot : Cl P w K mg base 4 "want_lot" 1 [] (sp_want_lot K)) (C_closure_of : Cl P w K mg base 3 "closure_of" 1 [] (sp_closure_of K)) (C_want_at_most : Cl P w K mg base 1 "want_at_most" 3 [] (sp_want_at_most K)) {t_MOST_LOT : Tok} (c_MOST_LOT : mg "MOST_LOT" = some (.int 12 t_MOST_LOT)) : FnG P w K mg base CX0 5 af fd ["numbers"] (sp_closed_lot K) := by
  refine okG F sc_closed_lot ar1 fun cdv A outer s H vs Q E hg hr h => ?_
  refine ⟨_, PSs.nox (pss_cons (ps_expr (pe_cl C_want_lot hg hr (by decide) rfl (pa_cons (pv 0) pa_nil)))
    (pss_cons (ps_set (i := 1) sc_closed_lot.nd rfl (.inl rfl) (pe_cl C_closure_of hg hr (by decide) rfl (pa_cons (pv 0) pa_nil)))
    (pss_cons (ps_expr (pe_cl C_want_at_most hg hr (by decide) rfl (pa_cons pe_str (pa_cons (pe_glob (v := .int 12) rfl c_MOST_LOT ⟨_, rfl⟩) (pa_cons (pe_callB call_len_seq (by rfl) B.len (by decide +kernel) (pa_cons (pv 1) pa_nil)) pa_nil)))))
    (pss_one (ps_ret (pv 1)))))), ?_⟩
  obtain ⟨_, rfl, p, n, m, g, h, rfl, hS, L, hb, C, q⟩ := h
  have m2 := C.lot.n2
  refine ⟨_, rfl, _, rfl, p, n, g, rfl, hS, L, fun H0 s0 => ⟨_, rfl, _, rfl, p, n, m, g, h, rfl, SqL.same s0 hS, L, hb, C, fun r H1 s1 hr e1 => ?_⟩⟩
  refine ⟨_, rfl, r, _, rfl, .inl (SqL.of e1), _, _, _, rfl, 12, (m : Int), rfl, by rw [gV_len], by omega, _, rfl, q r _ (s0.trans s1) (s0.free hr) e1⟩

end
end M
namespace M
open PySem PySem.Spec PyProof.Rows L2 G
section
variable {P : Program} {w : World} {K : PySem.W.Frag} {mg : Str → Option Value} {base : Heap}
/-! closed lots -/
def ClosedF (n : Nat) (g : Nat → Nat) : Prop := ∀ i, i < n → ∀ d, d ∣ g i → ∃ j, j < n ∧ g j = d
theorem inV_ok {n : Nat} {g : Nat → Nat} {j : Nat} (hj : j < n) : inV (V.int (g j : Nat)) (gV n g) = true := by
  unfold inV gV
  rw [List.any_eq_true]
  exact ⟨_, List.mem_map.mpr ⟨j, List.mem_range.mpr hj, rfl⟩, by simp [eqV]⟩
theorem flat_gV {n : Nat} {g : Nat → Nat} : (gV n g).all flatV = true := by
  unfold gV
  rw [List.all_map, List.all_eq_true]
  intro x _
  rfl
def sp_lacking_of (K : PySem.W.Frag) : Sp := spec1 fun x H Q _ => ∃ (p : Addr) (n : Nat) (g : Nat → Nat), x = .ref p ∧ SqL K H p (gV n g) ∧ LotF n g ∧ ClosedF n g ∧ ∀ H', Same H H' → Q .non H'
theorem ok_lacking_of {af : Addr} {fd : FuncData} (F : FunD K "lacking_of" "lacking_of" (defArgs s_lacking_of) (defBody s_lacking_of) (defScope s_lacking_of) [] [] af fd) (B : Bt mg) (C_divisors_of : Cl P w K mg base 2 "divisors_of" 1 [] (sp_divisors_of K)) : FnG P w K mg base CX0 3 af fd ["numbers"] (sp_lacking_of K) := by
  refine okG F sc_lacking_of ar1 fun cdv A outer s H vs Q E hg hr h => ?_
  refine ⟨_, PSs.nox (pss_cons (ps_for PassesOwn.never rfl ((pi_list (pv 0))) (pg_name (i := 1) sc_lacking_of.nd rfl (.inl rfl))
      (pss_one (ps_for PassesOwn.never rfl ((pi_list (pe_cl C_divisors_of hg hr (by decide) rfl (pa_cons (pv 1) pa_nil)))) (pg_name (i := 2) sc_lacking_of.nd rfl (.inl rfl))
        (pss_one (ps_if (pt_cmpR op_notIn_seq (pv 2) (pv 0) (by rfl))
          (pss_one (ps_ret (pe_tup (pa_cons (pv 1) (pa_cons (pv 2) pa_nil)))))
          pss_nil)))))
    (pss_one (ps_ret pe_non))), ?_⟩
  obtain ⟨_, rfl, p, n, g, rfl, hS, L, C, q⟩ := h
  have n2 := L.n2
  refine ⟨_, rfl, p, rfl, ⟨_, hS⟩, ?_⟩
  refine for_list (K := K) (a := p) (xs := gV n g) (fun i σ H2 => ∃ (y y2 : Option V), σ = [some (.ref p), y, y2] ∧ Same H H2)
    ⟨none, none, rfl, Same.refl H⟩ (fun i σ H2 _ ⟨_, _, _, z⟩ => SqL.same z hS) ?_ ?_
  · rintro i x σ H2 hx ⟨y, y2, rfl, s2⟩
    obtain ⟨hi, rfl⟩ := gV_get hx
    have i1 := L.lo i hi
    have i2 := L.hi i hi
    refine ⟨_, rfl, _, rfl, g i, rfl, i1, i2, fun r H3 ns s3 hns e3 => ⟨r, rfl, ⟨_, SqL.of e3⟩, ?_⟩⟩
    refine for_list (K := K) (a := r) (xs := ns.map V.int) (fun j σ H4 => ∃ (y2 : Option V), σ = [some (.ref p), some (.int (g i : Nat)), y2] ∧ Same H3 H4)
      ⟨y2, rfl, Same.refl H3⟩ (fun i σ H2 _ ⟨_, _, z⟩ => SqL.same z (SqL.of e3)) ?_ ?_
    · rintro k x σ H4 hx ⟨y2, rfl, s4⟩
      rw [List.getElem?_map] at hx
      obtain ⟨z, hz, rfl⟩ := Option.map_eq_some_iff.mp hx
      obtain ⟨d, rfl, hd⟩ := hns.2 z (List.mem_of_getElem? hz)
      obtain ⟨j, hj, rfl⟩ := C i hi d hd
      refine ⟨_, rfl, _, rfl, p, _, rfl, .inl (SqL.same ((s2.trans s3).trans s4) hS), rfl, flat_gV, _, rfl, ?_⟩
      rw [inV_ok hj]
      exact iteF ⟨_, rfl, s4⟩
    · rintro σ H4 ⟨y2, rfl, s4⟩
      exact ⟨_, _, rfl, (s2.trans s3).trans s4⟩
  · rintro σ H2 ⟨y, y2, rfl, s2⟩
    exact q _ s2
def sp_is_closed_of (K : PySem.W.Frag) : Sp := spec1 fun x H Q _ => ∃ (p : Addr) (n : Nat) (g : Nat → Nat), x = .ref p ∧ SqL K H p (gV n g) ∧ LotF n g ∧ ClosedF n g ∧ ∀ H', Same H H' → Q (.bl true) H'
theorem ok_is_closed_of {af : Addr} {fd : FuncData} (F : FunD K "is_closed_of" "is_closed_of" (defArgs s_is_closed_of) (defBody s_is_closed_of) (defScope s_is_closed_of) [] [] af fd) (B : Bt mg) (C_lacking_of : Cl P w K mg base 3 "lacking_of" 1 [] (sp_lacking_of K)) : FnG P w K mg base CX0 4 af fd ["numbers"] (sp_is_closed_of K) := by
  refine okG F sc_is_closed_of ar1 fun cdv A outer s H vs Q E hg hr h => ?_
  refine ⟨_, PSs.nox (pss_one (ps_ret (pe_cmpR op_isN (pe_cl C_lacking_of hg hr (by decide) rfl (pa_cons (pv 0) pa_nil)) pe_non (nomark _)))), ?_⟩
  obtain ⟨_, rfl, p, n, g, rfl, hS, L, C, q⟩ := h
  refine ⟨_, rfl, _, rfl, p, n, g, rfl, hS, L, C, fun H1 s1 => ?_⟩
  exact ⟨rfl, q _ s1⟩
def sp_is_closed (K : PySem.W.Frag) : Sp := sp_is_closed_of K
theorem ok_is_closed {af : Addr} {fd : FuncData} (F : FunD K "is_closed" "is_closed" (defArgs s_is_closed) (defBody s_is_closed) (defScope s_is_closed) [] [] af fd) (B : Bt mg) (C_want_lot : Cl P w K mg base 4 "want_lot" 1 [] (sp_want_lot K)) (C_is_closed_of : Cl P w K mg base 4 "is_closed_of" 1 [] (sp_is_closed_of K)) : FnG P w K mg base CX0 5 af fd ["numbers"] (sp_is_closed K) := by
  refine okG F sc_is_closed ar1 fun cdv A outer s H vs Q E hg hr h => ?_
  refine ⟨_, PSs.nox (pss_cons (ps_expr (pe_cl C_want_lot hg hr (by decide) rfl (pa_cons (pv 0) pa_nil)))
    (pss_one (ps_ret (pe_cl C_is_closed_of hg hr (by decide) rfl (pa_cons (pe_callTy call_list_of (by rfl) B.list (by decide +kernel) (pa_cons (pv 0) pa_nil)) pa_nil))))), ?_⟩
  obtain ⟨_, rfl, p, n, g, rfl, hS, L, C, q⟩ := h
  refine ⟨_, rfl, _, rfl, p, n, g, rfl, hS, L, fun H1 s1 => ⟨_, rfl, p, _, rfl, .inl (SqL.same s1 hS), fun l hl => ⟨_, rfl, l, n, g, rfl, SqL.of upd_same, L, C, fun H2 s2 => q _ ((s1.new hl).trans s2)⟩⟩⟩

end
end M
namespace M
/-! worths of tables that are products of lower, middle and upper ones -/
def ldS (L U : Nat → Nat → Int) (d : Nat → Int) : Nat → Nat → Nat → Nat → Int
  | 0, _, _, _ => 0
  | f + 1, k, a, b => L a k * d k * U k b + ldS L U d f (k + 1) a b
def ldD (d : Nat → Int) : Nat → Int
  | 0 => 1
  | k + 1 => ldD d k * d k
theorem ldS_zero {L U : Nat → Nat → Int} {d : Nat → Int} {a b : Nat} : ∀ {f k : Nat}, (∀ t, k ≤ t → t < k + f → L a t = 0 ∨ U t b = 0) → ldS L U d f k a b = 0
  | 0, _, _ => rfl
  | f + 1, k, h => by
    unfold ldS
    rw [ldS_zero (f := f) (k := k + 1) fun t h1 h2 => h t (by omega) (by omega)]
    rcases h k (Nat.le_refl k) (by omega) with z | z
    · rw [z, Int.zero_mul, Int.zero_mul]; rfl
    · rw [z, Int.mul_zero]; rfl
theorem ld_alg (X p q r S : Int) : (X * (p * q * r + S)) * (X * q) - (X * (p * q)) * (X * (q * r)) = X * (X * q * S) := by
  grind
theorem ldu {n : Nat} {L U : Nat → Nat → Int} {d : Nat → Int} (hL1 : ∀ t, t < n → L t t = 1) (hL0 : ∀ a t, a < t → t < n → L a t = 0) (hU1 : ∀ t, t < n → U t t = 1) (hU0 : ∀ t b, b < t → t < n → U t b = 0) (hd : ∀ t, t < n → d t ≠ 0)
    (hB : ∀ k a b, k < n → k ≤ a → k ≤ b → a < n → b < n → (ldD d k * ldS L U d (n - k) k a b).natAbs < 2 ^ 64) (hD : ∀ k, k < n → (ldD d k).natAbs < 2 ^ 200) :
    ∀ (f k : Nat) (M : Nat → Nat → Int), k + f + 1 = n → (∀ a b, k ≤ a → k ≤ b → a < n → b < n → M a b = ldD d k * ldS L U d (n - k) k a b) → Wo n k 1 (ldD d k) M (ldD d n) := by
  have nz : ∀ k, k ≤ n → ldD d k ≠ 0 := fun k => by
    induction k with
    | zero => exact fun _ => (by decide : (1 : Int) ≠ 0)
    | succ k ih => exact fun h => Int.mul_ne_zero (ih (by omega)) (hd k (by omega))
  have row : ∀ k a, k < n → k ≤ a → a < n → ldS L U d (n - k) k a k = L a k * d k := fun k a hk ha han => by
    rw [show n - k = (n - k - 1) + 1 by omega]
    unfold ldS
    rw [ldS_zero fun t h1 h2 => .inr (hU0 t k (by omega) (by omega)), hU1 k hk, Int.mul_one, Int.add_zero]
  have col : ∀ k b, k < n → k ≤ b → b < n → ldS L U d (n - k) k k b = d k * U k b := fun k b hk hb hbn => by
    rw [show n - k = (n - k - 1) + 1 by omega]
    unfold ldS
    rw [ldS_zero fun t h1 h2 => .inl (hL0 k t (by omega) (by omega)), hL1 k hk, Int.one_mul, Int.add_zero]
  have lead : ∀ k, k < n → ldD d k * ldS L U d (n - k) k k k = ldD d (k + 1) := fun k hk => by
    rw [row k k hk (Nat.le_refl k) hk, hL1 k hk, Int.one_mul]
    rfl
  intro f
  induction f with
  | zero =>
    intro k M hk hM
    have e := hM k k (Nat.le_refl k) (Nat.le_refl k) (by omega) (by omega)
    have e2 : ldD d n = 1 * M k k := by rw [e, lead k (by omega), Int.one_mul, show k + 1 = n by omega]
    rw [e2]
    exact .done (by omega) (by rw [e]; exact hB k k k (by omega) (Nat.le_refl k) (Nat.le_refl k) (by omega) (by omega))
  | succ f ih =>
    intro k M hk hM
    have e := hM k k (Nat.le_refl k) (Nat.le_refl k) (by omega) (by omega)
    rw [lead k (by omega)] at e
    refine .go (by omega) (by rw [e]; exact nz _ (by omega)) (fun a b h1 h2 h3 h4 => by rw [hM a b h1 h2 h3 h4]; exact hB k a b (by omega) h1 h2 h3 h4) ⟨nz k (by omega), hD k (by omega)⟩ ?_
    rw [e]
    refine ih (k + 1) _ (by omega) fun a b h1 h2 h3 h4 => ?_
    show (if k < a ∧ k < b then (M a b * M k k - M a k * M k b).fdiv (ldD d k) else M a b) = _
    rw [if_pos ⟨by omega, by omega⟩, e, hM a b (by omega) (by omega) h3 h4, hM a k (by omega) (Nat.le_refl k) h3 (by omega), hM k b (Nat.le_refl k) (by omega) (by omega) h4, row k a (by omega) (by omega) h3, col k b (by omega) (by omega) h4]
    have es : ldS L U d (n - k) k a b = L a k * d k * U k b + ldS L U d (n - (k + 1)) (k + 1) a b := by
      rw [show n - k = (n - (k + 1)) + 1 by omega]
      rfl
    have ed : ldD d (k + 1) = ldD d k * d k := rfl
    rw [es, ed, ld_alg, Int.mul_fdiv_cancel_left _ (nz k (by omega))]
theorem ldS_sum {L U : Nat → Nat → Int} {d : Nat → Int} {a b : Nat} : ∀ (f k : Nat), ldS L U d f k a b = ((List.range f).map fun i => L a (k + i) * d (k + i) * U (k + i) b).sum
  | 0, _ => rfl
  | f + 1, k => by
    unfold ldS
    rw [ldS_sum f (k + 1), List.range_succ_eq_map, List.map_cons, List.sum_cons, List.map_map]
    congr 2
    refine List.map_congr_left fun i _ => ?_
    show _ = L a (k + (i + 1)) * d (k + (i + 1)) * U (k + (i + 1)) b
    rw [show k + 1 + i = k + (i + 1) by omega]
theorem ldS_nn {L U : Nat → Nat → Int} {d : Nat → Int} {a b n : Nat} (h : ∀ t, t < n → 0 ≤ L a t * d t * U t b) : ∀ (f k : Nat), k + f ≤ n → 0 ≤ ldS L U d f k a b
  | 0, _, _ => Int.le_refl 0
  | f + 1, k, hk => by
    have := ldS_nn h f (k + 1) (by omega)
    have := h k (by omega)
    unfold ldS
    omega
theorem ldS_mono {L U : Nat → Nat → Int} {d : Nat → Int} {a b n : Nat} (h : ∀ t, t < n → 0 ≤ L a t * d t * U t b) : ∀ (k : Nat), k ≤ n → ldS L U d (n - k) k a b ≤ ldS L U d n 0 a b
  | 0, _ => Int.le_refl _
  | k + 1, hk => by
    have z := ldS_mono h k (by omega)
    have e : ldS L U d (n - k) k a b = L a k * d k * U k b + ldS L U d (n - (k + 1)) (k + 1) a b := by
      rw [show n - k = (n - (k + 1)) + 1 by omega]
      rfl
    have := h k (by omega)
    omega
theorem ldD_le {d : Nat → Int} {n : Nat} (h0 : d 0 = 1) (lo : ∀ t, t < n → 1 ≤ d t) (hi : ∀ t, t < n → d t ≤ 54) : ∀ k, k + 1 ≤ n → 1 ≤ ldD d (k + 1) ∧ ldD d (k + 1) ≤ 54 ^ k
  | 0, _ => by
    have : ldD d (0 + 1) = 1 := by
      show 1 * d 0 = 1
      rw [h0]
      rfl
    rw [this]
    exact ⟨by decide, by decide⟩
  | k + 1, hk => by
    obtain ⟨a, b⟩ := ldD_le h0 lo hi k (by omega)
    have l := lo (k + 1) (by omega)
    have u := hi (k + 1) (by omega)
    have e : ldD d (k + 1 + 1) = ldD d (k + 1) * d (k + 1) := rfl
    rw [e]
    refine ⟨?_, ?_⟩
    · have := Int.mul_le_mul a l (by decide) (by omega)
      omega
    · rw [Int.pow_succ]
      exact Int.mul_le_mul b u (by omega) (by omega)
theorem wo_ldu {n : Nat} {L U : Nat → Nat → Int} {d : Nat → Int} (n1 : 1 ≤ n) (n12 : n ≤ 12) (hL1 : ∀ t, t < n → L t t = 1) (hL0 : ∀ a t, a < t → t < n → L a t = 0) (hU1 : ∀ t, t < n → U t t = 1) (hU0 : ∀ t b, b < t → t < n → U t b = 0)
    (d0 : d 0 = 1) (lo : ∀ t, t < n → 1 ≤ d t) (hi : ∀ t, t < n → d t ≤ 54) (pos : ∀ a b t, a < n → b < n → t < n → 0 ≤ L a t * d t * U t b) {M : Nat → Nat → Int} (hM : ∀ a b, a < n → b < n → M a b = ((List.range n).map fun t => L a t * d t * U t b).sum)
    (h81 : ∀ a b, a < n → b < n → M a b ≤ 81) : Wo n 0 1 1 M (ldD d n) := by
  have p10 : ∀ k, k ≤ 10 → (54 : Int) ^ k ≤ 54 ^ 10 := by decide
  have hDk : ∀ k, k < n → 1 ≤ ldD d k ∧ ldD d k ≤ 54 ^ 10 := fun k hk => by
    cases k with
    | zero => exact ⟨by show (1 : Int) ≤ 1; decide, by show (1 : Int) ≤ 54 ^ 10; decide⟩
    | succ k =>
      obtain ⟨a, b⟩ := ldD_le d0 lo hi k (by omega)
      exact ⟨a, Int.le_trans b (p10 k (by omega))⟩
  have tot : ∀ a b, a < n → b < n → ldS L U d n 0 a b = M a b := fun a b ha hb => by
    rw [hM a b ha hb, ldS_sum]
    simp only [Nat.zero_add]
  refine ldu hL1 hL0 hU1 hU0 (fun t ht => (by have := lo t ht; omega)) (fun k a b hk h1 h2 h3 h4 => ?_) (fun k hk => ?_) (n - 1) 0 M (by omega) (fun a b _ _ h3 h4 => ?_)
  · obtain ⟨x1, x2⟩ := hDk k hk
    have nn := ldS_nn (fun t ht => pos a b t h3 h4 ht) (n - k) k (by omega)
    have mo := ldS_mono (fun t ht => pos a b t h3 h4 ht) k (by omega)
    rw [tot a b h3 h4] at mo
    have := h81 a b h3 h4
    have m1 : ldD d k * ldS L U d (n - k) k a b ≤ 54 ^ 10 * 81 := Int.mul_le_mul x2 (by omega) nn (by decide)
    have m0 : 0 ≤ ldD d k * ldS L U d (n - k) k a b := Int.mul_nonneg (by omega) nn
    have : (54 : Int) ^ 10 * 81 < 2 ^ 64 := by decide
    omega
  · obtain ⟨x1, x2⟩ := hDk k hk
    have : (54 : Int) ^ 10 < 2 ^ 200 := by decide
    omega
  · show M a b = 1 * ldS L U d (n - 0) 0 a b
    rw [Int.one_mul, Nat.sub_zero, tot a b h3 h4]
def idM (i j : Nat) : Int := if i = j then 1 else 0
theorem sum_pick (f : Nat → Int) : ∀ {n b : Nat}, b < n → ((List.range n).map fun t => if t = b then f t else 0).sum = f b := by
  intro n b hb
  have zer : ∀ m, m ≤ b → ((List.range m).map fun t => if t = b then f t else 0).sum = 0 := fun m => by
    induction m with
    | zero => exact fun _ => rfl
    | succ m ih =>
      intro h
      rw [List.range_succ, List.map_append, List.sum_append, ih (by omega)]
      show 0 + ((if m = b then f m else 0) + 0) = 0
      rw [if_neg (by omega)]
      rfl
  have aft : ∀ m, b < m → ((List.range m).map fun t => if t = b then f t else 0).sum = f b := fun m => by
    induction m with
    | zero => exact fun h => by omega
    | succ m ih =>
      intro h
      rw [List.range_succ, List.map_append, List.sum_append]
      show _ + ((if m = b then f m else 0) + 0) = f b
      by_cases c : m = b
      · rw [if_pos c, zer m (by omega), c, Int.zero_add, Int.add_zero]
      · rw [if_neg c, ih (by omega), Int.add_zero, Int.add_zero]
  exact aft n hb

end M
namespace M
/-! tables of shares as products -/
theorem sumE (f : Nat → Int) {K : Nat} {h : Nat → Nat} : ∀ {m : Nat} (f : Nat → Int), (∀ i j, i < j → j < m → h i < h j) → (∀ t, t < m → 1 ≤ h t ∧ h t ≤ K) → (∀ d, 1 ≤ d → d ≤ K → (∀ t, t < m → h t ≠ d) → f d = 0) →
    ((List.range m).map fun t => f (h t)).sum = sumR f K
  | 0, f, _, _, hf => by
    rw [sumR_zero fun i h1 h2 => hf i h1 h2 fun t ht => by omega]
    rfl
  | m + 1, f, hu, hb, hf => by
    obtain ⟨b1, b2⟩ := hb m (by omega)
    have ih := sumE f (m := m) (fun d => if d = h m then 0 else f d) (fun i j h1 h2 => hu i j h1 (by omega)) (fun t ht => hb t (by omega)) (fun d d1 d2 hd => by
      show (if d = h m then 0 else f d) = 0
      by_cases c : d = h m
      · rw [if_pos c]
      · rw [if_neg c]
        exact hf d d1 d2 fun t ht => by
          by_cases e : t = m
          · exact fun z => c (by rw [← z, e])
          · exact hd t (by omega))
    have e1 : ((List.range m).map fun t => f (h t)) = (List.range m).map fun t => if h t = h m then 0 else f (h t) := List.map_congr_left fun t ht => by
      have := hu t m (List.mem_range.mp ht) (by omega)
      rw [if_neg (by omega)]
    have e2 : sumR f K = sumR (fun d => (if d = h m then 0 else f d) + if d = h m then f d else 0) K := sumR_congr fun d _ _ => by
      split <;> simp
    have e3 : sumR (fun d => if d = h m then f d else 0) K = f (h m) := by
      rw [sumR_one (k := h m) b1 b2 fun i _ _ hi => if_neg hi, if_pos rfl]
    rw [e2, sumR_add, e3, ← ih, List.range_succ, List.map_append, List.sum_append, e1]
    show _ + (f (h m) + 0) = _
    rw [Int.add_zero]
theorem gaussE {m N : Nat} {h : Nat → Nat} (hu : ∀ i j, i < j → j < m → h i < h j) (h1 : ∀ t, t < m → 1 ≤ h t) (hN : 1 ≤ N) (hE : ∀ d, d ∣ N → ∃ t, t < m ∧ h t = d) :
    ((List.range m).map fun t => if h t ∣ N then phN (h t) else 0).sum = N := by
  obtain ⟨K, hK⟩ : ∃ K, (∀ t, t < m → h t ≤ K) ∧ N ≤ K := by
    refine ⟨h (m - 1) + N, fun t ht => ?_, by omega⟩
    by_cases c : t = m - 1
    · subst c
      omega
    · have := hu t (m - 1) (by omega) (by omega)
      omega
  rw [sumE (K := K) (fun d => if d ∣ N then phN d else 0) (fun d => if d ∣ N then phN d else 0) hu (fun t ht => ⟨h1 t ht, hK.1 t ht⟩) fun d _ _ hd => if_neg fun z => by
    obtain ⟨t, ht, e⟩ := hE d z
    exact hd t ht e, dsum_more hN hK.2, gauss hN]
theorem phL_pos : ∀ {b : Nat} {L : List (Nat × Nat)}, FacOk b L → 1 ≤ phL L
  | _, [], _ => Nat.le_refl 1
  | _, (p, e) :: r, ⟨_, hp, _, hr⟩ => by
    have a := phL_pos hr
    have b := pe_pos (e := e - 1) hp
    have c := hp.1
    exact Nat.mul_pos (Nat.mul_pos b (by omega)) a
theorem ph_pos {n : Nat} (hn : 1 ≤ n) : 1 ≤ phN n := by
  obtain ⟨L, h⟩ := fac_ex hn
  rw [ph_fac h]
  have := phL_pos h.1
  omega
theorem ph_le {n : Nat} (hn : 1 ≤ n) : phN n ≤ n := by
  have g := gauss hn
  obtain ⟨k, rfl⟩ : ∃ k, n = k + 1 := ⟨n - 1, by omega⟩
  have e : dsum phN (k + 1) = sumR (fun d => if d ∣ k + 1 then phN d else 0) k + phN (k + 1) := by
    unfold dsum
    rw [sumR, if_pos (Nat.dvd_refl _)]
  have nn : sumR (fun _ => (0 : Int)) k ≤ sumR (fun d => if d ∣ k + 1 then phN d else 0) k := sumR_mono fun i h1 _ => by
    split
    · have := ph_pos h1
      omega
    · exact Int.le_refl 0
  rw [sumR_zero fun _ _ _ => rfl] at nn
  omega
theorem ph81 : phN 81 = 54 := by decide +kernel
theorem ph63 : phN 63 = 36 := by decide +kernel
def GoodN (x : Nat) : Prop := 1 ≤ x ∧ (x ≤ 54 ∨ x = 63 ∨ x = 81)
theorem GoodN.dvd {x d : Nat} (h : GoodN x) (hd : d ∣ x) : GoodN d := by
  obtain ⟨x1, hx⟩ := h
  obtain ⟨c, rfl⟩ := hd
  have c1 : 1 ≤ c := Nat.pos_of_ne_zero fun z => by rw [z] at x1; simp at x1
  have d1 : 1 ≤ d := Nat.pos_of_ne_zero fun z => by rw [z] at x1; simp at x1
  by_cases e : c = 1
  · rw [e, Nat.mul_one] at hx
    exact ⟨d1, hx⟩
  · have := Nat.mul_le_mul (Nat.le_refl d) (show 2 ≤ c by omega)
    exact ⟨d1, .inl (by omega)⟩
theorem GoodN.ph {x : Nat} (h : GoodN x) : phN x ≤ 54 := by
  obtain ⟨x1, z | rfl | rfl⟩ := h
  · have := ph_le x1
    omega
  · rw [ph63]; decide
  · rw [ph81]; decide
theorem GoodN.le {x : Nat} (h : GoodN x) : x ≤ 81 := by
  obtain ⟨x1, z | rfl | rfl⟩ := h
  · omega
  · omega
  · omega
/-- what a sequence of all divisors of some numbers is -/
structure ClM (m : Nat) (h : Nat → Nat) : Prop where
  m1 : 1 ≤ m
  m12 : m ≤ 12
  up : ∀ i j, i < j → j < m → h i < h j
  ok : ∀ t, t < m → GoodN (h t)
  dv : ∀ i, i < m → ∀ d, d ∣ h i → ∃ t, t < m ∧ h t = d
def dvM (g h : Nat → Nat) (i j : Nat) : Int := if h j ∣ g i then 1 else 0
theorem ClM.first {m : Nat} {h : Nat → Nat} (C : ClM m h) : h 0 = 1 := by
  obtain ⟨t, ht, e⟩ := C.dv 0 C.m1 1 (Nat.one_dvd _)
  by_cases c : t = 0
  · rw [← c, e]
  · have := C.up 0 t (by omega) ht
    have := (C.ok 0 C.m1).1
    omega
theorem ClM.low {m : Nat} {h : Nat → Nat} (C : ClM m h) {a t : Nat} (hat : a < t) (ht : t < m) : dvM h h a t = 0 := by
  unfold dvM
  rw [if_neg fun z => ?_]
  have := Nat.le_of_dvd (C.ok a (by omega)).1 z
  have := C.up a t hat ht
  omega
theorem dvM_self {h : Nat → Nat} (t : Nat) : dvM h h t t = 1 := if_pos (Nat.dvd_refl _)
theorem dvM_nn (g h : Nat → Nat) (i j : Nat) : 0 ≤ dvM g h i j ∧ dvM g h i j ≤ 1 := by
  unfold dvM
  split <;> decide
/-- the sum over divisors is the share -/
theorem share_sumE {m : Nat} {h : Nat → Nat} (hu : ∀ i j, i < j → j < m → h i < h j) (h1 : ∀ t, t < m → 1 ≤ h t) {x y : Nat} (hx : 1 ≤ x) (hE : ∀ d, d ∣ x → ∃ t, t < m ∧ h t = d) :
    ((List.range m).map fun t => (if h t ∣ x then (1 : Int) else 0) * phN (h t) * (if h t ∣ y then 1 else 0)).sum = (Nat.gcd x y : Nat) := by
  rw [← gaussE hu h1 (Nat.gcd_pos_of_pos_left y hx) fun d hd => hE d (Nat.dvd_trans hd (Nat.gcd_dvd_left x y))]
  congr 1
  refine List.map_congr_left fun t _ => ?_
  by_cases a : h t ∣ x <;> by_cases b : h t ∣ y
  · rw [if_pos a, if_pos b, if_pos (Nat.dvd_gcd a b), Int.one_mul, Int.mul_one]
  · rw [if_neg b, if_neg fun z => b (Nat.dvd_trans z (Nat.gcd_dvd_right x y)), Int.mul_zero]
  · rw [if_neg a, if_neg fun z => a (Nat.dvd_trans z (Nat.gcd_dvd_left x y)), Int.zero_mul, Int.zero_mul]
  · rw [if_neg b, if_neg fun z => b (Nat.dvd_trans z (Nat.gcd_dvd_right x y)), Int.mul_zero]
def phD (h : Nat → Nat) (t : Nat) : Int := phN (h t)
theorem ClM.shares {m : Nat} {h : Nat → Nat} (C : ClM m h) : Wo m 0 1 1 (fun i j => (Nat.gcd (h i) (h j) : Nat)) (ldD (phD h) m) := by
  refine wo_ldu (L := dvM h h) (U := fun t b => dvM h h b t) C.m1 C.m12 (fun t _ => dvM_self t) (fun a t h1 h2 => C.low h1 h2) (fun t _ => dvM_self t) (fun t b h1 h2 => C.low h1 h2) ?_ (fun t ht => ph_pos (C.ok t ht).1) (fun t ht => (C.ok t ht).ph)
    (fun a b t _ _ ht => Int.mul_nonneg (Int.mul_nonneg (dvM_nn _ _ _ _).1 (by have := ph_pos (C.ok t ht).1; show 0 ≤ phN (h t); omega)) (dvM_nn _ _ _ _).1) (fun a b ha hb => (share_sumE C.up (fun t ht => (C.ok t ht).1) (C.ok a ha).1 (C.dv a ha)).symm) (fun a b ha hb => ?_)
  · show phN (h 0) = 1
    rw [C.first]
    decide +kernel
  · have := Nat.le_of_dvd (C.ok a ha).1 (Nat.gcd_dvd_left (h a) (h b))
    have := (C.ok a ha).le
    omega
theorem ClM.middle {m : Nat} {h : Nat → Nat} (C : ClM m h) : Wo m 0 1 1 (fun i j => if i = j then phN (h i) else 0) (ldD (phD h) m) := by
  have nn : ∀ i j, 0 ≤ idM i j := fun i j => by unfold idM; split <;> decide
  refine wo_ldu (L := idM) (U := idM) C.m1 C.m12 (fun t _ => if_pos rfl) (fun a t h1 h2 => if_neg (by omega)) (fun t _ => if_pos rfl) (fun t b h1 h2 => if_neg (by omega)) ?_ (fun t ht => ph_pos (C.ok t ht).1) (fun t ht => (C.ok t ht).ph)
    (fun a b t _ _ ht => Int.mul_nonneg (Int.mul_nonneg (nn _ _) (by have := ph_pos (C.ok t ht).1; show 0 ≤ phN (h t); omega)) (nn _ _)) (fun a b ha hb => ?_) (fun a b ha hb => ?_)
  · show phN (h 0) = 1
    rw [C.first]
    decide +kernel
  · rw [show (List.range m).map (fun t => idM a t * phN (h t) * idM t b) = (List.range m).map fun t => if t = b then (if a = t then phN (h a) else 0) else 0 from List.map_congr_left fun t _ => ?_, sum_pick (fun t => if a = t then phN (h a) else 0) hb]
    unfold idM
    by_cases x : a = t
    · subst x
      by_cases y : a = b
      · rw [if_pos rfl, if_pos y, if_pos y, if_pos rfl, Int.one_mul, Int.mul_one]
      · rw [if_neg y, if_neg y, Int.mul_zero]
    · rw [if_neg x, if_neg x, Int.zero_mul, Int.zero_mul]
      split <;> rfl
  · show (if a = b then phN (h a) else 0) ≤ 81
    have := (C.ok a ha).ph
    split <;> omega
theorem ClM.square {m : Nat} {h : Nat → Nat} (C : ClM m h) : Wo m 0 1 1 (dvM h h) 1 := by
  have e : ∀ k, ldD (fun _ => 1) k = 1 := fun k => by
    induction k with
    | zero => rfl
    | succ k ih =>
      show ldD _ k * 1 = 1
      rw [ih]
      rfl
  have w := wo_ldu (L := dvM h h) (U := idM) (d := fun _ => 1) (M := dvM h h) C.m1 C.m12 (fun t _ => dvM_self t) (fun a t h1 h2 => C.low h1 h2) (fun t _ => if_pos rfl) (fun t b h1 h2 => if_neg (by omega)) rfl (fun t ht => Int.le_refl 1) (fun t ht => by decide)
    (fun a b t _ _ ht => Int.mul_nonneg (Int.mul_nonneg (dvM_nn _ _ _ _).1 (by decide)) (by unfold idM; split <;> decide)) (fun a b ha hb => ?_) (fun a b ha hb => ?_)
  · rw [e] at w
    exact w
  · rw [show (List.range m).map (fun t => dvM h h a t * 1 * idM t b) = (List.range m).map fun t => if t = b then dvM h h a t else 0 from List.map_congr_left fun t _ => ?_, sum_pick (fun t => dvM h h a t) hb]
    unfold idM
    rw [Int.mul_one]
    split <;> simp
  · have := (dvM_nn h h a b).2
    omega

end M
namespace M
open PySem PySem.Spec PyProof.Rows L2 G
section
variable {P : Program} {w : World} {K : PySem.W.Frag} {mg : Str → Option Value} {base : Heap}
/-! the law's own lots -/
def wtI (l : List Int) : Nat := (l.map fun x => (divsL x.toNat).length).sum
theorem wtI_perm {a b : List Int} (h : a.Perm b) : wtI a = wtI b := by
  unfold wtI
  exact (h.map _).sum_nat
theorem wtI_sub : ∀ {a b : List Int}, a.Nodup → (∀ x ∈ a, x ∈ b) → wtI a ≤ wtI b
  | [], b, _, _ => Nat.zero_le _
  | x :: a, b, hn, hs => by
    obtain ⟨n1, n2⟩ := List.nodup_cons.mp hn
    rw [wtI_perm (List.perm_cons_erase (hs x List.mem_cons_self))]
    have ih := wtI_sub (b := b.erase x) n2 fun y hy => (List.mem_erase_of_ne (fun z : y = x => n1 (z ▸ hy))).mpr (hs y (List.mem_cons_of_mem _ hy))
    unfold wtI at ih ⊢
    rw [List.map_cons, List.map_cons, List.sum_cons, List.sum_cons]
    omega
theorem wtI_app (a b : List Int) : wtI (a ++ b) = wtI a + wtI b := by
  unfold wtI
  rw [List.map_append, List.sum_append]
/-- numbers as they are drawn -/
structure Drawn (ks : List Int) : Prop where
  ne : ks ≠ []
  ok : ∀ x ∈ ks, ∃ k : Nat, x = (k : Int) ∧ GoodN k
  wt : wtI ks ≤ 63
theorem divsL_ne {n : Nat} (h : 1 ≤ n) : 1 ≤ (divsL n).length := by
  have : 1 ∈ divsL n := (mem_divsL h).mpr (Nat.one_dvd n)
  cases e : divsL n with
  | nil => rw [e] at this; cases this
  | cons => simp
theorem wtI_len : ∀ {ks : List Int}, (∀ x ∈ ks, ∃ k : Nat, x = (k : Int) ∧ GoodN k) → ks.length ≤ wtI ks
  | [], _ => Nat.zero_le _
  | x :: ks, h => by
    have ih := wtI_len fun y hy => h y (List.mem_cons_of_mem _ hy)
    obtain ⟨k, rfl, hk⟩ := h x List.mem_cons_self
    have := divsL_ne hk.1
    unfold wtI at ih ⊢
    rw [List.map_cons, List.sum_cons, List.length_cons]
    show _ ≤ (divsL k).length + _
    omega
/-- the list handed out -/
structure LotI (ks : List Int) : Prop where
  d : Drawn ks
  lt : ks.Pairwise (· < ·)
theorem tau40 : ∀ n : Nat, n ≤ 40 → (divsL n).length ≤ 9 := by decide +kernel
def pickL : List Nat := [1, 2, 4, 6, 8, 9, 12, 16, 18, 20, 25, 27, 28, 30, 45, 49, 50, 63, 81]
theorem pick_ok : ∀ n ∈ pickL, wtI ((divsL n).map fun d : Nat => (d : Int)) ≤ 27 ∧ 1 ≤ n ∧ (n ≤ 54 ∨ n = 63 ∨ n = 81) := by decide +kernel
def sp__law_lot (K : PySem.W.Frag) : Sp := spec2 fun x y H Q _ => ∃ (a : Addr) (m : Nat), x = .ref a ∧ y = .int m ∧ PotAt H a ∧ 1 ≤ m ∧ m ≤ 40 ∧ ∀ r ks H', LotI ks → ks.length ≤ 12 → Grow a H H' → PotAt H' a → r ≠ a → H' r = some (.lst (ks.map V.int)) → Q (.ref r) H'
theorem ok__law_lot {af : Addr} {fd : FuncData} (F : FunD K "_law_lot" "_law_lot" (defArgs s__law_lot) (defBody s__law_lot) (defScope s__law_lot) [] [] af fd) (B : Bt mg) (C__law_draw : Cl P w K mg base 1 "_law_draw" 2 [] (sp__law_draw K)) (C__law_divisors : Cl P w K mg base 1 "_law_divisors" 1 [] (sp__law_divisors K)) (C__law_pick : Cl P w K mg base 2 "_law_pick" 2 [] (sp__law_pick K)) : FnG P w K mg base CX0 3 af fd ["pot", "most"] (sp__law_lot K) := by
  refine okG F sc__law_lot ar2 fun cdv A outer s H vs Q E hg hr h => ?_
  refine ⟨_, PSs.nox (pss_cons (ps_par (i := 2) (j := 3) (by rfl) sc__law_lot.nd rfl rfl (by decide) rfl rfl (pa_cons (pe_cl C__law_draw hg hr (by decide) rfl (pa_cons (pv 0) (pa_cons pe_int pa_nil))) (pa_cons (pe_lst pa_nil) pa_nil)) (by rfl))
    (pss_cutG (ps_if (pt_cmpR op_eq (pv 2) pe_int (nomark _))
      (pss_one (ps_setLc (i := 3) (own := [("more", 4)]) rfl sc__law_lot.nd rfl rfl (sw_true rfl rfl rfl (by decide +kernel)) (pi_range1 rfl B.range (pa_cons (pe_op op_add pe_int (pe_cl C__law_draw hg hr (by decide) rfl (pa_cons (pv 0) (pa_cons pe_int pa_nil)))) pa_nil)) (blkOk_by (own := [("more", 4)]) (N := ["pot", "most", "kind", "found", "more", "at"]) (sc := defScope s__law_lot) (by decide +kernel)) (fun _ _ _ _ _ => pg_name (i := 4) sc__law_lot.nd rfl (.inl rfl) (.inr rfl)) (fun _ _ _ _ _ => pts_nil) (fun _ _ _ _ _ => (pe_op op_add pe_int (pe_cl C__law_draw hg hr (by decide) rfl (pa_cons (pv 0) (pa_cons (pv 1) pa_nil)))))))
      (pss_one (ps_for PassesOwn.never rfl (pi_range1 rfl B.range (pa_cons (pv 2) pa_nil)) (pg_name (i := 4) sc__law_lot.nd rfl (.inl rfl))
        (pss_one (ps_set (i := 3) sc__law_lot.nd rfl (.inl rfl) (pe_op op_cat (pv 3) (pe_cl C__law_divisors hg hr (by decide) rfl (pa_cons (pe_cl C__law_pick hg hr (by decide) rfl (pa_cons (pv 0) (pa_cons (pe_lst (pa_cons pe_int (pa_cons pe_int (pa_cons pe_int (pa_cons pe_int (pa_cons pe_int (pa_cons pe_int (pa_cons pe_int (pa_cons pe_int (pa_cons pe_int (pa_cons pe_int (pa_cons pe_int (pa_cons pe_int (pa_cons pe_int (pa_cons pe_int (pa_cons pe_int (pa_cons pe_int (pa_cons pe_int (pa_cons pe_int (pa_cons pe_int pa_nil)))))))))))))))))))) pa_nil))) pa_nil))))))))
    (pss_cons (ps_set (i := 3) sc__law_lot.nd rfl (.inl rfl) (pe_callB (cr_sortedSet rfl) (by rfl) B.sorted (by decide +kernel) (pa_cons (pe_callTy (cr_setL rfl) (by rfl) B.set (by decide +kernel) (pa_cons (pv 3) pa_nil)) pa_nil)))
    (pss_cutG (ps_if (PW.pt (pw_and (pt_cmpR op_eq (pe_cl C__law_draw hg hr (by decide) rfl (pa_cons (pv 0) (pa_cons pe_int pa_nil))) pe_int (nomark _)) (pw_and1 (pt_cmpR op_gt (pe_callB call_len_seq (by rfl) B.len (by decide +kernel) (pa_cons (pv 3) pa_nil)) pe_int (nomark _)))))
      (pss_cons (ps_set (i := 5) sc__law_lot.nd rfl (.inl rfl) (pe_cl C__law_draw hg hr (by decide) rfl (pa_cons (pv 0) (pa_cons (pe_callB call_len_seq (by rfl) B.len (by decide +kernel) (pa_cons (pv 3) pa_nil)) pa_nil))))
      (pss_one (ps_set (i := 3) sc__law_lot.nd rfl (.inl rfl) (pe_op op_cat (pe_slice sl_list (pv 3) po_none (po_some (pv 5))) (pe_slice sl_list (pv 3) (po_some (pe_op op_add (pv 5) pe_int)) po_none)))))
      pss_nil)
    (pss_one (ps_ret (pe_ifExp (pt_cmpR op_le (pe_callB call_len_seq (by rfl) B.len (by decide +kernel) (pa_cons (pv 3) pa_nil)) pe_int (nomark _)) (pv 3) (pe_lst (pa_cons pe_int (pa_cons pe_int pa_nil)))))))))), ?_⟩
  obtain ⟨_, _, rfl, a, m, rfl, rfl, hp, m1, m2, q⟩ := h
  refine ⟨_, rfl, _, _, rfl, a, 3, rfl, rfl, hp, by decide, by decide, fun kd H1 k0 k1 g1 p1 => ⟨sz0, fun l hl => ⟨_, _, rfl, ?_⟩⟩⟩
  refine ⟨fun σ H2 => ∃ (l : Addr) (ks : List Int) (y : Option V), σ = [some (.ref a), some (.int m), some (.int kd), some (.ref l), y, none] ∧ Grow a H H2 ∧ PotAt H2 a ∧ l ≠ a ∧ H2 l = some (.lst (ks.map V.int)) ∧ Drawn ks, ⟨_, rfl, rfl, _, rfl, ite2 (fun hc => ?_) (fun hc => ?_)⟩, ?_⟩
  · have pl : PotAt (upd H1 l (.lst [])) a := p1.new hl
    refine ⟨_, rfl, _, _, rfl, a, 7, rfl, rfl, pl, by decide, by decide, fun d H2 d0 d1 g2 p2 => ⟨_, _, rfl, rfl, _, rfl, by omega, by omega, fun D hD => lc_range (lo := 0) (fun i H3 => ∃ ks : List Int, ks.length = i ∧ (∀ x ∈ ks, 1 ≤ x ∧ x ≤ 40) ∧ H3 D = some (.lst (ks.map V.int)) ∧ Grow a H2 H3 ∧ PotAt H3 a) ⟨[], rfl, fun x hx => (by cases hx), upd_same, (Grow.refl a H2).new hD, p2.new hD⟩ ?_ ?_⟩⟩
    · rintro i H3 hi ⟨ks, hl3, hk, e3, g3, p3⟩
      have Da := p2.ne hD
      refine ⟨rfl, _, rfl, _, rfl, _, _, rfl, a, m, rfl, rfl, p3, by omega, by omega, fun d3 H4 d30 d31 g4 p4 => ⟨_, _, rfl, rfl, ?_⟩⟩
      have e4 := g4 _ _ Da e3
      refine ⟨_, e4, small_lt (by simp; omega), ks ++ [1 + d3], by simp [hl3], fun x hx => ?_, by rw [upd_same, List.map_append]; rfl, fun b o hb e => (upd_ne (ne_of_none e hD)).trans ((g3.trans g4) b o hb e), ?_⟩
      · rcases List.mem_append.mp hx with z | z
        · exact hk x z
        · rw [List.mem_singleton.mp z]
          omega
      · obtain ⟨x, y, e, r⟩ := p4
        exact ⟨x, y, (upd_ne Da.symm).trans e, r⟩
    · rintro H3 ⟨ks, hl3, hk, e3, g3, p3⟩
      have Da := p2.ne hD
      have ok : ∀ x ∈ ks, ∃ k : Nat, x = (k : Int) ∧ GoodN k := fun x hx => by
        obtain ⟨x1, x2⟩ := hk x hx
        exact ⟨x.toNat, by omega, by omega, .inl (by omega)⟩
      refine ⟨D, ks, none, rfl, (g1.new hl).trans (g2.trans g3), p3, Da, e3, ⟨fun z => ?_, ok, ?_⟩⟩
      · rw [z] at hl3
        simp at hl3
        omega
      · have : ∀ l : List Int, (∀ x ∈ l, 1 ≤ x ∧ x ≤ 40) → wtI l ≤ 9 * l.length := fun l => by
          induction l with
          | nil => exact fun _ => Nat.le_refl 0
          | cons x l ih =>
            intro h
            have z := ih fun y hy => h y (List.mem_cons_of_mem _ hy)
            have x1 := h x List.mem_cons_self
            have := tau40 x.toNat (by omega)
            unfold wtI at z ⊢
            rw [List.map_cons, List.sum_cons, List.length_cons]
            omega
        have := this ks hk
        omega
  · have k12 : 1 ≤ kd := by
      have : kd ≠ 0 := fun z => hc (decide_eq_true (by rw [z]))
      omega
    refine ⟨_, rfl, _, rfl, by omega, by omega, for_range (lo := 0) (fun i σ H2 => ∃ (l : Addr) (ks : List Int) (y : Option V), σ = [some (.ref a), some (.int m), some (.int kd), some (.ref l), y, none] ∧ Grow a H H2 ∧ PotAt H2 a ∧ l ≠ a ∧ H2 l = some (.lst (ks.map V.int)) ∧ (∀ x ∈ ks, ∃ k : Nat, x = (k : Int) ∧ GoodN k) ∧ wtI ks ≤ 27 * i ∧ (1 ≤ i → ks ≠ []))
      ⟨l, [], none, rfl, g1.new hl, p1.new hl, p1.ne hl, upd_same, fun x hx => (by cases hx), Nat.le_refl 0, fun z => (by omega)⟩ ?_ ?_⟩
    · rintro i σ H2 hi ⟨l, ks, y, rfl, g2, p2, la, e2, ok, wt, ne⟩
      have lk := wtI_len ok
      refine ⟨_, rfl, _, rfl, (by show 19 ≤ sizeLine; decide), fun pl hpl => ?_⟩
      refine ⟨_, _, rfl, a, pl, _, rfl, rfl, p2.new hpl, p2.ne hpl, SqL.of upd_same, by decide, by decide, fun v H3 hv g3 p3 => ?_⟩
      obtain ⟨n, hn, rfl⟩ : ∃ n ∈ pickL, v = .int (n : Nat) := by
        have hv : v ∈ pickL.map fun n : Nat => V.int (n : Nat) := hv
        obtain ⟨n, hn, rfl⟩ := List.mem_map.mp hv
        exact ⟨n, hn, rfl⟩
      obtain ⟨w1, n1, n2⟩ := pick_ok n hn
      have gn : GoodN n := ⟨n1, n2⟩
      have n81 := gn.le
      refine ⟨_, rfl, n, rfl, n1, by omega, fun r H4 s4 hr e4 => ?_⟩
      have e2' := s4 _ _ (g3 _ _ la ((upd_ne (ne_of_none e2 hpl)).trans e2))
      have len4 : (nsV (divsL n)).length ≤ 27 := by
        have := wtI_len (ks := (divsL n).map fun d : Nat => (d : Int)) fun x hx => by
          obtain ⟨d, hd, rfl⟩ := List.mem_map.mp hx
          exact ⟨d, rfl, gn.dvd ((mem_divsL n1).mp hd)⟩
        rw [List.length_map] at this
        rw [nsV_len]
        omega
      refine ⟨l, r, _, _, rfl, rfl, e2', e4, small_sz (by rw [List.length_map]; omega), fun q hq => ?_⟩
      have p4 := p3.same s4
      refine ⟨q, ks ++ (divsL n).map fun d : Nat => (d : Int), some (.int (0 + (i : Int))), rfl, ((g2.new hpl).trans (g3.trans (Grow.of s4))).new hq, p4.new hq, p4.ne hq, by rw [upd_same, List.map_append, nsV_ints], fun x hx => ?_, by rw [wtI_app]; omega, fun _ z => ?_⟩
      · rcases List.mem_append.mp hx with z | z
        · exact ok x z
        · obtain ⟨d, hd, rfl⟩ := List.mem_map.mp z
          exact ⟨d, rfl, gn.dvd ((mem_divsL n1).mp hd)⟩
      · have := divsL_ne n1
        have z := congrArg List.length z
        rw [List.length_append, List.length_map, List.length_nil] at z
        omega
    · rintro σ H2 ⟨l, ks, y, rfl, g2, p2, la, e2, ok, wt, ne⟩
      exact ⟨l, ks, y, rfl, g2, p2, la, e2, ne (by omega), ok, by omega⟩
  · rintro σ H2 ⟨l, ks, y, rfl, g2, p2, la, e2, dr⟩
    have wl := wtI_len dr.ok
    have := dr.wt
    refine ⟨_, rfl, l, ks, rfl, SqL.of e2, by show _ < 4096; omega, fun p n hp hn => ⟨p, _, n, rfl, upd_same, by omega, fun ns r hs hm hl hr => ?_⟩⟩
    have p3 := p2.new (o := SetO w p (fun j => decide (j ∈ ks)) n) hp
    have sub : ∀ x ∈ ns, x ∈ ks := fun x hx => of_decide_eq_true ((hm x).mp hx)
    have ld : LotI ns := by
      refine ⟨⟨fun z => ?_, fun x hx => dr.ok x (sub x hx), ?_⟩, hs⟩
      · obtain ⟨x, hx⟩ := List.exists_mem_of_ne_nil _ dr.ne
        have := (hm x).mpr (decide_eq_true hx)
        rw [z] at this
        cases this
      · exact Nat.le_trans (wtI_sub (hs.imp fun z => by omega) sub) dr.wt
    have g3 : Grow a H (upd (upd H2 p (SetO w p (fun j => decide (j ∈ ks)) n)) r (.lst (ns.map V.int))) := (g2.new hp).new hr
    have p4 := p3.new (o := .lst (ns.map V.int)) hr
    have ra := p3.ne hr
    have er : upd (upd H2 p (SetO w p (fun j => decide (j ∈ ks)) n)) r (.lst (ns.map V.int)) r = some (.lst (ns.map V.int)) := upd_same
    refine ⟨fun σ H4 => ∃ (l : Addr) (ks : List Int) (y y2 : Option V), σ = [some (.ref a), some (.int m), some (.int kd), some (.ref l), y, y2] ∧ Grow a H H4 ∧ PotAt H4 a ∧ l ≠ a ∧ H4 l = some (.lst (ks.map V.int)) ∧ LotI ks, ?_, ?_⟩
    · have wl := wtI_len ld.d.ok
      have w63 := ld.d.wt
      refine ⟨_, rfl, _, _, rfl, a, 4, rfl, rfl, p4, by decide, by decide, fun d4 H4 d40 d41 g4 p5 => ⟨rfl, _, rfl, ite2 (fun hc => ?_) (fun hc => ⟨r, ns, y, none, rfl, g3.trans g4, p5, ra, g4 _ _ ra er, ld⟩)⟩⟩
      have e4 := g4 _ _ ra er
      refine ⟨_, rfl, r, _, rfl, .inl (SqL.of e4), _, _, rfl, rfl, _, rfl, ite2 (fun hc2 => ?_) (fun hc2 => ⟨r, ns, y, none, rfl, g3.trans g4, p5, ra, e4, ld⟩)⟩
      have l2 : 1 < ns.length := by
        have : (1 : Int) < ((ns.map V.int).length : Nat) := of_decide_eq_true hc2
        rw [List.length_map] at this
        omega
      refine ⟨_, rfl, _, rfl, r, _, rfl, .inl (SqL.of e4), _, _, rfl, a, _, rfl, rfl, p5, by rw [List.length_map]; omega, by rw [List.length_map]; omega, fun at' H5 a0 a1 g5 p6 => ?_⟩
      rw [List.length_map] at a1
      obtain ⟨t, rfl⟩ : ∃ t : Nat, at' = (t : Int) := ⟨at'.toNat, by omega⟩
      have e5 := g5 _ _ ra e4
      refine ⟨_, rfl, _, rfl, _, rfl, r, _, rfl, SqL.of e5, fun u1 hu1 => ⟨_, rfl, _, rfl, _, _, rfl, rfl, _, rfl, r, _, rfl, SqL.of ((upd_ne (ne_of_none e5 hu1)).trans e5), fun u2 hu2 => ?_⟩⟩
      rw [cut_to, show ((t : Int) + 1) = ((t + 1 : Nat) : Int) by omega, cut_from]
      rw [cut_to] at hu2
      have u12 : u1 ≠ u2 := fun z => by rw [← z, upd_same] at hu2; cases hu2
      have lt1 : (List.take t (ns.map V.int)).length + (List.drop (t + 1) (ns.map V.int)).length ≤ sizeLine := small_sz (by rw [List.length_take, List.length_drop, List.length_map]; omega)
      refine ⟨u1, u2, _, _, rfl, rfl, (upd_ne u12).trans upd_same, upd_same, lt1, fun u3 hu3 => ?_⟩
      have q6 := ((p6.new (o := .lst (List.take t (ns.map V.int))) hu1).new (o := .lst (List.drop (t + 1) (ns.map V.int))) hu2)
      have er : List.take t (ns.map V.int) ++ List.drop (t + 1) (ns.map V.int) = (ns.eraseIdx t).map V.int := by
        rw [List.eraseIdx_eq_take_drop_succ, List.map_append, List.map_take, List.map_drop]
      have sb := List.eraseIdx_sublist ns t
      have lt' := List.Pairwise.sublist sb ld.lt
      refine ⟨u3, ns.eraseIdx t, y, some (.int t), rfl, ((((g3.trans g4).trans g5).new hu1).new hu2).new hu3, q6.new hu3, q6.ne hu3, by rw [upd_same, er], ⟨⟨fun z => ?_, fun x hx => ld.d.ok x (sb.subset hx), ?_⟩, lt'⟩⟩
      · have z := congrArg List.length z
        rw [List.length_eraseIdx_of_lt (by omega), List.length_nil] at z
        omega
      · exact Nat.le_trans (wtI_sub (lt'.imp fun z => by omega) fun x hx => sb.subset hx) ld.d.wt
    · rintro σ H4 ⟨l, ks, y, y2, rfl, g4, p4, la, e4, lt⟩
      refine ⟨_, rfl, l, _, rfl, .inl (SqL.of e4), _, _, rfl, rfl, _, rfl, ite2 (fun hc => ⟨_, rfl, ?_⟩) (fun hc => ⟨sz2, fun u hu => ?_⟩)⟩
      · have : ((ks.map V.int).length : Int) ≤ 12 := of_decide_eq_true hc
        rw [List.length_map] at this
        exact q l ks _ lt (by omega) g4 p4 la e4
      · refine q u [1, 2] _ ⟨⟨by simp, fun x hx => ?_, by decide +kernel⟩, by decide⟩ (by decide) (g4.new hu) (p4.new hu) (p4.ne hu) upd_same
        rcases List.mem_cons.mp hx with z | z
        · exact ⟨1, by rw [z]; rfl, by decide, .inl (by decide)⟩
        · rw [List.mem_singleton.mp z]
          exact ⟨2, rfl, by decide, .inl (by decide)⟩

end
end M
namespace M
open PySem PySem.Spec PyProof.Rows L2 G
section
variable {P : Program} {w : World} {K : PySem.W.Frag} {mg : Str → Option Value} {base : Heap}
/-! lots by place; tables with unlike sides -/
structure RecM (K : PySem.W.Frag) (H : Hp) (a : Addr) (n m : Nat) (ad : Nat → Addr) (M : Nat → Nat → Int) : Prop where
  top : SqL K H a ((List.range n).map fun i => V.ref (ad i))
  row : ∀ i, i < n → SqL K H (ad i) ((List.range m).map fun j => V.int (M i j))
theorem RecM.same {H H' : Hp} {a : Addr} {n m : Nat} {ad : Nat → Addr} {M : Nat → Nat → Int} (h : RecM K H a n m ad M) (s : Same H H') : RecM K H' a n m ad M := ⟨SqL.same s h.top, fun i hi => SqL.same s (h.row i hi)⟩
theorem RecM.of_rp {N : Addr → Prop} {H : Hp} {p : Addr} {n m : Nat} {M : Nat → Nat → Int} (h : Rp N H (.ref p) (tabD (tabR n m M))) : ∃ ad, RecM K H p n m ad M := by
  obtain ⟨_, vs, e, ra⟩ := h.node
  unfold tabR at ra
  rw [List.map_map] at ra
  have get : ∀ i, i < n → ∃ b, vs[i]? = some (.ref b) ∧ H b = some (.lst ((List.range m).map fun j => V.int (M i j))) := fun i hi => by
    obtain ⟨v, e1, e2⟩ := ra.get (i := i) (d := .list (((List.range m).map fun j => M i j).map PyData.int)) (by rw [List.getElem?_map, List.getElem?_range hi]; rfl)
    obtain ⟨b, rfl, _⟩ := e2.isRef
    refine ⟨b, e1, ?_⟩
    rw [e2.ints, List.map_map]
    rfl
  refine ⟨fun i => match vs[i]? with | some (.ref b) => b | _ => 0, ⟨SqL.of ?_, fun i hi => ?_⟩⟩
  · rw [e]
    refine congrArg (fun z => some (HO.lst z)) (List.ext_getElem? fun i => ?_)
    rw [List.getElem?_map]
    by_cases hi : i < n
    · obtain ⟨b, e1, _⟩ := get i hi
      rw [List.getElem?_range hi, e1]
      simp [e1]
    · rw [List.getElem?_eq_none (by rw [ra.length]; simp; omega), List.getElem?_eq_none (by simp; omega)]
      rfl
  · obtain ⟨b, e1, e2⟩ := get i hi
    simp only [e1]
    exact SqL.of e2
theorem RecM.sq {H : Hp} {a : Addr} {n : Nat} {ad : Nat → Addr} {M : Nat → Nat → Int} (h : RecM K H a n n ad M) : TabM K H a n ad M := ⟨h.top, h.row⟩
/-- new pairs, by place -/
theorem pairs_of {N : Addr → Prop} {H : Hp} {p : Addr} {m : Nat} {x y : Nat → Int} (h : Rp N H (.ref p) (.list ((List.range m).map fun j => .tuple [.int (x j), .int (y j)]))) :
    ∃ ts : Nat → Addr, H p = some (.lst ((List.range m).map fun j => V.ref (ts j))) ∧ ∀ j, j < m → H (ts j) = some (.tup [.int (x j), .int (y j)]) := by
  obtain ⟨_, vs, e, ra⟩ := h.node
  have get : ∀ i, i < m → ∃ b, vs[i]? = some (.ref b) ∧ H b = some (.tup [.int (x i), .int (y i)]) := fun i hi => by
    obtain ⟨v, e1, e2⟩ := ra.get (i := i) (d := .tuple [.int (x i), .int (y i)]) (by rw [List.getElem?_map, List.getElem?_range hi]; rfl)
    cases e2 with
    | tup _ e r =>
      cases r with
      | cons c d =>
        cases c
        cases d with
        | cons c2 d2 =>
          cases c2
          cases d2
          exact ⟨_, e1, e⟩
  refine ⟨fun i => match vs[i]? with | some (.ref b) => b | _ => 0, ?_, fun i hi => ?_⟩
  · rw [e]
    refine congrArg (fun z => some (HO.lst z)) (List.ext_getElem? fun i => ?_)
    rw [List.getElem?_map]
    by_cases hi : i < m
    · obtain ⟨b, e1, _⟩ := get i hi
      rw [List.getElem?_range hi, e1]
      simp [e1]
    · rw [List.getElem?_eq_none (by rw [ra.length]; simp; omega), List.getElem?_eq_none (by simp; omega)]
      rfl
  · obtain ⟨b, e1, e2⟩ := get i hi
    simp only [e1]
    exact e2
theorem lists_of {N : Addr → Prop} {H : Hp} : ∀ {ls : List (List Int)} {vs : List V}, RpA N H vs (ls.map fun l => PyData.list (l.map PyData.int)) →
    ∃ as : List Addr, vs = as.map V.ref ∧ as.length = ls.length ∧ ∀ (i : Nat) (b : Addr) (xs : List V), as[i]? = some b → (ls.map fun l => l.map V.int)[i]? = some xs → H b = some (.lst xs)
  | [], _, h => by
    cases h
    exact ⟨[], rfl, rfl, fun i b xs h1 h2 => by simp at h1⟩
  | l :: ls, _, h => by
    cases h with
    | cons a b =>
      obtain ⟨as, rfl, e1, e2⟩ := lists_of b
      obtain ⟨p, rfl, _⟩ := a.isRef
      refine ⟨p :: as, rfl, by rw [List.length_cons, List.length_cons, e1], fun i b xs h1 h2 => ?_⟩
      cases i with
      | zero =>
        cases h1
        cases h2
        exact a.ints
      | succ i => exact e2 i b xs (by simpa using h1) (by simpa using h2)
def gOf (l : List Int) (i : Nat) : Nat := (l.getD i 0).toNat
theorem lot_of {l : List Int} (hne : l ≠ []) (h12 : l.length ≤ 12) (hlt : l.Pairwise (· < ·)) (hok : ∀ x ∈ l, ∃ k : Nat, x = (k : Int) ∧ GoodN k) : l = gI l.length (gOf l) ∧ LotF l.length (gOf l) ∧ ∀ i, i < l.length → GoodN (gOf l i) := by
  have get : ∀ i, i < l.length → l[i]? = some ((gOf l i : Nat) : Int) ∧ GoodN (gOf l i) := fun i hi => by
    obtain ⟨k, e, hk⟩ := hok _ (List.getElem_mem hi)
    have e2 : gOf l i = k := by
      unfold gOf
      rw [List.getD_eq_getElem?_getD, List.getElem?_eq_getElem hi, Option.getD_some, e]
      rfl
    rw [e2, List.getElem?_eq_getElem hi, e]
    exact ⟨rfl, hk⟩
  refine ⟨List.ext_getElem? fun i => ?_, ⟨List.length_pos_iff.mpr hne, h12, fun i hi => (get i hi).2.1, fun i hi => ?_, fun i j hij hj => ?_⟩, fun i hi => (get i hi).2⟩
  · unfold gI
    rw [List.getElem?_map]
    by_cases hi : i < l.length
    · rw [(get i hi).1, List.getElem?_range hi]
      rfl
    · rw [List.getElem?_eq_none (by omega), List.getElem?_eq_none (by simp; omega)]
      rfl
  · have := (get i hi).2.le
    omega
  · have z := List.pairwise_iff_getElem.mp hlt i j (by omega) hj hij
    have a := (get i (by omega)).1
    have b := (get j hj).1
    rw [List.getElem?_eq_getElem (by omega)] at a
    rw [List.getElem?_eq_getElem hj] at b
    have a := Option.some.inj a
    have b := Option.some.inj b
    omega
theorem gV_at {n i : Nat} {g : Nat → Nat} (h : i < n) : atI (gV n g) (i : Int) = some (.int (g i : Nat)) := map_range_at h
theorem gV_last {n : Nat} {g : Nat → Nat} (h : 1 ≤ n) : atI (gV n g) (-1) = some (.int (g (n - 1) : Nat)) := by
  obtain ⟨k, rfl⟩ : ∃ k, n = k + 1 := ⟨n - 1, by omega⟩
  unfold gV
  rw [List.range_succ, List.map_append]
  exact atI_last _ _
theorem sum_filter {α : Type} (p : α → Bool) (f : α → Int) (l : List α) : ((l.filter p).map f).sum = (l.map fun x => if p x = true then f x else 0).sum := by
  induction l with
  | nil => rfl
  | cons x l ih =>
    rw [List.filter_cons, List.map_cons, List.sum_cons, ← ih]
    split
    · rw [List.map_cons, List.sum_cons]
    · omega
theorem good_R {n m : Nat} {M : Nat → Nat → Int} (hn : n ≤ 12) (hm : m ≤ 12) (h : ∀ i j, i < n → j < m → (M i j).natAbs < 10 ^ 14) : Good (tabD (tabR n m M)) := by
  refine good_tab (c := 14) (m := 12) (fun r hr x hx => ?_) (fun r hr => ?_) (by decide) ?_
  · unfold tabR at hr
    obtain ⟨i, hi, rfl⟩ := List.mem_map.mp hr
    obtain ⟨j, hj, rfl⟩ := List.mem_map.mp hx
    exact h i j (List.mem_range.mp hi) (List.mem_range.mp hj)
  · unfold tabR at hr
    obtain ⟨i, _, rfl⟩ := List.mem_map.mp hr
    rw [List.length_map, List.length_range]
    exact hm
  · unfold tabR
    rw [List.length_map, List.length_range]
    omega
theorem tabR_congr {n m : Nat} {M M' : Nat → Nat → Int} (h : ∀ i j, i < n → j < m → M i j = M' i j) : tabR n m M = tabR n m M' := by
  unfold tabR
  exact List.map_congr_left fun i hi => List.map_congr_left fun j hj => h i j (List.mem_range.mp hi) (List.mem_range.mp hj)
def dvsL (n : Nat) (g : Nat → Nat) : List (List Int) := (List.range n).map fun i => (divsL (g i)).map fun d : Nat => (d : Int)
theorem dvsL_len {n : Nat} {g : Nat → Nat} : (dvsL n g).flatten.length = wtI (gI n g) := by
  unfold wtI gI dvsL
  rw [List.length_flatten, List.map_map, List.map_map]
  congr 1
  exact List.map_congr_left fun i _ => by
    show ((divsL (g i)).map _).length = (divsL ((g i : Nat) : Int).toNat).length
    rw [List.length_map, Int.toNat_natCast]
theorem dvsL_mem {n : Nat} {g : Nat → Nat} (h : ∀ i, i < n → 1 ≤ g i) (x : Int) : x ∈ (dvsL n g).flatten ↔ ∃ i, i < n ∧ ∃ d : Nat, x = (d : Int) ∧ d ∣ g i := by
  unfold dvsL
  rw [List.mem_flatten]
  constructor
  · rintro ⟨l, hl, hx⟩
    obtain ⟨i, hi, rfl⟩ := List.mem_map.mp hl
    obtain ⟨d, hd, rfl⟩ := List.mem_map.mp hx
    exact ⟨i, List.mem_range.mp hi, d, rfl, (mem_divsL (h i (List.mem_range.mp hi))).mp hd⟩
  · rintro ⟨i, hi, d, rfl, hd⟩
    exact ⟨_, List.mem_map.mpr ⟨i, List.mem_range.mpr hi, rfl⟩, List.mem_map.mpr ⟨d, (mem_divsL (h i hi)).mpr hd, rfl⟩⟩
/-- all divisors, few of them, as a sequence -/
theorem every_of {n : Nat} {g : Nat → Nat} {l : List Int} (L : LotF n g) (good : ∀ i, i < n → GoodN (g i)) (h12 : l.length ≤ 12) (hlt : l.Pairwise (· < ·)) (hm : ∀ x, x ∈ l ↔ ∃ i, i < n ∧ ∃ d : Nat, x = (d : Int) ∧ d ∣ g i) :
    ∃ m h, l.length = m ∧ l = gI m h ∧ Clo n g m h ∧ ClM m h := by
  have ok : ∀ x ∈ l, ∃ k : Nat, x = (k : Int) ∧ GoodN k := fun x hx => by
    obtain ⟨i, hi, d, rfl, hd⟩ := (hm x).mp hx
    exact ⟨d, rfl, (good i hi).dvd hd⟩
  have ne : l ≠ [] := fun z => by
    have := (hm 1).mpr ⟨0, L.n1, 1, rfl, Nat.one_dvd _⟩
    rw [z] at this
    cases this
  obtain ⟨e, L2, gd⟩ := lot_of ne h12 hlt ok
  have mem : ∀ d : Nat, (∃ i, i < n ∧ d ∣ g i) ↔ ∃ j, j < l.length ∧ gOf l j = d := fun d => by
    have a := hm (d : Int)
    rw [e] at a
    unfold gI at a
    rw [List.mem_map] at a
    constructor
    · rintro ⟨i, hi, hd⟩
      obtain ⟨j, hj, e⟩ := a.mpr ⟨i, hi, d, rfl, hd⟩
      exact ⟨j, List.mem_range.mp hj, by omega⟩
    · rintro ⟨j, hj, e⟩
      obtain ⟨i, hi, d', e', hd⟩ := a.mp ⟨j, List.mem_range.mpr hj, by omega⟩
      have : d' = d := by omega
      exact ⟨i, hi, this ▸ hd⟩
  refine ⟨l.length, gOf l, rfl, e, ⟨L2, mem⟩, ⟨L2.n1, h12, L2.up, gd, fun i hi d hd => ?_⟩⟩
  obtain ⟨k, hk, hk2⟩ := (mem (gOf l i)).mpr ⟨i, hi, rfl⟩
  exact (mem d).mp ⟨k, hk, Nat.dvd_trans hd hk2⟩
/-- what stands while few divisors are looked at -/
structure B84 (K : PySem.W.Frag) (H0 : Hp) (a Nu Ev T Mi : Addr) (n m : Nat) (g h : Nat → Nat) (tad ts : Nat → Addr) (H : Hp) : Prop where
  pot : PotAt H a
  gr : Grow a H0 H
  nu : H Nu = some (.lst (gV n g))
  ev : H Ev = some (.lst (gV m h))
  tab : RecM K H T n m tad (divM g h)
  mid : H Mi = some (.lst ((List.range m).map fun j => V.ref (ts j)))
  prs : ∀ j, j < m → H (ts j) = some (.tup [.int (h j : Nat), .int (phN (h j))])
theorem B84.same {H0 H H' : Hp} {a Nu Ev T Mi : Addr} {n m : Nat} {g h : Nat → Nat} {tad ts : Nat → Addr} (b : B84 K H0 a Nu Ev T Mi n m g h tad ts H) (s : Same H H') : B84 K H0 a Nu Ev T Mi n m g h tad ts H' :=
  ⟨b.pot.same s, b.gr.trans (Grow.of s), s _ _ b.nu, s _ _ b.ev, b.tab.same s, s _ _ b.mid, fun j hj => s _ _ (b.prs j hj)⟩
theorem filterE {m N : Nat} {h : Nat → Nat} (hu : ∀ i j, i < j → j < m → h i < h j) (h1 : ∀ t, t < m → 1 ≤ h t) (hN : 1 ≤ N) (hE : ∀ d, d ∣ N → ∃ t, t < m ∧ h t = d) :
    (((List.range m).filter fun j => decide (h j ∣ N)).map fun j => phN (h j)).sum = (N : Int) := by
  rw [sum_filter]
  simp only [decide_eq_true_eq]
  exact gaussE hu h1 hN hE
theorem divM_b (g h : Nat → Nat) (i j : Nat) : 0 ≤ divM g h i j ∧ divM g h i j ≤ 1 := dvM_nn g h i j
def wM (h : Nat → Nat) : Nat → Nat → Int := fun i j => if i = j then phN (h i) else 0
theorem wM_b {m : Nat} {h : Nat → Nat} (M : ClM m h) {i j : Nat} (hi : i < m) : 0 ≤ wM h i j ∧ wM h i j ≤ 54 := by
  unfold wM
  have a := ph_pos (M.ok i hi).1
  have b := (M.ok i hi).ph
  split <;> omega
theorem mul_w {m : Nat} {h : Nat → Nat} {i j : Nat} (hj : j < m) : mulM m (divM h h) (wM h) i j = divM h h i j * phN (h j) := by
  unfold mulM
  rw [show (List.range m).map (fun k => divM h h i k * wM h k j) = (List.range m).map fun k => if k = j then divM h h i k * phN (h k) else 0 from List.map_congr_left fun k _ => ?_, sum_pick (fun k => divM h h i k * phN (h k)) hj]
  unfold wM
  split
  · rfl
  · rw [Int.mul_zero]
theorem mul_w_b {m : Nat} {h : Nat → Nat} (M : ClM m h) {i j : Nat} (hj : j < m) : 0 ≤ mulM m (divM h h) (wM h) i j ∧ mulM m (divM h h) (wM h) i j ≤ 54 := by
  rw [mul_w hj]
  have a := ph_pos (M.ok j hj).1
  have b := (M.ok j hj).ph
  have c := divM_b h h i j
  rcases (show divM h h i j = 0 ∨ divM h h i j = 1 by omega) with z | z <;> rw [z] <;> omega
theorem mul_all {m : Nat} {h : Nat → Nat} (M : ClM m h) {i j : Nat} (hi : i < m) (hj : j < m) : mulM m (mulM m (divM h h) (wM h)) (turnM (divM h h)) i j = gcdM h i j := by
  show ((List.range m).map fun k => mulM m (divM h h) (wM h) i k * divM h h j k).sum = (Nat.gcd (h i) (h j) : Nat)
  rw [← share_sumE M.up (fun t ht => (M.ok t ht).1) (M.ok i hi).1 (M.dv i hi)]
  congr 1
  exact List.map_congr_left fun k hk => by rw [mul_w (List.mem_range.mp hk)]; rfl
theorem gcdM_b {n : Nat} {g : Nat → Nat} (h1 : ∀ i, i < n → 1 ≤ g i ∧ g i ≤ 81) {i j : Nat} (hi : i < n) : 0 ≤ gcdM g i j ∧ gcdM g i j ≤ 81 := by
  unfold gcdM
  have := Nat.le_of_dvd (h1 i hi).1 (Nat.gcd_dvd_left (g i) (g j))
  have := h1 i hi
  omega
theorem lcmM_b {n : Nat} {g : Nat → Nat} (h1 : ∀ i, i < n → 1 ≤ g i ∧ g i ≤ 81) {i j : Nat} (hi : i < n) (hj : j < n) : 0 ≤ lcmM g i j ∧ lcmM g i j ≤ 6561 := by
  unfold lcmM
  have a := h1 i hi
  have b := h1 j hj
  have := Nat.div_le_self (g i) (Nat.gcd (g i) (g j))
  have := Nat.mul_le_mul (show g i / Nat.gcd (g i) (g j) ≤ 81 by omega) b.2
  omega
theorem gcdM_turn {g : Nat → Nat} {i j : Nat} : turnM (gcdM g) i j = gcdM g i j := by
  show ((Nat.gcd (g j) (g i) : Nat) : Int) = (Nat.gcd (g i) (g j) : Nat)
  rw [Nat.gcd_comm]
theorem lcmM_turn {g : Nat → Nat} {i j : Nat} : turnM (lcmM g) i j = lcmM g i j := by
  show ((g j / Nat.gcd (g j) (g i) * g i : Nat) : Int) = (g i / Nat.gcd (g i) (g j) * g j : Nat)
  congr 1
  have e := Nat.gcd_comm (g i) (g j)
  rw [e, Nat.div_mul_right_comm (Nat.gcd_dvd_left (g j) (g i)), Nat.div_mul_right_comm (Nat.gcd_dvd_right (g j) (g i)), Nat.mul_comm]
theorem divs_gauss {N : Nat} (hN : 1 ≤ N) : ((divsL N).map phN).sum = (N : Int) := by
  unfold divsL
  rw [sum_filter, List.range_succ_eq_map, List.map_cons, List.sum_cons, List.map_map]
  have g := gaussE (m := N) (N := N) (h := fun t => t + 1) (fun i j h1 _ => by omega) (fun t _ => by omega) hN fun d hd => ⟨d - 1, by have := Nat.le_of_dvd hN hd; have := Nat.pos_of_dvd_of_pos hd hN; omega, by have := Nat.pos_of_dvd_of_pos hd hN; show d - 1 + 1 = d; omega⟩
  rw [if_neg (by simp), Int.zero_add]
  refine Eq.trans (congrArg List.sum (List.map_congr_left fun t _ => ?_)) g
  show (if decide (0 < t + 1 ∧ t + 1 ∣ N) = true then phN (t + 1) else 0) = if t + 1 ∣ N then phN (t + 1) else 0
  by_cases c : t + 1 ∣ N
  · rw [if_pos c, if_pos (decide_eq_true ⟨by omega, c⟩)]
  · rw [if_neg c, if_neg (fun z => c (of_decide_eq_true z).2)]
theorem gcd_lcm {g : Nat → Nat} {i j : Nat} : gcdM g i j * lcmM g i j = ((g i : Nat) : Int) * ((g j : Nat) : Int) := by
  unfold gcdM lcmM
  rw [← Int.natCast_mul, ← Int.natCast_mul, ← Nat.mul_assoc, Nat.mul_div_cancel' (Nat.gcd_dvd_left _ _)]
theorem gcd_diag {g : Nat → Nat} {i : Nat} : gcdM g i i = (g i : Nat) := by
  unfold gcdM
  rw [Nat.gcd_self]
theorem lcm_diag {g : Nat → Nat} {i : Nat} (h : 1 ≤ g i) : lcmM g i i = (g i : Nat) := by
  unfold lcmM
  rw [Nat.gcd_self, Nat.div_self h, Nat.one_mul]

end
end M
namespace M
open PySem PySem.Spec PyProof.Rows L2 G
section
variable {P : Program} {w : World} {K : PySem.W.Frag} {mg : Str → Option Value} {base : Heap}
/-! the law of tables as products -/
theorem ne_same {Q : Bool → Hp → Prop} {x y : V} {H : Hp} (h : x = y) (q : Q false H) : Q (!decide (x = y)) H := by
  rw [decide_eq_true h]
  exact q
theorem not_self {x y : V} (h : x = y) : ¬ (!decide (x = y)) = true := by
  rw [decide_eq_true h]
  decide
def sp__law_right (_ : PySem.W.Frag) : Sp := spec1 fun x H Q _ => ∃ a, x = .ref a ∧ PotAt H a ∧ ∀ H', Grow a H H' → Q (.bl true) H'
theorem ok__law_right {af : Addr} {fd : FuncData} (F : FunD K "_law_right" "_law_right" (defArgs s__law_right) (defBody s__law_right) (defScope s__law_right) [] [] af fd) (B : Bt mg) (C__law_lot : Cl P w K mg base 3 "_law_lot" 2 [] (sp__law_lot K)) (C__law_pick : Cl P w K mg base 2 "_law_pick" 2 [] (sp__law_pick K)) (C_share_table : Cl P w K mg base 5 "share_table" 1 [] (sp_share_table K)) (C_closed_lot : Cl P w K mg base 5 "closed_lot" 1 [] (sp_closed_lot K)) (C_divisor_table : Cl P w K mg base 5 "divisor_table" 2 [] (sp_divisor_table K)) (C__law_draw : Cl P w K mg base 1 "_law_draw" 2 [] (sp__law_draw K)) (C_multiple_table : Cl P w K mg base 5 "multiple_table" 1 [] (sp_multiple_table K)) (C_middle_of : Cl P w K mg base 5 "middle_of" 1 [] (sp_middle_of K)) (C_table_times : Cl P w K mg base 4 "table_times" 2 [] (sp_table_times K)) (C_table_worth : Cl P w K mg base 4 "table_worth" 1 [] (sp_table_worth K)) (C_share_worth : Cl P w K mg base 5 "share_worth" 1 [] (sp_share_worth K)) (C_is_closed : Cl P w K mg base 5 "is_closed" 1 [] (sp_is_closed K)) (C_turned_table : Cl P w K mg base 4 "turned_table" 1 [] (sp_turned_table K)) (C_share_free : Cl P w K mg base 3 "share_free" 1 [] (sp_share_free K)) (C__law_divisors : Cl P w K mg base 1 "_law_divisors" 1 [] (sp__law_divisors K)) (C__law_share : Cl P w K mg base 1 "_law_share" 2 [] (sp__law_share K)) : FnG P w K mg base CX0 6 af fd ["pot"] (sp__law_right K) := by
  refine okG F sc__law_right ar1 fun cdv A outer s H vs Q E hg hr h => ?_
  refine ⟨_, PSs.nox (pss_cons (ps_for PassesOwn.never rfl (pi_range1 rfl B.range (pa_cons pe_int pa_nil)) (pg_name (i := 1) sc__law_right.nd rfl (.inl rfl))
      (pss_cons (ps_set (i := 2) sc__law_right.nd rfl (.inr rfl) (pe_cl C__law_lot hg hr (by decide) rfl (pa_cons (pv 0) (pa_cons (pe_cl C__law_pick hg hr (by decide) rfl (pa_cons (pv 0) (pa_cons (pe_lst (pa_cons pe_int (pa_cons pe_int pa_nil))) pa_nil))) pa_nil))))
      (pss_cons (ps_set (i := 3) sc__law_right.nd rfl (.inl rfl) (pe_callB (cr_sortedSet rfl) (by rfl) B.sorted (by decide +kernel) (pa_cons (pe_callTy (cr_setL rfl) (by rfl) B.set (by decide +kernel) (pa_cons (pe_callB (cr_sumL rfl) (by rfl) B.sum (by decide +kernel) (pa_cons (pe_lc (own := [("number", 16)]) rfl sc__law_right.nd ((pi_list (pv 2))) (blkOk_by (own := [("number", 16)]) (N := ["pot", "turn", "numbers", "every", "table", "middle", "shares", "at", "to", "total", "lot", "square", "weights", "many", "near", "far", "number", "one", "free", "by", "row", "late", "other"]) (sc := defScope s__law_right) (by decide +kernel)) (fun _ _ _ _ _ => pg_name (i := 16) sc__law_right.nd rfl (.inl rfl) (.inr rfl)) (fun _ _ _ _ _ => pts_nil) (fun _ _ _ _ _ => (pe_cl C__law_divisors hg hr (by decide) rfl (pa_cons (pv 16) pa_nil)))) (pa_cons (pe_lst pa_nil) pa_nil))) pa_nil)) pa_nil)))
      (pss_cutG (ps_if (pt_cmpR op_le (pe_callB call_len_seq (by rfl) B.len (by decide +kernel) (pa_cons (pv 3) pa_nil)) pe_int (nomark _))
        (pss_cons (ps_asg (pe_tup (pa_cons (pe_cl C_divisor_table hg hr (by decide) rfl (pa_cons (pv 2) (pa_cons (pv 3) pa_nil))) (pa_cons (pe_cl C_middle_of hg hr (by decide) rfl (pa_cons (pv 2) pa_nil)) pa_nil))) (pg_tup rfl (pgs_cons (pg_name (i := 4) sc__law_right.nd rfl (.inr rfl)) (pgs_cons (pg_name (i := 5) sc__law_right.nd rfl (.inr rfl)) pgs_nil))))
        (pss_cons (ps_if (PW.pt (pw_or (pt_cmpR (op_neD hr.units) (pe_lc (own := [("one", 17), ("free", 18)]) (g := gTup K 2 (gCons (gName 17) (gCons (gName 18) gNil))) rfl sc__law_right.nd ((pi_list (pv 5))) (blkOk_by (own := [("one", 17), ("free", 18)]) (N := ["pot", "turn", "numbers", "every", "table", "middle", "shares", "at", "to", "total", "lot", "square", "weights", "many", "near", "far", "number", "one", "free", "by", "row", "late", "other"]) (sc := defScope s__law_right) (by decide +kernel)) (fun _ _ _ _ _ => pg_tup (n := 2) (by rfl) (pgs_cons (pg_name (i := 17) sc__law_right.nd rfl (.inl rfl) (.inr rfl)) (pgs_cons (pg_name (i := 18) sc__law_right.nd rfl (.inl rfl) (.inr rfl)) pgs_nil (by rfl)) (by rfl)) (by rfl) (by rfl)) (fun _ _ _ _ _ => pts_nil) (fun _ _ _ _ _ => (pv 17))) (pv 3) (nomark _)) (pw_or1 (pt_cmpR op_ne (pe_callB (cr_sum rfl) (by rfl) B.sum (by decide +kernel) (pa_cons (pe_lc (own := [("one", 17), ("free", 18)]) (g := gTup K 2 (gCons (gName 17) (gCons (gName 18) gNil))) rfl sc__law_right.nd ((pi_list (pv 5))) (blkOk_by (own := [("one", 17), ("free", 18)]) (N := ["pot", "turn", "numbers", "every", "table", "middle", "shares", "at", "to", "total", "lot", "square", "weights", "many", "near", "far", "number", "one", "free", "by", "row", "late", "other"]) (sc := defScope s__law_right) (by decide +kernel)) (fun _ _ _ _ _ => pg_tup (n := 2) (by rfl) (pgs_cons (pg_name (i := 17) sc__law_right.nd rfl (.inl rfl) (.inr rfl)) (pgs_cons (pg_name (i := 18) sc__law_right.nd rfl (.inl rfl) (.inr rfl)) pgs_nil (by rfl)) (by rfl)) (by rfl) (by rfl)) (fun _ _ _ _ _ => pts_one (pt_cmpR op_eq (pe_callTy call_int1 (by rfl) B.int (by decide +kernel) (pa_cons (pe_op op_mod (pe_ix (kIx rIxL (K := K) rfl ix_list) (pv 2) (pe_un un_neg pe_int) (fun _ _ => rfl)) (pv 17)) pa_nil)) pe_int (nomark _))) (fun _ _ _ _ _ => (pv 18))) pa_nil)) (pe_ix ix_list (pv 2) (pe_un un_neg pe_int) (fun _ _ => rfl)) (nomark _)))))
          (pss_one (ps_ret pe_bl))
          pss_nil)
        (pss_cons (ps_set (i := 6) sc__law_right.nd rfl (.inl rfl) (pe_cl C_share_table hg hr (by decide) rfl (pa_cons (pv 2) pa_nil)))
        (pss_cons (ps_for PassesOwn.never rfl (pi_range1 rfl B.range (pa_cons (pe_callB call_len_seq (by rfl) B.len (by decide +kernel) (pa_cons (pv 2) pa_nil)) pa_nil)) (pg_name (i := 7) sc__law_right.nd rfl (.inr rfl))
          (pss_one (ps_for PassesOwn.never rfl (pi_range1 rfl B.range (pa_cons (pe_callB call_len_seq (by rfl) B.len (by decide +kernel) (pa_cons (pv 2) pa_nil)) pa_nil)) (pg_name (i := 8) sc__law_right.nd rfl (.inr rfl))
            (pss_cons (ps_set (i := 9) sc__law_right.nd rfl (.inl rfl) (pe_callB (cr_sum rfl) (by rfl) B.sum (by decide +kernel) (pa_cons (pe_lc (own := [("by", 19)]) rfl sc__law_right.nd (pi_range1 rfl B.range (pa_cons (pe_callB call_len_seq (by rfl) B.len (by decide +kernel) (pa_cons (pv 3) pa_nil)) pa_nil)) (blkOk_by (own := [("by", 19)]) (N := ["pot", "turn", "numbers", "every", "table", "middle", "shares", "at", "to", "total", "lot", "square", "weights", "many", "near", "far", "number", "one", "free", "by", "row", "late", "other"]) (sc := defScope s__law_right) (by decide +kernel)) (fun _ _ _ _ _ => pg_name (i := 19) sc__law_right.nd rfl (.inl rfl) (.inr rfl)) (fun _ _ _ _ _ => pts_nil) (fun _ _ _ _ _ => (pe_op op_mul (pe_op op_mul (pe_ix (kIx rIxL (K := K) rfl ix_list) (pe_ix (kIx rIxL (K := K) rfl ix_list) (pv 4) (pv 7) (fun _ _ => rfl)) (pv 19) (fun _ _ => rfl)) (pe_ix (kIx rIxT (K := K) rfl ix_tup) (pe_ix (kIx rIxL (K := K) rfl ix_list) (pv 5) (pv 19) (fun _ _ => rfl)) pe_int (fun _ _ => rfl))) (pe_ix (kIx rIxL (K := K) rfl ix_list) (pe_ix (kIx rIxL (K := K) rfl ix_list) (pv 4) (pv 8) (fun _ _ => rfl)) (pv 19) (fun _ _ => rfl))))) pa_nil)))
            (pss_one (ps_if (PW.pt (pw_or (pt_cmpR op_ne (pv 9) (pe_ix ix_list (pe_ix ix_list (pv 6) (pv 7) (fun _ _ => rfl)) (pv 8) (fun _ _ => rfl)) (nomark _)) (pw_or1 (pt_cmpR op_ne (pv 9) (pe_cl C__law_share hg hr (by decide) rfl (pa_cons (pe_ix ix_list (pv 2) (pv 7) (fun _ _ => rfl)) (pa_cons (pe_ix ix_list (pv 2) (pv 8) (fun _ _ => rfl)) pa_nil))) (nomark _)))))
              (pss_one (ps_ret pe_bl))
              pss_nil))))))
        (pss_cons (ps_set (i := 10) sc__law_right.nd rfl (.inr rfl) (pe_cl C_closed_lot hg hr (by decide) rfl (pa_cons (pv 2) pa_nil)))
        (pss_cons (ps_set (i := 11) sc__law_right.nd rfl (.inl rfl) (pe_cl C_divisor_table hg hr (by decide) rfl (pa_cons (pv 10) (pa_cons (pv 10) pa_nil))))
        (pss_cons (ps_setLc (i := 12) (own := [("at", 7)]) rfl sc__law_right.nd rfl rfl (sw_true rfl rfl rfl (by decide +kernel)) (pi_range1 rfl B.range (pa_cons (pe_callB call_len_seq (by rfl) B.len (by decide +kernel) (pa_cons (pv 10) pa_nil)) pa_nil)) (blkOk_by (own := [("at", 7)]) (N := ["pot", "turn", "numbers", "every", "table", "middle", "shares", "at", "to", "total", "lot", "square", "weights", "many", "near", "far", "number", "one", "free", "by", "row", "late", "other"]) (sc := defScope s__law_right) (by decide +kernel)) (fun _ _ _ _ _ => pg_name (i := 7) sc__law_right.nd rfl (.inr rfl) (.inl rfl)) (fun _ _ _ _ _ => pts_nil) (fun _ _ _ _ _ => (pe_lc (own := [("to", 8)]) rfl sc__law_right.nd (pi_range1 rfl B.range (pa_cons (pe_callB (kCall rLenS (K := K) rfl call_len_seq) (by rfl) B.len (by decide +kernel) (pa_cons (pv 10) pa_nil)) pa_nil)) (blkOk_in (own := [("to", 8)]) (N := ["pot", "turn", "numbers", "every", "table", "middle", "shares", "at", "to", "total", "lot", "square", "weights", "many", "near", "far", "number", "one", "free", "by", "row", "late", "other"]) (sc := defScope s__law_right) rfl (by decide +kernel)) (fun _ _ _ _ _ => pg_name (i := 8) sc__law_right.nd rfl (.inl rfl) (.inr rfl)) (fun _ _ _ _ _ => pts_nil) (fun _ _ _ _ _ => (pe_ifExp (pt_cmpR op_eq (pv 7) (pv 8) (nomark _)) (pe_cl C_share_free hg hr (by decide) rfl (pa_cons (pe_ix (kIx rIxL (K := K) rfl ix_list) (pv 10) (pv 7) (fun _ _ => rfl)) pa_nil)) pe_int)))))
        (pss_cons (ps_if (PW.pt (pw_or (pt_cmpR (op_neD hr.units) (pv 10) (pv 3) (nomark _)) (pw_or1 (pt_cmpR (op_neD hr.units) (pe_cl C_table_times hg hr (by decide) rfl (pa_cons (pe_cl C_table_times hg hr (by decide) rfl (pa_cons (pv 11) (pa_cons (pv 12) pa_nil))) (pa_cons (pe_cl C_turned_table hg hr (by decide) rfl (pa_cons (pv 11) pa_nil)) pa_nil))) (pe_cl C_share_table hg hr (by decide) rfl (pa_cons (pv 10) pa_nil)) (nomark _)))))
          (pss_one (ps_ret pe_bl))
          pss_nil)
        (pss_cons (ps_if (PW.pt (pw_or (pt_cmpR op_ne (pe_cl C_table_worth hg hr (by decide) rfl (pa_cons (pv 11) pa_nil)) pe_int (nomark _)) (pw_or (pt_cmpR op_ne (pe_cl C_table_worth hg hr (by decide) rfl (pa_cons (pv 12) pa_nil)) (pe_cl C_share_worth hg hr (by decide) rfl (pa_cons (pv 10) pa_nil)) (nomark _)) (pw_or1 (pt_not (pt_val (pe_cl C_is_closed hg hr (by decide) rfl (pa_cons (pv 10) pa_nil))))))))
          (pss_one (ps_ret pe_bl))
          pss_nil)
        (pss_one (ps_if (PW.pt (pw_or (pt_cmpR (op_neD hr.units) (pe_cl C_turned_table hg hr (by decide) rfl (pa_cons (pe_cl C_share_table hg hr (by decide) rfl (pa_cons (pv 10) pa_nil)) pa_nil)) (pe_cl C_share_table hg hr (by decide) rfl (pa_cons (pv 10) pa_nil)) (nomark _)) (pw_or1 (pt_cmpR (op_neD hr.units) (pe_cl C_turned_table hg hr (by decide) rfl (pa_cons (pe_cl C_multiple_table hg hr (by decide) rfl (pa_cons (pv 10) pa_nil)) pa_nil)) (pe_cl C_multiple_table hg hr (by decide) rfl (pa_cons (pv 10) pa_nil)) (nomark _)))))
          (pss_one (ps_ret pe_bl))
          pss_nil)))))))))))
        pss_nil)
      (pss_cons (ps_set (i := 13) sc__law_right.nd rfl (.inl rfl) (pe_op op_add pe_int (pe_cl C__law_draw hg hr (by decide) rfl (pa_cons (pv 0) (pa_cons pe_int pa_nil)))))
      (pss_cons (ps_if (pt_cmpR op_ne (pe_callB (cr_sum rfl) (by rfl) B.sum (by decide +kernel) (pa_cons (pe_lc (own := [("one", 17)]) rfl sc__law_right.nd ((pi_list (pe_cl C__law_divisors hg hr (by decide) rfl (pa_cons (pv 13) pa_nil)))) (blkOk_by (own := [("one", 17)]) (N := ["pot", "turn", "numbers", "every", "table", "middle", "shares", "at", "to", "total", "lot", "square", "weights", "many", "near", "far", "number", "one", "free", "by", "row", "late", "other"]) (sc := defScope s__law_right) (by decide +kernel)) (fun _ _ _ _ _ => pg_name (i := 17) sc__law_right.nd rfl (.inl rfl) (.inr rfl)) (fun _ _ _ _ _ => pts_nil) (fun _ _ _ _ _ => (pe_cl C_share_free hg hr (by decide) rfl (pa_cons (pv 17) pa_nil)))) pa_nil)) (pv 13) (nomark _))
        (pss_one (ps_ret pe_bl))
        pss_nil)
      (pss_cons (ps_asg (pe_tup (pa_cons (pe_cl C_share_table hg hr (by decide) rfl (pa_cons (pv 2) pa_nil)) (pa_cons (pe_cl C_multiple_table hg hr (by decide) rfl (pa_cons (pv 2) pa_nil)) pa_nil))) (pg_tup rfl (pgs_cons (pg_name (i := 14) sc__law_right.nd rfl (.inr rfl)) (pgs_cons (pg_name (i := 15) sc__law_right.nd rfl (.inr rfl)) pgs_nil))))
      (pss_cons (ps_if (pt_cmpR (op_neD hr.units) (pe_lc (own := [("row", 20), ("late", 21)]) (g := gTup K 2 (gCons (gName 20) (gCons (gName 21) gNil))) rfl sc__law_right.nd ((pi_zip (by rfl) B.zip (pa_cons (pv 14) (pa_cons (pv 15) pa_nil)))) (blkOk_by (own := [("row", 20), ("late", 21)]) (N := ["pot", "turn", "numbers", "every", "table", "middle", "shares", "at", "to", "total", "lot", "square", "weights", "many", "near", "far", "number", "one", "free", "by", "row", "late", "other"]) (sc := defScope s__law_right) (by decide +kernel)) (fun _ _ _ _ _ => pg_tup (n := 2) (by rfl) (pgs_cons (pg_name (i := 20) sc__law_right.nd rfl (.inl rfl) (.inr rfl)) (pgs_cons (pg_name (i := 21) sc__law_right.nd rfl (.inl rfl) (.inr rfl)) pgs_nil (by rfl)) (by rfl)) (by rfl) (by rfl)) (fun _ _ _ _ _ => pts_nil) (fun _ _ _ _ _ => (pe_lc (own := [("one", 17), ("other", 22)]) (g := gTup K 2 (gCons (gName 17) (gCons (gName 22) gNil))) rfl sc__law_right.nd ((kPi (fun K => iZip K _) (K := K) rfl (pi_zip (by rfl) B.zip (pa_cons (pv 20) (pa_cons (pv 21) pa_nil))))) (blkOk_in (own := [("one", 17), ("other", 22)]) (N := ["pot", "turn", "numbers", "every", "table", "middle", "shares", "at", "to", "total", "lot", "square", "weights", "many", "near", "far", "number", "one", "free", "by", "row", "late", "other"]) (sc := defScope s__law_right) rfl (by decide +kernel)) (fun _ _ _ _ _ => pg_tup (n := 2) (by rfl) (pgs_cons (pg_name (i := 17) sc__law_right.nd rfl (.inl rfl) (.inr rfl)) (pgs_cons (pg_name (i := 22) sc__law_right.nd rfl (.inl rfl) (.inr rfl)) pgs_nil (by rfl)) (by rfl)) (by rfl) (by rfl)) (fun _ _ _ _ _ => pts_nil) (fun _ _ _ _ _ => (pe_op op_mul (pv 17) (pv 22)))))) (pe_lc (own := [("one", 17)]) rfl sc__law_right.nd ((pi_list (pv 2))) (blkOk_by (own := [("one", 17)]) (N := ["pot", "turn", "numbers", "every", "table", "middle", "shares", "at", "to", "total", "lot", "square", "weights", "many", "near", "far", "number", "one", "free", "by", "row", "late", "other"]) (sc := defScope s__law_right) (by decide +kernel)) (fun _ _ _ _ _ => pg_name (i := 17) sc__law_right.nd rfl (.inr rfl) (.inl rfl)) (fun _ _ _ _ _ => pts_nil) (fun _ _ _ _ _ => (pe_lc (own := [("other", 22)]) rfl sc__law_right.nd ((kPi (fun K => iList K _) (K := K) rfl (pi_list (pv 2)))) (blkOk_in (own := [("other", 22)]) (N := ["pot", "turn", "numbers", "every", "table", "middle", "shares", "at", "to", "total", "lot", "square", "weights", "many", "near", "far", "number", "one", "free", "by", "row", "late", "other"]) (sc := defScope s__law_right) rfl (by decide +kernel)) (fun _ _ _ _ _ => pg_name (i := 22) sc__law_right.nd rfl (.inl rfl) (.inr rfl)) (fun _ _ _ _ _ => pts_nil) (fun _ _ _ _ _ => (pe_op op_mul (pv 17) (pv 22)))))) (nomark _))
        (pss_one (ps_ret pe_bl))
        pss_nil)
      (pss_one (ps_if (PW.pt (pw_or (pt_cmpR (op_neD hr.units) (pe_lc (own := [("at", 7)]) rfl sc__law_right.nd (pi_range1 rfl B.range (pa_cons (pe_callB call_len_seq (by rfl) B.len (by decide +kernel) (pa_cons (pv 2) pa_nil)) pa_nil)) (blkOk_by (own := [("at", 7)]) (N := ["pot", "turn", "numbers", "every", "table", "middle", "shares", "at", "to", "total", "lot", "square", "weights", "many", "near", "far", "number", "one", "free", "by", "row", "late", "other"]) (sc := defScope s__law_right) (by decide +kernel)) (fun _ _ _ _ _ => pg_name (i := 7) sc__law_right.nd rfl (.inl rfl) (.inr rfl)) (fun _ _ _ _ _ => pts_nil) (fun _ _ _ _ _ => (pe_ix (kIx rIxL (K := K) rfl ix_list) (pe_ix (kIx rIxL (K := K) rfl ix_list) (pv 14) (pv 7) (fun _ _ => rfl)) (pv 7) (fun _ _ => rfl)))) (pv 2) (nomark _)) (pw_or1 (pt_cmpR (op_neD hr.units) (pe_lc (own := [("at", 7)]) rfl sc__law_right.nd (pi_range1 rfl B.range (pa_cons (pe_callB call_len_seq (by rfl) B.len (by decide +kernel) (pa_cons (pv 2) pa_nil)) pa_nil)) (blkOk_by (own := [("at", 7)]) (N := ["pot", "turn", "numbers", "every", "table", "middle", "shares", "at", "to", "total", "lot", "square", "weights", "many", "near", "far", "number", "one", "free", "by", "row", "late", "other"]) (sc := defScope s__law_right) (by decide +kernel)) (fun _ _ _ _ _ => pg_name (i := 7) sc__law_right.nd rfl (.inl rfl) (.inr rfl)) (fun _ _ _ _ _ => pts_nil) (fun _ _ _ _ _ => (pe_ix (kIx rIxL (K := K) rfl ix_list) (pe_ix (kIx rIxL (K := K) rfl ix_list) (pv 15) (pv 7) (fun _ _ => rfl)) (pv 7) (fun _ _ => rfl)))) (pv 2) (nomark _)))))
        (pss_one (ps_ret pe_bl))
        pss_nil))))))))))
    (pss_one (ps_ret pe_bl))), ?_⟩
  obtain ⟨_, rfl, a, rfl, hp, q⟩ := h
  refine ⟨_, rfl, by decide, by decide, for_range (lo := 0) (fun i σ H' => ∃ y1 y2 y3 y4 y5 y6 y7 y8 y9 y10 y11 y12 y13 y14 y15 : Option V, σ = [some (.ref a), y1, y2, y3, y4, y5, y6, y7, y8, y9, y10, y11, y12, y13, y14, y15, none, none, none, none, none, none, none] ∧ PotAt H' a ∧ Grow a H H')
    ⟨none, none, none, none, none, none, none, none, none, none, none, none, none, none, none, rfl, hp, Grow.refl a H⟩ ?_ ?_⟩
  · rintro i σ H0 hi ⟨y1, y2, y3, y4, y5, y6, y7, y8, y9, y10, y11, y12, y13, y14, y15, rfl, p0, g0⟩
    refine ⟨_, rfl, _, rfl, sz2, fun pl hpl => ⟨_, _, rfl, a, pl, _, rfl, rfl, p0.new hpl, p0.ne hpl, SqL.of upd_same, by decide, by decide, fun v H1 hv g1 p1 => ?_⟩⟩
    obtain ⟨mm, rfl, mm1, mm2⟩ : ∃ mm : Nat, v = .int mm ∧ 1 ≤ mm ∧ mm ≤ 40 := by
      rcases List.mem_cons.mp hv with z | z
      · exact ⟨12, z, by decide, by decide⟩
      · exact ⟨40, List.mem_singleton.mp z, by decide, by decide⟩
    refine ⟨_, _, rfl, a, mm, rfl, rfl, p1, mm1, mm2, fun Nu ks H2 lt k12 g2 p2' nua e2 => ?_⟩
    have g2 := (g0.new hpl).trans (g1.trans g2)
    clear p0 g0 hpl g1 p1 hv
    obtain ⟨ek, L, good⟩ := lot_of lt.d.ne k12 lt.lt lt.d.ok
    have wt := lt.d.wt
    generalize hn : ks.length = n at ek L good
    generalize gOf ks = g at ek L good
    rw [ek, gI_V] at e2
    rw [ek] at wt
    clear ek hn k12 lt
    have n1 := L.n1
    have n2 := L.n2
    have g81 : ∀ i, i < n → g i ≤ 81 := fun i hi => (good i hi).le
    -- every
    refine ⟨_, rfl, Nu, rfl, ⟨_, SqL.of e2⟩, fun D hD => lcM_list (K := K) (c := fun i : Nat => V.int (g i : Nat)) (src := List.range n) (fun i => .list (((divsL (g i)).map fun d : Nat => (d : Int)).map PyData.int)) hD (SqL.of e2) (by rw [List.length_range]; omega) ?_ ?_⟩
    · intro k i H3 R S hi s3 hR
      have hi : i < n := List.mem_range.mp (List.mem_of_getElem? hi)
      have i1 := L.lo i hi
      have i2 := g81 i hi
      refine ⟨rfl, _, rfl, _, rfl, g i, rfl, i1, by omega, fun p H4 s4 hp4 e4 => hR _ _ s4 ?_⟩
      rw [nsV_ints] at e4
      exact Rp.lst hp4 e4 (RpA.ints _)
    intro H3 s3 r3
    rw [show (List.range n).map (fun i => PyData.list (((divsL (g i)).map fun d : Nat => (d : Int)).map PyData.int)) = (dvsL n g).map fun l => PyData.list (l.map PyData.int) by unfold dvsL; rw [List.map_map]; rfl] at r3
    obtain ⟨_, vs, eD, ra⟩ := r3.node
    obtain ⟨as, rfl, las, has⟩ := lists_of ra
    have lcs : (dvsL n g).length = n := by unfold dvsL; rw [List.length_map, List.length_range]
    have lfl : (((dvsL n g).map fun l => l.map V.int).flatten) = (dvsL n g).flatten.map V.int := List.map_flatten.symm
    have kl : (dvsL n g).flatten.length ≤ 63 := by rw [dvsL_len]; exact wt
    refine ⟨sz0, fun t ht => ⟨D, t, as, (dvsL n g).map fun l => l.map V.int, rfl, SqL.of ((upd_ne (ne_of_none eD ht)).trans eD), upd_same, by rw [List.length_map, las], by rw [List.length_map]; omega, fun i b xs h1 h2 => ?_, ?_, fun p hp => ?_⟩⟩
    · have z := has i b xs h1 h2
      exact (upd_ne (ne_of_none z ht)).trans z
    · rw [lfl]
      exact small_sz (by rw [List.length_map]; omega)
    rw [lfl]
    refine ⟨p, _, rfl, SqL.of upd_same, (by show _ < 4096; omega), fun p2 n2 hp2 hn2 => ⟨p2, _, n2, rfl, upd_same, by omega, fun Ex Ev hs hm hl hr => ?_⟩⟩
    have hm : ∀ x, x ∈ Ex ↔ ∃ i, i < n ∧ ∃ d : Nat, x = (d : Int) ∧ d ∣ g i := fun x => by
      rw [hm x, decide_eq_true_iff]
      exact dvsL_mem L.lo x
    have s4 := (((s3.new (o := .lst []) ht).new (o := .lst ((dvsL n g).flatten.map V.int)) hp).new (o := SetO w p2 (fun j => decide (j ∈ (dvsL n g).flatten)) n2) hp2).new (o := .lst (Ex.map V.int)) hr
    have p4 := p2'.same s4
    have G4 := g2.trans (Grow.of s4)
    have e4 := s4 _ _ e2
    have ea := (((p2'.same s3).new (o := .lst []) ht).new (o := .lst ((dvsL n g).flatten.map V.int)) hp).new (o := SetO w p2 (fun j => decide (j ∈ (dvsL n g).flatten)) n2) hp2 |>.ne hr
    clear kl lfl lcs
    refine ⟨fun σ H5 => ∃ z4 z5 z6 z7 z8 z9 z10 z11 z12 : Option V, σ = [some (.ref a), some (.int (0 + (i : Int))), some (.ref Nu), some (.ref Ev), z4, z5, z6, z7, z8, z9, z10, z11, z12, y13, y14, y15, none, none, none, none, none, none, none] ∧ PotAt H5 a ∧ Grow a H H5 ∧ H5 Nu = some (.lst (gV n g)), ⟨_, rfl, Ev, _, rfl, .inl (SqL.of upd_same), _, _, rfl, rfl, _, rfl, ite2 (fun hc => ?_) (fun hc => ⟨y4, y5, y6, y7, y8, y9, y10, y11, y12, rfl, p4, G4, e4⟩)⟩, ?_⟩
    · have hc : Ex.length ≤ 12 := by
        have : ((Ex.map V.int).length : Int) ≤ 12 := of_decide_eq_true hc
        rw [List.length_map] at this
        omega
      have eE : (upd (upd (upd (upd H3 t (.lst [])) p (.lst ((dvsL n g).flatten.map V.int))) p2 (SetO w p2 (fun j => decide (j ∈ (dvsL n g).flatten)) n2)) Ev (.lst (Ex.map V.int))) Ev = some (.lst (Ex.map V.int)) := upd_same
      obtain ⟨m, h, lm, ee, C, M⟩ := every_of L good hc hs hm
      rw [show Ex.map V.int = gV m h by rw [ee, gI_V]] at eE
      have m12 := C.lot.n2
      refine ⟨_, rfl, _, rfl, _, _, rfl, Nu, Ev, n, m, g, h, rfl, rfl, SqL.of e4, L, SqL.of (by rw [ee, gI_V]; exact upd_same), C.lot, fun T H5 s5 r5 => ⟨_, rfl, _, rfl, Nu, n, m, g, h, rfl, SqL.of (s5 _ _ e4), L, fun i hi => (by have := g81 i hi; omega), C, fun Mi H6 s6 r6 => ⟨sz2, fun t2 ht2 => ⟨t2, _, rfl, SqT.of upd_same, rfl, _, _, rfl, _, _, rfl, rfl, ?_⟩⟩⟩⟩
      obtain ⟨tad, rt⟩ := RecM.of_rp (K := K) r5
      obtain ⟨ts, mi1, mi2⟩ := pairs_of r6
      have b7 : B84 K H a Nu Ev T Mi n m g h tad ts (upd H6 t2 (.tup [.ref T, .ref Mi])) := B84.same ⟨(p4.same s5).same s6, (G4.trans (Grow.of s5)).trans (Grow.of s6), s6 _ _ (s5 _ _ e4), s6 _ _ (s5 _ _ (by rw [ee, gI_V]; exact upd_same)), rt.same s6, mi1, mi2⟩ ((Same.refl H6).new ht2)
      clear rt mi1 mi2 r5 r6
      generalize upd H6 t2 (.tup [.ref T, .ref Mi]) = H7 at b7
      dsimp only [tNext, tSeq, gName]
      refine if_skip (B84 K H a Nu Ev T Mi n m g h tad ts) (fun Q' hq => ?_) (fun H8 b8 => ?_)
      · refine ⟨_, rfl, Mi, rfl, ⟨_, SqL.of b7.mid⟩, fun D7 hD7 => lcM_list (K := K) (c := fun j : Nat => V.ref (ts j)) (src := List.range m) (fun j => .int (h j : Nat)) hD7 (SqL.of b7.mid) (by rw [List.length_range]; omega) ?_ ?_⟩
        · intro k j H8 R S hj s8 hR
          have hj : j < m := List.mem_range.mp (List.mem_of_getElem? hj)
          exact ⟨ts j, _, rfl, SqT.of (s8 _ _ (b7.prs j hj)), rfl, _, _, rfl, _, _, rfl, rfl, rfl, _, rfl, hR _ _ (Same.refl _) (.int _)⟩
        · intro H8 s8 r8
          have b8 := b7.same s8
          have gh : Good (.list ((gI m h).map PyData.int)) := good_ints (c := 14) (fun x hx => by
            obtain ⟨j, hj, rfl⟩ := List.mem_map.mp hx
            have := (M.ok j (List.mem_range.mp hj)).le
            omega) (by decide) (by unfold gI; rw [List.length_map, List.length_range]; omega)
          rw [show (List.range m).map (fun j => PyData.int (h j : Nat)) = (gI m h).map PyData.int by unfold gI; rw [List.map_map]; rfl] at r8
          refine ⟨_, rfl, gh.neD r8.dp (dp_ints (SqL.of (by rw [gI_V]; exact b8.ev))) ⟨_, rfl, iteF ?_⟩⟩
          refine ⟨_, rfl, Mi, rfl, ⟨_, SqL.of b8.mid⟩, fun D9 hD9 => lcF_list (K := K) (c := fun j : Nat => V.ref (ts j)) (src := List.range m) (fun j => decide (h j ∣ g (n - 1))) (fun j => .int (phN (h j))) hD9 (SqL.of b8.mid) (by rw [List.length_range]; omega) ?_ ?_⟩
          · intro k j H9 R S hj s9 hR hS
            have hj : j < m := List.mem_range.mp (List.mem_of_getElem? hj)
            have j1 := (M.ok j hj).1
            refine ⟨ts j, _, rfl, SqT.of (s9 _ _ (b8.prs j hj)), rfl, _, _, rfl, _, _, rfl, rfl, rfl, ?_⟩
            refine ⟨_, rfl, _, rfl, Nu, _, _, _, rfl, rfl, SqL.of (s9 _ _ b8.nu), gV_last n1, _, rfl, _, _, rfl, rfl, (by show (0 : Int) < _; omega), .inl ⟨_, rfl, rfl, _, rfl, ite2 (fun hd => ⟨_, rfl, hR ?_ _ _ (Same.refl _) (.int _)⟩) (fun hd => hS ?_ _ (Same.refl _))⟩⟩
            · exact decide_eq_true (Nat.dvd_of_mod_eq_zero (int_mod.mp (V.int.inj (of_decide_eq_true hd))))
            · exact decide_eq_false fun z => hd (decide_eq_true (congrArg V.int (int_mod.mpr (Nat.mod_eq_zero_of_dvd z))))
          · intro H9 s9 r9
            rw [map_in] at r9
            refine ⟨D9, _, rfl, SqL.of r9.ints, ?_⟩
            have b9 := b8.same s9
            have dvE : ∀ d, d ∣ g (n - 1) → ∃ t, t < m ∧ h t = d := fun d hd => (C.mem d).mp ⟨n - 1, by omega, hd⟩
            refine ⟨_, rfl, _, rfl, Nu, _, _, _, rfl, rfl, SqL.of b9.nu, gV_last n1, rfl, _, rfl, ne_same (congrArg V.int (filterE M.up (fun t ht => (M.ok t ht).1) (L.lo _ (by omega)) dvE)) (hq _ b9)⟩
      clear b7
      dsimp only [tNext, tSeq, gName]
      refine ⟨_, rfl, _, rfl, Nu, n, g, rfl, SqL.of b8.nu, L, fun Sh H9 s9 r9 => ?_⟩
      obtain ⟨sad, tS⟩ := RecM.of_rp (K := K) r9
      have b9 := b8.same s9
      clear r9 b8
      refine ⟨_, rfl, Nu, _, rfl, .inl (SqL.of b9.nu), _, rfl, by omega, by rw [gV_len]; omega, ?_⟩
      rw [gV_len, show (n : Int).toNat = n by omega]
      refine for_range (lo := 0) (fun k σ H' => ∃ z7 z8 z9 : Option V, σ = [some (.ref a), some (.int (0 + (i : Int))), some (.ref Nu), some (.ref Ev), some (.ref T), some (.ref Mi), some (.ref Sh), z7, z8, z9, y10, y11, y12, y13, y14, y15, none, none, none, none, none, none, none] ∧ Same H9 H') ⟨y7, y8, y9, rfl, Same.refl _⟩ ?_ ?_
      · rintro at' σ H10 hat ⟨z7, z8, z9, rfl, s10⟩
        rw [show (0 : Int) + (at' : Int) = (at' : Int) by omega]
        refine ⟨_, rfl, Nu, _, rfl, .inl (SqL.of (b9.same s10).nu), _, rfl, by omega, by rw [gV_len]; omega, ?_⟩
        rw [gV_len, show (n : Int).toNat = n by omega]
        refine for_range (lo := 0) (fun k σ H' => ∃ z8 z9 : Option V, σ = [some (.ref a), some (.int (0 + (i : Int))), some (.ref Nu), some (.ref Ev), some (.ref T), some (.ref Mi), some (.ref Sh), some (.int at'), z8, z9, y10, y11, y12, y13, y14, y15, none, none, none, none, none, none, none] ∧ Same H9 H') ⟨z8, z9, rfl, s10⟩ ?_ ?_
        · rintro to σ H11 hto ⟨z8, z9, rfl, s11⟩
          rw [show (0 : Int) + (to : Int) = (to : Int) by omega]
          have b11 := b9.same s11
          refine ⟨_, rfl, Ev, _, rfl, .inl (SqL.of b11.ev), _, rfl, by omega, by rw [gV_len]; omega, fun D hD => ?_⟩
          rw [gV_len, show (m : Int).toNat = m by omega]
          refine lcM_range (lo := 0) (fun by' => .int (divM g h at' by' * phN (h by') * divM g h to by')) hD (by omega) ?_ ?_
          · intro by' H12 R S hby s12 hR
            rw [show (0 : Int) + (by' : Int) = (by' : Int) by omega]
            have b12 := b11.same s12
            have d1 := divM_b g h at' by'
            have d2 := divM_b g h to by'
            refine ⟨rfl, _, rfl, _, rfl, T, _, _, _, rfl, rfl, b12.tab.top, map_range_at hat, _, rfl, tad at', _, _, _, rfl, rfl, b12.tab.row at' hat, map_range_at hby, _, rfl, _, rfl, Mi, _, _, _, rfl, rfl, SqL.of b12.mid, map_range_at hby, ts by', _, _, _, rfl, rfl, SqT.of (b12.prs by' hby), rfl, _, _, rfl, rfl, mulc ⟨by omega, by omega⟩, _, rfl, _, rfl, T, _, _, _, rfl, rfl, b12.tab.top, map_range_at hto, _, rfl, tad to, _, _, _, rfl, rfl, b12.tab.row to hto, map_range_at hby, _, _, rfl, rfl, mulc' ⟨by omega, by omega⟩, hR _ _ (Same.refl _) (.int _)⟩
          · intro H12 s12 r12
            rw [map_in] at r12
            refine ⟨D, _, rfl, SqL.of r12.ints, ?_⟩
            have b12 := b11.same s12
            have tS12 := (tS.same s11).same s12
            have s912 := s11.trans s12
            have etot : ((List.range m).map fun by' => divM g h at' by' * phN (h by') * divM g h to by').sum = (Nat.gcd (g at') (g to) : Nat) := share_sumE M.up (fun t ht => (M.ok t ht).1) (L.lo _ hat) (fun d hd => (C.mem d).mp ⟨at', hat, hd⟩)
            rw [etot]
            dsimp only [tNext, tSeq, gName]
            refine if_skip (Same H9) (fun Q' hq => ?_) (fun H13 s13 => ⟨_, _, rfl, s13⟩)
            refine ⟨_, rfl, _, rfl, _, rfl, Sh, _, _, _, rfl, rfl, tS12.top, map_range_at hat, _, rfl, sad at', _, _, _, rfl, rfl, tS12.row at' hat, map_range_at hto, rfl, _, rfl, ite2 (fun hc => absurd hc (not_self rfl)) (fun _ => ?_)⟩
            have a1 := g81 at' hat
            have a2 := g81 to hto
            exact ⟨_, rfl, _, rfl, _, rfl, Nu, _, _, _, rfl, rfl, SqL.of b12.nu, gV_at hat, _, rfl, _, rfl, Nu, _, _, _, rfl, rfl, SqL.of b12.nu, gV_at hto, _, _, rfl, g at', g to, rfl, rfl, by omega, by omega, rfl, _, rfl, ne_same rfl (hq _ s912)⟩
        · rintro σ H11 ⟨z8, z9, rfl, s11⟩
          exact ⟨_, _, _, rfl, s11⟩
      rintro σ H10 ⟨z7, z8, z9, rfl, s10⟩
      have b10 := b9.same s10
      clear tS b9
      -- the closed lot
      have hb81 : ∀ i, i < m → 1 ≤ h i ∧ h i ≤ 81 := fun i hi => ⟨(M.ok i hi).1, (M.ok i hi).le⟩
      have gh : Good (.list ((gI m h).map PyData.int)) := good_ints (c := 14) (fun x hx => by
        obtain ⟨j, hj, rfl⟩ := List.mem_map.mp hx
        have := (M.ok j (List.mem_range.mp hj)).le
        omega) (by decide) (by unfold gI; rw [List.length_map, List.length_range]; omega)
      refine ⟨_, rfl, _, rfl, Nu, n, m, g, h, rfl, SqL.of b10.nu, L, fun i hi => (by have := g81 i hi; omega), C, fun Lo H11 s11 hLo e11 => ?_⟩
      have b11 := b10.same s11
      refine ⟨_, rfl, _, rfl, _, _, rfl, Lo, Lo, m, m, h, h, rfl, rfl, SqL.of e11, C.lot, SqL.of e11, C.lot, fun Sq H12 s12 r12 => ?_⟩
      have b12 := b11.same s12
      have e12 := s12 _ _ e11
      obtain ⟨qad, q12⟩ := RecM.of_rp (K := K) r12
      have q12 := q12.sq
      refine ⟨_, rfl, Lo, _, rfl, .inl (SqL.of e12), _, rfl, by omega, by rw [gV_len]; omega, fun We hWe => ?_⟩
      rw [gV_len, show (m : Int).toNat = m by omega]
      refine lcM_range (lo := 0) (fun i => .list (((List.range m).map fun j => wM h i j).map PyData.int)) hWe (by omega) ?_ ?_
      · intro k H13 R S hk s13 hR
        rw [show (0 : Int) + (k : Int) = (k : Int) by omega]
        refine ⟨rfl, _, rfl, Lo, _, rfl, .inl (SqL.of (s13 _ _ e12)), _, rfl, by omega, by rw [gV_len]; omega, fun D2 hD2 => ?_⟩
        rw [gV_len, show (m : Int).toNat = m by omega]
        refine lcM_range (lo := 0) (fun j => .int (wM h k j)) hD2 (by omega) ?_ ?_
        · intro j H14 R2 S2 hj s14 hR2
          rw [show (0 : Int) + (j : Int) = (j : Int) by omega]
          have k1 := (M.ok k hk).1
          have k2 := (M.ok k hk).le
          refine ⟨rfl, _, rfl, _, rfl, rfl, _, rfl, ite2 (fun hd => ⟨_, rfl, _, rfl, Lo, _, _, _, rfl, rfl, SqL.of (s14 _ _ (s13 _ _ e12)), gV_at hk, _, rfl, h k, rfl, k1, by omega, fun H15 s15 => hR2 _ _ s15 ?_⟩) (fun hd => hR2 _ _ (Same.refl _) ?_)⟩
          · have e : wM h k j = phN (h k) := if_pos (by have := V.int.inj (of_decide_eq_true hd); omega)
            exact e ▸ .int _
          · have e : wM h k j = 0 := if_neg (fun z => hd (decide_eq_true (by rw [z])))
            exact e ▸ .int _
        · intro H14 s14 r14
          rw [map_in] at r14
          exact hR _ _ s14 r14
      intro H13 s13 r13
      rw [← tabR_D] at r13
      obtain ⟨wad, w13⟩ := RecM.of_rp (K := K) r13
      have w13 := w13.sq
      have b13 := b12.same s13
      have q13 := q12.same s13
      have e13 := s13 _ _ e12
      have m1 := M.m1
      clear r13 r12 b12 q12 e12 e11 b11 b10
      dsimp only [tNext, tSeq, gName]
      refine if_skip (Same H13) (fun Q' hq => ?_) (fun H14 s14 => ?_)
      · refine ⟨_, rfl, _, rfl, gh.neD (dp_ints (SqL.of (by rw [gI_V]; exact e13))) (dp_ints (SqL.of (by rw [gI_V]; exact b13.ev))) ⟨_, rfl, iteF ?_⟩⟩
        refine ⟨_, rfl, _, rfl, _, _, rfl, Sq, We, m, qad, wad, _, _, rfl, rfl, q13, w13, m1, m12, fun i j hi hj => (by have := divM_b h h i j; omega), fun i j hi hj => (by have := wM_b M (j := j) hi; omega), fun P1 H14 s14 r14 => ?_⟩
        obtain ⟨pad, p14⟩ := RecM.of_rp (K := K) r14
        refine ⟨_, rfl, _, rfl, Sq, m, qad, _, rfl, q13.same s14, m1, m12, fun i j hi hj => (by have := divM_b h h i j; omega), fun Tu H15 s15 r15 => ?_⟩
        obtain ⟨uad, u15⟩ := RecM.of_rp (K := K) r15
        refine ⟨_, _, rfl, P1, Tu, m, pad, uad, _, _, rfl, rfl, (p14.same s15).sq, u15.sq, m1, m12, fun i j hi hj => (by have := mul_w_b M (i := i) hj; omega), fun i j hi hj => (by have : turnM (divM h h) i j = divM h h j i := rfl; have := divM_b h h j i; omega), fun P2 H16 s16 r16 => ?_⟩
        refine ⟨_, rfl, _, rfl, Lo, m, h, rfl, SqL.of (s16 _ _ (s15 _ _ (s14 _ _ e13))), C.lot, fun S2 H17 s17 r17 => ?_⟩
        rw [tabR_congr fun i j hi hj => mul_all M hi hj] at r16
        exact (good_R m12 m12 fun i j hi hj => (by have := gcdM_b hb81 (j := j) hi; omega)).neD (r16.same s17).dp r17.dp ⟨_, rfl, hq _ (((s14.trans s15).trans s16).trans s17)⟩
      have b14 := b13.same s14
      have q14 := q13.same s14
      have w14 := w13.same s14
      have e14 := s14 _ _ e13
      clear b13 q13 w13 e13
      dsimp only [tNext, tSeq, gName]
      refine if_skip (Same H14) (fun Q' hq => ?_) (fun H15 s15 => ?_)
      · refine ⟨_, rfl, _, rfl, Sq, m, qad, _, 1, rfl, q14, m1, m12, fun i j hi hj => (by have := divM_b h h i j; omega), M.square, fun H15 s15 => ⟨rfl, _, rfl, ite2 (fun hc => absurd hc (not_self rfl)) (fun _ => ?_)⟩⟩
        refine ⟨_, rfl, _, rfl, We, m, wad, _, _, rfl, w14.same s15, m1, m12, fun i j hi hj => (by have := wM_b M (j := j) hi; omega), M.middle, fun H16 s16 => ⟨_, rfl, _, rfl, Lo, m, h, _, rfl, SqL.of (s16 _ _ (s15 _ _ e14)), C.lot, M.shares, fun H17 s17 => ⟨rfl, _, rfl, ite2 (fun hc => absurd hc (not_self rfl)) (fun _ => ?_)⟩⟩⟩
        exact ⟨_, rfl, _, rfl, Lo, m, h, rfl, SqL.of (s17 _ _ (s16 _ _ (s15 _ _ e14))), C.lot, M.dv, fun H18 s18 => ⟨_, rfl, hq _ (((s15.trans s16).trans s17).trans s18)⟩⟩
      have b15 := b14.same s15
      have e15 := s15 _ _ e14
      clear b14 q14 w14 e14
      dsimp only [tNext, tSeq, gName]
      refine if_skip (Same H15) (fun Q' hq => ?_) (fun H16 s16 => ⟨_, _, _, _, _, _, _, _, _, rfl, (b15.same s16).pot, (b15.same s16).gr, (b15.same s16).nu⟩)
      refine ⟨_, rfl, _, rfl, Lo, m, h, rfl, SqL.of e15, C.lot, fun S1 H16 s16 r16 => ?_⟩
      obtain ⟨ad1, t16⟩ := RecM.of_rp (K := K) r16
      refine ⟨_, rfl, S1, m, ad1, _, rfl, t16.sq, m1, m12, fun i j hi hj => (by have := gcdM_b hb81 (j := j) hi; omega), fun S2 H17 s17 r17 => ?_⟩
      refine ⟨_, rfl, _, rfl, Lo, m, h, rfl, SqL.of (s17 _ _ (s16 _ _ e15)), C.lot, fun S3 H18 s18 r18 => ?_⟩
      rw [tabR_congr fun i j hi hj => gcdM_turn] at r17
      refine (good_R m12 m12 fun i j hi hj => (by have := gcdM_b hb81 (j := j) hi; omega)).neD (r17.same s18).dp r18.dp ⟨_, rfl, iteF ?_⟩
      have s18 := (s16.trans s17).trans s18
      refine ⟨_, rfl, _, rfl, Lo, m, h, rfl, SqL.of (s18 _ _ e15), C.lot, fun S4 H19 s19 r19 => ?_⟩
      obtain ⟨ad2, t19⟩ := RecM.of_rp (K := K) r19
      refine ⟨_, rfl, S4, m, ad2, _, rfl, t19.sq, m1, m12, fun i j hi hj => (by have := lcmM_b hb81 hi hj; omega), fun S5 H20 s20 r20 => ?_⟩
      refine ⟨_, rfl, _, rfl, Lo, m, h, rfl, SqL.of (s20 _ _ (s19 _ _ (s18 _ _ e15))), C.lot, fun S6 H21 s21 r21 => ?_⟩
      rw [tabR_congr fun i j hi hj => lcmM_turn] at r20
      exact (good_R m12 m12 fun i j hi hj => (by have := lcmM_b hb81 hi hj; omega)).neD (r20.same s21).dp r21.dp ⟨_, rfl, hq _ (((s18.trans s19).trans s20).trans s21)⟩
    · rintro σ H5 ⟨z4, z5, z6, z7, z8, z9, z10, z11, z12, rfl, p5, G5, e5⟩
      clear p4 G4 e4 ea s4 hr hp2 hp ht
      have ga : ∀ i, i < n → 1 ≤ g i ∧ g i ≤ 81 := fun i hi => ⟨L.lo i hi, g81 i hi⟩
      refine ⟨_, rfl, _, _, rfl, a, 400, rfl, rfl, p5, by decide, by decide, fun d H6 d0 d1 g6 p6 => ⟨_, _, rfl, rfl, ?_⟩⟩
      have e6 := g6 _ _ nua e5
      have G6 := G5.trans g6
      obtain ⟨mn, emn⟩ : ∃ mn : Nat, 1 + d = (mn : Int) := ⟨(1 + d).toNat, by omega⟩
      dsimp only []
      rw [emn]
      have mn1 : 1 ≤ mn := by omega
      dsimp only [tNext, tSeq, gName]
      refine if_skip (Same H6) (fun Q' hq => ?_) (fun H7 s7 => ?_)
      · refine ⟨_, rfl, _, rfl, mn, rfl, mn1, by omega, fun p H7 s7 hp7 e7 => ⟨p, rfl, ⟨_, SqL.of e7⟩, fun D hD => lcM_list (K := K) (c := fun d : Nat => V.int (d : Int)) (src := divsL mn) (fun d => .int (phN d)) hD (SqL.of e7) (by have := List.length_filter_le (fun d => decide (0 < d ∧ d ∣ mn)) (List.range (mn + 1)); rw [List.length_range] at this; show (List.filter _ _).length < _; omega) ?_ ?_⟩⟩
        · intro k d H8 R S hd s8 hR
          have hd := (mem_divsL mn1).mp (List.mem_of_getElem? hd)
          have l1 := Nat.pos_of_dvd_of_pos hd mn1
          have l2 := Nat.le_of_dvd mn1 hd
          exact ⟨rfl, _, rfl, _, rfl, d, rfl, l1, by omega, fun H9 s9 => hR _ _ s9 (.int _)⟩
        · intro H8 s8 r8
          rw [map_in] at r8
          exact ⟨D, _, rfl, SqL.of r8.ints, _, rfl, rfl, _, rfl, ne_same (congrArg V.int (divs_gauss mn1)) (hq _ (s7.trans s8))⟩
      have p7 := p6.same s7
      have G7 := G6.trans (Grow.of s7)
      have e7 := s7 _ _ e6
      clear p6 G6 e6
      dsimp only [tNext, tSeq, gName]
      refine ⟨_, rfl, _, rfl, Nu, n, g, rfl, SqL.of e7, L, fun Ne H8 s8 r8 => ⟨_, rfl, _, rfl, Nu, n, g, rfl, SqL.of (s8 _ _ e7), L, fun Fa H9 s9 r9 => ⟨sz2, fun t2 ht2 => ⟨t2, _, rfl, SqT.of upd_same, rfl, _, _, rfl, _, _, rfl, rfl, ?_⟩⟩⟩⟩
      obtain ⟨nad, nT⟩ := RecM.of_rp (K := K) (r8.same s9)
      obtain ⟨fad, fT⟩ := RecM.of_rp (K := K) r9
      have s10 : Same H9 (upd H9 t2 (.tup [.ref Ne, .ref Fa])) := (Same.refl H9).new ht2
      have nT := nT.same s10
      have fT := fT.same s10
      have s710 := (s8.trans s9).trans s10
      clear r8 r9 s8 s9 s10
      generalize upd H9 t2 (.tup [.ref Ne, .ref Fa]) = H10 at nT fT s710
      have p10 := p7.same s710
      have G10 := G7.trans (Grow.of s710)
      have e10 := s710 _ _ e7
      clear p7 G7 e7 s710
      dsimp only [tNext, tSeq, gName]
      refine if_skip (Same H10) (fun Q' hq => ?_) (fun H11 s11 => ?_)
      · refine ⟨_, rfl, _, rfl, _, _, _, _, rfl, nT.top, fT.top, fun D hD => lcM_zip (n := n) (fun i => .list (((List.range n).map fun j => gcdM g i j * lcmM g i j).map PyData.int)) hD nT.top fT.top (by rw [len_map_range, len_map_range]; omega) (by omega) ?_ ?_⟩
        · intro k T1 x y H11 R S hk hx hy s11 eT hR
          rw [List.getElem?_map, List.getElem?_range hk] at hx hy
          cases hx
          cases hy
          have n11 := (nT.same s11).row k hk
          have f11 := (fT.same s11).row k hk
          refine ⟨T1, _, rfl, SqT.of eT, rfl, _, _, rfl, _, _, rfl, rfl, rfl, _, rfl, _, rfl, _, _, _, _, rfl, n11, f11, fun D2 hD2 => lcM_zip (n := n) (fun j => .int (gcdM g k j * lcmM g k j)) hD2 n11 f11 (by rw [len_map_range, len_map_range]; omega) (by omega) ?_ ?_⟩
          · intro j T2 x y H12 R2 S2 hj hx hy s12 eT2 hR2
            rw [List.getElem?_map, List.getElem?_range hj] at hx hy
            cases hx
            cases hy
            have b1 := gcdM_b ga (j := j) hk
            exact ⟨T2, _, rfl, SqT.of eT2, rfl, _, _, rfl, _, _, rfl, rfl, rfl, _, rfl, _, rfl, _, _, rfl, rfl, mulc ⟨by omega, by omega⟩, hR2 _ _ (Same.refl _) (.int _)⟩
          · intro H12 s12 r12
            rw [map_in] at r12
            exact hR _ _ s12 r12
        · intro H11 s11 r11
          rw [← tabR_D (M := fun i j => gcdM g i j * lcmM g i j), tabR_congr (M' := fun i j => ((g i : Nat) : Int) * ((g j : Nat) : Int)) fun i j _ _ => gcd_lcm] at r11
          have e11 := s11 _ _ e10
          refine ⟨_, rfl, Nu, rfl, ⟨_, SqL.of e11⟩, fun D3 hD3 => lcM_list (K := K) (c := fun i : Nat => V.int (g i : Nat)) (src := List.range n) (fun i => .list (((List.range n).map fun j => ((g i : Nat) : Int) * ((g j : Nat) : Int)).map PyData.int)) hD3 (SqL.of e11) (by rw [List.length_range]; omega) ?_ ?_⟩
          · intro k2 k H12 R S hk s12 hR
            have hk : k < n := List.mem_range.mp (List.mem_of_getElem? hk)
            have e12 := s12 _ _ e11
            refine ⟨rfl, _, rfl, Nu, rfl, ⟨_, SqL.of e12⟩, fun D4 hD4 => lcM_list (K := K) (c := fun i : Nat => V.int (g i : Nat)) (src := List.range n) (fun j => .int (((g k : Nat) : Int) * ((g j : Nat) : Int))) hD4 (SqL.of e12) (by rw [List.length_range]; omega) ?_ ?_⟩
            · intro j2 j H13 R2 S2 hj s13 hR2
              have b1 := ga k hk
              exact ⟨rfl, _, rfl, _, rfl, _, _, rfl, rfl, mulc ⟨by omega, by omega⟩, hR2 _ _ (Same.refl _) (.int _)⟩
            · intro H13 s13 r13
              rw [map_in] at r13
              exact hR _ _ s13 r13
          · intro H12 s12 r12
            rw [← tabR_D (M := fun i j => ((g i : Nat) : Int) * ((g j : Nat) : Int))] at r12
            refine (good_R L.n2 L.n2 fun i j hi hj => ?_).neD (r11.same s12).dp r12.dp ⟨_, rfl, hq _ (s11.trans s12)⟩
            have b1 := ga i hi
            have b2 := ga j hj
            have := Nat.mul_le_mul b1.2 b2.2
            rw [← Int.natCast_mul, Int.natAbs_natCast]
            omega
      have p11 := p10.same s11
      have G11 := G10.trans (Grow.of s11)
      have e11 := s11 _ _ e10
      have nT := nT.same s11
      have fT := fT.same s11
      clear p10 G10 e10
      dsimp only [tNext, tSeq, gName]
      refine if_skip (Same H11) (fun Q' hq => ?_) (fun H12 s12 => ⟨_, _, _, _, _, _, _, _, _, _, _, _, _, _, _, rfl, p11.same s12, G11.trans (Grow.of s12)⟩)
      have gg : Good (.list ((gI n g).map PyData.int)) := good_ints (c := 14) (fun x hx => by
        obtain ⟨j, hj, rfl⟩ := List.mem_map.mp hx
        have := ga j (List.mem_range.mp hj)
        omega) (by decide) (by unfold gI; rw [List.length_map, List.length_range]; omega)
      refine ⟨_, rfl, Nu, _, rfl, .inl (SqL.of e11), _, rfl, by omega, by rw [gV_len]; omega, fun D hD => ?_⟩
      rw [gV_len, show (n : Int).toNat = n by omega]
      refine lcM_range (lo := 0) (fun i => .int ((g i : Nat) : Int)) hD (by omega) ?_ ?_
      · intro k H12 R S hk s12 hR
        rw [show (0 : Int) + (k : Int) = (k : Int) by omega]
        have t12 := nT.same s12
        refine ⟨rfl, _, rfl, _, rfl, Ne, _, _, _, rfl, rfl, t12.top, map_range_at hk, _, rfl, nad k, _, _, _, rfl, rfl, t12.row k hk, map_range_at hk, hR _ _ (Same.refl _) ?_⟩
        rw [gcd_diag]
        exact .int _
      intro H12 s12 r12
      rw [show (List.range n).map (fun j => PyData.int (g j : Nat)) = (gI n g).map PyData.int by unfold gI; rw [List.map_map]; rfl] at r12
      refine ⟨_, rfl, gg.neD r12.dp (dp_ints (SqL.of (by rw [gI_V]; exact s12 _ _ e11))) ⟨_, rfl, iteF ?_⟩⟩
      refine ⟨_, rfl, Nu, _, rfl, .inl (SqL.of (s12 _ _ e11)), _, rfl, by omega, by rw [gV_len]; omega, fun D2 hD2 => ?_⟩
      rw [gV_len, show (n : Int).toNat = n by omega]
      refine lcM_range (lo := 0) (fun i => .int ((g i : Nat) : Int)) hD2 (by omega) ?_ ?_
      · intro k H13 R S hk s13 hR
        rw [show (0 : Int) + (k : Int) = (k : Int) by omega]
        have t13 := (fT.same s12).same s13
        refine ⟨rfl, _, rfl, _, rfl, Fa, _, _, _, rfl, rfl, t13.top, map_range_at hk, _, rfl, fad k, _, _, _, rfl, rfl, t13.row k hk, map_range_at hk, hR _ _ (Same.refl _) ?_⟩
        rw [lcm_diag (L.lo k hk)]
        exact .int _
      intro H13 s13 r13
      rw [show (List.range n).map (fun j => PyData.int (g j : Nat)) = (gI n g).map PyData.int by unfold gI; rw [List.map_map]; rfl] at r13
      exact ⟨_, rfl, gg.neD r13.dp (dp_ints (SqL.of (by rw [gI_V]; exact s13 _ _ (s12 _ _ e11)))) ⟨_, rfl, hq _ (s12.trans s13)⟩⟩
  · rintro σ H' ⟨y1, y2, y3, y4, y5, y6, y7, y8, y9, y10, y11, y12, y13, y14, y15, rfl, p0, g0⟩
    exact q _ g0

end
end M
namespace M
open PySem PySem.Spec PyProof.Rows L2 G
section
variable {P : Program} {w : World} {K : PySem.W.Frag} {mg : Str → Option Value} {base : Heap}
/-! the law: the pots, one by one -/
theorem SqL_same {l : Addr} {xs : List V} {H H' : Hp} (s : Same H H') (h : SqL K H l xs) : SqL K H' l xs := by
  rcases h with (h | ⟨o, h⟩) | h
  · exact .inl (.inl (s _ _ h))
  · exact .inl (.inr ⟨o, s _ _ h⟩)
  · exact .inr h
theorem all_true (m : Nat) : (List.replicate m true).all id = true := by
  induction m with
  | zero => rfl
  | succ m ih => rw [List.replicate_succ, List.all_cons, ih]; rfl
def sp_law (K : PySem.W.Frag) : Sp := spec1 fun x H Q _ => ∃ (l : Addr) (ns : List Int), x = .ref l ∧ SqL K H l (ns.map V.int) ∧ ns.length ≤ 63 ∧ ∀ H', Q (.bl true) H'
theorem ok_law {af : Addr} {fd : FuncData} (F : FunD K "law" "law" (defArgs s_law) (defBody s_law) (defScope s_law) [] [] af fd) (B : Bt mg) (C__law_right : Cl P w K mg base 6 "_law_right" 1 [] (sp__law_right K)) (C__law_pot : Cl P w K mg base 1 "_law_pot" 2 [] (sp__law_pot K)) : FnG P w K mg base CX0 7 af fd ["script"] (sp_law K) := by
  refine okG F sc_law ar1 fun cdv A outer s H vs Q E hg hr h => ?_
  refine ⟨_, PSs.nox (pss_one (ps_ret (pe_callB (cr_all rfl) (by rfl) B.all (by decide +kernel) (pa_cons (pe_lc (own := [("k", 1)]) rfl sc_law.nd (pi_range1 rfl B.range (pa_cons (pe_callB (call_max2 rfl) (by rfl) B.max (by decide +kernel) (pa_cons pe_int (pa_cons (pe_callB (call_min2 rfl) (by rfl) B.min (by decide +kernel) (pa_cons pe_int (pa_cons (pe_callB call_len_seq (by rfl) B.len (by decide +kernel) (pa_cons (pv 0) pa_nil)) pa_nil))) pa_nil))) pa_nil)) (blkOk_by (own := [("k", 1)]) (N := ["script", "k"]) (sc := defScope s_law) (by decide +kernel)) (fun _ _ _ _ _ => pg_name (i := 1) sc_law.nd rfl (.inl rfl) (.inr rfl)) (fun _ _ _ _ _ => pts_nil) (fun _ _ _ _ _ => (pe_cl C__law_right hg hr (by decide) rfl (pa_cons (pe_cl C__law_pot hg hr (by decide) rfl (pa_cons (pv 0) (pa_cons (pv 1) pa_nil))) pa_nil)))) pa_nil)))), ?_⟩
  obtain ⟨_, rfl, l, ns, rfl, hS, hn, q⟩ := h
  refine ⟨_, rfl, l, _, rfl, .inl hS, _, _, rfl, _, _, rfl, _, rfl, by split <;> split <;> omega, by split <;> split <;> omega, fun D hD => lc_range (lo := 0) (fun j H2 => Same H H2 ∧ ∃ m, m ≤ j ∧ H2 D = some (.lst ((List.replicate m true).map V.bl))) ⟨(Same.refl _).new hD, 0, Nat.le_refl 0, upd_same⟩ ?_ ?_⟩
  · rintro j H2 hj ⟨s2, m, hm, eD⟩
    have hj : j < 4 := by
      refine Nat.lt_of_lt_of_le hj ?_
      split <;> split <;> omega
    refine ⟨rfl, _, rfl, _, rfl, _, _, rfl, l, ns, j, rfl, congrArg V.int (by omega), SqL_same s2 hS, by omega, fun a H3 s3 ha hp => ?_⟩
    have hDa : D ≠ a := ne_of_none eD ha
    refine ⟨_, rfl, a, rfl, hp, fun H4 g4 => ⟨_, g4 _ _ hDa (s3 _ _ eD), small_lt (by simp; omega), fun b o hb => ?_, m + 1, by omega, ?_⟩⟩
    · have hbD : b ≠ D := by
        rintro rfl
        rw [hb] at hD
        cases hD
      have hba : b ≠ a := by
        rintro rfl
        rw [s2 _ _ hb] at ha
        cases ha
      exact (upd_ne hbD).trans (g4 _ _ hba (s3 _ _ (s2 _ _ hb)))
    · rw [upd_same, List.replicate_succ', List.map_append]
      rfl
  · rintro H2 ⟨s2, m, hm, eD⟩
    refine ⟨D, _, rfl, SqL.of eD, ?_⟩
    rw [all_true]
    exact q _
theorem law_ends (H : Hp) (a : Addr) (ns : List Int) (hl : ns.length ≤ 63) (hS : SqL K H a (ns.map V.int)) : sp_law K [.ref a] H (fun v _ => v = .bl true) E0 :=
  ⟨_, rfl, a, ns, rfl, hS, hl, fun _ => rfl⟩

end
end M
namespace M
open PySem PySem.Spec PyProof.Rows L2 G
def d_is_integer : He.DefD := ⟨("is_integer", none), "is_integer", "is_integer", defArgs s_is_integer, defBody s_is_integer, defScope s_is_integer, [], []⟩
def d_is_list : He.DefD := ⟨("is_list", none), "is_list", "is_list", defArgs s_is_list, defBody s_is_list, defScope s_is_list, [], []⟩
def d_want_at_most : He.DefD := ⟨("want_at_most", none), "want_at_most", "want_at_most", defArgs s_want_at_most, defBody s_want_at_most, defScope s_want_at_most, [], []⟩
def d_is_number_of : He.DefD := ⟨("is_number_of", none), "is_number_of", "is_number_of", defArgs s_is_number_of, defBody s_is_number_of, defScope s_is_number_of, [], []⟩
def d_share_of : He.DefD := ⟨("share_of", none), "share_of", "share_of", defArgs s_share_of, defBody s_share_of, defScope s_share_of, [], []⟩
def d_powers_of : He.DefD := ⟨("powers_of", none), "powers_of", "powers_of", defArgs s_powers_of, defBody s_powers_of, defScope s_powers_of, [], []⟩
def d_divisors_by : He.DefD := ⟨("divisors_by", none), "divisors_by", "divisors_by", defArgs s_divisors_by, defBody s_divisors_by, defScope s_divisors_by, [], []⟩
def d_divisors_of : He.DefD := ⟨("divisors_of", none), "divisors_of", "divisors_of", defArgs s_divisors_of, defBody s_divisors_of, defScope s_divisors_of, [], []⟩
def d_is_lot_value : He.DefD := ⟨("is_lot_value", none), "is_lot_value", "is_lot_value", defArgs s_is_lot_value, defBody s_is_lot_value, defScope s_is_lot_value, [], []⟩
def d_want_lot : He.DefD := ⟨("want_lot", none), "want_lot", "want_lot", defArgs s_want_lot, defBody s_want_lot, defScope s_want_lot, [], []⟩
def d_is_table_value : He.DefD := ⟨("is_table_value", none), "is_table_value", "is_table_value", defArgs s_is_table_value, defBody s_is_table_value, defScope s_is_table_value, [], []⟩
def d_want_table : He.DefD := ⟨("want_table", none), "want_table", "want_table", defArgs s_want_table, defBody s_want_table, defScope s_want_table, [], []⟩
def d_shares_of : He.DefD := ⟨("shares_of", none), "shares_of", "shares_of", defArgs s_shares_of, defBody s_shares_of, defScope s_shares_of, [], []⟩
def d_multiples_of : He.DefD := ⟨("multiples_of", none), "multiples_of", "multiples_of", defArgs s_multiples_of, defBody s_multiples_of, defScope s_multiples_of, [], []⟩
def d_times_of : He.DefD := ⟨("times_of", none), "times_of", "times_of", defArgs s_times_of, defBody s_times_of, defScope s_times_of, [], []⟩
def d_turned_of : He.DefD := ⟨("turned_of", none), "turned_of", "turned_of", defArgs s_turned_of, defBody s_turned_of, defScope s_turned_of, [], []⟩
def d_worth_of : He.DefD := ⟨("worth_of", none), "worth_of", "worth_of", defArgs s_worth_of, defBody s_worth_of, defScope s_worth_of, [], []⟩
def d_free_count : He.DefD := ⟨("free_count", none), "free_count", "free_count", defArgs s_free_count, defBody s_free_count, defScope s_free_count, [], []⟩
def d_share_table : He.DefD := ⟨("share_table", none), "share_table", "share_table", defArgs s_share_table, defBody s_share_table, defScope s_share_table, [], []⟩
def d_multiple_table : He.DefD := ⟨("multiple_table", none), "multiple_table", "multiple_table", defArgs s_multiple_table, defBody s_multiple_table, defScope s_multiple_table, [], []⟩
def d_divisor_table : He.DefD := ⟨("divisor_table", none), "divisor_table", "divisor_table", defArgs s_divisor_table, defBody s_divisor_table, defScope s_divisor_table, [], []⟩
def d_table_times : He.DefD := ⟨("table_times", none), "table_times", "table_times", defArgs s_table_times, defBody s_table_times, defScope s_table_times, [], []⟩
def d_turned_table : He.DefD := ⟨("turned_table", none), "turned_table", "turned_table", defArgs s_turned_table, defBody s_turned_table, defScope s_turned_table, [], []⟩
def d_table_worth : He.DefD := ⟨("table_worth", none), "table_worth", "table_worth", defArgs s_table_worth, defBody s_table_worth, defScope s_table_worth, [], []⟩
def d_share_free : He.DefD := ⟨("share_free", none), "share_free", "share_free", defArgs s_share_free, defBody s_share_free, defScope s_share_free, [], []⟩
def d_middle_of : He.DefD := ⟨("middle_of", none), "middle_of", "middle_of", defArgs s_middle_of, defBody s_middle_of, defScope s_middle_of, [], []⟩
def d_lacking_of : He.DefD := ⟨("lacking_of", none), "lacking_of", "lacking_of", defArgs s_lacking_of, defBody s_lacking_of, defScope s_lacking_of, [], []⟩
def d_is_closed_of : He.DefD := ⟨("is_closed_of", none), "is_closed_of", "is_closed_of", defArgs s_is_closed_of, defBody s_is_closed_of, defScope s_is_closed_of, [], []⟩
def d_closure_of : He.DefD := ⟨("closure_of", none), "closure_of", "closure_of", defArgs s_closure_of, defBody s_closure_of, defScope s_closure_of, [], []⟩
def d_is_closed : He.DefD := ⟨("is_closed", none), "is_closed", "is_closed", defArgs s_is_closed, defBody s_is_closed, defScope s_is_closed, [], []⟩
def d_closed_lot : He.DefD := ⟨("closed_lot", none), "closed_lot", "closed_lot", defArgs s_closed_lot, defBody s_closed_lot, defScope s_closed_lot, [], []⟩
def d_share_worth : He.DefD := ⟨("share_worth", none), "share_worth", "share_worth", defArgs s_share_worth, defBody s_share_worth, defScope s_share_worth, [], []⟩
def d__law_pot : He.DefD := ⟨("_law_pot", none), "_law_pot", "_law_pot", defArgs s__law_pot, defBody s__law_pot, defScope s__law_pot, [], []⟩
def d__law_draw : He.DefD := ⟨("_law_draw", none), "_law_draw", "_law_draw", defArgs s__law_draw, defBody s__law_draw, defScope s__law_draw, [], []⟩
def d__law_pick : He.DefD := ⟨("_law_pick", none), "_law_pick", "_law_pick", defArgs s__law_pick, defBody s__law_pick, defScope s__law_pick, [], []⟩
def d__law_share : He.DefD := ⟨("_law_share", none), "_law_share", "_law_share", defArgs s__law_share, defBody s__law_share, defScope s__law_share, [], []⟩
def d__law_divisors : He.DefD := ⟨("_law_divisors", none), "_law_divisors", "_law_divisors", defArgs s__law_divisors, defBody s__law_divisors, defScope s__law_divisors, [], []⟩
def d__law_primes : He.DefD := ⟨("_law_primes", none), "_law_primes", "_law_primes", defArgs s__law_primes, defBody s__law_primes, defScope s__law_primes, [], []⟩
def d__law_free : He.DefD := ⟨("_law_free", none), "_law_free", "_law_free", defArgs s__law_free, defBody s__law_free, defScope s__law_free, [], []⟩
def d__law_sign : He.DefD := ⟨("_law_sign", none), "_law_sign", "_law_sign", defArgs s__law_sign, defBody s__law_sign, defScope s__law_sign, [], []⟩
def d__law_worth : He.DefD := ⟨("_law_worth", none), "_law_worth", "_law_worth", defArgs s__law_worth, defBody s__law_worth, defScope s__law_worth, [], []⟩
def d__law_lot : He.DefD := ⟨("_law_lot", none), "_law_lot", "_law_lot", defArgs s__law_lot, defBody s__law_lot, defScope s__law_lot, [], []⟩
def d__law_is_closed : He.DefD := ⟨("_law_is_closed", none), "_law_is_closed", "_law_is_closed", defArgs s__law_is_closed, defBody s__law_is_closed, defScope s__law_is_closed, [], []⟩
def d__law_product : He.DefD := ⟨("_law_product", none), "_law_product", "_law_product", defArgs s__law_product, defBody s__law_product, defScope s__law_product, [], []⟩
def d__law_right : He.DefD := ⟨("_law_right", none), "_law_right", "_law_right", defArgs s__law_right, defBody s__law_right, defScope s__law_right, [], []⟩
def d_law : He.DefD := ⟨("law", none), "law", "law", defArgs s_law, defBody s_law, defScope s_law, [], []⟩
def fn : List He.DefD := [d_is_integer, d_is_list, d_want_at_most, d_is_number_of, d_share_of, d_powers_of, d_divisors_by, d_divisors_of, d_is_lot_value, d_want_lot, d_is_table_value, d_want_table, d_shares_of, d_multiples_of, d_times_of, d_turned_of, d_worth_of, d_free_count, d_share_table, d_multiple_table, d_divisor_table, d_table_times, d_turned_table, d_table_worth, d_share_free, d_middle_of, d_lacking_of, d_is_closed_of, d_closure_of, d_is_closed, d_closed_lot, d_share_worth, d__law_pot, d__law_draw, d__law_pick, d__law_share, d__law_divisors, d__law_primes, d__law_free, d__law_sign, d__law_worth, d__law_lot, d__law_is_closed, d__law_product, d__law_right, d_law]
def fa : List He.Fa := [.glo "is_integer", .glo "is_list", .glo "want_at_most", .glo "is_number_of", .glo "share_of", .glo "powers_of", .glo "divisors_by", .glo "divisors_of", .glo "is_lot_value", .glo "want_lot", .glo "is_table_value", .glo "want_table", .glo "shares_of", .glo "multiples_of", .glo "times_of", .glo "turned_of", .glo "worth_of", .glo "free_count", .glo "share_table", .glo "multiple_table", .glo "divisor_table", .glo "table_times", .glo "turned_table", .glo "table_worth", .glo "share_free", .glo "middle_of", .glo "lacking_of", .glo "is_closed_of", .glo "closure_of", .glo "is_closed", .glo "closed_lot", .glo "share_worth", .glo "_law_pot", .glo "_law_draw", .glo "_law_pick", .glo "_law_share", .glo "_law_divisors", .glo "_law_primes", .glo "_law_free", .glo "_law_sign", .glo "_law_worth", .glo "_law_lot", .glo "_law_is_closed", .glo "_law_product", .glo "_law_right", .glo "law"] ++ btNames.map He.Fa.free ++ [.int "LONGEST" 1000000000000000000000000000000, .int "MOST_LOT" 12, .int "GREATEST_IN" 1000000]

def ex (K : PySem.W.Frag) : Bool := true
abbrev R : PySem.W.OpenRow := PySem.W.OpenLaw.row PySem.Challenge.rw_divisorsums_k84_whole_tables_as_products
abbrev hk : PySem.W.Hook := G.hookE 4 fa fn ex
def ob (s : PySem.W.SharedT) : G.AlE := G.obsE 4 fa fn ex (HandSHeadRun.getT s)
theorem ob_eq (s : PySem.W.SharedT) : ob s = hk.obs s.abs := G.obsE_eq (HandSHeadRun.getT_eq s)
def loose : List Str := [("is_integer" : Str), ("is_list" : Str), ("want_at_most" : Str), ("is_number_of" : Str), ("share_of" : Str), ("powers_of" : Str), ("divisors_by" : Str), ("divisors_of" : Str), ("is_lot_value" : Str), ("want_lot" : Str), ("is_table_value" : Str), ("want_table" : Str), ("shares_of" : Str), ("multiples_of" : Str), ("times_of" : Str), ("turned_of" : Str), ("worth_of" : Str), ("free_count" : Str), ("share_table" : Str), ("multiple_table" : Str), ("divisor_table" : Str), ("table_times" : Str), ("turned_table" : Str), ("table_worth" : Str), ("share_free" : Str), ("middle_of" : Str), ("lacking_of" : Str), ("is_closed_of" : Str), ("closure_of" : Str), ("is_closed" : Str), ("closed_lot" : Str), ("share_worth" : Str), ("_law_pot" : Str), ("_law_draw" : Str), ("_law_pick" : Str), ("_law_share" : Str), ("_law_divisors" : Str), ("_law_primes" : Str), ("_law_free" : Str), ("_law_sign" : Str), ("_law_worth" : Str), ("_law_lot" : Str), ("_law_is_closed" : Str), ("_law_product" : Str), ("_law_right" : Str), ("NumberError" : Str), ("StateError" : Str), ("LimitError" : Str), ("InvalidNumber" : Str), ("InvalidOther" : Str), ("InvalidRow" : Str), ("UnlikeLengths" : Str), ("TooMany" : Str), ("LONGEST" : Str), ("MOST_LOT" : Str), ("GREATEST_IN" : Str)]
theorem run (w : World) : HandSHeadRun.RunEq R (PySem.W.view R.prog [62]) hk ob 4000 loose w := by
  intro os
  kernel_rfl
theorem facts {P : Program} {w : World} {K : PySem.W.Frag} {h : Heap} {mg : Str → Option Value} {f : Addr} (X : K.In h) (G0 : h.Ns mainGlobals mg) (hfa : mg ("law" : Str) = some (.ref f)) (c : He.SaysD fa fn K) (cx : ex K = true) :
    ∃ fd : FuncData, (∀ (s : Shared) (v : Value), BindsTo s fd ⟨[v], []⟩ [("script", v)]) ∧ ∀ base : Heap, K.In base → base.Ns mainGlobals mg → FnG P w K mg base CX0 7 f fd ["script"] (sp_law K) := by
  have B : Bt mg := Bt.of fun x hx => by
    exact He.free_ok X G0 (says_mem c (List.mem_append_left _ (List.mem_append_right _ (List.mem_map_of_mem hx))))
  obtain ⟨t_LONGEST, c_LONGEST⟩ := He.int_ok X G0 (c.fact 67 (f := .int "LONGEST" 1000000000000000000000000000000) rfl)
  obtain ⟨t_MOST_LOT, c_MOST_LOT⟩ := He.int_ok X G0 (c.fact 68 (f := .int "MOST_LOT" 12) rfl)
  obtain ⟨t_GREATEST_IN, c_GREATEST_IN⟩ := He.int_ok X G0 (c.fact 69 (f := .int "GREATEST_IN" 1000000) rfl)
  obtain ⟨fd_is_integer, F_is_integer⟩ := c.def_ 0 (d := d_is_integer) rfl
  have m_is_integer := He.glo_ok X G0 (c.fact 0 (f := .glo "is_integer") rfl)
  obtain ⟨fd_is_list, F_is_list⟩ := c.def_ 1 (d := d_is_list) rfl
  have m_is_list := He.glo_ok X G0 (c.fact 1 (f := .glo "is_list") rfl)
  obtain ⟨fd_want_at_most, F_want_at_most⟩ := c.def_ 2 (d := d_want_at_most) rfl
  have m_want_at_most := He.glo_ok X G0 (c.fact 2 (f := .glo "want_at_most") rfl)
  obtain ⟨fd_is_number_of, F_is_number_of⟩ := c.def_ 3 (d := d_is_number_of) rfl
  have m_is_number_of := He.glo_ok X G0 (c.fact 3 (f := .glo "is_number_of") rfl)
  obtain ⟨fd_share_of, F_share_of⟩ := c.def_ 4 (d := d_share_of) rfl
  have m_share_of := He.glo_ok X G0 (c.fact 4 (f := .glo "share_of") rfl)
  obtain ⟨fd_powers_of, F_powers_of⟩ := c.def_ 5 (d := d_powers_of) rfl
  have m_powers_of := He.glo_ok X G0 (c.fact 5 (f := .glo "powers_of") rfl)
  obtain ⟨fd_divisors_by, F_divisors_by⟩ := c.def_ 6 (d := d_divisors_by) rfl
  have m_divisors_by := He.glo_ok X G0 (c.fact 6 (f := .glo "divisors_by") rfl)
  obtain ⟨fd_divisors_of, F_divisors_of⟩ := c.def_ 7 (d := d_divisors_of) rfl
  have m_divisors_of := He.glo_ok X G0 (c.fact 7 (f := .glo "divisors_of") rfl)
  obtain ⟨fd_is_lot_value, F_is_lot_value⟩ := c.def_ 8 (d := d_is_lot_value) rfl
  have m_is_lot_value := He.glo_ok X G0 (c.fact 8 (f := .glo "is_lot_value") rfl)
  obtain ⟨fd_want_lot, F_want_lot⟩ := c.def_ 9 (d := d_want_lot) rfl
  have m_want_lot := He.glo_ok X G0 (c.fact 9 (f := .glo "want_lot") rfl)
  obtain ⟨fd_is_table_value, F_is_table_value⟩ := c.def_ 10 (d := d_is_table_value) rfl
  have m_is_table_value := He.glo_ok X G0 (c.fact 10 (f := .glo "is_table_value") rfl)
  obtain ⟨fd_want_table, F_want_table⟩ := c.def_ 11 (d := d_want_table) rfl
  have m_want_table := He.glo_ok X G0 (c.fact 11 (f := .glo "want_table") rfl)
  obtain ⟨fd_shares_of, F_shares_of⟩ := c.def_ 12 (d := d_shares_of) rfl
  have m_shares_of := He.glo_ok X G0 (c.fact 12 (f := .glo "shares_of") rfl)
  obtain ⟨fd_multiples_of, F_multiples_of⟩ := c.def_ 13 (d := d_multiples_of) rfl
  have m_multiples_of := He.glo_ok X G0 (c.fact 13 (f := .glo "multiples_of") rfl)
  obtain ⟨fd_times_of, F_times_of⟩ := c.def_ 14 (d := d_times_of) rfl
  have m_times_of := He.glo_ok X G0 (c.fact 14 (f := .glo "times_of") rfl)
  obtain ⟨fd_turned_of, F_turned_of⟩ := c.def_ 15 (d := d_turned_of) rfl
  have m_turned_of := He.glo_ok X G0 (c.fact 15 (f := .glo "turned_of") rfl)
  obtain ⟨fd_worth_of, F_worth_of⟩ := c.def_ 16 (d := d_worth_of) rfl
  have m_worth_of := He.glo_ok X G0 (c.fact 16 (f := .glo "worth_of") rfl)
  obtain ⟨fd_free_count, F_free_count⟩ := c.def_ 17 (d := d_free_count) rfl
  have m_free_count := He.glo_ok X G0 (c.fact 17 (f := .glo "free_count") rfl)
  obtain ⟨fd_share_table, F_share_table⟩ := c.def_ 18 (d := d_share_table) rfl
  have m_share_table := He.glo_ok X G0 (c.fact 18 (f := .glo "share_table") rfl)
  obtain ⟨fd_multiple_table, F_multiple_table⟩ := c.def_ 19 (d := d_multiple_table) rfl
  have m_multiple_table := He.glo_ok X G0 (c.fact 19 (f := .glo "multiple_table") rfl)
  obtain ⟨fd_divisor_table, F_divisor_table⟩ := c.def_ 20 (d := d_divisor_table) rfl
  have m_divisor_table := He.glo_ok X G0 (c.fact 20 (f := .glo "divisor_table") rfl)
  obtain ⟨fd_table_times, F_table_times⟩ := c.def_ 21 (d := d_table_times) rfl
  have m_table_times := He.glo_ok X G0 (c.fact 21 (f := .glo "table_times") rfl)
  obtain ⟨fd_turned_table, F_turned_table⟩ := c.def_ 22 (d := d_turned_table) rfl
  have m_turned_table := He.glo_ok X G0 (c.fact 22 (f := .glo "turned_table") rfl)
  obtain ⟨fd_table_worth, F_table_worth⟩ := c.def_ 23 (d := d_table_worth) rfl
  have m_table_worth := He.glo_ok X G0 (c.fact 23 (f := .glo "table_worth") rfl)
  obtain ⟨fd_share_free, F_share_free⟩ := c.def_ 24 (d := d_share_free) rfl
  have m_share_free := He.glo_ok X G0 (c.fact 24 (f := .glo "share_free") rfl)
  obtain ⟨fd_middle_of, F_middle_of⟩ := c.def_ 25 (d := d_middle_of) rfl
  have m_middle_of := He.glo_ok X G0 (c.fact 25 (f := .glo "middle_of") rfl)
  obtain ⟨fd_lacking_of, F_lacking_of⟩ := c.def_ 26 (d := d_lacking_of) rfl
  have m_lacking_of := He.glo_ok X G0 (c.fact 26 (f := .glo "lacking_of") rfl)
  obtain ⟨fd_is_closed_of, F_is_closed_of⟩ := c.def_ 27 (d := d_is_closed_of) rfl
  have m_is_closed_of := He.glo_ok X G0 (c.fact 27 (f := .glo "is_closed_of") rfl)
  obtain ⟨fd_closure_of, F_closure_of⟩ := c.def_ 28 (d := d_closure_of) rfl
  have m_closure_of := He.glo_ok X G0 (c.fact 28 (f := .glo "closure_of") rfl)
  obtain ⟨fd_is_closed, F_is_closed⟩ := c.def_ 29 (d := d_is_closed) rfl
  have m_is_closed := He.glo_ok X G0 (c.fact 29 (f := .glo "is_closed") rfl)
  obtain ⟨fd_closed_lot, F_closed_lot⟩ := c.def_ 30 (d := d_closed_lot) rfl
  have m_closed_lot := He.glo_ok X G0 (c.fact 30 (f := .glo "closed_lot") rfl)
  obtain ⟨fd_share_worth, F_share_worth⟩ := c.def_ 31 (d := d_share_worth) rfl
  have m_share_worth := He.glo_ok X G0 (c.fact 31 (f := .glo "share_worth") rfl)
  obtain ⟨fd__law_pot, F__law_pot⟩ := c.def_ 32 (d := d__law_pot) rfl
  have m__law_pot := He.glo_ok X G0 (c.fact 32 (f := .glo "_law_pot") rfl)
  obtain ⟨fd__law_draw, F__law_draw⟩ := c.def_ 33 (d := d__law_draw) rfl
  have m__law_draw := He.glo_ok X G0 (c.fact 33 (f := .glo "_law_draw") rfl)
  obtain ⟨fd__law_pick, F__law_pick⟩ := c.def_ 34 (d := d__law_pick) rfl
  have m__law_pick := He.glo_ok X G0 (c.fact 34 (f := .glo "_law_pick") rfl)
  obtain ⟨fd__law_share, F__law_share⟩ := c.def_ 35 (d := d__law_share) rfl
  have m__law_share := He.glo_ok X G0 (c.fact 35 (f := .glo "_law_share") rfl)
  obtain ⟨fd__law_divisors, F__law_divisors⟩ := c.def_ 36 (d := d__law_divisors) rfl
  have m__law_divisors := He.glo_ok X G0 (c.fact 36 (f := .glo "_law_divisors") rfl)
  obtain ⟨fd__law_primes, F__law_primes⟩ := c.def_ 37 (d := d__law_primes) rfl
  have m__law_primes := He.glo_ok X G0 (c.fact 37 (f := .glo "_law_primes") rfl)
  obtain ⟨fd__law_free, F__law_free⟩ := c.def_ 38 (d := d__law_free) rfl
  have m__law_free := He.glo_ok X G0 (c.fact 38 (f := .glo "_law_free") rfl)
  obtain ⟨fd__law_sign, F__law_sign⟩ := c.def_ 39 (d := d__law_sign) rfl
  have m__law_sign := He.glo_ok X G0 (c.fact 39 (f := .glo "_law_sign") rfl)
  obtain ⟨fd__law_worth, F__law_worth⟩ := c.def_ 40 (d := d__law_worth) rfl
  have m__law_worth := He.glo_ok X G0 (c.fact 40 (f := .glo "_law_worth") rfl)
  obtain ⟨fd__law_lot, F__law_lot⟩ := c.def_ 41 (d := d__law_lot) rfl
  have m__law_lot := He.glo_ok X G0 (c.fact 41 (f := .glo "_law_lot") rfl)
  obtain ⟨fd__law_is_closed, F__law_is_closed⟩ := c.def_ 42 (d := d__law_is_closed) rfl
  have m__law_is_closed := He.glo_ok X G0 (c.fact 42 (f := .glo "_law_is_closed") rfl)
  obtain ⟨fd__law_product, F__law_product⟩ := c.def_ 43 (d := d__law_product) rfl
  have m__law_product := He.glo_ok X G0 (c.fact 43 (f := .glo "_law_product") rfl)
  obtain ⟨fd__law_right, F__law_right⟩ := c.def_ 44 (d := d__law_right) rfl
  have m__law_right := He.glo_ok X G0 (c.fact 44 (f := .glo "_law_right") rfl)
  obtain ⟨fd_law, F_law⟩ := c.def_ 45 (d := d_law) rfl
  have m_law := He.glo_ok X G0 (c.fact 45 (f := .glo "law") rfl)
  cases (hfa.symm.trans m_law)
  refine ⟨fd_law, fun s v => FunD.bindsA (ps := ["script"]) F_law (fun _ _ _ _ _ _ us hl => match us, hl with | [_], _ => rfl) s [v] rfl, fun base _ _ => ?_⟩
  have G__law_draw := ok__law_draw (P := P) (w := w) (base := base) F__law_draw B  
  have C__law_draw : Cl P w K mg base 1 "_law_draw" 2 [] (sp__law_draw K) := ⟨_, _, _, [], G__law_draw, rfl, m__law_draw, F__law_draw.kp, FunD.bindsN (ps := ["pot", "many"]) F__law_draw (fun _ _ _ _ _ _ us hl => match us, hl with | [_, _], _ => rfl), .nil⟩
  have G__law_divisors := ok__law_divisors (P := P) (w := w) (base := base) F__law_divisors B  
  have C__law_divisors : Cl P w K mg base 1 "_law_divisors" 1 [] (sp__law_divisors K) := ⟨_, _, _, [], G__law_divisors, rfl, m__law_divisors, F__law_divisors.kp, FunD.bindsN (ps := ["number"]) F__law_divisors (fun _ _ _ _ _ _ us hl => match us, hl with | [_], _ => rfl), .nil⟩
  have G__law_pick := ok__law_pick (P := P) (w := w) (base := base) F__law_pick B C__law_draw 
  have C__law_pick : Cl P w K mg base 2 "_law_pick" 2 [] (sp__law_pick K) := ⟨_, _, _, [], G__law_pick, rfl, m__law_pick, F__law_pick.kp, FunD.bindsN (ps := ["pot", "some"]) F__law_pick (fun _ _ _ _ _ _ us hl => match us, hl with | [_, _], _ => rfl), .nil⟩
  have G__law_lot := ok__law_lot (P := P) (w := w) (base := base) F__law_lot B C__law_draw C__law_divisors C__law_pick 
  have C__law_lot : Cl P w K mg base 3 "_law_lot" 2 [] (sp__law_lot K) := ⟨_, _, _, [], G__law_lot, rfl, m__law_lot, F__law_lot.kp, FunD.bindsN (ps := ["pot", "most"]) F__law_lot (fun _ _ _ _ _ _ us hl => match us, hl with | [_, _], _ => rfl), .nil⟩
  have G_is_list := ok_is_list (P := P) (w := w) (base := base) F_is_list B  
  have C_is_list : Cl P w K mg base 1 "is_list" 1 [] (sp_is_list K) := ⟨_, _, _, [], G_is_list, rfl, m_is_list, F_is_list.kp, FunD.bindsN (ps := ["value"]) F_is_list (fun _ _ _ _ _ _ us hl => match us, hl with | [_], _ => rfl), .nil⟩
  have G_is_integer := ok_is_integer (P := P) (w := w) (base := base) F_is_integer B  
  have C_is_integer : Cl P w K mg base 1 "is_integer" 1 [] (sp_is_integer K) := ⟨_, _, _, [], G_is_integer, rfl, m_is_integer, F_is_integer.kp, FunD.bindsN (ps := ["value"]) F_is_integer (fun _ _ _ _ _ _ us hl => match us, hl with | [_], _ => rfl), .nil⟩
  have G_is_number_of := ok_is_number_of (P := P) (w := w) (base := base) F_is_number_of B C_is_integer 
  have C_is_number_of : Cl P w K mg base 2 "is_number_of" 2 [] (sp_is_number_of K) := ⟨_, _, _, [], G_is_number_of, rfl, m_is_number_of, F_is_number_of.kp, FunD.bindsN (ps := ["value", "most"]) F_is_number_of (fun _ _ _ _ _ _ us hl => match us, hl with | [_, _], _ => rfl), .nil⟩
  have G_is_lot_value := ok_is_lot_value (P := P) (w := w) (base := base) F_is_lot_value B C_is_list C_is_number_of c_MOST_LOT c_GREATEST_IN 
  have C_is_lot_value : Cl P w K mg base 3 "is_lot_value" 1 [] (sp_is_lot_value K) := ⟨_, _, _, [], G_is_lot_value, rfl, m_is_lot_value, F_is_lot_value.kp, FunD.bindsN (ps := ["value"]) F_is_lot_value (fun _ _ _ _ _ _ us hl => match us, hl with | [_], _ => rfl), .nil⟩
  have G_want_lot := ok_want_lot (P := P) (w := w) (base := base) F_want_lot B C_is_lot_value 
  have C_want_lot : Cl P w K mg base 4 "want_lot" 1 [] (sp_want_lot K) := ⟨_, _, _, [], G_want_lot, rfl, m_want_lot, F_want_lot.kp, FunD.bindsN (ps := ["value"]) F_want_lot (fun _ _ _ _ _ _ us hl => match us, hl with | [_], _ => rfl), .nil⟩
  have G_share_of := ok_share_of (P := P) (w := w) (base := base) F_share_of B  
  have C_share_of : Cl P w K mg base 1 "share_of" 2 [] (sp_share_of K) := ⟨_, _, _, [], G_share_of, rfl, m_share_of, F_share_of.kp, FunD.bindsN (ps := ["near", "far"]) F_share_of (fun _ _ _ _ _ _ us hl => match us, hl with | [_, _], _ => rfl), .nil⟩
  have G_shares_of := ok_shares_of (P := P) (w := w) (base := base) F_shares_of B C_share_of 
  have C_shares_of : Cl P w K mg base 2 "shares_of" 1 [] (sp_shares_of K) := ⟨_, _, _, [], G_shares_of, rfl, m_shares_of, F_shares_of.kp, FunD.bindsN (ps := ["numbers"]) F_shares_of (fun _ _ _ _ _ _ us hl => match us, hl with | [_], _ => rfl), .nil⟩
  have G_share_table := ok_share_table (P := P) (w := w) (base := base) F_share_table B C_want_lot C_shares_of 
  have C_share_table : Cl P w K mg base 5 "share_table" 1 [] (sp_share_table K) := ⟨_, _, _, [], G_share_table, rfl, m_share_table, F_share_table.kp, FunD.bindsN (ps := ["numbers"]) F_share_table (fun _ _ _ _ _ _ us hl => match us, hl with | [_], _ => rfl), .nil⟩
  have G_divisors_by := ok_divisors_by (P := P) (w := w) (base := base) F_divisors_by B  
  have C_divisors_by : Cl P w K mg base 1 "divisors_by" 1 [] (sp_divisors_by K) := ⟨_, _, _, [], G_divisors_by, rfl, m_divisors_by, F_divisors_by.kp, FunD.bindsN (ps := ["powers"]) F_divisors_by (fun _ _ _ _ _ _ us hl => match us, hl with | [_], _ => rfl), .nil⟩
  have G_powers_of := ok_powers_of (P := P) (w := w) (base := base) F_powers_of B  
  have C_powers_of : Cl P w K mg base 1 "powers_of" 1 [] (sp_powers_of K) := ⟨_, _, _, [], G_powers_of, rfl, m_powers_of, F_powers_of.kp, FunD.bindsN (ps := ["number"]) F_powers_of (fun _ _ _ _ _ _ us hl => match us, hl with | [_], _ => rfl), .nil⟩
  have G_divisors_of := ok_divisors_of (P := P) (w := w) (base := base) F_divisors_of B C_divisors_by C_powers_of 
  have C_divisors_of : Cl P w K mg base 2 "divisors_of" 1 [] (sp_divisors_of K) := ⟨_, _, _, [], G_divisors_of, rfl, m_divisors_of, F_divisors_of.kp, FunD.bindsN (ps := ["number"]) F_divisors_of (fun _ _ _ _ _ _ us hl => match us, hl with | [_], _ => rfl), .nil⟩
  have G_closure_of := ok_closure_of (P := P) (w := w) (base := base) F_closure_of B C_divisors_of 
  have C_closure_of : Cl P w K mg base 3 "closure_of" 1 [] (sp_closure_of K) := ⟨_, _, _, [], G_closure_of, rfl, m_closure_of, F_closure_of.kp, FunD.bindsN (ps := ["numbers"]) F_closure_of (fun _ _ _ _ _ _ us hl => match us, hl with | [_], _ => rfl), .nil⟩
  have G_want_at_most := ok_want_at_most (P := P) (w := w) (base := base) F_want_at_most B  
  have C_want_at_most : Cl P w K mg base 1 "want_at_most" 3 [] (sp_want_at_most K) := ⟨_, _, _, [], G_want_at_most, rfl, m_want_at_most, F_want_at_most.kp, FunD.bindsN (ps := ["what", "limit", "number"]) F_want_at_most (fun _ _ _ _ _ _ us hl => match us, hl with | [_, _, _], _ => rfl), .nil⟩
  have G_closed_lot := ok_closed_lot (P := P) (w := w) (base := base) F_closed_lot B C_want_lot C_closure_of C_want_at_most c_MOST_LOT 
  have C_closed_lot : Cl P w K mg base 5 "closed_lot" 1 [] (sp_closed_lot K) := ⟨_, _, _, [], G_closed_lot, rfl, m_closed_lot, F_closed_lot.kp, FunD.bindsN (ps := ["numbers"]) F_closed_lot (fun _ _ _ _ _ _ us hl => match us, hl with | [_], _ => rfl), .nil⟩
  have G_divisor_table := ok_divisor_table (P := P) (w := w) (base := base) F_divisor_table B C_want_lot C_is_lot_value 
  have C_divisor_table : Cl P w K mg base 5 "divisor_table" 2 [] (sp_divisor_table K) := ⟨_, _, _, [], G_divisor_table, rfl, m_divisor_table, F_divisor_table.kp, FunD.bindsN (ps := ["numbers", "others"]) F_divisor_table (fun _ _ _ _ _ _ us hl => match us, hl with | [_, _], _ => rfl), .nil⟩
  have G_multiples_of := ok_multiples_of (P := P) (w := w) (base := base) F_multiples_of B C_share_of 
  have C_multiples_of : Cl P w K mg base 2 "multiples_of" 1 [] (sp_multiples_of K) := ⟨_, _, _, [], G_multiples_of, rfl, m_multiples_of, F_multiples_of.kp, FunD.bindsN (ps := ["numbers"]) F_multiples_of (fun _ _ _ _ _ _ us hl => match us, hl with | [_], _ => rfl), .nil⟩
  have G_multiple_table := ok_multiple_table (P := P) (w := w) (base := base) F_multiple_table B C_want_lot C_multiples_of 
  have C_multiple_table : Cl P w K mg base 5 "multiple_table" 1 [] (sp_multiple_table K) := ⟨_, _, _, [], G_multiple_table, rfl, m_multiple_table, F_multiple_table.kp, FunD.bindsN (ps := ["numbers"]) F_multiple_table (fun _ _ _ _ _ _ us hl => match us, hl with | [_], _ => rfl), .nil⟩
  have G_free_count := ok_free_count (P := P) (w := w) (base := base) F_free_count B C_powers_of 
  have C_free_count : Cl P w K mg base 2 "free_count" 1 [] (sp_free_count K) := ⟨_, _, _, [], G_free_count, rfl, m_free_count, F_free_count.kp, FunD.bindsN (ps := ["number"]) F_free_count (fun _ _ _ _ _ _ us hl => match us, hl with | [_], _ => rfl), .nil⟩
  have G_middle_of := ok_middle_of (P := P) (w := w) (base := base) F_middle_of B C_want_lot C_free_count C_divisors_of 
  have C_middle_of : Cl P w K mg base 5 "middle_of" 1 [] (sp_middle_of K) := ⟨_, _, _, [], G_middle_of, rfl, m_middle_of, F_middle_of.kp, FunD.bindsN (ps := ["numbers"]) F_middle_of (fun _ _ _ _ _ _ us hl => match us, hl with | [_], _ => rfl), .nil⟩
  have G_is_table_value := ok_is_table_value (P := P) (w := w) (base := base) F_is_table_value B C_is_list C_is_integer c_MOST_LOT c_LONGEST 
  have C_is_table_value : Cl P w K mg base 2 "is_table_value" 1 [] (sp_is_table_value K) := ⟨_, _, _, [], G_is_table_value, rfl, m_is_table_value, F_is_table_value.kp, FunD.bindsN (ps := ["value"]) F_is_table_value (fun _ _ _ _ _ _ us hl => match us, hl with | [_], _ => rfl), .nil⟩
  have G_want_table := ok_want_table (P := P) (w := w) (base := base) F_want_table B C_is_table_value 
  have C_want_table : Cl P w K mg base 3 "want_table" 1 [] (sp_want_table K) := ⟨_, _, _, [], G_want_table, rfl, m_want_table, F_want_table.kp, FunD.bindsN (ps := ["value"]) F_want_table (fun _ _ _ _ _ _ us hl => match us, hl with | [_], _ => rfl), .nil⟩
  have G_times_of := ok_times_of (P := P) (w := w) (base := base) F_times_of B  
  have C_times_of : Cl P w K mg base 1 "times_of" 2 [] (sp_times_of K) := ⟨_, _, _, [], G_times_of, rfl, m_times_of, F_times_of.kp, FunD.bindsN (ps := ["table", "other"]) F_times_of (fun _ _ _ _ _ _ us hl => match us, hl with | [_, _], _ => rfl), .nil⟩
  have G_table_times := ok_table_times (P := P) (w := w) (base := base) F_table_times B C_want_table C_times_of C_is_table_value 
  have C_table_times : Cl P w K mg base 4 "table_times" 2 [] (sp_table_times K) := ⟨_, _, _, [], G_table_times, rfl, m_table_times, F_table_times.kp, FunD.bindsN (ps := ["table", "other"]) F_table_times (fun _ _ _ _ _ _ us hl => match us, hl with | [_, _], _ => rfl), .nil⟩
  have G_worth_of := ok_worth_of (P := P) (w := w) (base := base) F_worth_of B  
  have C_worth_of : Cl P w K mg base 1 "worth_of" 1 [] (sp_worth_of K) := ⟨_, _, _, [], G_worth_of, rfl, m_worth_of, F_worth_of.kp, FunD.bindsN (ps := ["table"]) F_worth_of (fun _ _ _ _ _ _ us hl => match us, hl with | [_], _ => rfl), .nil⟩
  have G_table_worth := ok_table_worth (P := P) (w := w) (base := base) F_table_worth B C_want_table C_worth_of 
  have C_table_worth : Cl P w K mg base 4 "table_worth" 1 [] (sp_table_worth K) := ⟨_, _, _, [], G_table_worth, rfl, m_table_worth, F_table_worth.kp, FunD.bindsN (ps := ["table"]) F_table_worth (fun _ _ _ _ _ _ us hl => match us, hl with | [_], _ => rfl), .nil⟩
  have G_share_worth := ok_share_worth (P := P) (w := w) (base := base) F_share_worth B C_want_lot C_worth_of C_shares_of 
  have C_share_worth : Cl P w K mg base 5 "share_worth" 1 [] (sp_share_worth K) := ⟨_, _, _, [], G_share_worth, rfl, m_share_worth, F_share_worth.kp, FunD.bindsN (ps := ["numbers"]) F_share_worth (fun _ _ _ _ _ _ us hl => match us, hl with | [_], _ => rfl), .nil⟩
  have G_lacking_of := ok_lacking_of (P := P) (w := w) (base := base) F_lacking_of B C_divisors_of 
  have C_lacking_of : Cl P w K mg base 3 "lacking_of" 1 [] (sp_lacking_of K) := ⟨_, _, _, [], G_lacking_of, rfl, m_lacking_of, F_lacking_of.kp, FunD.bindsN (ps := ["numbers"]) F_lacking_of (fun _ _ _ _ _ _ us hl => match us, hl with | [_], _ => rfl), .nil⟩
  have G_is_closed_of := ok_is_closed_of (P := P) (w := w) (base := base) F_is_closed_of B C_lacking_of 
  have C_is_closed_of : Cl P w K mg base 4 "is_closed_of" 1 [] (sp_is_closed_of K) := ⟨_, _, _, [], G_is_closed_of, rfl, m_is_closed_of, F_is_closed_of.kp, FunD.bindsN (ps := ["numbers"]) F_is_closed_of (fun _ _ _ _ _ _ us hl => match us, hl with | [_], _ => rfl), .nil⟩
  have G_is_closed := ok_is_closed (P := P) (w := w) (base := base) F_is_closed B C_want_lot C_is_closed_of 
  have C_is_closed : Cl P w K mg base 5 "is_closed" 1 [] (sp_is_closed K) := ⟨_, _, _, [], G_is_closed, rfl, m_is_closed, F_is_closed.kp, FunD.bindsN (ps := ["numbers"]) F_is_closed (fun _ _ _ _ _ _ us hl => match us, hl with | [_], _ => rfl), .nil⟩
  have G_turned_of := ok_turned_of (P := P) (w := w) (base := base) F_turned_of B  
  have C_turned_of : Cl P w K mg base 1 "turned_of" 1 [] (sp_turned_of K) := ⟨_, _, _, [], G_turned_of, rfl, m_turned_of, F_turned_of.kp, FunD.bindsN (ps := ["table"]) F_turned_of (fun _ _ _ _ _ _ us hl => match us, hl with | [_], _ => rfl), .nil⟩
  have G_turned_table := ok_turned_table (P := P) (w := w) (base := base) F_turned_table B C_want_table C_turned_of 
  have C_turned_table : Cl P w K mg base 4 "turned_table" 1 [] (sp_turned_table K) := ⟨_, _, _, [], G_turned_table, rfl, m_turned_table, F_turned_table.kp, FunD.bindsN (ps := ["table"]) F_turned_table (fun _ _ _ _ _ _ us hl => match us, hl with | [_], _ => rfl), .nil⟩
  have G_share_free := ok_share_free (P := P) (w := w) (base := base) F_share_free B C_free_count C_is_number_of c_GREATEST_IN 
  have C_share_free : Cl P w K mg base 3 "share_free" 1 [] (sp_share_free K) := ⟨_, _, _, [], G_share_free, rfl, m_share_free, F_share_free.kp, FunD.bindsN (ps := ["number"]) F_share_free (fun _ _ _ _ _ _ us hl => match us, hl with | [_], _ => rfl), .nil⟩
  have G__law_share := ok__law_share (P := P) (w := w) (base := base) F__law_share B  
  have C__law_share : Cl P w K mg base 1 "_law_share" 2 [] (sp__law_share K) := ⟨_, _, _, [], G__law_share, rfl, m__law_share, F__law_share.kp, FunD.bindsN (ps := ["near", "far"]) F__law_share (fun _ _ _ _ _ _ us hl => match us, hl with | [_, _], _ => rfl), .nil⟩
  have G__law_right := ok__law_right (P := P) (w := w) (base := base) F__law_right B C__law_lot C__law_pick C_share_table C_closed_lot C_divisor_table C__law_draw C_multiple_table C_middle_of C_table_times C_table_worth C_share_worth C_is_closed C_turned_table C_share_free C__law_divisors C__law_share 
  have C__law_right : Cl P w K mg base 6 "_law_right" 1 [] (sp__law_right K) := ⟨_, _, _, [], G__law_right, rfl, m__law_right, F__law_right.kp, FunD.bindsN (ps := ["pot"]) F__law_right (fun _ _ _ _ _ _ us hl => match us, hl with | [_], _ => rfl), .nil⟩
  have G__law_pot := ok__law_pot (P := P) (w := w) (base := base) F__law_pot B  
  have C__law_pot : Cl P w K mg base 1 "_law_pot" 2 [] (sp__law_pot K) := ⟨_, _, _, [], G__law_pot, rfl, m__law_pot, F__law_pot.kp, FunD.bindsN (ps := ["script", "k"]) F__law_pot (fun _ _ _ _ _ _ us hl => match us, hl with | [_, _], _ => rfl), .nil⟩
  have G_law := ok_law (P := P) (w := w) (base := base) F_law B C__law_right C__law_pot 
  exact G_law
end M
open PySem PySem.W PySem.Calls PyProof.Rows
set_option maxRecDepth 100000 in
set_option maxHeartbeats 0 in
theorem PySem.Challenge.cw_divisorsums_k84_whole_tables_as_products_holds : PySem.Challenge.rw_divisorsums_k84_whole_tables_as_products.Holds := by
  w_on; o_law
  refine HandSHeadRun.head_any (r := OpenLaw.row PySem.Challenge.rw_divisorsums_k84_whole_tables_as_products) (q := view (OpenLaw.row PySem.Challenge.rw_divisorsums_k84_whole_tables_as_products).prog [62]) (H := M.hk) (ob := M.ob) (M := 4000) (loose := M.loose) (d := HandSHeadRun.topDef (OpenLaw.row PySem.Challenge.rw_divisorsums_k84_whole_tables_as_products).prog 62) (kwd := []) M.ob_eq
    (by kernel_rfl) (fun s => by kernel_rfl) M.run (by kernel_rfl) (by kernel_rfl) (by kernel_rfl) (by rfl) (by first | assumption | decide +kernel) (by decide +kernel) ⟨rfl, rfl, rfl, rfl, rfl, by decide +kernel⟩ ?hw ?hc
  case hw => w_witness2
  case hc =>
    refine G.walk_G (l := PySem.Challenge.rw_divisorsums_k84_whole_tables_as_products) (n := 63) (k := 7) (x := "script") rfl (by decide) (by kernel_rfl) ⟨rfl, by decide, by decide⟩ ?F
    intro w mg fa h Y G0 hmg0
    obtain ⟨K, KX, c, cx⟩ := Y
    have hmg : mg ("law" : PySem.Str) = some (.ref fa) := by
      have e : (HandSHeadRun.topDef (OpenLaw.row PySem.Challenge.rw_divisorsums_k84_whole_tables_as_products).prog 62).name = ("law" : PySem.Str) := by kernel_rfl
      rw [← e]
      exact hmg0
    obtain ⟨fd, hb, hF⟩ := M.facts (P := (PySem.Challenge.rw_divisorsums_k84_whole_tables_as_products).prog) (w := w) KX G0 hmg c cx
    exact ⟨K, fd, M.sp_law K, KX, hb, fun H a ns hl hS => M.law_ends H a ns hl hS, hF⟩
