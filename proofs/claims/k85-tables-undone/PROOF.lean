import PyProof.Rows.All
import Wide.All
import OpenK.AllK
import Wide.FinOn
import Lean
import PyProof.ReprRoads
import HandS.Walk
import HandS.Conv
import HandS.ForMost
import HandS.Defaults
import HandS.WideBits
import HandS.Style
import HandS.IsInst
import HandS.TupAny
import HandS.SortInts
import HandS.Head0
import HandS.Head1
import HandS.Head2
import HandS.HeadEnd
import HandS.HeadHook1
import HandS.HeadHook2
import HandS.SetFor
import HandS.Strs
import KE.KDictCopyH
import KE.KDictDisplayH
import KE.KDictOf
import HandS.TupLen
import HandS.Small
import HandS.Lambda
import HandS.EndTab
import HandS.ExcOwn
import HandS.ExcIs
import HandS.HeadHook4
import HandS.Zip
import PySem.Challenge.RW_divisorsums_k85_whole_tables_undone
set_option Elab.async false
set_option linter.all false
set_option maxRecDepth 100000
set_option maxHeartbeats 16000000
/-! A layer of my own over HandS: defs called where no repr is under way, repr of data, keyword calls. -/
namespace G
open PySem PySem.Spec PyProof.Rows L2

/-! ### defs that may use repr -/
/-- what a def promises where no guarded code runs around it -/
structure FnG (γ : Prop) (P : Program) (w : World) (K : PySem.W.Frag) (mg : Str → Option Value) (base : Heap) (CX : CXT) (k : Nat) (f : Addr) (fd : FuncData) (ps : List Str) (sp : Sp) : Prop where
  arity : ∀ vs H Q E, sp vs H Q E → vs.length = ps.length
  go : ∀ {A : Around} {outer : List Env} {s : Shared} {H : Hp} {args : Args} {us : List Value} {vs : List V} {Q : VK} {E : XK},
    (γ → A.guards = some []) → Room k A → Env0 P w K mg base A outer s H → BindsTo s fd args (ps.zip us) → Vals vs us → sp vs H Q E →
      codeAny (model P w) A (.call (.ref f) args) (CR CX outer P w H s Q E) s

section
variable {γ : Prop} {P : Program} {w : World} {K : PySem.W.Frag} {mg : Str → Option Value} {base : Heap} {CX : CXT} {k : Nat} {f : Addr} {fd : FuncData} {ps : List Str} {sp : Sp}
theorem FnG.up {j : Nat} (F : FnG γ P w K mg base CX k f fd ps sp) (h : k ≤ j) : FnG γ P w K mg base CX j f fd ps sp :=
  ⟨F.arity, fun g r => F.go g (r.mono h)⟩
theorem FnG.weak {sp' : Sp} (F : FnG γ P w K mg base CX k f fd ps sp) (h : ∀ vs H Q E, sp' vs H Q E → sp vs H Q E) : FnG γ P w K mg base CX k f fd ps sp' :=
  ⟨fun vs H Q E q => F.arity vs H Q E (h _ _ _ _ q), fun g r e b v q => F.go g r e b v (h _ _ _ _ q)⟩
/-- how a body's end is a call's end -/
theorem ends_of {N : List Str} {qual : Str} {scope : Scope} {cdv : Value} {A : Around} {outer : List Env} {s s' : Shared} {H : Hp} {Q : VK} {E : XK} {fl : Flow}
    (hs : SP (cxOf CX P w K mg base N qual scope f cdv A outer s H E) [] { nx := fun _ H' => Q .non H', rt := Q } fl s') :
    ∃ u, (fl = .ret u ∨ (fl = .next ∧ u = Value.none)) ∧ CE outer P w H s Q u s' := by
  match fl, hs with
  | .ret u, ⟨v, _, H', J, rv, q⟩ => exact ⟨u, .inl rfl, v, H', J.os, J.bare, J.base, J.hok, rv, q⟩
  | .next, ⟨_, H', J, q⟩ => exact ⟨.none, .inr ⟨rfl, rfl⟩, .non, H', J.os, J.bare, J.base, J.hok, rfl, q⟩
  | .brk, ⟨_, _, _, q⟩ => exact False.elim q
  | .cont, ⟨_, _, _, q⟩ => exact False.elim q
/-- a def by its body, told that no guarded code runs around it -/
theorem okG0 {x qual : Str} {params : Arguments} {body : List Stmt} {scope : Scope} {dvs : List V} {kws : List (Str × V)} {N : List Str}
    (F : FunD K x qual params body scope dvs kws f fd) (S : FnScope N ps scope) (hl : ∀ vs H Q E, sp vs H Q E → vs.length = ps.length)
    (hb : ∀ (cdv : Value) (A : Around) (outer : List Env) (s : Shared) (H : Hp) (vs : List V) (Q : VK) (E : XK),
      fd.code = cdv → (γ → A.guards = some []) → Room k (A.deeper (envOfC qual scope s.heap.objs.size f cdv)) → sp vs H Q E →
      ∃ t, PSs (cxOf CX P w K mg base N qual scope f cdv A outer s H E) body t ∧ t { nx := fun _ H' => Q .non H', rt := Q } (start N vs) H) :
    FnG γ P w K mg base CX (k + 1) f fd ps sp := by
  obtain ⟨oc, od, dV, kV, doc, pm, an, cdv, ct, osl, rfl, lk, hcd, _, _⟩ := F.ex
  constructor
  · exact hl
  intro A outer s H args us vs Q E g r e0 bd rv q
  have inK : K.In s.heap := PySem.W.Frag.In.keeps e0.mod.kin fun b o z => (e0.bs b o z).1
  have nl : s.heap.NoLimit := e0.mod.nolimit.keeps fun b o z => (e0.bs b o z).1
  have cellOf : ∀ n : Str, scope.names.lookup n = some .cell → ((cellsFrom (s.heap.objs.size + 1) scope.names []).lookup n).isSome = true :=
    fun n z => PySem.W.cellsFrom_some _ _ _ (.inl z)
  refine codeAny_call_function r.depth (inK _ _ lk) rfl S.co S.gen rfl (PySem.W.codeRec_of inK hcd) (bd _ _ _ _ ?_)
  refine wpAny_newFunctionEnv_cells S.kind (fun y hy => (S.par y.1 (List.of_mem_zip (a := y.1) (b := y.2) hy).1).imp (fun z => z) fun z => ⟨z, cellOf _ z⟩) ?_
  intro env he s1 x
  subst he
  obtain ⟨t, ht, hq⟩ := hb cdv A outer s H vs Q E rfl g (r.deeper _) q
  have J := inv_start (CX := CX) (E := E) S r.hd e0 (hl _ _ _ _ q) rv x
  refine ⟨nl.keeps x.toInCall.keep, codeAny_func (wpAny_mono (ht.run [] s1 (start N vs) H _ J hq) ?_ fun _ _ z => z)⟩
  intro fl s' hs
  obtain ⟨u, z | ⟨z, z'⟩, c⟩ := ends_of hs
  · subst z; exact c
  · subst z; subst z'; exact c
theorem okG {x qual : Str} {params : Arguments} {body : List Stmt} {scope : Scope} {dvs : List V} {kws : List (Str × V)} {N : List Str}
    (F : FunD K x qual params body scope dvs kws f fd) (S : FnScope N ps scope) (hl : ∀ vs H Q E, sp vs H Q E → vs.length = ps.length)
    (hb : ∀ (cdv : Value) (A : Around) (outer : List Env) (s : Shared) (H : Hp) (vs : List V) (Q : VK) (E : XK),
      (γ → A.guards = some []) → Room k (A.deeper (envOfC qual scope s.heap.objs.size f cdv)) → sp vs H Q E →
      ∃ t, PSs (cxOf CX P w K mg base N qual scope f cdv A outer s H E) body t ∧ t { nx := fun _ H' => Q .non H', rt := Q } (start N vs) H) :
    FnG γ P w K mg base CX (k + 1) f fd ps sp := okG0 F S hl fun cdv A outer s H vs Q E _ => hb cdv A outer s H vs Q E
/-- .. its code object known -/
theorem okGT {x qual : Str} {params : Arguments} {body : List Stmt} {scope : Scope} {dvs : List V} {kws : List (Str × V)} {N : List Str} {c : Addr}
    (F : FunD K x qual params body scope dvs kws f fd) (S : FnScope N ps scope) (hc : fd.code = .ref c) (hl : ∀ vs H Q E, sp vs H Q E → vs.length = ps.length)
    (hb : ∀ (A : Around) (outer : List Env) (s : Shared) (H : Hp) (vs : List V) (Q : VK) (E : XK),
      (γ → A.guards = some []) → Room k (A.deeper (envOfC qual scope s.heap.objs.size f (.ref c))) → sp vs H Q E →
      ∃ t, PSs (cxOf CX P w K mg base N qual scope f (.ref c) A outer s H E) body t ∧ t { nx := fun _ H' => Q .non H', rt := Q } (start N vs) H) :
    FnG γ P w K mg base CX (k + 1) f fd ps sp := okG0 F S hl fun cdv A outer s H vs Q E e => by
  obtain rfl : Value.ref c = cdv := hc.symm.trans e
  exact hb A outer s H vs Q E
end

/-- a def of the module that may be called by its name: ds are the values that its defaults fill in behind the written ones -/
structure Cl (γ : Prop) (P : Program) (w : World) (K : PySem.W.Frag) (mg : Str → Option Value) (base : Heap) (k : Nat) (x : Str) (n : Nat) (ds : List V) (sp : Sp) : Prop where
  ex : ∃ (f : Addr) (fd : FuncData) (ps : List Str) (us : List Value), FnG γ P w K mg base CX0 k f fd ps sp ∧ ps.length = n + ds.length ∧ mg x = some (.ref f) ∧ PySem.W.keepIn K (.ref f) = true ∧ Binds K fd ps us ∧ Vals ds us
/-- .. with keywords ks alone: gV puts the keywords' values in the parameters' order -/
structure Clk (γ : Prop) (P : Program) (w : World) (K : PySem.W.Frag) (mg : Str → Option Value) (base : Heap) (k : Nat) (x : Str) (ks : List Str) (gV : List V → List V) (sp : Sp) : Prop where
  ex : ∃ (f : Addr) (fd : FuncData) (ps : List Str) (g : List Value → List Value), FnG γ P w K mg base CX0 k f fd ps sp ∧ mg x = some (.ref f) ∧ PySem.W.keepIn K (.ref f) = true ∧
    (∀ (s : Shared) (ws : List Value), K.In s.heap → ws.length = ks.length → BindsTo s fd ⟨[], ks.zip ws⟩ (ps.zip (g ws))) ∧ ∀ {zs : List V} {ws : List Value}, Vals zs ws → Vals (gV zs) (g ws)

theorem kw_len1 {ta : TE} {a : Str} (σ : L2.St) (H : Hp) (Q : List V → Hp → Prop) (h : tCons ta tNil σ H Q) : tCons ta tNil σ H fun zs H1 => zs.length = [a].length ∧ Q zs H1 := by
  have e : (fun (v : V) (H1 : Hp) => ([v] : List V).length = [a].length ∧ Q [v] H1) = fun v H1 => Q [v] H1 := by
    funext v H1
    simp
  show ta σ H fun (v : V) (H1 : Hp) => ([v] : List V).length = [a].length ∧ Q [v] H1
  rw [e]
  exact h
theorem kw_len2 {ta tb : TE} {a b : Str} (σ : L2.St) (H : Hp) (Q : List V → Hp → Prop) (h : tCons ta (tCons tb tNil) σ H Q) : tCons ta (tCons tb tNil) σ H fun zs H1 => zs.length = [a, b].length ∧ Q zs H1 := by
  have e : (fun (v : V) (H1 : Hp) => tb σ H1 fun (u : V) (H2 : Hp) => ([v, u] : List V).length = [a, b].length ∧ Q [v, u] H2) = fun v H1 => tb σ H1 fun u H2 => Q [v, u] H2 := by
    funext v H1
    have e2 : (fun (u : V) (H2 : Hp) => ([v, u] : List V).length = [a, b].length ∧ Q [v, u] H2) = fun u H2 => Q [v, u] H2 := by
      funext u H2
      simp
    rw [e2]
  show ta σ H fun (v : V) (H1 : Hp) => tb σ H1 fun (u : V) (H2 : Hp) => ([v, u] : List V).length = [a, b].length ∧ Q [v, u] H2
  rw [e]
  exact h

section
variable {γ : Prop} {X : Cx} {CX : CXT} {k j n : Nat} {f : Addr} {fd : FuncData} {ps ks : List Str} {sp : Sp} {dvs : List V} {ds : List Value} {E : XK} {x : Str} {p pos : Pos} {e : Expr} {es : List Expr} {t tk : TA} {kws : List Keyword} {gV : List V → List V}
/-- behind a callee -/
theorem after {pins : List (Addr × Obj)} {σ : L2.St} {H : Hp} {s s' : Shared} {Q : VK} {r : Result} (I : Inv X pins σ H s) (h : CR CX0 X.stack X.prog X.w H s Q E r s') : ∃ u, r = .ok (.ret u) ∧ EP X pins σ Q u s' := by
  match r, h with
  | .ok (.ret u), q => exact ⟨u, rfl, I.after q⟩
  | .ok .next, q => exact False.elim q
  | .ok .brk, q => exact False.elim q
  | .ok .cont, q => exact False.elim q
  | .error _, q => exact False.elim q
def tCl (sp : Sp) (dvs : List V) (n : Nat) (t : TA) : TE := fun σ H Q => t σ H fun vs H1 => sp (vs ++ dvs) H1 Q E0
/-- f(e, ..) -/
theorem pe_cl (C : Cl γ X.prog X.w X.K X.mg X.base k x n dvs sp) (g : γ → X.A.guards = some []) (hr : Room j X.A) (hkj : k ≤ j) (hg : Gl X x) (ha : PA X (e :: es) t)
    (hdb : (x == ("__debug__" : Str)) = false := by decide) (he : starEach (e :: es) X.env = (false, eval e X.env) :: starEach es X.env := by rfl) (hpl : (backTo pos (starEach es X.env)).any (·.1) = false := by rfl) :
    PE X (.Call (.Name x p) (e :: es) [] pos) (tCl sp dvs n t) := by
  obtain ⟨f, fd, ps, us0, F, _, hm, hk, hb, hd⟩ := C.ex
  constructor
  intro pins s σ H Q I h
  refine wpAny_Call_Name_kw (ld_glob I hg hm ?_ hdb)
  refine PySem.W.callWith_K (h₀ := X.base) I.ok.mod.kin hk ?_ he hpl
  refine thn (ha.run pos pins s σ H _ I h) ?_
  rintro us s1 ⟨vs, H1, I1, r, q⟩
  have r2 : Vals (vs ++ dvs) (us ++ us0) := r.append hd
  have hl : (us ++ us0).length = ps.length := r2.length.symm.trans (F.arity _ _ _ _ q)
  refine ⟨I1.kIn, wpAny_call (codeAny_mono (F.go g (hr.mono hkj) I1.env0 (hb s1 us I1.kIn hl) r2 q) ?_)⟩
  intro r s' z
  obtain ⟨u, z1, z2⟩ := after I1 z
  subst z1
  exact z2
/-- f(k = e, ..) -/
theorem pe_clk (C : Clk γ X.prog X.w X.K X.mg X.base k x ks gV sp) (g : γ → X.A.guards = some []) (hr : Room j X.A) (hkj : k ≤ j) (hg : Gl X x) (hkw : PK X kws tk)
    (hn : ∀ σ H Q, tk σ H Q → tk σ H fun zs H1 => zs.length = ks.length ∧ Q zs H1)
    (hall : (backToKw pos (keywordEach kws X.env)).all (·.1.isSome) = true := by rfl) (hks : (backToKw pos (keywordEach kws X.env)).filterMap (·.1) = ks := by rfl) (hdb : (x == ("__debug__" : Str)) = false := by decide)
    (hpl : ((backTo pos (starEach [] X.env)).any (·.1) || (backToKw pos (keywordEach kws X.env)).any (·.1.isNone)) = false := by rfl) :
    PE X (.Call (.Name x p) [] kws pos) (tCl (fun vs => sp (gV vs)) [] 0 tk) := by
  obtain ⟨f, fd, ps, gf, F, hm, hk, hb, rel⟩ := C.ex
  constructor
  intro pins s σ H Q I h
  have h' := hn σ H _ h
  refine wpAny_Call_Name_kw (ld_glob I hg hm ?_ hdb)
  refine PySem.W.callWith_KW0 (h₀ := X.base) I.ok.mod.kin hk hall ?_ hpl
  refine thn (hkw.run pos pins s σ H _ I h') ?_
  rintro ws s1 ⟨zs, H1, I1, rz, hzl, q⟩
  rw [List.append_nil] at q
  refine ⟨I1.kIn, ?_⟩
  rw [hks]
  refine wpAny_call (codeAny_mono (F.go (us := gf ws) g (hr.mono hkj) I1.env0 (hb s1 ws I1.kIn (rz.length.symm.trans hzl)) (rel rz) q) ?_)
  intro r s' z
  obtain ⟨u, z1, z2⟩ := after I1 z
  subst z1
  exact z2
end

/-! ### repr of data -/
section
variable {X : Cx}
/-- repr(x), x data without dicts whose text is not too long -/
def rRepr (K : PySem.W.Frag) : List V → Hp → VK → Prop := fun xs H Q => ∃ (a : Addr) (d : PyData), xs = [.ref a] ∧ Dp K H (.ref a) d ∧ d.showable = true ∧ d.hasDict = false ∧ d.depth ≤ 50 ∧ d.shown.length ≤ sizeLine ∧ Q (.str d.shown) H
theorem call_repr_data (g : X.A.guards = some []) (hu : X.A.units + 64 < cLine) : CallR X (.builtin "repr") (rRepr X.K) := by
  rintro pins s σ H xs us Q I r ⟨a, d, rfl, hd, h1, h2, h3, h4, q⟩
  obtain ⟨u, rfl, ru⟩ := vals1 r
  cases (show u = Value.ref a from ru)
  obtain ⟨as, rd⟩ := Dp.reads I d _ _ hd rfl
  refine repr_of_reads' rd h1 (fun z => by rw [h2] at z; cases z) g (by omega) (fun _ _ z => z) (fun h' u tk k => ?_) h4
  exact ⟨.str d.shown, H, I.kept k, ⟨_, rfl⟩, q⟩
end
end G

namespace G
open PySem PySem.Spec PyProof.Rows L2
/-! ### the law's own call -/
section
variable {P : Program} {w : World} {K : PySem.W.Frag} {mg mb : Str → Option Value} {k : Nat} {fa a : Addr} {fd : FuncData} {x : Str} {sp : Sp} {s : Shared} {vs : List Value} {ns : List Int}
abbrev LawEnd (s : Shared) (r : Result) (s' : Shared) : Prop := r = .ok (.ret (.bool true)) ∧ OldK s.heap s'.heap ∧ s'.os = s.os ∧ AllBare s'.gens
/-- where at most the script is tracked -/
theorem enter_at {H : Hp} (KX : K.In s.heap) (n1 : s.heap.Ns mainGlobals mg) (n2 : s.heap.Ns builtinsNs mb) (n3 : ∀ y : Str, y ≠ "__name__" → mb y = bootBuiltins y) (n4 : s.heap.NoLimit) (n5 : s.gens = #[])
    (ha : s.heap.get? a = some { cls := .type "list", data := .seq vs.toArray }) (hr : Room k callerA)
    (F : ∀ base : Heap, K.In base → base.Ns mainGlobals mg → FnG True P w K mg base CX0 k fa fd [x] sp) (hb : ∀ (t : Shared) (u : Value), BindsTo t fd ⟨[u], []⟩ [(x, u)])
    (only : Only H) (alone : ∀ b, H b ≠ none → b = a ∧ K.lookup a = none) (hok : HOk P w H s.heap) (q : sp [.ref a] H (fun v _ => v = .bl true) E0) :
    codeAny (model P w) callerA (.call (.ref fa) ⟨[.ref a], []⟩) (LawEnd s) s := by
  have stays : ∀ {b : Addr} {o : Obj}, s.heap.get? b = some o → H b = none → (hidT s.heap H).get? b = some o := fun z n => hidT_get z n
  have free_of : ∀ {b : Addr}, ¬ (b = a ∧ K.lookup a = none) → H b = none := by
    intro b nb
    refine Classical.byContradiction fun z => nb (alone b z)
  have nsKeep : ∀ {b : Addr} {m : Str → Option Value}, s.heap.Ns b m → (hidT s.heap H).Ns b m := by
    rintro b m ⟨o, es, ep, z, d, rest⟩
    refine ⟨o, es, ep, stays z (free_of ?_), d, rest⟩
    rintro ⟨e, _⟩
    rw [e, ha] at z
    rw [← Option.some.inj z] at d
    cases d
  have inBase : K.In (hidT s.heap H) := by
    intro b o z
    refine stays (KX b o z) (free_of ?_)
    rintro ⟨e, n⟩
    rw [e, n] at z
    cases z
  have md : Mod K mg (hidT s.heap H) := by
    refine ⟨inBase, nsKeep n1, ⟨mb, nsKeep n2, n3⟩, ?_⟩
    obtain ⟨mc, m1, m2⟩ := n4
    exact ⟨mc, nsKeep m1, m2⟩
  have start0 : Env0 P w K mg (hidT s.heap H) callerA [] s H := by
    refine ⟨rfl, md, fun b o z => of_hidT z, Nat.le_of_eq (hidT_size _ _), trivial, ?_, hok, .of_eq n5⟩
    intro b z
    cases z
  have run := (F _ inBase (nsKeep n1)).go (fun _ => rfl) hr start0 (hb s (.ref a)) (show Vals [V.ref a] [Value.ref a] from .cons rfl .nil) q
  refine codeAny_mono run ?_
  intro r t z
  match r, z with
  | .error _, z => exact z.elim
  | .ok .next, z => exact z.elim
  | .ok .brk, z => exact z.elim
  | .ok .cont, z => exact z.elim
  | .ok (.ret u), ⟨v, H', z1, z2, un, hok', rv, e⟩ =>
    have e' : v = .bl true := e
    subst e'
    have eu : u = Value.bool true := rv
    subst eu
    refine ⟨rfl, OldK.of_keep ?_, z1, z2⟩
    intro b o z
    cases hq : H b with
    | none => exact un.keep b o z hq (fun n => nomatch n) (fun n => nomatch n)
    | some u =>
      obtain n | ⟨ob, xs, n⟩ := only b
      · rw [hq] at n
        cases n
      · have n' := un.frzs b ob _ n
        have y1 := (hok b _ n).1
        have y2 := (hok' b _ n').1
        rw [z] at y1
        rw [y2, ← y1]
def Hp.nil : Hp := fun _ => none
def Hp.one (a : Addr) (o : Obj) (xs : List V) : Hp := fun b => if b = a then some (.frz o (.lst xs)) else none
theorem law_callG (KX : K.In s.heap) (n1 : s.heap.Ns mainGlobals mg) (n2 : s.heap.Ns builtinsNs mb) (n3 : ∀ y : Str, y ≠ "__name__" → mb y = bootBuiltins y) (n4 : s.heap.NoLimit) (n5 : s.gens = #[])
    (ha : s.heap.get? a = some { cls := .type "list", data := .seq vs.toArray }) (hi : IntsAre vs ns) (hl : ns.length ≤ sizeLine) (hr : Room k callerA)
    (F : ∀ base : Heap, K.In base → base.Ns mainGlobals mg → FnG True P w K mg base CX0 k fa fd [x] sp) (hb : ∀ (t : Shared) (u : Value), BindsTo t fd ⟨[u], []⟩ [(x, u)])
    (hsp : ∀ H : Hp, SqL K H a (ns.map V.int) → sp [.ref a] H (fun v _ => v = .bl true) E0) :
    codeAny (model P w) callerA (.call (.ref fa) ⟨[.ref a], []⟩) (LawEnd s) s := by
  have rv := vals_ints hi
  have hlen := hi.length
  by_cases own : K.lookup a = none
  · have at_a : Hp.one a { cls := .type "list", data := .seq vs.toArray } (ns.map V.int) a = some (.frz { cls := .type "list", data := .seq vs.toArray } (.lst (ns.map V.int))) := if_pos rfl
    refine enter_at (H := Hp.one a { cls := .type "list", data := .seq vs.toArray } (ns.map V.int)) KX n1 n2 n3 n4 n5 ha hr F hb (fun b => ?_) (fun b z => ⟨?_, own⟩) (fun b u z => ?_) (hsp _ (.inl (.inr ⟨_, at_a⟩)))
    · by_cases e : b = a
      · exact .inr ⟨_, _, by rw [e]; exact at_a⟩
      · exact .inl (if_neg e)
    · exact Classical.byContradiction fun e => z (if_neg e)
    · have e : b = a := Classical.byContradiction fun e => by
        rw [show Hp.one a _ _ b = none from if_neg e] at z
        cases z
      subst e
      rw [at_a] at z
      cases z
      exact ⟨ha, by rw [List.length_map]; exact hl, vs, _, rv, ha⟩
  · obtain ⟨o, e⟩ := Option.ne_none_iff_exists'.mp own
    have e' := KX a o e
    rw [ha] at e'
    have eo := Option.some.inj e'
    subst eo
    refine enter_at (H := Hp.nil) KX n1 n2 n3 n4 n5 ha hr F hb (fun b => .inl rfl) (fun b z => (z rfl).elim) (fun b u z => by cases (show (none : Option HO) = some u from z)) (hsp _ ?_)
    exact .inr ⟨_, vs.toArray, _, e, rfl, rfl, rfl, by rw [List.size_toArray, hlen]; exact hl, by simpa using rv⟩
end
/-- the end of a law's row -/
theorem walk_G {l : PySem.W.OpenLaw} {n k : Nat} {q : Program} {loose : List Str} {XP : (Str → Option Value) → Heap → Prop} {YP : World → Heap → Prop} {d : DefRec} {x : Str}
    (hn : l.most = some n) (hn2 : n ≤ sizeLine) (hdf : d.params.defaults = []) (hr : Room k callerA)
    (F : ∀ (w : World) (mg : Str → Option Value) (fa : Addr) (h : Heap), YP w h → h.Ns mainGlobals mg → mg d.name = some (.ref fa) →
      ∃ (K : PySem.W.Frag) (fd : FuncData) (sp : Sp), K.In h ∧ (∀ (s : Shared) (u : Value), BindsTo s fd ⟨[u], []⟩ [(x, u)]) ∧
        (∀ (H : Hp) (a : Addr) (ns : List Int), ns.length ≤ n → SqL K H a (ns.map V.int) → sp [.ref a] H (fun v _ => v = .bl true) E0) ∧
        ∀ base : Heap, K.In base → base.Ns mainGlobals mg → FnG True l.prog w K mg base CX0 k fa fd [x] sp) :
    PySem.W.WalkO q loose XP YP l.row.toRowW d [] (fun f vs => PySem.call f vs) := by
  refine Att.attach_call hn hdf ?_
  intro w s₀ s₁ mg mb fa o pm cd doc a vs ns G Y ho hd hcd hmg hobj hints hlen hg
  obtain ⟨K, fd, sp, z1, z2, z3, z4⟩ := F w mg fa _ Y G.T.g hmg
  exact law_callG z1 G.T.g G.T.b G.T.builtins G.T.nolimit hg hobj hints (Nat.le_trans hlen hn2) hr z4 z2 fun H hS => z3 H a ns hlen hS

/-! ### promises by the number of arguments -/
def spec1 (R : V → Hp → VK → XK → Prop) : Sp := fun vs H Q E => ∃ a, vs = [a] ∧ R a H Q E
def spec2 (R : V → V → Hp → VK → XK → Prop) : Sp := fun vs H Q E => ∃ a b, vs = [a, b] ∧ R a b H Q E
def spec3 (R : V → V → V → Hp → VK → XK → Prop) : Sp := fun vs H Q E => ∃ a b c, vs = [a, b, c] ∧ R a b c H Q E
theorem ar1 {R : V → Hp → VK → XK → Prop} (vs : List V) (H : Hp) (Q : VK) (E : XK) (h : spec1 R vs H Q E) : vs.length = 1 := by
  obtain ⟨a, rfl, _⟩ := h
  rfl
theorem ar2 {R : V → V → Hp → VK → XK → Prop} (vs : List V) (H : Hp) (Q : VK) (E : XK) (h : spec2 R vs H Q E) : vs.length = 2 := by
  obtain ⟨a, b, rfl, _⟩ := h
  rfl
theorem ar3 {R : V → V → V → Hp → VK → XK → Prop} (vs : List V) (H : Hp) (Q : VK) (E : XK) (h : spec3 R vs H Q E) : vs.length = 3 := by
  obtain ⟨a, b, c, rfl, _⟩ := h
  rfl

/-! ### the built-ins' names -/
structure Bt (mg : Str → Option Value) : Prop where
  abs : mg "abs" = none
  all : mg "all" = none
  any : mg "any" = none
  bool : mg "bool" = none
  dict : mg "dict" = none
  divmod : mg "divmod" = none
  enumerate : mg "enumerate" = none
  int : mg "int" = none
  isinstance : mg "isinstance" = none
  len : mg "len" = none
  list : mg "list" = none
  max : mg "max" = none
  min : mg "min" = none
  range : mg "range" = none
  repr : mg "repr" = none
  reversed : mg "reversed" = none
  set : mg "set" = none
  sorted : mg "sorted" = none
  sum : mg "sum" = none
  tuple : mg "tuple" = none
  zip : mg "zip" = none
def btNames : List Str := ["abs", "all", "any", "bool", "dict", "divmod", "enumerate", "int", "isinstance", "len", "list", "max", "min", "range", "repr", "reversed", "set", "sorted", "sum", "tuple", "zip"]
theorem Bt.of {mg : Str → Option Value} (h : ∀ x ∈ btNames, mg x = none) : Bt mg := by
  constructor <;> exact h _ (by unfold btNames; simp)

/-! ### heaps: what stands, but for one changing list at a -/
/-- every object but that at a is as it was -/
def Grow (a : Addr) (H H' : Hp) : Prop := ∀ b o, b ≠ a → H b = some o → H' b = some o
theorem Grow.refl (a : Addr) (H : Hp) : Grow a H H := fun _ _ _ h => h
theorem Grow.trans {a : Addr} {H H1 H2 : Hp} (x : Grow a H H1) (y : Grow a H1 H2) : Grow a H H2 := fun b o n h => y b o n (x b o n h)
theorem Grow.of {a : Addr} {H H' : Hp} (x : Same H H') : Grow a H H' := fun b o _ h => x b o h
theorem Grow.new {a p : Addr} {H H' : Hp} {o : HO} (x : Grow a H H') (h : H' p = none) : Grow a H (upd H' p o) := fun b u n z => by
  rw [upd_ne (ne_of_none (x b u n z) h)]
  exact x b u n z
theorem Grow.put {a : Addr} {H H' : Hp} {o : HO} (x : Grow a H H') : Grow a H (upd H' a o) := fun b u n z => by
  rw [upd_ne n]
  exact x b u n z
theorem _root_.L2.Same.new {p : Addr} {H H' : Hp} {o : HO} (x : Same H H') (h : H' p = none) : Same H (upd H' p o) := fun b u z => by
  rw [upd_ne (ne_of_none (x b u z) h)]
  exact x b u z
/-- an object that H does not know changes -/
theorem _root_.L2.Same.mut {p : Addr} {H H' : Hp} {o : HO} (x : Same H H') (h : H p = none) : Same H (upd H' p o) := fun b u z => by
  rw [upd_ne (ne_of_none z h)]
  exact x b u z
theorem _root_.L2.Same.tup {K : PySem.W.Frag} {H H' : Hp} {a : Addr} {xs : List V} (e : Same H H') (h : SqT K H a xs) : SqT K H' a xs := by
  rcases h with (h | ⟨o, h⟩) | h
  · exact .inl (.inl (e _ _ h))
  · exact .inl (.inr ⟨o, e _ _ h⟩)
  · exact .inr h
theorem mulc {i j : Int} (h : 0 ≤ i ∧ i ≤ 18446744073709551615) : CMul i j := .inl (by omega)
theorem mulc' {i j : Int} (h : 0 ≤ j ∧ j ≤ 18446744073709551615) : CMul i j := .inr (by omega)
theorem divw {i j : Int} (h : 0 < j) (h2 : j < 2 ^ 64) : CDivW i j := wide_div h (b := 64) (by omega) (by decide) (by decide)
theorem divp {i j : Int} (h : 0 < j) (h2 : j < 2 ^ 64) : CDivP i j := ⟨h, PyProof.noPylong_of_log2 (Nat.lt_of_lt_of_le (PySem.Flt.log2_lt_of (by decide : 0 < 64) (by omega)) (by decide))⟩
end G

namespace G
open PySem PySem.Spec PyProof.Rows L2
theorem blT {Q : VK} {H : Hp} {p : Prop} [Decidable p] (h : p) (q : Q (.bl true) H) : Q (.bl (decide p)) H := by
  rw [decide_eq_true h]
  exact q
theorem blF {Q : VK} {H : Hp} {p : Prop} [Decidable p] (h : ¬ p) (q : Q (.bl false) H) : Q (.bl (decide p)) H := by
  rw [decide_eq_false h]
  exact q
theorem bl_t {p : Prop} [Decidable p] (h : p) : V.bl (decide p) = .bl true := congrArg V.bl (decide_eq_true h)
theorem bl_f {p : Prop} [Decidable p] (h : ¬ p) : V.bl (decide p) = .bl false := congrArg V.bl (decide_eq_false h)
theorem bl_nt {p : Prop} [Decidable p] (h : ¬ p) : V.bl (!decide p) = .bl true := by rw [decide_eq_false h]; rfl
theorem bl_nf {p : Prop} [Decidable p] (h : p) : V.bl (!decide p) = .bl false := by rw [decide_eq_true h]; rfl
theorem sz0 : ([] : List V).length ≤ sizeLine := Nat.zero_le _
theorem sz1 {a : V} : ([a] : List V).length ≤ sizeLine := by show 1 ≤ sizeLine; decide
theorem sz2 {a b : V} : ([a, b] : List V).length ≤ sizeLine := by show 2 ≤ sizeLine; decide
theorem sz3 {a b c : V} : ([a, b, c] : List V).length ≤ sizeLine := by show 3 ≤ sizeLine; decide
theorem sz4 {a b c d : V} : ([a, b, c, d] : List V).length ≤ sizeLine := by show 4 ≤ sizeLine; decide
theorem sz5 {a b c d e : V} : ([a, b, c, d, e] : List V).length ≤ sizeLine := by show 5 ≤ sizeLine; decide
theorem sz6 {a b c d e f : V} : ([a, b, c, d, e, f] : List V).length ≤ sizeLine := by show 6 ≤ sizeLine; decide
theorem max0 (x : Int) : 0 ≤ (if x > 0 then x else 0) := by
  split <;> omega
theorem at_ints {ns : List Int} {k : Nat} (h : k < ns.length) : atI (ns.map V.int) (k : Int) = some (.int ns[k]) := atI_nat (by rw [List.getElem?_map, List.getElem?_eq_getElem h]; rfl)
theorem c64 {i j : Int} (h : i.natAbs < 18446744073709551616 := by decide) : CMul (i) j := .inl (by omega)
theorem at0 {α : Type} {x y : α} : atI [x, y] 0 = some x := rfl
theorem at1 {α : Type} {x y : α} : atI [x, y] 1 = some y := rfl
theorem divNN {p m : Int} (h : 0 ≤ p) (hm : 0 < m) : 0 ≤ p / m := Int.ediv_nonneg h (by omega)
theorem says_mem {fa : List He.Fa} {fn : List He.DefD} {K : PySem.W.Frag} (c : He.SaysD fa fn K) {f : He.Fa} (h : f ∈ fa) : f.ok K = true :=
  List.all_eq_true.mp (He.ba (show ((fa.all fun f => f.ok K) && fn.all fun d => d.ok K) = true from congrArg (fun z : He.AlD => z.1) c)).1 f h
/-! ### keywords alone, no defaults -/
theorem FunD.kwOnly {K : PySem.W.Frag} {x qual : Str} {params : Arguments} {body : List Stmt} {scope : Scope} {kws : List (Str × V)} {f : Addr} {fd : FuncData} {ps ks : List Str} {g : List Value → List Value}
    (F : FunD K x qual params body scope [] kws f fd)
    (h : ∀ (kV doc pm : Value) (an : Option Addr) (cdv ct : Value) (ws : List Value), ws.length = ks.length → bindArgs (PySem.W.fnOf x qual params body scope .none kV doc pm an cdv ct) ⟨[], ks.zip ws⟩ = pure (ps.zip (g ws))) :
    ∀ (s : Shared) (ws : List Value), K.In s.heap → ws.length = ks.length → BindsTo s fd ⟨[], ks.zip ws⟩ (ps.zip (g ws)) := by
  obtain ⟨oc, od, dV, kV, doc, pm, an, cdv, ct, osl, rfl, _, _, hD, _⟩ := F.ex
  intro s ws _ hl
  rcases hD with ⟨_, rfl⟩ | ⟨e, _⟩
  · exact BindsTo.of_eq (h kV doc pm an cdv ct ws hl)
  · exact (e rfl).elim

/-! ### plain data: ints below a bound, lists and tuples of such -/
mutual
def fine (c : Nat) : PyData → Bool
  | .none => true
  | .bool _ => true
  | .int i => decide (i.natAbs < 10 ^ c)
  | .str _ => false
  | .list ds => fineAll c ds
  | .tuple ds => fineAll c ds
  | .dict _ => false
def fineAll (c : Nat) : List PyData → Bool
  | [] => true
  | d :: ds => fine c d && fineAll c ds
end
mutual
def nodes : PyData → Nat
  | .list ds => 1 + nodesAll ds
  | .tuple ds => 1 + nodesAll ds
  | .none | .bool _ | .int _ | .str _ | .dict _ => 1
def nodesAll : List PyData → Nat
  | [] => 0
  | d :: ds => nodes d + nodesAll ds
end
theorem fineAll_iff {c : Nat} : ∀ {ds : List PyData}, fineAll c ds = true ↔ ∀ d ∈ ds, fine c d = true
  | [] => by simp [fineAll]
  | d :: ds => by simp [fineAll, fineAll_iff (ds := ds)]
theorem fineAll_map {α : Type} {c : Nat} {f : α → PyData} {xs : List α} (h : ∀ x ∈ xs, fine c (f x) = true) : fineAll c (xs.map f) = true :=
  fineAll_iff.mpr fun d hd => by
    obtain ⟨x, hx, rfl⟩ := List.mem_map.mp hd
    exact h x hx
theorem nodesAll_map {α : Type} {k : Nat} {f : α → PyData} : ∀ {xs : List α}, (∀ x ∈ xs, nodes (f x) ≤ k) → nodesAll (xs.map f) ≤ xs.length * k
  | [], _ => by simp [nodesAll]
  | x :: xs, h => by
    have h1 := h x List.mem_cons_self
    have h2 := nodesAll_map (f := f) (k := k) fun y hy => h y (List.mem_cons_of_mem x hy)
    rw [List.map_cons, nodesAll, List.length_cons, Nat.succ_mul]
    omega
theorem depthAll_map {α : Type} {k : Nat} {f : α → PyData} : ∀ {xs : List α}, (∀ x ∈ xs, (f x).depth ≤ k) → PyData.depthAll (xs.map f) ≤ k
  | [], _ => by simp [PyData.depthAll]
  | x :: xs, h => by
    have h1 := h x List.mem_cons_self
    have h2 := depthAll_map (f := f) (k := k) fun y hy => h y (List.mem_cons_of_mem x hy)
    rw [List.map_cons, PyData.depthAll]
    exact Nat.max_le.mpr ⟨h1, h2⟩
mutual
theorem fine_can {c : Nat} : ∀ d : PyData, fine c d = true → d.canLay0 = true
  | .none, _ => rfl
  | .bool _, _ => rfl
  | .int _, _ => rfl
  | .str _, h => by simp [fine] at h
  | .list ds, h => by
    rw [PyData.canLay0]
    exact fineAll_can ds (by simpa [fine] using h)
  | .tuple ds, h => by
    rw [PyData.canLay0]
    exact fineAll_can ds (by simpa [fine] using h)
  | .dict _, h => by simp [fine] at h
theorem fineAll_can {c : Nat} : ∀ ds : List PyData, fineAll c ds = true → PyData.canLayAll0 ds = true
  | [], _ => rfl
  | d :: ds, h => by
    have h' : fine c d = true ∧ fineAll c ds = true := by simpa [fineAll] using h
    rw [PyData.canLayAll0, fine_can d h'.1, fineAll_can ds h'.2]
    rfl
end
theorem pow_big {c : Nat} (hc : c ≤ 500) : 10 ^ c ≤ 2 ^ 1920 := Nat.le_trans (Nat.pow_le_pow_right (by decide) hc) (by decide +kernel)
mutual
theorem fine_show {c : Nat} (hc : c ≤ 500) : ∀ d : PyData, fine c d = true → d.showable = true
  | .none, _ => by simp [PyData.showable]
  | .bool _, _ => by simp [PyData.showable]
  | .int i, h => by
    have h' : i.natAbs < 10 ^ c := by simpa [fine] using h
    have := PySem.Flt.log2_lt_of (by decide : 0 < 1920) (Nat.lt_of_lt_of_le h' (pow_big hc))
    simpa [PyData.showable] using this
  | .str _, h => by simp [fine] at h
  | .list ds, h => by
    rw [PyData.showable]
    exact fineAll_show hc ds (by simpa [fine] using h)
  | .tuple ds, h => by
    rw [PyData.showable]
    exact fineAll_show hc ds (by simpa [fine] using h)
  | .dict _, h => by simp [fine] at h
theorem fineAll_show {c : Nat} (hc : c ≤ 500) : ∀ ds : List PyData, fineAll c ds = true → PyData.showableAll ds = true
  | [], _ => by simp [PyData.showableAll]
  | d :: ds, h => by
    have h' : fine c d = true ∧ fineAll c ds = true := by simpa [fineAll] using h
    rw [PyData.showableAll, fine_show hc d h'.1, fineAll_show hc ds h'.2]
    rfl
end
mutual
theorem fine_eqv {c : Nat} : ∀ d : PyData, fine c d = true → PyData.eqv d d = true
  | .none, _ => by simp [PyData.eqv]
  | .bool _, _ => by simp [PyData.eqv]
  | .int _, _ => by simp [PyData.eqv]
  | .str _, h => by simp [fine] at h
  | .list ds, h => by
    rw [PyData.eqv]
    exact fineAll_eqv ds (by simpa [fine] using h)
  | .tuple ds, h => by
    rw [PyData.eqv]
    exact fineAll_eqv ds (by simpa [fine] using h)
  | .dict _, h => by simp [fine] at h
theorem fineAll_eqv {c : Nat} : ∀ ds : List PyData, fineAll c ds = true → PyData.eqvAll ds ds = true
  | [], _ => by simp [PyData.eqvAll]
  | d :: ds, h => by
    have h' : fine c d = true ∧ fineAll c ds = true := by simpa [fineAll] using h
    rw [PyData.eqvAll, fine_eqv d h'.1, fineAll_eqv ds h'.2]
    rfl
end
theorem len_of (s : String) : ((s : Str)).length = s.length := PySem.ofString_length s
mutual
theorem fine_len {c : Nat} : ∀ d : PyData, fine c d = true → d.shown.length + 3 ≤ (c + 8) * nodes d
  | .none, _ => by
    rw [PyData.shown, len_of, nodes]
    have e : "None".length = 4 := rfl
    omega
  | .bool b, _ => by
    have e1 : "True".length = 4 := rfl
    have e2 : "False".length = 5 := rfl
    rw [PyData.shown, nodes]
    cases b
    · simp only [Bool.false_eq_true, if_false]
      rw [len_of]
      omega
    · simp only [if_true]
      rw [len_of]
      omega
  | .int i, h => by
    have h' : i.natAbs < 10 ^ c := by simpa [fine] using h
    rw [PyData.shown, len_of, nodes]
    by_cases hc : 0 < c
    · have := int_text_length_le10 hc h'
      omega
    · have e : c = 0 := by omega
      subst e
      have e2 : i = 0 := by
        have : i.natAbs < 1 := h'
        omega
      subst e2
      have e3 : (toString (0 : Int)).length = 1 := by decide
      omega
  | .str _, h => by simp [fine] at h
  | .list ds, h => by
    have h1 := fineAll_len ds (by simpa [fine] using h)
    have h2 := listText_len_le (PyData.shownAll ds)
    have e := Nat.mul_add (c + 8) 1 (nodesAll ds)
    rw [PyData.shown, nodes]
    omega
  | .tuple ds, h => by
    have h1 := fineAll_len ds (by simpa [fine] using h)
    have h2 := tupleText_len_le (PyData.shownAll ds)
    have e := Nat.mul_add (c + 8) 1 (nodesAll ds)
    rw [PyData.shown, nodes]
    omega
  | .dict _, h => by simp [fine] at h
theorem fineAll_len {c : Nat} : ∀ ds : List PyData, fineAll c ds = true → ((PyData.shownAll ds).map (·.length)).sum + 3 * (PyData.shownAll ds).length ≤ (c + 8) * nodesAll ds
  | [], _ => by simp [PyData.shownAll, nodesAll]
  | d :: ds, h => by
    have h' : fine c d = true ∧ fineAll c ds = true := by simpa [fineAll] using h
    have h1 := fine_len d h'.1
    have h2 := fineAll_len ds h'.2
    have e := Nat.mul_add (c + 8) (nodes d) (nodesAll ds)
    rw [PyData.shownAll, nodesAll, List.map_cons, List.sum_cons, List.length_cons]
    omega
end
/-- what repr and == ask of data -/
structure Good (d : PyData) : Prop where
  shaped : SeqAt.shaped d = true
  showable : d.showable = true
  noDict : d.hasDict = false
  deep : d.depth ≤ 50
  fits : d.shown.length ≤ sizeLine
  refl : PyData.eqv d d = true
theorem Good.of {c : Nat} {d : PyData} (h : fine c d = true) (hc : c ≤ 500) (hd : d.depth ≤ 50) (hn : (c + 8) * nodes d ≤ 16777216) : Good d :=
  ⟨by unfold SeqAt.shaped; rw [fine_can d h, Bool.true_and]; exact decide_eq_true (by omega), fine_show hc d h, PyData.hasDict_of_canLay d (fine_can d h), hd, by have := fine_len d h; rw [sizeLine_eq]; omega, fine_eqv d h⟩
theorem Good.int {c : Nat} {i : Int} (h : i.natAbs < 10 ^ c) (hc : c ≤ 500) : Good (.int i) :=
  Good.of (c := c) (by simpa [fine] using h) hc (by simp [PyData.depth]) (by rw [nodes]; omega)
theorem Good.eqD {K : PySem.W.Frag} {H : Hp} {x y : V} {d : PyData} {Q : VK} (g : Good d) (hx : Dp K H x d) (hy : Dp K H y d) (q : Q (.bl true) H) : rEqD K x y H Q :=
  ⟨d, d, hx, hy, g.shaped, g.shaped, by rw [g.refl]; exact q⟩
theorem Good.neD {K : PySem.W.Frag} {H : Hp} {x y : V} {d : PyData} {Q : VK} (g : Good d) (hx : Dp K H x d) (hy : Dp K H y d) (q : Q (.bl false) H) : rNeD K x y H Q :=
  ⟨d, d, hx, hy, g.shaped, g.shaped, by rw [g.refl]; exact q⟩
theorem Good.rep {K : PySem.W.Frag} {H : Hp} {a : Addr} {d : PyData} {Q : VK} (g : Good d) (hx : Dp K H (.ref a) d) (q : Q (.str d.shown) H) : rRepr K [.ref a] H Q :=
  ⟨a, d, rfl, hx, g.showable, g.noDict, g.deep, g.fits, q⟩

/-! ### data that stands in the heap, its nodes where N says -/
mutual
inductive Rp (N : Addr → Prop) (H : Hp) : V → PyData → Prop
  | non : Rp N H .non .none
  | bl (b : Bool) : Rp N H (.bl b) (.bool b)
  | int (i : Int) : Rp N H (.int i) (.int i)
  | lst {a : Addr} {xs : List V} {ds : List PyData} : N a → H a = some (.lst xs) → RpA N H xs ds → Rp N H (.ref a) (.list ds)
  | tup {a : Addr} {xs : List V} {ds : List PyData} : N a → H a = some (.tup xs) → RpA N H xs ds → Rp N H (.ref a) (.tuple ds)
inductive RpA (N : Addr → Prop) (H : Hp) : List V → List PyData → Prop
  | nil : RpA N H [] []
  | cons {v : V} {vs : List V} {d : PyData} {ds : List PyData} : Rp N H v d → RpA N H vs ds → RpA N H (v :: vs) (d :: ds)
end
section
variable {N N' : Addr → Prop} {H H' : Hp} {K : PySem.W.Frag}
mutual
theorem Rp.mono (hN : ∀ a, N a → N' a) (hH : ∀ a o, N a → H a = some o → H' a = some o) : ∀ (d : PyData) (v : V), Rp N H v d → Rp N' H' v d
  | .none, _, h => by cases h; exact .non
  | .bool b, _, h => by cases h; exact .bl b
  | .int i, _, h => by cases h; exact .int i
  | .str _, _, h => by cases h
  | .list ds, _, h => by
    cases h with
    | lst n e r => exact .lst (hN _ n) (hH _ _ n e) (RpA.mono hN hH ds _ r)
  | .tuple ds, _, h => by
    cases h with
    | tup n e r => exact .tup (hN _ n) (hH _ _ n e) (RpA.mono hN hH ds _ r)
  | .dict _, _, h => by cases h
theorem RpA.mono (hN : ∀ a, N a → N' a) (hH : ∀ a o, N a → H a = some o → H' a = some o) : ∀ (ds : List PyData) (vs : List V), RpA N H vs ds → RpA N' H' vs ds
  | [], _, h => by cases h; exact .nil
  | d :: ds, _, h => by
    cases h with
    | cons h1 h2 => exact .cons (Rp.mono hN hH d _ h1) (RpA.mono hN hH ds _ h2)
end
mutual
theorem Rp.dp : ∀ (d : PyData) (v : V), Rp N H v d → Dp K H v d
  | .none, _, h => by cases h; exact .non
  | .bool b, _, h => by cases h; exact .bl b
  | .int i, _, h => by cases h; exact .int i
  | .str _, _, h => by cases h
  | .list ds, _, h => by
    cases h with
    | lst n e r => exact .lst (SqL.of e) (RpA.dp ds _ r)
  | .tuple ds, _, h => by
    cases h with
    | tup n e r => exact .tup (SqT.of e) (RpA.dp ds _ r)
  | .dict _, _, h => by cases h
theorem RpA.dp : ∀ (ds : List PyData) (vs : List V), RpA N H vs ds → DpAll K H vs ds
  | [], _, h => by cases h; exact .nil
  | d :: ds, _, h => by
    cases h with
    | cons h1 h2 => exact .cons (Rp.dp d _ h1) (RpA.dp ds _ h2)
end
theorem Rp.same {v : V} {d : PyData} (h : Rp N H v d) (s : Same H H') : Rp N H' v d := Rp.mono (fun _ z => z) (fun a o _ e => s a o e) d v h
theorem RpA.same {vs : List V} {ds : List PyData} (h : RpA N H vs ds) (s : Same H H') : RpA N H' vs ds := RpA.mono (fun _ z => z) (fun a o _ e => s a o e) ds vs h
theorem Rp.grow {a : Addr} {v : V} {d : PyData} (h : Rp (· ≠ a) H v d) (g : Grow a H H') : Rp (· ≠ a) H' v d := Rp.mono (fun _ z => z) (fun b o n e => g b o n e) d v h
theorem RpA.grow {a : Addr} {vs : List V} {ds : List PyData} (h : RpA (· ≠ a) H vs ds) (g : Grow a H H') : RpA (· ≠ a) H' vs ds := RpA.mono (fun _ z => z) (fun b o n e => g b o n e) ds vs h
theorem Rp.off {a : Addr} {v : V} {d : PyData} {o : HO} (h : Rp (fun p => H p = none) H' v d) (e : H a = some o) : Rp (· ≠ a) H' v d := Rp.mono (fun b z => fun q => by rw [q, e] at z; cases z) (fun _ _ _ z => z) d v h
theorem RpA.length {vs : List V} {ds : List PyData} (h : RpA N H vs ds) : vs.length = ds.length := by
  induction ds generalizing vs with
  | nil => cases h; rfl
  | cons d ds ih =>
    cases h with
    | cons h1 h2 => rw [List.length_cons, List.length_cons, ih h2]
theorem RpA.app {vs us : List V} {ds es : List PyData} (h : RpA N H vs ds) (h' : RpA N H us es) : RpA N H (vs ++ us) (ds ++ es) := by
  induction ds generalizing vs with
  | nil => cases h; exact h'
  | cons d ds ih =>
    cases h with
    | cons h1 h2 => exact .cons h1 (ih h2)
theorem RpA.snoc {vs : List V} {ds : List PyData} {v : V} {d : PyData} (h : RpA N H vs ds) (h' : Rp N H v d) : RpA N H (vs ++ [v]) (ds ++ [d]) := h.app (.cons h' .nil)
theorem RpA.get {vs : List V} {ds : List PyData} (h : RpA N H vs ds) : ∀ {i : Nat} {d : PyData}, ds[i]? = some d → ∃ v, vs[i]? = some v ∧ Rp N H v d := by
  induction ds generalizing vs with
  | nil => intro i d e; simp at e
  | cons d0 ds ih =>
    cases h with
    | cons h1 h2 =>
      intro i d e
      cases i with
      | zero =>
        simp at e
        subst e
        exact ⟨_, rfl, h1⟩
      | succ i =>
        obtain ⟨v, e1, e2⟩ := ih h2 (i := i) (by simpa using e)
        exact ⟨v, by simpa using e1, e2⟩
theorem RpA.getV {vs : List V} {ds : List PyData} (h : RpA N H vs ds) {i : Nat} {v : V} (e : vs[i]? = some v) : ∃ d, ds[i]? = some d ∧ Rp N H v d := by
  have hi : i < ds.length := by
    have := (List.getElem?_eq_some_iff.mp e).1
    rw [← h.length]
    exact this
  obtain ⟨u, e1, e2⟩ := h.get (List.getElem?_eq_getElem hi)
  rw [e] at e1
  cases e1
  exact ⟨_, List.getElem?_eq_getElem hi, e2⟩
theorem RpA.ints (ns : List Int) : RpA N H (ns.map V.int) (ns.map PyData.int) := by
  induction ns with
  | nil => exact .nil
  | cons n ns ih => exact .cons (.int n) ih
theorem RpA.dropLast {vs : List V} {ds : List PyData} (h : RpA N H vs ds) : RpA N H vs.dropLast ds.dropLast := by
  induction ds generalizing vs with
  | nil => cases h; exact .nil
  | cons d ds ih =>
    cases h with
    | cons h1 h2 =>
      cases h2 with
      | nil => exact .nil
      | cons h3 h4 => exact .cons h1 (ih (.cons h3 h4))
theorem RpA.set {vs : List V} {ds : List PyData} (h : RpA N H vs ds) {v : V} {d : PyData} (h' : Rp N H v d) : ∀ i : Nat, RpA N H (vs.set i v) (ds.set i d) := by
  induction ds generalizing vs with
  | nil => cases h; intro i; exact .nil
  | cons d0 ds ih =>
    cases h with
    | cons h1 h2 =>
      intro i
      cases i with
      | zero => exact .cons h' h2
      | succ i => exact .cons h1 (ih h2 i)
end
theorem Rp.put {v : V} {d : PyData} {p : Addr} {o : HO} (h : Rp N H v d) (n : ¬ N p) : Rp N (upd H p o) v d := Rp.mono (fun _ z => z) (fun a u k e => (upd_ne (fun q => n (by rw [← q]; exact k))).trans e) d v h
theorem RpA.put {vs : List V} {ds : List PyData} {p : Addr} {o : HO} (h : RpA N H vs ds) (n : ¬ N p) : RpA N (upd H p o) vs ds := RpA.mono (fun _ z => z) (fun a u k e => (upd_ne (fun q => n (by rw [← q]; exact k))).trans e) ds vs h
theorem Rp.new {v : V} {d : PyData} {p : Addr} {o : HO} (h : Rp N H v d) (e : H p = none) : Rp N (upd H p o) v d := h.same (Same.new (Same.refl H) e)
theorem RpA.new {vs : List V} {ds : List PyData} {p : Addr} {o : HO} (h : RpA N H vs ds) (e : H p = none) : RpA N (upd H p o) vs ds := h.same (Same.new (Same.refl H) e)
theorem RpA.unsnoc : ∀ {ds : List PyData} {vs : List V} {d : PyData}, RpA N H vs (ds ++ [d]) → ∃ vs' v, vs = vs' ++ [v] ∧ RpA N H vs' ds ∧ Rp N H v d
  | [], _, d, h => by
    cases h with
    | cons h1 h2 =>
      cases h2
      exact ⟨[], _, rfl, .nil, h1⟩
  | d0 :: ds, _, d, h => by
    cases h with
    | cons h1 h2 =>
      obtain ⟨vs', v, rfl, h3, h4⟩ := RpA.unsnoc h2
      exact ⟨_ :: vs', v, rfl, .cons h1 h3, h4⟩
theorem set_last {α : Type} (xs : List α) (x y : α) : (xs ++ [x]).set xs.length y = xs ++ [y] := by
  induction xs with
  | nil => rfl
  | cons z xs ih => rw [List.cons_append, List.length_cons, List.set_cons_succ, ih]; rfl
theorem ixN_last {α : Type} (xs : List α) (x : α) : ixN (xs ++ [x]).length (-1) = some xs.length := by
  rw [List.length_append, List.length_singleton]
  unfold ixN
  rw [if_neg (by decide), if_pos (by omega)]
  congr 1
  omega
/-- new, and not the list that grows -/
abbrev Nw (H : Hp) (p : Addr) (a : Addr) : Prop := H a = none ∧ a ≠ p
abbrev New (H : Hp) (a : Addr) : Prop := H a = none
theorem nw_not {H : Hp} {p : Addr} : ¬ Nw H p p := fun z => z.2 rfl
/-- a list of ints stands -/
theorem Grow.seq {K : PySem.W.Frag} {a l : Addr} {H H' : Hp} {xs : List V} (g : Grow a H H') (n : l ≠ a) (h : SqL K H l xs) : SqL K H' l xs := by
  rcases h with (h | ⟨o, h⟩) | h
  · exact .inl (.inl (g _ _ n h))
  · exact .inl (.inr ⟨o, g _ _ n h⟩)
  · exact .inr h
theorem _root_.L2.Same.tracked {H H' : Hp} (e : Same H H') {a : Addr} (h : H a ≠ none) : H' a ≠ none := fun z => h (e.free z)
end G

namespace G
open PySem PySem.Spec PyProof.Rows L2
/-! ### the head's facts, one more look among them -/
abbrev AlE : Type := He.AlD × Bool
def obsE (n : Nat) (fa : List He.Fa) (fn : List He.DefD) (ex : PySem.W.Frag → Bool) (g : Addr → Option Obj) : AlE :=
  (He.obsD fa fn (He.frG g (He.asD g n)), ex (He.frG g (He.asD g n)))
def hookE (n : Nat) (fa : List He.Fa) (fn : List He.DefD) (ex : PySem.W.Frag → Bool) : PySem.W.Hook where
  α := AlE
  obs := fun s => obsE n fa fn ex s.heap.get?
  val := fun _ => (He.valD fn, true)
  says := fun _ h => ∃ K : PySem.W.Frag, K.In h ∧ He.SaysD fa fn K ∧ ex K = true
  of := fun _ _ e => ⟨_, He.frG_in, congrArg (fun z : AlE => z.1) e, congrArg (fun z : AlE => z.2) e⟩
  keeps := by
    rintro _ _ _ ⟨K, z1, z2, z3⟩ k
    exact ⟨K, PySem.W.Frag.In.keeps z1 k, z2, z3⟩
theorem obsE_eq {n : Nat} {fa : List He.Fa} {fn : List He.DefD} {ex : PySem.W.Frag → Bool} {g : Addr → Option Obj} {s : Shared} (h : ∀ a, g a = s.heap.get? a) : obsE n fa fn ex g = (hookE n fa fn ex).obs s := by
  have e : g = s.heap.get? := funext h
  rw [e] <;> rfl
/-! ### a call without arguments -/
def spec0 (R : Hp → VK → XK → Prop) : Sp := fun vs H Q E => vs = [] ∧ R H Q E
theorem ar0 {R : Hp → VK → XK → Prop} (vs : List V) (H : Hp) (Q : VK) (E : XK) (h : spec0 R vs H Q E) : vs.length = 0 := by
  obtain ⟨rfl, _⟩ := h
  rfl
theorem pe_cl0 {γ : Prop} {X : Cx} {k j n : Nat} {sp : Sp} {dvs : List V} {x : Str} {p pos : Pos} (C : Cl γ X.prog X.w X.K X.mg X.base k x n dvs sp) (g : γ → X.A.guards = some []) (hr : Room j X.A) (hkj : k ≤ j) (hg : Gl X x) (hdb : (x == ("__debug__" : Str)) = false := by decide) :
    PE X (.Call (.Name x p) [] [] pos) (tCl sp dvs n tNil) := by
  obtain ⟨f, fd, ps, us0, F, _, hm, hk, hb, hd⟩ := C.ex
  constructor
  intro pins s σ H Q I h
  refine wpAny_Call_Name_kw (ld_glob I hg hm ?_ hdb)
  refine PySem.W.callWith_K0 I.kIn hk ?_
  have q : sp ([] ++ dvs) H Q E0 := h
  have hl : ([] ++ us0).length = ps.length := (show Vals ([] ++ dvs) ([] ++ us0) from hd).length.symm.trans (F.arity _ _ _ _ q)
  refine wpAny_call (codeAny_mono (F.go g (hr.mono hkj) I.env0 (hb s [] I.kIn hl) (show Vals ([] ++ dvs) ([] ++ us0) from hd) q) ?_)
  intro r s' z
  obtain ⟨u, z1, z2⟩ := after I z
  subst z1
  exact z2
/-! ### data that is only compared -/
theorem can_map {α : Type} {f : α → PyData} : ∀ {xs : List α}, (∀ x ∈ xs, (f x).canLay0 = true) → PyData.canLayAll0 (xs.map f) = true
  | [], _ => by simp [PyData.canLayAll0]
  | x :: xs, h => by
    rw [List.map_cons, PyData.canLayAll0, h x List.mem_cons_self, can_map fun y hy => h y (List.mem_cons_of_mem _ hy)]
    rfl
theorem shaped_map {α : Type} {f : α → PyData} {xs : List α} (h : ∀ x, (f x).canLay0 = true) (hd : ∀ x, (f x).depth ≤ 60) : SeqAt.shaped (.list (xs.map f)) = true := by
  unfold SeqAt.shaped
  rw [PyData.canLay0, can_map fun x _ => h x, Bool.true_and]
  refine decide_eq_true ?_
  rw [PyData.depth]
  have := depthAll_map (f := f) (xs := xs) (k := 60) fun x _ => hd x
  omega
theorem eqv_map {α : Type} [DecidableEq α] {f : α → PyData} (h : ∀ x y, PyData.eqv (f x) (f y) = decide (x = y)) : ∀ (xs ys : List α), PyData.eqvAll (xs.map f) (ys.map f) = decide (xs = ys)
  | [], [] => by simp [PyData.eqvAll]
  | [], y :: ys => by simp [PyData.eqvAll]
  | x :: xs, [] => by simp [PyData.eqvAll]
  | x :: xs, y :: ys => by
    rw [List.map_cons, List.map_cons, PyData.eqvAll, h, eqv_map h xs ys, Bool.eq_iff_iff]
    simp
theorem eqv_list {α : Type} [DecidableEq α] {f : α → PyData} (h : ∀ x y, PyData.eqv (f x) (f y) = decide (x = y)) (xs ys : List α) : PyData.eqv (.list (xs.map f)) (.list (ys.map f)) = decide (xs = ys) := by
  rw [PyData.eqv, eqv_map h]
theorem eqv_int (i j : Int) : PyData.eqv (.int i) (.int j) = decide (i = j) := by
  rw [PyData.eqv, Bool.eq_iff_iff]
  simp
theorem vals_getD : ∀ {zs : List V} {ws : List Value}, Vals zs ws → ∀ i : Nat, RelV (zs.getD i .non) (ws.getD i .none)
  | [], [], _, _ => rfl
  | _ :: _, _ :: _, .cons r _, 0 => r
  | _ :: zs, _ :: ws, .cons _ t, i + 1 => by
    simpa using vals_getD t i
/-! ### a test that comes out false -/
theorem if_skip {c : TT} {t u : TS} {D : Ends} {σ : L2.St} {H : Hp} (R : Hp → Prop) (hc : ∀ Q : Bool → Hp → Prop, (∀ H', R H' → Q false H') → c σ H Q) (k : ∀ H', R H' → u D σ H') : tIfS c t u D σ H :=
  hc _ fun H' r => by
    rw [if_neg Bool.false_ne_true]
    exact k H' r
theorem if_take {c : TT} {t u : TS} {D : Ends} {σ : L2.St} {H : Hp} (R : Hp → Prop) (hc : ∀ Q : Bool → Hp → Prop, (∀ H', R H' → Q true H') → c σ H Q) (k : ∀ H', R H' → t D σ H') : tIfS c t u D σ H :=
  hc _ fun H' r => by
    rw [if_pos rfl]
    exact k H' r
theorem good_ints {c : Nat} {ns : List Int} (h : ∀ x ∈ ns, x.natAbs < 10 ^ c) (hc : c ≤ 500) (hn : (c + 8) * (ns.length + 1) ≤ 16777216) : Good (.list (ns.map PyData.int)) := by
  refine Good.of (c := c) ?_ hc ?_ ?_
  · rw [fine]
    exact fineAll_map fun x hx => by simpa [fine] using h x hx
  · rw [PyData.depth]
    have := depthAll_map (f := PyData.int) (xs := ns) (k := 0) fun x _ => by simp [PyData.depth]
    omega
  · rw [nodes]
    have := nodesAll_map (f := PyData.int) (xs := ns) (k := 1) fun x _ => by simp [nodes]
    have := Nat.mul_le_mul_left (c + 8) (show 1 + nodesAll (ns.map PyData.int) ≤ ns.length + 1 by omega)
    omega
theorem dp_ints {K : PySem.W.Frag} {H : Hp} {a : Addr} {ns : List Int} (h : SqL K H a (ns.map V.int)) : Dp K H (.ref a) (.list (ns.map PyData.int)) :=
  .lst h (RpA.dp (N := fun _ => True) _ _ (RpA.ints ns))
/-! ### lists of numbers -/
def nV (k : Nat) : V := .int (k : Int)
def nsV (l : List Nat) : List V := l.map nV
theorem nsV_ints (l : List Nat) : nsV l = (l.map fun k : Nat => (k : Int)).map V.int := by unfold nsV; rw [List.map_map]; rfl
theorem nsV_snoc (l : List Nat) (k : Nat) : nsV (l ++ [k]) = nsV l ++ [.int (k : Int)] := by unfold nsV; rw [List.map_append]; rfl
theorem map_range_at {α : Type} {N i : Nat} {f : Nat → α} (h : i < N) : atI ((List.range N).map f) (i : Int) = some (f i) := atI_nat (by rw [List.getElem?_map, List.getElem?_range h]; rfl)
theorem map_range_set {α : Type} {N i : Nat} {f : Nat → α} {v : α} : ((List.range N).map f).set i v = (List.range N).map fun k => if k = i then v else f k := by
  apply List.ext_getElem?
  intro j
  rw [List.getElem?_set, List.getElem?_map, List.getElem?_map]
  by_cases h : j < N
  · rw [List.getElem?_range h]
    by_cases e : i = j
    · subst e
      rw [if_pos rfl, if_pos (by simp [h])]
      simp
    · rw [if_neg e]
      simp [show ¬ j = i from fun z => e z.symm]
  · have : (List.range N)[j]? = none := List.getElem?_eq_none (by simp; omega)
    rw [this]
    split
    · split
      · rename_i z
        simp at z
        omega
      · rfl
    · rfl
theorem ixN_nat {N i : Nat} (h : i < N) : ixN N (i : Int) = some i := by
  unfold ixN
  rw [if_pos (by omega), if_pos (by omega)]
  simp
theorem len_map_range {α : Type} {N : Nat} {f : Nat → α} : ((List.range N).map f).length = N := by simp
theorem rep_flat {α : Type} {n : Nat} {x : α} : (List.replicate n [x]).flatten = (List.range n).map fun _ => x := by
  induction n with
  | zero => rfl
  | succ n ih =>
    rw [List.replicate_succ', List.flatten_append, ih, List.range_succ, List.map_append]
    rfl
theorem small_sz {n : Nat} (h : n ≤ 16777216) : n ≤ sizeLine := by rw [sizeLine_eq]; exact h
theorem small_lt {n : Nat} (h : n < 16777216) : n < sizeLine := by rw [sizeLine_eq]; exact h
/-! ### range(i, j, c), any positive step -/
/-- how many turns -/
def turns (i j c : Int) : Nat := if i < j then ((j - i - 1) / c + 1).toNat else 0
theorem turns_size {i j c : Int} (hc : 0 < c) : Builtin.Range.rangeSize i j c = (turns i j c : Int) := by
  unfold Builtin.Range.rangeSize turns
  rw [if_pos hc]
  by_cases h : i < j
  · rw [if_pos h, if_pos h]
    have : 0 ≤ (j - i - 1) / c := Int.ediv_nonneg (by omega) (by omega)
    omega
  · rw [if_neg h, if_neg h]
    rfl
theorem turns_le {i j c : Int} (hc : 0 < c) (h : i ≤ j) : (turns i j c : Int) ≤ j - i := by
  unfold turns
  by_cases h : i < j
  · rw [if_pos h]
    have h1 : 0 ≤ (j - i - 1) / c := Int.ediv_nonneg (by omega) (by omega)
    have h2 : (j - i - 1) / c ≤ j - i - 1 := Int.ediv_le_self _ (by omega)
    omega
  · rw [if_neg h]
    omega
/-- a turn lies below the end -/
theorem turns_lt {i j c : Int} {k : Nat} (hc : 0 < c) (h : k < turns i j c) : i + k * c < j := by
  unfold turns at h
  by_cases hij : i < j
  · rw [if_pos hij] at h
    have h1 : 0 ≤ (j - i - 1) / c := Int.ediv_nonneg (by omega) (by omega)
    have h2 : (k : Int) ≤ (j - i - 1) / c := by omega
    have h3 : (k : Int) * c ≤ j - i - 1 := (Int.le_ediv_iff_mul_le hc).mp h2
    omega
  · rw [if_neg hij] at h
    omega
/-- and what lies below the end is a turn -/
theorem turns_mem {i j c : Int} {k : Nat} (hc : 0 < c) (h : i + k * c < j) : k < turns i j c := by
  unfold turns
  have hk : 0 ≤ (k : Int) * c := Int.mul_nonneg (by omega) (by omega)
  rw [if_pos (by omega)]
  have : (k : Int) ≤ (j - i - 1) / c := (Int.le_ediv_iff_mul_le hc).mpr (by omega)
  omega
def RgW (i j c : Int) : Prop := 0 ≤ i ∧ 0 ≤ j ∧ 0 < c ∧ i < 2 ^ 61 ∧ j < 2 ^ 61 ∧ c < 2 ^ 61
theorem RgW.fits {i j c : Int} (h : RgW i j c) : Builtin.Range.small i j c = true := by
  obtain ⟨h1, h2, h3, h4, h5, h6⟩ := h
  unfold Builtin.Range.small
  rw [turns_size h3]
  have h7 : 0 ≤ (turns i j c : Int) ∧ (turns i j c : Int) < 2 ^ 62 := by
    by_cases hij : i ≤ j
    · have := turns_le h3 hij
      omega
    · have : turns i j c = 0 := by unfold turns; rw [if_neg (by omega)]
      omega
  simp only [Builtin.Range.rangeFitsLong, Bool.and_eq_true, Bool.or_eq_true, decide_eq_true_eq, beq_iff_eq]
  rw [if_pos (show c > 0 from h3)]
  simp only [Bool.and_eq_true, decide_eq_true_eq]
  omega
def iRngW (ta : TA) : TI := fun σ H R => ta σ H fun vs H1 => ∃ i j c : Int, vs = [.int i, .int j, .int c] ∧ RgW i j c ∧ R (Itc i c (turns i j c)) H1
theorem pi_rangeW {X : Cx} {tg a b c : Expr} {ta : TA} {p pos : Pos} (hg : Gl X "range") (hm : X.mg "range" = none) (ha : PA X [a, b, c] ta)
    (hs : starEach [a, b, c] X.env = (false, eval a X.env) :: starEach [b, c] X.env := by rfl) (hpl : (backTo pos (starEach [b, c] X.env)).any (·.1) = false := by rfl) :
    PI X tg (.Call (.Name "range" p) [a, b, c] [] pos) (iRngW ta) := by
  constructor
  intro pins s σ H R I h
  refine Call_ (ld_blt I hg hm boot_range (PyProof.Rows.callWith_type1 (thn (ha.run pos pins s σ H _ I h) ?_) hs hpl))
  rintro us s1 ⟨vs, H1, I1, r1, i, j, k, e, hw, q⟩
  subst e
  have hk : 0 < k := hw.2.2.1
  obtain ⟨t, t', t'', rfl⟩ : ∃ t t' t'', us = [Value.int i t, Value.int j t', Value.int k t''] := by
    match us, r1 with
    | [_, _, _], .cons ⟨t, z⟩ (.cons ⟨t', z'⟩ (.cons ⟨t'', z''⟩ .nil)) => exact ⟨t, t', t'', by rw [z, z', z'']⟩
  have lo : k.natAbs < 2 ^ 61 := by
    have := hw.2.2.2.2.2
    omega
  refine call_range_3 (by omega) ?_ (.inl (PyProof.noPylong_of_log2 (Nat.lt_of_lt_of_le (PySem.Flt.log2_lt_of (by decide) lo) (by decide))))
  refine wpAny_pyIter_range (IsRange.new ..) hw.fits ?_
  have I2 : Inv X pins σ H1 { s1 with heap := s1.heap.push { cls := .type "range", data := .fields #[.int i t, .int j t', .int k t''] } } := I1.kept (t' := s1.toks) fun b o e => Heap.get?_push_of_some _ e
  refine pi_one (tk := s1.toks) I2 _ (turn_rangeC _ i k (turns i j k)) ?_ q
  have z1 : i + ((0 : Nat) : Int) * k = i := by simp
  have z2 : (turns i j k : Int) - ((0 : Nat) : Int) = Builtin.Range.rangeSize i j k := by rw [turns_size hk]; simp
  show IsRangeIter _ _ (i + ((0 : Nat) : Int) * k) ((turns i j k : Int) - ((0 : Nat) : Int)) k
  rw [z1, z2]
  exact Heap.get?_push_size _ rfl
/-! ### rules inside a comprehension: the fragment named -/
theorem kIx (R : PySem.W.Frag → V → V → Hp → VK → Prop) {X : Cx} {K : PySem.W.Frag} (h : X.K = K) (t : IxR X (R X.K)) : IxR X (R K) := h ▸ t
theorem kSl (R : PySem.W.Frag → V → Option Int → Option Int → Hp → VK → Prop) {X : Cx} {K : PySem.W.Frag} (h : X.K = K) (t : SlR X (R X.K)) : SlR X (R K) := h ▸ t
theorem kPi (R : PySem.W.Frag → TI) {X : Cx} {K : PySem.W.Frag} {tg l : Expr} (h : X.K = K) (t : PI X tg l (R X.K)) : PI X tg l (R K) := h ▸ t
theorem kPt (R : PySem.W.Frag → TT) {X : Cx} {K : PySem.W.Frag} {e : Expr} (h : X.K = K) (t : PT X e (R X.K)) : PT X e (R K) := h ▸ t
theorem kOp (R : PySem.W.Frag → V → V → Hp → VK → Prop) {X : Cx} {K : PySem.W.Frag} {f : Value → Value → Sem Value} (h : X.K = K) (t : OpR X f (R X.K)) : OpR X f (R K) := h ▸ t
theorem kCall (R : PySem.W.Frag → List V → Hp → VK → Prop) {X : Cx} {K : PySem.W.Frag} {f : Value} (h : X.K = K) (t : CallR X f (R X.K)) : CallR X f (R K) := h ▸ t
def rLenS (K : PySem.W.Frag) : List V → Hp → VK → Prop := fun xs H Q => ∃ p ys, xs = [.ref p] ∧ (SqL K H p ys ∨ SqT K H p ys) ∧ Q (.int ys.length) H
def rListOf (K : PySem.W.Frag) : List V → Hp → VK → Prop := fun xs H Q => ∃ p ys, xs = [.ref p] ∧ (SqL K H p ys ∨ SqT K H p ys) ∧ ∀ l, H l = none → Q (.ref l) (upd H l (.lst ys))
def tTru (ta : TE) (K : PySem.W.Frag) : TT := fun σ H Q => ta σ H fun x H' => ∃ k, TruV K x H' k ∧ Q k H'
/-- a scope within a scope -/
def relS (scope sc : Scope) : Scope := { scope with names := scope.names.map fun (n, k) => if (k == .free && sc.kind == .function && sc.names.lookup n == some .cell) then (n, .cell) else (n, k) }
theorem blkOk_in {N : List Str} {outer sc scope : Scope} {cl : List (Str × Addr)} {C : Addr} {env : Env} {own : List (Str × Nat)} (he : env.scope = sc) (h : blkC N (relS outer sc) scope own = true) : BlkOk N (compEnvC outer cl C env).scope scope own := by
  subst he
  exact blkOk_by h
end G

namespace G
open PySem PySem.Spec PyProof.Rows L2
theorem SqL.same {K : PySem.W.Frag} {l : Addr} {xs : List V} {H H' : Hp} (s : Same H H') (h : SqL K H l xs) : SqL K H' l xs := by
  rcases h with (h | ⟨o, h⟩) | h
  · exact .inl (.inl (s _ _ h))
  · exact .inl (.inr ⟨o, s _ _ h⟩)
  · exact .inr h
theorem SqT.same {K : PySem.W.Frag} {l : Addr} {xs : List V} {H H' : Hp} (s : Same H H') (h : SqT K H l xs) : SqT K H' l xs := Same.tup s h
theorem Rp.lift {H H1 H' : Hp} {v : V} {d : PyData} (h : Rp (New H1) H' v d) (s : Same H H1) : Rp (New H) H' v d := Rp.mono (fun a z => s.free z) (fun _ _ _ e => e) d v h
theorem RpA.lift {H H1 H' : Hp} {v : List V} {d : List PyData} (h : RpA (New H1) H' v d) (s : Same H H1) : RpA (New H) H' v d := RpA.mono (fun a z => s.free z) (fun _ _ _ e => e) d v h
theorem rpa_ints {N : Addr → Prop} {H : Hp} : ∀ {ns : List Int} {vs : List V}, RpA N H vs (ns.map PyData.int) → vs = ns.map V.int
  | [], _, h => by cases h; rfl
  | n :: ns, _, h => by
    cases h with
    | cons h1 h2 =>
      cases h1
      rw [rpa_ints h2]
      rfl
theorem rpa_bls {N : Addr → Prop} {H : Hp} : ∀ {ns : List Bool} {vs : List V}, RpA N H vs (ns.map PyData.bool) → vs = ns.map V.bl
  | [], _, h => by cases h; rfl
  | n :: ns, _, h => by
    cases h with
    | cons h1 h2 =>
      cases h1
      rw [rpa_bls h2]
      rfl
theorem Rp.ints {N : Addr → Prop} {H : Hp} {p : Addr} {ns : List Int} (h : Rp N H (.ref p) (.list (ns.map PyData.int))) : H p = some (.lst (ns.map V.int)) := by
  cases h with
  | lst n e r => rw [e, rpa_ints r]
theorem Rp.bls {N : Addr → Prop} {H : Hp} {p : Addr} {ns : List Bool} (h : Rp N H (.ref p) (.list (ns.map PyData.bool))) : H p = some (.lst (ns.map V.bl)) := by
  cases h with
  | lst n e r => rw [e, rpa_bls r]
theorem Rp.node {N : Addr → Prop} {H : Hp} {p : Addr} {ds : List PyData} (h : Rp N H (.ref p) (.list ds)) : N p ∧ ∃ vs, H p = some (.lst vs) ∧ RpA N H vs ds := by
  cases h with
  | lst n e r => exact ⟨n, _, e, r⟩
theorem Rp.isRef {N : Addr → Prop} {H : Hp} {v : V} {ds : List PyData} (h : Rp N H v (.list ds)) : ∃ p, v = .ref p ∧ N p ∧ ∃ vs, H p = some (.lst vs) ∧ RpA N H vs ds := by
  cases h with
  | lst n e r => exact ⟨_, rfl, n, _, e, r⟩
/-! ### comprehensions that only make new data -/
section
variable {g : TG} {tt : TT} {te : TE} {vs : List Nat} {σ : L2.St} {D : Addr} {Qd : Hp → Prop} {H1 : Hp}
theorem lcF_list {α : Type} {K : PySem.W.Frag} {a : Addr} {c : α → V} {src : List α} (p : α → Bool) (d : α → PyData) (hD : H1 D = none) (hS : SqL K H1 a (src.map c)) (hn : src.length < 16777216)
    (hs : ∀ (i : Nat) (x : α) (H : Hp) (R : V → Hp → Prop) (S : Hp → Prop), src[i]? = some x → Same H1 H → (p x = true → ∀ y H4, Same H H4 → Rp (New H) H4 y (d x) → R y H4) → (p x = false → ∀ H3, Same H H3 → S H3) →
      g (c x) (wipe σ vs) H fun σ2 H2 => wipe σ2 vs = wipe σ vs ∧ tt σ2 H2 fun b H3 => if b = true then te σ2 H3 R else S H3)
    (hd : ∀ H, Same H1 H → Rp (New H1) H (.ref D) (.list ((src.filter p).map d)) → Qd H) :
    ∃ W : Nat → Nat → Hp → Prop, (∃ m, W 0 m (upd H1 D (.lst []))) ∧ ∀ i m H, W i m H →
      ((Itl K a).stop i H ∧ Qd H) ∨ ((Itl K a).go i H ∧ ∃ Nx : Hp → Prop, (∀ H', Nx H' → ∃ m', m' < m ∧ W (i + 1) m' H') ∧ ∀ x H', (Itl K a).yld i H x H' → g x (wipe σ vs) H' fun σ2 H2 => wipe σ2 vs = wipe σ vs ∧ tt σ2 H2 fun b H3 =>
        if b = true then te σ2 H3 fun y H4 => ∃ acc, H4 D = some (.lst acc) ∧ acc.length < sizeLine ∧ Nx (upd H4 D (.lst (acc ++ [y]))) else Nx H3) := by
  refine lc_list (K := K) (a := a) (xs := src.map c) (fun i H => Same H1 H ∧ ∃ acc, acc.length ≤ i ∧ H D = some (.lst acc) ∧ RpA (Nw H1 D) H acc (((src.take i).filter p).map d)) ⟨(Same.refl _).new hD, [], Nat.le_refl 0, upd_same, .nil⟩ (fun i H _ z => SqL.same z.1 hS) ?_ ?_
  · rintro i x H hx ⟨s1, acc, al, eD, ra⟩
    rw [List.getElem?_map] at hx
    obtain ⟨z, hz, rfl⟩ := Option.map_eq_some_iff.mp hx
    have hi : i < src.length := (List.getElem?_eq_some_iff.mp hz).1
    have tk : src.take (i + 1) = src.take i ++ [z] := by rw [List.take_add_one, hz]; rfl
    refine hs i z H _ _ hz s1 (fun hp y H4 s4 ry => ?_) (fun hp H3 s3 => ?_)
    · refine ⟨acc, s4 _ _ eD, small_lt (by omega), (s1.trans s4).mut hD, acc ++ [y], by rw [List.length_append]; exact Nat.succ_le_succ al, upd_same, ?_⟩
      rw [tk, List.filter_append, List.map_append, List.filter_cons, hp]
      refine RpA.put ((ra.same s4).app (.cons (Rp.mono (fun b hb => ⟨s1.free hb, ne_of_none eD hb |>.symm⟩) (fun _ _ _ e => e) _ _ ry) .nil)) nw_not
    · refine ⟨s1.trans s3, acc, by omega, s3 _ _ eD, ?_⟩
      rw [tk, List.filter_append, List.map_append, List.filter_cons, hp]
      simpa using ra.same s3
  · rintro H ⟨s1, acc, al, eD, ra⟩
    rw [List.length_map, List.take_length] at ra
    exact hd H s1 (.lst hD eD (RpA.mono (fun b z => z.1) (fun _ _ _ e => e) _ _ ra))
/-- .. without a test -/
theorem lcM_list {α : Type} {K : PySem.W.Frag} {a : Addr} {c : α → V} {src : List α} (d : α → PyData) (hD : H1 D = none) (hS : SqL K H1 a (src.map c)) (hn : src.length < 16777216)
    (hs : ∀ (i : Nat) (x : α) (H : Hp) (R : V → Hp → Prop) (S : Hp → Prop), src[i]? = some x → Same H1 H → (∀ y H4, Same H H4 → Rp (New H) H4 y (d x) → R y H4) →
      g (c x) (wipe σ vs) H fun σ2 H2 => wipe σ2 vs = wipe σ vs ∧ tt σ2 H2 fun b H3 => if b = true then te σ2 H3 R else S H3)
    (hd : ∀ H, Same H1 H → Rp (New H1) H (.ref D) (.list (src.map d)) → Qd H) :
    ∃ W : Nat → Nat → Hp → Prop, (∃ m, W 0 m (upd H1 D (.lst []))) ∧ ∀ i m H, W i m H →
      ((Itl K a).stop i H ∧ Qd H) ∨ ((Itl K a).go i H ∧ ∃ Nx : Hp → Prop, (∀ H', Nx H' → ∃ m', m' < m ∧ W (i + 1) m' H') ∧ ∀ x H', (Itl K a).yld i H x H' → g x (wipe σ vs) H' fun σ2 H2 => wipe σ2 vs = wipe σ vs ∧ tt σ2 H2 fun b H3 =>
        if b = true then te σ2 H3 fun y H4 => ∃ acc, H4 D = some (.lst acc) ∧ acc.length < sizeLine ∧ Nx (upd H4 D (.lst (acc ++ [y]))) else Nx H3) :=
  lcF_list (fun _ => true) d hD hS hn (fun i x H R S hx s k _ => hs i x H R S hx s (k rfl)) (fun H s r => hd H s (by rwa [List.filter_eq_self.mpr (fun _ _ => rfl)] at r))
/-- over a range -/
theorem lcF_range {lo : Int} {n : Nat} (p : Nat → Bool) (d : Nat → PyData) (hD : H1 D = none) (hn : n < 16777216)
    (hs : ∀ i H (R : V → Hp → Prop) (S : Hp → Prop), i < n → Same H1 H → (p i = true → ∀ y H4, Same H H4 → Rp (New H) H4 y (d i) → R y H4) → (p i = false → ∀ H3, Same H H3 → S H3) →
      g (.int (lo + i)) (wipe σ vs) H fun σ2 H2 => wipe σ2 vs = wipe σ vs ∧ tt σ2 H2 fun b H3 => if b = true then te σ2 H3 R else S H3)
    (hd : ∀ H, Same H1 H → Rp (New H1) H (.ref D) (.list (((List.range n).filter p).map d)) → Qd H) :
    ∃ W : Nat → Nat → Hp → Prop, (∃ m, W 0 m (upd H1 D (.lst []))) ∧ ∀ i m H, W i m H →
      ((Itr lo n).stop i H ∧ Qd H) ∨ ((Itr lo n).go i H ∧ ∃ Nx : Hp → Prop, (∀ H', Nx H' → ∃ m', m' < m ∧ W (i + 1) m' H') ∧ ∀ x H', (Itr lo n).yld i H x H' → g x (wipe σ vs) H' fun σ2 H2 => wipe σ2 vs = wipe σ vs ∧ tt σ2 H2 fun b H3 =>
        if b = true then te σ2 H3 fun y H4 => ∃ acc, H4 D = some (.lst acc) ∧ acc.length < sizeLine ∧ Nx (upd H4 D (.lst (acc ++ [y]))) else Nx H3) := by
  refine lc_range (fun i H => Same H1 H ∧ ∃ acc, acc.length ≤ i ∧ H D = some (.lst acc) ∧ RpA (Nw H1 D) H acc (((List.range i).filter p).map d)) ⟨(Same.refl _).new hD, [], Nat.le_refl 0, upd_same, .nil⟩ ?_ ?_
  · rintro i H hi ⟨s1, acc, al, eD, ra⟩
    refine hs i H _ _ hi s1 (fun hp y H4 s4 ry => ?_) (fun hp H3 s3 => ?_)
    · refine ⟨acc, s4 _ _ eD, small_lt (by omega), (s1.trans s4).mut hD, acc ++ [y], by rw [List.length_append]; exact Nat.succ_le_succ al, upd_same, ?_⟩
      rw [List.range_succ, List.filter_append, List.map_append, List.filter_cons, hp]
      refine RpA.put ((ra.same s4).app (.cons (Rp.mono (fun b hb => ⟨s1.free hb, ne_of_none eD hb |>.symm⟩) (fun _ _ _ e => e) _ _ ry) .nil)) nw_not
    · refine ⟨s1.trans s3, acc, by omega, s3 _ _ eD, ?_⟩
      rw [List.range_succ, List.filter_append, List.map_append, List.filter_cons, hp]
      simpa using ra.same s3
  · rintro H ⟨s1, acc, al, eD, ra⟩
    exact hd H s1 (.lst hD eD (RpA.mono (fun b z => z.1) (fun _ _ _ e => e) _ _ ra))
theorem lcM_range {lo : Int} {n : Nat} (d : Nat → PyData) (hD : H1 D = none) (hn : n < 16777216)
    (hs : ∀ i H (R : V → Hp → Prop) (S : Hp → Prop), i < n → Same H1 H → (∀ y H4, Same H H4 → Rp (New H) H4 y (d i) → R y H4) →
      g (.int (lo + i)) (wipe σ vs) H fun σ2 H2 => wipe σ2 vs = wipe σ vs ∧ tt σ2 H2 fun b H3 => if b = true then te σ2 H3 R else S H3)
    (hd : ∀ H, Same H1 H → Rp (New H1) H (.ref D) (.list ((List.range n).map d)) → Qd H) :
    ∃ W : Nat → Nat → Hp → Prop, (∃ m, W 0 m (upd H1 D (.lst []))) ∧ ∀ i m H, W i m H →
      ((Itr lo n).stop i H ∧ Qd H) ∨ ((Itr lo n).go i H ∧ ∃ Nx : Hp → Prop, (∀ H', Nx H' → ∃ m', m' < m ∧ W (i + 1) m' H') ∧ ∀ x H', (Itr lo n).yld i H x H' → g x (wipe σ vs) H' fun σ2 H2 => wipe σ2 vs = wipe σ vs ∧ tt σ2 H2 fun b H3 =>
        if b = true then te σ2 H3 fun y H4 => ∃ acc, H4 D = some (.lst acc) ∧ acc.length < sizeLine ∧ Nx (upd H4 D (.lst (acc ++ [y]))) else Nx H3) :=
  lcF_range (fun _ => true) d hD hn (fun i H R S hx s k _ => hs i H R S hx s (k rfl)) (fun H s r => hd H s (by rwa [List.filter_eq_self.mpr (fun _ _ => rfl)] at r))
/-- over a tuple -/
theorem lcM_tup {α : Type} {K : PySem.W.Frag} {a : Addr} {c : α → V} {src : List α} (d : α → PyData) (hD : H1 D = none) (hS : SqT K H1 a (src.map c)) (hn : src.length < 16777216)
    (hs : ∀ (i : Nat) (x : α) (H : Hp) (R : V → Hp → Prop) (S : Hp → Prop), src[i]? = some x → Same H1 H → (∀ y H4, Same H H4 → Rp (New H) H4 y (d x) → R y H4) →
      g (c x) (wipe σ vs) H fun σ2 H2 => wipe σ2 vs = wipe σ vs ∧ tt σ2 H2 fun b H3 => if b = true then te σ2 H3 R else S H3)
    (hd : ∀ H, Same H1 H → Rp (New H1) H (.ref D) (.list (src.map d)) → Qd H) :
    ∃ W : Nat → Nat → Hp → Prop, (∃ m, W 0 m (upd H1 D (.lst []))) ∧ ∀ i m H, W i m H →
      ((Itt K a).stop i H ∧ Qd H) ∨ ((Itt K a).go i H ∧ ∃ Nx : Hp → Prop, (∀ H', Nx H' → ∃ m', m' < m ∧ W (i + 1) m' H') ∧ ∀ x H', (Itt K a).yld i H x H' → g x (wipe σ vs) H' fun σ2 H2 => wipe σ2 vs = wipe σ vs ∧ tt σ2 H2 fun b H3 =>
        if b = true then te σ2 H3 fun y H4 => ∃ acc, H4 D = some (.lst acc) ∧ acc.length < sizeLine ∧ Nx (upd H4 D (.lst (acc ++ [y]))) else Nx H3) := by
  refine lc_it (walk_tup (xs := src.map c)) (fun i H => Same H1 H ∧ ∃ acc, acc.length ≤ i ∧ H D = some (.lst acc) ∧ RpA (Nw H1 D) H acc ((src.take i).map d)) ⟨(Same.refl _).new hD, [], Nat.le_refl 0, upd_same, .nil⟩ (fun i H _ z => SqT.same z.1 hS) ?_ ?_
  · rintro i x H H' hi ⟨s1, acc, al, eD, ra⟩ ⟨eH, hx⟩
    have eH : H' = H := eH
    subst eH
    have hx : (src.map c)[i]? = some x := hx
    rw [List.getElem?_map] at hx
    obtain ⟨z, hz, rfl⟩ := Option.map_eq_some_iff.mp hx
    have hi : i < src.length := (List.getElem?_eq_some_iff.mp hz).1
    have tk : src.take (i + 1) = src.take i ++ [z] := by rw [List.take_add_one, hz]; rfl
    refine hs i z _ _ _ hz s1 (fun y H4 s4 ry => ?_)
    refine ⟨acc, s4 _ _ eD, small_lt (by omega), (s1.trans s4).mut hD, acc ++ [y], by rw [List.length_append]; exact Nat.succ_le_succ al, upd_same, ?_⟩
    rw [tk, List.map_append]
    exact RpA.put ((ra.same s4).app (.cons (Rp.mono (fun b hb => ⟨s1.free hb, (ne_of_none eD hb).symm⟩) (fun _ _ _ e => e) _ _ ry) .nil)) nw_not
  · rintro H ⟨s1, acc, al, eD, ra⟩
    rw [List.length_map, List.take_length] at ra
    exact hd H s1 (.lst hD eD (RpA.mono (fun b z => z.1) (fun _ _ _ e => e) _ _ ra))
/-- over zip of two lists -/
theorem lcM_zip {K : PySem.W.Frag} {a b : Addr} {xs ys : List V} {n : Nat} (d : Nat → PyData) (hD : H1 D = none) (ha : SqL K H1 a xs) (hb : SqL K H1 b ys) (hl : n = min xs.length ys.length) (hn : n < 16777216)
    (hs : ∀ (i : Nat) (T : Addr) (x y : V) (H : Hp) (R : V → Hp → Prop) (S : Hp → Prop), i < n → xs[i]? = some x → ys[i]? = some y → Same H1 H → H T = some (.tup [x, y]) → (∀ y H4, Same H H4 → Rp (New H) H4 y (d i) → R y H4) →
      g (.ref T) (wipe σ vs) H fun σ2 H2 => wipe σ2 vs = wipe σ vs ∧ tt σ2 H2 fun b H3 => if b = true then te σ2 H3 R else S H3)
    (hd : ∀ H, Same H1 H → Rp (New H1) H (.ref D) (.list ((List.range n).map d)) → Qd H) :
    ∃ W : Nat → Nat → Hp → Prop, (∃ m, W 0 m (upd H1 D (.lst []))) ∧ ∀ i m H, W i m H →
      ((Itz K a b).stop i H ∧ Qd H) ∨ ((Itz K a b).go i H ∧ ∃ Nx : Hp → Prop, (∀ H', Nx H' → ∃ m', m' < m ∧ W (i + 1) m' H') ∧ ∀ x H', (Itz K a b).yld i H x H' → g x (wipe σ vs) H' fun σ2 H2 => wipe σ2 vs = wipe σ vs ∧ tt σ2 H2 fun b H3 =>
        if b = true then te σ2 H3 fun y H4 => ∃ acc, H4 D = some (.lst acc) ∧ acc.length < sizeLine ∧ Nx (upd H4 D (.lst (acc ++ [y]))) else Nx H3) := by
  refine lc_it (walk_zip hl) (fun i H => Same H1 H ∧ ∃ acc, acc.length ≤ i ∧ H D = some (.lst acc) ∧ RpA (Nw H1 D) H acc ((List.range i).map d)) ⟨(Same.refl _).new hD, [], Nat.le_refl 0, upd_same, .nil⟩ (fun i H _ z => ⟨SqL.same z.1 ha, SqL.same z.1 hb⟩) ?_ ?_
  · rintro i x H H' hi ⟨s1, acc, al, eD, ra⟩ ⟨T, x, z, rfl, hT, rfl, ex, ez⟩
    have sT := (Same.refl H).new (o := .tup [x, z]) hT
    refine hs i T x z _ _ _ hi ex ez (s1.trans sT) upd_same (fun y H4 s4 ry => ?_)
    have s4' := sT.trans s4
    refine ⟨acc, s4' _ _ eD, small_lt (by omega), (s1.trans s4').mut hD, acc ++ [y], by rw [List.length_append]; exact Nat.succ_le_succ al, upd_same, ?_⟩
    rw [List.range_succ, List.map_append]
    refine RpA.put ((ra.same s4').app (.cons (Rp.mono (fun b hb => ⟨(s1.trans sT).free hb, (ne_of_none (sT _ _ eD) hb).symm⟩) (fun _ _ _ e => e) _ _ ry) .nil)) nw_not
  · rintro H ⟨s1, acc, al, eD, ra⟩
    exact hd H s1 (.lst hD eD (RpA.mono (fun b z => z.1) (fun _ _ _ e => e) _ _ ra))
end
/-! ### a word between two statements -/
def tCutG (t u : TS) : TS := fun D σ H => ∃ Mid : L2.St → Hp → Prop, t { D with nx := Mid } σ H ∧ ∀ σ' H', Mid σ' H' → u D σ' H'
theorem pss_cutG {X : Cx} {st : Stmt} {rest : List Stmt} {t u : TS} (h1 : PS X st t) (h2 : PSs X rest u) : PSs X (st :: rest) (tCutG t u) := by
  refine ⟨fun pins s σ H D I h => ?_⟩
  obtain ⟨Mid, hm, hu⟩ := h
  refine wpAny_execs_cons (thn (h1.run pins s σ H { D with nx := Mid } I hm) fun f s1 q => ?_)
  cases f with
  | next =>
    obtain ⟨σ', H', I', q⟩ := q
    exact h2.run pins s1 σ' H' D I' (hu σ' H' q)
  | ret v => exact q
  | brk => exact q
  | cont => exact q
theorem atC {α : Type} {x : α} {xs : List α} : atI (x :: xs) 0 = some x := by
  show atI (x :: xs) ((0 : Nat) : Int) = some x
  exact atI_nat rfl
/-! ### // by any divisor but nought -/
def CDivA (_ j : Int) : Prop := j ≠ 0 ∧ j.natAbs < 2 ^ 200
theorem op_fdivA {X : Cx} : OpR X (binaryOp .FloorDiv) (rI CDivA fun i j => .int (i.fdiv j)) := opI fun i j _ _ _ _ _ hc q => by
  obtain ⟨h1, h2⟩ := hc
  exact floordiv_int h1 q (.inl (PyProof.noPylong_of_log2 (Nat.lt_of_lt_of_le (PySem.Flt.log2_lt_of (by decide : 0 < 200) h2) (by decide))))
/-! ### tables: lists of lists of ints -/
def tabD (rows : List (List Int)) : PyData := .list (rows.map fun r => .list (r.map PyData.int))
theorem fine_tab {c : Nat} {rows : List (List Int)} (h : ∀ r ∈ rows, ∀ x ∈ r, x.natAbs < 10 ^ c) : fine c (tabD rows) = true := by
  unfold tabD
  rw [fine]
  refine fineAll_map fun r hr => ?_
  rw [fine]
  exact fineAll_map fun x hx => by simpa [fine] using h r hr x hx
theorem depth_tab (rows : List (List Int)) : (tabD rows).depth ≤ 2 := by
  unfold tabD
  rw [PyData.depth]
  have := depthAll_map (f := fun r : List Int => PyData.list (r.map PyData.int)) (xs := rows) (k := 1) fun r _ => by
    show (PyData.list (r.map PyData.int)).depth ≤ 1
    rw [PyData.depth]
    have := depthAll_map (f := PyData.int) (xs := r) (k := 0) fun x _ => by simp [PyData.depth]
    omega
  omega
theorem nodes_tab {m : Nat} {rows : List (List Int)} (h : ∀ r ∈ rows, r.length ≤ m) : nodes (tabD rows) ≤ 1 + rows.length * (1 + m) := by
  unfold tabD
  rw [nodes]
  have := nodesAll_map (f := fun r : List Int => PyData.list (r.map PyData.int)) (xs := rows) (k := 1 + m) fun r hr => by
    show nodes (PyData.list (r.map PyData.int)) ≤ 1 + m
    rw [nodes]
    have := nodesAll_map (f := PyData.int) (xs := r) (k := 1) fun x _ => by simp [nodes]
    have := h r hr
    omega
  omega
theorem good_tab {c m : Nat} {rows : List (List Int)} (h : ∀ r ∈ rows, ∀ x ∈ r, x.natAbs < 10 ^ c) (hm : ∀ r ∈ rows, r.length ≤ m) (hc : c ≤ 500) (hn : (c + 8) * (1 + rows.length * (1 + m)) ≤ 16777216) : Good (tabD rows) :=
  Good.of (fine_tab h) hc (by have := depth_tab rows; omega) (Nat.le_trans (Nat.mul_le_mul_left _ (nodes_tab hm)) hn)
theorem eqvAll_len : ∀ {xs ys : List PyData}, PyData.eqvAll xs ys = true → xs.length = ys.length
  | [], [], _ => rfl
  | [], _ :: _, h => by simp [PyData.eqvAll] at h
  | _ :: _, [], h => by simp [PyData.eqvAll] at h
  | x :: xs, y :: ys, h => by
    rw [PyData.eqvAll, Bool.and_eq_true] at h
    rw [List.length_cons, List.length_cons, eqvAll_len h.2]
end G
namespace G
open PySem PySem.Spec PyProof.Rows L2
theorem all_rep (m : Nat) : (List.replicate m true).all id = true := by
  induction m with
  | zero => rfl
  | succ m ih => rw [List.replicate_succ, List.all_cons, ih]; rfl
theorem map_bl {α : Type} (f : α → Bool) (l : List α) : l.map (fun x => PyData.bool (f x)) = (l.map f).map PyData.bool := (List.map_map (l := l)).symm
theorem map_in {α : Type} (f : α → Int) (l : List α) : l.map (fun x => PyData.int (f x)) = (l.map f).map PyData.int := (List.map_map (l := l)).symm
theorem map_vi {α : Type} (f : α → Int) (l : List α) : l.map (fun x => V.int (f x)) = (l.map f).map V.int := (List.map_map (l := l)).symm
theorem cut_to (xs : List V) (k : Nat) : cutV xs none (some (k : Int)) = xs.take k := by
  unfold cutV
  rw [HT.sIx_none, HT.sIx_nat, List.drop_zero, Nat.sub_zero]
  rcases Nat.le_total k xs.length with h | h
  · rw [Nat.min_eq_left h]
  · rw [Nat.min_eq_right h, List.take_length, List.take_of_length_le h]
theorem cut_from (xs : List V) (k : Nat) : cutV xs (some (k : Int)) none = xs.drop k := by
  unfold cutV
  rw [HT.sIx_none, HT.sIx_nat]
  rcases Nat.le_total k xs.length with h | h
  · rw [Nat.min_eq_left h, List.take_of_length_le (by rw [List.length_drop]; exact Nat.le_refl _)]
  · rw [Nat.min_eq_right h, Nat.sub_self, List.take_zero, List.drop_of_length_le h]
theorem nsV_len (l : List Nat) : (nsV l).length = l.length := by unfold nsV; rw [List.length_map]
theorem nsV_at {l : List Nat} {i : Nat} {x : V} (h : (nsV l)[i]? = some x) : ∃ p, l[i]? = some p ∧ x = V.int (p : Int) := by
  unfold nsV at h
  rw [List.getElem?_map] at h
  obtain ⟨p, hp, rfl⟩ := Option.map_eq_some_iff.mp h
  exact ⟨p, hp, rfl⟩
end G

namespace G
open PySem PySem.Spec PyProof.Rows L2
/-! ### d.update(d2) -/
def rUpdD : V → List V → Hp → VK → Prop := fun x vs H Q => ∃ (a b : Addr) (kvs more : List (Key × V)), x = .ref a ∧ vs = [.ref b] ∧ a ≠ b ∧ H a = some (.dK kvs) ∧ H b = some (.dK more) ∧ kvs.length + more.length ≤ sizeLine ∧ Q .non (upd H a (.dK (mergeK kvs more)))
theorem mt_updD {X : Cx} : MtR X "dict.update" rUpdD := by
  intro pins s σ H x vs v us Q I rx rv h
  obtain ⟨a, b, kvs, more, ex, ev, hab, ea, eb, hz, q⟩ := h
  subst ex
  subst ev
  obtain rfl : v = Value.ref a := rx
  obtain ⟨u, rfl, ru⟩ := rv.one
  obtain rfl : u = Value.ref b := ru
  obtain ⟨za, na, ws, ra, da⟩ := dk_of I.hok ea
  obtain ⟨zb, nb, zs, rb, db⟩ := dk_of I.hok eb
  refine call_meetsIn PySem.F.slot_dict_update da.typeIs PySem.F.entry_dict_update (PySem.F.args_dict_update_2 _ _) (meets_dict_update (mixKind X.prog X.w) a b hab nb) ⟨ws, zs, da, db, by rw [← ra.length, ← rb.length]; exact hz, fun hp dm _ hs => ?_⟩
  have stands : ∃ o, hp.get? a = some o := let ⟨o, _, _, ho, _⟩ := dm; ⟨o, ho⟩
  exact ⟨.non, _, d_write (t' := s.toks) I (by rw [ea]; exact True.intro) hs stands (dk_new (Nat.le_trans (length_mergeK more kvs) hz) na (.merge rb ra) dm), rfl, q⟩
end G
/-! ### set(xs), xs a list of ints -/
namespace G
open PySem PySem.Spec PyProof.Rows L2
section
variable {P : Program} {w : World} {A : Around} {E : Value → Shared → Prop} {s : Shared}
/-- the set as it is made -/
abbrev bare0 (w : World) : Obj := { cls := .type "set", dict := none, data := .set #[] 0 (.fresh 0 0 (!w.params.followText "set-order")) }
/-- the heap with it -/
abbrev hp0 (w : World) (s : Shared) : Heap := s.heap.push (bare0 w)
set_option maxRecDepth 100000 in
set_option maxHeartbeats 6400000 in
theorem set_of_ints {l : Addr} {xs : Array Value} (ks : List Int) {Q : Value → Shared → Prop} (nh : A.handled = none) (isl : s.heap.IsList l xs) (ia : IntsAre xs.toList ks) (few : ks.length + 1 < scanBound)
    (fin : ∀ (g : Heap) (tk c : Nat), SetR w g s.heap.objs.size (fun j => decide (j ∈ ks)) c → c ≤ ks.length → (∀ b o, s.heap.get? b = some o → g.get? b = some o) → Q (.ref s.heap.objs.size) { s with heap := g, toks := tk }) :
    wpAny (model P w) A (call (.type "set") [.ref l]) Q E s := by
  have same : xs.size = ks.length := by
    have z := IntsAre.length ia
    rwa [Array.length_toList] at z
  obtain ⟨ca, ta, mroA⟩ := F.called_set.mro
  have madeA := F.called_set.made; have subA := F.called_set.sub
  refine wpAny_call (codeAny_of_tree ?_); show wpAny _ _ (callAny (.type "set") _) _ _ _
  refine wpAny_pure ⟨Code.quiet_builtin _ (by decide +kernel), codeAny_builtin (F.entry_type_call) ?_⟩
  rw [Around.under_plain (weight_type_call_type "set" [Value.ref l] []) rfl]
  have nt := F.called_set.notType; have cc := F.called_set.canCreate; have tc := F.typeCall_set_1 (.ref l)
  repeat (any_goals (first | assumption | wp_step))
  refine codeAny_mono (code_set_led1 (.ref l) (E := E) (Q₁ := fun y t => y = .ref s.heap.objs.size ∧ t = { s with heap := hp0 w s }) ⟨rfl, rfl⟩) fun r t hr => ?_
  cases r with
  | error e => exact hr
  | ok fl =>
    cases fl with
    | ret y =>
      obtain ⟨rfl, rfl⟩ := hr
      have at0 : (hp0 w s).get? s.heap.objs.size = some (bare0 w) := Heap.get?_push_size _ rfl
      have ty0 : Shared.TypeIs { s with heap := hp0 w s } (.ref s.heap.objs.size) "set" := ⟨_, at0, rfl⟩
      have li := F.called_set.init.lookup; have bi := F.called_set.init.bind (.ref s.heap.objs.size)
      repeat (any_goals (first | assumption | wp_step))
      refine codeAny_mono (codeAny_call_builtin (R := wants (fun r t => r = .none ∧ ∃ g tk c, t = { s with heap := g, toks := tk } ∧ SetR w g s.heap.objs.size (fun j => decide (j ∈ ks)) c ∧ c ≤ ks.length ∧ (∀ b o, s.heap.get? b = some o → g.get? b = some o)) E) F.called_set.init.plain F.entry_set_init (check_set_init_1 ty0 ?_)) fun r2 t2 h2 => ?_
      · obtain ⟨⟨obc, obd, obv, obs⟩, obat, cl, nl, dl⟩ := isl
        simp only at cl dl
        subst cl; subst dl
        have obat' : (hp0 w s).get? l = some { cls := .type "list", dict := obd, data := .seq xs nl, slots := obs } := Heap.get?_push_of_some _ obat
        have sl1 := F.sub_list_set; have sl2 := F.sub_list_frozenset
        have nd : (Value.type "list" == Value.type "dict") = false := by decide
        have isl' : (hp0 w s).IsList l xs := ⟨_, obat', rfl, nl, rfl⟩
        unfold Builtin.«set.__init__» noKeywords Builtin.Frozenset.updateFrom
        generalize eIter : pyIter = IT
        wp_walk
        subst eIter
        refine wpAny_pyIter_list isl' ?_
        refine wpAny_bind (wpAny_runValue ?_)
        have below : l < s.heap.objs.size := Heap.lt_size obat
        have nh3 : A.in1.in1.in1.handled = none := by simp [nh]
        have sz0' : (hp0 w s).objs.size = s.heap.objs.size + 1 := Heap.size_push ..
        have apart : l ≠ (hp0 w s).objs.size := by
          rw [sz0']
          exact Nat.ne_of_lt (Nat.lt_succ_of_lt below)
        have out : s.heap.objs.size ∉ [(hp0 w s).objs.size, l] := by
          rw [sz0']
          intro z
          rcases List.mem_cons.mp z with z | z
          · exact absurd z (Nat.ne_of_lt (Nat.lt_succ_self _))
          · exact absurd (List.mem_singleton.mp z) (Nat.ne_of_gt below)
        have val : ∀ (i : Nat) (v : Value), xs[i]? = some v → ∃ k t, ks[i]? = some k ∧ v = .int k t := fun i v hv => by
          have hi : i < ks.length := by
            rw [← same]
            exact (Array.getElem?_eq_some_iff.mp hv).1
          obtain ⟨t, e⟩ := PyProof.Rows.IntsAre.int_at ia i v ((Array.getElem?_toList).trans hv)
          exact ⟨ks[i], t, List.getElem?_eq_getElem hi, by rw [e, List.getD_eq_getElem?_getD, List.getElem?_eq_getElem hi]; rfl⟩
        refine set_update_ints ((Walks.list nh3 _ l apart xs).toS) s.heap.objs.size out ks same few val (xs.size - 0) 0 _ (by omega) (Nat.zero_le _) ⟨⟨_, Heap.get?_push_size _ rfl, rfl, rfl⟩, (isl'.push _)⟩ ?start ?stop
        case start => exact ⟨0, Nat.le_refl 0, setR_new_at (Heap.get?_push_of_some _ at0)⟩
        case stop =>
          intro t c mv hc R
          obtain ⟨g, gs, dr, tk, os⟩ := t
          have e1 : gs = s.gens := mv.gens
          have e2 : dr = s.drawn := mv.drawn
          have e3 : os = s.os := mv.os
          subst e1; subst e2; subst e3
          show wpAny _ _ _ _ _ _
          refine wpAny_pure ?_; show wpAny _ _ (ret Value.none) _ _ _
          rw [same] at hc
          refine wpAny_pure ⟨rfl, g, tk, c, rfl, R, hc, fun b o e => ?_⟩
          have hb := Heap.lt_size e
          refine mv.heap b o ?_ (Heap.get?_push_of_some _ (Heap.get?_push_of_some _ e))
          intro z
          rcases List.mem_cons.mp z with z | z
          · exact absurd z (Nat.ne_of_lt hb)
          · have z := List.mem_singleton.mp z
            rw [sz0'] at z
            exact absurd z (Nat.ne_of_lt (Nat.lt_succ_of_lt hb))
      · cases r2 with
        | error e => exact h2
        | ok f2 =>
          cases f2 with
          | ret r =>
            obtain ⟨rfl, g, tk, c, rfl, R, hc, kp⟩ := h2
            repeat (any_goals (first | assumption | wp_step))
            exact fin _ _ _ R hc kp
          | next => exact h2.elim
          | brk => exact h2.elim
          | cont => exact h2.elim
    | next => exact hr.elim
    | brk => exact hr.elim
    | cont => exact hr.elim
end
end G

/-! ### sum(lists, []) -/
namespace G
open PySem PySem.Spec PyProof.Rows L2
/-- the lists at some addresses -/
def LstsAt (h : Heap) (as : List Addr) (cs : List (List Value)) : Prop := ∀ (i : Nat) (a : Addr) (its : List Value), as[i]? = some a → cs[i]? = some its → ∃ n, IsL h a its.toArray n
section
variable {P : Program} {w : World} {A : Around} {E : Value → Shared → Prop}
theorem sum_lists_loop {I S : Addr} {fp : List Addr} {G : Array GenState → Array GenState → Prop} {n : Nat} {Pv : Nat → Value → Prop} {St : Nat → Shared → Prop} {R : Result → Shared → Prop}
    (W : WalksS P w A.in1 I fp [I] G n Pv St) (hI : ∀ i s, St i s → ∃ o, s.heap.get? I = some o) (as : List Addr) (cs : List (List Value)) (hn : cs.length = n) (hv : ∀ i v, Pv i v → ∃ a, as[i]? = some a ∧ v = .ref a)
    (out : S ∉ fp) (off : ∀ a ∈ as, a ≠ S ∧ a ≠ I) (hz : cs.flatten.length ≤ sizeLine) :
    ∀ (k i : Nat) (s : Shared) (t : Addr) (c nt : Nat), n - i = k → i ≤ n → St i s → s.heap.get? S = some { cls := .type "list", dict := none, data := .seq #[.ref t] c, slots := #[] } → t ≠ S → t ≠ I →
      IsL s.heap t (cs.take i).flatten.toArray nt → LstsAt s.heap as cs → (i = 0 ∨ S < t) → (∀ s' t' nt', Moved [S, I] G s s' → IsL s'.heap t' cs.flatten.toArray nt' → (n = 0 ∨ S < t') → R (.ok (.ret (.ref t'))) s') →
      codeAny (model P w) A (.builtin "sum.loop" ⟨[.ref I, .ref S, rawInt 2, rawInt 0], []⟩) R s := by
  have SI : S ≠ I := fun z => out (by rw [z]; exact W.sub I List.mem_cons_self)
  have nS : S ∉ [I] := fun z => SI (List.mem_singleton.mp z)
  have more : ∀ b ∈ [I], b ∈ [S, I] := fun b hb => List.mem_cons_of_mem _ hb
  intro k
  induction k with
  | zero =>
    intro i s t c nt hk hi st atS tS tI tot lsts far fin
    have e : i = n := by omega
    subst e
    refine codeAny_builtin (F.entry_sum_loop) ?_
    rw [Around.under_plainId (F.plain_sum_loop) _]
    show wpAny _ A.in1 (seqItems? (Value.ref S) >>= _) _ _ s
    refine wpAny_bind (wpAny_seqItems atS rfl ?_)
    show wpAny _ A.in1 (tryCatch (pyNext (Value.ref I)) _ >>= _) _ _ s
    refine wpAny_bind (wpAny_tryCatch (W.done s _ _ st fun s' mv => ?_))
    rw [List.take_of_length_le (by omega)] at tot
    exact wpAny_pure (fin s' t nt (mv.mono more) (mv.heap t _ (fun z => tI (List.mem_singleton.mp z)) tot) far)
  | succ k ih =>
    intro i s t c nt hk hi st atS tS tI tot lsts far fin
    have lt : i < n := by omega
    refine codeAny_builtin (F.entry_sum_loop) ?_
    rw [Around.under_plainId (F.plain_sum_loop) _]
    show wpAny _ A.in1 (seqItems? (Value.ref S) >>= _) _ _ s
    refine wpAny_bind (wpAny_seqItems atS rfl ?_)
    show wpAny _ A.in1 (tryCatch (pyNext (Value.ref I)) _ >>= _) _ _ s
    refine wpAny_bind (wpAny_tryCatch (W.item i s _ _ lt st fun v s' pv st' mv => ?_))
    obtain ⟨a, ha, rfl⟩ := hv i v pv
    have ci : cs[i]? = some cs[i] := List.getElem?_eq_getElem (by omega)
    obtain ⟨na, la⟩ := lsts i a _ ha ci
    have offa := off a (List.mem_of_getElem? ha)
    have atS' := mv.heap S _ nS atS
    have tot' : IsL s'.heap t (cs.take i).flatten.toArray nt := mv.heap t _ (fun z => tI (List.mem_singleton.mp z)) tot
    have la' : IsL s'.heap a cs[i].toArray na := mv.heap a _ (fun z => offa.2 (List.mem_singleton.mp z)) la
    have tk : cs.take (i + 1) = cs.take i ++ [cs[i]] := by rw [List.take_add_one, ci]; rfl
    have fl : (cs.take (i + 1)).flatten = (cs.take i).flatten ++ cs[i] := by rw [tk, List.flatten_append]; simp
    have sz : (cs.take i).flatten.length + cs[i].length ≤ sizeLine := by
      have e : cs.flatten = (cs.take (i + 1)).flatten ++ (cs.drop (i + 1)).flatten := by rw [← List.flatten_append, List.take_append_drop]
      rw [e, fl, List.length_append, List.length_append] at hz
      omega
    show wpAny _ A.in1 ((holding [Value.ref a] (binaryOp .Add (.ref t) (.ref a))).attempt >>= _) _ _ _
    refine wpAny_bind (wpAny_attempt (wpAny_holding (PySem.P.add_list tot' la' ?_ (by rw [List.size_toArray, List.size_toArray]; exact sz))))
    obtain ⟨oI, eI⟩ := hI _ s' st'
    have Sl := Heap.lt_size atS'
    have Il := Heap.lt_size eI
    have atS1 : (s'.heap.push { cls := .type "list", data := .seq ((cs.take i).flatten.toArray ++ cs[i].toArray) }).get? S = _ := Heap.get?_push_of_some _ atS'
    show wpAny _ A.in1 (updateSeq S (fun _ => #[Value.ref s'.heap.objs.size]) >>= _) _ _ _
    refine wpAny_bind (wpAny_updateSeq atS1 rfl ?_)
    have atS2 := Heap.get?_update_self (Obj.mapSeq fun _ => #[Value.ref s'.heap.objs.size]) atS1 rfl
    refine wpAny_bind (wpAny_letGo ?_)
    have other : ∀ (b : Addr) (o : Obj), b ≠ S → (s'.heap.push { cls := .type "list", data := .seq ((cs.take i).flatten.toArray ++ cs[i].toArray) }).get? b = some o →
        (((s'.heap.push { cls := .type "list", data := .seq ((cs.take i).flatten.toArray ++ cs[i].toArray) }).update S (Obj.mapSeq fun _ => #[Value.ref s'.heap.objs.size])).update S (Obj.mapSeq fun _ => #[Value.ref s'.heap.objs.size])).get? b = some o := fun b o hb e =>
      (Heap.get?_update_other _ _ hb.symm).trans ((Heap.get?_update_other _ _ hb.symm).trans e)
    have old : ∀ (b : Addr) (o : Obj), b ≠ S → s'.heap.get? b = some o → _ := fun b o hb e => other b o hb (Heap.get?_push_of_some _ e)
    refine wpAny_bind (wpAny_updateSeq atS2 rfl (wpAny_pure ⟨plainId_quiet (F.plain_sum_loop) _, ih (i + 1) _ s'.heap.objs.size _ 0 (by omega) lt (W.frame _ s' _ _ st' (Nat.le_refl _) fun b hb o e => ?_) (Heap.get?_update_self _ atS2 rfl) (Nat.ne_of_gt Sl) (Nat.ne_of_gt Il) ?_ ?_ (.inr Sl) fun s'' t'' nt'' mv'' l'' far'' => ?_⟩))
    · exact old b o (fun z => out (z ▸ hb)) e
    · have ea : (cs.take (i + 1)).flatten.toArray = (cs.take i).flatten.toArray ++ cs[i].toArray := by
        rw [fl]
        simp
      rw [ea]
      exact other _ _ (Nat.ne_of_gt Sl) (IsL.new s'.heap _)
    · intro j b its hb hj
      obtain ⟨m, e⟩ := lsts j b its hb hj
      have offb := off b (List.mem_of_getElem? hb)
      exact ⟨m, old _ _ offb.1 (mv.heap b _ (fun z => offb.2 (List.mem_singleton.mp z)) e)⟩
    · refine fin s'' t'' nt'' (Moved.trans W.gtrans ((mv.mono more).then_heap (Nat.le_refl _) fun b o hb e => ?_) mv'') l'' far''
      exact old b o (fun z => hb (by rw [z]; exact List.mem_cons_self)) e
/-- what sum(xs, start) of lists comes to -/
theorem sum_lists {s : Shared} {l t : Addr} {its : Array Value} {nt : Nat} (as : List Addr) (cs : List (List Value)) {Q : Value → Shared → Prop} (nh : A.handled = none) (isl : s.heap.IsList l its) (eas : its.toList = as.map Value.ref) (len : cs.length = as.length)
    (few : 0 < cs.length) (tot : IsL s.heap t #[] nt) (lsts : LstsAt s.heap as cs) (hz : cs.flatten.length ≤ sizeLine)
    (fin : ∀ s' t' nt', (∀ b o, s.heap.get? b = some o → s'.heap.get? b = some o) → s'.gens = s.gens → s'.os = s.os → IsL s'.heap t' cs.flatten.toArray nt' → s.heap.objs.size ≤ t' → Q (.ref t') s') :
    wpAny (model P w) A (call (.builtin "sum") [.ref l, .ref t]) Q E s := by
  refine call_function_tree F.kind_sum F.plain_sum F.entry_sum (by unfold argsOk; kernel_rfl) ?_
  unfold Builtin.«sum»
  simp only [List.length_cons, List.length_nil]
  rw [if_neg (by decide)]
  refine wpAny_bind (wpAny_of_eq (show Builtin.Builtins.bindParams "sum" ["start"] 0 { pos := [Value.ref t], kw := [] } = pure [some (Value.ref t)] from rfl) ?_)
  refine wpAny_bind (wpAny_pyIter_list isl ?_)
  have old1 : ∀ (b : Addr) (o : Obj), s.heap.get? b = some o → (s.heap.push { cls := .type "list_iterator", data := .fields #[.ref l, .int 0 0] }).get? b = some o := fun b o e => Heap.get?_push_of_some _ e
  have tot1 : IsL (s.heap.push { cls := .type "list_iterator", data := .fields #[.ref l, .int 0 0] }) t #[] nt := old1 _ _ tot
  have ty1 : Shared.TypeIs { s with heap := s.heap.push { cls := .type "list_iterator", data := .fields #[.ref l, .int 0 0] } } (.ref t) "list" := ⟨_, tot1, rfl⟩
  refine wpAny_bind (wpAny_pure ?_)
  simp only [List.forIn_cons, List.forIn_nil]
  refine wpAny_bind (wpAny_bind (wpAny_bind (wpAny_isInstance (b := false) ty1 (PySem.F.sub_list_str) ?_)))
  simp only [Bool.false_eq_true, if_false]
  refine wpAny_pure (wpAny_bind (wpAny_bind (wpAny_isInstance (b := false) ty1 (PySem.F.sub_list_bytes) ?_)))
  simp only [Bool.false_eq_true, if_false]
  refine wpAny_pure (wpAny_bind (wpAny_bind (wpAny_isInstance (b := false) ty1 (PySem.F.sub_list_bytearray) ?_)))
  simp only [Bool.false_eq_true, if_false]
  refine wpAny_pure (wpAny_pure ?_)
  refine wpAny_bind (wpAny_newObj_type ?_)
  have lsz := (fun (i : Nat) (a : Addr) (ha : as[i]? = some a) => (show a < s.heap.objs.size from by
    have hi : i < cs.length := by
      rw [len]
      exact (List.getElem?_eq_some_iff.mp ha).1
    obtain ⟨m, e⟩ := lsts i a _ ha (List.getElem?_eq_getElem hi)
    exact Heap.lt_size e))
  have bl : l < s.heap.objs.size := by
    obtain ⟨o, e, _⟩ := isl
    exact Heap.lt_size e
  have bt : t < s.heap.objs.size := Heap.lt_size tot
  have sz1 : (s.heap.push { cls := .type "list_iterator", data := .fields #[.ref l, .int 0 0] }).objs.size = s.heap.objs.size + 1 := Heap.size_push ..
  have isz : its.size = as.length := by
    have e := congrArg List.length eas
    rwa [Array.length_toList, List.length_map] at e
  refine wpAny_pure ⟨plainId_quiet (F.plain_sum_loop) _, sum_lists_loop ((Walks.list (by simp [nh]) s.heap.objs.size l (Nat.ne_of_lt bl) its).toS) (fun i s st => ?_) as cs (by rw [len, isz]) (fun i v hv => ?_) ?_ (fun a ha => ?_) hz (its.size - 0) 0 _ t 0 nt rfl (Nat.zero_le _) ?_ (Heap.get?_push_size _ rfl) ?_ ?_ ?_ ?_ (.inl rfl) fun s' t' nt' mv l' far => ?_⟩
  · obtain ⟨⟨o, e, _⟩, _⟩ := st
    exact ⟨o, e⟩
  · have hv : its[i]? = some v := hv
    have hv2 : its.toList[i]? = some v := (Array.getElem?_toList).trans hv
    rw [eas, List.getElem?_map] at hv2
    obtain ⟨a, ha, rfl⟩ := Option.map_eq_some_iff.mp hv2
    exact ⟨a, ha, rfl⟩
  · rw [sz1]
    intro z
    rcases List.mem_cons.mp z with z | z
    · exact absurd z (Nat.ne_of_gt (Nat.lt_succ_self _))
    · exact absurd (List.mem_singleton.mp z) (Nat.ne_of_gt (Nat.lt_succ_of_lt bl))
  · obtain ⟨i, ha⟩ := List.mem_iff_getElem?.mp ha
    have := lsz i a ha
    rw [sz1]
    exact ⟨Nat.ne_of_lt (Nat.lt_succ_of_lt this), Nat.ne_of_lt this⟩
  · obtain ⟨o, e, c1, c2⟩ := isl
    exact ⟨⟨_, Heap.get?_push_of_some _ (Heap.get?_push_size _ rfl), rfl, rfl⟩, ⟨o, Heap.get?_push_of_some _ (Heap.get?_push_of_some _ e), c1, c2⟩⟩
  · rw [sz1]
    exact Nat.ne_of_lt (Nat.lt_succ_of_lt bt)
  · exact Nat.ne_of_lt bt
  · exact Heap.get?_push_of_some _ tot1
  · intro i a m ha hm
    obtain ⟨k, e⟩ := lsts i a m ha hm
    exact ⟨k, Heap.get?_push_of_some _ (old1 _ _ e)⟩
  · rw [sz1] at far
    refine fin s' t' nt' (fun b o e => ?_) mv.gens mv.os l' ?_
    · have bb := Heap.lt_size e
      refine mv.heap b o (fun z => ?_) (Heap.get?_push_of_some _ (old1 _ _ e))
      rcases List.mem_cons.mp z with z | z
      · rw [sz1] at z
        exact absurd z (Nat.ne_of_lt (Nat.lt_succ_of_lt bb))
      · exact absurd (List.mem_singleton.mp z) (Nat.ne_of_lt bb)
    · rcases far with z | z
      · omega
      · exact Nat.le_of_lt (Nat.lt_trans (Nat.lt_succ_self _) z)
end
section
variable {X : Cx}
/-- set(xs), xs a list of ints -/
def rSetL (K : PySem.W.Frag) (w : World) : List V → Hp → VK → Prop := fun vs H Q => ∃ (a : Addr) (ks : List Int), vs = [.ref a] ∧ SqL K H a (ks.map V.int) ∧ ks.length + 1 < scanBound ∧
  ∀ (p : Addr) (n : Nat), H p = none → n ≤ ks.length → Q (.ref p) (upd H p (SetO w p (fun j => decide (j ∈ ks)) n))
theorem cr_setL (hc : X.calm = true) : CallR X (.type "set") (rSetL X.K X.w) := by
  intro pins s σ H vs us Q I r h
  obtain ⟨a, ks, rfl, hs, few, q⟩ := h
  obtain ⟨u, rfl, ru⟩ := vals1 r
  obtain rfl : u = Value.ref a := ru
  obtain ⟨its, rv, pl, hz⟩ := I.list hs
  obtain ⟨o, n, ho, hcl, hd, hdat⟩ := pl
  refine set_of_ints ks (I.ok.hd hc) ⟨o, ho, hcl, n, hdat⟩ (by simpa using ints_of_vals rv) few fun g tk c R hle kp => ?_
  exact ⟨.ref _, upd H s.heap.objs.size (SetO X.w s.heap.objs.size (fun j => decide (j ∈ ks)) c), I.laid (t' := tk) kp (Nat.le_refl _) (setO_new R), rfl, q _ _ (I.hok.fresh (Nat.le_refl _)) hle⟩
/-- sum(xs, []), xs a list of lists, at least one -/
def rSumL (K : PySem.W.Frag) : List V → Hp → VK → Prop := fun vs H Q => ∃ (a t : Addr) (as : List Addr) (cs : List (List V)), vs = [.ref a, .ref t] ∧ SqL K H a (as.map V.ref) ∧ H t = some (.lst []) ∧ cs.length = as.length ∧ 0 < cs.length ∧
  (∀ (i : Nat) (b : Addr) (xs : List V), as[i]? = some b → cs[i]? = some xs → H b = some (.lst xs)) ∧ cs.flatten.length ≤ sizeLine ∧ ∀ p, H p = none → Q (.ref p) (upd H p (.lst cs.flatten))
theorem vals_flat : ∀ {cs : List (List V)} {us : List (List Value)}, Paired Vals cs us → Vals cs.flatten us.flatten
  | _, _, .nil => .nil
  | _, _, .cons r t => by
    rw [List.flatten_cons, List.flatten_cons]
    exact r.append (vals_flat t)
theorem cr_sumL (hc : X.calm = true) : CallR X (.builtin "sum") (rSumL X.K) := by
  intro pins s σ H vs us Q I r h
  obtain ⟨a, t, as, cs, rfl, hs, ht, hl, h0, hcs, hz, q⟩ := h
  obtain ⟨u1, u2, rfl, r1, r2⟩ := vals2 r
  obtain rfl : u1 = Value.ref a := r1
  obtain rfl : u2 = Value.ref t := r2
  obtain ⟨its, rv, pl, hz2⟩ := I.list hs
  have ei := refs_at rv
  obtain ⟨o, n, ho, hcl, hd, hdat⟩ := pl
  obtain ⟨_, its0, n0, r0, hl0, e0⟩ := I.lstM ht
  have z0 := r0.zero
  subst z0
  -- each list's values
  have pick : ∀ (as : List Addr) (cs : List (List V)), as.length = cs.length → (∀ (i : Nat) (b : Addr) (xs : List V), as[i]? = some b → cs[i]? = some xs → H b = some (.lst xs)) → ∃ us : List (List Value), Paired Vals cs us ∧ LstsAt s.heap as us := by
    intro as
    induction as with
    | nil =>
      intro cs hl _
      cases cs with
      | nil => exact ⟨[], .nil, fun i a m ha => by simp at ha⟩
      | cons x cs => simp at hl
    | cons b as ih =>
      intro cs hl hcs
      cases cs with
      | nil => simp at hl
      | cons x cs =>
        obtain ⟨us, pu, lu⟩ := ih cs (by simpa using hl) fun i b' xs h1 h2 => hcs (i + 1) b' xs (by simpa using h1) (by simpa using h2)
        obtain ⟨_, ib, nb, rb, _, eb⟩ := I.lstM (hcs 0 b x rfl rfl)
        refine ⟨ib :: us, .cons rb pu, fun i a m ha hm => ?_⟩
        cases i with
        | zero =>
          cases ha
          cases hm
          exact ⟨nb, eb⟩
        | succ i => exact lu i a m (by simpa using ha) (by simpa using hm)
  obtain ⟨us, pu, lu⟩ := pick as cs hl.symm hcs
  have rel := vals_flat pu
  have el : us.length = cs.length := (Paired.length pu).symm
  have ef : us.flatten.length ≤ sizeLine := by
    rw [← rel.length]
    exact hz
  refine sum_lists as us (I.ok.hd hc) ⟨o, ho, hcl, n, hdat⟩ (by simpa using ei) (by rw [el, hl]) (by rw [el]; exact h0) e0 lu ef fun s' p np kp gs os lp far => ?_
  have hn : H p = none := I.hok.fresh far
  have J : Inv X pins σ (upd H p (.lst cs.flatten)) { s with heap := s'.heap, gens := s'.gens, drawn := s'.drawn, toks := s'.toks } :=
    I.call (ch := []) (Un.laid kp far hn) (I.hok.laid kp far ⟨hz, us.flatten, np, rel, lp⟩) (by rw [gs]; exact I.bare) (fun _ z => nomatch z)
  have e : s' = { s with heap := s'.heap, gens := s'.gens, drawn := s'.drawn, toks := s'.toks } := by
    cases s'
    cases s
    cases os
    rfl
  rw [e]
  exact ⟨.ref p, _, J, rfl, q p hn⟩
end
end G

/-! ### dicts whose keys are tuples: {(): x}, dict(d) -/
namespace PySem
open PySem.Spec
section
variable {prog : Program} {w : World} {K : Type} [DecidableEq K] {knd : HeapKind prog w K} {A : Around} {E : Value → Shared → Prop} {s : Shared}
/-- dict(d): keys that are objects -/
theorem kt_call_dictH {o : Addr} {more : List (K × Addr × Value)} {Q : Value → Shared → Prop} (hu : knd.room A.in1.in1) (hoS : (o == sysModules) = false) (ho : s.heap.DictOfH knd o more) (his : ∀ x ∈ more, knd.is (s.heap.push { cls := .type "dict", data := .dict #[] }) x.1 x.2.1) (hty : ∀ x ∈ more, Shared.TypeIs { s with heap := s.heap.push { cls := .type "dict", data := .dict #[] } } (.ref x.2.1) "tuple")
    (hap : (more.map fun x => knd.hash x.1).Nodup) (hsz : more.length ≤ sizeLine)
    (h : ∀ h', h'.DictOfH knd s.heap.objs.size more → Heap.SameBut s.heap.objs.size (s.heap.push { cls := .type "dict", data := .dict #[] }) h' → Q (.ref s.heap.objs.size) { s with heap := h' }) :
    wpAny (model prog w) A (call (.type "dict") [.ref o]) Q E s := by
  refine callType_codes (Q₁ := fun obj s₁ => obj = .ref s.heap.objs.size ∧ s₁ = { s with heap := s.heap.push { cls := .type "dict", data := .dict #[] } }) F.kt_called_dict (F.kt_typeCall_dict_1 _) F.entry_dict_init (kt_code_dict_new _ ⟨rfl, rfl⟩) ?_
  rintro obj s₁ ⟨rfl, rfl⟩
  have hnew : (s.heap.push { cls := .type "dict", data := .dict #[] }).DictOfH knd s.heap.objs.size [] := Heap.DictOfH.new s.heap
  have ho' : (s.heap.push { cls := .type "dict", data := .dict #[] }).DictOfH knd o more := by
    obtain ⟨ob, es, ep, h1, h2, h3, h4, _, h6⟩ := ho
    exact ⟨ob, es, ep, Heap.get?_push_of_some _ h1, h2, h3, h4, his, h6⟩
  have hn : (more.map (·.1)).Nodup := ho.nodup
  have hdo : s.heap.objs.size ≠ o := by
    obtain ⟨_, _, _, hg, _⟩ := ho
    exact fun e => absurd (Heap.lt_size hg) (by rw [e]; exact Nat.lt_irrefl _)
  refine ⟨hnew.typeIs, F.args_dict_init_2 _ _, ?_⟩
  unfold Builtin.«dict.__init__»
  refine wpAny_bind ?_
  unfold Builtin.Dict.selfAndRest
  refine wpAny_bind (wpAny_notOrdered_dict hnew.typeIs ?_)
  show wpAny _ _ (pure (s.heap.objs.size, [Value.ref o])) _ _ _
  refine wpAny_pure ?_
  show wpAny _ _ (Builtin.Dict.updateFrom "dict.__init__" s.heap.objs.size (.ref o) [] .none) _ _ _
  refine updateFrom_dictH (A := A.in1) .none hu hdo hoS hnew ho' (.inr ⟨hty, hap⟩) (by simpa using hsz) fun h' hd' _ hs' => ?_
  rw [storedAllH_nil_of_nodup more hn] at hd'
  exact ⟨rfl, h h' hd' hs'⟩
theorem dict_pairsH {env : Env} {keys : List (Option Expr)} {values : List Expr} {pos : Pos} {pairs : List (Sem Value × Sem Value)} {Q : Value → Shared → Prop} (hu : knd.room A)
    (hshape : (evalEachOpt keys env).zip ((evalEach values env).map fun v => do let x ← v; standAt pos; pure x) = pairs.map fun p => (some p.1, p.2)) (h0 : pairs ≠ []) (hlen : pairs.length ≤ 15)
    (h : wpAny (model prog w) A (evalPairs pairs) (fun vs s₁ => ∃ ps, CarriesH knd s₁.heap vs ps ∧ s₁.heap.DictOfH knd s.heap.objs.size [] ∧
      ∀ h' tk, h'.DictOfH knd s.heap.objs.size (storedAllH [] ps) → Heap.SameBut s.heap.objs.size s₁.heap h' → Q (.ref s.heap.objs.size) { s₁ with heap := h', toks := tk }) E
      { s with heap := s.heap.push { cls := .type "dict", data := .dict #[] } }) :
    wpAny (model prog w) A (eval (.Dict keys values pos) env) Q E s := by
  rw [arm_eval_Dict, hshape, dictDisplay_pairs pairs h0 (by omega)]
  exact wpAny_bind (wpAny_standAt (wpAny_bind (wpAny_subDictH (knd := knd) (Q := fun d s' => wpAny (model prog w) A (pure (Value.ref d)) Q E s') hu hlen
    (wpAny_mono h (fun vs s₁ h₁ => by obtain ⟨ps, hc, hm, hq⟩ := h₁; exact ⟨ps, hc, hm, fun h' tk a b => wpAny_pure (hq h' tk a b)⟩) fun _ _ e => e))))
end
end PySem
namespace G
open PySem PySem.Spec PyProof.Rows L2
section
variable {X : Cx}
theorem kt_typed {P : Program} {w : World} {H : Hp} {h : Heap} (ok : HOk P w H h) : ∀ {kvs : List (List Key × V)} {xs : List (List Key × Addr × Value)}, KT H kvs xs → ∀ x ∈ xs, H x.2.1 = some (.tup (x.1.map kV))
  | [], _, r, x, hx => by
    cases r
    cases hx
  | p :: kvs, _, r, x, hx => by
    cases r with
    | cons a b =>
      rcases List.mem_cons.mp hx with e | hx
      · rw [e, ← a.1]
        exact a.2.1
      · exact kt_typed ok b x hx
theorem call_dictDT (hu : X.A.units + 64 < cLine) : CallR X (.type "dict") (fun xs H Q => ∃ (a : Addr) (kvs : List (List Key × V)), xs = [.ref a] ∧ Rd H a (.dT kvs) ∧ (kvs.map fun x => (tupleKind (mixKind X.prog X.w)).hash x.1).Nodup ∧ ∀ p, H p = none → Q (.ref p) (upd H p (.dT kvs))) := by
  intro pins s σ H xs us Q I r q
  obtain ⟨a, kvs, ex, hd, hh, q⟩ := q
  subst ex
  obtain ⟨u, eu, rx⟩ := vals1 r
  subst eu
  cases rx
  obtain ⟨z, lo, vs, rel, dd⟩ := dt_rd I.hok hd
  have tup := kt_typed I.hok rel
  have lold : ∀ b o, s.heap.get? b = some o → (s.heap.push { cls := .type "dict", data := .dict #[] }).get? b = some o := fun b o e => Heap.get?_push_of_some _ e
  have eh : (vs.map fun x => (tupleKind (mixKind X.prog X.w)).hash x.1) = kvs.map fun x => (tupleKind (mixKind X.prog X.w)).hash x.1 := by
    clear q dd tup z hh hd
    induction rel with
    | nil => rfl
    | cons h t ih => rw [List.map_cons, List.map_cons, ih, h.1]
  refine kt_call_dictH (show X.A.units + 2 < cLine by omega) lo dd (fun x hx => ?_) (fun x hx => ?_) (by rw [eh]; exact hh) (by rw [← rel.length]; exact z) fun h' d' hs => ?_
  · obtain ⟨o, its, n, h1, h2, h3, h4⟩ := key_of I.hok (tup x hx)
    exact ⟨o, its, n, lold _ _ h1, h2, h3, h4⟩
  · obtain ⟨o, its, n, h1, h2, h3, h4⟩ := key_of I.hok (tup x hx)
    exact ⟨o, lold _ _ h1, h2⟩
  · have hm : (s.heap.objs.size == sysModules) = false := beq_eq_false_iff_ne.mpr (Nat.ne_of_gt I.big)
    obtain ⟨ob, es, ep, h1, h2, h3, h4, h5, h6⟩ := d'
    have hn : H s.heap.objs.size = none := I.hok.fresh (Nat.le_refl _)
    refine ⟨.ref s.heap.objs.size, upd H s.heap.objs.size (.dT kvs), I.laid (t' := s.toks) (fun b u e => (hs.2 b (Nat.ne_of_lt (Heap.lt_size e))).trans (Heap.get?_push_of_some _ e)) (Nat.le_refl _)
      (show ObjOk X.prog X.w _ _ _ (.dT kvs) from ⟨z, hm, vs, ?_, ob, es, ep, h1, h2, h3, h4, h6⟩), rfl, q _ hn⟩
    exact KT.keeps rel fun b ys e => (upd_ne (ne_of_none e hn)).trans e
/-- {t: v}, t a tuple -/
def tDispT (trs : List (TE × TE)) : TE := fun σ H Q => ∀ p, H p = none → tPairs trs σ (upd H p (.dT [])) fun ps H2 => H2 p = some (.dT []) ∧ ∃ (b : Addr) (k : List Key) (v : V), ps = [(.ref b, v)] ∧ H2 b = some (.tup (k.map kV)) ∧ Q (.ref p) (upd H2 p (.dT [(k, v)]))
theorem pe_dispT {pos : Pos} {keys : List (Option Expr)} {values : List Expr} {trs : List (TE × TE)} (hu : X.A.units + 64 < cLine) (h : PPs X pos keys values trs) (hall : keys.all (·.isSome) = true) (hl : keys.length = values.length) (h0 : keys ≠ [])
    (h15 : keys.length ≤ 15) : PE X (.Dict keys values pos) (tDispT trs) := by
  refine ⟨fun pins s σ H Q I q => ?_⟩
  have hn := I.hok.fresh (Nat.le_refl s.heap.objs.size)
  have I1 := I.laid (a := s.heap.objs.size) (o := .dT []) (h' := s.heap.push { cls := .type "dict", data := .dict #[] }) (t' := s.toks) (fun _ _ q => Heap.get?_push_of_some _ q) (Nat.le_refl _) (dt_empty s.heap I.big)
  have hn2 := pairTrees_length keys values X.env pos hall hl
  refine dict_pairsH (knd := tupleKind (mixKind X.prog X.w)) (pairs := pairTrees keys values X.env pos) (show X.A.units < cLine by omega) (zip_pairTrees keys values X.env pos hall hl) (fun he => by rw [he] at hn2; exact h0 (List.length_eq_zero_iff.mp hn2.symm)) (by rw [hn2]; exact h15)
    (thn (h.run pins _ σ _ _ I1 (q _ hn)) fun ws s2 ⟨ps, H2, I2, rel, e, b, k, v, ep, eb, q2⟩ => ?_)
  subst ep
  cases rel with
  | @cons _ w1 _ _ a r =>
    cases r
    obtain ⟨w1a, w1b⟩ := w1
    obtain ⟨a1, a2⟩ := a
    obtain rfl : w1a = Value.ref b := a1
    obtain ⟨z, hd, vs0, r0, dd⟩ := dt_of I2.hok e
    cases r0
    refine ⟨[(k, b, w1b)], ⟨rfl, rfl, key_of I2.hok eb, True.intro⟩, dd, fun h' tk dd' hs => ⟨.ref s.heap.objs.size, _, ?_, rfl, q2⟩⟩
    have he : ∃ q, h'.get? s.heap.objs.size = some q := let ⟨q, _, _, hq, _⟩ := dd'; ⟨q, hq⟩
    have bp : b ≠ s.heap.objs.size := fun z => by rw [z, e] at eb; cases eb
    obtain ⟨ob, es, ep, h1, h2, h3, h4, h5, h6⟩ := dd'
    refine d_write I2 (by rw [e]; exact True.intro) hs he (show ObjOk X.prog X.w _ _ _ (.dT [(k, v)]) from ⟨by show 1 ≤ sizeLine; decide, hd, [(k, b, w1b)], .cons ⟨rfl, (upd_ne bp).trans eb, a2⟩ .nil, ob, es, ep, h1, h2, h3, h4, h6⟩)
end
end G

namespace G
open PySem PySem.Spec PyProof.Rows L2
/-! ### wide numbers divided by wide ones -/
def CDivX (i j : Int) : Prop := j ≠ 0 ∧ Builtin.divisionGoesByPylong i j = false
theorem op_fdivX {X : Cx} : OpR X (binaryOp .FloorDiv) (rI CDivX fun i j => .int (i.fdiv j)) := opI fun _ _ _ _ _ _ _ hc q => floordiv_int hc.1 q (.inl hc.2)
theorem fdivx_ok {i j : Int} {b : Nat} (h : j ≠ 0) (hj : j.natAbs < 2 ^ b) (hb : b ≤ 9000) : CDivX i j := by
  refine ⟨h, PyProof.noPylong_of_log2 ?_⟩
  by_cases z : b = 0
  · subst z
    have : j.natAbs = 0 := by
      rw [Nat.pow_zero] at hj
      omega
    omega
  · exact Nat.lt_of_lt_of_le (PySem.Flt.log2_lt_of (by omega) hj) hb
/-- a dividend of few bits more than the divisor -/
theorem fdivx_near {i j : Int} {b : Nat} (h : j ≠ 0) (hi : i.natAbs ≤ j.natAbs * 2 ^ b) (hb : b ≤ 4000) : CDivX i j := by
  refine ⟨h, ?_⟩
  have hj : j.natAbs ≠ 0 := by omega
  show (decide ((if j == 0 then 0 else j.natAbs.log2 / 30 + 1) > 300) && decide ((if i == 0 then 0 else i.natAbs.log2 / 30 + 1) > (if j == 0 then 0 else j.natAbs.log2 / 30 + 1) + 150)) = false
  rw [if_neg (show ¬ (j == 0) = true by simpa using h)]
  have k : ¬ ((if i == 0 then 0 else i.natAbs.log2 / 30 + 1) > j.natAbs.log2 / 30 + 1 + 150) := by
    split
    · omega
    · rename_i z
      have hi0 : i.natAbs ≠ 0 := by
        intro y
        exact z (by simpa using (show i = 0 by omega))
      have l : i.natAbs.log2 < j.natAbs.log2 + 1 + b := by
        refine (Nat.log2_lt hi0).mpr (Nat.lt_of_le_of_lt hi ?_)
        rw [Nat.pow_add]
        exact Nat.mul_lt_mul_of_pos_right ((Nat.log2_lt hj).mp (by omega)) (Nat.two_pow_pos b)
      omega
  rw [decide_eq_false k, Bool.and_false]
end G

namespace G
open PySem PySem.Spec PyProof.Rows L2 LamX
/-! ### defs that may let an exception out -/
structure ClX (P : Program) (w : World) (K : PySem.W.Frag) (mg : Str → Option Value) (base : Heap) (k : Nat) (x : Str) (n : Nat) (ds : List V) (sp : Sp) : Prop where
  ex : ∃ (f : Addr) (fd : FuncData) (ps : List Str) (us : List Value), FnG False P w K mg base (L2.CX P w) k f fd ps sp ∧ ps.length = n + ds.length ∧ mg x = some (.ref f) ∧ PySem.W.keepIn K (.ref f) = true ∧ Binds K fd ps us ∧ Vals ds us
structure ClkX (P : Program) (w : World) (K : PySem.W.Frag) (mg : Str → Option Value) (base : Heap) (k : Nat) (x : Str) (ks : List Str) (gV : List V → List V) (sp : Sp) : Prop where
  ex : ∃ (f : Addr) (fd : FuncData) (ps : List Str) (g : List Value → List Value), FnG False P w K mg base (L2.CX P w) k f fd ps sp ∧ mg x = some (.ref f) ∧ PySem.W.keepIn K (.ref f) = true ∧
    (∀ (s : Shared) (ws : List Value), K.In s.heap → ws.length = ks.length → BindsTo s fd ⟨[], ks.zip ws⟩ (ps.zip (g ws))) ∧ ∀ {zs : List V} {ws : List Value}, Vals zs ws → Vals (gV zs) (g ws)
def tClX (E : XK) (sp : Sp) (dvs : List V) (t : TA) : TE := fun σ H Q => t σ H fun vs H1 => sp (vs ++ dvs) H1 Q E
section
variable {X : Cx} {k j n : Nat} {ps ks : List Str} {sp : Sp} {dvs : List V} {E : XK} {x : Str} {p pos : Pos} {e : Expr} {es : List Expr} {t tk : TA} {kws : List Keyword} {gV : List V → List V}
theorem leavesX {pins : List (Addr × Obj)} {σ : L2.St} {H : Hp} {s s' : Shared} {Q : VK} {r : Result} (I : Inv X pins σ H s) (hx : Passes (L2.CX X.prog X.w) X E) (h : CR (L2.CX X.prog X.w) X.stack X.prog X.w H s Q E r s') :
    (∃ u, r = .ok (.ret u) ∧ EP X pins σ Q u s') ∨ ∃ u, r = .error u ∧ X.xe u s' := by
  match r, h with
  | .ok (.ret u), q => exact .inl ⟨u, rfl, I.after q⟩
  | .ok .next, q => exact False.elim q
  | .ok .brk, q => exact False.elim q
  | .ok .cont, q => exact False.elim q
  | .error u, q => exact .inr ⟨u, rfl, hx pins σ H s u s' I q⟩
theorem pe_clX (C : ClX X.prog X.w X.K X.mg X.base k x n dvs sp) (hx : Passes (L2.CX X.prog X.w) X E) (hr : Room j X.A) (hkj : k ≤ j) (hg : Gl X x) (ha : PA X (e :: es) t)
    (hdb : (x == ("__debug__" : Str)) = false := by decide) (he : starEach (e :: es) X.env = (false, eval e X.env) :: starEach es X.env := by rfl) (hpl : (backTo pos (starEach es X.env)).any (·.1) = false := by rfl) :
    PE X (.Call (.Name x p) (e :: es) [] pos) (tClX E sp dvs t) := by
  obtain ⟨f, fd, ps, us0, F, _, hm, hk, hb, hd⟩ := C.ex
  constructor
  intro pins s σ H Q I h
  refine wpAny_Call_Name_kw (ld_glob I hg hm ?_ hdb)
  refine PySem.W.callWith_K (h₀ := X.base) I.ok.mod.kin hk ?_ he hpl
  refine thn (ha.run pos pins s σ H _ I h) ?_
  rintro us s1 ⟨vs, H1, I1, r, q⟩
  have r2 : Vals (vs ++ dvs) (us ++ us0) := r.append hd
  have hl : (us ++ us0).length = ps.length := r2.length.symm.trans (F.arity _ _ _ _ q)
  refine ⟨I1.kIn, wpAny_call (codeAny_mono (F.go False.elim (hr.mono hkj) I1.env0 (hb s1 us I1.kIn hl) r2 q) ?_)⟩
  intro r s' z
  rcases leavesX I1 hx z with ⟨u, z1, z2⟩ | ⟨u, z1, z2⟩
  · subst z1
    exact z2
  · subst z1
    exact z2
theorem pe_clkX (C : ClkX X.prog X.w X.K X.mg X.base k x ks gV sp) (hx : Passes (L2.CX X.prog X.w) X E) (hr : Room j X.A) (hkj : k ≤ j) (hg : Gl X x) (hkw : PK X kws tk)
    (hn : ∀ σ H Q, tk σ H Q → tk σ H fun zs H1 => zs.length = ks.length ∧ Q zs H1)
    (hall : (backToKw pos (keywordEach kws X.env)).all (·.1.isSome) = true := by rfl) (hks : (backToKw pos (keywordEach kws X.env)).filterMap (·.1) = ks := by rfl) (hdb : (x == ("__debug__" : Str)) = false := by decide)
    (hpl : ((backTo pos (starEach [] X.env)).any (·.1) || (backToKw pos (keywordEach kws X.env)).any (·.1.isNone)) = false := by rfl) :
    PE X (.Call (.Name x p) [] kws pos) (tClX E (fun vs => sp (gV vs)) [] tk) := by
  obtain ⟨f, fd, ps, gf, F, hm, hk, hb, rel⟩ := C.ex
  constructor
  intro pins s σ H Q I h
  have h' := hn σ H _ h
  refine wpAny_Call_Name_kw (ld_glob I hg hm ?_ hdb)
  refine PySem.W.callWith_KW0 (h₀ := X.base) I.ok.mod.kin hk hall ?_ hpl
  refine thn (hkw.run pos pins s σ H _ I h') ?_
  rintro ws s1 ⟨zs, H1, I1, rz, hzl, q⟩
  rw [List.append_nil] at q
  refine ⟨I1.kIn, ?_⟩
  rw [hks]
  refine wpAny_call (codeAny_mono (F.go (us := gf ws) False.elim (hr.mono hkj) I1.env0 (hb s1 ws I1.kIn (rz.length.symm.trans hzl)) (rel rz) q) ?_)
  intro r s' z
  rcases leavesX I1 hx z with ⟨u, z1, z2⟩ | ⟨u, z1, z2⟩
  · subst z1
    exact z2
  · subst z1
    exact z2
end
/-! ### own exceptions without arguments -/
abbrev rtB : List Value := [.type "RuntimeError", .type "Exception", .type "BaseException", .type "object"]
/-- the head's facts of an own exception class -/
def ownB (K : PySem.W.Frag) (C : Addr) : Bool := PySem.W.excIn K C rtB "RuntimeError.__new__" && (PySem.W.keepIn K (.ref C) && (PySem.W.subIn K (.ref C) (.type "BaseException") == some true && (PySem.W.typeIn K (.ref C) == some (.type "type") && PySem.W.exmOne K (.ref C) (.ref C) == some true)))
structure OwnE (K : PySem.W.Frag) (C : Addr) : Prop where
  exc : PySem.W.excIn K C rtB "RuntimeError.__new__" = true
  keep : PySem.W.keepIn K (.ref C) = true
  sub : PySem.W.subIn K (.ref C) (.type "BaseException") = some true
  ty : PySem.W.typeIn K (.ref C) = some (.type "type")
  exm : PySem.W.exmOne K (.ref C) (.ref C) = some true
theorem ownB_ok {K : PySem.W.Frag} {C : Addr} (h : ownB K C = true) : OwnE K C := by
  unfold ownB at h
  simp only [Bool.and_eq_true, beq_iff_eq] at h
  obtain ⟨h1, h2, h3, h4, h5⟩ := h
  exact ⟨h1, h2, h3, h4, h5⟩
theorem pmk_own0 {X : Cx} {C : Addr} {x : Str} {p pos : Pos} (O : OwnE X.K C) (gC : X.mg x = some (.ref C)) (hg : Gl X x) (hdb : (x == ("__debug__" : Str)) = false := by decide) :
    PMk X (.Call (.Name x p) [] [] pos) (fun _ H Q => Q (.ref C) none H) := by
  intro pins s σ H Q I h
  refine wpAny_Call_Name_kw (ld_glob I hg gC ?_ hdb)
  refine PySem.W.callWith_K0 I.kIn O.keep ?_
  show wpAny _ _ (call (.ref C) []) _ _ _
  obtain ⟨bm, N, nm, qn, bs, hdct, sn, sub, ab, col, dd, k0, k1, k2, k3, k5, mN, hC, hN, hni, T⟩ := exc_obj I.kIn O.exc
  refine wpAny_call_exc_subT PySem.F.excBase_RuntimeError T hC hN hni (fun h' e hm => ?_) (by show 0 ≤ sizeLine; omega)
  exact mk_of I hm (raises_own O.sub O.ty) h (I.hok.gone hm.new)
/-! ### told = None / try: told = call() / except C as e: told = ['..', isinstance(e, S)] / return told -/
/-- isinstance of an instance of C by S comes out b -/
def isB (K : PySem.W.Frag) (C S : Addr) (b : Bool) : Bool := PySem.W.findIn K (.ref C) "__getattribute__" == some (some (.builtin "BaseException.__getattribute__")) && (PySem.W.findIn K (.ref C) "__getattr__" == some none && (PySem.W.subIn K (.ref C) (.type "BaseException") == some true && (PySem.W.hasDictIn K C &&
  (PySem.W.findIn K (.ref C) "__class__" == some (some (.builtin "object.__class__")) && (PySem.W.specialIn K (.builtin "object.__class__") "__get__" == some (some (.builtin "getset_descriptor.__get__")) && (PySem.W.takesIn K (.builtin "object.__class__") == some true && (PySem.W.mroIn K C (.type "object") == some true && PySem.W.kitOne K (.ref C) (.ref S) == some b)))))))
structure IsE (K : PySem.W.Frag) (C S : Addr) (b : Bool) : Prop where
  of : ExcC K C
  is : PySem.W.kitOne K (.ref C) (.ref S) = some b
theorem isB_ok {K : PySem.W.Frag} {C S : Addr} {b : Bool} (h : isB K C S b = true) : IsE K C S b := by
  unfold isB at h
  simp only [Bool.and_eq_true, beq_iff_eq] at h
  obtain ⟨h1, h2, h3, h4, h5, h6, h7, h8, h9⟩ := h
  exact ⟨⟨h1, h2, h3, h4, h5, h6, h7, h8⟩, h9⟩
theorem pss_if {X : Cx} {b : List Stmt} {t : TS} {p : Prop} (h : p → PSs X b t) : PSs X b (fun D σ H => p ∧ t D σ H) := ⟨fun pins s σ H D I q => (h q.1).run pins s σ H D I q.2⟩
theorem pss_len {X : Cx} {b : List Stmt} {t : TS} (k : Nat) (hk : X.N.length = k) (h : PSs X b t) : PSs X b (fun D σ H => σ.length = k → t D σ H) := ⟨fun pins s σ H D I q => h.run pins s σ H D I (q (I.len.trans hk))⟩
/-- what such a def tells of the lambda's reading -/
def THeard (C : Addr) (b : Bool) (x : Str) : (XK → Hp → VK → Prop) → Hp → VK → Prop := fun tl H Q =>
  tl (fun cls d H' => cls = .ref C ∧ d = none ∧ ∀ l, H' l = none → Q (.ref l) (upd H' l (.lst [.str x, .bl b]))) H Q
/-- what the lambda's body may let out -/
theorem lam_passes {X : Cx} {A : Around} {outer : List Env} {s : Shared} {H : Hp} {E : XK} {scope : Scope} {f c' : Addr} : Passes (L2.CX X.prog X.w) (lamCx X A outer s H E scope f c') E :=
  passes_call (X := lamCx X A outer s H E scope f c') (takes_of (E := E) rfl rfl rfl rfl) fun _ _ _ _ h => h
/-- x(lambda: body), the def x by its facts -/
theorem pe_lamF {X : Cx} {TT : (XK → Hp → VK → Prop) → Hp → VK → Prop} {x a : Str} {g c P : Addr} {fd : FuncData} {k : Nat} {pg : Arguments} {bg : List Stmt} {sg : Scope} {Ng : List Str}
    {params : Arguments} {body : Expr} {scope : Scope} {t : XK → TE} {p lpos pos : Pos} (F : FunD X.K x x pg bg sg [] [] g fd) (hm : X.mg x = some (.ref g)) (hb : L2.Binds X.K fd [a] []) (Sg : FnScope Ng [a] sg)
    (hG : ∀ cdv, GivesTo X Ng x sg g cdv bg a (X.env.qual ++ "<lambda>") TT) (TB : TabB X.base X.mg c P) (hcode : X.env.code = .ref c) (hr : Room (k + 2) X.A) (hg : Gl X x) (L : LamS X.env.scope scope) (hdef : defaultsOf params X.env = ([], []))
    (hbody : ∀ (A : Around) (outer : List Env) (s : Shared) (H : Hp) (E : XK) (f c' : Addr), Room k (A.deeper (lamEnv X scope s.heap.objs.size f c')) → Passes (L2.CX X.prog X.w) (lamCx X A outer s H E scope f c') E → PE (lamCx X A outer s H E scope f c') body (t E))
    (hbind : ∀ (q : Str) (cl : List (Str × Addr)) (pm cv ctv : Value), bindArgs (PySem.W.kla_fn "<lambda>" q params body scope cl pm cv ctv) ⟨[], []⟩ = pure [])
    (hNg : Ng[0]? = some a) (hva : Vis sg a) (hdb : (x == ("__debug__" : Str)) = false := by decide) (hd : (a == ("__debug__" : Str)) = false := by decide) (hcd : (a == ("__classdict__" : Str)) = false := by decide) :
    PE X (.Call (.Name x p) [.Lambda params body scope lpos] [] pos) (tLam [(P, X.env.qual ++ "<lambda>")] TT t) := by
  obtain ⟨oc, od, dV, kV, doc, pm, an, cdv, ct, osl, rfl, lk, hcg, _, _⟩ := F.ex
  exact pe_lamcall hg hm F.kp lk hcg hb Sg hNg hva (hG cdv) TB hcode (List.mem_cons_self ..) (fun q hq _ => by rw [List.mem_singleton.mp hq]) hr L hdef hbind (fun A outer s H E f c' h => hbody A outer s H E f c' h lam_passes) hdb hd hcd
/-- a call that lets nothing out here -/
theorem never_passes {X : Cx} : Passes (L2.CX X.prog X.w) X E0 := fun _ _ _ _ _ _ _ ⟨_, _, _, _, _, _, _, _, _, _, _, _, e⟩ => e.elim
/-- a def's own raise -/
theorem own_takes {P : Program} {w : World} {K : PySem.W.Frag} {mg : Str → Option Value} {base : Heap} {N : List Str} {qual : Str} {scope : Scope} {f : Addr} {cd : Value} {A : Around} {outer : List Env} {s : Shared} {H : Hp} {E : XK} :
    Takes (cxOf (L2.CX P w) P w K mg base N qual scope f cd A outer s H E) (fun cls d _ H => E cls d H) := takes_of (E := E) rfl rfl rfl rfl
/-! ### all but the table of code objects -/
theorem extN_seq {K : PySem.W.Frag} {H H' : Hp} (e : ExtN H H') {a : Addr} {xs : List V} (h : SqL K H a xs) : SqL K H' a xs := by
  rcases h with (h | ⟨o, h⟩) | h
  · exact .inl (.inl (e _ _ h fun _ z => by cases z))
  · exact .inl (.inr ⟨o, e _ _ h fun _ z => by cases z⟩)
  · exact .inr h
theorem extN_tup {K : PySem.W.Frag} {H H' : Hp} (e : ExtN H H') {a : Addr} {xs : List V} (h : SqT K H a xs) : SqT K H' a xs := by
  rcases h with (h | ⟨o, h⟩) | h
  · exact .inl (.inl (e _ _ h fun _ z => by cases z))
  · exact .inl (.inr ⟨o, e _ _ h fun _ z => by cases z⟩)
  · exact .inr h
theorem extN_lst {H H' : Hp} (e : ExtN H H') {a : Addr} {xs : List V} (h : H a = some (.lst xs)) : H' a = some (.lst xs) := e _ _ h fun _ z => by cases z
/-- every object stands but the pot at a and the tables -/
def GrowT (a : Addr) (H H' : Hp) : Prop := ∀ b o, b ≠ a → H b = some o → (∀ ps, o ≠ .tbl ps) → H' b = some o
theorem GrowT.refl (a : Addr) (H : Hp) : GrowT a H H := fun _ _ _ h _ => h
theorem GrowT.trans {a : Addr} {H H1 H2 : Hp} (x : GrowT a H H1) (y : GrowT a H1 H2) : GrowT a H H2 := fun b o n h t => y b o n (x b o n h t) t
theorem GrowT.of {a : Addr} {H H' : Hp} (x : Grow a H H') : GrowT a H H' := fun b o n h _ => x b o n h
theorem GrowT.ext {a : Addr} {H H' : Hp} (x : ExtN H H') : GrowT a H H' := fun b o _ h t => x b o h t
theorem GrowT.new {a p : Addr} {H H' : Hp} {o : HO} (x : GrowT a H H') (h : H' p = none) : GrowT a H (upd H' p o) := fun b u n z t => by
  rw [upd_ne (ne_of_none (x b u n z t) h)]
  exact x b u n z t
/-- tables stand where all but a list at a stands -/
theorem Tabs.grow {T : List (Addr × Str)} {a : Addr} {H H' : Hp} (t : Tabs T H) (ha : ∀ p ∈ T, p.1 ≠ a) (hl : ∃ xs, H a = some (.lst xs)) (e : Grow a H H') : Tabs T H' := fun p hp => by
  obtain ⟨ps, h1, h2, h3⟩ := t p hp
  obtain ⟨xs, hl⟩ := hl
  refine ⟨ps, e _ _ (ha p hp) h1, h2, fun pos cv hc => ?_⟩
  obtain ⟨c, e1, e2⟩ := h3 pos cv hc
  refine ⟨c, e1, e _ _ (fun z => ?_) e2⟩
  rw [z, hl] at e2
  unfold CodeO at e2
  cases e2
/-! ### the law's own call, with a table -/
abbrev emptyT : Obj := { cls := .none, data := .fields #[] }
section
variable {P : Program} {w : World} {K : PySem.W.Frag} {mg mb : Str → Option Value} {k : Nat} {fa a c T : Addr} {fd : FuncData} {x : Str} {sp : Sp} {s : Shared} {vs : List Value} {ns : List Int}
theorem enter_T {H : Hp} (KX : K.In s.heap) (n1 : s.heap.Ns mainGlobals mg) (n2 : s.heap.Ns builtinsNs mb) (n3 : ∀ y : Str, y ≠ "__name__" → mb y = bootBuiltins y) (n4 : s.heap.NoLimit) (n5 : s.gens = #[])
    (n6 : ∃ (bm : Addr) (ob : Obj), mg "__builtins__" = some (.ref bm) ∧ bm ≠ builtinsNs ∧ s.heap.get? bm = some ob ∧ ob.cls = .type "module" ∧ ob.dict = some builtinsNs ∧ ob.data = .plain)
    (hT : s.heap.get? T = some emptyT) (nT : K.lookup T = none) (C : PySem.W.CodeHd s.heap c T)
    (ha : s.heap.get? a = some { cls := .type "list", data := .seq vs.toArray }) (hr : Room k callerA)
    (F : ∀ base : Heap, K.In base → base.Ns mainGlobals mg → TabB base mg c T → FnG True P w K mg base CX0 k fa fd [x] sp) (hb : ∀ (t : Shared) (u : Value), BindsTo t fd ⟨[u], []⟩ [(x, u)])
    (hHT : H T = some (.tbl #[])) (only : ∀ b, b ≠ T → H b = none ∨ ∃ o xs, H b = some (.frz o (.lst xs))) (alone : ∀ b, H b ≠ none → (b = a ∧ K.lookup a = none) ∨ b = T) (hok : HOk P w H s.heap) (q : sp [.ref a] H (fun v _ => v = .bl true) E0) :
    codeAny (model P w) callerA (.call (.ref fa) ⟨[.ref a], []⟩) (LawEnd s) s := by
  have stays : ∀ {b : Addr} {o : Obj}, s.heap.get? b = some o → H b = none → (hidT s.heap H).get? b = some o := fun z n => hidT_get z n
  -- objects of other kinds are not tracked
  have other : ∀ {b : Addr} {o : Obj}, s.heap.get? b = some o → (∀ ws n, o.data ≠ .seq ws n) → o.data ≠ .fields #[] → H b = none := by
    intro b o z h1 h2
    refine Classical.byContradiction fun n => ?_
    rcases alone b n with ⟨e, _⟩ | e
    · rw [e, ha] at z
      cases z
      exact h1 _ _ rfl
    · rw [e, hT] at z
      cases z
      exact h2 rfl
  have nsKeep : ∀ {b : Addr} {m : Str → Option Value}, s.heap.Ns b m → (hidT s.heap H).Ns b m := by
    rintro b m ⟨o, es, ep, z, d, rest⟩
    refine ⟨o, es, ep, stays z (other z ?_ ?_), d, rest⟩
    · intro ws n h
      rw [d] at h
      cases h
    · intro h
      rw [d] at h
      cases h
  have inBase : K.In (hidT s.heap H) := by
    intro b o z
    refine stays (KX b o z) (Classical.byContradiction fun n => ?_)
    rcases alone b n with ⟨e, n'⟩ | e
    · rw [e, n'] at z
      cases z
    · rw [e, nT] at z
      cases z
  have md : Mod K mg (hidT s.heap H) := by
    refine ⟨inBase, nsKeep n1, ⟨mb, nsKeep n2, n3⟩, ?_⟩
    obtain ⟨mc, m1, m2⟩ := n4
    exact ⟨mc, nsKeep m1, m2⟩
  have plainMod : ∀ {b : Addr} {o : Obj}, s.heap.get? b = some o → o.data = .plain → (hidT s.heap H).get? b = some o := by
    intro b o z d
    refine stays z (other z ?_ ?_)
    · intro ws n h
      rw [d] at h
      cases h
    · intro h
      rw [d] at h
      cases h
  have TBx : TabB (hidT s.heap H) mg c T := by
    refine ⟨?_, ?_, ?_⟩
    · obtain ⟨o, us, file, tf, flags, tg, inF, text, tt, e1, r1, r2, r3, r⟩ := C
      refine ⟨o, us, file, tf, flags, tg, inF, text, tt, stays e1 (other e1 ?_ ?_), r1, r2, r3, r⟩
      · intro ws n h
        rw [r2] at h
        cases h
      · intro h
        rw [r2] at h
        cases h
        simp at r3
    · obtain ⟨bm, ob, b1, b2, b3, b4, b5, b6⟩ := n6
      refine ⟨bm, ob, b1, b2, ?_, ?_, plainMod b3 b6, b4, b5, b6⟩
      · intro h
        obtain ⟨o, es, ep, z, d, _⟩ := n1
        rw [h, z] at b3
        cases b3
        rw [d] at b6
        cases b6
      · intro h
        rw [h, hT] at b3
        cases b3
        cases b6
    · intro h
      obtain ⟨o, es, ep, z, d, _⟩ := n1
      rw [h, hT] at z
      cases z
      cases d
  have start0 : Env0 P w K mg (hidT s.heap H) callerA [] s H := by
    refine ⟨rfl, md, fun b o z => of_hidT z, Nat.le_of_eq (hidT_size _ _), trivial, ?_, hok, .of_eq n5⟩
    intro b z
    cases z
  have run := (F _ inBase (nsKeep n1) TBx).go (fun _ => rfl) hr start0 (hb s (.ref a)) (show Vals [V.ref a] [Value.ref a] from .cons rfl .nil) q
  refine codeAny_mono run ?_
  intro r t z
  match r, z with
  | .error _, z => exact z.elim
  | .ok .next, z => exact z.elim
  | .ok .brk, z => exact z.elim
  | .ok .cont, z => exact z.elim
  | .ok (.ret u), ⟨v, H', z1, z2, un, hok', rv, e⟩ =>
    have e' : v = .bl true := e
    subst e'
    have eu : u = Value.bool true := rv
    subst eu
    have same : ∀ b o, b ≠ T → s.heap.get? b = some o → t.heap.get? b = some o := by
      intro b o nb z
      cases hq : H b with
      | none => exact un.keep b o z hq (fun n => nomatch n) (fun n => nomatch n)
      | some u =>
        obtain n | ⟨ob, xs, n⟩ := only b nb
        · rw [hq] at n
          cases n
        · have n' := un.frzs b ob _ n
          have y1 := (hok b _ n).1
          have y2 := (hok' b _ n').1
          rw [z] at y1
          rw [y2, ← y1]
    obtain ⟨more, hm⟩ := un.tbls T #[] hHT
    have hm' : t.heap.get? T = some { cls := .none, data := .fields (#[] ++ more) } := hok' T _ hm
    refine ⟨rfl, ⟨?_, ?_⟩, z1, z2⟩
    · intro b o z
      by_cases hbT : b = T
      · rw [hbT] at z ⊢
        rw [hT] at z
        cases z
        exact .inr (.inl ⟨(C.tab hT).isCodeTable, rfl, #[], more, rfl, hm'⟩)
      · exact .inl (same b o hbT z)
    · intro b o z
      by_cases hbT : b = T
      · rw [hbT]
        exact ⟨_, hm'⟩
      · exact ⟨o, same b o hbT z⟩
def Hp.tab (T : Addr) : Hp := fun b => if b = T then some (.tbl #[]) else none
def Hp.both (T a : Addr) (o : Obj) (xs : List V) : Hp := fun b => if b = T then some (.tbl #[]) else if b = a then some (.frz o (.lst xs)) else none
theorem law_callT (KX : K.In s.heap) (n1 : s.heap.Ns mainGlobals mg) (n2 : s.heap.Ns builtinsNs mb) (n3 : ∀ y : Str, y ≠ "__name__" → mb y = bootBuiltins y) (n4 : s.heap.NoLimit) (n5 : s.gens = #[])
    (n6 : ∃ (bm : Addr) (ob : Obj), mg "__builtins__" = some (.ref bm) ∧ bm ≠ builtinsNs ∧ s.heap.get? bm = some ob ∧ ob.cls = .type "module" ∧ ob.dict = some builtinsNs ∧ ob.data = .plain)
    (hT : s.heap.get? T = some emptyT) (nT : K.lookup T = none) (C : PySem.W.CodeHd s.heap c T)
    (ha : s.heap.get? a = some { cls := .type "list", data := .seq vs.toArray }) (hi : IntsAre vs ns) (hl : ns.length ≤ sizeLine) (hr : Room k callerA)
    (F : ∀ base : Heap, K.In base → base.Ns mainGlobals mg → TabB base mg c T → FnG True P w K mg base CX0 k fa fd [x] sp) (hb : ∀ (t : Shared) (u : Value), BindsTo t fd ⟨[u], []⟩ [(x, u)])
    (hsp : ∀ H : Hp, H T = some (.tbl #[]) → SqL K H a (ns.map V.int) → sp [.ref a] H (fun v _ => v = .bl true) E0) :
    codeAny (model P w) callerA (.call (.ref fa) ⟨[.ref a], []⟩) (LawEnd s) s := by
  have rv := vals_ints hi
  have hlen := hi.length
  have aT : a ≠ T := by
    intro h
    rw [h, hT] at ha
    have := congrArg Obj.data (Option.some.inj ha)
    cases this
  by_cases own : K.lookup a = none
  · have hTt : Hp.both T a { cls := .type "list", data := .seq vs.toArray } (ns.map V.int) T = some (.tbl #[]) := if_pos rfl
    have at_a : Hp.both T a { cls := .type "list", data := .seq vs.toArray } (ns.map V.int) a = some (.frz { cls := .type "list", data := .seq vs.toArray } (.lst (ns.map V.int))) := (if_neg aT).trans (if_pos rfl)
    have rest : ∀ b, b ≠ T → b ≠ a → Hp.both T a { cls := .type "list", data := .seq vs.toArray } (ns.map V.int) b = none := fun b h1 h2 => (if_neg h1).trans (if_neg h2)
    refine enter_T (H := Hp.both T a { cls := .type "list", data := .seq vs.toArray } (ns.map V.int)) KX n1 n2 n3 n4 n5 n6 hT nT C ha hr F hb hTt (fun b nb => ?_) (fun b z => ?_) (fun b u z => ?_) (hsp _ hTt (.inl (.inr ⟨_, at_a⟩)))
    · by_cases e : b = a
      · exact .inr ⟨_, _, by rw [e]; exact at_a⟩
      · exact .inl (rest b nb e)
    · by_cases e1 : b = T
      · exact .inr e1
      · exact .inl ⟨Classical.byContradiction fun e => z (rest b e1 e), own⟩
    · by_cases e1 : b = T
      · subst e1
        rw [hTt] at z
        cases z
        exact hT
      · have e : b = a := Classical.byContradiction fun e => by
          rw [rest b e1 e] at z
          cases z
        subst e
        rw [at_a] at z
        cases z
        exact ⟨ha, by rw [List.length_map]; exact hl, vs, _, rv, ha⟩
  · obtain ⟨o, e⟩ := Option.ne_none_iff_exists'.mp own
    have e' := KX a o e
    rw [ha] at e'
    have eo := Option.some.inj e'
    subst eo
    have hTt : Hp.tab T T = some (.tbl #[]) := if_pos rfl
    refine enter_T (H := Hp.tab T) KX n1 n2 n3 n4 n5 n6 hT nT C ha hr F hb hTt (fun b nb => .inl (if_neg nb)) (fun b z => .inr (Classical.byContradiction fun e => z (if_neg e))) (fun b u z => ?_) (hsp _ hTt ?_)
    · by_cases e1 : b = T
      · subst e1
        rw [hTt] at z
        cases z
        exact hT
      · rw [show Hp.tab T b = none from if_neg e1] at z
        cases z
    · exact .inr ⟨_, vs.toArray, _, e, rfl, rfl, rfl, by rw [List.size_toArray, hlen]; exact hl, by simpa using rv⟩
end
/-- the end of a law's row, one def with a table of code objects -/
theorem walk_GT {l : PySem.W.OpenLaw} {n k : Nat} {q : Program} {loose : List Str} {XP : (Str → Option Value) → Heap → Prop} {YP : World → Heap → Prop} {d : DefRec} {x : Str}
    (hn : l.most = some n) (hn2 : n ≤ sizeLine) (hdf : d.params.defaults = []) (hr : Room k callerA)
    (F : ∀ (w : World) (mg : Str → Option Value) (fa : Addr) (h : Heap), YP w h → h.Ns mainGlobals mg → mg d.name = some (.ref fa) →
      ∃ (K : PySem.W.Frag) (fd : FuncData) (c T : Addr) (sp : Sp), K.In h ∧ h.get? T = some emptyT ∧ K.lookup T = none ∧ PySem.W.CodeHd h c T ∧ (∀ (s : Shared) (u : Value), BindsTo s fd ⟨[u], []⟩ [(x, u)]) ∧
        (∀ (H : Hp) (a : Addr) (ns : List Int), ns.length ≤ n → H T = some (.tbl #[]) → SqL K H a (ns.map V.int) → sp [.ref a] H (fun v _ => v = .bl true) E0) ∧
        ∀ base : Heap, K.In base → base.Ns mainGlobals mg → TabB base mg c T → FnG True l.prog w K mg base CX0 k fa fd [x] sp) :
    PySem.W.WalkO q loose XP YP l.row.toRowW d [] (fun f vs => PySem.call f vs) := by
  refine Att.attach_call hn hdf ?_
  intro w s₀ s₁ mg mb fa o pm cd doc a vs ns G Y ho hd hcd hmg hobj hints hlen hg
  obtain ⟨K, fd, c, T, sp, z1, zt, zn, zc, z2, z3, z4⟩ := F w mg fa _ Y G.T.g hmg
  exact law_callT z1 G.T.g G.T.b G.T.builtins G.T.nolimit hg G.T.bmain zt zn zc hobj hints (Nat.le_trans hlen hn2) hr z4 z2 fun H hH hS => z3 H a ns hlen hH hS
end G

namespace G
open PySem PySem.Spec PyProof.Rows L2 RZ
/-! ### a list, or a tuple -/
/-- b: a tuple -/
def SqX (K : PySem.W.Frag) : Bool → Hp → Addr → List V → Prop
  | true, H, a, xs => SqT K H a xs
  | false, H, a, xs => SqL K H a xs
theorem SqX.same {K : PySem.W.Frag} {b : Bool} {H H' : Hp} {a : Addr} {xs : List V} (e : Same H H') (h : SqX K b H a xs) : SqX K b H' a xs := by
  cases b with
  | true => exact SqT.same e h
  | false => exact SqL.same e h
theorem SqX.either {K : PySem.W.Frag} {b : Bool} {H : Hp} {a : Addr} {xs : List V} (h : SqX K b H a xs) : SqL K H a xs ∨ SqT K H a xs := by
  cases b with
  | true => exact .inr h
  | false => exact .inl h
def ItX (K : PySem.W.Frag) : Bool → Addr → It
  | true, a => Itt K a
  | false, a => Itl K a
def ItzX (K : PySem.W.Frag) : Bool → Addr → Addr → It
  | true, a, c => ItzT K a c
  | false, a, c => Itz K a c
theorem walk_seq {K : PySem.W.Frag} {b : Bool} {a : Addr} {xs : List V} : Walk (ItX K b a) xs.length (fun H => SqX K b H a xs) (YAt xs) := by
  cases b with
  | true => exact walk_tup
  | false => exact walk_list
theorem walk_zipX {K : PySem.W.Frag} {b : Bool} {a c : Addr} {xs ys : List V} {n : Nat} (hn : n = min xs.length ys.length) : Walk (ItzX K b a c) n (fun H => SqX K b H a xs ∧ SqX K b H c ys) (YPair (fun i => xs[i]?) (fun i => ys[i]?)) := by
  cases b with
  | false => exact walk_zip hn
  | true =>
    subst hn
    constructor
    · intro i _ hi q
      have h1 : i < xs.length := by omega
      have h2 : i < ys.length := by omega
      exact ⟨xs, ys, xs[i], ys[i], q.1, q.2, by simp [h1], by simp [h2]⟩
    · intro _ q
      exact ⟨xs, ys, q.1, q.2, by omega⟩
    · rintro i H v H' _ q ⟨T, x, z, h1, h2, h3, h4, h5⟩
      exact ⟨T, x, z, h1, h2, h3, h4 xs q.1, h5 ys q.2⟩
/-- which of the two it is, is told ahead -/
def iSeq (K : PySem.W.Frag) (tl : TE) : TI := fun σ H R => ∃ b : Bool, tl σ H fun x H1 => ∃ a, x = .ref a ∧ (∃ xs, SqX K b H1 a xs) ∧ R (ItX K b a) H1
theorem pi_seq {X : Cx} {tg l : Expr} {tl : TE} (hl : PE X l tl) : PI X tg l (iSeq X.K tl) := by
  constructor
  rintro pins s σ H R I ⟨b, h⟩
  cases b with
  | true => exact (pi_tup hl).run pins s σ H R I h
  | false => exact (pi_list hl).run pins s σ H R I h
theorem zipX_to {K : PySem.W.Frag} {b : Bool} {H : Hp} {a c : Addr} {xs ys : List V} {R : It → Hp → Prop} (h1 : SqX K b H a xs) (h2 : SqX K b H c ys) (h : R (ItzX K b a c) H) :
    (SqL K H a xs ∧ SqL K H c ys ∧ R (Itz K a c) H) ∨ (SqT K H a xs ∧ SqT K H c ys ∧ R (ItzT K a c) H) := by
  cases b with
  | true => exact .inr ⟨h1, h2, h⟩
  | false => exact .inl ⟨h1, h2, h⟩
def rIxX (K : PySem.W.Frag) : R2 := fun x y H Q => ∃ b p xs i v, x = .ref p ∧ y = .int i ∧ SqX K b H p xs ∧ atI xs i = some v ∧ Q v H
theorem ix_sqx {X : Cx} : IxR X (rIxX X.K) := by
  intro va sl pins s σ H x y v u Q I rx ry h e
  obtain ⟨b, p, xs, i, z, ex, ey, hs, ha, q⟩ := h
  cases b with
  | true => exact ix_tup va sl pins s σ H x y v u Q I rx ry ⟨p, xs, i, z, ex, ey, hs, ha, q⟩ e
  | false => exact ix_list va sl pins s σ H x y v u Q I rx ry ⟨p, xs, i, z, ex, ey, hs, ha, q⟩ e
def rSlX (K : PySem.W.Frag) : V → Option Int → Option Int → Hp → VK → Prop := fun x lo hi H Q => ∃ b a xs, x = .ref a ∧ SqX K b H a xs ∧ ∀ p H', Same H H' → SqX K b H' p (cutV xs lo hi) → Q (.ref p) H'
theorem sl_sqx {X : Cx} : SlR X (rSlX X.K) := by
  intro pins s σ H x v vl vu lo hi sl Q I rx hs pl pu h
  obtain ⟨b, a, xs, ex, hq, q⟩ := h
  cases b with
  | false => exact sl_list pins s σ H x v vl vu lo hi sl Q I rx hs pl pu ⟨a, xs, ex, hq, fun p hp => q p _ ((Same.refl H).new hp) (SqL.of upd_same)⟩
  | true =>
    refine sl_tupA pins s σ H x v vl vu lo hi sl Q I rx hs pl pu ⟨a, xs, ex, hq, fun w => ?_, fun w p hp => q p _ ((Same.refl H).new hp) (SqT.of upd_same)⟩
    refine q a H (Same.refl H) ?_
    have e : cutV xs lo hi = xs := by
      unfold cutV
      rw [w.1, w.2, List.drop_zero, Nat.sub_zero, List.take_length]
    rw [e]
    exact hq
section
variable {g : TG} {tt : TT} {te : TE} {vs : List Nat} {σ : L2.St} {D : Addr} {Qd : Hp → Prop} {H1 : Hp}
theorem lcM_seq {α : Type} {K : PySem.W.Frag} {b : Bool} {a : Addr} {c : α → V} {src : List α} (d : α → PyData) (hD : H1 D = none) (hS : SqX K b H1 a (src.map c)) (hn : src.length < 16777216)
    (hs : ∀ (i : Nat) (x : α) (H : Hp) (R : V → Hp → Prop) (S : Hp → Prop), src[i]? = some x → Same H1 H → (∀ y H4, Same H H4 → Rp (New H) H4 y (d x) → R y H4) →
      g (c x) (wipe σ vs) H fun σ2 H2 => wipe σ2 vs = wipe σ vs ∧ tt σ2 H2 fun b H3 => if b = true then te σ2 H3 R else S H3)
    (hd : ∀ H, Same H1 H → Rp (New H1) H (.ref D) (.list (src.map d)) → Qd H) :
    ∃ W : Nat → Nat → Hp → Prop, (∃ m, W 0 m (upd H1 D (.lst []))) ∧ ∀ i m H, W i m H →
      ((ItX K b a).stop i H ∧ Qd H) ∨ ((ItX K b a).go i H ∧ ∃ Nx : Hp → Prop, (∀ H', Nx H' → ∃ m', m' < m ∧ W (i + 1) m' H') ∧ ∀ x H', (ItX K b a).yld i H x H' → g x (wipe σ vs) H' fun σ2 H2 => wipe σ2 vs = wipe σ vs ∧ tt σ2 H2 fun b H3 =>
        if b = true then te σ2 H3 fun y H4 => ∃ acc, H4 D = some (.lst acc) ∧ acc.length < sizeLine ∧ Nx (upd H4 D (.lst (acc ++ [y]))) else Nx H3) := by
  cases b with
  | true => exact lcM_tup d hD hS hn hs hd
  | false => exact lcM_list d hD hS hn hs hd
theorem lcM_pairs {J : It} {Gd : Hp → Prop} {fx fy : Nat → Option V} {n : Nat} (w : Walk J n Gd (YPair fx fy)) (d : Nat → PyData) (hD : H1 D = none) (hG : ∀ H, Same H1 H → Gd H) (hn : n < 16777216)
    (hs : ∀ (i : Nat) (T : Addr) (x y : V) (H : Hp) (R : V → Hp → Prop) (S : Hp → Prop), i < n → fx i = some x → fy i = some y → Same H1 H → H T = some (.tup [x, y]) → (∀ y H4, Same H H4 → Rp (New H) H4 y (d i) → R y H4) →
      g (.ref T) (wipe σ vs) H fun σ2 H2 => wipe σ2 vs = wipe σ vs ∧ tt σ2 H2 fun b H3 => if b = true then te σ2 H3 R else S H3)
    (hd : ∀ H, Same H1 H → Rp (New H1) H (.ref D) (.list ((List.range n).map d)) → Qd H) :
    ∃ W : Nat → Nat → Hp → Prop, (∃ m, W 0 m (upd H1 D (.lst []))) ∧ ∀ i m H, W i m H →
      (J.stop i H ∧ Qd H) ∨ (J.go i H ∧ ∃ Nx : Hp → Prop, (∀ H', Nx H' → ∃ m', m' < m ∧ W (i + 1) m' H') ∧ ∀ x H', J.yld i H x H' → g x (wipe σ vs) H' fun σ2 H2 => wipe σ2 vs = wipe σ vs ∧ tt σ2 H2 fun b H3 =>
        if b = true then te σ2 H3 fun y H4 => ∃ acc, H4 D = some (.lst acc) ∧ acc.length < sizeLine ∧ Nx (upd H4 D (.lst (acc ++ [y]))) else Nx H3) := by
  refine lc_it w (fun i H => Same H1 H ∧ ∃ acc, acc.length ≤ i ∧ H D = some (.lst acc) ∧ RpA (Nw H1 D) H acc ((List.range i).map d)) ⟨(Same.refl _).new hD, [], Nat.le_refl 0, upd_same, .nil⟩ (fun i H _ z => hG H z.1) ?_ ?_
  · rintro i x H H' hi ⟨s1, acc, al, eD, ra⟩ ⟨T, x, z, rfl, hT, rfl, ex, ez⟩
    have sT := (Same.refl H).new (o := .tup [x, z]) hT
    refine hs i T x z _ _ _ hi ex ez (s1.trans sT) upd_same (fun y H4 s4 ry => ?_)
    have s4' := sT.trans s4
    refine ⟨acc, s4' _ _ eD, small_lt (by omega), (s1.trans s4').mut hD, acc ++ [y], by rw [List.length_append]; exact Nat.succ_le_succ al, upd_same, ?_⟩
    rw [List.range_succ, List.map_append]
    refine RpA.put ((ra.same s4').app (.cons (Rp.mono (fun b hb => ⟨(s1.trans sT).free hb, (ne_of_none (sT _ _ eD) hb).symm⟩) (fun _ _ _ e => e) _ _ ry) .nil)) nw_not
  · rintro H ⟨s1, acc, al, eD, ra⟩
    exact hd H s1 (.lst hD eD (RpA.mono (fun b z => z.1) (fun _ _ _ e => e) _ _ ra))
end
def rTupOf (K : PySem.W.Frag) : List V → Hp → VK → Prop := fun xs H Q => ∃ p ys, xs = [.ref p] ∧ ((SqL K H p ys ∧ ∀ l, H l = none → Q (.ref l) (upd H l (.tup ys))) ∨ (SqT K H p ys ∧ Q (.ref p) H))
/-- a lambda's name in the def n -/
abbrev lamQ (n : Str) : Str := n ++ ".<locals>." ++ "<lambda>"
theorem code_of {K : PySem.W.Frag} {x qual : Str} {params : Arguments} {body : List Stmt} {scope : Scope} {dvs : List V} {kws : List (Str × V)} {p : Str × Option Str} {fd : FuncData}
    (F : FunD K x qual params body scope dvs kws (He.fAd K p) fd) : fd.code = .ref (He.codeOf K p) := by
  obtain ⟨oc, od, dV, kV, doc, pm, an, cdv, ct, osl, rfl, lk, hcd, _, _⟩ := F.ex
  obtain ⟨c, rfl⟩ := He.codeIn_ref hcd
  rw [He.codeOf_eq lk rfl] <;> rfl
end G

namespace M
open PySem PySem.Spec PyProof.Rows L2 G LamX RZ
def top (i : Nat) : Stmt := PySem.Challenge.pw_divisorsums_k85_whole_tables_undone.main.body.getD i (.Pass ⟨0, 0, 0, 0⟩)
abbrev s_is_integer : Stmt := top 6
theorem sc_is_integer : FnScope ["value"] ["value"] (defScope s_is_integer) := ⟨rfl, rfl, rfl, by decide +kernel, rfl, by decide +kernel, by decide +kernel⟩
abbrev s_is_list : Stmt := top 7
theorem sc_is_list : FnScope ["value"] ["value"] (defScope s_is_list) := ⟨rfl, rfl, rfl, by decide +kernel, rfl, by decide +kernel, by decide +kernel⟩
abbrev s_is_number_of : Stmt := top 9
theorem sc_is_number_of : FnScope ["value", "most"] ["value", "most"] (defScope s_is_number_of) := ⟨rfl, rfl, rfl, by decide +kernel, rfl, by decide +kernel, by decide +kernel⟩
abbrev s_share_of : Stmt := top 10
theorem sc_share_of : FnScope ["near", "far", "one", "other"] ["near", "far"] (defScope s_share_of) := ⟨rfl, rfl, rfl, by decide +kernel, rfl, by decide +kernel, by decide +kernel⟩
abbrev s_powers_of : Stmt := top 11
theorem sc_powers_of : FnScope ["number", "found", "left", "prime", "many"] ["number"] (defScope s_powers_of) := ⟨rfl, rfl, rfl, by decide +kernel, rfl, by decide +kernel, by decide +kernel⟩
abbrev s_divisors_by : Stmt := top 12
theorem sc_divisors_by : FnScope ["powers", "found", "prime", "many", "longer", "factor", "turn", "one"] ["powers"] (defScope s_divisors_by) := ⟨rfl, rfl, rfl, by decide +kernel, rfl, by decide +kernel, by decide +kernel⟩
abbrev s_divisors_of : Stmt := top 13
theorem sc_divisors_of : FnScope ["number"] ["number"] (defScope s_divisors_of) := ⟨rfl, rfl, rfl, by decide +kernel, rfl, by decide +kernel, by decide +kernel⟩
abbrev s_sign_of : Stmt := top 15
theorem sc_sign_of : FnScope ["number", "powers", "prime", "many"] ["number"] (defScope s_sign_of) := ⟨rfl, rfl, rfl, by decide +kernel, rfl, by decide +kernel, by decide +kernel⟩
abbrev s_is_lot_value : Stmt := top 19
theorem sc_is_lot_value : FnScope ["value", "one", "near", "far"] ["value"] (defScope s_is_lot_value) := ⟨rfl, rfl, rfl, by decide +kernel, rfl, by decide +kernel, by decide +kernel⟩
abbrev s_want_lot : Stmt := top 20
theorem sc_want_lot : FnScope ["value"] ["value"] (defScope s_want_lot) := ⟨rfl, rfl, rfl, by decide +kernel, rfl, by decide +kernel, by decide +kernel⟩
abbrev s_shares_of : Stmt := top 21
theorem sc_shares_of : FnScope ["numbers", "near", "far"] ["numbers"] (defScope s_shares_of) := ⟨rfl, rfl, rfl, by decide +kernel, rfl, by decide +kernel, by decide +kernel⟩
abbrev s_free_count : Stmt := top 22
theorem sc_free_count : FnScope ["number", "found", "prime", "many"] ["number"] (defScope s_free_count) := ⟨rfl, rfl, rfl, by decide +kernel, rfl, by decide +kernel, by decide +kernel⟩
abbrev s_share_table : Stmt := top 23
theorem sc_share_table : FnScope ["numbers"] ["numbers"] (defScope s_share_table) := ⟨rfl, rfl, rfl, by decide +kernel, rfl, by decide +kernel, by decide +kernel⟩
abbrev s_lacking_of : Stmt := top 25
theorem sc_lacking_of : FnScope ["numbers", "number", "one"] ["numbers"] (defScope s_lacking_of) := ⟨rfl, rfl, rfl, by decide +kernel, rfl, by decide +kernel, by decide +kernel⟩
abbrev s_is_closed_of : Stmt := top 26
theorem sc_is_closed_of : FnScope ["numbers"] ["numbers"] (defScope s_is_closed_of) := ⟨rfl, rfl, rfl, by decide +kernel, rfl, by decide +kernel, by decide +kernel⟩
abbrev s_lowest : Stmt := top 27
theorem sc_lowest : FnScope ["above", "below", "both"] ["above", "below"] (defScope s_lowest) := ⟨rfl, rfl, rfl, by decide +kernel, rfl, by decide +kernel, by decide +kernel⟩
abbrev s_undone_of : Stmt := top 28
theorem sc_undone_of : FnScope ["numbers", "found", "near", "row", "far", "above", "below", "number", "sign", "under"] ["numbers"] (defScope s_undone_of) := ⟨rfl, rfl, rfl, by decide +kernel, rfl, by decide +kernel, by decide +kernel⟩
abbrev s_is_closed : Stmt := top 29
theorem sc_is_closed : FnScope ["numbers"] ["numbers"] (defScope s_is_closed) := ⟨rfl, rfl, rfl, by decide +kernel, rfl, by decide +kernel, by decide +kernel⟩
abbrev s_undone_table : Stmt := top 30
theorem sc_undone_table : FnScope ["numbers"] ["numbers"] (defScope s_undone_table) := ⟨rfl, rfl, rfl, by decide +kernel, rfl, by decide +kernel, by decide +kernel⟩
abbrev s__law_pot : Stmt := top 32
theorem sc__law_pot : FnScope ["script", "k", "cell"] ["script", "k"] (defScope s__law_pot) := ⟨rfl, rfl, rfl, by decide +kernel, rfl, by decide +kernel, by decide +kernel⟩
abbrev s__law_draw : Stmt := top 33
theorem sc__law_draw : FnScope ["pot", "many", "digit"] ["pot", "many"] (defScope s__law_draw) := ⟨rfl, rfl, rfl, by decide +kernel, rfl, by decide +kernel, by decide +kernel⟩
abbrev s__law_pick : Stmt := top 34
theorem sc__law_pick : FnScope ["pot", "some"] ["pot", "some"] (defScope s__law_pick) := ⟨rfl, rfl, rfl, by decide +kernel, rfl, by decide +kernel, by decide +kernel⟩
abbrev s__law_share : Stmt := top 35
theorem sc__law_share : FnScope ["near", "far", "one", "other"] ["near", "far"] (defScope s__law_share) := ⟨rfl, rfl, rfl, by decide +kernel, rfl, by decide +kernel, by decide +kernel⟩
abbrev s__law_divisors : Stmt := top 36
theorem sc__law_divisors : FnScope ["number", "found", "at"] ["number"] (defScope s__law_divisors) := ⟨rfl, rfl, rfl, by decide +kernel, rfl, by decide +kernel, by decide +kernel⟩
abbrev s__law_primes : Stmt := top 37
theorem sc__law_primes : FnScope ["number", "found", "left", "at"] ["number"] (defScope s__law_primes) := ⟨rfl, rfl, rfl, by decide +kernel, rfl, by decide +kernel, by decide +kernel⟩
abbrev s__law_free : Stmt := top 38
theorem sc__law_free : FnScope ["number", "found", "prime"] ["number"] (defScope s__law_free) := ⟨rfl, rfl, rfl, by decide +kernel, rfl, by decide +kernel, by decide +kernel⟩
abbrev s__law_sign : Stmt := top 39
theorem sc__law_sign : FnScope ["number", "primes", "prime"] ["number"] (defScope s__law_sign) := ⟨rfl, rfl, rfl, by decide +kernel, rfl, by decide +kernel, by decide +kernel⟩
abbrev s__law_worth : Stmt := top 40
theorem sc__law_worth : FnScope ["table", "rows", "above", "below", "at", "some", "lead", "late", "part", "row", "one", "other"] ["table"] (defScope s__law_worth) := ⟨rfl, rfl, rfl, by decide +kernel, rfl, by decide +kernel, by decide +kernel⟩
abbrev s__law_lot : Stmt := top 41
theorem sc__law_lot : FnScope ["pot", "most", "kind", "found", "more", "at"] ["pot", "most"] (defScope s__law_lot) := ⟨rfl, rfl, rfl, by decide +kernel, rfl, by decide +kernel, by decide +kernel⟩
abbrev s__law_is_closed : Stmt := top 42
theorem sc__law_is_closed : FnScope ["numbers", "number", "one"] ["numbers"] (defScope s__law_is_closed) := ⟨rfl, rfl, rfl, by decide +kernel, rfl, by decide +kernel, by decide +kernel⟩
abbrev s__law_product : Stmt := top 43
theorem sc__law_product : FnScope ["numbers", "found", "number"] ["numbers"] (defScope s__law_product) := ⟨rfl, rfl, rfl, by decide +kernel, rfl, by decide +kernel, by decide +kernel⟩
abbrev s__law_heard : Stmt := top 44
theorem sc__law_heard : FnScope ["call", "told", "e"] ["call"] (defScope s__law_heard) := ⟨rfl, rfl, rfl, by decide +kernel, rfl, by decide +kernel, by decide +kernel⟩
abbrev s__law_plus : Stmt := top 45
theorem sc__law_plus : FnScope ["near", "far", "above", "below", "both"] ["near", "far"] (defScope s__law_plus) := ⟨rfl, rfl, rfl, by decide +kernel, rfl, by decide +kernel, by decide +kernel⟩
abbrev s__law_right : Stmt := top 46
theorem sc__law_right : FnScope ["pot", "turn", "numbers", "told", "due", "near", "row", "far", "total", "number", "sign", "free", "shares", "at", "to", "by", "one"] ["pot"] (defScope s__law_right) := ⟨rfl, rfl, rfl, by decide +kernel, rfl, by decide +kernel, by decide +kernel⟩
abbrev s_law : Stmt := top 47
theorem sc_law : FnScope ["script", "k"] ["script"] (defScope s_law) := ⟨rfl, rfl, rfl, by decide +kernel, rfl, by decide +kernel, by decide +kernel⟩
end M
namespace M
open PySem PySem.Spec PyProof.Rows L2 G LamX RZ
section
variable {P : Program} {w : World} {K : PySem.W.Frag} {mg : Str → Option Value} {base : Heap}
/-! whole numbers, their bounds -/
def sp_is_integer (_ : PySem.W.Frag) : Sp := spec1 fun x H Q _ => ∃ n : Int, x = .int n ∧ Q (.bl true) H
theorem ok_is_integer {af : Addr} {fd : FuncData} (F : FunD K "is_integer" "is_integer" (defArgs s_is_integer) (defBody s_is_integer) (defScope s_is_integer) [] [] af fd) (B : Bt mg)  : FnG False P w K mg base CX0 1 af fd ["value"] (sp_is_integer K) := by
  refine okG F sc_is_integer ar1 fun cdv A outer s H vs Q E hg hr h => ?_
  refine ⟨_, PSs.nox (pss_one (ps_ret (pe_and (pe_callB call_isi (by rfl) B.isinstance (by decide +kernel) (pa_cons (pv 0) (pa_cons (pe_bltn (v := .ty "int") (by rfl) B.int (by decide +kernel) rfl) pa_nil))) (pe_one (pe_not (pe_callB call_isi (by rfl) B.isinstance (by decide +kernel) (pa_cons (pv 0) (pa_cons (pe_bltn (v := .ty "bool") (by rfl) B.bool (by decide +kernel) rfl) pa_nil)))))))), ?_⟩
  obtain ⟨_, rfl, n, rfl, q⟩ := h
  refine ⟨_, rfl, _, _, _, _, true, rfl, .ty "int", .base (.int n), kit_ty (by decide +kernel), true, rfl, iteT ?_⟩
  exact ⟨_, rfl, _, _, _, _, false, rfl, .ty "bool", .base (.int n), kit_ty (by decide +kernel), false, rfl, q⟩
def sp_is_count (_ : PySem.W.Frag) : Sp := spec1 fun x H Q _ => ∃ n : Int, x = .int n ∧ Q (.bl (decide (0 ≤ n))) H
def sp_want_many (_ : PySem.W.Frag) : Sp := spec3 fun x y z H Q _ => ∃ n m l : Int, x = .int n ∧ y = .int m ∧ z = .int l ∧ 0 ≤ n ∧ l ≤ n ∧ n ≤ m ∧ Q .non H
end
end M
namespace M
open PySem PySem.Spec PyProof.Rows L2 G LamX RZ
section
variable {P : Program} {w : World} {K : PySem.W.Frag} {mg : Str → Option Value} {base : Heap}
/-! numbers within bounds -/
def sp_is_number_of (_ : PySem.W.Frag) : Sp := spec2 fun x y H Q _ => ∃ n m : Int, x = .int n ∧ y = .int m ∧ 1 ≤ n ∧ n ≤ m ∧ Q (.bl true) H
theorem ok_is_number_of {af : Addr} {fd : FuncData} (F : FunD K "is_number_of" "is_number_of" (defArgs s_is_number_of) (defBody s_is_number_of) (defScope s_is_number_of) [] [] af fd) (B : Bt mg) (C_is_integer : Cl False P w K mg base 1 "is_integer" 1 [] (sp_is_integer K)) : FnG False P w K mg base CX0 2 af fd ["value", "most"] (sp_is_number_of K) := by
  refine okG F sc_is_number_of ar2 fun cdv A outer s H vs Q E hg hr h => ?_
  refine ⟨_, PSs.nox (pss_one (ps_ret (pe_and (pe_cl C_is_integer (fun h => h.elim) hr (by decide) rfl (pa_cons (pv 0) pa_nil)) (pe_one (pe_chain op_le op_le pe_int (pv 0) (pv 1)))))), ?_⟩
  obtain ⟨_, _, rfl, n, m, rfl, rfl, h1, h2, q⟩ := h
  refine ⟨_, rfl, _, rfl, n, rfl, true, rfl, iteT ?_⟩
  refine ⟨_, rfl, _, _, rfl, rfl, true, bl_t h1, iteT ⟨_, rfl, _, _, rfl, rfl, blT (Q := Q) h2 q⟩⟩
def sp_want_number (_ : PySem.W.Frag) : Sp := spec2 fun x y H Q _ => ∃ n m : Int, x = .int n ∧ y = .int m ∧ 1 ≤ n ∧ n ≤ m ∧ Q .non H
end
end M
namespace M
open PySem PySem.Spec PyProof.Rows L2 G LamX RZ
section
variable {P : Program} {w : World} {K : PySem.W.Frag} {mg : Str → Option Value} {base : Heap}
def sp_want_other_number (_ : PySem.W.Frag) : Sp := spec2 fun x y H Q _ => ∃ n m : Int, x = .int n ∧ y = .int m ∧ 1 ≤ n ∧ n ≤ m ∧ Q .non H
end
end M
namespace M
open PySem PySem.Spec PyProof.Rows L2 G LamX RZ
section
variable {P : Program} {w : World} {K : PySem.W.Frag} {mg : Str → Option Value} {base : Heap}
/-! the law's own draws -/
/-- a pot: two ints that are not negative, the second one not great -/
def PotAt (H : Hp) (a : Addr) : Prop := ∃ p q : Int, H a = some (.lst [.int p, .int q]) ∧ 0 ≤ p ∧ 0 ≤ q ∧ q ≤ 4294967296
def sp__law_pot (K : PySem.W.Frag) : Sp := spec2 fun x y H Q _ => ∃ (l : Addr) (ns : List Int) (k : Nat), x = .ref l ∧ y = .int k ∧ SqL K H l (ns.map V.int) ∧ k ≤ 63 ∧ ∀ a H', Same H H' → H a = none → PotAt H' a → Q (.ref a) H'
theorem potLast (x : Int) : 0 ≤ x % 2147483563 + 1 ∧ x % 2147483563 + 1 ≤ 4294967296 := by omega
theorem potMod (x : Int) : 0 ≤ x % 2147483549 ∧ x % 2147483549 ≤ 18446744073709551615 := by omega
theorem ok__law_pot {af : Addr} {fd : FuncData} (F : FunD K "_law_pot" "_law_pot" (defArgs s__law_pot) (defBody s__law_pot) (defScope s__law_pot) [] [] af fd) (B : Bt mg)  : FnG False P w K mg base CX0 1 af fd ["script", "k"] (sp__law_pot K) := by
  refine okG F sc__law_pot ar2 fun cdv A outer s H vs Q E hg hr h => ?_
  refine ⟨_, PSs.nox (pss_cons (ps_set (i := 2) sc__law_pot.nd rfl (.inl rfl) (pe_ifExp (pt_cmpR op_lt (pv 1) (pe_callB call_len_seq (by rfl) B.len (by decide +kernel) (pa_cons (pv 0) pa_nil)) (nomark _)) (pe_callB call_abs (by rfl) B.abs (by decide +kernel) (pa_cons (pe_ix ix_list (pv 0) (pv 1) (fun _ _ => rfl)) pa_nil)) (pe_op op_add (pe_op op_mul pe_int (pv 1)) pe_int)))
    (pss_one (ps_ret (pe_lst (pa_cons (pe_callB (call_max2 rfl) (by rfl) B.max (by decide +kernel) (pa_cons pe_int (pa_cons (pe_op op_sub (pv 2) (pe_op op_pow pe_int pe_int)) pa_nil))) (pa_cons (pe_op op_add (pe_op op_mod (pe_callTy call_int1 (by rfl) B.int (by decide +kernel) (pa_cons (pe_op op_add (pe_op op_add (pe_op op_mul (pe_op op_mod (pe_callTy call_int1 (by rfl) B.int (by decide +kernel) (pa_cons (pv 2) pa_nil)) pe_int) pe_int) (pe_op op_mul pe_int (pv 1))) pe_int) pa_nil)) pe_int) pe_int) pa_nil)))))), ?_⟩
  obtain ⟨_, _, rfl, l, ns, k, rfl, rfl, hS, hk, q⟩ := h
  refine ⟨_, rfl, _, rfl, l, _, rfl, .inl hS, _, _, rfl, rfl, _, rfl, ite2 (fun hlt => ?_) (fun _ => ?_)⟩
  · have hlt' : k < ns.length := by
      have := of_decide_eq_true hlt
      rw [List.length_map] at this
      omega
    refine ⟨_, rfl, _, rfl, l, _, _, _, rfl, rfl, hS, at_ints hlt', _, rfl, ?_⟩
    refine ⟨_, rfl, _, _, rfl, rfl, ⟨by decide, by decide, by decide⟩, _, _, rfl, rfl, _, _, rfl, _, rfl, .inl ⟨_, rfl, _, _, rfl, rfl, (by show (0 : Int) < _; decide), _, _, rfl, rfl, mulc (potMod _), _, rfl, _, _, rfl, rfl, c64, _, _, rfl, rfl, _, _, rfl, rfl, .inl ⟨_, rfl, _, _, rfl, rfl, (by show (0 : Int) < _; decide), _, _, rfl, rfl, sz2, fun p hp => ?_⟩⟩⟩
    exact q p _ (Same.new (Same.refl _) hp) hp ⟨_, _, upd_same, max0 _, potLast _⟩
  · refine ⟨_, rfl, _, _, rfl, rfl, c64, _, _, rfl, rfl, ?_⟩
    refine ⟨_, rfl, _, _, rfl, rfl, ⟨by decide, by decide, by decide⟩, _, _, rfl, rfl, _, _, rfl, _, rfl, .inl ⟨_, rfl, _, _, rfl, rfl, (by show (0 : Int) < _; decide), _, _, rfl, rfl, mulc (potMod _), _, rfl, _, _, rfl, rfl, c64, _, _, rfl, rfl, _, _, rfl, rfl, .inl ⟨_, rfl, _, _, rfl, rfl, (by show (0 : Int) < _; decide), _, _, rfl, rfl, sz2, fun p hp => ?_⟩⟩⟩
    exact q p _ (Same.new (Same.refl _) hp) hp ⟨_, _, upd_same, max0 _, potLast _⟩
def sp__law_draw (_ : PySem.W.Frag) : Sp := spec2 fun x y H Q _ => ∃ (a : Addr) (m : Int), x = .ref a ∧ y = .int m ∧ PotAt H a ∧ 0 < m ∧ m < 2 ^ 64 ∧ ∀ (d : Int) H', 0 ≤ d → d < m → Grow a H H' → PotAt H' a → Q (.int d) H'
theorem ok__law_draw {af : Addr} {fd : FuncData} (F : FunD K "_law_draw" "_law_draw" (defArgs s__law_draw) (defBody s__law_draw) (defScope s__law_draw) [] [] af fd) (B : Bt mg)  : FnG False P w K mg base CX0 1 af fd ["pot", "many"] (sp__law_draw K) := by
  refine okG F sc__law_draw ar2 fun cdv A outer s H vs Q E hg hr h => ?_
  refine ⟨_, PSs.nox (pss_cons (ps_if (pt_cmpR op_gt (pe_ix ix_list (pv 0) pe_int (fun _ _ => rfl)) pe_int (nomark _))
      (pss_cons (ps_asg (pe_callB call_divmodW (by rfl) B.divmod (by decide +kernel) (pa_cons (pe_ix ix_list (pv 0) pe_int (fun _ _ => rfl)) (pa_cons (pv 1) pa_nil))) (pg_tup rfl (pgs_cons (pg_sub (pv 0) pe_int set_list) (pgs_cons (pg_name (i := 2) sc__law_draw.nd rfl (.inl rfl)) pgs_nil))))
      (pss_one (ps_ret (pv 2))))
      pss_nil)
    (pss_cons (ps_asg (pe_op op_mod (pe_callTy call_int1 (by rfl) B.int (by decide +kernel) (pa_cons (pe_op op_add (pe_op op_mul (pe_ix ix_list (pv 0) pe_int (fun _ _ => rfl)) pe_int) pe_int) pa_nil)) pe_int) (pg_sub (pv 0) pe_int set_list))
    (pss_one (ps_ret (pe_op op_mod (pe_callTy call_int1 (by rfl) B.int (by decide +kernel) (pa_cons (pe_op op_fdivW (pe_op op_mod (pe_callTy call_int1 (by rfl) B.int (by decide +kernel) (pa_cons (pe_op op_mul (pe_ix ix_list (pv 0) pe_int (fun _ _ => rfl)) (pe_ix ix_list (pv 0) pe_int (fun _ _ => rfl))) pa_nil)) pe_int) pe_int) pa_nil)) (pv 1)))))), ?_⟩
  obtain ⟨_, _, rfl, a, m, rfl, rfl, ⟨p, r, hp, h0, h1, h2⟩, hm, hm2, q⟩ := h
  refine ⟨_, rfl, a, _, _, _, rfl, rfl, SqL.of hp, at0, _, _, rfl, rfl, _, rfl, ite2 (fun _ => ?_) (fun _ => ?_)⟩
  · refine ⟨_, rfl, a, _, _, _, rfl, rfl, SqL.of hp, at0, _, rfl, p, m, rfl, divp hm hm2, fun t ht => ?_⟩
    have nat' : a ≠ t := ne_of_none hp ht
    refine ⟨t, _, rfl, SqT.of upd_same, rfl, _, _, rfl, ⟨_, rfl, a, _, _, 0, rfl, rfl, (upd_ne nat').trans hp, rfl, _, _, rfl, ⟨rfl, _, rfl, ?_⟩⟩⟩
    refine q _ _ (Int.emod_nonneg _ (by omega)) (Int.emod_lt_of_pos _ hm) (((Grow.refl a H).new ht).put) ⟨_, _, upd_same, divNN h0 hm, h1, h2⟩
  · refine ⟨_, rfl, a, _, _, _, rfl, rfl, SqL.of hp, at1, _, _, rfl, rfl, mulc ⟨h1, by omega⟩, _, _, rfl, rfl, .inl ⟨_, rfl, _, _, rfl, rfl, (by show (0 : Int) < _; decide), _, rfl, a, _, _, 1, rfl, rfl, hp, rfl, ?_⟩⟩
    have e1 : (upd H a (.lst ([V.int p, V.int r].set 1 (.int ((r * 40487 + 13003) % 2147483563))))) a = some (.lst [.int p, .int ((r * 40487 + 13003) % 2147483563)]) := upd_same
    have b1 : 0 ≤ (r * 40487 + 13003) % 2147483563 ∧ (r * 40487 + 13003) % 2147483563 ≤ 4294967296 := by omega
    refine ⟨_, rfl, a, _, _, _, rfl, rfl, SqL.of e1, at1, _, rfl, a, _, _, _, rfl, rfl, SqL.of e1, at1, _, _, rfl, rfl, mulc ⟨b1.1, by omega⟩, .inl ⟨_, rfl, _, _, rfl, rfl, (by show (0 : Int) < _; decide), _, _, rfl, rfl, divw (by decide) (by decide), .inl ⟨_, rfl, _, rfl, _, _, rfl, rfl, hm, ?_⟩⟩⟩
    exact q _ _ (Int.emod_nonneg _ (by omega)) (Int.emod_lt_of_pos _ hm) (Grow.put (Grow.refl a H)) ⟨_, _, e1, h0, b1⟩
def sp__law_pick (K : PySem.W.Frag) : Sp := spec2 fun x y H Q _ => ∃ (a l : Addr) (xs : List V), x = .ref a ∧ y = .ref l ∧ PotAt H a ∧ l ≠ a ∧ SqL K H l xs ∧ 0 < xs.length ∧ xs.length < 100000 ∧ ∀ (v : V) H', v ∈ xs → Grow a H H' → PotAt H' a → Q v H'
theorem ok__law_pick {af : Addr} {fd : FuncData} (F : FunD K "_law_pick" "_law_pick" (defArgs s__law_pick) (defBody s__law_pick) (defScope s__law_pick) [] [] af fd) (B : Bt mg) (C__law_draw : Cl False P w K mg base 1 "_law_draw" 2 [] (sp__law_draw K)) : FnG False P w K mg base CX0 2 af fd ["pot", "some"] (sp__law_pick K) := by
  refine okG F sc__law_pick ar2 fun cdv A outer s H vs Q E hg hr h => ?_
  refine ⟨_, PSs.nox (pss_one (ps_ret (pe_ix ix_list (pv 1) (pe_cl C__law_draw (fun h => h.elim) hr (by decide) rfl (pa_cons (pv 0) (pa_cons (pe_callB call_len_seq (by rfl) B.len (by decide +kernel) (pa_cons (pv 1) pa_nil)) pa_nil))) (fun _ _ => rfl)))), ?_⟩
  obtain ⟨_, _, rfl, a, l, xs, rfl, rfl, hp, hl, hS, hn, hn2, q⟩ := h
  refine ⟨_, rfl, _, rfl, _, rfl, l, xs, rfl, .inl hS, _, _, rfl, a, _, rfl, rfl, hp, by omega, by omega, fun d H' h1 h2 g hp' => ?_⟩
  obtain ⟨i, rfl⟩ := Int.eq_ofNat_of_zero_le h1
  have hi : i < xs.length := by omega
  exact ⟨l, xs, _, xs[i], rfl, rfl, g.seq hl hS, atI_nat (List.getElem?_eq_getElem hi), q _ _ (List.getElem_mem hi) g hp'⟩

end
end M
namespace M
open PySem PySem.Spec PyProof.Rows L2 G LamX RZ
section
variable {P : Program} {w : World} {K : PySem.W.Frag} {mg : Str → Option Value} {base : Heap}
theorem PotAt.same {H H' : Hp} {a : Addr} (h : PotAt H a) (s : Same H H') : PotAt H' a := by
  obtain ⟨p, q, e, r⟩ := h
  exact ⟨p, q, s _ _ e, r⟩
theorem PotAt.ne {H : Hp} {a b : Addr} (h : PotAt H a) (e : H b = none) : b ≠ a := by
  obtain ⟨p, q, z, _⟩ := h
  rintro rfl
  rw [e] at z
  cases z
theorem PotAt.new {H : Hp} {a b : Addr} {o : HO} (h : PotAt H a) (e : H b = none) : PotAt (upd H b o) a := h.same ((Same.refl H).new e)
/-- the pot, and a list that stands; what stood at first stands -/
structure Lv (H0 : Hp) (a l : Addr) (xs : List V) (H : Hp) : Prop where
  pot : PotAt H a
  ne : l ≠ a
  at_ : H l = some (.lst xs)
  gr : Grow a H0 H
theorem Lv.same {H0 : Hp} {a l : Addr} {xs : List V} {H H' : Hp} (h : Lv H0 a l xs H) (s : Same H H') : Lv H0 a l xs H' := ⟨h.pot.same s, h.ne, s _ _ h.at_, h.gr.trans (Grow.of s)⟩
theorem Lv.grow {H0 : Hp} {a l : Addr} {xs : List V} {H H' : Hp} (h : Lv H0 a l xs H) (g : Grow a H H') (p : PotAt H' a) : Lv H0 a l xs H' := ⟨p, h.ne, g _ _ h.ne h.at_, h.gr.trans g⟩
/-- a picked int lies within -/
theorem picked {v : V} {ns : List Int} {lo hi : Int} (h : v ∈ ns.map V.int) (hb : ∀ x ∈ ns, lo ≤ x ∧ x ≤ hi) : ∃ m : Int, v = .int m ∧ m ∈ ns ∧ lo ≤ m ∧ m ≤ hi := by
  obtain ⟨x, hx, rfl⟩ := List.mem_map.mp h
  exact ⟨x, rfl, hx, hb x hx⟩

end
end M
namespace M
open PySem PySem.Spec PyProof.Rows L2 G LamX RZ
section
variable {P : Program} {w : World} {K : PySem.W.Frag} {mg : Str → Option Value} {base : Heap}
/-! lists in which multiples are set, one by one -/
/-- whether k is one of the first j multiples of m from st on -/
def hit (st m j k : Nat) : Bool := decide (m ∣ k) && decide (st ≤ k) && decide (k < st + j * m)
theorem hit_zero (st m k : Nat) : hit st m 0 k = false := by
  unfold hit
  rw [Bool.eq_false_iff]
  intro z
  simp only [Bool.and_eq_true, decide_eq_true_eq] at z
  omega
theorem hit_next {st m j k : Nat} (hm : 0 < m) (hd : m ∣ st) : hit st m (j + 1) k = (hit st m j k || decide (k = st + j * m)) := by
  unfold hit
  rw [Bool.eq_iff_iff]
  simp only [Bool.and_eq_true, Bool.or_eq_true, decide_eq_true_eq, Nat.succ_mul]
  constructor
  · rintro ⟨⟨h1, h2⟩, h3⟩
    by_cases e : k < st + j * m
    · exact .inl ⟨⟨h1, h2⟩, e⟩
    · refine .inr ?_
      have d : m ∣ k - (st + j * m) := Nat.dvd_sub h1 (Nat.dvd_add hd (Nat.dvd_mul_left m j))
      rcases Nat.eq_zero_or_pos (k - (st + j * m)) with z | z
      · omega
      · have := Nat.le_of_dvd z d
        omega
  · rintro (⟨⟨h1, h2⟩, h3⟩ | rfl)
    · exact ⟨⟨h1, h2⟩, by omega⟩
    · exact ⟨⟨Nat.dvd_add hd (Nat.dvd_mul_left m j), Nat.le_add_right _ _⟩, by omega⟩
theorem hit_here {st m j : Nat} : hit st m j (st + j * m) = false := by
  unfold hit
  simp
theorem hit_done {st m k : Nat} {hi : Int} (hm : 0 < m) (hd : m ∣ st) (hk : (k : Int) < hi) : hit st m (turns st hi m) k = (decide (m ∣ k) && decide (st ≤ k)) := by
  unfold hit
  by_cases h1 : m ∣ k
  · by_cases h2 : st ≤ k
    · rw [decide_eq_true h1, decide_eq_true h2]
      simp only [Bool.true_and]
      refine decide_eq_true ?_
      obtain ⟨c, hc⟩ := Nat.dvd_sub h1 hd
      have e : k = st + c * m := by rw [Nat.mul_comm]; omega
      have := turns_mem (i := st) (j := hi) (c := m) (k := c) (by omega) (by
        have : (k : Int) = (st : Int) + (c : Int) * (m : Int) := by rw [e, Int.natCast_add, Int.natCast_mul]
        omega)
      have := Nat.mul_lt_mul_of_pos_right this hm
      omega
    · rw [decide_eq_false h2]
      simp
  · rw [decide_eq_false h1]
    simp
/-- the list, j of the multiples set; what stands at i belongs to the number i + off -/
def hitL (N off st m j : Nat) (f g : Nat → V) : List V := (List.range N).map fun i => if hit st m j (i + off) then f i else g i
section
variable {N off st m j : Nat} {f g : Nat → V}
theorem hitL_zero : hitL N off st m 0 f g = (List.range N).map g := by
  unfold hitL
  refine List.map_congr_left fun i _ => ?_
  rw [hit_zero]
  rfl
theorem hitL_len : (hitL N off st m j f g).length = N := len_map_range
theorem hitL_get {i : Nat} (e : i + off = st + j * m) (h : i < N) : atI (hitL N off st m j f g) (i : Int) = some (g i) := by
  unfold hitL
  rw [map_range_at h, e, hit_here]
  rfl
theorem hitL_set {i : Nat} (hm : 0 < m) (hd : m ∣ st) (e : i + off = st + j * m) : (hitL N off st m j f g).set i (f i) = hitL N off st m (j + 1) f g := by
  unfold hitL
  rw [map_range_set]
  refine List.map_congr_left fun k _ => ?_
  rw [hit_next hm hd]
  by_cases ek : k = i
  · rw [if_pos ek, ← e, ek, decide_eq_true rfl, Bool.or_true]
    rfl
  · rw [if_neg ek, decide_eq_false (show ¬ k + off = st + j * m by omega), Bool.or_false]
theorem hitL_done {hi : Int} (hm : 0 < m) (hd : m ∣ st) (hN : ((N + off : Nat) : Int) ≤ hi) : hitL N off st m (turns st hi m) f g = (List.range N).map fun i => if m ∣ i + off ∧ st ≤ i + off then f i else g i := by
  unfold hitL
  refine List.map_congr_left fun i hi' => ?_
  have := List.mem_range.mp hi'
  rw [hit_done hm hd (by omega)]
  by_cases h1 : m ∣ i + off <;> by_cases h2 : st ≤ i + off <;> simp [h1, h2]
/-- a turn's place -/
theorem hit_place {hi : Int} (hm : 0 < m) (hj : j < turns st hi m) (hN : hi ≤ ((N + off : Nat) : Int)) (ho : off ≤ st) : ∃ i, i < N ∧ i + off = st + j * m ∧ (st : Int) + (j : Int) * (m : Int) = ((i + off : Nat) : Int) := by
  have lt := turns_lt (by omega) hj
  have e : (st : Int) + (j : Int) * (m : Int) = ((st + j * m : Nat) : Int) := by rw [Int.natCast_add, Int.natCast_mul]
  refine ⟨st + j * m - off, ?_, by omega, by omega⟩
  rw [e] at lt
  omega
end

end
end M
namespace M
/-! primes -/
def Pr (p : Nat) : Prop := 2 ≤ p ∧ ∀ d, d < p → 2 ≤ d → ¬ d ∣ p
instance (p : Nat) : Decidable (Pr p) := by unfold Pr; exact inferInstance
theorem Pr.two {p : Nat} (h : Pr p) : 2 ≤ p := h.1
theorem Pr.dvd {p d : Nat} (h : Pr p) (hd : d ∣ p) : d = 1 ∨ d = p := by
  have h0 : d ≠ 0 := by
    rintro rfl
    have := Nat.eq_zero_of_zero_dvd hd
    have := h.1
    omega
  have h1 := Nat.le_of_dvd (by have := h.1; omega) hd
  by_cases h2 : d = p
  · exact .inr h2
  · by_cases h3 : 2 ≤ d
    · exact (h.2 d (by omega) h3 hd).elim
    · exact .inl (by omega)
theorem Pr.coprime {p a : Nat} (h : Pr p) (ha : ¬ p ∣ a) : Nat.Coprime p a := by
  rcases h.dvd (Nat.gcd_dvd_left p a) with e | e
  · exact e
  · exact (ha (by rw [← e]; exact Nat.gcd_dvd_right p a)).elim
/-- Euclid -/
theorem Pr.mul {p a b : Nat} (h : Pr p) (hd : p ∣ a * b) : p ∣ a ∨ p ∣ b := by
  by_cases ha : p ∣ a
  · exact .inl ha
  · exact .inr (Nat.Coprime.dvd_of_dvd_mul_left (h.coprime ha) hd)
theorem Pr.pow {p a : Nat} (h : Pr p) : ∀ {k : Nat}, p ∣ a ^ k → p ∣ a
  | 0, hd => by
    rw [Nat.pow_zero] at hd
    have := Nat.le_of_dvd (by decide) hd
    have := h.1
    omega
  | k + 1, hd => by
    rw [Nat.pow_succ] at hd
    rcases h.mul hd with h1 | h1
    · exact h.pow h1
    · exact h1
theorem Pr.eq_of_dvd {p q : Nat} (h : Pr p) (hq : Pr q) (hd : p ∣ q) : p = q := by
  rcases hq.dvd hd with e | e
  · have := h.1
    omega
  · exact e
/-- the least divisor above 1 -/
theorem least_div : ∀ {n : Nat}, 2 ≤ n → ∃ p, Pr p ∧ p ∣ n ∧ (p = n ∨ p * p ≤ n) ∧ ∀ d, 2 ≤ d → d ∣ n → p ≤ d := by
  intro n hn
  have ex : ∃ d, 2 ≤ d ∧ d ∣ n := ⟨n, hn, Nat.dvd_refl n⟩
  have key : ∀ k : Nat, (∃ d, d ≤ k ∧ 2 ≤ d ∧ d ∣ n) → ∃ p, 2 ≤ p ∧ p ∣ n ∧ ∀ d, 2 ≤ d → d ∣ n → p ≤ d := by
    intro k
    induction k with
    | zero =>
      rintro ⟨d, h1, h2, _⟩
      omega
    | succ k ih =>
      intro h
      by_cases hk : ∃ d, d ≤ k ∧ 2 ≤ d ∧ d ∣ n
      · exact ih hk
      · obtain ⟨d, h1, h2, h3⟩ := h
        refine ⟨d, h2, h3, fun e he hd => ?_⟩
        rcases Nat.lt_or_ge e d with h4 | h4
        · exact (hk ⟨e, by omega, he, hd⟩).elim
        · exact h4
  obtain ⟨p, h1, h2, h3⟩ := key n ⟨n, Nat.le_refl n, hn, Nat.dvd_refl n⟩
  refine ⟨p, ⟨h1, fun d hd hd2 hdp => ?_⟩, h2, ?_, h3⟩
  · have := h3 d hd2 (Nat.dvd_trans hdp h2)
    omega
  · obtain ⟨m, hm⟩ := h2
    by_cases hm1 : m ≤ 1
    · left
      have : m ≠ 0 := by
        rintro rfl
        omega
      have : m = 1 := by omega
      rw [hm, this, Nat.mul_one]
    · right
      have := h3 m (by omega) ⟨p, by rw [hm, Nat.mul_comm]⟩
      rw [hm]
      exact Nat.mul_le_mul_left p this
theorem prime_div {n : Nat} (hn : 2 ≤ n) : ∃ p, Pr p ∧ p ∣ n := by
  obtain ⟨p, h1, h2, _⟩ := least_div hn
  exact ⟨p, h1, h2⟩
theorem not_pr_has {n : Nat} (hn : 2 ≤ n) (h : ¬ Pr n) : ∃ p, Pr p ∧ p ∣ n ∧ p * p ≤ n ∧ p < n := by
  obtain ⟨p, h1, h2, h3, _⟩ := least_div hn
  rcases h3 with rfl | h3
  · exact (h h1).elim
  · have : p < p * p := by
      have := h1.1
      have := Nat.mul_le_mul_left p this
      omega
    exact ⟨p, h1, h2, h3, by omega⟩
/-- the primes to a bound -/
def primesTo (n : Nat) : List Nat := (List.range (n + 1)).filter fun k => decide (Pr k)
theorem mem_primesTo {n p : Nat} : p ∈ primesTo n ↔ p ≤ n ∧ Pr p := by
  unfold primesTo
  rw [List.mem_filter, List.mem_range, decide_eq_true_eq, Nat.lt_succ_iff]
theorem primesTo_succ (n : Nat) : primesTo (n + 1) = primesTo n ++ if Pr (n + 1) then [n + 1] else [] := by
  unfold primesTo
  rw [List.range_succ, List.filter_append]
  congr 1
  by_cases h : Pr (n + 1)
  · simp [h]
  · simp [h]
theorem not_pr0 : ¬ Pr 0 := by decide
theorem not_pr1 : ¬ Pr 1 := by decide
theorem primesTo_one : primesTo 1 = [] := by decide
/-! the sieve: after the numbers below m, k stands where no prime below m whose square is at most k goes into it -/
def sieved (m k : Nat) : Bool := decide (∀ q, q < m → Pr q → q * q ≤ k → ¬ q ∣ k)
theorem sieved_prime {m : Nat} (h : 2 ≤ m) : sieved m m = decide (Pr m) := by
  unfold sieved
  by_cases hp : Pr m
  · rw [decide_eq_true hp, decide_eq_true]
    intro q h1 h2 h3 h4
    have := h2.eq_of_dvd hp h4
    omega
  · rw [decide_eq_false hp, decide_eq_false]
    intro h1
    obtain ⟨p, a, b, c, d⟩ := not_pr_has h hp
    exact h1 p d a c b
theorem sieved_next_not {m k : Nat} (h : ¬ Pr m) : sieved (m + 1) k = sieved m k := by
  unfold sieved
  refine decide_eq_decide.mpr ⟨fun z q h1 => z q (by omega), fun z q h1 h2 => ?_⟩
  by_cases e : q = m
  · subst e
    exact (h h2).elim
  · exact z q (by omega) h2
theorem sieved_next {m k : Nat} (h : Pr m) : sieved (m + 1) k = (sieved m k && !(decide (m * m ≤ k) && decide (m ∣ k))) := by
  unfold sieved
  by_cases h1 : m * m ≤ k ∧ m ∣ k
  · rw [decide_eq_true h1.1, decide_eq_true h1.2, decide_eq_false]
    · simp
    · intro z
      exact z m (by omega) h h1.1 h1.2
  · have : (decide (m * m ≤ k) && decide (m ∣ k)) = false := by
      rw [Bool.eq_false_iff]
      intro z
      simp only [Bool.and_eq_true, decide_eq_true_eq] at z
      exact h1 z
    rw [this, Bool.not_false, Bool.and_true]
    refine decide_eq_decide.mpr ⟨fun z q h2 => z q (by omega), fun z q h2 h3 h4 h5 => ?_⟩
    by_cases e : q = m
    · subst e
      exact h1 ⟨h4, h5⟩
    · exact z q (by omega) h3 h4 h5
theorem sieved_two (k : Nat) : sieved 2 k = true := by
  unfold sieved
  refine decide_eq_true fun q h1 h2 => ?_
  have := h2.1
  omega
/-! primes in a row -/
theorem Pr.sq_bound {n : Nat} (hn : 2 ≤ n) (h : ∀ q, Pr q → q * q ≤ n → ¬ q ∣ n) : Pr n := by
  refine Classical.byContradiction fun z => ?_
  obtain ⟨p, a, b, c, _⟩ := not_pr_has hn z
  exact h p a c b

end M
namespace M
open PySem PySem.Spec PyProof.Rows L2 G LamX RZ
section
variable {P : Program} {w : World} {K : PySem.W.Frag} {mg : Str → Option Value} {base : Heap}
/-! the primes to a bound, by a sieve -/
def sp_primes_to (_ : PySem.W.Frag) : Sp := spec1 fun x H Q _ => ∃ n : Nat, x = .int n ∧ n ≤ 1000000 ∧ ∀ p H', Same H H' → H p = none → H' p = some (.lst (nsV (primesTo n))) → Q (.ref p) H'
theorem primesTo_len (n : Nat) : (primesTo n).length ≤ n + 1 := by
  unfold primesTo
  have := List.length_filter_le (fun k => decide (Pr k)) (List.range (n + 1))
  rw [List.length_range] at this
  exact this
end
end M
namespace M
/-! powers of primes -/
def facP : List (Nat × Nat) → Nat
  | [] => 1
  | (p, e) :: r => p ^ e * facP r
/-- primes from b on, rising, exponents from 1 on -/
def FacOk : Nat → List (Nat × Nat) → Prop
  | _, [] => True
  | b, (p, e) :: r => b ≤ p ∧ Pr p ∧ 1 ≤ e ∧ FacOk (p + 1) r
/-- the powers of n -/
def FacOf (L : List (Nat × Nat)) (n : Nat) : Prop := FacOk 0 L ∧ facP L = n
theorem FacOk.mono {b c : Nat} (h : c ≤ b) : ∀ {L : List (Nat × Nat)}, FacOk b L → FacOk c L
  | [], _ => True.intro
  | (_, _) :: _, ⟨h1, h2, h3, h4⟩ => ⟨Nat.le_trans h h1, h2, h3, h4⟩
theorem FacOk.mem : ∀ {b : Nat} {L : List (Nat × Nat)} {x : Nat × Nat}, FacOk b L → x ∈ L → b ≤ x.1 ∧ Pr x.1 ∧ 1 ≤ x.2
  | b, (p, e) :: r, x, ⟨h1, h2, h3, h4⟩, hx => by
    rcases List.mem_cons.mp hx with rfl | hx
    · exact ⟨h1, h2, h3⟩
    · obtain ⟨a, c, d⟩ := FacOk.mem h4 hx
      exact ⟨by omega, c, d⟩
theorem FacOk.pos : ∀ {b : Nat} {L : List (Nat × Nat)}, FacOk b L → 0 < facP L
  | _, [], _ => by decide
  | _, (p, e) :: r, ⟨_, h2, _, h4⟩ => Nat.mul_pos (Nat.pow_pos (by have := h2.1; omega)) (FacOk.pos h4)
theorem FacOk.snoc : ∀ {b p e : Nat} {L : List (Nat × Nat)}, FacOk b L → (∀ x ∈ L, x.1 < p) → b ≤ p → Pr p → 1 ≤ e → FacOk b (L ++ [(p, e)])
  | b, p, e, [], _, _, h1, h2, h3 => ⟨h1, h2, h3, True.intro⟩
  | b, p, e, (q, f) :: r, ⟨g1, g2, g3, g4⟩, hx, h1, h2, h3 =>
    ⟨g1, g2, g3, FacOk.snoc g4 (fun x hm => hx x (List.mem_cons_of_mem _ hm)) (hx _ List.mem_cons_self) h2 h3⟩
theorem facP_snoc (L : List (Nat × Nat)) (p e : Nat) : facP (L ++ [(p, e)]) = facP L * p ^ e := by
  induction L with
  | nil => simp [facP]
  | cons x r ih =>
    obtain ⟨q, f⟩ := x
    rw [List.cons_append, facP, facP, ih, Nat.mul_assoc]
theorem FacOk.dvd : ∀ {b q : Nat} {L : List (Nat × Nat)}, FacOk b L → Pr q → q ∣ facP L → ∃ x ∈ L, x.1 = q
  | _, q, [], _, hq, hd => by
    have := Nat.le_of_dvd (by decide) (show q ∣ 1 from hd)
    have := hq.1
    omega
  | _, q, (p, e) :: r, ⟨_, h2, _, h4⟩, hq, hd => by
    rcases hq.mul hd with h | h
    · exact ⟨_, List.mem_cons_self, (hq.eq_of_dvd h2 (hq.pow h)).symm⟩
    · obtain ⟨x, hx, e⟩ := FacOk.dvd h4 hq h
      exact ⟨x, List.mem_cons_of_mem _ hx, e⟩
theorem dvd_pow_self {p e : Nat} (h : 1 ≤ e) : p ∣ p ^ e := by
  obtain ⟨k, rfl⟩ : ∃ k, e = k + 1 := ⟨e - 1, by omega⟩
  rw [Nat.pow_succ]
  exact Nat.dvd_mul_left p _
theorem not_dvd_rest {p : Nat} {r : List (Nat × Nat)} (hp : Pr p) (h : FacOk (p + 1) r) : ¬ p ∣ facP r := by
  intro hd
  obtain ⟨x, hx, e⟩ := h.dvd hp hd
  have := (h.mem hx).1
  omega
theorem pow_cancel {p : Nat} (hp : Pr p) : ∀ {e f a b : Nat}, ¬ p ∣ a → ¬ p ∣ b → p ^ e * a = p ^ f * b → e = f ∧ a = b
  | 0, 0, a, b, _, _, h => by simpa using h
  | 0, f + 1, a, b, ha, _, h => by
    exfalso
    apply ha
    rw [Nat.pow_zero, Nat.one_mul] at h
    rw [h, Nat.pow_succ, Nat.mul_assoc, Nat.mul_left_comm]
    exact Nat.dvd_mul_right p _
  | e + 1, 0, a, b, _, hb, h => by
    exfalso
    apply hb
    rw [Nat.pow_zero, Nat.one_mul] at h
    rw [← h, Nat.pow_succ, Nat.mul_assoc, Nat.mul_left_comm]
    exact Nat.dvd_mul_right p _
  | e + 1, f + 1, a, b, ha, hb, h => by
    rw [Nat.pow_succ, Nat.pow_succ, Nat.mul_right_comm, Nat.mul_right_comm (p ^ f)] at h
    have h' := Nat.eq_of_mul_eq_mul_right (show 0 < p by have := hp.1; omega) h
    obtain ⟨h1, h2⟩ := pow_cancel hp ha hb h'
    exact ⟨by omega, h2⟩
/-- each number has just one -/
theorem fac_uniq : ∀ {b c : Nat} {L M : List (Nat × Nat)}, FacOk b L → FacOk c M → facP L = facP M → L = M
  | _, _, [], [], _, _, _ => rfl
  | _, _, [], (q, f) :: s, _, ⟨_, h2, h3, h4⟩, h => by
    exfalso
    have hd : q ∣ facP [] := by rw [h]; exact Nat.dvd_trans (dvd_pow_self h3) (Nat.dvd_mul_right _ _)
    have := Nat.le_of_dvd (by decide) (show q ∣ 1 from hd)
    have := h2.1
    omega
  | _, _, (p, e) :: r, [], ⟨_, h2, h3, h4⟩, _, h => by
    exfalso
    have hd : p ∣ facP [] := by rw [← h]; exact Nat.dvd_trans (dvd_pow_self h3) (Nat.dvd_mul_right _ _)
    have := Nat.le_of_dvd (by decide) (show p ∣ 1 from hd)
    have := h2.1
    omega
  | _, _, (p, e) :: r, (q, f) :: s, h1@⟨_, p2, p3, p4⟩, h2@⟨_, q2, q3, q4⟩, h => by
    have d1 : p ∣ facP ((q, f) :: s) := by rw [← h]; exact Nat.dvd_trans (dvd_pow_self p3) (Nat.dvd_mul_right _ _)
    have d2 : q ∣ facP ((p, e) :: r) := by rw [h]; exact Nat.dvd_trans (dvd_pow_self q3) (Nat.dvd_mul_right _ _)
    have e1 : q ≤ p := by
      obtain ⟨x, hx, ex⟩ := FacOk.dvd h2 p2 d1
      rcases List.mem_cons.mp hx with rfl | hx
      · exact Nat.le_of_eq ex
      · have := (q4.mem hx).1
        omega
    have e2 : p ≤ q := by
      obtain ⟨x, hx, ex⟩ := FacOk.dvd h1 q2 d2
      rcases List.mem_cons.mp hx with rfl | hx
      · exact Nat.le_of_eq ex
      · have := (p4.mem hx).1
        omega
    have epq : p = q := Nat.le_antisymm e2 e1
    subst epq
    obtain ⟨e3, e4⟩ := pow_cancel p2 (not_dvd_rest p2 p4) (not_dvd_rest p2 q4) h
    subst e3
    rw [fac_uniq p4 q4 e4]
theorem FacOf.uniq {L M : List (Nat × Nat)} {n : Nat} (h : FacOf L n) (h' : FacOf M n) : L = M := fac_uniq h.1 h'.1 (h.2.trans h'.2.symm)
theorem FacOf.prime {n : Nat} (h : Pr n) : FacOf [(n, 1)] n := ⟨⟨Nat.zero_le _, h, Nat.le_refl 1, True.intro⟩, by simp [facP]⟩
theorem FacOf.is_prime {L : List (Nat × Nat)} {n : Nat} (h : FacOf L n) : L = [(n, 1)] ↔ Pr n := by
  constructor
  · rintro rfl
    exact h.1.2.1
  · intro hp
    exact h.uniq (.prime hp)
/-- how a number is stripped of p -/
theorem strip_ex {p : Nat} (hp : 2 ≤ p) : ∀ n : Nat, 0 < n → ∃ e m, n = m * p ^ e ∧ ¬ p ∣ m ∧ 0 < m := by
  intro n
  induction n using Nat.strongRecOn with
  | ind n ih =>
    intro h0
    by_cases hd : p ∣ n
    · obtain ⟨k, rfl⟩ := hd
      have hk : 0 < k := by
        rcases Nat.eq_zero_or_pos k with e | e
        · rw [e] at h0
          omega
        · exact e
      have hlt : k < p * k := by
        have := Nat.mul_le_mul_right k hp
        omega
      obtain ⟨e, m, h1, h2, h3⟩ := ih k hlt hk
      exact ⟨e + 1, m, by rw [h1, Nat.pow_succ, Nat.mul_comm p, Nat.mul_assoc], h2, h3⟩
    · exact ⟨0, n, by simp, hd, h0⟩
theorem fac_from : ∀ (k b n : Nat), n ≤ k → 0 < n → (∀ q, Pr q → q ∣ n → b ≤ q) → ∃ L, FacOk b L ∧ facP L = n := by
  intro k
  induction k with
  | zero => intro b n h1 h2; omega
  | succ k ih =>
    intro b n h1 h2 h3
    by_cases hn : 2 ≤ n
    · obtain ⟨p, hp, hd, _, hl⟩ := least_div hn
      obtain ⟨e, m, a1, a2, a3⟩ := strip_ex hp.1 n h2
      have he : 1 ≤ e := by
        rcases Nat.eq_zero_or_pos e with z | z
        · subst z
          rw [Nat.pow_zero, Nat.mul_one] at a1
          subst a1
          exact (a2 hd).elim
        · exact z
      have hm : m < n := by
        have h5 : 2 ≤ p ^ e := Nat.le_trans hp.1 (Nat.le_of_dvd (Nat.pow_pos (by have := hp.1; omega)) (dvd_pow_self he))
        have := Nat.mul_le_mul_left m h5
        omega
      obtain ⟨L, l1, l2⟩ := ih (p + 1) m (by omega) a3 (fun q hq hqd => by
        have h5 := hl q hq.1 (by rw [a1]; exact Nat.dvd_trans hqd (Nat.dvd_mul_right _ _))
        rcases Nat.eq_or_lt_of_le h5 with z | z
        · subst z
          exact (a2 hqd).elim
        · omega)
      exact ⟨(p, e) :: L, ⟨h3 p hp hd, hp, he, l1⟩, by rw [facP, l2, a1, Nat.mul_comm]⟩
    · have : n = 1 := by omega
      subst this
      exact ⟨[], True.intro, rfl⟩
theorem fac_ex {n : Nat} (h : 0 < n) : ∃ L, FacOf L n := by
  obtain ⟨L, h1, h2⟩ := fac_from n 0 n (Nat.le_refl n) h fun _ _ _ => Nat.zero_le _
  exact ⟨L, h1, h2⟩
/-! trial division -/
/-- no prime below p goes into m -/
def Rough (p m : Nat) : Prop := ∀ q, Pr q → q ∣ m → p ≤ q
theorem Rough.two (m : Nat) : Rough 2 m := fun _ h _ => h.1
theorem Rough.of_dvd {p m k : Nat} (h : Rough p m) (hd : k ∣ m) : Rough p k := fun q hq hqd => h q hq (Nat.dvd_trans hqd hd)
theorem Rough.prime {p m : Nat} (h : Rough p m) (hp : 2 ≤ p) (hd : p ∣ m) : Pr p := by
  obtain ⟨q, hq, hqd, _⟩ := least_div hp
  have h1 := h q hq (Nat.dvd_trans hqd hd)
  have h2 := Nat.le_of_dvd (by omega) hqd
  have : q = p := by omega
  rw [← this]
  exact hq
theorem Rough.next2 {m : Nat} (h : Rough 2 m) (hd : ¬ 2 ∣ m) : Rough 3 m := fun q hq hqd => by
  have h1 := h q hq hqd
  rcases Nat.eq_or_lt_of_le h1 with z | z
  · subst z
    exact (hd hqd).elim
  · omega
theorem even_not_prime {q : Nat} (h : q % 2 = 0) (h2 : 2 < q) : ¬ Pr q := fun hq => by
  rcases hq.dvd (Nat.dvd_of_mod_eq_zero h) with e | e
  · omega
  · omega
theorem Rough.next {p m : Nat} (h : Rough p m) (hp : p % 2 = 1) (h3 : 3 ≤ p) (hd : ¬ p ∣ m) : Rough (p + 2) m := fun q hq hqd => by
  have h1 := h q hq hqd
  rcases Nat.eq_or_lt_of_le h1 with z | z
  · subst z
    exact (hd hqd).elim
  · rcases Nat.eq_or_lt_of_le (show p + 1 ≤ q from z) with y | y
    · exact (even_not_prime (by omega) (by omega) hq).elim
    · omega
theorem Rough.last {p m : Nat} (h : Rough p m) (hm : 1 < m) (hs : m < p * p) : Pr m := by
  refine Pr.sq_bound hm fun q hq h1 h2 => ?_
  have h3 := h q hq h2
  have := Nat.mul_le_mul h3 h3
  omega

end M
namespace M
open PySem PySem.Spec PyProof.Rows L2 G LamX RZ
section
variable {P : Program} {w : World} {K : PySem.W.Frag} {mg : Str → Option Value} {base : Heap}
/-! the powers of a number, by trial -/
def powD (x : Nat × Nat) : PyData := .tuple [.int x.1, .int x.2]
def sp_powers_of (_ : PySem.W.Frag) : Sp := spec1 fun x H Q _ => ∃ n : Nat, x = .int n ∧ 1 ≤ n ∧ n ≤ 1000000000000 ∧ ∀ L p H', FacOf L n → Same H H' → Rp (New H) H' (.ref p) (.list (L.map powD)) → Q (.ref p) H'
theorem sq_small {p m : Nat} (h : p * p ≤ m) (hm : m ≤ 1000000000000) : p ≤ 1000000 := by
  refine Classical.byContradiction fun z => ?_
  have := Nat.mul_le_mul (show 1000001 ≤ p by omega) (show 1000001 ≤ p by omega)
  omega
theorem facOk_len : ∀ {b : Nat} {L : List (Nat × Nat)}, FacOk b L → ∀ t, (∀ x ∈ L, x.1 < t) → L.length ≤ t - b
  | _, [], _, _, _ => Nat.zero_le _
  | b, (p, e) :: r, ⟨h1, _, _, h4⟩, t, ht => by
    have h5 := facOk_len h4 t fun x hx => ht x (List.mem_cons_of_mem _ hx)
    have h6 : p < t := ht (p, e) List.mem_cons_self
    rw [List.length_cons]
    omega
theorem ok_powers_of {af : Addr} {fd : FuncData} (F : FunD K "powers_of" "powers_of" (defArgs s_powers_of) (defBody s_powers_of) (defScope s_powers_of) [] [] af fd) (B : Bt mg)  : FnG False P w K mg base CX0 1 af fd ["number"] (sp_powers_of K) := by
  refine okG F sc_powers_of ar1 fun cdv A outer s H vs Q E hg hr h => ?_
  refine ⟨_, PSs.nox (pss_cons (ps_par3 (i := 1) (j := 2) (l := 3) (by rfl) sc_powers_of.nd rfl rfl rfl (by decide) (by decide) (by decide) rfl rfl rfl (pa_cons (pe_lst pa_nil) (pa_cons (pv 0) (pa_cons pe_int pa_nil))) (by rfl))
    (pss_cons (ps_while PassesOwn.never (pt_cmpR op_le (pe_op op_mul (pv 3) (pv 3)) (pv 2) (nomark _))
      (pss_cons (ps_set (i := 4) sc_powers_of.nd rfl (.inl rfl) pe_int)
      (pss_cons (ps_while PassesOwn.never (pt_cmpR op_eq (pe_op op_mod (pv 2) (pv 3)) pe_int (nomark _))
        (pss_one (ps_par (i := 2) (j := 4) (by rfl) sc_powers_of.nd rfl rfl (by decide) rfl rfl (pa_cons (pe_op op_fdivW (pv 2) (pv 3)) (pa_cons (pe_op op_add (pv 4) pe_int) pa_nil)) (by rfl))))
      (pss_cons (ps_if (pt_cmpR op_gt (pv 4) pe_int (nomark _))
        (pss_one (ps_expr (pe_bm PySem.F.plainAttrs_list PySem.F.slot_list_append PySem.F.type_list_append mt_append (pv 1) (pa_cons (pe_tup (pa_cons (pv 3) (pa_cons (pv 4) pa_nil))) pa_nil))))
        pss_nil)
      (pss_one (ps_set (i := 3) sc_powers_of.nd rfl (.inl rfl) (pe_op op_add (pv 3) (pe_ifExp (pt_cmpR op_eq (pv 3) pe_int (nomark _)) pe_int pe_int))))))))
    (pss_cons (ps_if (pt_cmpR op_gt (pv 2) pe_int (nomark _))
      (pss_one (ps_expr (pe_bm PySem.F.plainAttrs_list PySem.F.slot_list_append PySem.F.type_list_append mt_append (pv 1) (pa_cons (pe_tup (pa_cons (pv 2) (pa_cons pe_int pa_nil))) pa_nil))))
      pss_nil)
    (pss_one (ps_ret (pv 1)))))), ?_⟩
  obtain ⟨_, rfl, n, rfl, h1, h2, q⟩ := h
  refine ⟨sz0, fun fd hfd => ⟨_, rfl, _, _, _, rfl, ?_⟩⟩
  refine ⟨fun m σ H' => ∃ (vs : List V) (acc : List (Nat × Nat)) (left p : Nat) (y : Option V), σ = [some (.int n), some (.ref fd), some (.int left), some (.int p), y] ∧ Same H H' ∧ H' fd = some (.lst vs) ∧ RpA (Nw H fd) H' vs (acc.map powD) ∧ FacOk 0 acc ∧ (∀ x ∈ acc, x.1 < p) ∧ facP acc * left = n ∧ 0 < left ∧ left ≤ n ∧ Rough p left ∧ (p = 2 ∨ 3 ≤ p ∧ p % 2 = 1) ∧ p ≤ 1000002 ∧ m = 1000002 - p,
    ⟨_, [], [], n, 2, none, rfl, Same.new (Same.refl H) hfd, upd_same, .nil, True.intro, by simp, by simp [facP], by omega, Nat.le_refl n, Rough.two n, .inl rfl, by omega, rfl⟩, fun m σ H' hW => ?_⟩
  obtain ⟨vs, acc, left, p, y, rfl, sm, ef, rp, ok, lt, pr, l0, ln, ro, pp, pb, rfl⟩ := hW
  have p2 : 2 ≤ p := by omega
  have vlen : vs.length ≤ 1000002 := by
    rw [rp.length, List.length_map]
    have := facOk_len ok p lt
    omega
  refine ⟨_, rfl, _, rfl, _, _, rfl, rfl, mulc ⟨by omega, by omega⟩, _, rfl, _, _, rfl, rfl, _, rfl, ite2 (fun hc => ?_) (fun hc => ?_)⟩
  · have hc' : p * p ≤ left := by
      have : (p : Int) * (p : Int) ≤ (left : Int) := of_decide_eq_true hc
      rw [← Int.natCast_mul] at this
      omega
    have psm := sq_small hc' (by omega)
    refine ⟨_, fun _ _ z => z, ?_⟩
    -- many = 0, the inner loop
    refine ⟨fun m σ H2 => ∃ l2 many : Nat, σ = [some (.int n), some (.ref fd), some (.int l2), some (.int p), some (.int many)] ∧ H2 = H' ∧ left = l2 * p ^ many ∧ 0 < l2 ∧ l2 ≤ left ∧ l2 = m, ⟨_, left, 0, rfl, rfl, by simp, l0, Nat.le_refl _, rfl⟩, fun m σ H2 hW => ?_⟩
    obtain ⟨l2, many, rfl, rfl, el, l20, l2l, rfl⟩ := hW
    refine ⟨_, rfl, _, rfl, _, _, rfl, rfl, (show (0 : Int) < (p : Int) by omega), rfl, _, rfl, ite2 (fun hd => ?_) (fun hd => ?_)⟩
    · have hd' : p ∣ l2 := by
        have z : (l2 : Int) % (p : Int) = 0 := V.int.inj (of_decide_eq_true hd)
        exact Nat.dvd_of_mod_eq_zero (by omega)
      obtain ⟨k, rfl⟩ := hd'
      have hk : 0 < k := by
        rcases Nat.eq_zero_or_pos k with e | e
        · rw [e] at l20
          omega
        · exact e
      have hlt : k < p * k := by
        have := Nat.mul_le_mul_right k p2
        omega
      have ek : ((p * k : Nat) : Int) / (p : Int) = (k : Int) := by
        rw [Int.natCast_mul, Int.mul_ediv_cancel_left _ (by omega)]
      refine ⟨_, fun _ _ z => z, _, rfl, _, rfl, _, _, rfl, rfl, divw (by omega) (by omega), _, rfl, _, _, rfl, rfl, _, _, rfl, k, by omega, k, many + 1, ?_, rfl, ?_, hk, by omega, rfl⟩
      · show [some (V.int n), some (V.ref fd), some (V.int (((p * k : Nat) : Int) / (p : Int))), some (V.int p), some (V.int ((many : Int) + 1))] = _
        rw [ek, Int.natCast_add]
        rfl
      · rw [el, Nat.pow_succ, Nat.mul_comm p k, Nat.mul_assoc, Nat.mul_comm p]
    · have hd' : ¬ p ∣ l2 := fun z => hd (decide_eq_true (congrArg V.int (by
        have := Nat.mod_eq_zero_of_dvd z
        show (l2 : Int) % (p : Int) = 0
        omega)))
      have ro2 : Rough p l2 := ro.of_dvd ⟨p ^ many, el⟩
      -- what the next turn is
      have next : ∀ (vs' : List V) (acc' : List (Nat × Nat)) (H3 : Hp), Same H H3 → H3 fd = some (.lst vs') → RpA (Nw H fd) H3 vs' (acc'.map powD) → FacOk 0 acc' → (∀ x ∈ acc', x.1 ≤ p) → facP acc' * l2 = n →
          ∃ m', m' < 1000002 - p ∧ ∃ (vs : List V) (acc : List (Nat × Nat)) (left p' : Nat) (y : Option V), [some (V.int n), some (V.ref fd), some (V.int l2), some (V.int ((p : Int) + (if p = 2 then 1 else 2))), some (V.int many)] = [some (.int n), some (.ref fd), some (.int left), some (.int p'), y] ∧ Same H H3 ∧ H3 fd = some (.lst vs) ∧ RpA (Nw H fd) H3 vs (acc.map powD) ∧ FacOk 0 acc ∧ (∀ x ∈ acc, x.1 < p') ∧ facP acc * left = n ∧ 0 < left ∧ left ≤ n ∧ Rough p' left ∧ (p' = 2 ∨ 3 ≤ p' ∧ p' % 2 = 1) ∧ p' ≤ 1000002 ∧ m' = 1000002 - p' := by
        intro vs' acc' H3 s3 e3 r3 o3 lt3 pr3
        by_cases hp2 : p = 2
        · subst hp2
          exact ⟨_, by omega, vs', acc', l2, 3, some (.int many), rfl, s3, e3, r3, o3, fun x hx => Nat.lt_succ_of_le (lt3 x hx), pr3, l20, by omega, ro2.next2 hd', .inr ⟨by omega, by omega⟩, by omega, rfl⟩
        · refine ⟨_, ?_, vs', acc', l2, p + 2, some (.int many), ?_, s3, e3, r3, o3, fun x hx => ?_, pr3, l20, by omega, ro2.next (by omega) (by omega) hd', .inr ⟨by omega, by omega⟩, by omega, rfl⟩
          · omega
          · rw [if_neg hp2, Int.natCast_add]
            rfl
          · have := lt3 x hx
            omega
      have step : ∀ (H3 : Hp) (R : L2.St → Hp → Prop), R [some (V.int n), some (V.ref fd), some (V.int l2), some (V.int ((p : Int) + (if p = 2 then 1 else 2))), some (V.int many)] H3 →
          tAsg (tOp (rI0 fun i j => .int (i + j)) (tVar 3) (tIf (tTest (tOp rEq (tVar 3) (tC (.int 2)))) (tC (.int 1)) (tC (.int 2)))) (gName 3) { nx := R, rt := Q } [some (V.int n), some (V.ref fd), some (V.int l2), some (V.int p), some (V.int many)] H3 := by
        intro H3 R hR
        refine ⟨_, rfl, _, rfl, rfl, _, rfl, ite2 (fun hp2 => ?_) (fun hp2 => ?_)⟩
        · have hp2' : p = 2 := by
            have z : (p : Int) = 2 := V.int.inj (of_decide_eq_true hp2)
            omega
          rw [if_pos hp2'] at hR
          exact ⟨_, _, rfl, rfl, hR⟩
        · have hp2' : ¬ p = 2 := fun z => hp2 (decide_eq_true (by rw [z]; rfl))
          rw [if_neg hp2'] at hR
          exact ⟨_, _, rfl, rfl, hR⟩
      refine ⟨_, rfl, _, _, rfl, rfl, _, rfl, ite2 (fun hm => ?_) (fun hm => ?_)⟩
      · have hm' : 1 ≤ many := by
          have : (0 : Int) < (many : Int) := of_decide_eq_true hm
          omega
        have pprime : Pr p := ro.prime p2 (by rw [el]; exact Nat.dvd_trans (dvd_pow_self hm') (Nat.dvd_mul_left _ _))
        refine ⟨_, rfl, .inl ⟨rfl, _, SqL.of ef⟩, _, rfl, _, rfl, sz2, fun t ht => ?_⟩
        have npt : fd ≠ t := ne_of_none ef ht
        refine ⟨fd, _, _, rfl, rfl, (upd_ne npt).trans ef, small_lt (by omega), step _ _ (next _ (acc ++ [(p, many)]) _ ((sm.new ht).mut hfd) upd_same ?_ (ok.snoc lt (Nat.zero_le _) pprime hm') (fun x hx => ?_) ?_)⟩
        · rw [List.map_append]
          refine ((rp.new ht).put nw_not).snoc ?_
          exact .tup ⟨sm.free ht, npt.symm⟩ ((upd_ne npt.symm).trans upd_same) (RpA.ints [(p : Int), (many : Int)])
        · rcases List.mem_append.mp hx with hx | hx
          · exact Nat.le_of_lt (lt x hx)
          · cases List.mem_singleton.mp hx
            exact Nat.le_refl _
        · rw [facP_snoc, ← pr, el, Nat.mul_assoc, Nat.mul_comm (p ^ many)]
      · have hm' : many = 0 := by
          have : ¬ (0 : Int) < (many : Int) := fun z => hm (decide_eq_true z)
          omega
        refine step _ _ (next _ acc _ sm ef rp ok (fun x hx => Nat.le_of_lt (lt x hx)) ?_)
        rw [← pr, el, hm', Nat.pow_zero, Nat.mul_one]
  · have hc' : left < p * p := by
      have : ¬ (p : Int) * (p : Int) ≤ (left : Int) := fun z => hc (decide_eq_true z)
      rw [← Int.natCast_mul] at this
      omega
    refine ⟨_, rfl, _, _, rfl, rfl, _, rfl, ite2 (fun hm => ?_) (fun hm => ?_)⟩
    · have hm' : 1 < left := by
        have : (1 : Int) < (left : Int) := of_decide_eq_true hm
        omega
      have lp := ro.last hm' hc'
      refine ⟨_, rfl, .inl ⟨rfl, _, SqL.of ef⟩, _, rfl, sz2, fun t ht => ?_⟩
      have npt : fd ≠ t := ne_of_none ef ht
      have fin : FacOf (acc ++ [(left, 1)]) n := ⟨ok.snoc (fun x hx => Nat.lt_of_lt_of_le (lt x hx) (ro left lp (Nat.dvd_refl _))) (Nat.zero_le _) lp (Nat.le_refl 1), by rw [facP_snoc, Nat.pow_one, pr]⟩
      refine ⟨fd, _, _, rfl, rfl, (upd_ne npt).trans ef, small_lt (by omega), _, rfl, q _ fd _ fin ((sm.new ht).mut hfd) (.lst hfd upd_same ?_)⟩
      rw [List.map_append]
      refine RpA.mono (fun _ z => z.1) (fun _ _ _ z => z) _ _ (((rp.new ht).put nw_not).snoc (d := powD (left, 1)) ?_)
      exact .tup ⟨sm.free ht, npt.symm⟩ ((upd_ne npt.symm).trans upd_same) (RpA.ints [(left : Int), 1])
    · have hm' : left = 1 := by
        have : ¬ (1 : Int) < (left : Int) := fun z => hm (decide_eq_true z)
        omega
      exact ⟨_, rfl, q acc fd H' ⟨ok, by rw [← pr, hm', Nat.mul_one]⟩ sm (.lst hfd ef (RpA.mono (fun _ z => z.1) (fun _ _ _ z => z) _ _ rp))⟩

end
end M
namespace M
/-! sums of a row -/
/-- f 1 + .. + f n -/
def sumR (f : Nat → Int) : Nat → Int
  | 0 => 0
  | n + 1 => sumR f n + f (n + 1)
theorem sumR_congr {f g : Nat → Int} : ∀ {n : Nat}, (∀ i, 1 ≤ i → i ≤ n → f i = g i) → sumR f n = sumR g n
  | 0, _ => rfl
  | n + 1, h => by rw [sumR, sumR, sumR_congr fun i h1 h2 => h i h1 (by omega), h (n + 1) (by omega) (by omega)]
theorem sumR_add (f g : Nat → Int) : ∀ n : Nat, sumR (fun i => f i + g i) n = sumR f n + sumR g n
  | 0 => rfl
  | n + 1 => by
    rw [sumR, sumR, sumR, sumR_add f g n]
    omega
theorem sumR_neg (f : Nat → Int) : ∀ n : Nat, sumR (fun i => - f i) n = - sumR f n
  | 0 => rfl
  | n + 1 => by
    rw [sumR, sumR, sumR_neg f n]
    omega
theorem sumR_mul (c : Int) (f : Nat → Int) : ∀ n : Nat, sumR (fun i => c * f i) n = c * sumR f n
  | 0 => by simp [sumR]
  | n + 1 => by rw [sumR, sumR, sumR_mul c f n, Int.mul_add]
theorem sumR_zero {f : Nat → Int} {n : Nat} (h : ∀ i, 1 ≤ i → i ≤ n → f i = 0) : sumR f n = 0 := by
  rw [sumR_congr (g := fun _ => 0) h]
  induction n with
  | zero => rfl
  | succ n ih => rw [sumR, ih fun i h1 h2 => h i h1 (by omega)]; rfl
/-- behind M nothing -/
theorem sumR_trunc {f : Nat → Int} {M : Nat} : ∀ {N : Nat}, M ≤ N → (∀ i, M < i → i ≤ N → f i = 0) → sumR f N = sumR f M
  | 0, h, _ => by
    have : M = 0 := by omega
    rw [this]
  | N + 1, h, z => by
    by_cases e : M = N + 1
    · rw [e]
    · rw [sumR, sumR_trunc (N := N) (by omega) fun i h1 h2 => z i h1 (by omega), z (N + 1) (by omega) (by omega)]
      omega
/-- by whether p goes into -/
theorem sumR_mult {p : Nat} (hp : 0 < p) (f : Nat → Int) : ∀ n : Nat, sumR (fun i => if p ∣ i then f i else 0) n = sumR (fun i => f (p * i)) (n / p)
  | 0 => by simp [sumR]
  | n + 1 => by
    rw [sumR, sumR_mult hp f n, Nat.succ_div]
    by_cases h : p ∣ n + 1
    · rw [if_pos h, if_pos h, sumR]
      congr 1
      have e := Nat.succ_div (a := n) (b := p)
      rw [if_pos h] at e
      rw [← e, Nat.mul_div_cancel' h]
    · rw [if_neg h, if_neg h]
      simp
theorem sumR_split {p : Nat} (hp : 0 < p) (f : Nat → Int) (n : Nat) : sumR f n = sumR (fun i => if p ∣ i then 0 else f i) n + sumR (fun i => f (p * i)) (n / p) := by
  rw [← sumR_mult hp, ← sumR_add]
  refine sumR_congr fun i _ _ => ?_
  split <;> omega
/-- one alone -/
theorem sumR_one {f : Nat → Int} {n k : Nat} (h1 : 1 ≤ k) (h2 : k ≤ n) (h : ∀ i, 1 ≤ i → i ≤ n → i ≠ k → f i = 0) : sumR f n = f k := by
  induction n with
  | zero => omega
  | succ n ih =>
    rw [sumR]
    by_cases e : k = n + 1
    · subst e
      rw [sumR_zero fun i a b => h i a (by omega) (by omega)]
      omega
    · rw [ih (by omega) fun i a b c => h i a (by omega) c, h (n + 1) (by omega) (by omega) (by omega)]
      omega
/-- sums of a list of numbers from 1 on -/
theorem sum_range (f : Nat → Int) : ∀ n : Nat, ((List.range n).map fun i => f (i + 1)).sum = sumR f n
  | 0 => rfl
  | n + 1 => by
    rw [List.range_succ, List.map_append, List.sum_append, sum_range f n, sumR]
    simp

end M
namespace M
/-! signs of numbers -/
def mstep (i : Nat) (s : Int) (p : Nat) : Int := if p * p ∣ i then 0 else if p ∣ i then 0 - s else s
def muL (ps : List Nat) (i : Nat) : Int := ps.foldl (mstep i) 1
def mu (i : Nat) : Int := muL (primesTo i) i
theorem muL_snoc (ps : List Nat) (p i : Nat) : muL (ps ++ [p]) i = mstep i (muL ps i) p := by
  unfold muL
  rw [List.foldl_append]
  rfl
theorem muL_succ (n i : Nat) : muL (primesTo (n + 1)) i = if Pr (n + 1) then mstep i (muL (primesTo n) i) (n + 1) else muL (primesTo n) i := by
  rw [primesTo_succ]
  split
  · rw [muL_snoc]
  · rw [List.append_nil]
theorem muL_more {i : Nat} (hi : 1 ≤ i) : ∀ k : Nat, muL (primesTo (i + k)) i = mu i
  | 0 => rfl
  | k + 1 => by
    rw [show i + (k + 1) = (i + k) + 1 by omega, muL_succ, muL_more hi k]
    split
    · unfold mstep
      have h1 : ¬ (i + k + 1) ∣ i := fun z => by
        have := Nat.le_of_dvd (by omega) z
        omega
      rw [if_neg fun z => h1 (Nat.dvd_trans (Nat.dvd_mul_left _ _) z), if_neg h1]
    · rfl
theorem muL_ge {i n : Nat} (hi : 1 ≤ i) (h : i ≤ n) : muL (primesTo n) i = mu i := by
  obtain ⟨k, rfl⟩ := Nat.exists_eq_add_of_le h
  exact muL_more hi k
theorem mu_one : mu 1 = 1 := by decide
theorem muL_sq {p i : Nat} (hp : Pr p) (hd : p * p ∣ i) : ∀ k : Nat, muL (primesTo (p + k)) i = 0
  | 0 => by
    obtain ⟨q, rfl⟩ : ∃ q, p = q + 1 := ⟨p - 1, by have := hp.1; omega⟩
    rw [Nat.add_zero, muL_succ, if_pos hp]
    unfold mstep
    rw [if_pos hd]
  | k + 1 => by
    rw [show p + (k + 1) = (p + k) + 1 by omega, muL_succ, muL_sq hp hd k]
    unfold mstep
    split
    · split
      · rfl
      · split <;> rfl
    · rfl
theorem mu_sq {p i : Nat} (hp : Pr p) (hd : p * p ∣ i) (hi : 0 < i) : mu i = 0 := by
  have h1 := Nat.le_of_dvd hi hd
  have h2 : p ≤ p * p := Nat.le_mul_of_pos_left p (by have := hp.1; omega)
  obtain ⟨k, hk⟩ := Nat.exists_eq_add_of_le (show p ≤ i by omega)
  unfold mu
  rw [show primesTo i = primesTo (p + k) by rw [← hk]]
  exact muL_sq hp hd k
theorem dvd_mul_pr {p q d : Nat} (hp : Pr p) (hq : Pr q) (h : p ≠ q) : q ∣ p * d ↔ q ∣ d := by
  constructor
  · intro z
    rcases hq.mul z with z | z
    · exact (h (hq.eq_of_dvd hp z).symm).elim
    · exact z
  · exact fun z => Nat.dvd_trans z (Nat.dvd_mul_left d p)
theorem sq_coprime {p a : Nat} (hp : Pr p) (ha : ¬ p ∣ a) : Nat.Coprime (p * p) a := Nat.Coprime.mul_left (hp.coprime ha) (hp.coprime ha)
theorem dvd_mul_sq {p q d : Nat} (hp : Pr p) (hq : Pr q) (h : p ≠ q) : q * q ∣ p * d ↔ q * q ∣ d := by
  have nd : ¬ q ∣ p := fun z => h (hq.eq_of_dvd hp z).symm
  exact ⟨fun z => (sq_coprime hq nd).dvd_of_dvd_mul_left z, fun z => Nat.dvd_trans z (Nat.dvd_mul_left d p)⟩
theorem muL_mul {p d : Nat} (hp : Pr p) (hd : ¬ p ∣ d) : ∀ k : Nat, muL (primesTo k) (p * d) = if p ≤ k then - muL (primesTo k) d else muL (primesTo k) d
  | 0 => by
    rw [if_neg (by have := hp.1; omega)]
    rfl
  | k + 1 => by
    rw [muL_succ, muL_succ, muL_mul hp hd k]
    by_cases hk : Pr (k + 1)
    · rw [if_pos hk, if_pos hk]
      by_cases e : p = k + 1
      · rw [if_neg (by omega), if_pos (by omega), ← e]
        unfold mstep
        have n1 : ¬ p * p ∣ p * d := fun z => hd (Nat.dvd_of_mul_dvd_mul_left (by have := hp.1; omega) z)
        have n2 : ¬ p * p ∣ d := fun z => hd (Nat.dvd_trans (Nat.dvd_mul_left _ _) z)
        rw [if_neg n1, if_pos (Nat.dvd_mul_right p d), if_neg n2, if_neg hd]
        omega
      · unfold mstep
        simp only [dvd_mul_pr hp hk e, dvd_mul_sq hp hk e]
        by_cases l : p ≤ k
        · rw [if_pos l, if_pos (show p ≤ k + 1 by omega)]
          split
          · rfl
          · split <;> omega
        · rw [if_neg l, if_neg (show ¬ p ≤ k + 1 by omega)]
    · rw [if_neg hk, if_neg hk]
      have : p ≠ k + 1 := fun z => hk (by rw [← z]; exact hp)
      by_cases l : p ≤ k
      · rw [if_pos l, if_pos (by omega)]
      · rw [if_neg l, if_neg (by omega)]
theorem mu_mul {p d : Nat} (hp : Pr p) (hd : ¬ p ∣ d) : mu (p * d) = - mu d := by
  have hd0 : 0 < d := by
    rcases Nat.eq_zero_or_pos d with e | e
    · rw [e] at hd
      exact (hd (Nat.dvd_zero p)).elim
    · exact e
  have h1 : d ≤ p * d := Nat.le_mul_of_pos_left d (by have := hp.1; omega)
  have h2 : p ≤ p * d := Nat.le_mul_of_pos_right p hd0
  unfold mu
  rw [muL_mul hp hd, if_pos h2]
  show - muL (primesTo (p * d)) d = - mu d
  rw [muL_ge hd0 h1]
theorem mu_mul_dvd {p d : Nat} (hp : Pr p) (hd : p ∣ d) (h0 : 0 < d) : mu (p * d) = 0 := mu_sq hp (Nat.mul_dvd_mul_left p hd) (Nat.mul_pos (by have := hp.1; omega) h0)
theorem mu_prime {p : Nat} (hp : Pr p) : mu p = -1 := by
  have := mu_mul (d := 1) hp fun z => by
    have := Nat.le_of_dvd (by decide) z
    have := hp.1
    omega
  rw [Nat.mul_one, mu_one] at this
  exact this
/-- by the powers of primes -/
def sgnL (L : List (Nat × Nat)) : Int := if L.any fun x => decide (1 < x.2) then 0 else if L.length % 2 = 0 then 1 else -1
theorem sgnL_cons (p e : Nat) (r : List (Nat × Nat)) (he : 1 ≤ e) : sgnL ((p, e) :: r) = if 1 < e then 0 else - sgnL r := by
  unfold sgnL
  rw [List.any_cons, List.length_cons]
  by_cases h : 1 < e
  · simp [h]
  · simp only [h, decide_false, Bool.false_or, if_false]
    split
    · rfl
    · split <;> split <;> omega
theorem mu_ok : ∀ {b : Nat} {L : List (Nat × Nat)}, FacOk b L → mu (facP L) = sgnL L
  | _, [], _ => by
    show mu 1 = _
    rw [mu_one]
    rfl
  | b, (p, e) :: r, ⟨h1, h2, h3, h4⟩ => by
    rw [sgnL_cons _ _ _ h3]
    have ih := mu_ok h4
    have nd := not_dvd_rest h2 h4
    have pos := FacOk.pos h4
    show mu (p ^ e * facP r) = _
    split
    · rename_i h
      refine mu_sq h2 ?_ (Nat.mul_pos (Nat.pow_pos (by have := h2.1; omega)) pos)
      obtain ⟨k, rfl⟩ : ∃ k, e = k + 2 := ⟨e - 2, by omega⟩
      refine Nat.dvd_trans ?_ (Nat.dvd_mul_right _ _)
      rw [Nat.pow_succ, Nat.pow_succ, Nat.mul_assoc]
      exact Nat.dvd_mul_left _ _
    · have e1 : e = 1 := by omega
      rw [e1, Nat.pow_one, mu_mul h2 nd, ih]
theorem mu_fac {L : List (Nat × Nat)} {n : Nat} (h : FacOf L n) : mu n = sgnL L := by
  rw [← h.2]
  exact mu_ok h.1
theorem mu_small (n : Nat) : mu n = 0 ∨ mu n = 1 ∨ mu n = -1 := by
  unfold mu muL
  generalize primesTo n = ps
  have : ∀ (ps : List Nat) (s : Int), (s = 0 ∨ s = 1 ∨ s = -1) → (ps.foldl (mstep n) s = 0 ∨ ps.foldl (mstep n) s = 1 ∨ ps.foldl (mstep n) s = -1) := by
    intro ps
    induction ps with
    | nil => intro s h; exact h
    | cons p ps ih =>
      intro s h
      refine ih _ ?_
      unfold mstep
      split
      · omega
      · split <;> omega
  exact this ps 1 (by omega)
/-- a number without squares has no prime twice -/
theorem mu_ne {p n : Nat} (h : mu n ≠ 0) (hp : Pr p) (h0 : 0 < n) : ¬ p * p ∣ n := fun z => h (mu_sq hp z h0)
theorem mu_zero_has {n : Nat} (h0 : 0 < n) (h : mu n = 0) : ∃ p, Pr p ∧ p * p ∣ n := by
  obtain ⟨L, hL⟩ := fac_ex h0
  have e := mu_fac hL
  rw [h] at e
  unfold sgnL at e
  split at e
  · rename_i a
    obtain ⟨x, hx, hx2⟩ := List.any_eq_true.mp a
    obtain ⟨p, m⟩ := x
    have hm : 1 < m := of_decide_eq_true hx2
    have ok := hL.1.mem hx
    refine ⟨p, ok.2.1, ?_⟩
    have : p ^ m ∣ facP L := by
      clear e a h hL
      induction L with
      | nil => cases hx
      | cons y r ih =>
        obtain ⟨q, f⟩ := y
        rcases List.mem_cons.mp hx with z | z
        · cases z
          exact Nat.dvd_mul_right _ _
        · exact Nat.dvd_trans (ih z) (Nat.dvd_mul_left _ _)
    rw [hL.2] at this
    obtain ⟨k, rfl⟩ : ∃ k, m = k + 2 := ⟨m - 2, by omega⟩
    refine Nat.dvd_trans ?_ this
    rw [Nat.pow_succ, Nat.pow_succ, Nat.mul_assoc]
    exact Nat.dvd_mul_left _ _
  · split at e <;> omega
/-! sums of signs -/
theorem mu_sum {n N : Nat} (h1 : 1 ≤ n) (h2 : n ≤ N) : sumR (fun d => if d ∣ n then mu d else 0) N = if n = 1 then 1 else 0 := by
  by_cases e : n = 1
  · subst e
    rw [if_pos rfl, sumR_one (k := 1) (by decide) h2 fun i a _ b => ?_, if_pos (Nat.dvd_refl 1), mu_one]
    rw [if_neg fun z => b (Nat.dvd_one.mp z)]
  · rw [if_neg e]
    obtain ⟨p, hp, hd⟩ := prime_div (show 2 ≤ n by omega)
    have p2 := hp.1
    rw [sumR_split (p := p) (by omega)]
    have a : sumR (fun i => if p ∣ i then 0 else if i ∣ n then mu i else 0) N = sumR (fun i => if p ∣ i then 0 else if i ∣ n then mu i else 0) (N / p) := by
      refine sumR_trunc (Nat.div_le_self _ _) fun i hi _ => ?_
      by_cases hpi : p ∣ i
      · rw [if_pos hpi]
      · rw [if_neg hpi, if_neg]
        intro hin
        have := (hp.coprime hpi).mul_dvd_of_dvd_of_dvd hd hin
        have := Nat.le_of_dvd (by omega) this
        have := (Nat.le_div_iff_mul_le (show 0 < p by omega)).mpr (show i * p ≤ N by rw [Nat.mul_comm]; omega)
        omega
    rw [a, ← sumR_add]
    refine sumR_zero fun i i1 i2 => ?_
    by_cases hpi : p ∣ i
    · rw [if_pos hpi, mu_mul_dvd hp hpi (by omega)]
      split <;> rfl
    · rw [if_neg hpi, mu_mul hp hpi]
      by_cases hin : i ∣ n
      · rw [if_pos hin, if_pos ((hp.coprime hpi).mul_dvd_of_dvd_of_dvd hd hin)]
        omega
      · rw [if_neg hin, if_neg fun z => hin (Nat.dvd_trans (Nat.dvd_mul_left i p) z)]
        rfl
/-- signs by quotients -/
theorem mu_quot : ∀ {n : Nat} (N : Nat), n ≤ N → sumR (fun k => mu k * (n / k : Nat)) N = if n = 0 then 0 else 1
  | 0, N, _ => by
    rw [if_pos rfl]
    refine sumR_zero fun i _ _ => ?_
    rw [Nat.zero_div]
    simp
  | n + 1, N, h => by
    rw [if_neg (by omega)]
    have e : sumR (fun k => mu k * ((n + 1) / k : Nat)) N = sumR (fun k => mu k * (n / k : Nat)) N + sumR (fun d => if d ∣ n + 1 then mu d else 0) N := by
      rw [← sumR_add]
      refine sumR_congr fun i _ _ => ?_
      rw [Nat.succ_div]
      split
      · rw [Int.natCast_add, Int.mul_add]
        simp
      · simp
    rw [e, mu_quot N (by omega), mu_sum (by omega) h]
    by_cases z : n = 0
    · rw [if_pos z, if_pos (by omega)]
      rfl
    · rw [if_neg z, if_neg (by omega)]
      rfl
/-! numbers without squares -/
theorem mu_sqsum {n N : Nat} (h1 : 1 ≤ n) (h2 : n < (N + 1) * (N + 1)) : sumR (fun d => if d * d ∣ n then mu d else 0) N = if mu n = 0 then 0 else 1 := by
  have N1 : 1 ≤ N := by
    rcases Nat.eq_zero_or_pos N with e | e
    · rw [e] at h2
      omega
    · exact e
  by_cases e : mu n = 0
  · rw [if_pos e]
    obtain ⟨p, hp, hd⟩ := mu_zero_has h1 e
    have p2 := hp.1
    rw [sumR_split (p := p) (by omega)]
    have both : ∀ i, ¬ p ∣ i → i * i ∣ n → (p * i) * (p * i) ∣ n := by
      intro i hpi hin
      have c : Nat.Coprime (p * p) (i * i) := Nat.Coprime.mul_right (sq_coprime hp hpi) (sq_coprime hp hpi)
      have := c.mul_dvd_of_dvd_of_dvd hd hin
      rw [show p * i * (p * i) = p * p * (i * i) by rw [Nat.mul_assoc, Nat.mul_assoc, Nat.mul_left_comm i p i]]
      exact this
    have a : sumR (fun i => if p ∣ i then 0 else if i * i ∣ n then mu i else 0) N = sumR (fun i => if p ∣ i then 0 else if i * i ∣ n then mu i else 0) (N / p) := by
      refine sumR_trunc (Nat.div_le_self _ _) fun i hi _ => ?_
      by_cases hpi : p ∣ i
      · rw [if_pos hpi]
      · rw [if_neg hpi, if_neg]
        intro hin
        have := Nat.le_of_dvd (by omega) (both i hpi hin)
        have g : N < p * i := by
          have := (Nat.div_lt_iff_lt_mul (show 0 < p by omega)).mp hi
          rw [Nat.mul_comm]
          exact this
        have := Nat.mul_le_mul (show N + 1 ≤ p * i from g) (show N + 1 ≤ p * i from g)
        omega
    rw [a, ← sumR_add]
    refine sumR_zero fun i i1 i2 => ?_
    by_cases hpi : p ∣ i
    · rw [if_pos hpi, mu_mul_dvd hp hpi (by omega)]
      split <;> rfl
    · rw [if_neg hpi, mu_mul hp hpi]
      by_cases hin : i * i ∣ n
      · rw [if_pos hin, if_pos (both i hpi hin)]
        omega
      · rw [if_neg hin, if_neg fun z => hin (Nat.dvd_trans (Nat.mul_dvd_mul (Nat.dvd_mul_left i p) (Nat.dvd_mul_left i p)) z)]
        rfl
  · rw [if_neg e, sumR_one (k := 1) (by decide) N1 fun i a _ b => ?_]
    · rw [if_pos (Nat.one_dvd n), mu_one]
    · rw [if_neg]
      intro z
      obtain ⟨p, hp, hpd⟩ := prime_div (show 2 ≤ i by omega)
      exact e (mu_sq hp (Nat.dvd_trans (Nat.mul_dvd_mul hpd hpd) z) (by omega))
/-- how many to n -/
def plainN (n : Nat) : Int := sumR (fun i => if mu i = 0 then 0 else 1) n
theorem plain_sum : ∀ {n : Nat} (N : Nat), n < (N + 1) * (N + 1) → sumR (fun d => mu d * (n / (d * d) : Nat)) N = plainN n
  | 0, N, _ => by
    refine Eq.trans (sumR_zero fun i _ _ => ?_) rfl
    rw [Nat.zero_div]
    simp
  | n + 1, N, h => by
    have e : sumR (fun k => mu k * ((n + 1) / (k * k) : Nat)) N = sumR (fun k => mu k * (n / (k * k) : Nat)) N + sumR (fun d => if d * d ∣ n + 1 then mu d else 0) N := by
      rw [← sumR_add]
      refine sumR_congr fun i _ _ => ?_
      rw [Nat.succ_div]
      split
      · rw [Int.natCast_add, Int.mul_add]
        simp
      · simp
    rw [e, plain_sum N (by omega), mu_sqsum (by omega) h, plainN, plainN, sumR]
theorem plain_step (n : Nat) : plainN (n + 1) - plainN n = if mu (n + 1) = 0 then 0 else 1 := by
  unfold plainN
  rw [sumR]
  omega
/-- each number is a square times a number without squares, in one way -/
theorem one_square : ∀ (k n N : Nat), n ≤ k → 1 ≤ n → n < (N + 1) * (N + 1) → sumR (fun s => if s * s ∣ n then (if mu (n / (s * s)) = 0 then 0 else 1) else 0) N = 1
  | 0, n, N, h, h1, _ => by omega
  | k + 1, n, N, h, h1, h2 => by
    have N1 : 1 ≤ N := by
      rcases Nat.eq_zero_or_pos N with e | e
      · rw [e] at h2
        omega
      · exact e
    by_cases e : mu n = 0
    · obtain ⟨p, hp, hd⟩ := mu_zero_has h1 e
      have p2 := hp.1
      obtain ⟨m, rfl⟩ := hd
      have m0 : 1 ≤ m := by
        rcases Nat.eq_zero_or_pos m with z | z
        · rw [z] at h1
          omega
        · exact z
      have pp : 4 ≤ p * p := Nat.mul_le_mul p2 p2
      have mlt : m < p * p * m := by
        have := Nat.mul_le_mul_right m pp
        omega
      rw [sumR_split (p := p) (by omega)]
      have a : sumR (fun i => if p ∣ i then 0 else if i * i ∣ p * p * m then (if mu (p * p * m / (i * i)) = 0 then 0 else 1) else 0) N = 0 := by
        refine sumR_zero fun i i1 _ => ?_
        by_cases hpi : p ∣ i
        · rw [if_pos hpi]
        · rw [if_neg hpi]
          by_cases hin : i * i ∣ p * p * m
          · rw [if_pos hin, if_pos]
            have c : Nat.Coprime (i * i) (p * p) := (Nat.Coprime.mul_right (sq_coprime hp hpi) (sq_coprime hp hpi)).symm
            obtain ⟨t, rfl⟩ := c.dvd_of_dvd_mul_left hin
            have ii : 0 < i * i := Nat.mul_pos (by omega) (by omega)
            rw [show p * p * (i * i * t) = i * i * (p * p * t) by rw [Nat.mul_left_comm], Nat.mul_div_cancel_left _ ii]
            refine mu_sq hp (Nat.dvd_mul_right _ _) (Nat.mul_pos (by omega) ?_)
            rcases Nat.eq_zero_or_pos t with z | z
            · rw [z] at m0
              omega
            · exact z
          · rw [if_neg hin]
      have b : sumR (fun i => if p * i * (p * i) ∣ p * p * m then (if mu (p * p * m / (p * i * (p * i))) = 0 then 0 else 1) else 0) (N / p) = sumR (fun s => if s * s ∣ m then (if mu (m / (s * s)) = 0 then 0 else 1) else 0) (N / p) := by
        refine sumR_congr fun i _ _ => ?_
        rw [show p * i * (p * i) = p * p * (i * i) by rw [Nat.mul_assoc, Nat.mul_assoc, Nat.mul_left_comm i p i], Nat.mul_div_mul_left _ _ (by omega : 0 < p * p)]
        by_cases z : i * i ∣ m
        · rw [if_pos z, if_pos (Nat.mul_dvd_mul_left _ z)]
        · rw [if_neg z, if_neg fun y => z (Nat.dvd_of_mul_dvd_mul_left (by omega : 0 < p * p) y)]
      rw [a, b, one_square k m (N / p) (by omega) m0 ?_]
      · rfl
      · have g := Nat.lt_mul_div_succ N (show 0 < p by omega)
        refine Classical.byContradiction fun z => ?_
        have h3 : (N / p + 1) * (N / p + 1) ≤ m := by omega
        have h4 := Nat.mul_le_mul_left (p * p) h3
        rw [show p * p * ((N / p + 1) * (N / p + 1)) = (p * (N / p + 1)) * (p * (N / p + 1)) by rw [Nat.mul_assoc, Nat.mul_assoc, Nat.mul_left_comm (N / p + 1) p]] at h4
        have h5 := Nat.mul_le_mul (show N + 1 ≤ p * (N / p + 1) from g) (show N + 1 ≤ p * (N / p + 1) from g)
        omega
    · rw [sumR_one (k := 1) (by decide) N1 fun i a _ b => ?_]
      · rw [if_pos (by simp), if_neg (by simpa using e)]
      · rw [if_neg]
        intro z
        obtain ⟨p, hp, hpd⟩ := prime_div (show 2 ≤ i by omega)
        exact e (mu_sq hp (Nat.dvd_trans (Nat.mul_dvd_mul hpd hpd) z) (by omega))
theorem plain_squares : ∀ {n : Nat} (N : Nat), n < (N + 1) * (N + 1) → sumR (fun s => plainN (n / (s * s))) N = n
  | 0, N, _ => by
    refine Eq.trans (sumR_zero fun i _ _ => ?_) rfl
    rw [Nat.zero_div]
    rfl
  | n + 1, N, h => by
    have e : sumR (fun s => plainN ((n + 1) / (s * s))) N = sumR (fun s => plainN (n / (s * s))) N + sumR (fun s => if s * s ∣ n + 1 then (if mu ((n + 1) / (s * s)) = 0 then 0 else 1) else 0) N := by
      rw [← sumR_add]
      refine sumR_congr fun i _ _ => ?_
      have sd := Nat.succ_div (a := n) (b := i * i)
      by_cases z : i * i ∣ n + 1
      · rw [if_pos z] at sd ⊢
        rw [sd]
        have := plain_step (n / (i * i))
        omega
      · rw [if_neg z] at sd ⊢
        rw [sd]
        simp
    rw [e, plain_squares N (by omega), one_square (n + 1) (n + 1) N (Nat.le_refl _) (by omega) h]
    omega

end M
namespace M
/-! divisors: how many, their sum -/
def dsum (f : Nat → Int) (n : Nat) : Int := sumR (fun d => if d ∣ n then f d else 0) n
theorem dsum_more {f : Nat → Int} {n N : Nat} (h1 : 1 ≤ n) (h : n ≤ N) : sumR (fun d => if d ∣ n then f d else 0) N = dsum f n :=
  sumR_trunc h fun i hi _ => if_neg fun z => by
    have := Nat.le_of_dvd (by omega) z
    omega
theorem dsum_pow {p m : Nat} (f : Nat → Int) (hp : Pr p) (hm : ¬ p ∣ m) (m1 : 1 ≤ m) (e : Nat) : dsum f (p ^ (e + 1) * m) = dsum f m + dsum (fun d => f (p * d)) (p ^ e * m) := by
  have p2 := hp.1
  have pe : 0 < p ^ e := Nat.pow_pos (by omega)
  have n1 : p ^ (e + 1) * m = p * (p ^ e * m) := by rw [Nat.pow_succ, Nat.mul_comm (p ^ e) p, Nat.mul_assoc]
  have c : ∀ d, ¬ p ∣ d → (d ∣ p ^ (e + 1) * m ↔ d ∣ m) := fun d hd => by
    have hc : Nat.Coprime d (p ^ (e + 1)) := Nat.Coprime.pow_right _ (hp.coprime hd).symm
    exact ⟨fun z => hc.dvd_of_dvd_mul_left z, fun z => Nat.dvd_trans z (Nat.dvd_mul_left _ _)⟩
  have ml : m ≤ p ^ (e + 1) * m := Nat.le_mul_of_pos_left m (Nat.pow_pos (by omega))
  show sumR (fun d => if d ∣ p ^ (e + 1) * m then f d else 0) (p ^ (e + 1) * m) = _
  rw [sumR_split (p := p) (by omega)]
  congr 1
  · rw [← dsum_more m1 ml]
    refine sumR_congr fun i _ _ => ?_
    by_cases h : p ∣ i
    · rw [if_pos h, if_neg fun z => hm (Nat.dvd_trans h z)]
    · rw [if_neg h]
      by_cases g : i ∣ m
      · rw [if_pos g, if_pos ((c i h).mpr g)]
      · rw [if_neg g, if_neg fun z => g ((c i h).mp z)]
  · rw [n1, Nat.mul_div_cancel_left _ (by omega : 0 < p)]
    refine sumR_congr fun i _ _ => ?_
    by_cases g : i ∣ p ^ e * m
    · rw [if_pos g, if_pos (Nat.mul_dvd_mul_left p g)]
    · rw [if_neg g, if_neg fun z => g (Nat.dvd_of_mul_dvd_mul_left (by omega) z)]
theorem dsum_mul (c : Int) (f : Nat → Int) (n : Nat) : dsum (fun d => c * f d) n = c * dsum f n := by
  unfold dsum
  rw [← sumR_mul]
  refine sumR_congr fun i _ _ => ?_
  split
  · rfl
  · simp
def tauN (n : Nat) : Int := dsum (fun _ => 1) n
def sigN (n : Nat) : Int := dsum (fun d => d) n
theorem tau_pow {p m : Nat} (hp : Pr p) (hm : ¬ p ∣ m) (m1 : 1 ≤ m) : ∀ e : Nat, tauN (p ^ e * m) = (e + 1 : Nat) * tauN m
  | 0 => by simp
  | e + 1 => by
    unfold tauN
    rw [dsum_pow _ hp hm m1 e]
    have := tau_pow hp hm m1 e
    unfold tauN at this
    rw [this, Int.natCast_add (e + 1) 1, Int.add_mul]
    omega
def geo (p : Nat) : Nat → Nat
  | 0 => 1
  | e + 1 => geo p e * p + 1
theorem sig_pow {p m : Nat} (hp : Pr p) (hm : ¬ p ∣ m) (m1 : 1 ≤ m) : ∀ e : Nat, sigN (p ^ e * m) = (geo p e : Nat) * sigN m
  | 0 => by simp [geo]
  | e + 1 => by
    unfold sigN
    rw [dsum_pow _ hp hm m1 e]
    have := sig_pow hp hm m1 e
    unfold sigN at this
    have e2 : dsum (fun d => ((p * d : Nat) : Int)) (p ^ e * m) = (p : Int) * dsum (fun d => (d : Int)) (p ^ e * m) := by
      rw [← dsum_mul]
      rfl
    rw [e2, this, geo, Int.natCast_add, Int.natCast_mul, Int.add_mul, ← Int.mul_assoc, Int.mul_comm (p : Int)]
    simp only [Int.natCast_one, Int.one_mul]
    omega
def tauL : List (Nat × Nat) → Nat
  | [] => 1
  | (_, e) :: r => (e + 1) * tauL r
def sigL : List (Nat × Nat) → Nat
  | [] => 1
  | (p, e) :: r => geo p e * sigL r
theorem tau_ok : ∀ {b : Nat} {L : List (Nat × Nat)}, FacOk b L → tauN (facP L) = tauL L
  | _, [], _ => by
    show tauN 1 = 1
    decide
  | b, (p, e) :: r, ⟨h1, h2, h3, h4⟩ => by
    show tauN (p ^ e * facP r) = ((e + 1) * tauL r : Nat)
    rw [tau_pow h2 (not_dvd_rest h2 h4) (FacOk.pos h4), tau_ok h4, Int.natCast_mul]
theorem sig_ok : ∀ {b : Nat} {L : List (Nat × Nat)}, FacOk b L → sigN (facP L) = sigL L
  | _, [], _ => by
    show sigN 1 = 1
    decide
  | b, (p, e) :: r, ⟨h1, h2, h3, h4⟩ => by
    show sigN (p ^ e * facP r) = (geo p e * sigL r : Nat)
    rw [sig_pow h2 (not_dvd_rest h2 h4) (FacOk.pos h4), sig_ok h4, Int.natCast_mul]
theorem tau_fac {L : List (Nat × Nat)} {n : Nat} (h : FacOf L n) : tauN n = tauL L := by
  rw [← h.2]
  exact tau_ok h.1
theorem sig_fac {L : List (Nat × Nat)} {n : Nat} (h : FacOf L n) : sigN n = sigL L := by
  rw [← h.2]
  exact sig_ok h.1
/-- sums over divisors, summed -/
theorem dsum_quot (f : Nat → Int) : ∀ {n : Nat} (N : Nat), n ≤ N → sumR (fun k => f k * (n / k : Nat)) N = sumR (dsum f) n
  | 0, N, _ => by
    refine Eq.trans (sumR_zero fun i _ _ => ?_) rfl
    rw [Nat.zero_div]
    simp
  | n + 1, N, h => by
    have e : sumR (fun k => f k * ((n + 1) / k : Nat)) N = sumR (fun k => f k * (n / k : Nat)) N + sumR (fun d => if d ∣ n + 1 then f d else 0) N := by
      rw [← sumR_add]
      refine sumR_congr fun i _ _ => ?_
      rw [Nat.succ_div]
      split
      · rw [Int.natCast_add, Int.mul_add]
        simp
      · simp
    rw [e, dsum_quot f N (by omega), dsum_more (by omega) h, sumR]
theorem tau_quot (n : Nat) : sumR (fun k => (n / k : Nat)) n = sumR tauN n := by
  have := dsum_quot (fun _ => 1) n (Nat.le_refl n)
  rw [← show sumR (dsum fun _ => 1) n = sumR tauN n from rfl, ← this]
  exact sumR_congr fun i _ _ => by omega
theorem sig_quot (n : Nat) : sumR (fun k => (k : Int) * (n / k : Nat)) n = sumR sigN n := dsum_quot (fun d => d) n (Nat.le_refl n)
/-! twice the near ones -/
theorem sumR_swap (f : Nat → Nat → Int) (m : Nat) : ∀ n : Nat, sumR (fun i => sumR (f i) m) n = sumR (fun j => sumR (fun i => f i j) n) m
  | 0 => by
    show 0 = _
    exact (sumR_zero fun i _ _ => rfl).symm
  | n + 1 => by
    rw [sumR, sumR_swap f m n, ← sumR_add]
    rfl
theorem count_to {d n : Nat} (hd : 1 ≤ d) : ∀ N : Nat, sumR (fun e => if d * e ≤ n then 1 else 0) N = (if n / d ≤ N then n / d else N : Nat)
  | 0 => by
    rw [sumR]
    generalize n / d = q
    split <;> omega
  | N + 1 => by
    rw [sumR, count_to hd N]
    have := Nat.le_div_iff_mul_le (k := d) (x := N + 1) (y := n) (by omega)
    rw [Nat.mul_comm (N + 1) d] at this
    generalize n / d = q at this ⊢
    by_cases h : d * (N + 1) ≤ n
    · have := this.mpr h
      rw [if_pos h]
      split <;> (try split) <;> omega
    · have : ¬ N + 1 ≤ q := fun z => h (this.mp z)
      rw [if_neg h]
      split <;> (try split) <;> omega
theorem hyper {n r : Nat} (h1 : r * r ≤ n) (h2 : n < (r + 1) * (r + 1)) : sumR (fun k => (n / k : Nat)) n = 2 * sumR (fun k => (n / k : Nat)) r - r * r := by
  have rn : r ≤ n := by
    rcases Nat.eq_zero_or_pos r with e | e
    · omega
    · exact Nat.le_trans (Nat.le_mul_of_pos_left r e) h1
  have a : ∀ d, 1 ≤ d → sumR (fun e => if d * e ≤ n then (1 : Int) else 0) n = (n / d : Nat) := fun d hd => by
    rw [count_to hd, if_pos (Nat.div_le_self _ _)]
  have e1 : sumR (fun k => (n / k : Nat)) n = sumR (fun d => sumR (fun e => if d * e ≤ n then (1 : Int) else 0) n) n := sumR_congr fun i i1 _ => (a i i1).symm
  have pt : ∀ d e : Nat, (if d * e ≤ n then (1 : Int) else 0) = (if d ≤ r then (if d * e ≤ n then 1 else 0) else 0) + ((if e ≤ r then (if d * e ≤ n then 1 else 0) else 0) + - (if d ≤ r then (if e ≤ r then 1 else 0) else 0)) := fun d e => by
    by_cases x : d ≤ r
    · by_cases y : e ≤ r
      · have := Nat.mul_le_mul x y
        have z : d * e ≤ n := by omega
        simp [x, y, z]
      · simp [x, y]
    · by_cases y : e ≤ r
      · simp [x, y]
      · have := Nat.mul_le_mul (show r + 1 ≤ d by omega) (show r + 1 ≤ e by omega)
        have z : ¬ d * e ≤ n := by omega
        simp [x, y, z]
  have cut : ∀ (f : Nat → Int), sumR (fun d => if d ≤ r then f d else 0) n = sumR f r := fun f => by
    rw [sumR_trunc (f := fun d => if d ≤ r then f d else 0) rn fun i hi _ => if_neg (by omega)]
    exact sumR_congr fun i _ hi => if_pos hi
  have s1 : sumR (fun d => sumR (fun e => if d ≤ r then (if d * e ≤ n then (1 : Int) else 0) else 0) n) n = sumR (fun k => (n / k : Nat)) r := by
    rw [← cut fun k => ((n / k : Nat) : Int)]
    refine sumR_congr fun d d1 _ => ?_
    by_cases x : d ≤ r
    · simp only [x, if_true]
      exact a d d1
    · simp only [x, if_false]
      exact sumR_zero fun _ _ _ => rfl
  have s2 : sumR (fun d => sumR (fun e => if e ≤ r then (if d * e ≤ n then (1 : Int) else 0) else 0) n) n = sumR (fun k => (n / k : Nat)) r := by
    rw [sumR_swap]
    refine Eq.trans (sumR_congr fun e _ _ => sumR_congr fun d _ _ => ?_) s1
    rw [Nat.mul_comm]
  have sq : ∀ m : Nat, sumR (fun _ => (r : Int)) m = r * m := fun m => by
    induction m with
    | zero => simp [sumR]
    | succ m ih => rw [sumR, ih, Int.natCast_add, Int.mul_add]; simp
  have one : ∀ m : Nat, sumR (fun _ => (1 : Int)) m = m := fun m => by
    induction m with
    | zero => rfl
    | succ m ih => rw [sumR, ih]; rfl
  have s3 : sumR (fun d => sumR (fun e => - (if d ≤ r then (if e ≤ r then (1 : Int) else 0) else 0)) n) n = - (r * r : Int) := by
    rw [sumR_congr (g := fun d => - (if d ≤ r then (r : Int) else 0)) fun d _ _ => ?_]
    · rw [sumR_neg, cut fun _ => (r : Int), sq]
    · rw [sumR_neg]
      by_cases x : d ≤ r
      · simp only [x, if_true]
        rw [cut fun _ => 1, one]
      · simp only [x, if_false]
        rw [sumR_zero fun _ _ _ => rfl]
  rw [e1, sumR_congr fun d _ _ => sumR_congr fun e _ _ => pt d e]
  rw [sumR_congr (g := fun d => sumR (fun e => if d ≤ r then (if d * e ≤ n then (1 : Int) else 0) else 0) n + (sumR (fun e => if e ≤ r then (if d * e ≤ n then (1 : Int) else 0) else 0) n + sumR (fun e => - (if d ≤ r then (if e ≤ r then (1 : Int) else 0) else 0)) n)) fun d _ _ => by rw [sumR_add, sumR_add]]
  rw [sumR_add, sumR_add, s1, s2, s3]
  omega
theorem sumR_mono {f g : Nat → Int} : ∀ {n : Nat}, (∀ i, 1 ≤ i → i ≤ n → f i ≤ g i) → sumR f n ≤ sumR g n
  | 0, _ => Int.le_refl 0
  | n + 1, h => Int.add_le_add (sumR_mono fun i h1 h2 => h i h1 (by omega)) (h (n + 1) (by omega) (by omega))
/-- at most twice the root -/
theorem tau_le {n r : Nat} (h0 : 1 ≤ n) (h2 : n < (r + 1) * (r + 1)) : tauN n ≤ 2 * r := by
  have one : ∀ m : Nat, sumR (fun _ => (1 : Int)) m = m := fun m => by
    induction m with
    | zero => rfl
    | succ m ih => rw [sumR, ih]; rfl
  have a : ∀ d, 1 ≤ d → sumR (fun e => if d * e = n then (1 : Int) else 0) n = if d ∣ n then 1 else 0 := fun d hd => by
    by_cases g : d ∣ n
    · obtain ⟨k, rfl⟩ := g
      have k1 : 1 ≤ k := by
        rcases Nat.eq_zero_or_pos k with z | z
        · rw [z] at h0
          omega
        · exact z
      rw [if_pos (Nat.dvd_mul_right d k), sumR_one (k := k) k1 (Nat.le_mul_of_pos_left k hd) fun i _ _ hi => if_neg fun z => hi (Nat.eq_of_mul_eq_mul_left hd z)]
      rw [if_pos rfl]
    · rw [if_neg g, sumR_zero fun e _ _ => if_neg fun z => g ⟨e, z.symm⟩]
  have e1 : tauN n = sumR (fun d => sumR (fun e => if d * e = n then (1 : Int) else 0) n) n := sumR_congr fun d d1 _ => (a d d1).symm
  have cut : ∀ (f : Nat → Int), (∀ d, 0 ≤ f d) → (∀ d, f d ≤ 1) → sumR (fun d => if d ≤ r then f d else 0) n ≤ r := fun f f0 f1 => by
    have : ∀ m, sumR (fun d => if d ≤ r then f d else 0) m ≤ (if m ≤ r then m else r : Nat) := fun m => by
      induction m with
      | zero => simp [sumR]
      | succ m ih =>
        rw [sumR]
        have := f1 (m + 1)
        have := f0 (m + 1)
        split at ih <;> split <;> (try split) <;> omega
    refine Int.le_trans (this n) ?_
    split <;> omega
  have half : sumR (fun d => if d ≤ r then (if d ∣ n then (1 : Int) else 0) else 0) n ≤ r := cut _ (fun d => by split <;> omega) (fun d => by split <;> omega)
  have pt : ∀ d e : Nat, (if d * e = n then (1 : Int) else 0) ≤ (if d ≤ r then (if d * e = n then 1 else 0) else 0) + (if e ≤ r then (if d * e = n then 1 else 0) else 0) := fun d e => by
    by_cases x : d ≤ r
    · by_cases y : e ≤ r <;> simp [x, y] <;> split <;> omega
    · by_cases y : e ≤ r
      · simp [x, y]
      · have := Nat.mul_le_mul (show r + 1 ≤ d by omega) (show r + 1 ≤ e by omega)
        have z : ¬ d * e = n := by omega
        simp [x, y, z]
  have s1 : sumR (fun d => sumR (fun e => if d ≤ r then (if d * e = n then (1 : Int) else 0) else 0) n) n ≤ r := by
    refine Int.le_trans (Int.le_of_eq (sumR_congr fun d d1 _ => ?_)) half
    by_cases x : d ≤ r
    · simp only [x, if_true]
      exact a d d1
    · simp only [x, if_false]
      exact sumR_zero fun _ _ _ => rfl
  have s2 : sumR (fun d => sumR (fun e => if e ≤ r then (if d * e = n then (1 : Int) else 0) else 0) n) n ≤ r := by
    rw [sumR_swap]
    refine Int.le_trans (Int.le_of_eq (sumR_congr fun e _ _ => sumR_congr fun d _ _ => ?_)) s1
    rw [Nat.mul_comm]
  rw [e1]
  refine Int.le_trans (sumR_mono fun d _ _ => sumR_mono fun e _ _ => pt d e) ?_
  rw [sumR_congr (g := fun d => sumR (fun e => if d ≤ r then (if d * e = n then (1 : Int) else 0) else 0) n + sumR (fun e => if e ≤ r then (if d * e = n then (1 : Int) else 0) else 0) n) fun d _ _ => sumR_add _ _ _, sumR_add]
  omega

end M
namespace M
/-! share-free counts -/
theorem pe_pos {p e : Nat} (hp : Pr p) : 0 < p ^ e := Nat.pow_pos (by have := hp.1; omega)
/-- by the powers -/
def phL : List (Nat × Nat) → Nat
  | [] => 1
  | (p, e) :: r => p ^ (e - 1) * (p - 1) * phL r
/-- the primes of S done, the others not -/
def mixL (S : Nat → Bool) : List (Nat × Nat) → Nat
  | [] => 1
  | (p, e) :: r => (if S p then p ^ (e - 1) * (p - 1) else p ^ e) * mixL S r
theorem mixL_none : ∀ L : List (Nat × Nat), mixL (fun _ => false) L = facP L
  | [] => rfl
  | (p, e) :: r => by
    rw [mixL, mixL_none r, facP]
    rfl
theorem mixL_all {S : Nat → Bool} : ∀ {L : List (Nat × Nat)}, (∀ x ∈ L, S x.1 = true) → mixL S L = phL L
  | [], _ => rfl
  | (p, e) :: r, h => by
    rw [mixL, phL, mixL_all fun x hx => h x (List.mem_cons_of_mem _ hx), if_pos (h (p, e) List.mem_cons_self)]
theorem mixL_congr {S T : Nat → Bool} : ∀ {L : List (Nat × Nat)}, (∀ x ∈ L, S x.1 = T x.1) → mixL S L = mixL T L
  | [], _ => rfl
  | (p, e) :: r, h => by
    rw [mixL, mixL, mixL_congr fun x hx => h x (List.mem_cons_of_mem _ hx), h (p, e) List.mem_cons_self]
theorem mixL_dvd {S : Nat → Bool} {p : Nat} (hS : S p = false) : ∀ {b : Nat} {L : List (Nat × Nat)}, FacOk b L → (∃ x ∈ L, x.1 = p) → p ∣ mixL S L
  | _, [], _, h => by
    obtain ⟨x, hx, _⟩ := h
    cases hx
  | b, (q, e) :: r, ⟨_, h2, h3, h4⟩, h => by
    rw [mixL]
    by_cases hq : q = p
    · subst hq
      rw [hS]
      exact Nat.dvd_trans (dvd_pow_self h3) (Nat.dvd_mul_right _ _)
    · obtain ⟨x, hx, e⟩ := h
      rcases List.mem_cons.mp hx with z | z
      · rw [z] at e
        exact (hq e).elim
      · exact Nat.dvd_trans (mixL_dvd hS h4 ⟨x, z, e⟩) (Nat.dvd_mul_left _ _)
/-- one prime more -/
theorem mixL_step {S : Nat → Bool} {p : Nat} (hp : Pr p) (hS : S p = false) : ∀ {b : Nat} {L : List (Nat × Nat)}, FacOk b L → mixL (fun q => S q || decide (q = p)) L = if p ∣ facP L then mixL S L / p * (p - 1) else mixL S L
  | _, [], _ => by
    rw [if_neg fun z => by
      have := Nat.le_of_dvd (by decide) (show p ∣ 1 from z)
      have := hp.1
      omega]
    rfl
  | b, (q, e) :: r, ⟨h1, h2, h3, h4⟩ => by
    have p0 : 0 < p := by have := hp.1; omega
    by_cases hq : q = p
    · subst hq
      have same : mixL (fun x => S x || decide (x = q)) r = mixL S r := mixL_congr fun x hx => by
        have := (h4.mem hx).1
        rw [decide_eq_false (by omega), Bool.or_false]
      rw [if_pos (show q ∣ facP ((q, e) :: r) from Nat.dvd_trans (dvd_pow_self h3) (Nat.dvd_mul_right _ _)), mixL, mixL, same, hS, decide_eq_true rfl]
      simp only [Bool.or_true, if_true, Bool.false_eq_true, if_false]
      obtain ⟨f, rfl⟩ : ∃ f, e = f + 1 := ⟨e - 1, by omega⟩
      rw [Nat.add_sub_cancel, Nat.pow_succ, Nat.mul_comm (q ^ f) q, Nat.mul_assoc q, Nat.mul_div_cancel_left _ p0, Nat.mul_right_comm]
    · have ih := mixL_step (S := S) hp hS h4
      rw [mixL, mixL, ih, decide_eq_false hq, Bool.or_false]
      have eqv : p ∣ facP ((q, e) :: r) ↔ p ∣ facP r := by
        constructor
        · intro z
          rcases hp.mul z with z | z
          · exact (hq (hp.eq_of_dvd h2 (hp.pow z)).symm).elim
          · exact z
        · exact fun z => Nat.dvd_trans z (Nat.dvd_mul_left _ _)
      by_cases hd : p ∣ facP r
      · rw [if_pos hd, if_pos (eqv.mpr hd)]
        obtain ⟨t, ht⟩ := mixL_dvd hS h4 (h4.dvd hp hd)
        rw [ht, Nat.mul_div_cancel_left _ p0, Nat.mul_left_comm _ p t, Nat.mul_div_cancel_left _ p0, Nat.mul_assoc]
      · rw [if_neg hd, if_neg fun z => hd (eqv.mp z)]
/-- signs over quotients -/
def phN (n : Nat) : Int := sumR (fun d => if d ∣ n then mu d * (n / d : Nat) else 0) n
theorem phN_more {n N : Nat} (h1 : 1 ≤ n) (h : n ≤ N) : sumR (fun d => if d ∣ n then mu d * (n / d : Nat) else 0) N = phN n :=
  sumR_trunc h fun i hi _ => if_neg fun z => by
    have := Nat.le_of_dvd (by omega) z
    omega
theorem phN_pow {p m : Nat} (hp : Pr p) (hm : ¬ p ∣ m) (m1 : 1 ≤ m) (e : Nat) : phN (p ^ (e + 1) * m) = (p ^ e * (p - 1) : Nat) * phN m := by
  have p2 := hp.1
  have n1 : p ^ (e + 1) * m = p * (p ^ e * m) := by rw [Nat.pow_succ, Nat.mul_comm (p ^ e) p, Nat.mul_assoc]
  have c : ∀ d, ¬ p ∣ d → ∀ k, (d ∣ p ^ k * m ↔ d ∣ m) := fun d hd k => by
    have hc : Nat.Coprime d (p ^ k) := Nat.Coprime.pow_right _ (hp.coprime hd).symm
    exact ⟨fun z => hc.dvd_of_dvd_mul_left z, fun z => Nat.dvd_trans z (Nat.dvd_mul_left _ _)⟩
  have ml : ∀ k, m ≤ p ^ k * m := fun k => Nat.le_mul_of_pos_left m (pe_pos hp)
  have quo : ∀ d k, 1 ≤ d → d ∣ m → ((p ^ k * m / d : Nat) : Int) = (p ^ k : Nat) * (m / d : Nat) := fun d k d1 hd => by
    rw [Nat.mul_div_assoc _ hd, Int.natCast_mul]
  unfold phN
  rw [sumR_split (p := p) (by omega)]
  have a : sumR (fun d => if p ∣ d then 0 else if d ∣ p ^ (e + 1) * m then mu d * (p ^ (e + 1) * m / d : Nat) else 0) (p ^ (e + 1) * m) = (p ^ (e + 1) : Nat) * phN m := by
    rw [← phN_more m1 (ml (e + 1)), ← sumR_mul]
    refine sumR_congr fun i i1 _ => ?_
    by_cases h : p ∣ i
    · rw [if_pos h, if_neg fun z => hm (Nat.dvd_trans h z), Int.mul_zero]
    · rw [if_neg h]
      by_cases g : i ∣ m
      · rw [if_pos g, if_pos ((c i h (e + 1)).mpr g), quo i (e + 1) i1 g, Int.mul_left_comm]
      · rw [if_neg g, if_neg fun z => g ((c i h (e + 1)).mp z), Int.mul_zero]
  have b : sumR (fun i => if p * i ∣ p ^ (e + 1) * m then mu (p * i) * (p ^ (e + 1) * m / (p * i) : Nat) else 0) (p ^ (e + 1) * m / p) = - ((p ^ e : Nat) * phN m) := by
    rw [n1, Nat.mul_div_cancel_left _ (by omega : 0 < p), ← phN_more m1 (ml e), ← sumR_mul, ← sumR_neg]
    refine sumR_congr fun i i1 _ => ?_
    rw [Nat.mul_div_mul_left _ _ (by omega : 0 < p)]
    by_cases h : p ∣ i
    · rw [mu_mul_dvd hp h i1, if_neg fun z => hm (Nat.dvd_trans h z)]
      split <;> simp
    · rw [mu_mul hp h]
      by_cases g : i ∣ m
      · rw [if_pos g, if_pos (Nat.mul_dvd_mul_left p ((c i h e).mpr g)), quo i e i1 g, Int.neg_mul, Int.mul_left_comm]
      · rw [if_neg g, if_neg fun z => g ((c i h e).mp (Nat.dvd_of_mul_dvd_mul_left (by omega) z))]
        simp
  rw [a, b]
  have e3 : ((p ^ (e + 1) : Nat) : Int) = (p ^ e * (p - 1) : Nat) + (p ^ e : Nat) := by
    rw [← Int.natCast_add, Nat.pow_succ, ← Nat.mul_succ, show (p - 1).succ = p by omega]
  show _ = ((p ^ e * (p - 1) : Nat) : Int) * phN m
  rw [e3, Int.add_mul]
  omega
theorem ph_ok : ∀ {b : Nat} {L : List (Nat × Nat)}, FacOk b L → phN (facP L) = phL L
  | _, [], _ => by
    show phN 1 = 1
    decide
  | b, (p, e) :: r, ⟨h1, h2, h3, h4⟩ => by
    obtain ⟨f, rfl⟩ : ∃ f, e = f + 1 := ⟨e - 1, by omega⟩
    show phN (p ^ (f + 1) * facP r) = (p ^ (f + 1 - 1) * (p - 1) * phL r : Nat)
    rw [phN_pow h2 (not_dvd_rest h2 h4) (FacOk.pos h4), ph_ok h4, Nat.add_sub_cancel, Int.natCast_mul (p ^ f * (p - 1)) (phL r)]
theorem ph_fac {L : List (Nat × Nat)} {n : Nat} (h : FacOf L n) : phN n = phL L := by
  rw [← h.2]
  exact ph_ok h.1
/-! couples -/
theorem sq_succ_div {d n : Nat} : (((n + 1) / d : Nat) : Int) * ((n + 1) / d : Nat) = ((n / d : Nat) : Int) * (n / d : Nat) + (if d ∣ n + 1 then 2 * (((n + 1) / d : Nat) : Int) - 1 else 0) := by
  rw [Nat.succ_div]
  split
  · rw [Int.natCast_add]
    generalize ((n / d : Nat) : Int) = q
    rw [Int.mul_add, Int.add_mul]
    simp
    omega
  · simp
theorem couples_sum : ∀ {n : Nat} (N : Nat), n ≤ N → sumR (fun d => mu d * (((n / d : Nat) : Int) * (n / d : Nat))) N = 2 * sumR phN n - if n = 0 then 0 else 1
  | 0, N, _ => by
    rw [if_pos rfl]
    refine Eq.trans (sumR_zero fun i _ _ => ?_) rfl
    rw [Nat.zero_div]
    simp
  | n + 1, N, h => by
    have e : sumR (fun d => mu d * ((((n + 1) / d : Nat) : Int) * ((n + 1) / d : Nat))) N = sumR (fun d => mu d * (((n / d : Nat) : Int) * (n / d : Nat))) N + (2 * phN (n + 1) - sumR (fun d => if d ∣ n + 1 then mu d else 0) N) := by
      rw [← phN_more (by omega) h, ← sumR_mul, Int.sub_eq_add_neg, ← sumR_neg, ← sumR_add, ← sumR_add]
      refine sumR_congr fun i _ _ => ?_
      rw [sq_succ_div, Int.mul_add]
      split
      · have := Int.mul_left_comm (mu i) 2 (((n + 1) / i : Nat) : Int)
        rw [Int.mul_sub]
        omega
      · simp
    rw [e, couples_sum N (by omega), mu_sum (by omega) h, sumR, if_neg (show ¬ n + 1 = 0 by omega)]
    by_cases z : n = 0
    · rw [if_pos z, if_pos (show n + 1 = 1 by omega), z, show sumR phN 0 = 0 from rfl]
      omega
    · rw [if_neg z, if_neg (show ¬ n + 1 = 1 by omega)]
      omega
theorem mult_to {d : Nat} (hd : 1 ≤ d) : ∀ n : Nat, sumR (fun a => if d ∣ a then (1 : Int) else 0) n = (n / d : Nat)
  | 0 => by simp [sumR]
  | n + 1 => by
    rw [sumR, mult_to hd n, Nat.succ_div]
    split <;> omega
/-- couples that share nothing -/
theorem couples_count (n : Nat) : sumR (fun a => sumR (fun b => if Nat.gcd a b = 1 then (1 : Int) else 0) n) n = sumR (fun d => mu d * (((n / d : Nat) : Int) * (n / d : Nat))) n := by
  have a1 : ∀ a b, 1 ≤ a → a ≤ n → 1 ≤ b → (if Nat.gcd a b = 1 then (1 : Int) else 0) = sumR (fun d => mu d * ((if d ∣ a then 1 else 0) * (if d ∣ b then 1 else 0))) n := fun a b h1 h2 h3 => by
    have g1 : 1 ≤ Nat.gcd a b := Nat.gcd_pos_of_pos_left b h1
    have g2 : Nat.gcd a b ≤ n := Nat.le_trans (Nat.gcd_le_left b h1) h2
    rw [← mu_sum g1 g2]
    refine sumR_congr fun d _ _ => ?_
    by_cases x : d ∣ a
    · by_cases y : d ∣ b
      · rw [if_pos (Nat.dvd_gcd x y), if_pos x, if_pos y]
        simp
      · rw [if_neg fun z => y (Nat.dvd_trans z (Nat.gcd_dvd_right a b)), if_neg y]
        simp
    · rw [if_neg fun z => x (Nat.dvd_trans z (Nat.gcd_dvd_left a b)), if_neg x]
      simp
  rw [sumR_congr (g := fun a => sumR (fun d => mu d * ((if d ∣ a then 1 else 0) * (n / d : Nat))) n) fun a h1 h2 => ?_]
  · rw [sumR_swap]
    refine sumR_congr fun d d1 _ => ?_
    rw [sumR_mul]
    congr 1
    rw [sumR_congr (g := fun a => ((n / d : Nat) : Int) * (if d ∣ a then 1 else 0)) fun a _ _ => Int.mul_comm _ _, sumR_mul, mult_to d1]
  · rw [sumR_congr fun b b1 _ => a1 a b h1 h2 b1, sumR_swap]
    refine sumR_congr fun d d1 _ => ?_
    rw [sumR_mul, sumR_mul, mult_to d1]

end M
namespace M
/-! sums of shares -/
/-- f over the divisors, each with the number's part -/
def cs (f : Nat → Int) (n : Nat) : Int := sumR (fun d => if d ∣ n then f d * (n / d : Nat) else 0) n
theorem cs_more {f : Nat → Int} {n N : Nat} (h1 : 1 ≤ n) (h : n ≤ N) : sumR (fun d => if d ∣ n then f d * (n / d : Nat) else 0) N = cs f n :=
  sumR_trunc h fun i hi _ => if_neg fun z => by
    have := Nat.le_of_dvd (by omega) z
    omega
theorem cs_congr {f g : Nat → Int} {n : Nat} (h : ∀ d, 1 ≤ d → d ∣ n → f d = g d) : cs f n = cs g n := sumR_congr fun i i1 _ => by
  by_cases z : i ∣ n
  · rw [if_pos z, if_pos z, h i i1 z]
  · rw [if_neg z, if_neg z]
theorem cs_mul (c : Int) (f : Nat → Int) (n : Nat) : cs (fun d => c * f d) n = c * cs f n := by
  unfold cs
  rw [← sumR_mul]
  refine sumR_congr fun i _ _ => ?_
  split
  · rw [Int.mul_assoc]
  · simp
theorem dvd_pm {p m d : Nat} (hp : Pr p) (hd : ¬ p ∣ d) (k : Nat) : d ∣ p ^ k * m ↔ d ∣ m := by
  have hc : Nat.Coprime d (p ^ k) := Nat.Coprime.pow_right _ (hp.coprime hd).symm
  exact ⟨fun z => hc.dvd_of_dvd_mul_left z, fun z => Nat.dvd_trans z (Nat.dvd_mul_left _ _)⟩
theorem cs_pow {p m : Nat} (f : Nat → Int) (hp : Pr p) (hm : ¬ p ∣ m) (m1 : 1 ≤ m) (e : Nat) : cs f (p ^ (e + 1) * m) = (p ^ (e + 1) : Nat) * cs f m + cs (fun d => f (p * d)) (p ^ e * m) := by
  have p2 := hp.1
  have n1 : p ^ (e + 1) * m = p * (p ^ e * m) := by rw [Nat.pow_succ, Nat.mul_comm (p ^ e) p, Nat.mul_assoc]
  have ml : m ≤ p ^ (e + 1) * m := Nat.le_mul_of_pos_left m (pe_pos hp)
  show sumR (fun d => if d ∣ p ^ (e + 1) * m then f d * (p ^ (e + 1) * m / d : Nat) else 0) (p ^ (e + 1) * m) = _
  rw [sumR_split (p := p) (by omega)]
  congr 1
  · rw [← cs_more m1 ml, ← sumR_mul]
    refine sumR_congr fun i i1 _ => ?_
    by_cases h : p ∣ i
    · rw [if_pos h, if_neg fun z => hm (Nat.dvd_trans h z), Int.mul_zero]
    · rw [if_neg h]
      by_cases g : i ∣ m
      · rw [if_pos g, if_pos ((dvd_pm hp h _).mpr g), Nat.mul_div_assoc _ g, Int.natCast_mul, Int.mul_left_comm]
      · rw [if_neg g, if_neg fun z => g ((dvd_pm hp h _).mp z), Int.mul_zero]
  · rw [n1, Nat.mul_div_cancel_left _ (by omega : 0 < p)]
    refine sumR_congr fun i _ _ => ?_
    rw [Nat.mul_div_mul_left _ _ (by omega : 0 < p)]
    by_cases g : i ∣ p ^ e * m
    · rw [if_pos g, if_pos (Nat.mul_dvd_mul_left p g)]
    · rw [if_neg g, if_neg fun z => g (Nat.dvd_of_mul_dvd_mul_left (by omega) z)]
theorem ph_mul {p j : Nat} (hp : Pr p) (h : ¬ p ∣ j) (h1 : 1 ≤ j) : phN (p * j) = ((p : Int) - 1) * phN j := by
  have := phN_pow hp h h1 0
  rw [Nat.pow_zero, Nat.one_mul, Nat.zero_add, Nat.pow_one] at this
  rw [this]
  congr 1
  have := hp.1
  omega
theorem ph_mul_dvd {p j : Nat} (hp : Pr p) (h : p ∣ j) (h1 : 1 ≤ j) : phN (p * j) = (p : Int) * phN j := by
  obtain ⟨e, t, rfl, ht, t0⟩ := strip_ex hp.1 j h1
  obtain ⟨f, rfl⟩ : ∃ f, e = f + 1 := by
    cases e with
    | zero =>
      rw [Nat.pow_zero, Nat.mul_one] at h
      exact (ht h).elim
    | succ f => exact ⟨f, rfl⟩
  have e1 : p * (t * p ^ (f + 1)) = p ^ (f + 1 + 1) * t := by rw [Nat.pow_succ p (f + 1), Nat.mul_comm t, Nat.mul_comm (p ^ (f + 1)) p, Nat.mul_assoc]
  rw [e1, Nat.mul_comm t, phN_pow hp ht t0, phN_pow hp ht t0, Nat.pow_succ, ← Int.mul_assoc, ← Int.natCast_mul]
  congr 2
  rw [Nat.mul_comm (p ^ f) p, Nat.mul_assoc]
theorem ph_twice {p j : Nat} (hp : Pr p) (h1 : 1 ≤ j) : phN (p * (p * j)) = (p : Int) * phN (p * j) := ph_mul_dvd hp (Nat.dvd_mul_right p j) (Nat.mul_pos (by have := hp.1; omega) h1)
/-- all divisors' share-free counts together -/
theorem gauss_pow {p m : Nat} (hp : Pr p) (hm : ¬ p ∣ m) (m1 : 1 ≤ m) (h : dsum phN m = m) : ∀ e : Nat, dsum (fun d => phN (p * d)) (p ^ e * m) = ((p ^ (e + 1) : Nat) - 1) * (m : Int)
  | 0 => by
    rw [Nat.pow_zero, Nat.one_mul, Nat.zero_add, Nat.pow_one, ← h, ← dsum_mul]
    refine sumR_congr fun i i1 _ => ?_
    by_cases z : i ∣ m
    · rw [if_pos z, if_pos z]
      exact ph_mul hp (fun y => hm (Nat.dvd_trans y z)) i1
    · rw [if_neg z, if_neg z]
  | e + 1 => by
    rw [dsum_pow _ hp hm m1 e]
    have a : dsum (fun d => phN (p * d)) m = ((p : Int) - 1) * m := by
      have := gauss_pow hp hm m1 h 0
      rw [Nat.pow_zero, Nat.one_mul, Nat.zero_add, Nat.pow_one] at this
      exact this
    have b : dsum (fun d => phN (p * (p * d))) (p ^ e * m) = (p : Int) * dsum (fun d => phN (p * d)) (p ^ e * m) := by
      rw [← dsum_mul]
      refine sumR_congr fun i i1 _ => ?_
      split
      · exact ph_twice hp i1
      · rfl
    rw [a, b, gauss_pow hp hm m1 h e, ← Int.mul_assoc, ← Int.add_mul]
    congr 1
    rw [Nat.pow_succ p (e + 1), Int.natCast_mul, Int.mul_sub, Int.mul_comm ((p ^ (e + 1) : Nat) : Int)]
    omega
theorem gauss_ok : ∀ {b : Nat} {L : List (Nat × Nat)}, FacOk b L → dsum phN (facP L) = facP L
  | _, [], _ => by
    show dsum phN 1 = 1
    decide
  | b, (p, e) :: r, ⟨h1, h2, h3, h4⟩ => by
    obtain ⟨f, rfl⟩ : ∃ f, e = f + 1 := ⟨e - 1, by omega⟩
    have ih := gauss_ok h4
    have nd := not_dvd_rest h2 h4
    have pos := FacOk.pos h4
    show dsum phN (p ^ (f + 1) * facP r) = (p ^ (f + 1) * facP r : Nat)
    rw [dsum_pow _ h2 nd pos f, gauss_pow h2 nd pos ih f, ih, Int.natCast_mul, Int.sub_mul]
    omega
theorem gauss {n : Nat} (h : 1 ≤ n) : dsum phN n = n := by
  obtain ⟨L, hL⟩ := fac_ex h
  rw [← hL.2]
  exact gauss_ok hL.1
def hN (n : Nat) : Int := cs phN n
/-- all shares of n together -/
theorem shares_sum {n : Nat} (h : 1 ≤ n) : sumR (fun k => (Nat.gcd n k : Nat)) n = hN n := by
  have a : ∀ k, 1 ≤ k → ((Nat.gcd n k : Nat) : Int) = sumR (fun d => (if d ∣ n then phN d else 0) * (if d ∣ k then 1 else 0)) n := fun k k1 => by
    have g1 : 1 ≤ Nat.gcd n k := Nat.gcd_pos_of_pos_left k h
    rw [← gauss g1, ← dsum_more g1 (Nat.gcd_le_left k h)]
    refine sumR_congr fun d _ _ => ?_
    by_cases x : d ∣ n
    · by_cases y : d ∣ k
      · rw [if_pos (Nat.dvd_gcd x y), if_pos x, if_pos y, Int.mul_one]
      · rw [if_neg fun z => y (Nat.dvd_trans z (Nat.gcd_dvd_right n k)), if_neg y, Int.mul_zero]
    · rw [if_neg fun z => x (Nat.dvd_trans z (Nat.gcd_dvd_left n k)), if_neg x, Int.zero_mul]
  rw [sumR_congr fun k k1 _ => a k k1, sumR_swap]
  refine sumR_congr fun d d1 _ => ?_
  rw [sumR_mul, mult_to d1]
  split
  · rfl
  · simp
theorem hK {p m : Nat} (hp : Pr p) (hm : ¬ p ∣ m) (m1 : 1 ≤ m) : ∀ e : Nat, cs (fun d => phN (p * d)) (p ^ e * m) = ((e + 1 : Nat) : Int) * ((p ^ e : Nat) * (((p : Int) - 1) * hN m))
  | 0 => by
    rw [Nat.pow_zero, Nat.one_mul]
    have : cs (fun d => phN (p * d)) m = ((p : Int) - 1) * hN m := by
      unfold hN
      rw [← cs_mul]
      exact cs_congr fun d d1 hd => ph_mul hp (fun y => hm (Nat.dvd_trans y hd)) d1
    rw [this]
    simp
  | e + 1 => by
    have a := hK hp hm m1 0
    rw [Nat.pow_zero, Nat.one_mul] at a
    have b : cs (fun d => phN (p * (p * d))) (p ^ e * m) = (p : Int) * cs (fun d => phN (p * d)) (p ^ e * m) := by
      rw [← cs_mul]
      exact cs_congr fun d d1 _ => ph_twice hp d1
    rw [cs_pow _ hp hm m1 e, a, b, hK hp hm m1 e]
    generalize ((p : Int) - 1) * hN m = x
    rw [show (((0 + 1 : Nat) : Int) * (((1 : Nat) : Int) * x)) = x by simp, Int.natCast_add (e + 1) 1, Int.add_mul, Nat.pow_succ, Int.natCast_mul, Int.mul_left_comm (p : Int), ← Int.mul_assoc (p : Int), Int.mul_comm (p : Int)]
    simp only [Int.natCast_one, Int.one_mul]
    omega
theorem h_pow {p m : Nat} (hp : Pr p) (hm : ¬ p ∣ m) (m1 : 1 ≤ m) (e : Nat) : hN (p ^ (e + 1) * m) = (p ^ e : Nat) * (((e + 2 : Nat) : Int) * p - (e + 1 : Nat)) * hN m := by
  unfold hN
  rw [cs_pow _ hp hm m1 e, hK hp hm m1 e]
  show _ * hN m + _ = _ * hN m
  generalize hN m = x
  rw [Nat.pow_succ, Int.natCast_mul, show ((e + 1 : Nat) : Int) * (((p ^ e : Nat) : Int) * (((p : Int) - 1) * x)) = ((p ^ e : Nat) : Int) * (((e + 1 : Nat) : Int) * ((p : Int) - 1)) * x by
    rw [Int.mul_left_comm, Int.mul_assoc, Int.mul_assoc], ← Int.add_mul, ← Int.mul_add]
  congr 2
  rw [Int.mul_sub, Int.mul_one, show ((e + 2 : Nat) : Int) = ((e + 1 : Nat) : Int) + 1 by omega, Int.add_mul]
  omega
def shL : List (Nat × Nat) → Nat
  | [] => 1
  | (p, e) :: r => p ^ (e - 1) * ((e + 1) * p - e) * shL r
theorem sh_ok : ∀ {b : Nat} {L : List (Nat × Nat)}, FacOk b L → ∀ {m : Nat}, 1 ≤ m → (∀ x ∈ L, ¬ x.1 ∣ m) → hN (facP L * m) = shL L * hN m
  | _, [], _, m, _, _ => by
    show hN (1 * m) = ((1 : Nat) : Int) * hN m
    rw [Nat.one_mul]
    simp
  | b, (p, e) :: r, ⟨h1, h2, h3, h4⟩, m, m1, hx => by
    obtain ⟨f, rfl⟩ : ∃ f, e = f + 1 := ⟨e - 1, by omega⟩
    have nd : ¬ p ∣ facP r * m := fun z => by
      rcases h2.mul z with z | z
      · exact not_dvd_rest h2 h4 z
      · exact hx (p, f + 1) List.mem_cons_self z
    show hN (p ^ (f + 1) * facP r * m) = (p ^ (f + 1 - 1) * ((f + 1 + 1) * p - (f + 1)) * shL r : Nat) * hN m
    rw [Nat.mul_assoc, h_pow h2 nd (Nat.mul_pos (FacOk.pos h4) m1) f, sh_ok h4 m1 fun x hm => hx x (List.mem_cons_of_mem _ hm), Nat.add_sub_cancel, ← Int.mul_assoc, Int.natCast_mul (p ^ f * ((f + 1 + 1) * p - (f + 1))), Int.natCast_mul (p ^ f)]
    congr 3
    have : f + 1 ≤ (f + 1 + 1) * p := Nat.le_trans (by omega) (Nat.le_mul_of_pos_right (f + 1 + 1) (by have := h2.1; omega))
    rw [Int.ofNat_sub this, Int.natCast_mul]
theorem h_one : hN 1 = 1 := by decide
theorem sh_fac {L : List (Nat × Nat)} {n : Nat} (h : FacOf L n) : hN n = shL L := by
  have := sh_ok h.1 (m := 1) (Nat.le_refl 1) fun x hx z => by
    have := Nat.le_of_dvd (by decide) z
    have := (h.1.mem hx).2.1.1
    omega
  rw [h_one, Nat.mul_one, h.2, Int.mul_one] at this
  exact this
/-- of numbers that share nothing: products -/
theorem h_coprime {a b : Nat} (ha : 1 ≤ a) (hb : 1 ≤ b) (h : Nat.gcd a b = 1) : hN (a * b) = hN a * hN b := by
  obtain ⟨L, hL⟩ := fac_ex ha
  rw [sh_fac hL, ← sh_ok hL.1 hb fun x hx z => ?_, hL.2]
  have ok := hL.1.mem hx
  have d1 : x.1 ∣ a := by
    rw [← hL.2]
    exact Nat.dvd_trans (dvd_pow_self ok.2.2) (by
      clear ok h hL z
      induction L with
      | nil => cases hx
      | cons y r ih =>
        obtain ⟨q, f⟩ := y
        rcases List.mem_cons.mp hx with w | w
        · rw [w]
          exact Nat.dvd_mul_right _ _
        · exact Nat.dvd_trans (ih w) (Nat.dvd_mul_left _ _))
  have d2 := Nat.dvd_gcd d1 z
  rw [h] at d2
  have := Nat.le_of_dvd (by decide) d2
  have := ok.2.1.1
  omega
/-- the other way round -/
theorem cs_turn (f : Nat → Int) {n : Nat} (h : 1 ≤ n) : cs f n = dsum (fun d => (d : Int) * f (n / d)) n := by
  have one : ∀ d, 1 ≤ d → d ∣ n → 1 ≤ n / d ∧ n / d ≤ n ∧ d * (n / d) = n := fun d d1 hd => ⟨Nat.div_pos (Nat.le_of_dvd h hd) d1, Nat.div_le_self _ _, Nat.mul_div_cancel' hd⟩
  have a : cs f n = sumR (fun d => sumR (fun e => if d * e = n then f d * e else 0) n) n := sumR_congr fun d d1 _ => by
    by_cases g : d ∣ n
    · obtain ⟨o1, o2, o3⟩ := one d d1 g
      rw [if_pos g, sumR_one (k := n / d) o1 o2 fun e _ _ he => if_neg fun z => he (Nat.eq_of_mul_eq_mul_left d1 (z.trans o3.symm)), if_pos o3]
    · rw [if_neg g, sumR_zero fun e _ _ => if_neg fun z => g ⟨e, z.symm⟩]
  rw [a, sumR_swap]
  refine sumR_congr fun e e1 _ => ?_
  by_cases g : e ∣ n
  · obtain ⟨o1, o2, o3⟩ := one e e1 g
    rw [if_pos g, sumR_one (k := n / e) o1 o2 fun d _ _ hd => if_neg fun z => hd (Nat.eq_of_mul_eq_mul_left e1 ((Nat.mul_comm e d).trans (z.trans o3.symm))), if_pos (by rw [Nat.mul_comm]; exact o3), Int.mul_comm]
  · rw [if_neg g, sumR_zero fun d _ _ => if_neg fun z => g ⟨d, by rw [Nat.mul_comm]; exact z.symm⟩]

end M
namespace M
/-! least primes -/
def IsLeast (i v : Nat) : Prop := Pr v ∧ v ∣ i ∧ ∀ d, 2 ≤ d → d ∣ i → v ≤ d
/-- numbers lowered to primes below k that go into them -/
def lpT : Nat → Nat → Nat
  | 0, i => i
  | k + 1, i => if Pr k ∧ k ∣ i ∧ 2 * k ≤ i then (if k < lpT k i then k else lpT k i) else lpT k i
theorem lpT_ok {i : Nat} (hi : 2 ≤ i) : ∀ k : Nat, lpT k i ∣ i ∧ 2 ≤ lpT k i ∧ ∀ q, q < k → Pr q → q ∣ i → lpT k i ≤ q
  | 0 => ⟨Nat.dvd_refl i, hi, fun q h => by omega⟩
  | k + 1 => by
    obtain ⟨h1, h2, h3⟩ := lpT_ok hi k
    rw [lpT]
    by_cases c : Pr k ∧ k ∣ i ∧ 2 * k ≤ i
    · rw [if_pos c]
      have k2 := c.1.1
      split
      · refine ⟨c.2.1, k2, fun q hq hp hd => ?_⟩
        by_cases e : q = k
        · omega
        · have := h3 q (by omega) hp hd
          omega
      · refine ⟨h1, h2, fun q hq hp hd => ?_⟩
        by_cases e : q = k
        · omega
        · exact h3 q (by omega) hp hd
    · rw [if_neg c]
      refine ⟨h1, h2, fun q hq hp hd => ?_⟩
      by_cases e : q = k
      · subst e
        have hlt : ¬ 2 * q ≤ i := fun z => c ⟨hp, hd, z⟩
        obtain ⟨t, rfl⟩ := hd
        have t1 : t = 1 := by
          rcases Nat.lt_or_ge t 2 with z | z
          · have : t ≠ 0 := by
              rintro rfl
              omega
            omega
          · have := Nat.mul_le_mul_left q z
            omega
        subst t1
        have := Nat.le_of_dvd (by omega) h1
        omega
      · exact h3 q (by omega) hp hd
theorem lpT_self {m : Nat} (h : 2 ≤ m) : lpT m m = m ↔ Pr m := by
  obtain ⟨h1, h2, h3⟩ := lpT_ok h m
  constructor
  · intro z
    refine Classical.byContradiction fun np => ?_
    obtain ⟨p, hp, hd, _, hl⟩ := not_pr_has h np
    have := h3 p hl hp hd
    omega
  · intro z
    rcases z.dvd h1 with e | e
    · omega
    · exact e
theorem lpT_least {i k : Nat} (h : 2 ≤ i) (hk : i < k) : IsLeast i (lpT k i) := by
  obtain ⟨h1, h2, h3⟩ := lpT_ok h k
  obtain ⟨p, hp, hd, _, hl⟩ := least_div h
  have a := h3 p (by have := Nat.le_of_dvd (by omega) hd; omega) hp hd
  have b := hl _ h2 h1
  have e : lpT k i = p := by omega
  rw [e]
  exact ⟨hp, hd, hl⟩
theorem lpT_le (i : Nat) : ∀ k : Nat, lpT k i ≤ i
  | 0 => Nat.le_refl i
  | k + 1 => by
    rw [lpT]
    have := lpT_le i k
    split
    · split <;> omega
    · exact this

end M
namespace M
open PySem PySem.Spec PyProof.Rows L2 G LamX RZ
section
variable {P : Program} {w : World} {K : PySem.W.Frag} {mg : Str → Option Value} {base : Heap}
/-! the law's own least primes and powers -/
def IsLp (n : Nat) (g : Nat → Nat) : Prop := (∀ i, 2 ≤ i → i ≤ n → IsLeast i (g i)) ∧ ∀ i, g i ≤ i
def Rows (H : Hp) (p : Addr) (L : List (Nat × Nat)) : Prop := ∃ ts : List Addr, H p = some (.lst (ts.map V.ref)) ∧ ts.length = L.length ∧ ∀ (i : Nat) (t : Addr), ts[i]? = some t → ∃ x, L[i]? = some x ∧ H t = some (.tup [.int (x.1 : Int), .int (x.2 : Int)])
theorem Rows.same {H H' : Hp} {p : Addr} {L : List (Nat × Nat)} (h : Rows H p L) (s : Same H H') : Rows H' p L := by
  obtain ⟨ts, h1, h2, h3⟩ := h
  refine ⟨ts, s _ _ h1, h2, fun i t e => ?_⟩
  obtain ⟨x, e1, e2⟩ := h3 i t e
  exact ⟨x, e1, s _ _ e2⟩
theorem row_one {N : Addr → Prop} {H : Hp} {v : V} {x : Nat × Nat} (h : Rp N H v (powD x)) : ∃ t, v = V.ref t ∧ H t = some (.tup [.int (x.1 : Int), .int (x.2 : Int)]) := by
  cases h with
  | tup _ e r =>
    cases r with
    | cons a b =>
      cases a
      cases b with
      | cons c d =>
        cases c
        cases d
        exact ⟨_, rfl, e⟩
theorem rows_all {N : Addr → Prop} {H : Hp} : ∀ {L : List (Nat × Nat)} {vs : List V}, RpA N H vs (L.map powD) → ∃ ts : List Addr, vs = ts.map V.ref ∧ ts.length = L.length ∧ ∀ (i : Nat) (t : Addr), ts[i]? = some t → ∃ x, L[i]? = some x ∧ H t = some (.tup [.int (x.1 : Int), .int (x.2 : Int)])
  | [], _, h => by
    cases h
    exact ⟨[], rfl, rfl, fun i t e => by simp at e⟩
  | x :: L, _, h => by
    cases h with
    | cons h1 h2 =>
      obtain ⟨ts, rfl, hl, hi⟩ := rows_all h2
      obtain ⟨t, rfl, et⟩ := row_one h1
      refine ⟨t :: ts, rfl, by rw [List.length_cons, List.length_cons, hl], fun i u e => ?_⟩
      cases i with
      | zero =>
        cases e
        exact ⟨x, rfl, et⟩
      | succ i => exact hi i u e
theorem rows_of {N : Addr → Prop} {H : Hp} {p : Addr} {L : List (Nat × Nat)} (h : Rp N H (.ref p) (.list (L.map powD))) : Rows H p L := by
  cases h with
  | lst _ e r =>
    obtain ⟨ts, rfl, hl, hi⟩ := rows_all r
    exact ⟨ts, e, hl, hi⟩
end
end M
namespace M
open PySem PySem.Spec PyProof.Rows L2 G LamX RZ
section
variable {P : Program} {w : World} {K : PySem.W.Frag} {mg : Str → Option Value} {base : Heap}
/-! numbers of entries -/
def sp_want_some (_ : PySem.W.Frag) : Sp := spec1 fun x H Q _ => ∃ n : Nat, x = .int n ∧ 1 ≤ n ∧ n ≤ 20000 ∧ Q .non H
theorem nsV_len (l : List Nat) : (nsV l).length = l.length := by unfold nsV; rw [List.length_map]
theorem nsV_at {l : List Nat} {i : Nat} {x : V} (h : (nsV l)[i]? = some x) : ∃ p, l[i]? = some p ∧ x = V.int (p : Int) := by
  unfold nsV at h
  rw [List.getElem?_map] at h
  obtain ⟨p, hp, rfl⟩ := Option.map_eq_some_iff.mp h
  exact ⟨p, hp, rfl⟩

end
end M
namespace M
open PySem PySem.Spec PyProof.Rows L2 G LamX RZ
section
variable {P : Program} {w : World} {K : PySem.W.Frag} {mg : Str → Option Value} {base : Heap}
/-! signs by a sieve with marks -/
def plainB (m i : Nat) : Bool := decide (∀ q, q < m → Pr q → q ≤ i → q ∣ i → q = i)
theorem plainB_two (i : Nat) : plainB 2 i = true := decide_eq_true fun q h1 h2 _ _ => by
  have := h2.1
  omega
theorem plainB_self {m : Nat} (h : 2 ≤ m) : plainB m m = decide (Pr m) := decide_eq_decide.mpr ⟨fun z => Classical.byContradiction fun np => by
    obtain ⟨p, hp, hd, _, hl⟩ := not_pr_has h np
    have := z p hl hp (by omega) hd
    omega, fun z q h1 h2 _ h4 => h2.eq_of_dvd z h4⟩
theorem plainB_next_not {m i : Nat} (h : ¬ Pr m) : plainB (m + 1) i = plainB m i := decide_eq_decide.mpr ⟨fun z q h1 => z q (by omega), fun z q h1 h2 => by
    rcases Nat.lt_succ_iff_lt_or_eq.mp h1 with h3 | h3
    · exact z q h3 h2
    · rw [h3] at h2
      exact (h h2).elim⟩
theorem plainB_next {m i : Nat} (h : Pr m) : plainB (m + 1) i = if m ∣ i ∧ m ≤ i then decide (i = m) else plainB m i := by
  split
  · rename_i a
    refine decide_eq_decide.mpr ⟨fun z => (z m (by omega) h a.2 a.1).symm, fun z q h1 h2 h3 h4 => ?_⟩
    rw [z] at h4 ⊢
    exact h2.eq_of_dvd h h4
  · rename_i a
    refine decide_eq_decide.mpr ⟨fun z q h1 => z q (by omega), fun z q h1 h2 h3 h4 => ?_⟩
    rcases Nat.lt_succ_iff_lt_or_eq.mp h1 with h5 | h5
    · exact z q h5 h2 h3 h4
    · rw [h5] at h3 h4
      exact (a ⟨h4, h3⟩).elim
/-- the sign, 0 at 0 -/
def muT (k i : Nat) : Int := if i = 0 then 0 else muL (primesTo k) i
def muZ (i : Nat) : Int := if i = 0 then 0 else mu i
theorem muT_one {i : Nat} (h : i ≠ 0) : muT 1 i = 1 := by
  unfold muT
  rw [if_neg h, primesTo_one]
  rfl
theorem muT_next {m i : Nat} (h : Pr (m + 1)) : muT (m + 1) i = if (m + 1) * (m + 1) ∣ i ∧ (m + 1) * (m + 1) ≤ i then 0 else if m + 1 ∣ i ∧ m + 1 ≤ i then 0 - muT m i else muT m i := by
  unfold muT
  by_cases e : i = 0
  · subst e
    have : ¬ (m + 1) * (m + 1) ≤ 0 := by
      have := Nat.mul_pos (show 0 < m + 1 by omega) (show 0 < m + 1 by omega)
      omega
    rw [if_pos rfl, if_neg (fun z => this z.2), if_neg (fun z => by omega), if_pos rfl]
  · rw [if_neg e, if_neg e, muL_succ, if_pos h]
    unfold mstep
    by_cases a : (m + 1) * (m + 1) ∣ i
    · rw [if_pos a, if_pos ⟨a, Nat.le_of_dvd (by omega) a⟩]
    · rw [if_neg a, if_neg (show ¬ ((m + 1) * (m + 1) ∣ i ∧ (m + 1) * (m + 1) ≤ i) from fun z => a z.1)]
      by_cases b : m + 1 ∣ i
      · rw [if_pos b, if_pos ⟨b, Nat.le_of_dvd (by omega) b⟩]
      · rw [if_neg b, if_neg (show ¬ (m + 1 ∣ i ∧ m + 1 ≤ i) from fun z => b z.1)]
theorem muT_next_not {m i : Nat} (h : ¬ Pr (m + 1)) : muT (m + 1) i = muT m i := by
  unfold muT
  rw [muL_succ, if_neg h]
theorem muT_done {n i : Nat} (h : i ≤ n) : muT n i = muZ i := by
  unfold muT muZ
  split
  · rfl
  · exact muL_ge (by omega) h
def sp_signs_to (_ : PySem.W.Frag) : Sp := spec1 fun x H Q _ => ∃ n : Nat, x = .int n ∧ 1 ≤ n ∧ n ≤ 1000000 ∧ ∀ p H', Same H H' → H p = none → H' p = some (.lst ((List.range (n + 1)).map fun i => V.int (muZ i))) → Q (.ref p) H'
end
end M
namespace M
open PySem PySem.Spec PyProof.Rows L2 G LamX RZ
section
variable {P : Program} {w : World} {K : PySem.W.Frag} {mg : Str → Option Value} {base : Heap}
/-! shares, share-free counts -/
theorem gcd_turn {a b : Nat} : Nat.gcd a b = Nat.gcd b (a % b) := by
  rw [Nat.gcd_comm a b, Nat.gcd_rec b a, Nat.gcd_comm]
def sp_share_of (_ : PySem.W.Frag) : Sp := spec2 fun x y H Q _ => ∃ a b : Int, x = .int a ∧ y = .int b ∧ a.natAbs ≤ 1000000000000 ∧ b.natAbs ≤ 1000000000000 ∧ Q (.int (Nat.gcd a.natAbs b.natAbs : Nat)) H
def sp_share (_ : PySem.W.Frag) : Sp := spec2 fun x y H Q _ => ∃ a b : Nat, x = .int a ∧ y = .int b ∧ 1 ≤ a ∧ 1 ≤ b ∧ a ≤ 1000000000000 ∧ b ≤ 1000000000000 ∧ Q (.int (Nat.gcd a b : Nat)) H
def sp_power_of (_ : PySem.W.Frag) : Sp := spec2 fun x y H Q _ => ∃ p e : Nat, x = .int p ∧ y = .int e ∧ p ≤ 1000000000000 ∧ e ≤ 1000000 ∧ Q (.int (p ^ e : Nat)) H
theorem shL_snoc (L : List (Nat × Nat)) (p e : Nat) : shL (L ++ [(p, e)]) = shL L * p ^ (e - 1) * ((e + 1) * p - e) := by
  induction L with
  | nil => simp [shL]
  | cons x r ih =>
    obtain ⟨a, b⟩ := x
    rw [List.cons_append, shL, shL, ih, Nat.mul_assoc, Nat.mul_assoc, Nat.mul_assoc, Nat.mul_assoc, Nat.mul_assoc]
theorem phL_snoc (L : List (Nat × Nat)) (p e : Nat) : phL (L ++ [(p, e)]) = phL L * (p ^ (e - 1) * (p - 1)) := by
  induction L with
  | nil => simp [phL]
  | cons x r ih =>
    obtain ⟨a, b⟩ := x
    rw [List.cons_append, phL, phL, ih, ← Nat.mul_assoc]
theorem mem_pow' : ∀ (L : List (Nat × Nat)) {p e : Nat}, (p, e) ∈ L → p ^ e ∣ facP L
  | [], _, _, h => by cases h
  | (a, f) :: r, p, e, h => by
    rcases List.mem_cons.mp h with z | z
    · cases z
      exact Nat.dvd_mul_right _ _
    · exact Nat.dvd_trans (mem_pow' r z) (Nat.dvd_mul_left _ _)
/-- what a row of powers is bounded by -/
theorem row_b {L : List (Nat × Nat)} {n p e : Nat} (hL : FacOf L n) (hn : n ≤ 1000000000000) (h : (p, e) ∈ L) : 2 ≤ p ∧ 1 ≤ e ∧ e ≤ 40 ∧ p ≤ 1000000000000 ∧ p ^ (e - 1) ≤ 1000000000000 := by
  obtain ⟨_, pp, m1⟩ := hL.1.mem h
  have p2 := pp.1
  have n1 : 0 < n := by rw [← hL.2]; exact FacOk.pos hL.1
  have d := mem_pow' L h
  rw [hL.2] at d
  have pn := Nat.le_of_dvd n1 d
  have a : p ^ 1 ≤ p ^ e := Nat.pow_le_pow_right (by omega) m1
  have b : p ^ (e - 1) ≤ p ^ e := Nat.pow_le_pow_right (by omega) (by omega)
  have c : 2 ^ e ≤ p ^ e := Nat.pow_le_pow_left p2 e
  refine ⟨p2, m1, ?_, by rw [Nat.pow_one] at a; omega, by omega⟩
  refine Classical.byContradiction fun z => ?_
  have : 2 ^ 41 ≤ 2 ^ e := Nat.pow_le_pow_right (by decide) (by omega)
  have : (1000000000000 : Nat) < 2 ^ 41 := by decide
  omega
def sp_shares_at (_ : PySem.W.Frag) : Sp := spec1 fun x H Q _ => ∃ n : Nat, x = .int n ∧ 1 ≤ n ∧ n ≤ 1000000000000 ∧ ∀ H', Same H H' → Q (.int (hN n)) H'
def sp_share_sum (_ : PySem.W.Frag) : Sp := spec1 fun x H Q _ => ∃ n : Nat, x = .int n ∧ 1 ≤ n ∧ n ≤ 1000000000000 ∧ ∀ H', Same H H' → Q (.int (hN n)) H'
end
end M
namespace M
open PySem PySem.Spec PyProof.Rows L2 G LamX RZ
section
variable {P : Program} {w : World} {K : PySem.W.Frag} {mg : Str → Option Value} {base : Heap}
/-! share-free counts, by powers, by sieves; couples -/
theorem facP_drop {L : List (Nat × Nat)} {i p e : Nat} (h : L[i]? = some (p, e)) : facP (L.drop i) = p ^ e * facP (L.drop (i + 1)) := by
  obtain ⟨hl, hx⟩ := List.getElem?_eq_some_iff.mp h
  rw [List.drop_eq_getElem_cons hl, hx]
  rfl
def sp_free_count (_ : PySem.W.Frag) : Sp := spec1 fun x H Q _ => ∃ n : Nat, x = .int n ∧ 1 ≤ n ∧ n ≤ 1000000 ∧ ∀ H', Same H H' → Q (.int (phN n)) H'
theorem ok_free_count {af : Addr} {fd : FuncData} (F : FunD K "free_count" "free_count" (defArgs s_free_count) (defBody s_free_count) (defScope s_free_count) [] [] af fd) (B : Bt mg) (C_powers_of : Cl False P w K mg base 1 "powers_of" 1 [] (sp_powers_of K)) : FnG False P w K mg base CX0 2 af fd ["number"] (sp_free_count K) := by
  refine okG F sc_free_count ar1 fun cdv A outer s H vs Q E hg hr h => ?_
  refine ⟨_, PSs.nox (pss_cons (ps_set (i := 1) sc_free_count.nd rfl (.inl rfl) (pv 0))
    (pss_cons (ps_for PassesOwn.never rfl ((pi_list (pe_cl C_powers_of (fun h => h.elim) hr (by decide) rfl (pa_cons (pv 0) pa_nil)))) (pg_tup rfl (pgs_cons (pg_name (i := 2) sc_free_count.nd rfl (.inl rfl)) (pgs_cons (pg_name (i := 3) sc_free_count.nd rfl (.inl rfl)) pgs_nil)))
      (pss_one (ps_set (i := 1) sc_free_count.nd rfl (.inl rfl) (pe_op op_mul (pe_op op_fdivW (pv 1) (pv 2)) (pe_op op_sub (pv 2) pe_int)))))
    (pss_one (ps_ret (pv 1))))), ?_⟩
  obtain ⟨_, rfl, n, rfl, h1, h2, q⟩ := h
  refine ⟨_, rfl, _, rfl, _, rfl, n, rfl, h1, by omega, fun L p H1 hL s1 rp => ?_⟩
  obtain ⟨ts, e, hl2, hi⟩ := rows_of rp
  refine ⟨p, rfl, ⟨_, SqL.of e⟩, for_list (K := K) (a := p) (xs := ts.map V.ref) (fun i σ H' => ∃ y2 y3 : Option V, σ = [some (.int n), some (.int (phL (L.take i) * facP (L.drop i) : Nat)), y2, y3] ∧ H' = H1) ⟨none, none, by rw [List.take_zero, List.drop_zero, hL.2]; show _ = [_, some (V.int ((1 * n : Nat) : Int)), _, _]; rw [Nat.one_mul]; rfl, rfl⟩ (fun i σ H' _ ⟨_, _, _, z⟩ => by rw [z]; exact SqL.of e) ?_ ?_⟩
  · rintro i v σ H3 hv ⟨y2, y3, rfl, rfl⟩
    rw [List.getElem?_map] at hv
    obtain ⟨t, ht, rfl⟩ := Option.map_eq_some_iff.mp hv
    obtain ⟨x, hx, et⟩ := hi i t ht
    obtain ⟨pr, many⟩ := x
    obtain ⟨b1, b2, b3, b4, b5⟩ := row_b hL (by omega) (List.mem_of_getElem? hx)
    have tk : L.take (i + 1) = L.take i ++ [(pr, many)] := by
      rw [List.take_add_one, hx]
      rfl
    obtain ⟨f, rfl⟩ : ∃ f, many = f + 1 := ⟨many - 1, by omega⟩
    have e2 : ((phL (L.take i) * facP (L.drop i) : Nat) : Int) / (pr : Int) = (phL (L.take i) * (pr ^ f * facP (L.drop (i + 1))) : Nat) := by
      rw [facP_drop hx, Nat.pow_succ, Nat.mul_comm (pr ^ f) pr, Nat.mul_assoc pr, Nat.mul_left_comm, Int.natCast_mul, Int.mul_ediv_cancel_left _ (by omega)]
    refine ⟨t, _, rfl, SqT.of et, rfl, _, _, rfl, _, _, rfl, rfl, _, rfl, _, rfl, _, _, rfl, rfl, divw (by omega) (by omega), _, rfl, _, _, rfl, rfl, _, _, rfl, rfl, mulc' ⟨by omega, by omega⟩, some (.int (pr : Int)), some (.int ((f + 1 : Nat) : Int)), ?_, rfl⟩
    show [some (V.int n), some (V.int (((phL (L.take i) * facP (L.drop i) : Nat) : Int) / (pr : Int) * ((pr : Int) - 1))), _, _] = _
    rw [e2, tk, phL_snoc, Nat.add_sub_cancel, show (pr : Int) - 1 = ((pr - 1 : Nat) : Int) by omega, ← Int.natCast_mul]
    congr 5
    rw [Nat.mul_assoc, Nat.mul_assoc, Nat.mul_assoc, Nat.mul_comm (facP (L.drop (i + 1))), Nat.mul_assoc (pr ^ f) (pr - 1)]
  · rintro σ H3 ⟨y2, y3, rfl, rfl⟩
    rw [List.length_map, hl2, List.take_length, List.drop_length]
    refine ⟨_, rfl, ?_⟩
    have := q H3 s1
    rw [ph_fac hL] at this
    show Q (.int ((phL L * 1 : Nat) : Int)) H3
    rw [Nat.mul_one]
    exact this
def sp_share_free (_ : PySem.W.Frag) : Sp := spec1 fun x H Q _ => ∃ n : Nat, x = .int n ∧ 1 ≤ n ∧ n ≤ 1000000 ∧ ∀ H', Same H H' → Q (.int (phN n)) H'
/-- a sieve's value -/
noncomputable def facsN (n : Nat) : List (Nat × Nat) := if h : 0 < n then Classical.choose (fac_ex h) else []
theorem facsN_ok {n : Nat} (h : 0 < n) : FacOf (facsN n) n := by
  unfold facsN
  rw [dif_pos h]
  exact Classical.choose_spec (fac_ex h)
noncomputable def frN (ps : List Nat) (n : Nat) : Nat := mixL (fun q => decide (q ∈ ps)) (facsN n)
theorem frN_nil {n : Nat} (h : 0 < n) : frN [] n = n := by
  unfold frN
  rw [mixL_congr (T := fun _ => false) fun x _ => by simp, mixL_none, (facsN_ok h).2]
theorem frN_snoc {ps : List Nat} {p n : Nat} (h : 0 < n) (hp : Pr p) (hn : p ∉ ps) : frN (ps ++ [p]) n = if p ∣ n then frN ps n / p * (p - 1) else frN ps n := by
  have := mixL_step (S := fun q => decide (q ∈ ps)) hp (decide_eq_false hn) (facsN_ok h).1
  rw [(facsN_ok h).2] at this
  unfold frN
  rw [← this]
  refine mixL_congr fun x _ => ?_
  rw [Bool.eq_iff_iff]
  simp
theorem frN_all {ps : List Nat} {n : Nat} (h : 0 < n) (hp : ∀ p, Pr p → p ≤ n → p ∈ ps) : (frN ps n : Int) = phN n := by
  have ok := facsN_ok h
  have key : ∀ x ∈ facsN n, x.1 ≤ n := fun x hx => by
    have d := mem_pow' _ (p := x.1) (e := x.2) hx
    rw [ok.2] at d
    exact Nat.le_of_dvd h (Nat.dvd_trans (dvd_pow_self (ok.1.mem hx).2.2) d)
  rw [ph_fac ok]
  unfold frN
  rw [mixL_all fun x hx => decide_eq_true (hp x.1 (ok.1.mem hx).2.1 (key x hx))]
theorem frN_le {ps : List Nat} {n : Nat} (h : 0 < n) : frN ps n ≤ n := by
  have ok := facsN_ok h
  unfold frN
  have : ∀ {b : Nat} {L : List (Nat × Nat)}, FacOk b L → mixL (fun q => decide (q ∈ ps)) L ≤ facP L := by
    intro b L
    induction L generalizing b with
    | nil => exact fun _ => Nat.le_refl 1
    | cons x r ih =>
      obtain ⟨p, e⟩ := x
      rintro ⟨h1, h2, h3, h4⟩
      refine Nat.mul_le_mul ?_ (ih h4)
      split
      · obtain ⟨f, rfl⟩ : ∃ f, e = f + 1 := ⟨e - 1, by omega⟩
        rw [Nat.add_sub_cancel, Nat.pow_succ]
        exact Nat.mul_le_mul_left _ (Nat.sub_le _ _)
      · exact Nat.le_refl _
  have := this ok.1
  rw [ok.2] at this
  exact this
theorem primesTo_nd (n : Nat) : (primesTo n).Nodup := (List.nodup_range).filter _
def sp_frees_of (_ : PySem.W.Frag) : Sp := spec1 fun x H Q _ => ∃ n : Nat, x = .int n ∧ 1 ≤ n ∧ n ≤ 20000 ∧ ∀ p H', Same H H' → H p = none → H' p = some (.lst ((List.range n).map fun i => V.int (phN (i + 1)))) → Q (.ref p) H'
def sp_share_frees (_ : PySem.W.Frag) : Sp := spec1 fun x H Q _ => ∃ n : Nat, x = .int n ∧ 1 ≤ n ∧ n ≤ 20000 ∧ ∀ p H', Same H H' → H p = none → H' p = some (.lst ((List.range n).map fun i => V.int (phN (i + 1)))) → Q (.ref p) H'
def copN (n : Nat) : Int := 2 * sumR phN n - 1
def sp_couples_to (_ : PySem.W.Frag) : Sp := spec1 fun x H Q _ => ∃ n : Nat, x = .int n ∧ 1 ≤ n ∧ n ≤ 1000000 ∧ ∀ H', Same H H' → Q (.int (copN n)) H'
def sp_free_couples (_ : PySem.W.Frag) : Sp := spec1 fun x H Q _ => ∃ n : Nat, x = .int n ∧ 1 ≤ n ∧ n ≤ 1000000 ∧ ∀ H', Same H H' → Q (.int (copN n)) H'
def sp_share_free_sum (_ : PySem.W.Frag) : Sp := spec1 fun x H Q _ => ∃ n : Nat, x = .int n ∧ 1 ≤ n ∧ n ≤ 1000000 ∧ ∀ H', Same H H' → Q (.int (sumR phN n)) H'
end
end M
namespace M
open PySem PySem.Spec PyProof.Rows L2 G LamX RZ
section
variable {P : Program} {w : World} {K : PySem.W.Frag} {mg : Str → Option Value} {base : Heap}
/-! the divisors by the powers, all sums over them -/
def DivL (ns : List Int) (n : Nat) : Prop := (∀ F : Int → Int, (ns.map F).sum = dsum (fun d => F (d : Int)) n) ∧ ∀ x ∈ ns, ∃ d : Nat, x = (d : Int) ∧ d ∣ n
def gsum (f : Nat → Int) (p m j : Nat) : Int := ((List.range j).map fun t => dsum (fun d => f (p ^ t * d)) m).sum
theorem gsum_all {p m : Nat} (hp : Pr p) (hm : ¬ p ∣ m) (m1 : 1 ≤ m) : ∀ (e : Nat) (f : Nat → Int), gsum f p m (e + 1) = dsum f (p ^ e * m)
  | 0, f => by
    unfold gsum
    simp
  | e + 1, f => by
    rw [dsum_pow f hp hm m1 e, ← gsum_all hp hm m1 e]
    unfold gsum
    rw [List.range_succ_eq_map, List.map_cons, List.sum_cons, List.map_map]
    congr 1
    · refine sumR_congr fun i _ _ => ?_
      simp
    · refine congrArg List.sum (List.map_congr_left fun t _ => ?_)
      refine sumR_congr fun i _ _ => ?_
      show (if i ∣ m then f (p ^ (t + 1) * i) else 0) = if i ∣ m then f (p * (p ^ t * i)) else 0
      rw [Nat.pow_succ, Nat.mul_comm (p ^ t) p, Nat.mul_assoc]
theorem len_sum (ns : List Int) : (ns.map fun _ => (1 : Int)).sum = ns.length := by
  induction ns with
  | nil => rfl
  | cons x r ih => rw [List.map_cons, List.sum_cons, ih, List.length_cons]; omega
theorem facP_app (L M : List (Nat × Nat)) : facP (L ++ M) = facP L * facP M := by
  induction L with
  | nil => simp [facP]
  | cons x r ih =>
    obtain ⟨p, e⟩ := x
    rw [List.cons_append, facP, facP, ih, Nat.mul_assoc]
theorem DivL.len {ns : List Int} {n : Nat} (h : DivL ns n) : (ns.length : Int) = tauN n := by
  rw [← len_sum]
  exact h.1 _
theorem tau_2n {n : Nat} (h : 1 ≤ n) : tauN n ≤ 2 * n := by
  refine tau_le h ?_
  have := Nat.le_mul_of_pos_left (n + 1) (show 0 < n + 1 by omega)
  omega
theorem sum_perm {a b : List Int} (h : a.Perm b) : a.sum = b.sum := by
  induction h with
  | nil => rfl
  | cons x _ ih => rw [List.sum_cons, List.sum_cons, ih]
  | swap x y l => simp only [List.sum_cons]; omega
  | trans _ _ h1 h2 => exact h1.trans h2
theorem FacOk.take_nd {b : Nat} {L : List (Nat × Nat)} (h : FacOk b L) : ∀ {i p e : Nat}, L[i]? = some (p, e) → FacOk b (L.take i) ∧ ∀ x ∈ L.take i, x.1 < p := by
  intro i p e hx
  induction L generalizing b i with
  | nil => simp at hx
  | cons y r ih =>
    obtain ⟨q, f⟩ := y
    obtain ⟨h1, h2, h3, h4⟩ := h
    cases i with
    | zero => exact ⟨True.intro, fun x hx => by simp at hx⟩
    | succ i =>
      obtain ⟨k1, k2⟩ := ih h4 hx
      refine ⟨⟨h1, h2, h3, k1⟩, fun x hm => ?_⟩
      rcases List.mem_cons.mp hm with z | z
      · rw [z]
        have hm2 : (p, e) ∈ r := List.mem_of_getElem? hx
        have := (h4.mem hm2).1
        omega
      · exact k2 x z
def sp_divisors_by (_ : PySem.W.Frag) : Sp := spec1 fun x H Q _ => ∃ (p : Addr) (L : List (Nat × Nat)) (n : Nat), x = .ref p ∧ Rows H p L ∧ FacOf L n ∧ n ≤ 1000000 ∧ ∀ (r : Addr) (H' : Hp) (ns : List Int), Same H H' → DivL ns n → ns.Pairwise (· ≤ ·) → H' r = some (.lst (ns.map V.int)) → Q (.ref r) H'
theorem ok_divisors_by {af : Addr} {fd : FuncData} (F : FunD K "divisors_by" "divisors_by" (defArgs s_divisors_by) (defBody s_divisors_by) (defScope s_divisors_by) [] [] af fd) (B : Bt mg)  : FnG False P w K mg base CX0 1 af fd ["powers"] (sp_divisors_by K) := by
  refine okG F sc_divisors_by ar1 fun cdv A outer s H vs Q E hg hr h => ?_
  refine ⟨_, PSs.nox (pss_cons (ps_set (i := 1) sc_divisors_by.nd rfl (.inl rfl) (pe_lst (pa_cons pe_int pa_nil)))
    (pss_cons (ps_for PassesOwn.never rfl ((pi_list (pv 0))) (pg_tup rfl (pgs_cons (pg_name (i := 2) sc_divisors_by.nd rfl (.inl rfl)) (pgs_cons (pg_name (i := 3) sc_divisors_by.nd rfl (.inl rfl)) pgs_nil)))
      (pss_cons (ps_asg (pe_tup (pa_cons (pe_lst pa_nil) (pa_cons pe_int pa_nil))) (pg_tup rfl (pgs_cons (pg_name (i := 4) sc_divisors_by.nd rfl (.inl rfl)) (pgs_cons (pg_name (i := 5) sc_divisors_by.nd rfl (.inr rfl)) pgs_nil))))
      (pss_cons (ps_for PassesOwn.never rfl (pi_range1 rfl B.range (pa_cons (pe_op op_add (pv 3) pe_int) pa_nil)) (pg_name (i := 6) sc_divisors_by.nd rfl (.inl rfl))
        (pss_cons (ps_expr (pe_bm PySem.F.plainAttrs_list PySem.F.slot_list_extend PySem.F.type_list_extend mt_extend (pv 4) (pa_cons (pe_lc (own := [("one", 7)]) rfl sc_divisors_by.nd ((pi_list (pv 1))) (blkOk_by (own := [("one", 7)]) (N := ["powers", "found", "prime", "many", "longer", "factor", "turn", "one"]) (sc := defScope s_divisors_by) (by decide +kernel)) (fun _ _ _ _ _ => pg_name (i := 7) sc_divisors_by.nd rfl (.inl rfl) (.inr rfl)) (fun _ _ _ _ _ => pts_nil) (fun _ _ _ _ _ => (pe_op op_mul (pv 7) (pv 5)))) pa_nil)))
        (pss_one (ps_set (i := 5) sc_divisors_by.nd rfl (.inr rfl) (pe_op op_mul (pv 5) (pv 2))))))
      (pss_one (ps_set (i := 1) sc_divisors_by.nd rfl (.inl rfl) (pv 4))))))
    (pss_one (ps_ret (pe_callB cr_sortedI (by rfl) B.sorted (by decide +kernel) (pa_cons (pv 1) pa_nil)))))), ?_⟩
  obtain ⟨_, rfl, p, L, n, rfl, hr, hL, hn, q⟩ := h
  have n1 : 1 ≤ n := by rw [← hL.2]; exact FacOk.pos hL.1
  obtain ⟨ts, ep, hl2, hi⟩ := hr
  refine ⟨sz1, fun l0 hl0 => ?_⟩
  have s0 := (Same.refl H).new (o := .lst [V.int 1]) hl0
  have e0 : (upd H l0 (.lst [V.int 1])) l0 = some (.lst [V.int 1]) := upd_same
  generalize upd H l0 (.lst [V.int 1]) = H1 at s0 e0 ⊢
  refine ⟨_, rfl, p, rfl, ⟨_, SqL.of (s0 _ _ ep)⟩, for_list (K := K) (a := p) (xs := ts.map V.ref) (fun i σ H' => ∃ (l : Addr) (ns : List Int) (y2 y3 y4 y5 y6 : Option V), σ = [some (.ref p), some (.ref l), y2, y3, y4, y5, y6, none] ∧ Same H H' ∧ H' l = some (.lst (ns.map V.int)) ∧ DivL ns (facP (L.take i)))
    ⟨l0, [1], none, none, none, none, none, rfl, s0, e0, ⟨fun F => by show F 1 + 0 = sumR (fun d => if d ∣ 1 then F (d : Int) else 0) 1; rw [sumR, sumR, if_pos (by simp)]; show F 1 + 0 = 0 + F 1; omega, fun x hx => ⟨1, by simpa using hx, Nat.dvd_refl 1⟩⟩⟩ (fun i σ H' _ ⟨_, _, _, _, _, _, _, _, z, _⟩ => SqL.of (z _ _ ep)) ?_ ?_⟩
  · rintro i v σ H3 hv ⟨l, ns, y2, y3, y4, y5, y6, rfl, sm, el, dv⟩
    rw [List.getElem?_map] at hv
    obtain ⟨t, ht, rfl⟩ := Option.map_eq_some_iff.mp hv
    obtain ⟨x, hx, et⟩ := hi i t ht
    obtain ⟨pr, many⟩ := x
    obtain ⟨_, pp, m1⟩ := hL.1.mem (List.mem_of_getElem? hx)
    obtain ⟨b1, b2, b3, b4, b5⟩ := row_b hL (by omega) (List.mem_of_getElem? hx)
    obtain ⟨okt, ltt⟩ := FacOk.take_nd hL.1 hx
    have tk : L.take (i + 1) = L.take i ++ [(pr, many)] := by
      rw [List.take_add_one, hx]
      rfl
    have pos := FacOk.pos okt
    have nd : ¬ pr ∣ facP (L.take i) := fun z => by
      obtain ⟨x, hxm, e⟩ := okt.dvd pp z
      have := ltt x hxm
      omega
    have mle : facP (L.take i) ≤ n := by
      have : facP (L.take i) ∣ n := ⟨facP (L.drop i), by rw [← facP_app, List.take_append_drop, hL.2]⟩
      exact Nat.le_of_dvd n1 this
    have fk : facP (L.take (i + 1)) = pr ^ many * facP (L.take i) := by rw [tk, facP_snoc, Nat.mul_comm]
    have nl : ns.length ≤ 2 * n := by
      have := dv.len
      have := tau_2n pos
      omega
    have pj : pr ^ many ≤ 1000000 := by
      have : pr ^ many ≤ n := by
        have d := mem_pow' L (List.mem_of_getElem? hx)
        rw [hL.2] at d
        exact Nat.le_of_dvd n1 d
      omega
    generalize facP (L.take i) = m at dv nd pos mle fk
    clear okt ltt tk
    refine ⟨t, _, rfl, SqT.of (sm _ _ et), rfl, _, _, rfl, _, _, rfl, rfl, ?_⟩
    refine ⟨sz0, fun lg hlg => ⟨sz2, fun tu htu => ⟨tu, _, rfl, SqT.of upd_same, rfl, _, _, rfl, _, _, rfl, rfl, ?_⟩⟩⟩
    have sg := (Same.refl H3).new (o := .lst []) hlg
    have eg0 : (upd H3 lg (.lst [])) lg = some (.lst []) := upd_same
    have su := (Same.refl (upd H3 lg (.lst []))).new (o := .tup [.ref lg, .int 1]) htu
    have zg : H lg = none := sm.free hlg
    have ngl : l ≠ lg := ne_of_none el hlg
    have el2 := su _ _ (sg _ _ el)
    have eg := su _ _ eg0
    have sH := (sm.trans sg).trans su
    generalize upd (upd H3 lg (.lst [])) tu (.tup [.ref lg, .int 1]) = H4 at el2 eg sH ⊢
    refine ⟨_, rfl, _, _, rfl, rfl, _, rfl, by omega, by omega, for_range (lo := 0) (fun j σ H' => ∃ (ms : List Int) (y6 : Option V), σ = [some (.ref p), some (.ref l), some (.int (pr : Int)), some (.int (many : Int)), some (.ref lg), some (.int ((pr ^ j : Nat) : Int)), y6, none] ∧ Same H H' ∧ H' l = some (.lst (ns.map V.int)) ∧ H' lg = some (.lst (ms.map V.int)) ∧ ms.length = j * ns.length ∧ (∀ F : Int → Int, (ms.map F).sum = gsum (fun d => F (d : Int)) pr m j) ∧ ∀ x ∈ ms, ∃ d : Nat, x = (d : Int) ∧ d ∣ pr ^ many * m)
      ⟨[], y6, rfl, sH, el2, eg, by simp, fun F => rfl, fun x hx => by simp at hx⟩ ?_ ?_⟩
    · rintro j σ H5 hj ⟨ms, z6, rfl, s5, e5, g5, ml, msum, mdv⟩
      have jm : j ≤ many := by omega
      have pjj : pr ^ j ≤ pr ^ many := Nat.pow_le_pow_right (by omega) jm
      have lens : (j + 1) * ns.length ≤ 41 * 2000000 / 10 := by
        have h41 : (j + 1) ≤ 41 := by omega
        have : 2 ^ j ≤ pr ^ j := Nat.pow_le_pow_left b1 j
        have j20 : j ≤ 20 := by
          refine Classical.byContradiction fun z => ?_
          have h21 : 2 ^ 21 ≤ 2 ^ j := Nat.pow_le_pow_right (by decide) (by omega)
          have : (1000000 : Nat) < 2 ^ 21 := by decide
          omega
        have h3 : ns.length ≤ 2 * m := by
          have := dv.len
          have := tau_2n pos
          omega
        have h4 : (j + 1) * ns.length ≤ pr ^ many * (2 * m) := by
          refine Nat.mul_le_mul ?_ h3
          have : j < 2 ^ j := Nat.lt_two_pow_self
          omega
        have h5 : pr ^ many * m ≤ n := by
          have : facP (L.take (i + 1)) ∣ n := ⟨facP (L.drop (i + 1)), by rw [← facP_app, List.take_append_drop, hL.2]⟩
          rw [fk] at this
          exact Nat.le_of_dvd n1 this
        rw [Nat.mul_left_comm] at h4
        omega
      rw [Nat.succ_mul] at lens
      refine ⟨_, rfl, .inl ⟨rfl, _, SqL.of g5⟩, _, rfl, l, rfl, ⟨_, SqL.of e5⟩, fun D hD => lc_list (K := K) (a := l) (xs := ns.map V.int) (fun k H6 => Same H5 H6 ∧ H6 D = some (.lst (((ns.take k).map fun x => x * ((pr ^ j : Nat) : Int)).map V.int))) ⟨(Same.refl _).new hD, upd_same⟩ (fun k H6 _ z => SqL.of (z.1 _ _ e5)) ?_ ?_⟩
      · rintro k x H6 hx ⟨s6, eD⟩
        rw [List.getElem?_map] at hx
        obtain ⟨y, hy, rfl⟩ := Option.map_eq_some_iff.mp hx
        have hk : k < ns.length := (List.getElem?_eq_some_iff.mp hy).1
        have hDn : H5 D = none := hD
        refine ⟨rfl, _, rfl, _, rfl, _, _, rfl, rfl, mulc' ⟨by omega, by omega⟩, _, eD, ?_, s6.mut hDn, ?_⟩
        · rw [List.length_map, List.length_map, List.length_take]
          exact small_lt (by omega)
        · rw [upd_same, List.take_add_one, hy]
          simp only [Option.toList, List.map_append, List.map_cons, List.map_nil]
      · rintro H6 ⟨s6, eD⟩
        rw [List.length_map, List.take_length] at eD
        refine ⟨lg, D, _, _, rfl, rfl, s6 _ _ g5, eD, ?_, ?_⟩
        · simp only [List.length_map]
          exact small_sz (by omega)
        refine ⟨_, rfl, _, rfl, _, _, rfl, rfl, mulc ⟨by omega, by omega⟩, ms ++ ns.map (fun x => x * ((pr ^ j : Nat) : Int)), some (.int (0 + (j : Int))), ?_, (s5.trans s6).mut zg, (upd_ne ngl).trans (s6 _ _ e5), ?_, ?_, fun F => ?_, fun x hx => ?_⟩
        · rw [Nat.pow_succ, Int.natCast_mul]
          rfl
        · rw [upd_same, List.map_append]
        · rw [List.length_append, List.length_map, ml, Nat.succ_mul]
        · rw [List.map_append, List.sum_append, List.map_map, msum F]
          unfold gsum
          rw [List.range_succ, List.map_append, List.sum_append]
          congr 1
          have := dv.1 (F ∘ fun x => x * ((pr ^ j : Nat) : Int))
          rw [this]
          show _ = dsum (fun d => F ((pr ^ j * d : Nat) : Int)) m + 0
          rw [Int.add_zero]
          refine sumR_congr fun d _ _ => ?_
          split
          · refine congrArg F ?_
            show (d : Int) * ((pr ^ j : Nat) : Int) = ((pr ^ j * d : Nat) : Int)
            rw [Int.natCast_mul, Int.mul_comm]
          · rfl
        · rcases List.mem_append.mp hx with hx | hx
          · exact mdv x hx
          · obtain ⟨y, hy, rfl⟩ := List.mem_map.mp hx
            obtain ⟨d, rfl, hd⟩ := dv.2 y hy
            refine ⟨pr ^ j * d, by rw [Int.natCast_mul, Int.mul_comm], Nat.mul_dvd_mul (Nat.pow_dvd_pow pr jm) hd⟩
    · rintro σ H5 ⟨ms, z6, rfl, s5, e5, g5, ml, msum, mdv⟩
      rw [show ((many : Int) + 1).toNat = many + 1 by omega] at msum
      refine ⟨_, rfl, lg, ms, _, _, _, _, _, rfl, s5, g5, ?_⟩
      rw [fk]
      exact ⟨fun F => by rw [msum F, gsum_all pp nd pos], mdv⟩
  · rintro σ H3 ⟨l, ns, y2, y3, y4, y5, y6, rfl, sm, el, dv⟩
    rw [List.length_map, hl2, List.take_length, hL.2] at dv
    refine ⟨_, rfl, l, ns, rfl, SqL.of el, fun ns' r pm so hr => q r _ ns' (sm.new hr) ⟨fun F => (sum_perm (pm.map F)).trans (dv.1 F), fun x hx => dv.2 x (pm.mem_iff.mp hx)⟩ so upd_same⟩
def sp_divisors_of (_ : PySem.W.Frag) : Sp := spec1 fun x H Q _ => ∃ n : Nat, x = .int n ∧ 1 ≤ n ∧ n ≤ 1000000 ∧ ∀ (r : Addr) (H' : Hp) (ns : List Int), Same H H' → DivL ns n → ns.Pairwise (· ≤ ·) → H' r = some (.lst (ns.map V.int)) → Q (.ref r) H'
theorem ok_divisors_of {af : Addr} {fd : FuncData} (F : FunD K "divisors_of" "divisors_of" (defArgs s_divisors_of) (defBody s_divisors_of) (defScope s_divisors_of) [] [] af fd) (B : Bt mg) (C_divisors_by : Cl False P w K mg base 1 "divisors_by" 1 [] (sp_divisors_by K)) (C_powers_of : Cl False P w K mg base 1 "powers_of" 1 [] (sp_powers_of K)) : FnG False P w K mg base CX0 2 af fd ["number"] (sp_divisors_of K) := by
  refine okG F sc_divisors_of ar1 fun cdv A outer s H vs Q E hg hr h => ?_
  refine ⟨_, PSs.nox (pss_one (ps_ret (pe_cl C_divisors_by (fun h => h.elim) hr (by decide) rfl (pa_cons (pe_cl C_powers_of (fun h => h.elim) hr (by decide) rfl (pa_cons (pv 0) pa_nil)) pa_nil)))), ?_⟩
  obtain ⟨_, rfl, n, rfl, h1, h2, q⟩ := h
  exact ⟨_, rfl, _, rfl, n, rfl, h1, by omega, fun L p H1 hL s1 rp => ⟨_, rfl, p, L, n, rfl, rows_of rp, hL, h2, fun r H2 ns s2 dv so e => q r H2 ns (s1.trans s2) dv so e⟩⟩
def sp_divisors (_ : PySem.W.Frag) : Sp := spec1 fun x H Q _ => ∃ n : Nat, x = .int n ∧ 1 ≤ n ∧ n ≤ 1000000 ∧ ∀ (r : Addr) (H' : Hp) (ns : List Int), Same H H' → DivL ns n → ns.Pairwise (· ≤ ·) → H' r = some (.lst (ns.map V.int)) → Q (.ref r) H'
/-! the law's own share-free count -/
def sp_powers (_ : PySem.W.Frag) : Sp := spec1 fun x H Q _ => ∃ n : Nat, x = .int n ∧ 1 ≤ n ∧ n ≤ 1000000000000 ∧ ∀ L p H', FacOf L n → Same H H' → Rp (New H) H' (.ref p) (.list (L.map powD)) → Q (.ref p) H'
end
end M
namespace M
/-! sorted lists, divisors in sequence -/
theorem sorted_lt {l : List Int} (h : l.Pairwise (· ≤ ·)) (hn : l.Nodup) : l.Pairwise (· < ·) := by
  induction l with
  | nil => exact .nil
  | cons x l ih =>
    obtain ⟨h1, h2⟩ := List.pairwise_cons.mp h
    obtain ⟨n1, n2⟩ := List.nodup_cons.mp hn
    refine List.pairwise_cons.mpr ⟨fun y hy => ?_, ih h2 n2⟩
    have := h1 y hy
    have : x ≠ y := fun z => n1 (z ▸ hy)
    omega
theorem sorted_uniq : ∀ {a b : List Int}, a.Pairwise (· < ·) → b.Pairwise (· < ·) → (∀ x, x ∈ a ↔ x ∈ b) → a = b
  | [], [], _, _, _ => rfl
  | [], y :: b, _, _, h => by have := (h y).mpr List.mem_cons_self; simp at this
  | x :: a, [], _, _, h => by have := (h x).mp List.mem_cons_self; simp at this
  | x :: a, y :: b, ha, hb, h => by
    obtain ⟨a1, a2⟩ := List.pairwise_cons.mp ha
    obtain ⟨b1, b2⟩ := List.pairwise_cons.mp hb
    have e : x = y := by
      rcases List.mem_cons.mp ((h x).mp List.mem_cons_self) with z | z
      · exact z
      · rcases List.mem_cons.mp ((h y).mpr List.mem_cons_self) with w | w
        · exact w.symm
        · have := a1 y w
          have := b1 x z
          omega
    subst e
    rw [sorted_uniq a2 b2 fun z => ?_]
    constructor
    · intro hz
      rcases List.mem_cons.mp ((h z).mp (List.mem_cons_of_mem x hz)) with w | w
      · have := a1 z hz
        omega
      · exact w
    · intro hz
      rcases List.mem_cons.mp ((h z).mpr (List.mem_cons_of_mem x hz)) with w | w
      · have := b1 z hz
        omega
      · exact w
def divsL (n : Nat) : List Nat := (List.range (n + 1)).filter fun d => decide (0 < d ∧ d ∣ n)
theorem mem_divsL {n d : Nat} (hn : 0 < n) : d ∈ divsL n ↔ d ∣ n := by
  unfold divsL
  rw [List.mem_filter, List.mem_range, decide_eq_true_iff]
  constructor
  · exact fun h => h.2.2
  · exact fun h => ⟨Nat.lt_succ_of_le (Nat.le_of_dvd hn h), Nat.pos_of_dvd_of_pos h hn, h⟩
theorem divsL_lt (n : Nat) : ((divsL n).map fun d : Nat => (d : Int)).Pairwise (· < ·) := by
  rw [List.pairwise_map]
  refine (List.Pairwise.filter _ List.pairwise_lt_range).imp fun h => ?_
  omega
theorem perm_sorted {ns ms ns' : List Int} (hp : ns'.Perm ns) (hs : ns'.Pairwise (· ≤ ·)) (hn : ns.Nodup) (hm : ms.Pairwise (· < ·)) (h : ∀ x, x ∈ ns ↔ x ∈ ms) : ns' = ms :=
  sorted_uniq (sorted_lt hs (hp.nodup_iff.mpr hn)) hm fun x => (hp.mem_iff).trans (h x)
/-- the divisors that a search from below has met, at turn k -/
structure Met (n k : Nat) (ds : List Nat) : Prop where
  nodup : ds.Nodup
  mem : ∀ d, d ∈ ds ↔ d ∣ n ∧ (d < k ∨ n / d < k)
  len : ds.length ≤ 2 * k
theorem Met.start {n : Nat} (hn : 0 < n) : Met n 1 [] := ⟨.nil, fun d => by
  constructor
  · intro h
    simp at h
  · rintro ⟨h1, h2⟩
    have d0 := Nat.pos_of_dvd_of_pos h1 hn
    have := Nat.div_pos (Nat.le_of_dvd hn h1) d0
    omega, Nat.zero_le _⟩
theorem div_of_eq {n d k : Nat} (hn : 0 < n) (h : d ∣ n) (e : n / d = k) : d * k = n := by
  rw [← e]
  exact Nat.mul_div_cancel' h
theorem Met.skip {n k : Nat} {ds : List Nat} (hn : 0 < n) (h : Met n k ds) (hk : ¬ k ∣ n) : Met n (k + 1) ds := ⟨h.nodup, fun d => by
  rw [h.mem]
  constructor
  · rintro ⟨h1, h2⟩
    exact ⟨h1, by omega⟩
  · rintro ⟨h1, h2⟩
    refine ⟨h1, ?_⟩
    have a : d ≠ k := fun z => hk (z ▸ h1)
    have b : n / d ≠ k := fun z => hk ⟨d, by rw [Nat.mul_comm]; exact (div_of_eq hn h1 z).symm⟩
    omega, by have := h.len; omega⟩
theorem Met.square {n k : Nat} {ds : List Nat} (hn : 0 < n) (h : Met n k ds) (hk : k * k = n) : Met n (k + 1) (ds ++ [k]) := by
  have k0 : 0 < k := by
    rcases Nat.eq_zero_or_pos k with z | z
    · subst z
      omega
    · exact z
  have kd : k ∣ n := ⟨k, hk.symm⟩
  have nk : n / k = k := by rw [← hk]; exact Nat.mul_div_cancel _ k0
  refine ⟨?_, fun d => ?_, by rw [List.length_append, List.length_singleton]; have := h.len; omega⟩
  · rw [List.nodup_append]
    refine ⟨h.nodup, by simp, fun x hx y hy => ?_⟩
    cases List.mem_singleton.mp hy
    rintro rfl
    have := ((h.mem _).mp hx).2
    omega
  · rw [List.mem_append, h.mem, List.mem_singleton]
    constructor
    · rintro (⟨h1, h2⟩ | rfl)
      · exact ⟨h1, by omega⟩
      · exact ⟨kd, by omega⟩
    · rintro ⟨h1, h2⟩
      by_cases e : d = k
      · exact .inr e
      · refine .inl ⟨h1, ?_⟩
        by_cases e2 : n / d = k
        · have := div_of_eq hn h1 e2
          rw [← hk] at this
          exact absurd (Nat.eq_of_mul_eq_mul_right k0 this) e
        · omega
theorem Met.two {n k : Nat} {ds : List Nat} (hn : 0 < n) (h : Met n k ds) (hd : k ∣ n) (hk : k * k < n) : Met n (k + 1) (ds ++ [k, n / k]) := by
  have k0 := Nat.pos_of_dvd_of_pos hd hn
  obtain ⟨e, he⟩ := hd
  have ek : n / k = e := by rw [he]; exact Nat.mul_div_cancel_left _ k0
  have ke : k < e := by
    rw [he] at hk
    exact Nat.lt_of_mul_lt_mul_left hk
  have ne : n / e = k := by rw [he]; exact Nat.mul_div_cancel _ (by omega)
  have ed : e ∣ n := ⟨k, by rw [he, Nat.mul_comm]⟩
  rw [ek]
  refine ⟨?_, fun d => ?_, by rw [List.length_append]; have := h.len; show ds.length + 2 ≤ _; omega⟩
  · rw [List.nodup_append]
    refine ⟨h.nodup, by simp; omega, fun x hx y hy => ?_⟩
    have := ((h.mem _).mp hx).2
    rcases List.mem_cons.mp hy with z | z
    · subst z
      rintro rfl
      omega
    · cases List.mem_singleton.mp z
      rintro rfl
      omega
  · rw [List.mem_append, h.mem, List.mem_cons, List.mem_singleton]
    constructor
    · rintro (⟨h1, h2⟩ | rfl | rfl)
      · exact ⟨h1, by omega⟩
      · exact ⟨⟨e, he⟩, by omega⟩
      · exact ⟨ed, by omega⟩
    · rintro ⟨h1, h2⟩
      by_cases e1 : d = k
      · exact .inr (.inl e1)
      · by_cases e2 : d = e
        · exact .inr (.inr e2)
        · refine .inl ⟨h1, ?_⟩
          by_cases e3 : n / d = k
          · have := div_of_eq hn h1 e3
            rw [he, Nat.mul_comm k e] at this
            exact absurd (Nat.eq_of_mul_eq_mul_right k0 this) e2
          · omega
theorem Met.all {n k : Nat} {ds : List Nat} (hn : 0 < n) (h : Met n k ds) (hk : n < k * k) : ∀ d, d ∈ ds ↔ d ∣ n := fun d => by
  rw [h.mem]
  constructor
  · exact fun z => z.1
  · intro h1
    refine ⟨h1, ?_⟩
    refine Classical.byContradiction fun z => ?_
    have := Nat.mul_le_mul (show k ≤ d by omega) (show k ≤ n / d by omega)
    rw [Nat.mul_div_cancel' h1] at this
    omega
theorem Met.sorted {n k : Nat} {ds : List Nat} {ns' : List Int} (hn : 0 < n) (h : Met n k ds) (hk : n < k * k) (hp : ns'.Perm (ds.map fun d : Nat => (d : Int))) (hs : ns'.Pairwise (· ≤ ·)) : ns' = (divsL n).map fun d : Nat => (d : Int) := by
  refine perm_sorted hp hs ?_ (divsL_lt n) fun x => ?_
  · rw [List.Nodup, List.pairwise_map]
    exact h.nodup.imp fun a b => a (Int.ofNat.inj b)
  · rw [List.mem_map, List.mem_map]
    constructor
    · rintro ⟨d, hd, rfl⟩
      exact ⟨d, (mem_divsL hn).mpr ((h.all hn hk d).mp hd), rfl⟩
    · rintro ⟨d, hd, rfl⟩
      exact ⟨d, (h.all hn hk d).mpr ((mem_divsL hn).mp hd), rfl⟩

end M
namespace M
/-! how long powers are -/
theorem fac_len : ∀ {b : Nat} {L : List (Nat × Nat)}, FacOk b L → 2 ^ L.length ≤ facP L
  | _, [], _ => Nat.le_refl 1
  | b, (p, e) :: r, ⟨_, h2, h3, h4⟩ => by
    have ih := fac_len h4
    have a : p ^ 1 ≤ p ^ e := Nat.pow_le_pow_right (by have := h2.1; omega) h3
    rw [Nat.pow_one] at a
    have := Nat.mul_le_mul (Nat.le_trans h2.1 a) ih
    rw [List.length_cons, Nat.pow_succ, Nat.mul_comm]
    exact this
theorem fac_short {L : List (Nat × Nat)} {n : Nat} (h : FacOf L n) (hn : n ≤ 1000000000000) : L.length ≤ 100 := by
  have := fac_len h.1
  rw [h.2] at this
  refine Classical.byContradiction fun z => ?_
  have h2 : 2 ^ 100 ≤ 2 ^ L.length := Nat.pow_le_pow_right (by decide) (by omega)
  have h3 : (1000000000000 : Nat) < 2 ^ 100 := by decide
  omega

end M
namespace M
open PySem PySem.Spec PyProof.Rows L2 G LamX RZ
section
variable {P : Program} {w : World} {K : PySem.W.Frag} {mg : Str → Option Value} {base : Heap}
/-! the law's own divisors -/
def sp__law_divisors (_ : PySem.W.Frag) : Sp := spec1 fun x H Q _ => ∃ n : Nat, x = .int n ∧ 1 ≤ n ∧ n ≤ 1000000000 ∧ ∀ p H', Same H H' → H p = none → H' p = some (.lst (nsV (divsL n))) → Q (.ref p) H'
theorem int_mod {n k : Nat} : ((n : Int) % (k : Int) = 0) ↔ n % k = 0 := by omega
theorem ok__law_divisors {af : Addr} {fd : FuncData} (F : FunD K "_law_divisors" "_law_divisors" (defArgs s__law_divisors) (defBody s__law_divisors) (defScope s__law_divisors) [] [] af fd) (B : Bt mg)  : FnG False P w K mg base CX0 1 af fd ["number"] (sp__law_divisors K) := by
  refine okG F sc__law_divisors ar1 fun cdv A outer s H vs Q E hg hr h => ?_
  refine ⟨_, PSs.nox (pss_cons (ps_par (i := 1) (j := 2) (by rfl) sc__law_divisors.nd rfl rfl (by decide) rfl rfl (pa_cons (pe_lst pa_nil) (pa_cons pe_int pa_nil)) (by rfl))
    (pss_cons (ps_while PassesOwn.never (pt_cmpR op_le (pe_op op_mul (pv 2) (pv 2)) (pv 0) (nomark _))
      (pss_cutG (ps_if (pt_cmpR op_eq (pe_callTy call_int1 (by rfl) B.int (by decide +kernel) (pa_cons (pe_op op_mod (pv 0) (pv 2)) pa_nil)) pe_int (nomark _))
        (pss_one (ps_expr (pe_bm PySem.F.plainAttrs_list PySem.F.slot_list_extend PySem.F.type_list_extend mt_extend (pv 1) (pa_cons (pe_ifExp (pt_cmpR op_eq (pe_op op_mul (pv 2) (pv 2)) (pv 0) (nomark _)) (pe_lst (pa_cons (pv 2) pa_nil)) (pe_lst (pa_cons (pv 2) (pa_cons (pe_op op_fdivW (pv 0) (pv 2)) pa_nil)))) pa_nil))))
        pss_nil)
      (pss_one (ps_set (i := 2) sc__law_divisors.nd rfl (.inl rfl) (pe_op op_add (pv 2) pe_int)))))
    (pss_one (ps_ret (pe_callB cr_sortedI (by rfl) B.sorted (by decide +kernel) (pa_cons (pv 1) pa_nil)))))), ?_⟩
  obtain ⟨_, rfl, n, rfl, h1, h2, q⟩ := h
  have hn : 0 < n := h1
  refine ⟨sz0, fun l hl => ⟨_, _, rfl, ?_⟩⟩
  refine ⟨fun m σ H' => ∃ (ds : List Nat) (k : Nat), σ = [some (.int n), some (.ref l), some (.int k)] ∧ Same H H' ∧ H' l = some (.lst (nsV ds)) ∧ Met n k ds ∧ 1 ≤ k ∧ k ≤ 40000 ∧ m = 50000 - k,
    ⟨_, [], 1, rfl, (Same.refl H).new hl, upd_same, Met.start hn, by decide, by decide, rfl⟩, fun m σ H' hW => ?_⟩
  obtain ⟨ds, k, rfl, sm, el, mt, k1, k2, rfl⟩ := hW
  refine ⟨_, rfl, _, rfl, _, _, rfl, rfl, mulc ⟨by omega, by omega⟩, _, rfl, _, _, rfl, rfl, _, rfl, ite2 (fun hc => ?_) (fun hc => ?_)⟩
  · have hc' : k * k ≤ n := by
      have : (k : Int) * (k : Int) ≤ (n : Int) := of_decide_eq_true hc
      rw [← Int.natCast_mul] at this
      omega
    have k3 : k ≤ 31623 := by
      refine Classical.byContradiction fun z => ?_
      have := Nat.mul_le_mul (show 31624 ≤ k by omega) (show 31624 ≤ k by omega)
      omega
    refine ⟨_, fun _ _ z => z, ?_⟩
    refine ⟨fun σ H2 => ∃ ds : List Nat, σ = [some (.int n), some (.ref l), some (.int k)] ∧ Same H H2 ∧ H2 l = some (.lst (nsV ds)) ∧ Met n (k + 1) ds, ⟨_, rfl, _, rfl, _, _, rfl, rfl, (by show (0 : Int) < _; omega), .inl ⟨_, rfl, rfl, _, rfl, ite2 (fun hd => ?_) (fun hd => ?_)⟩⟩, ?_⟩
    · have hd' : k ∣ n := Nat.dvd_of_mod_eq_zero (int_mod.mp (V.int.inj (of_decide_eq_true hd)))
      have dl := mt.len
      refine ⟨_, rfl, .inl ⟨rfl, _, SqL.of el⟩, _, rfl, _, rfl, _, _, rfl, rfl, mulc ⟨by omega, by omega⟩, _, rfl, rfl, _, rfl, ite2 (fun he => ?_) (fun he => ?_)⟩
      · have he' : k * k = n := by
          have := V.int.inj (of_decide_eq_true he)
          rw [← Int.natCast_mul] at this
          omega
        refine ⟨_, rfl, sz1, fun b hb => ⟨l, b, _, _, rfl, rfl, (upd_ne (ne_of_none el hb)).trans el, upd_same, small_sz (by rw [nsV_len]; show _ + 1 ≤ _; omega), ds ++ [k], rfl, (sm.new hb).mut hl, ?_, mt.square hn he'⟩⟩
        rw [upd_same, nsV_snoc]
      · have he' : k * k < n := by
          have : ¬ (k * k = n) := fun z => he (decide_eq_true (congrArg V.int (by rw [← Int.natCast_mul, z])))
          omega
        refine ⟨_, rfl, _, rfl, _, rfl, _, _, rfl, rfl, divw (by omega) (by omega), sz2, fun b hb => ⟨l, b, _, _, rfl, rfl, (upd_ne (ne_of_none el hb)).trans el, upd_same, small_sz (by rw [nsV_len]; show _ + 2 ≤ _; omega), ds ++ [k, n / k], rfl, (sm.new hb).mut hl, ?_, mt.two hn hd' he'⟩⟩
        rw [upd_same]
        unfold nsV
        rw [List.map_append]
        rfl
    · have hd' : ¬ k ∣ n := fun z => hd (decide_eq_true (congrArg V.int (int_mod.mpr (Nat.mod_eq_zero_of_dvd z))))
      exact ⟨ds, rfl, sm, el, mt.skip hn hd'⟩
    · rintro σ H2 ⟨ds, rfl, sm, el, mt⟩
      exact ⟨_, rfl, _, _, rfl, rfl, 50000 - (k + 1), by omega, ds, k + 1, rfl, sm, el, mt, by omega, by omega, rfl⟩
  · have hc' : n < k * k := by
      have : ¬ (k : Int) * (k : Int) ≤ (n : Int) := fun z => hc (decide_eq_true z)
      rw [← Int.natCast_mul] at this
      omega
    refine ⟨_, rfl, l, _, rfl, SqL.of (by rw [el, nsV_ints]), fun ns' p hp hs hn' => q p _ (sm.new hn') (sm.free hn') ?_⟩
    rw [upd_same, mt.sorted hn hc' hp hs, nsV_ints]

end
end M
namespace M
open PySem PySem.Spec PyProof.Rows L2 G LamX RZ
section
variable {P : Program} {w : World} {K : PySem.W.Frag} {mg : Str → Option Value} {base : Heap}
/-! the law's own primes and signs -/
def sp__law_primes (_ : PySem.W.Frag) : Sp := spec1 fun x H Q _ => ∃ n : Nat, x = .int n ∧ 1 ≤ n ∧ n ≤ 1000000000 ∧ ∀ L p H', FacOf L n → Same H H' → H p = none → H' p = some (.lst (nsV (L.map Prod.fst))) → Q (.ref p) H'
theorem Rough.up {k m : Nat} (h : Rough k m) (hd : ¬ k ∣ m) : Rough (k + 1) m := fun q hq hqd => by
  have := h q hq hqd
  have : q ≠ k := fun z => hd (z ▸ hqd)
  omega
theorem ok__law_primes {af : Addr} {fd : FuncData} (F : FunD K "_law_primes" "_law_primes" (defArgs s__law_primes) (defBody s__law_primes) (defScope s__law_primes) [] [] af fd) (B : Bt mg)  : FnG False P w K mg base CX0 1 af fd ["number"] (sp__law_primes K) := by
  refine okG F sc__law_primes ar1 fun cdv A outer s H vs Q E hg hr h => ?_
  refine ⟨_, PSs.nox (pss_cons (ps_par3 (i := 1) (j := 2) (l := 3) (by rfl) sc__law_primes.nd rfl rfl rfl (by decide) (by decide) (by decide) rfl rfl rfl (pa_cons (pe_lst pa_nil) (pa_cons (pv 0) (pa_cons pe_int pa_nil))) (by rfl))
    (pss_cons (ps_while PassesOwn.never (pt_cmpR op_le (pe_op op_mul (pv 3) (pv 3)) (pv 2) (nomark _))
      (pss_cutG (ps_if (pt_cmpR op_eq (pe_callTy call_int1 (by rfl) B.int (by decide +kernel) (pa_cons (pe_op op_mod (pv 2) (pv 3)) pa_nil)) pe_int (nomark _))
        (pss_cons (ps_expr (pe_bm PySem.F.plainAttrs_list PySem.F.slot_list_append PySem.F.type_list_append mt_append (pv 1) (pa_cons (pv 3) pa_nil)))
        (pss_one (ps_while PassesOwn.never (pt_cmpR op_eq (pe_callTy call_int1 (by rfl) B.int (by decide +kernel) (pa_cons (pe_op op_mod (pv 2) (pv 3)) pa_nil)) pe_int (nomark _))
          (pss_one (ps_set (i := 2) sc__law_primes.nd rfl (.inl rfl) (pe_op op_fdivW (pv 2) (pv 3)))))))
        pss_nil)
      (pss_one (ps_set (i := 3) sc__law_primes.nd rfl (.inl rfl) (pe_op op_add (pv 3) pe_int)))))
    (pss_one (ps_ret (pe_op op_cat (pv 1) (pe_ifExp (pt_cmpR op_gt (pv 2) pe_int (nomark _)) (pe_lst (pa_cons (pv 2) pa_nil)) (pe_lst pa_nil))))))), ?_⟩
  obtain ⟨_, rfl, n, rfl, h1, h2, q⟩ := h
  refine ⟨sz0, fun fd hfd => ⟨_, rfl, _, _, _, rfl, ?_⟩⟩
  refine ⟨fun m σ H' => ∃ (acc : List (Nat × Nat)) (left p : Nat), σ = [some (.int n), some (.ref fd), some (.int left), some (.int p)] ∧ Same H H' ∧ H' fd = some (.lst (nsV (acc.map Prod.fst))) ∧ FacOk 0 acc ∧ (∀ x ∈ acc, x.1 < p) ∧ facP acc * left = n ∧ 0 < left ∧ left ≤ n ∧ Rough p left ∧ 2 ≤ p ∧ p ≤ 40000 ∧ m = 50000 - p,
    ⟨_, [], n, 2, rfl, Same.new (Same.refl H) hfd, upd_same, True.intro, by simp, by simp [facP], by omega, Nat.le_refl n, Rough.two n, by omega, by omega, rfl⟩, fun m σ H' hW => ?_⟩
  obtain ⟨acc, left, p, rfl, sm, ef, ok, lt, pr, l0, ln, ro, p2, pb, rfl⟩ := hW
  have alen : (acc.map Prod.fst).length ≤ 40000 := by
    have := facOk_len ok p lt
    rw [List.length_map]
    omega
  refine ⟨_, rfl, _, rfl, _, _, rfl, rfl, mulc ⟨by omega, by omega⟩, _, rfl, _, _, rfl, rfl, _, rfl, ite2 (fun hc => ?_) (fun hc => ?_)⟩
  · have hc' : p * p ≤ left := by
      have : (p : Int) * (p : Int) ≤ (left : Int) := of_decide_eq_true hc
      rw [← Int.natCast_mul] at this
      omega
    have psm : p ≤ 31623 := by
      refine Classical.byContradiction fun z => ?_
      have := Nat.mul_le_mul (show 31624 ≤ p by omega) (show 31624 ≤ p by omega)
      omega
    refine ⟨_, fun _ _ z => z, ?_⟩
    refine ⟨fun σ H2 => ∃ (acc : List (Nat × Nat)) (left : Nat), σ = [some (.int n), some (.ref fd), some (.int left), some (.int p)] ∧ Same H H2 ∧ H2 fd = some (.lst (nsV (acc.map Prod.fst))) ∧ FacOk 0 acc ∧ (∀ x ∈ acc, x.1 < p + 1) ∧ facP acc * left = n ∧ 0 < left ∧ left ≤ n ∧ Rough (p + 1) left, ⟨_, rfl, _, rfl, _, _, rfl, rfl, (by show (0 : Int) < _; omega), .inl ⟨_, rfl, rfl, _, rfl, ite2 (fun hd => ?_) (fun hd => ?_)⟩⟩, ?_⟩
    · have hd' : p ∣ left := Nat.dvd_of_mod_eq_zero (by have := V.int.inj (of_decide_eq_true hd); omega)
      have pp : Pr p := ro.prime p2 hd'
      refine ⟨_, rfl, .inl ⟨rfl, _, SqL.of ef⟩, _, rfl, fd, _, _, rfl, rfl, ef, small_lt (by rw [nsV_len]; omega), ?_⟩
      have ef2 : (upd H' fd (.lst (nsV (acc.map Prod.fst) ++ [V.int p]))) fd = some (.lst (nsV (acc.map Prod.fst) ++ [V.int p])) := upd_same
      have sm2 := sm.mut (o := .lst (nsV (acc.map Prod.fst) ++ [V.int p])) hfd
      generalize upd H' fd (.lst (nsV (acc.map Prod.fst) ++ [V.int p])) = H1 at ef2 sm2
      refine ⟨fun m σ H2 => ∃ l2 many : Nat, σ = [some (.int n), some (.ref fd), some (.int l2), some (.int p)] ∧ H2 = H1 ∧ left = l2 * p ^ many ∧ 0 < l2 ∧ l2 ≤ left ∧ l2 = m, ⟨_, left, 0, rfl, rfl, by simp, l0, Nat.le_refl _, rfl⟩, fun m σ H2 hW => ?_⟩
      obtain ⟨l2, many, rfl, rfl, el, l20, l2l, rfl⟩ := hW
      refine ⟨_, rfl, _, rfl, _, _, rfl, rfl, (show (0 : Int) < (p : Int) by omega), .inl ⟨_, rfl, rfl, _, rfl, ite2 (fun he => ?_) (fun he => ?_)⟩⟩
      · have he' : p ∣ l2 := Nat.dvd_of_mod_eq_zero (by have := V.int.inj (of_decide_eq_true he); omega)
        obtain ⟨k, rfl⟩ := he'
        have hk : 0 < k := by
          rcases Nat.eq_zero_or_pos k with e | e
          · rw [e] at l20
            omega
          · exact e
        have hlt : k < p * k := by
          have := Nat.mul_le_mul_right k p2
          omega
        have ek : ((p * k : Nat) : Int) / (p : Int) = (k : Int) := by
          rw [Int.natCast_mul, Int.mul_ediv_cancel_left _ (by omega)]
        refine ⟨_, fun _ _ z => z, _, rfl, _, rfl, _, _, rfl, rfl, divw (by omega) (by omega), k, by omega, k, many + 1, ?_, rfl, ?_, hk, by omega, rfl⟩
        · show [some (V.int n), some (V.ref fd), some (V.int (((p * k : Nat) : Int) / (p : Int))), some (V.int p)] = _
          rw [ek]
        · rw [el, Nat.pow_succ, Nat.mul_comm p k, Nat.mul_assoc, Nat.mul_comm p]
      · have he' : ¬ p ∣ l2 := fun z => he (decide_eq_true (congrArg V.int (by
          have := Nat.mod_eq_zero_of_dvd z
          show (l2 : Int) % (p : Int) = 0
          omega)))
        have hm : 1 ≤ many := by
          rcases Nat.eq_zero_or_pos many with e | e
          · rw [e, Nat.pow_zero, Nat.mul_one] at el
            exact absurd (el ▸ hd') he'
          · exact e
        have ro2 : Rough p l2 := ro.of_dvd ⟨p ^ many, el⟩
        refine ⟨acc ++ [(p, many)], l2, rfl, sm2, ?_, ok.snoc lt (Nat.zero_le _) pp hm, fun x hx => ?_, ?_, l20, by omega, ro2.up he'⟩
        · rw [ef2, List.map_append]
          exact congrArg (fun z => some (HO.lst z)) (nsV_snoc _ _).symm
        · rcases List.mem_append.mp hx with hx | hx
          · have := lt x hx
            omega
          · cases List.mem_singleton.mp hx
            exact Nat.lt_succ_self p
        · rw [facP_snoc, ← pr, el, Nat.mul_assoc, Nat.mul_comm (p ^ many)]
    · have hd' : ¬ p ∣ left := fun z => hd (decide_eq_true (congrArg V.int (by
        have := Nat.mod_eq_zero_of_dvd z
        show (left : Int) % (p : Int) = 0
        omega)))
      exact ⟨acc, left, rfl, sm, ef, ok, fun x hx => Nat.lt_succ_of_lt (lt x hx), pr, l0, ln, ro.up hd'⟩
    · rintro σ H2 ⟨acc, left, rfl, sm, ef, ok, lt, pr, l0, ln, ro⟩
      exact ⟨_, rfl, _, _, rfl, rfl, 50000 - (p + 1), by omega, acc, left, p + 1, rfl, sm, ef, ok, lt, pr, l0, ln, ro, by omega, by omega, rfl⟩
  · have hc' : left < p * p := by
      have : ¬ (p : Int) * (p : Int) ≤ (left : Int) := fun z => hc (decide_eq_true z)
      rw [← Int.natCast_mul] at this
      omega
    refine ⟨_, rfl, _, rfl, _, _, rfl, rfl, _, rfl, ite2 (fun hl => ?_) (fun hl => ?_)⟩
    · have hl' : 1 < left := by
        have : (1 : Int) < (left : Int) := of_decide_eq_true hl
        omega
      have pl := ro.last hl' hc'
      refine ⟨_, rfl, sz1, fun b hb => ⟨fd, b, _, _, rfl, rfl, (upd_ne (ne_of_none ef hb)).trans ef, upd_same, small_sz (by rw [nsV_len]; show _ + 1 ≤ _; omega), fun w hw => ?_⟩⟩
      refine q (acc ++ [(left, 1)]) w _ ⟨ok.snoc (fun x hx => Nat.lt_of_lt_of_le (lt x hx) (ro left pl (Nat.dvd_refl left))) (Nat.zero_le _) pl (Nat.le_refl 1), by rw [facP_snoc, Nat.pow_one, pr]⟩ ((sm.new hb).new hw) (sm.free (((Same.refl H').new hb).free hw)) ?_
      rw [upd_same, List.map_append]
      exact congrArg (fun z => some (HO.lst z)) (nsV_snoc _ _).symm
    · have hl' : left = 1 := by
        have : ¬ (1 : Int) < (left : Int) := fun z => hl (decide_eq_true z)
        omega
      refine ⟨sz0, fun b hb => ⟨fd, b, _, _, rfl, rfl, (upd_ne (ne_of_none ef hb)).trans ef, upd_same, small_sz (by rw [nsV_len]; show _ + 0 ≤ _; omega), fun w hw => ?_⟩⟩
      refine q acc w _ ⟨ok, by rw [← pr, hl', Nat.mul_one]⟩ ((sm.new hb).new hw) (sm.free (((Same.refl H').new hb).free hw)) ?_
      rw [upd_same, List.append_nil]

end
end M
namespace M
open PySem PySem.Spec PyProof.Rows L2 G LamX RZ
section
variable {P : Program} {w : World} {K : PySem.W.Frag} {mg : Str → Option Value} {base : Heap}
/-! lists or tuples -/
theorem SqL.ty {K : PySem.W.Frag} {H : Hp} {a : Addr} {xs : List V} (h : SqL K H a xs) : TyX K H (.ref a) (.type "list") := by
  rcases h with (h | ⟨o, h⟩) | ⟨o, _, _, h, c, _⟩
  · exact .base (.lst h)
  · exact .base (.frz h)
  · exact .kList h c
theorem SqT.ty {K : PySem.W.Frag} {H : Hp} {a : Addr} {xs : List V} (h : SqT K H a xs) : TyX K H (.ref a) (.type "tuple") := by
  rcases h with (h | ⟨o, h⟩) | ⟨o, _, _, h, c, _⟩
  · exact .base (.tup h)
  · exact .fTuple h
  · exact .kTuple h c
theorem lt_kinds : Paired ClsV [V.ty "list", V.ty "tuple"] [Value.type "list", Value.type "tuple"] := .cons (.ty "list") (.cons (.ty "tuple") .nil)
theorem kit_l {K : PySem.W.Frag} : PySem.W.kitAny K (.type "list") [.type "list", .type "tuple"] = some true := kitAny_cons (b := true) (kit_ty (by decide +kernel)) (fun z => by cases z) (fun _ => rfl)
theorem kit_t {K : PySem.W.Frag} : PySem.W.kitAny K (.type "tuple") [.type "list", .type "tuple"] = some true :=
  kitAny_cons (b := false) (kit_ty (by decide +kernel)) (fun _ => kitAny_cons (b := true) (kit_ty (by decide +kernel)) (fun z => by cases z) (fun _ => rfl)) (fun z => by cases z)
def sp_is_list (K : PySem.W.Frag) : Sp := spec1 fun x H Q _ => ∃ (p : Addr) (xs : List V), x = .ref p ∧ (SqL K H p xs ∨ SqT K H p xs) ∧ ∀ H', Same H H' → Q (.bl true) H'
theorem ok_is_list {af : Addr} {fd : FuncData} (F : FunD K "is_list" "is_list" (defArgs s_is_list) (defBody s_is_list) (defScope s_is_list) [] [] af fd) (B : Bt mg)  : FnG False P w K mg base CX0 1 af fd ["value"] (sp_is_list K) := by
  refine okG F sc_is_list ar1 fun cdv A outer s H vs Q E hg hr h => ?_
  refine ⟨_, PSs.nox (pss_one (ps_ret (pe_callB call_isiT (by rfl) B.isinstance (by decide +kernel) (pa_cons (pv 0) (pa_cons (pe_tup (pa_cons (pe_bltn (v := .ty "list") (by rfl) B.list (by decide +kernel) rfl) (pa_cons (pe_bltn (v := .ty "tuple") (by rfl) B.tuple (by decide +kernel) rfl) pa_nil))) pa_nil))))), ?_⟩
  obtain ⟨_, rfl, p, xs, rfl, hS, q⟩ := h
  refine ⟨_, rfl, sz2, fun t ht => ?_⟩
  have s := (Same.refl H).new (o := .tup [.ty "list", .ty "tuple"]) ht
  rcases hS with hS | hS
  · exact ⟨_, t, _, _, _, true, rfl, upd_same, lt_kinds, SqL.ty (SqL.same s hS), kit_l, q _ s⟩
  · exact ⟨_, t, _, _, _, true, rfl, upd_same, lt_kinds, SqT.ty (SqT.same s hS), kit_t, q _ s⟩

end
end M
namespace M
/-! worths of tables by rows taken off, every division even: what the program's turn comes to -/
def stepM (M : Nat → Nat → Int) (k : Nat) (last : Int) : Nat → Nat → Int := fun a b => if k < a ∧ k < b then (M a b * M k k - M a k * M k b).fdiv last else M a b
def swapM (M : Nat → Nat → Int) (k b : Nat) : Nat → Nat → Int := fun i j => if i = k then M b j else if i = b then M k j else M i j
def DOk (last : Int) : Prop := last ≠ 0 ∧ last.natAbs < 2 ^ 200
def AllS (k n : Nat) (M : Nat → Nat → Int) : Prop := ∀ a b, k ≤ a → k ≤ b → a < n → b < n → (M a b).natAbs < 2 ^ 64
/-- from the turn k on, the sign, the last lead and the table being so, it comes to v -/
inductive Wo (n : Nat) : Nat → Int → Int → (Nat → Nat → Int) → Int → Prop
  | done {k : Nat} {sign last : Int} {M : Nat → Nat → Int} : k + 1 = n → (M k k).natAbs < 2 ^ 64 → Wo n k sign last M (sign * M k k)
  | zero {k : Nat} {sign last : Int} {M : Nat → Nat → Int} : k + 1 < n → M k k = 0 → (∀ i, k < i → i < n → M i k = 0) → Wo n k sign last M 0
  | swap {k : Nat} {sign last : Int} {M : Nat → Nat → Int} {v : Int} (b : Nat) : k + 1 < n → M k k = 0 → k < b → b < n → M b k ≠ 0 → (∀ i, k < i → i < b → M i k = 0) → AllS k n M → DOk last →
      Wo n (k + 1) (0 - sign) (M b k) (stepM (swapM M k b) k last) v → Wo n k sign last M v
  | go {k : Nat} {sign last : Int} {M : Nat → Nat → Int} {v : Int} : k + 1 < n → M k k ≠ 0 → AllS k n M → DOk last → Wo n (k + 1) sign (M k k) (stepM M k last) v → Wo n k sign last M v
theorem AllS.swap {k n b : Nat} {M : Nat → Nat → Int} (h : AllS k n M) (hb : k < b) (hn : b < n) : AllS k n (swapM M k b) := by
  intro i j hi hj hin hjn
  unfold swapM
  split
  · exact h b j (by omega) hj hn hjn
  · split
    · exact h k j (Nat.le_refl k) hj (by omega) hjn
    · exact h i j hi hj hin hjn
/-! the same, by lists, for the kernel -/
def smallB (x : Int) : Bool := Nat.ble x.natAbs 18446744073709551615
theorem smallB_ok {x : Int} (h : smallB x = true) : x.natAbs < 2 ^ 64 := by
  have := Nat.le_of_ble_eq_true h
  omega
def elimL (r : List Int) (last : Int) (q : List Int) : List Int := List.zipWith (fun x y => (x * r.headD 0 - q.headD 0 * y).fdiv last) q.tail r.tail
def barC : Nat → Int → Int → List (List Int) → Option Int
  | 0, sign, _, rows => match rows with
    | [[x]] => if smallB x then some (sign * x) else none
    | _ => none
  | f + 1, sign, last, rows => if (rows.all fun r => r.all smallB) && decide (last ≠ 0 ∧ last.natAbs < 2 ^ 200) then
      match rows with
      | [] => none
      | r :: rs => if r.headD 0 = 0 then
          if rs.findIdx (fun q => !decide (q.headD 0 = 0)) < rs.length then
            let k := rs.findIdx fun q => !decide (q.headD 0 = 0)
            let q := rs.getD k []
            barC f (0 - sign) (q.headD 0) ((rs.set k r).map (elimL q last))
          else some 0
        else barC f sign (r.headD 0) (rs.map (elimL r last))
    else none
def subM (M : Nat → Nat → Int) (k m : Nat) : List (List Int) := (List.range m).map fun i => (List.range m).map fun j => M (k + i) (k + j)
theorem subM_all {M : Nat → Nat → Int} {k m n : Nat} (hm : k + m = n) (h : ((subM M k m).all fun r => r.all smallB) = true) : AllS k n M := by
  intro a b ha hb han hbn
  have h1 := List.all_eq_true.mp h ((List.range m).map fun j => M (k + (a - k)) (k + j)) (List.mem_map.mpr ⟨a - k, List.mem_range.mpr (by omega), rfl⟩)
  have h2 := List.all_eq_true.mp h1 (M (k + (a - k)) (k + (b - k))) (List.mem_map.mpr ⟨b - k, List.mem_range.mpr (by omega), rfl⟩)
  rw [show k + (a - k) = a by omega, show k + (b - k) = b by omega] at h2
  exact smallB_ok h2
theorem row_head (f : Nat → Int) (m : Nat) : ((List.range (m + 1)).map f).headD 0 = f 0 := by
  rw [List.range_succ_eq_map]
  rfl
theorem row_tail (f : Nat → Int) (m : Nat) : ((List.range (m + 1)).map f).tail = (List.range m).map fun j => f (j + 1) := by
  rw [List.range_succ_eq_map, List.map_cons, List.tail_cons, List.map_map]
  rfl
theorem zip_range (f g : Nat → Int) (h : Int → Int → Int) (m : Nat) : List.zipWith h ((List.range m).map f) ((List.range m).map g) = (List.range m).map fun j => h (f j) (g j) := by
  apply List.ext_getElem?
  intro i
  rw [List.getElem?_zipWith, List.getElem?_map, List.getElem?_map, List.getElem?_map]
  by_cases hi : i < m
  · rw [List.getElem?_range hi]
    rfl
  · rw [List.getElem?_eq_none (by simp; omega)]
    rfl
theorem elim_row (P Q : Nat → Int) (last : Int) (m : Nat) : elimL ((List.range (m + 1)).map P) last ((List.range (m + 1)).map Q) = (List.range m).map fun j => (Q (j + 1) * P 0 - Q 0 * P (j + 1)).fdiv last := by
  unfold elimL
  rw [row_head, row_head, row_tail, row_tail, zip_range]
theorem subM_cons (M : Nat → Nat → Int) (k m : Nat) : subM M k (m + 1) = ((List.range (m + 1)).map fun j => M k (k + j)) :: (List.range m).map fun i => (List.range (m + 1)).map fun j => M (k + (i + 1)) (k + j) := by
  unfold subM
  rw [List.range_succ_eq_map, List.map_cons, List.map_map]
  rfl
theorem set_range {α : Type} (N i : Nat) (f : Nat → α) (v : α) : ((List.range N).map f).set i v = (List.range N).map fun k => if k = i then v else f k := by
  apply List.ext_getElem?
  intro j
  rw [List.getElem?_set, List.getElem?_map, List.getElem?_map]
  by_cases h : j < N
  · rw [List.getElem?_range h]
    by_cases e : i = j
    · subst e
      simp [h]
    · simp [e, show ¬ j = i from fun z => e z.symm]
  · have : (List.range N)[j]? = none := List.getElem?_eq_none (by simp; omega)
    rw [this]
    split
    · split
      · rename_i z
        simp at z
        omega
      · rfl
    · rfl
theorem barC_ok {n : Nat} : ∀ (f k : Nat) (sign last : Int) (M : Nat → Nat → Int) (v : Int), k + f + 1 = n → barC f sign last (subM M k (f + 1)) = some v → Wo n k sign last M v
  | 0, k, sign, last, M, v, hk, h => by
    have e : subM M k 1 = [[M k k]] := rfl
    rw [e] at h
    unfold barC at h
    simp only [] at h
    split at h
    · rename_i hs
      cases h
      exact .done (by omega) (smallB_ok hs)
    · cases h
  | f + 1, k, sign, last, M, v, hk, h => by
    rw [subM_cons] at h
    unfold barC at h
    rw [← subM_cons] at h
    split at h
    · rename_i hc
      rw [Bool.and_eq_true] at hc
      have hS := subM_all (n := n) (by omega) hc.1
      have hD : DOk last := (of_decide_eq_true hc.2 : last ≠ 0 ∧ last.natAbs < 2 ^ 200)
      rw [subM_cons] at h
      simp only [row_head] at h
      by_cases h0 : M k (k + 0) = 0
      · rw [if_pos h0] at h
        have h0' : M k k = 0 := h0
        split at h
        · rename_i hi
          generalize hq : (List.findIdx (fun q : List Int => !decide (q.headD 0 = 0)) ((List.range (f + 1)).map fun i => (List.range (f + 1 + 1)).map fun j => M (k + (i + 1)) (k + j))) = t at h hi
          have ht : t < f + 1 := by simpa using hi
          have hp := List.findIdx_getElem (p := fun q : List Int => !decide (q.headD 0 = 0)) (xs := (List.range (f + 1)).map fun i => (List.range (f + 1 + 1)).map fun j => M (k + (i + 1)) (k + j)) (w := by rw [hq]; simpa using hi)
          have hne : ∀ i, i < t → M (k + (i + 1)) k = 0 := fun i hit => by
            have z := List.not_of_lt_findIdx (p := fun q : List Int => !decide (q.headD 0 = 0)) (xs := (List.range (f + 1)).map fun i => (List.range (f + 1 + 1)).map fun j => M (k + (i + 1)) (k + j)) (i := i) (by rw [hq]; exact hit)
            simp only [List.getElem_map, List.getElem_range, row_head] at z
            simpa using z
          have hpv : M (k + (t + 1)) k ≠ 0 := by
            simp only [List.getElem_map, List.getElem_range, row_head, hq] at hp
            simpa using hp
          have eg : (((List.range (f + 1)).map fun i => (List.range (f + 1 + 1)).map fun j => M (k + (i + 1)) (k + j)).getD t []) = (List.range (f + 1 + 1)).map fun j => M (k + (t + 1)) (k + j) := by
            rw [List.getD_eq_getElem?_getD, List.getElem?_map, List.getElem?_range ht]
            rfl
          simp only [eg, row_head] at h
          refine .swap (k + (t + 1)) (by omega) h0' (by omega) (by omega) hpv (fun i h1 h2 => ?_) hS hD (barC_ok f (k + 1) (0 - sign) _ _ v (by omega) ?_)
          · have := hne (i - k - 1) (by omega)
            rwa [show k + (i - k - 1 + 1) = i by omega] at this
          · rw [← h, set_range, List.map_map]
            congr 1
            unfold subM
            refine List.map_congr_left fun i hi' => ?_
            have hi2 := List.mem_range.mp hi'
            show _ = elimL _ last (if i = t then (List.range (f + 1 + 1)).map fun j => M k (k + j) else (List.range (f + 1 + 1)).map fun j => M (k + (i + 1)) (k + j))
            have er : (if i = t then (List.range (f + 1 + 1)).map fun j => M k (k + j) else (List.range (f + 1 + 1)).map fun j => M (k + (i + 1)) (k + j)) = (List.range (f + 1 + 1)).map fun j => (if i = t then M k (k + j) else M (k + (i + 1)) (k + j)) := by
              split <;> rfl
            rw [er, elim_row]
            refine List.map_congr_left fun j hj' => ?_
            unfold stepM swapM
            rw [if_pos ⟨by omega, by omega⟩]
            by_cases e : i = t
            · subst e
              simp [show k + 1 + i = k + (i + 1) by omega, show k + 1 + j = k + (j + 1) by omega]
            · simp [e, show ¬ k + 1 + i = k + (t + 1) by omega, show k + 1 + i = k + (i + 1) by omega, show k + 1 + j = k + (j + 1) by omega]
        · rename_i hi
          cases h
          refine .zero (by omega) h0' fun i h1 h2 => ?_
          have z := List.not_of_lt_findIdx (p := fun q : List Int => !decide (q.headD 0 = 0)) (xs := (List.range (f + 1)).map fun i => (List.range (f + 1 + 1)).map fun j => M (k + (i + 1)) (k + j)) (i := i - k - 1) (Nat.lt_of_lt_of_le (by rw [List.length_map, List.length_range]; omega) (Nat.le_of_not_lt hi))
          simp only [List.getElem_map, List.getElem_range, row_head] at z
          rw [show k + (i - k - 1 + 1) = i by omega] at z
          simpa using z
      · rw [if_neg h0] at h
        refine .go (by omega) h0 hS hD (barC_ok f (k + 1) sign _ _ v (by omega) ?_)
        rw [← h]
        show barC f sign (M k k) _ = barC f sign (M k (k + 0)) _
        congr 1
        unfold subM
        rw [List.map_map]
        refine List.map_congr_left fun i hi' => ?_
        show _ = elimL _ last ((List.range (f + 1 + 1)).map fun j => M (k + (i + 1)) (k + j))
        rw [elim_row]
        refine List.map_congr_left fun j hj' => ?_
        unfold stepM
        rw [if_pos ⟨by omega, by omega⟩]
        simp [show k + 1 + i = k + (i + 1) by omega, show k + 1 + j = k + (j + 1) by omega]
    · cases h

end M
namespace M
/-! worths by rows taken off, fractions: what the law's own turn comes to -/
def elimW (M : Nat → Nat → Int) (k : Nat) : Nat → Nat → Int := fun i j => if k < i ∧ M i k ≠ 0 then M k k * M i j - M i k * M k j else M i j
def cntW (M : Nat → Nat → Int) (k i : Nat) : Nat := ((List.range i).filter fun a => !decide (M (k + 1 + a) k = 0)).length
inductive Lo (n : Nat) : Nat → Int → Int → (Nat → Nat → Int) → Int → Prop
  | done {above below : Int} {M : Nat → Nat → Int} : below ≠ 0 → below.natAbs < 2 ^ 200 → Lo n n above below M (above.fdiv below)
  | zero {k : Nat} {above below : Int} {M : Nat → Nat → Int} : k < n → (∀ i, k ≤ i → i < n → M i k = 0) → Lo n k above below M 0
  | here {k : Nat} {above below : Int} {M : Nat → Nat → Int} {v : Int} : k < n → M k k ≠ 0 → AllS k n M → Lo n (k + 1) (above * M k k) (below * M k k ^ cntW M k (n - k - 1)) (elimW M k) v → Lo n k above below M v
  | swap {k : Nat} {above below : Int} {M : Nat → Nat → Int} {v : Int} (b : Nat) : k < n → M k k = 0 → k < b → b < n → M b k ≠ 0 → (∀ i, k ≤ i → i < b → M i k = 0) → AllS k n M →
      Lo n (k + 1) ((0 - above) * M b k) (below * M b k ^ cntW (swapM M k b) k (n - k - 1)) (elimW (swapM M k b) k) v → Lo n k above below M v
def elimLW (r : List Int) (q : List Int) : List Int := if q.headD 0 = 0 then q.tail else List.zipWith (fun x y => r.headD 0 * x - q.headD 0 * y) q.tail r.tail
def cntL (rs : List (List Int)) : Nat := (rs.filter fun q => !decide (q.headD 0 = 0)).length
def lawC : Nat → Int → Int → List (List Int) → Option Int
  | 0, above, below, _ => if below ≠ 0 ∧ below.natAbs < 2 ^ 200 then some (above.fdiv below) else none
  | f + 1, above, below, rows => if (rows.all fun r => r.all smallB) then
      match rows with
      | [] => none
      | r :: rs => if r.headD 0 = 0 then
          if rs.findIdx (fun q => !decide (q.headD 0 = 0)) < rs.length then
            let k := rs.findIdx fun q => !decide (q.headD 0 = 0)
            let q := rs.getD k []
            lawC f ((0 - above) * q.headD 0) (below * q.headD 0 ^ cntL (rs.set k r)) ((rs.set k r).map (elimLW q))
          else some 0
        else lawC f (above * r.headD 0) (below * r.headD 0 ^ cntL rs) (rs.map (elimLW r))
    else none
theorem elimW_row (P Q : Nat → Int) (m : Nat) : elimLW ((List.range (m + 1)).map P) ((List.range (m + 1)).map Q) = (List.range m).map fun j => if Q 0 ≠ 0 then P 0 * Q (j + 1) - Q 0 * P (j + 1) else Q (j + 1) := by
  unfold elimLW
  rw [row_head, row_head, row_tail, row_tail, zip_range]
  by_cases h : Q 0 = 0
  · rw [if_pos h]
    refine List.map_congr_left fun j _ => ?_
    rw [if_neg (fun z => z h)]
  · rw [if_neg h]
    refine List.map_congr_left fun j _ => ?_
    rw [if_pos h]
theorem cntL_rows (f : Nat → Nat → Int) (m c : Nat) : cntL ((List.range m).map fun i => (List.range (c + 1)).map (f i)) = ((List.range m).filter fun i => !decide (f i 0 = 0)).length := by
  unfold cntL
  rw [List.filter_map, List.length_map]
  congr 2
  funext i
  show (!decide (((List.range (c + 1)).map (f i)).headD 0 = 0)) = _
  rw [row_head]
theorem lawC_ok {n : Nat} : ∀ (f k : Nat) (above below : Int) (M : Nat → Nat → Int) (v : Int), k + f = n → lawC f above below (subM M k f) = some v → Lo n k above below M v
  | 0, k, above, below, M, v, hk, h => by
    unfold lawC at h
    split at h
    · rename_i hs
      cases h
      have : k = n := by omega
      subst this
      exact .done hs.1 hs.2
    · cases h
  | f + 1, k, above, below, M, v, hk, h => by
    rw [subM_cons] at h
    unfold lawC at h
    rw [← subM_cons] at h
    split at h
    · rename_i hc
      have hS := subM_all (n := n) (by omega) hc
      rw [subM_cons] at h
      simp only [row_head] at h
      by_cases h0 : M k (k + 0) = 0
      · rw [if_pos h0] at h
        have h0' : M k k = 0 := h0
        split at h
        · rename_i hi
          generalize hq : (List.findIdx (fun q : List Int => !decide (q.headD 0 = 0)) ((List.range f).map fun i => (List.range (f + 1)).map fun j => M (k + (i + 1)) (k + j))) = t at h hi
          have ht : t < f := by simpa using hi
          have hp := List.findIdx_getElem (p := fun q : List Int => !decide (q.headD 0 = 0)) (xs := (List.range f).map fun i => (List.range (f + 1)).map fun j => M (k + (i + 1)) (k + j)) (w := by rw [hq]; simpa using hi)
          have hne : ∀ i, i < t → M (k + (i + 1)) k = 0 := fun i hit => by
            have z := List.not_of_lt_findIdx (p := fun q : List Int => !decide (q.headD 0 = 0)) (xs := (List.range f).map fun i => (List.range (f + 1)).map fun j => M (k + (i + 1)) (k + j)) (i := i) (by rw [hq]; exact hit)
            simp only [List.getElem_map, List.getElem_range, row_head] at z
            simpa using z
          have hpv : M (k + (t + 1)) k ≠ 0 := by
            simp only [List.getElem_map, List.getElem_range, row_head, hq] at hp
            simpa using hp
          have eg : (((List.range f).map fun i => (List.range (f + 1)).map fun j => M (k + (i + 1)) (k + j)).getD t []) = (List.range (f + 1)).map fun j => M (k + (t + 1)) (k + j) := by
            rw [List.getD_eq_getElem?_getD, List.getElem?_map, List.getElem?_range ht]
            rfl
          have es : (((List.range f).map fun i => (List.range (f + 1)).map fun j => M (k + (i + 1)) (k + j)).set t ((List.range (f + 1)).map fun j => M k (k + j))) = (List.range f).map fun i => (List.range (f + 1)).map fun j => swapM M k (k + (t + 1)) (k + 1 + i) (k + j) := by
            rw [set_range]
            refine List.map_congr_left fun i _ => ?_
            unfold swapM
            by_cases e : i = t
            · subst e
              rw [if_pos rfl]
              refine List.map_congr_left fun j _ => ?_
              rw [if_neg (by omega), if_pos (by omega)]
            · rw [if_neg e]
              refine List.map_congr_left fun j _ => ?_
              rw [if_neg (by omega), if_neg (by omega), show k + 1 + i = k + (i + 1) by omega]
          have hkk : swapM M k (k + (t + 1)) k = fun j => M (k + (t + 1)) j := by
            funext j
            unfold swapM
            rw [if_pos rfl]
          simp only [eg, es, row_head] at h
          refine .swap (k + (t + 1)) (by omega) h0' (by omega) (by omega) hpv (fun i h1 h2 => ?_) hS (lawC_ok f (k + 1) _ _ _ v (by omega) ?_)
          · rcases Nat.eq_or_lt_of_le h1 with z | z
            · rw [← z]
              exact h0'
            · have := hne (i - k - 1) (by omega)
              rwa [show k + (i - k - 1 + 1) = i by omega] at this
          · rw [← h, cntL_rows, List.map_map]
            unfold cntW
            rw [show n - k - 1 = f by omega]
            congr 1
            unfold subM
            refine List.map_congr_left fun i hi' => ?_
            show _ = elimLW _ ((List.range (f + 1)).map fun j => swapM M k (k + (t + 1)) (k + 1 + i) (k + j))
            rw [elimW_row]
            refine List.map_congr_left fun j hj' => ?_
            unfold elimW
            rw [hkk]
            simp only [Nat.add_zero, show k + 1 + j = k + (j + 1) by omega, show k < k + 1 + i by omega, true_and]
        · rename_i hi
          cases h
          refine .zero (by omega) fun i h1 h2 => ?_
          rcases Nat.eq_or_lt_of_le h1 with z | z
          · rw [← z]
            exact h0'
          · have z := List.not_of_lt_findIdx (p := fun q : List Int => !decide (q.headD 0 = 0)) (xs := (List.range f).map fun i => (List.range (f + 1)).map fun j => M (k + (i + 1)) (k + j)) (i := i - k - 1) (Nat.lt_of_lt_of_le (by rw [List.length_map, List.length_range]; omega) (Nat.le_of_not_lt hi))
            simp only [List.getElem_map, List.getElem_range, row_head] at z
            rw [show k + (i - k - 1 + 1) = i by omega] at z
            simpa using z
      · rw [if_neg h0] at h
        refine .here (by omega) h0 hS (lawC_ok f (k + 1) _ _ _ v (by omega) ?_)
        rw [← h, cntL_rows, List.map_map]
        unfold cntW
        rw [show n - k - 1 = f by omega]
        have ec : ((List.range f).filter fun a => !decide (M (k + 1 + a) k = 0)) = (List.range f).filter fun i => !decide (M (k + (i + 1)) (k + 0) = 0) := by
          congr 1
          funext a
          rw [show k + 1 + a = k + (a + 1) by omega]
          rfl
        rw [ec]
        show lawC f (above * M k k) _ _ = lawC f (above * M k (k + 0)) _ _
        congr 1
        unfold subM
        refine List.map_congr_left fun i hi' => ?_
        show _ = elimLW _ ((List.range (f + 1)).map fun j => M (k + (i + 1)) (k + j))
        rw [elimW_row]
        refine List.map_congr_left fun j hj' => ?_
        unfold elimW
        simp only [Nat.add_zero, show k + 1 + j = k + (j + 1) by omega, show k + 1 + i = k + (i + 1) by omega, show k < k + (i + 1) by omega, true_and]
    · cases h

end M
namespace M
/-! worths of tables: by the first column's parts; rows added, exchanged -/
def sgn (i : Nat) : Int := if i % 2 = 0 then 1 else -1
def sk (i a : Nat) : Nat := if a < i then a else a + 1
def Sg : Nat → (Nat → Int) → Int
  | 0, _ => 0
  | n + 1, f => Sg n f + f n
def det : Nat → (Nat → Nat → Int) → Int
  | 0, _ => 1
  | n + 1, M => Sg (n + 1) fun i => sgn i * M i 0 * det n (fun a b => M (sk i a) (b + 1))
theorem sgn_succ (i : Nat) : sgn (i + 1) = - sgn i := by
  unfold sgn
  by_cases h : i % 2 = 0
  · rw [if_pos h, if_neg (by omega)]
  · rw [if_neg h, if_pos (by omega)]; rfl
theorem sgn_sq (i : Nat) : sgn i * sgn i = 1 := by
  unfold sgn
  split <;> rfl
theorem sgn_add (i j : Nat) : sgn (i + j) = sgn i * sgn j := by
  induction j with
  | zero => show sgn i = sgn i * 1; rw [Int.mul_one]
  | succ j ih => rw [← Nat.add_assoc, sgn_succ, sgn_succ, ih, Int.mul_neg]
theorem Sg_congr {f g : Nat → Int} : ∀ {n : Nat}, (∀ i, i < n → f i = g i) → Sg n f = Sg n g
  | 0, _ => rfl
  | n + 1, h => by
    unfold Sg
    rw [Sg_congr fun i hi => h i (by omega), h n (by omega)]
theorem Sg_zero {f : Nat → Int} : ∀ {n : Nat}, (∀ i, i < n → f i = 0) → Sg n f = 0
  | 0, _ => rfl
  | n + 1, h => by
    unfold Sg
    rw [Sg_zero fun i hi => h i (by omega), h n (by omega)]
    rfl
theorem Sg_one {f : Nat → Int} {r : Nat} : ∀ {n : Nat}, r < n → (∀ i, i < n → i ≠ r → f i = 0) → Sg n f = f r
  | 0, h, _ => by omega
  | n + 1, hr, h => by
    unfold Sg
    by_cases e : r = n
    · subst e
      rw [Sg_zero fun i hi => h i (by omega) (by omega), Int.zero_add]
    · rw [Sg_one (by omega) fun i hi => h i (by omega), h n (by omega) (fun z => e z.symm), Int.add_zero]
theorem Sg_two {f : Nat → Int} {r : Nat} : ∀ {n : Nat}, r + 1 < n → (∀ i, i < n → i ≠ r → i ≠ r + 1 → f i = 0) → Sg n f = f r + f (r + 1)
  | 0, h, _ => by omega
  | n + 1, hr, h => by
    unfold Sg
    by_cases e : r + 1 = n
    · subst e
      rw [Sg_one (r := r) (by omega) fun i hi hn => h i (by omega) hn (by omega)]
    · rw [Sg_two (by omega) fun i hi => h i (by omega), h n (by omega) (by omega) (fun z => e z.symm), Int.add_zero]
theorem Sg_lin {f g h : Nat → Int} {s t : Int} : ∀ {n : Nat}, (∀ i, i < n → h i = s * f i + t * g i) → Sg n h = s * Sg n f + t * Sg n g
  | 0, _ => by unfold Sg; simp
  | n + 1, e => by
    unfold Sg
    rw [Sg_lin fun i hi => e i (by omega), e n (by omega)]
    grind
theorem Sg_mul {f : Nat → Int} {s : Int} {n : Nat} : s * Sg n f = Sg n fun i => s * f i := by
  have := Sg_lin (n := n) (f := f) (g := fun _ => 0) (h := fun i => s * f i) (s := s) (t := 0) (fun i _ => by simp)
  rw [this]
  simp
theorem Sg_add {f g : Nat → Int} {n : Nat} : (Sg n fun i => f i + g i) = Sg n f + Sg n g := by
  rw [Sg_lin (f := f) (g := g) (s := 1) (t := 1) fun i _ => by simp]
  simp
theorem Sg_head {f : Nat → Int} : ∀ {n : Nat}, Sg (n + 1) f = f 0 + Sg n fun i => f (i + 1)
  | 0 => by unfold Sg; unfold Sg; simp
  | n + 1 => by
    rw [show Sg (n + 1 + 1) f = Sg (n + 1) f + f (n + 1) from rfl, Sg_head (n := n)]
    show _ = f 0 + (Sg n (fun i => f (i + 1)) + f (n + 1))
    omega
theorem Sg_comm {f : Nat → Nat → Int} {m : Nat} : ∀ {n : Nat}, (Sg n fun i => Sg m fun j => f i j) = Sg m fun j => Sg n fun i => f i j
  | 0 => (Sg_zero (n := m) fun _ _ => rfl).symm
  | n + 1 => by
    show (Sg n fun i => Sg m fun j => f i j) + (Sg m fun j => f n j) = _
    rw [Sg_comm (n := n), ← Sg_add]
    rfl
theorem sk_lt {i a : Nat} (h : a < i) : sk i a = a := if_pos h
theorem sk_ge {i a : Nat} (h : i ≤ a) : sk i a = a + 1 := if_neg (by omega)
theorem sk_ub {i a n : Nat} (h : a < n) : sk i a < n + 1 := by
  unfold sk
  split <;> omega
theorem sk_ne {i a : Nat} : sk i a ≠ i := by
  unfold sk
  split <;> omega
theorem sk_inj {i a b : Nat} (h : sk i a = sk i b) : a = b := by
  unfold sk at h
  split at h <;> split at h <;> omega
theorem sk_ss {i a : Nat} : sk (i + 1) (a + 1) = sk i a + 1 := by
  unfold sk
  by_cases h : a < i
  · rw [if_pos h, if_pos (by omega)]
  · rw [if_neg h, if_neg (by omega)]
theorem sk_z {i : Nat} : sk (i + 1) 0 = 0 := if_pos (by omega)
theorem sk_zero {a : Nat} : sk 0 a = a + 1 := if_neg (by omega)
theorem det_congr : ∀ {n : Nat} {M N : Nat → Nat → Int}, (∀ i j, i < n → j < n → M i j = N i j) → det n M = det n N
  | 0, _, _, _ => rfl
  | n + 1, M, N, h => by
    unfold det
    refine Sg_congr fun i hi => ?_
    rw [h i 0 hi (by omega), det_congr fun a b ha hb => h (sk i a) (b + 1) (sk_ub ha) (by omega)]
/-- a row that is two rows put together -/
theorem det_lin : ∀ {n r : Nat} {A B C : Nat → Nat → Int} {s t : Int}, r < n → (∀ i j, i < n → j < n → i ≠ r → A i j = C i j) → (∀ i j, i < n → j < n → i ≠ r → B i j = C i j) → (∀ j, j < n → C r j = s * A r j + t * B r j) → det n C = s * det n A + t * det n B
  | 0, _, _, _, _, _, _, h, _, _, _ => by omega
  | n + 1, r, A, B, C, s, t, hr, hA, hB, hC => by
    unfold det
    refine Sg_lin fun i hi => ?_
    by_cases e : i = r
    · subst e
      rw [hC 0 (by omega), det_congr (n := n) (M := fun a b => A (sk i a) (b + 1)) (N := fun a b => C (sk i a) (b + 1)) fun a b ha hb => hA _ _ (sk_ub ha) (by omega) sk_ne,
        det_congr (n := n) (M := fun a b => B (sk i a) (b + 1)) (N := fun a b => C (sk i a) (b + 1)) fun a b ha hb => hB _ _ (sk_ub ha) (by omega) sk_ne]
      grind
    · obtain ⟨q, hq, e2⟩ : ∃ q, q < n ∧ sk i q = r := by
        by_cases h : r < i
        · exact ⟨r, by omega, sk_lt h⟩
        · exact ⟨r - 1, by omega, by rw [sk_ge (by omega)]; omega⟩
      have ne : ∀ a, a ≠ q → sk i a ≠ r := fun a h z => h (sk_inj (z.trans e2.symm))
      rw [hA i 0 hi (by omega) e, hB i 0 hi (by omega) e, det_lin (n := n) (r := q) (A := fun a b => A (sk i a) (b + 1)) (B := fun a b => B (sk i a) (b + 1)) (s := s) (t := t) hq (fun a b ha hb h => hA _ _ (sk_ub ha) (by omega) (ne a h)) (fun a b ha hb h => hB _ _ (sk_ub ha) (by omega) (ne a h))
        (fun b hb => by show C (sk i q) (b + 1) = s * A (sk i q) (b + 1) + t * B (sk i q) (b + 1); rw [e2]; exact hC _ (by omega))]
      grind
/-- two rows side by side alike -/
theorem det_adj : ∀ {n r : Nat} {M : Nat → Nat → Int}, r + 1 < n → (∀ j, j < n → M r j = M (r + 1) j) → det n M = 0
  | 0, _, _, h, _ => by omega
  | n + 1, r, M, hr, h => by
    unfold det
    rw [Sg_two (r := r) hr fun i hi h1 h2 => ?_]
    · rw [sgn_succ, h 0 (by omega), det_congr (n := n) (M := fun a b => M (sk r a) (b + 1)) (N := fun a b => M (sk (r + 1) a) (b + 1)) fun a b ha hb => ?_]
      · grind
      · show M (sk r a) (b + 1) = M (sk (r + 1) a) (b + 1)
        by_cases e : a = r
        · subst e
          rw [sk_ge (Nat.le_refl a), sk_lt (by omega), h _ (by omega)]
        · have : sk r a = sk (r + 1) a := by
            unfold sk
            by_cases c : a < r
            · rw [if_pos c, if_pos (by omega)]
            · rw [if_neg c, if_neg (by omega)]
          rw [this]
    · by_cases c : i < r
      · rw [det_adj (n := n) (r := r - 1) (by omega) fun j hj => ?_, Int.mul_zero]
        show M (sk i (r - 1)) (j + 1) = M (sk i (r - 1 + 1)) (j + 1)
        rw [sk_ge (by omega), sk_ge (by omega), show r - 1 + 1 = r by omega]
        exact h _ (by omega)
      · rw [det_adj (n := n) (r := r) (by omega) fun j hj => ?_, Int.mul_zero]
        show M (sk i r) (j + 1) = M (sk i (r + 1)) (j + 1)
        rw [sk_lt (by omega), sk_lt (by omega)]
        exact h _ (by omega)
/-- the row i is the row f -/
def rwM (M : Nat → Nat → Int) (i : Nat) (f : Nat → Int) : Nat → Nat → Int := fun a b => if a = i then f b else M a b
theorem rwM_at {M : Nat → Nat → Int} {i : Nat} {f : Nat → Int} {b : Nat} : rwM M i f i b = f b := if_pos rfl
theorem rwM_ne {M : Nat → Nat → Int} {i a : Nat} {f : Nat → Int} {b : Nat} (h : a ≠ i) : rwM M i f a b = M a b := if_neg h
/-- rows i and j exchanged -/
def xM (M : Nat → Nat → Int) (i j : Nat) : Nat → Nat → Int := fun a b => if a = i then M j b else if a = j then M i b else M a b
theorem det_rwM {n r : Nat} {M : Nat → Nat → Int} {f g h : Nat → Int} {s t : Int} (hr : r < n) (e : ∀ j, j < n → h j = s * f j + t * g j) : det n (rwM M r h) = s * det n (rwM M r f) + t * det n (rwM M r g) :=
  det_lin (r := r) hr (fun i j _ _ z => by rw [rwM_ne z, rwM_ne z]) (fun i j _ _ z => by rw [rwM_ne z, rwM_ne z]) (fun j hj => by rw [rwM_at, rwM_at, rwM_at]; exact e j hj)
/-- where a table with two like rows comes to nought, exchanged rows change the sign -/
theorem det_x {n i j : Nat} {M : Nat → Nat → Int} (hi : i < n) (hj : j < n) (hij : i ≠ j) (al : ∀ N : Nat → Nat → Int, (∀ b, b < n → N i b = N j b) → det n N = 0) : det n (xM M i j) = - det n M := by
  have z0 := al (rwM (rwM M i fun b => M i b + M j b) j fun b => M i b + M j b) fun b _ => by rw [rwM_ne hij, rwM_at, rwM_at]
  have com : ∀ f g : Nat → Int, rwM (rwM M i f) j g = rwM (rwM M j g) i f := fun f g => by
    funext a b
    unfold rwM
    by_cases h1 : a = j <;> by_cases h2 : a = i
    · omega
    · rw [if_pos h1, if_neg h2, if_pos h1]
    · rw [if_neg h1, if_pos h2, if_pos h2]
    · rw [if_neg h1, if_neg h2, if_neg h2, if_neg h1]
  have l1 : ∀ N : Nat → Nat → Int, det n (rwM N i fun b => M i b + M j b) = det n (rwM N i fun b => M i b) + det n (rwM N i fun b => M j b) := fun N => by
    rw [det_rwM (M := N) (h := fun b => M i b + M j b) (f := fun b => M i b) (g := fun b => M j b) (s := 1) (t := 1) hi fun _ _ => by rw [Int.one_mul, Int.one_mul], Int.one_mul, Int.one_mul]
  have l2 : ∀ N : Nat → Nat → Int, det n (rwM N j fun b => M i b + M j b) = det n (rwM N j fun b => M i b) + det n (rwM N j fun b => M j b) := fun N => by
    rw [det_rwM (M := N) (h := fun b => M i b + M j b) (f := fun b => M i b) (g := fun b => M j b) (s := 1) (t := 1) hj fun _ _ => by rw [Int.one_mul, Int.one_mul], Int.one_mul, Int.one_mul]
  rw [l2, com, com, l1, l1] at z0
  have a1 := al (rwM (rwM M j fun b => M i b) i fun b => M i b) fun b _ => by rw [rwM_at, rwM_ne (fun z => hij z.symm), rwM_at]
  have a2 := al (rwM (rwM M j fun b => M j b) i fun b => M j b) fun b _ => by rw [rwM_at, rwM_ne (fun z => hij z.symm), rwM_at]
  have e1 : det n (rwM (rwM M j fun b => M j b) i fun b => M i b) = det n M := det_congr fun a b _ _ => by
    unfold rwM
    by_cases h1 : a = i
    · rw [if_pos h1, h1]
    · rw [if_neg h1]
      by_cases h2 : a = j
      · rw [if_pos h2, h2]
      · rw [if_neg h2]
  have e2 : det n (rwM (rwM M j fun b => M i b) i fun b => M j b) = det n (xM M i j) := det_congr fun a b _ _ => by
    unfold rwM xM
    by_cases h1 : a = i
    · simp only [if_pos h1]
    · simp only [if_neg h1]
  rw [a1, a2, e1, e2] at z0
  omega
/-- two rows alike -/
theorem det_alt : ∀ (d : Nat) {n i : Nat} {M : Nat → Nat → Int}, i + d + 1 < n → (∀ b, b < n → M i b = M (i + d + 1) b) → det n M = 0
  | 0, n, i, M, h1, h2 => det_adj h1 h2
  | d + 1, n, i, M, h1, h2 => by
    have z : det n (xM M (i + d + 1) (i + d + 1 + 1)) = - det n M := det_x (by omega) h1 (by omega) fun N hN => det_adj h1 hN
    rw [det_alt d (i := i) (by omega) fun b hb => ?_] at z
    · omega
    · unfold xM
      rw [if_neg (by omega), if_neg (by omega), if_pos rfl]
      exact h2 b hb
theorem det_like {n i j : Nat} {M : Nat → Nat → Int} (hi : i < n) (hj : j < n) (hij : i ≠ j) (h : ∀ b, b < n → M i b = M j b) : det n M = 0 := by
  rcases Nat.lt_or_gt_of_ne hij with z | z
  · have e : i + (j - i - 1) + 1 = j := by omega
    exact det_alt (j - i - 1) (i := i) (by omega) fun b hb => by rw [e]; exact h b hb
  · have e : j + (i - j - 1) + 1 = i := by omega
    exact det_alt (i - j - 1) (i := j) (by omega) fun b hb => by rw [e]; exact (h b hb).symm
theorem det_swap {n i j : Nat} {M : Nat → Nat → Int} (hi : i < n) (hj : j < n) (hij : i ≠ j) : det n (xM M i j) = - det n M := det_x hi hj hij fun N hN => det_like hi hj hij hN
/-- a row times a number, and another row times a number -/
theorem det_row {n i j : Nat} {M N : Nat → Nat → Int} {s t : Int} (hi : i < n) (hj : j < n) (hij : i ≠ j) (h1 : ∀ a b, a < n → b < n → a ≠ i → N a b = M a b) (h2 : ∀ b, b < n → N i b = s * M i b + t * M j b) : det n N = s * det n M := by
  have e : det n N = s * det n M + t * det n (rwM M i fun b => M j b) := det_lin (r := i) hi (fun a b ha hb z => (h1 a b ha hb z).symm) (fun a b ha hb z => by rw [rwM_ne z, h1 a b ha hb z]) fun b hb => by rw [h2 b hb, rwM_at]
  have z : det n (rwM M i fun b => M j b) = 0 := det_like hi hj hij fun b _ => by rw [rwM_at, rwM_ne (fun z => hij z.symm)]
  rw [e, z, Int.mul_zero, Int.add_zero]
theorem det_scale {n i : Nat} {M N : Nat → Nat → Int} {s : Int} (hi : i < n) (h1 : ∀ a b, a < n → b < n → a ≠ i → N a b = M a b) (h2 : ∀ b, b < n → N i b = s * M i b) : det n N = s * det n M := by
  have e : det n N = s * det n M + 0 * det n M := det_lin (r := i) hi (fun a b ha hb z => (h1 a b ha hb z).symm) (fun a b ha hb z => (h1 a b ha hb z).symm) fun b hb => by rw [h2 b hb]; omega
  rw [e]
  omega
/-- the first column is nought but at its head -/
theorem det_first {n : Nat} {M : Nat → Nat → Int} (h : ∀ i, i < n → M (i + 1) 0 = 0) : det (n + 1) M = M 0 0 * det n fun a b => M (a + 1) (b + 1) := by
  show Sg (n + 1) (fun i => sgn i * M i 0 * det n (fun a b => M (sk i a) (b + 1))) = _
  rw [Sg_one (r := 0) (by omega) fun i hi hn => ?_]
  · show 1 * M 0 0 * det n (fun a b => M (sk 0 a) (b + 1)) = _
    rw [Int.one_mul]
    rfl
  · obtain ⟨k, rfl⟩ : ∃ k, i = k + 1 := ⟨i - 1, by omega⟩
    rw [h k (by omega), Int.mul_zero, Int.zero_mul]
/-- many rows changed by the first: those of p times s -/
def cntP (p : Nat → Bool) : Nat → Nat
  | 0 => 0
  | n + 1 => cntP p n + if p n then 1 else 0
theorem det_rows {n : Nat} {M : Nat → Nat → Int} {s : Int} {p : Nat → Bool} {t : Nat → Int} : ∀ (m : Nat), m ≤ n → det (n + 1) (fun a b => if 0 < a ∧ a ≤ m ∧ p (a - 1) = true then s * M a b + t a * M 0 b else M a b) = s ^ cntP p m * det (n + 1) M
  | 0, _ => by
    rw [show cntP p 0 = 0 from rfl, Int.pow_zero, Int.one_mul]
    exact det_congr fun a b _ _ => if_neg (by omega)
  | m + 1, h => by
    have ih := det_rows (n := n) (M := M) (s := s) (p := p) (t := t) m (by omega)
    unfold cntP
    by_cases c : p m = true
    · rw [if_pos c, Int.pow_succ, Int.mul_comm (s ^ _) s, Int.mul_assoc, ← ih]
      refine det_row (i := m + 1) (j := 0) (t := t (m + 1)) (by omega) (by omega) (by omega) (fun a b _ _ ha => ?_) (fun b _ => ?_)
      · by_cases q : 0 < a ∧ a ≤ m ∧ p (a - 1) = true
        · rw [if_pos q, if_pos ⟨q.1, by omega, q.2.2⟩]
        · rw [if_neg q, if_neg (fun z => q ⟨z.1, by omega, z.2.2⟩)]
      · rw [if_pos ⟨by omega, by omega, c⟩, if_neg (show ¬ (0 < m + 1 ∧ m + 1 ≤ m ∧ p (m + 1 - 1) = true) by omega), if_neg (show ¬ (0 < 0 ∧ 0 ≤ m ∧ p (0 - 1) = true) by omega)]
    · rw [if_neg c]
      show _ = s ^ cntP p m * det (n + 1) M
      rw [← ih]
      refine det_congr fun a b _ _ => ?_
      by_cases q : 0 < a ∧ a ≤ m ∧ p (a - 1) = true
      · rw [if_pos q, if_pos ⟨q.1, by omega, q.2.2⟩]
      · rw [if_neg q, if_neg fun z => ?_]
        by_cases e : a = m + 1
        · subst e
          exact c z.2.2
        · exact q ⟨z.1, by omega, z.2.2⟩
theorem cntP_all : ∀ n : Nat, cntP (fun _ => true) n = n
  | 0 => rfl
  | n + 1 => by unfold cntP; rw [cntP_all n]; rfl
/-- all rows below freed of the first column (Chio) -/
theorem det_chio {n : Nat} {M : Nat → Nat → Int} (h : M 0 0 ≠ 0) : M 0 0 ^ n * det (n + 1) M = M 0 0 * det n fun a b => M 0 0 * M (a + 1) (b + 1) - M (a + 1) 0 * M 0 (b + 1) := by
  have e := det_rows (n := n) (M := M) (s := M 0 0) (p := fun _ => true) (t := fun a => - M a 0) n (Nat.le_refl n)
  rw [cntP_all] at e
  rw [← e, det_first fun i hi => ?_]
  · congr 1
    refine det_congr fun a b ha hb => ?_
    show (if 0 < a + 1 ∧ a + 1 ≤ n ∧ true = true then M 0 0 * M (a + 1) (b + 1) + - M (a + 1) 0 * M 0 (b + 1) else _) = _
    rw [if_pos ⟨by omega, by omega, rfl⟩]
    grind
  · show (if 0 < i + 1 ∧ i + 1 ≤ n ∧ true = true then M 0 0 * M (i + 1) 0 + - M (i + 1) 0 * M 0 0 else _) = 0
    rw [if_pos ⟨by omega, by omega, rfl⟩]
    grind
/-- a column of noughts at the head -/
theorem det_col0 {n : Nat} {M : Nat → Nat → Int} (h : ∀ i, i < n + 1 → M i 0 = 0) : det (n + 1) M = 0 := by
  unfold det
  exact Sg_zero fun i hi => by rw [h i hi, Int.mul_zero, Int.zero_mul]

end M
namespace M
/-! worths of tables: by the first row's parts, turned, of products -/
def detR : Nat → (Nat → Nat → Int) → Int
  | 0, _ => 1
  | n + 1, M => Sg (n + 1) fun j => sgn j * M 0 j * detR n (fun a b => M (a + 1) (sk j b))
theorem det_succ {n : Nat} {M : Nat → Nat → Int} : det (n + 1) M = Sg (n + 1) fun i => sgn i * M i 0 * det n (fun a b => M (sk i a) (b + 1)) := rfl
theorem detR_succ {n : Nat} {M : Nat → Nat → Int} : detR (n + 1) M = Sg (n + 1) fun j => sgn j * M 0 j * detR n (fun a b => M (a + 1) (sk j b)) := rfl
theorem detR_turn : ∀ {n : Nat} {M : Nat → Nat → Int}, detR n M = det n fun a b => M b a
  | 0, _ => rfl
  | n + 1, M => by
    unfold detR det
    exact Sg_congr fun i _ => by rw [detR_turn (n := n)]
theorem detR_det : ∀ (n : Nat) (M : Nat → Nat → Int), detR n M = det n M ∧ detR (n + 1) M = det (n + 1) M
  | 0, M => ⟨rfl, by unfold detR det Sg Sg detR det; rfl⟩
  | n + 1, M => by
    refine ⟨(detR_det n M).2, ?_⟩
    have ih1 := fun M => (detR_det n M).1
    have ih2 := fun M => (detR_det n M).2
    show Sg (n + 1 + 1) (fun j => sgn j * M 0 j * detR (n + 1) (fun a b => M (a + 1) (sk j b))) = Sg (n + 1 + 1) (fun i => sgn i * M i 0 * det (n + 1) (fun a b => M (sk i a) (b + 1)))
    refine (Sg_head (n := n + 1)).trans (Eq.trans ?_ (Sg_head (n := n + 1)).symm)
    have h0 : sgn 0 * M 0 0 * detR (n + 1) (fun a b => M (a + 1) (sk 0 b)) = sgn 0 * M 0 0 * det (n + 1) (fun a b => M (sk 0 a) (b + 1)) := by
      rw [ih2]
      rfl
    refine congr (congrArg _ h0) ?_
    have l : ∀ j, sgn (j + 1) * M 0 (j + 1) * detR (n + 1) (fun a b => M (a + 1) (sk (j + 1) b)) = Sg (n + 1) fun i => sgn (j + 1) * M 0 (j + 1) * (sgn i * M (i + 1) 0 * det n fun a b => M (sk i a + 1) (sk j b + 1)) := fun j => by
      rw [ih2, det_succ, Sg_mul]
      refine Sg_congr fun i _ => ?_
      show sgn (j + 1) * M 0 (j + 1) * (sgn i * M (i + 1) (sk (j + 1) 0) * det n fun a b => M (sk i a + 1) (sk (j + 1) (b + 1))) = _
      rw [sk_z, det_congr (n := n) (M := fun a b => M (sk i a + 1) (sk (j + 1) (b + 1))) (N := fun a b => M (sk i a + 1) (sk j b + 1)) fun a b _ _ => by rw [sk_ss]]
    have r : ∀ i, sgn (i + 1) * M (i + 1) 0 * det (n + 1) (fun a b => M (sk (i + 1) a) (b + 1)) = Sg (n + 1) fun j => sgn (i + 1) * M (i + 1) 0 * (sgn j * M 0 (j + 1) * det n fun a b => M (sk i a + 1) (sk j b + 1)) := fun i => by
      rw [← ih2, detR_succ, Sg_mul]
      refine Sg_congr fun j _ => ?_
      show sgn (i + 1) * M (i + 1) 0 * (sgn j * M (sk (i + 1) 0) (j + 1) * detR n fun a b => M (sk (i + 1) (a + 1)) (sk j b + 1)) = _
      rw [sk_z, ih1, det_congr (n := n) (M := fun a b => M (sk (i + 1) (a + 1)) (sk j b + 1)) (N := fun a b => M (sk i a + 1) (sk j b + 1)) fun a b _ _ => by rw [sk_ss]]
    refine (Sg_congr fun j _ => l j).trans (Eq.trans ?_ (Sg_congr fun i _ => r i).symm)
    rw [Sg_comm]
    refine Sg_congr fun i _ => Sg_congr fun j _ => ?_
    rw [sgn_succ, sgn_succ]
    grind
theorem det_turn {n : Nat} {M : Nat → Nat → Int} : (det n fun a b => M b a) = det n M := by
  rw [← detR_turn, (detR_det n M).1]
theorem det_row0 {n : Nat} {M : Nat → Nat → Int} : det (n + 1) M = Sg (n + 1) fun j => sgn j * M 0 j * det n (fun a b => M (a + 1) (sk j b)) := by
  rw [← (detR_det n M).2]
  unfold detR
  exact Sg_congr fun j _ => by rw [(detR_det n _).1]
/-- the first row is nought but at its head -/
theorem det_firstR {n : Nat} {M : Nat → Nat → Int} (h : ∀ j, j < n → M 0 (j + 1) = 0) : det (n + 1) M = M 0 0 * det n fun a b => M (a + 1) (b + 1) := by
  rw [← det_turn, det_first (M := fun a b => M b a) h]
  congr 1
  exact det_turn (M := fun a b => M (a + 1) (b + 1))
/-! products -/
def mulD (n : Nat) (A B : Nat → Nat → Int) : Nat → Nat → Int := fun a b => Sg n fun k => A a k * B k b
/-- the table of A and nought above X and B -/
theorem det_blocks {m : Nat} {B : Nat → Nat → Int} : ∀ {n : Nat} {T A : Nat → Nat → Int}, (∀ a b, a < n → b < n → T a b = A a b) → (∀ a b, a < n → b < m → T a (n + b) = 0) → (∀ a b, a < m → b < m → T (n + a) (n + b) = B a b) → det (n + m) T = det n A * det m B
  | 0, T, A, h1, h2, h3 => by
    rw [Nat.zero_add]
    show det m T = 1 * det m B
    rw [Int.one_mul]
    exact det_congr fun a b ha hb => by
      have := h3 a b ha hb
      rwa [Nat.zero_add, Nat.zero_add] at this
  | n + 1, T, A, h1, h2, h3 => by
    rw [show n + 1 + m = n + m + 1 by omega, det_row0, det_row0 (n := n)]
    have sp : Sg (n + m + 1) (fun j => sgn j * T 0 j * det (n + m) (fun a b => T (a + 1) (sk j b))) = Sg (n + 1) (fun j => sgn j * T 0 j * det (n + m) (fun a b => T (a + 1) (sk j b))) := by
      have cut : ∀ (f : Nat → Int) (p q : Nat), (∀ j, p ≤ j → j < p + q → f j = 0) → Sg (p + q) f = Sg p f := fun f p q => by
        induction q with
        | zero => exact fun _ => rfl
        | succ q ih =>
          intro h
          show Sg (p + q) f + f (p + q) = _
          rw [ih fun j a b => h j a (by omega), h (p + q) (by omega) (by omega), Int.add_zero]
      rw [show n + m + 1 = n + 1 + m by omega]
      refine cut _ _ _ fun j a b => ?_
      have := h2 0 (j - (n + 1)) (by omega) (by omega)
      rw [show n + 1 + (j - (n + 1)) = j by omega] at this
      rw [this, Int.mul_zero, Int.zero_mul]
    rw [sp, Int.mul_comm, Sg_mul]
    refine Sg_congr fun j hj => ?_
    rw [h1 0 j (by omega) hj, det_blocks (n := n) (B := B) (A := fun a b => A (a + 1) (sk j b)) (fun a b ha hb => h1 _ _ (by omega) (sk_ub hb)) (fun a b ha hb => ?_) (fun a b ha hb => ?_)]
    · grind
    · have := h2 (a + 1) b (by omega) hb
      rwa [sk_ge (by omega), show n + b + 1 = n + 1 + b by omega]
    · have := h3 a b ha hb
      rw [sk_ge (by omega), show n + b + 1 = n + 1 + b by omega, show n + a + 1 = n + 1 + a by omega]
      exact this
/-- to the rows of p many rows of others are added -/
theorem det_addRows {N : Nat} {M : Nat → Nat → Int} {i : Nat} {c : Nat → Int} {r : Nat → Nat} (hi : i < N) : ∀ (m : Nat), (∀ k, k < m → r k < N ∧ r k ≠ i) → det N (fun a b => if a = i then M a b + Sg m (fun k => c k * M (r k) b) else M a b) = det N M
  | 0, _ => det_congr fun a b _ _ => by
    unfold Sg
    split
    · rw [Int.add_zero]
    · rfl
  | m + 1, h => by
    rw [← det_addRows (M := M) (i := i) (c := c) (r := r) hi m fun k hk => h k (by omega), ← Int.one_mul (det N fun a b => if a = i then M a b + Sg m (fun k => c k * M (r k) b) else M a b)]
    have hm := h m (by omega)
    refine det_row (i := i) (j := r m) (t := c m) hi hm.1 (fun z => hm.2 z.symm) (fun a b _ _ ha => ?_) (fun b _ => ?_)
    · rw [if_neg ha, if_neg ha]
    · rw [if_pos rfl, if_pos rfl, if_neg hm.2]
      show M i b + (Sg m _ + c m * M (r m) b) = _
      omega
/-- many rows so -/
theorem det_addAll {N m : Nat} {M : Nat → Nat → Int} {c : Nat → Nat → Int} {r : Nat → Nat} : ∀ (p : Nat), p ≤ N → (∀ k, k < m → r k < N ∧ p ≤ r k) → det N (fun a b => if a < p then M a b + Sg m (fun k => c a k * M (r k) b) else M a b) = det N M
  | 0, _, _ => det_congr fun a b _ _ => if_neg (by omega)
  | p + 1, hp, h => by
    have e := det_addRows (M := fun a b => if a < p then M a b + Sg m (fun k => c a k * M (r k) b) else M a b) (i := p) (c := c p) (r := r) (N := N) (by omega) m fun k hk => ⟨(h k hk).1, by have := (h k hk).2; omega⟩
    refine Eq.trans ?_ (e.trans (det_addAll (M := M) (c := c) (r := r) p (by omega) fun k hk => ⟨(h k hk).1, by have := (h k hk).2; omega⟩))
    refine det_congr fun a b _ _ => ?_
    by_cases e : a = p
    · subst e
      rw [if_pos (by omega), if_pos rfl, if_neg (by omega)]
      congr 1
      refine Sg_congr fun k hk => ?_
      have := (h k hk).2
      rw [if_neg (by omega)]
    · rw [if_neg e]
      by_cases q : a < p
      · rw [if_pos (by omega), if_pos q]
      · rw [if_neg (by omega), if_neg q]
/-- nought and C above less 1 along the middle and whatever -/
theorem det_corner {n : Nat} {C : Nat → Nat → Int} : ∀ {m : Nat} {T : Nat → Nat → Int}, (∀ a b, a < n → b < m → T a b = 0) → (∀ a b, a < n → b < n → T a (m + b) = C a b) → (∀ a b, a < m → b < m → T (n + a) b = if a = b then -1 else 0) → det (m + n) T = sgn (m * (n + 1)) * det n C
  | 0, T, h1, h2, h3 => by
    rw [Nat.zero_add, Nat.zero_mul, show sgn 0 = 1 from rfl, Int.one_mul]
    exact det_congr fun a b ha hb => by
      have := h2 a b ha hb
      rwa [Nat.zero_add] at this
  | m + 1, T, h1, h2, h3 => by
    rw [show m + 1 + n = m + n + 1 by omega]
    show Sg (m + n + 1) (fun i => sgn i * T i 0 * det (m + n) (fun a b => T (sk i a) (b + 1))) = _
    rw [Sg_one (r := n) (by omega) fun i hi hn => ?_]
    · have e := h3 0 0 (by omega) (by omega)
      rw [Nat.add_zero, if_pos rfl] at e
      rw [e, det_corner (m := m) (n := n) (C := C) (fun a b ha hb => ?_) (fun a b ha hb => ?_) (fun a b ha hb => ?_), Nat.succ_mul, sgn_add, sgn_succ]
      · grind
      · rw [sk_lt ha]
        exact h1 a (b + 1) ha (by omega)
      · rw [sk_lt ha, show m + b + 1 = m + 1 + b by omega]
        exact h2 a b ha hb
      · rw [sk_ge (by omega), show n + a + 1 = n + (a + 1) by omega, h3 (a + 1) (b + 1) (by omega) (by omega)]
        by_cases z : a = b
        · rw [if_pos z, if_pos (by omega)]
        · rw [if_neg z, if_neg (by omega)]
    · by_cases c : i < n
      · rw [h1 i 0 c (by omega), Int.mul_zero, Int.zero_mul]
      · have e := h3 (i - n) 0 (by omega) (by omega)
        rw [show n + (i - n) = i by omega, if_neg (by omega)] at e
        rw [e, Int.mul_zero, Int.zero_mul]
theorem sgn_even {k : Nat} (h : k % 2 = 0) : sgn k = 1 := if_pos h
theorem det_mul {n : Nat} {A B : Nat → Nat → Int} : det n (mulD n A B) = det n A * det n B := by
  -- A and nought above less 1 and B
  let T : Nat → Nat → Int := fun a b => if a < n then (if b < n then A a b else 0) else (if b < n then (if a - n = b then -1 else 0) else B (a - n) (b - n))
  have e1 : det (n + n) T = det n A * det n B := det_blocks (fun a b ha hb => by show (if a < n then _ else _) = _; rw [if_pos ha, if_pos hb]) (fun a b ha hb => by show (if a < n then _ else _) = _; rw [if_pos ha, if_neg (by omega)])
    (fun a b ha hb => by show (if n + a < n then _ else _) = _; rw [if_neg (by omega), if_neg (by omega), show n + a - n = a by omega, show n + b - n = b by omega])
  have e2 := det_addAll (N := n + n) (m := n) (M := T) (c := fun a k => A a k) (r := fun k => n + k) n (by omega) fun k hk => ⟨by omega, by omega⟩
  rw [← e1, ← e2]
  rw [det_corner (n := n) (m := n) (C := mulD n A B) (fun a b ha hb => ?_) (fun a b ha hb => ?_) (fun a b ha hb => ?_)]
  · rw [sgn_even, Int.one_mul]
    rcases Nat.mod_two_eq_zero_or_one n with z | z
    · rw [Nat.mul_mod, z, Nat.zero_mul]
    · rw [Nat.mul_mod, Nat.add_mod, z]
  · rw [if_pos ha]
    show (if a < n then _ else _) + Sg n (fun k => A a k * (if n + k < n then _ else _)) = 0
    rw [if_pos ha, if_pos hb, Sg_one (r := b) hb fun k hk hn => ?_]
    · rw [if_neg (by omega), if_pos hb, if_pos (by omega)]
      omega
    · rw [if_neg (by omega), if_pos hb, if_neg (by omega), Int.mul_zero]
  · rw [if_pos ha]
    show (if a < n then _ else _) + Sg n (fun k => A a k * (if n + k < n then _ else _)) = _
    rw [if_pos ha, if_neg (by omega), Int.zero_add]
    refine Sg_congr fun k hk => ?_
    rw [if_neg (by omega), if_neg (by omega), show n + k - n = k by omega, show n + b - n = b by omega]
  · rw [if_neg (by omega)]
    show (if n + a < n then _ else _) = _
    rw [if_neg (by omega), if_pos hb, show n + a - n = a by omega]
/-! rows and columns times numbers -/
def prodF (f : Nat → Int) : Nat → Int
  | 0 => 1
  | n + 1 => prodF f n * f n
theorem det_mulRows {n : Nat} {M : Nat → Nat → Int} {f : Nat → Int} : det n (fun a b => f a * M a b) = prodF f n * det n M := by
  have go : ∀ m, m ≤ n → det n (fun a b => if a < m then f a * M a b else M a b) = prodF f m * det n M := fun m => by
    induction m with
    | zero =>
      intro _
      show _ = 1 * _
      rw [Int.one_mul]
      exact det_congr fun a b _ _ => if_neg (by omega)
    | succ m ih =>
      intro h
      have e := det_scale (n := n) (i := m) (M := fun a b => if a < m then f a * M a b else M a b) (N := fun a b => if a < m + 1 then f a * M a b else M a b) (s := f m) (by omega) (fun a b _ _ ha => ?_) (fun b _ => ?_)
      · rw [e, ih (by omega)]
        show _ = prodF f m * f m * _
        grind
      · by_cases q : a < m
        · rw [if_pos q, if_pos (by omega)]
        · rw [if_neg q, if_neg (by omega)]
      · rw [if_pos (by omega), if_neg (by omega)]
  rw [← go n (Nat.le_refl n)]
  exact det_congr fun a b ha _ => by rw [if_pos ha]
theorem det_mulCols {n : Nat} {M : Nat → Nat → Int} {f : Nat → Int} : det n (fun a b => M a b * f b) = prodF f n * det n M := by
  rw [← det_turn, ← det_turn (M := M), ← det_mulRows]
  exact det_congr fun a b _ _ => Int.mul_comm _ _
theorem det_low : ∀ {n : Nat} {M : Nat → Nat → Int}, (∀ a b, a < n → b < n → a < b → M a b = 0) → det n M = prodF (fun i => M i i) n
  | 0, _, _ => rfl
  | n + 1, M, h => by
    have sh : ∀ (f : Nat → Int) m, prodF f (m + 1) = f 0 * prodF (fun i => f (i + 1)) m := fun f m => by
      induction m with
      | zero => show 1 * f 0 = f 0 * 1; omega
      | succ m ih =>
        show prodF f (m + 1) * f (m + 1) = f 0 * (prodF (fun i => f (i + 1)) m * f (m + 1))
        rw [ih, Int.mul_assoc]
    rw [det_firstR fun j hj => h 0 (j + 1) (by omega) (by omega) (by omega), det_low (n := n) fun a b ha hb hab => h _ _ (by omega) (by omega) (by omega), sh]

end M
namespace M
/-! worths by rows taken off, in general: every division is even, it comes to det -/
def fac : Nat → Nat
  | 0 => 1
  | n + 1 => (n + 1) * fac n
theorem Sg_abs {f : Nat → Int} {c : Nat} : ∀ {n : Nat}, (∀ i, i < n → (f i).natAbs ≤ c) → (Sg n f).natAbs ≤ n * c
  | 0, _ => by unfold Sg; simp
  | n + 1, h => by
    unfold Sg
    have a := Sg_abs (n := n) fun i hi => h i (by omega)
    have b := h n (by omega)
    rw [Nat.succ_mul]
    omega
theorem sgn_abs (i : Nat) (x : Int) : (sgn i * x).natAbs = x.natAbs := by
  unfold sgn
  split <;> omega
theorem det_abs {C : Nat} : ∀ {n : Nat} {M : Nat → Nat → Int}, (∀ i j, i < n → j < n → (M i j).natAbs ≤ C) → (det n M).natAbs ≤ fac n * C ^ n
  | 0, _, _ => by unfold det fac; simp
  | n + 1, M, h => by
    unfold det fac
    rw [Nat.mul_assoc]
    refine Sg_abs fun i hi => ?_
    rw [Int.mul_assoc, sgn_abs, Int.natAbs_mul]
    have a := h i 0 hi (by omega)
    have b := det_abs (n := n) (M := fun a b => M (sk i a) (b + 1)) fun a b ha hb => h _ _ (sk_ub ha) (by omega)
    calc (M i 0).natAbs * (det n fun a b => M (sk i a) (b + 1)).natAbs ≤ C * (fac n * C ^ n) := Nat.mul_le_mul a b
      _ = fac n * C ^ (n + 1) := by rw [Nat.pow_succ, Nat.mul_left_comm, Nat.mul_comm C]
theorem det_smul {s : Int} : ∀ {n : Nat} {M : Nat → Nat → Int}, (det n fun a b => s * M a b) = s ^ n * det n M
  | 0, _ => by unfold det; simp
  | n + 1, M => by
    unfold det
    rw [Sg_mul]
    refine Sg_congr fun i _ => ?_
    rw [det_smul (n := n) (M := fun a b => M (sk i a) (b + 1)), Int.pow_succ]
    grind
theorem det_one {M : Nat → Nat → Int} : det 1 M = M 0 0 := by
  unfold det; unfold Sg; unfold Sg; unfold det
  show 0 + 1 * M 0 0 * 1 = _
  omega
theorem det_two {M : Nat → Nat → Int} : det 2 M = M 0 0 * M 1 1 - M 1 0 * M 0 1 := by
  show 0 + 1 * M 0 0 * det 1 (fun a b => M (sk 0 a) (b + 1)) + (-1) * M 1 0 * det 1 (fun a b => M (sk 1 a) (b + 1)) = _
  rw [det_one, det_one]
  show 0 + 1 * M 0 0 * M 1 1 + (-1) * M 1 0 * M 0 1 = _
  grind
def W4 : Nat := 1300
def AllW (k n : Nat) (M : Nat → Nat → Int) : Prop := ∀ a b, k ≤ a → k ≤ b → a < n → b < n → (M a b).natAbs < 2 ^ W4
def DW (last : Int) : Prop := last ≠ 0 ∧ last.natAbs < 2 ^ W4
inductive Wx (n : Nat) : Nat → Int → Int → (Nat → Nat → Int) → Int → Prop
  | done {k : Nat} {sign last : Int} {M : Nat → Nat → Int} : k + 1 = n → (M k k).natAbs < 2 ^ W4 → sign.natAbs < 2 → Wx n k sign last M (sign * M k k)
  | zero {k : Nat} {sign last : Int} {M : Nat → Nat → Int} : k + 1 < n → M k k = 0 → (∀ i, k < i → i < n → M i k = 0) → Wx n k sign last M 0
  | swap {k : Nat} {sign last : Int} {M : Nat → Nat → Int} {v : Int} (b : Nat) : k + 1 < n → M k k = 0 → k < b → b < n → M b k ≠ 0 → (∀ i, k < i → i < b → M i k = 0) → AllW k n M → DW last →
      Wx n (k + 1) (0 - sign) (M b k) (stepM (swapM M k b) k last) v → Wx n k sign last M v
  | go {k : Nat} {sign last : Int} {M : Nat → Nat → Int} {v : Int} : k + 1 < n → M k k ≠ 0 → AllW k n M → DW last → Wx n (k + 1) sign (M k k) (stepM M k last) v → Wx n k sign last M v
theorem AllW.swap {k n b : Nat} {M : Nat → Nat → Int} (h : AllW k n M) (hb : k < b) (hn : b < n) : AllW k n (swapM M k b) := by
  intro i j hi hj hin hjn
  unfold swapM
  split
  · exact h b j (by omega) hj hn hjn
  · split
    · exact h k j (Nat.le_refl k) hj (by omega) hjn
    · exact h i j hi hj hin hjn
def ext (k : Nat) (r : Nat → Nat) (a : Nat) : Nat := if a < k then a else r (a - k)
def InvB (n k : Nat) (last : Int) (T A : Nat → Nat → Int) : Prop := ∀ (m : Nat) (r c : Nat → Nat), (∀ a, a < m + 1 → k ≤ r a ∧ r a < n) → (∀ a, a < m + 1 → k ≤ c a ∧ c a < n) →
  det (m + 1) (fun a b => T (r a) (c b)) = last ^ m * det (k + (m + 1)) fun a b => A (ext k r a) (ext k c b)
theorem ext_lt {n k m : Nat} {r : Nat → Nat} (h : ∀ a, a < m → k ≤ r a ∧ r a < n) (hk : k ≤ n) {a : Nat} (ha : a < k + m) : ext k r a < n := by
  unfold ext
  split
  · omega
  · exact (h _ (by omega)).2
theorem fac_mono {C : Nat} (hC : 1 ≤ C) {m n : Nat} (h : m ≤ n) : fac m * C ^ m ≤ fac n * C ^ n := by
  induction n with
  | zero =>
    have : m = 0 := by omega
    rw [this]
    exact Nat.le_refl _
  | succ n ih =>
    by_cases e : m = n + 1
    · rw [e]
      exact Nat.le_refl _
    · refine Nat.le_trans (ih (by omega)) ?_
      show fac n * C ^ n ≤ (n + 1) * fac n * C ^ (n + 1)
      refine Nat.mul_le_mul (Nat.le_mul_of_pos_left _ (by omega)) ?_
      exact Nat.pow_le_pow_right hC (by omega)
theorem wx_inv {n C : Nat} (hB : ∀ m, m ≤ n → fac m * C ^ m < 2 ^ W4) : ∀ (f k : Nat) (sign last : Int) (T A : Nat → Nat → Int), sign.natAbs < 2 → k + f + 1 = n → (∀ i j, i < n → j < n → (A i j).natAbs ≤ C) → DW last → InvB n k last T A → Wx n k sign last T (sign * det n A) := by
  intro f
  induction f with
  | zero =>
    intro k sign last T A hs hk hA hl I
    have e := I 0 (fun _ => k) (fun _ => k) (fun _ _ => by omega) (fun _ _ => by omega)
    have ex : ∀ a, a < k + 1 → ext k (fun _ => k) a = a := fun a ha => by
      unfold ext
      split
      · rfl
      · show k = a
        omega
    rw [det_one, Int.pow_zero, Int.one_mul, det_congr (n := k + (0 + 1)) (N := A) fun i j hi hj => by rw [ex i (by omega), ex j (by omega)]] at e
    have e2 : det n A = T k k := by rw [e, show k + (0 + 1) = n by omega]
    rw [e2]
    refine .done (by omega) ?_ hs
    rw [← e2]
    exact Nat.lt_of_le_of_lt (det_abs hA) (hB n (Nat.le_refl n))
  | succ f ih =>
    intro k sign last T A hs hk hA hl I
    have one : ∀ i j, k ≤ i → i < n → k ≤ j → j < n → T i j = det (k + 1) fun a b => A (ext k (fun _ => i) a) (ext k (fun _ => j) b) := fun i j h1 h2 h3 h4 => by
      have e := I 0 (fun _ => i) (fun _ => j) (fun _ _ => ⟨h1, h2⟩) (fun _ _ => ⟨h3, h4⟩)
      rw [det_one, Int.pow_zero, Int.one_mul] at e
      exact e
    have hS : AllW k n T := fun i j h1 h2 h3 h4 => by
      rw [one i j h1 h3 h2 h4]
      exact Nat.lt_of_le_of_lt (det_abs fun a b ha hb => hA _ _ (ext_lt (m := 1) (fun _ _ => ⟨h1, h3⟩) (by omega) ha) (ext_lt (m := 1) (fun _ _ => ⟨h2, h4⟩) (by omega) hb)) (hB _ (by omega))
    have lp : ∀ m : Nat, last ^ m ≠ 0 := fun m => Int.pow_ne_zero hl.1
    -- one turn whose lead is not nought
    have turn : ∀ (T A : Nat → Nat → Int), T k k ≠ 0 → InvB n k last T A → InvB n (k + 1) (T k k) (stepM T k last) A := by
      intro T A hkk I m r c hr hc
      have ev : ∀ i j, k < i → i < n → k < j → j < n → last * stepM T k last i j = T k k * T i j - T i k * T k j := fun i j h1 h2 h3 h4 => by
        have e := I 1 (fun a => if a = 0 then k else i) (fun a => if a = 0 then k else j) (fun a _ => by
          show k ≤ (if a = 0 then k else i) ∧ (if a = 0 then k else i) < n
          split <;> omega) (fun a _ => by
          show k ≤ (if a = 0 then k else j) ∧ (if a = 0 then k else j) < n
          split <;> omega)
        rw [show (1 : Nat) + 1 = 2 from rfl, det_two, Int.pow_succ, Int.pow_zero, Int.one_mul] at e
        have e : T k k * T i j - T i k * T k j = _ := e
        unfold stepM
        rw [if_pos ⟨h1, h3⟩, show T i j * T k k - T i k * T k j = T k k * T i j - T i k * T k j by rw [Int.mul_comm (T i j)], e, Int.mul_fdiv_cancel_left _ hl.1]
      have ch := det_chio (n := m + 1) (M := fun a b => T (ext 1 (fun _ => k) 0 |> fun _ => if a = 0 then k else r (a - 1)) (if b = 0 then k else c (b - 1))) (by
        show T (if (0 : Nat) = 0 then k else r (0 - 1)) (if (0 : Nat) = 0 then k else c (0 - 1)) ≠ 0
        rw [if_pos rfl, if_pos rfl]
        exact hkk)
      have ch : T k k ^ (m + 1) * det (m + 1 + 1) (fun a b => T (if a = 0 then k else r (a - 1)) (if b = 0 then k else c (b - 1))) = T k k * det (m + 1) fun a b => T k k * T (r a) (c b) - T (r a) k * T k (c b) := ch
      rw [I (m + 1) (fun a => if a = 0 then k else r (a - 1)) (fun a => if a = 0 then k else c (a - 1)) (fun a ha => by
          show k ≤ (if a = 0 then k else r (a - 1)) ∧ (if a = 0 then k else r (a - 1)) < n
          split
          · omega
          · have := hr (a - 1) (by omega)
            omega) (fun a ha => by
          show k ≤ (if a = 0 then k else c (a - 1)) ∧ (if a = 0 then k else c (a - 1)) < n
          split
          · omega
          · have := hc (a - 1) (by omega)
            omega)] at ch
      have e1 : (det (m + 1) fun a b => T k k * T (r a) (c b) - T (r a) k * T k (c b)) = last ^ (m + 1) * det (m + 1) fun a b => stepM T k last (r a) (c b) := by
        rw [← det_smul]
        refine det_congr fun a b ha hb => ?_
        have h1 := hr a ha
        have h2 := hc b hb
        rw [ev (r a) (c b) (by omega) (by omega) (by omega) (by omega)]
      have e2 : (det (k + (m + 1 + 1)) fun a b => A (ext k (fun a => if a = 0 then k else r (a - 1)) a) (ext k (fun a => if a = 0 then k else c (a - 1)) b)) = det (k + 1 + (m + 1)) fun a b => A (ext (k + 1) r a) (ext (k + 1) c b) := by
        rw [show k + (m + 1 + 1) = k + 1 + (m + 1) by omega]
        refine det_congr fun a b _ _ => ?_
        have ex : ∀ (r : Nat → Nat) (a : Nat), ext k (fun a => if a = 0 then k else r (a - 1)) a = ext (k + 1) r a := fun r a => by
          unfold ext
          by_cases h1 : a < k
          · rw [if_pos h1, if_pos (by omega)]
          · rw [if_neg h1]
            show (if a - k = 0 then k else r (a - k - 1)) = _
            by_cases h2 : a = k
            · rw [if_pos (by omega), if_pos (by omega), h2]
            · rw [if_neg (by omega), if_neg (by omega), show a - k - 1 = a - (k + 1) by omega]
        rw [ex, ex]
      rw [e1, e2, Int.pow_succ] at ch
      have kp : T k k ^ m ≠ 0 := Int.pow_ne_zero hkk
      refine Int.eq_of_mul_eq_mul_left (lp (m + 1)) (Int.eq_of_mul_eq_mul_left hkk ?_)
      grind
    by_cases h0 : T k k = 0
    · by_cases hz : ∀ i, k < i → i < n → T i k = 0
      · have e := I (n - k - 1) (fun a => k + a) (fun a => k + a) (fun a ha => by omega) (fun a ha => by omega)
        have ex : ∀ a, ext k (fun a => k + a) a = a := fun a => by
          unfold ext
          split
          · rfl
          · show k + (a - k) = a
            omega
        rw [det_col0 fun i hi => ?_, show k + (n - k - 1 + 1) = n by omega, det_congr (n := n) (N := A) fun i j _ _ => by rw [ex, ex]] at e
        · have : det n A = 0 := by
            rcases Int.mul_eq_zero.mp e.symm with z | z
            · exact absurd z (lp _)
            · exact z
          rw [this, Int.mul_zero]
          exact .zero (by omega) h0 hz
        · show T (k + i) (k + 0) = 0
          rcases Nat.eq_zero_or_pos i with z | z
          · rw [z]; exact h0
          · exact hz _ (by omega) (by omega)
      · have exi : ∃ b, k < b ∧ b < n ∧ T b k ≠ 0 ∧ ∀ i, k < i → i < b → T i k = 0 := by
          obtain ⟨i, hi⟩ := Classical.not_forall.mp hz
          have h1 : k < i := Classical.byContradiction fun z => hi fun h => absurd h z
          have h2 : i < n := Classical.byContradiction fun z => hi fun _ h => absurd h z
          have h3 : T i k ≠ 0 := fun z => hi fun _ _ => z
          clear hi
          induction i using Nat.strongRecOn with
          | _ i ih =>
            by_cases q : ∃ j, k < j ∧ j < i ∧ T j k ≠ 0
            · obtain ⟨j, q1, q2, q3⟩ := q
              exact ih j q2 q1 (by omega) q3
            · exact ⟨i, h1, h2, h3, fun j j1 j2 => Classical.byContradiction fun z => q ⟨j, j1, j2, z⟩⟩
        obtain ⟨b, b1, b2, b3, b4⟩ := exi
        refine .swap b (by omega) h0 b1 b2 b3 b4 hS hl ?_
        have sw : InvB n k last (swapM T k b) (xM A k b) := by
          intro m r c hr hc
          let s : Nat → Nat := fun i => if i = k then b else if i = b then k else i
          have e := I m (fun a => s (r a)) c (fun a ha => by
            have := hr a ha
            show k ≤ (if r a = k then b else if r a = b then k else r a) ∧ (if r a = k then b else if r a = b then k else r a) < n
            split
            · omega
            · split <;> omega) hc
          have l : (det (m + 1) fun a b' => swapM T k b (r a) (c b')) = det (m + 1) fun a b' => T (s (r a)) (c b') := det_congr fun a b' _ _ => by
            show (if r a = k then T b (c b') else if r a = b then T k (c b') else T (r a) (c b')) = T (if r a = k then b else if r a = b then k else r a) (c b')
            split
            · rfl
            · split <;> rfl
          rw [l, e]
          congr 1
          refine det_congr fun a b' _ _ => ?_
          have : ∀ y, xM A k b (ext k r a) y = A (ext k (fun a => s (r a)) a) y := fun y => by
            unfold ext xM
            by_cases h1 : a < k
            · rw [if_pos h1, if_pos h1, if_neg (by omega), if_neg (by omega)]
            · rw [if_neg h1, if_neg h1]
              show _ = A (if r (a - k) = k then b else if r (a - k) = b then k else r (a - k)) y
              split
              · rfl
              · split <;> rfl
          rw [this]
        have skk : swapM T k b k k = T b k := if_pos rfl
        have z := ih (k + 1) (0 - sign) (T b k) (stepM (swapM T k b) k last) (xM A k b) (by omega) (by omega) (fun i j hi hj => ?_) ⟨b3, hS b k (by omega) (Nat.le_refl k) b2 (by omega)⟩ (by
          have q := turn _ _ (by rw [skk]; exact b3) sw
          rw [skk] at q
          exact q)
        · rw [det_swap (by omega) b2 (by omega)] at z
          rwa [show (0 - sign) * - det n A = sign * det n A by grind] at z
        · unfold xM
          split
          · exact hA _ _ b2 hj
          · split
            · exact hA _ _ (by omega) hj
            · exact hA _ _ hi hj
    · exact .go (by omega) h0 hS hl (ih (k + 1) sign (T k k) _ A hs (by omega) hA ⟨h0, hS k k (Nat.le_refl k) (Nat.le_refl k) (by omega) (by omega)⟩ (turn T A h0 I))
theorem wx_det {n C : Nat} (n1 : 1 ≤ n) (hB : ∀ m, m ≤ n → fac m * C ^ m < 2 ^ W4) {M : Nat → Nat → Int} (hM : ∀ i j, i < n → j < n → (M i j).natAbs ≤ C) : Wx n 0 1 1 M (det n M) := by
  have := wx_inv hB (n - 1) 0 1 1 M M (by decide) (by omega) hM ⟨by decide, by decide +kernel⟩ fun m r c _ _ => by
    rw [Int.one_pow, Int.one_mul, Nat.zero_add]
    rfl
  rwa [Int.one_mul] at this
/-! the law's own turns -/
def BB : Nat := 3000000
def SmB (x : Int) : Prop := x.natAbs < 2 ^ BB
def AllB (k n : Nat) (M : Nat → Nat → Int) : Prop := ∀ a b, k ≤ a → a < n → b < n → SmB (M a b)
inductive Lx (n : Nat) : Nat → Int → Int → (Nat → Nat → Int) → Int → Prop
  | done {above below : Int} {M : Nat → Nat → Int} : below ≠ 0 → above.natAbs ≤ below.natAbs * 2 ^ W4 → Lx n n above below M (above.fdiv below)
  | zero {k : Nat} {above below : Int} {M : Nat → Nat → Int} : k < n → (∀ i, k ≤ i → i < n → M i k = 0) → Lx n k above below M 0
  | here {k : Nat} {above below : Int} {M : Nat → Nat → Int} {v : Int} : k < n → M k k ≠ 0 → AllB k n M → SmB above → (∀ i, i ≤ n → SmB (below * M k k ^ cntW M k i)) → Lx n (k + 1) (above * M k k) (below * M k k ^ cntW M k (n - k - 1)) (elimW M k) v → Lx n k above below M v
  | swap {k : Nat} {above below : Int} {M : Nat → Nat → Int} {v : Int} (b : Nat) : k < n → M k k = 0 → k < b → b < n → M b k ≠ 0 → (∀ i, k ≤ i → i < b → M i k = 0) → AllB k n M → SmB above → (∀ i, i ≤ n → SmB (below * M b k ^ cntW (swapM M k b) k i)) →
      Lx n (k + 1) ((0 - above) * M b k) (below * M b k ^ cntW (swapM M k b) k (n - k - 1)) (elimW (swapM M k b) k) v → Lx n k above below M v
theorem AllB.swap {k n b : Nat} {M : Nat → Nat → Int} (h : AllB k n M) (hb : k < b) (hn : b < n) : AllB k n (swapM M k b) := by
  intro i j hi hin hjn
  unfold swapM
  split
  · exact h b j (by omega) hn hjn
  · split
    · exact h k j (Nat.le_refl k) (by omega) hjn
    · exact h i j hi hin hjn
theorem cntW_P {M : Nat → Nat → Int} {k : Nat} : ∀ i, cntW M k i = cntP (fun a => !decide (M (k + 1 + a) k = 0)) i
  | 0 => rfl
  | i + 1 => by
    unfold cntP
    rw [← cntW_P i]
    unfold cntW
    rw [List.range_succ, List.filter_append, List.length_append, List.filter_cons]
    split <;> simp
theorem cntW_le {M : Nat → Nat → Int} {k i : Nat} : cntW M k i ≤ i := by
  unfold cntW
  exact Nat.le_trans (List.length_filter_le _ _) (by rw [List.length_range]; exact Nat.le_refl i)
def trl (k : Nat) (M : Nat → Nat → Int) : Nat → Nat → Int := fun a b => M (k + a) (k + b)
theorem trl_step {m k : Nat} {M : Nat → Nat → Int} (_h : M k k ≠ 0) : M k k ^ cntW M k m * det (m + 1) (trl k M) = M k k * det m (trl (k + 1) (elimW M k)) := by
  have e := det_rows (n := m) (M := trl k M) (s := M k k) (p := fun a => !decide (M (k + 1 + a) k = 0)) (t := fun a => - M (k + a) k) m (Nat.le_refl m)
  rw [cntW_P, ← e, det_first fun i hi => ?_]
  · congr 1
    refine det_congr fun a b ha hb => ?_
    show (if 0 < a + 1 ∧ a + 1 ≤ m ∧ (!decide (M (k + 1 + a) k = 0)) = true then M k k * M (k + (a + 1)) (k + (b + 1)) + - M (k + (a + 1)) k * M k (k + (b + 1)) else M (k + (a + 1)) (k + (b + 1))) =
      if k < k + 1 + a ∧ M (k + 1 + a) k ≠ 0 then M k k * M (k + 1 + a) (k + 1 + b) - M (k + 1 + a) k * M k (k + 1 + b) else M (k + 1 + a) (k + 1 + b)
    rw [show k + (a + 1) = k + 1 + a by omega, show k + (b + 1) = k + 1 + b by omega]
    by_cases c : M (k + 1 + a) k = 0
    · rw [if_neg fun z => by simp [c] at z, if_neg fun z => z.2 c]
    · rw [if_pos ⟨by omega, by omega, by simp [c]⟩, if_pos ⟨by omega, c⟩]
      grind
  · show (if 0 < i + 1 ∧ i + 1 ≤ m ∧ (!decide (M (k + 1 + i) k = 0)) = true then M k k * M (k + (i + 1)) (k + 0) + - M (k + (i + 1)) k * M k (k + 0) else M (k + (i + 1)) (k + 0)) = 0
    rw [show k + (i + 1) = k + 1 + i by omega]
    by_cases c : M (k + 1 + i) k = 0
    · rw [if_neg fun z => by simp [c] at z]
      exact c
    · rw [if_pos ⟨by omega, by omega, by simp [c]⟩, Nat.add_zero]
      grind
theorem pow2_lt {x y : Int} {a b : Nat} (hx : x.natAbs < 2 ^ a) (hy : y.natAbs < 2 ^ b) : (x * y).natAbs < 2 ^ (a + b) := by
  rw [Int.natAbs_mul, Nat.pow_add]
  exact Nat.mul_lt_mul_of_lt_of_le hx (Nat.le_of_lt hy) (Nat.two_pow_pos b)
theorem pow2_pow {x : Int} {a : Nat} (hx : x.natAbs < 2 ^ a) : ∀ i, (x ^ i).natAbs ≤ 2 ^ (i * a)
  | 0 => by simp
  | i + 1 => by
    rw [Int.pow_succ, Int.natAbs_mul, Nat.succ_mul, Nat.pow_add]
    exact Nat.mul_le_mul (pow2_pow hx i) (Nat.le_of_lt hx)
theorem smB_of {x : Int} {a : Nat} (h : x.natAbs < 2 ^ a) (ha : a ≤ BB) : SmB x := Nat.lt_of_lt_of_le h (Nat.pow_le_pow_right (by decide) ha)
theorem lx_inv {n E : Nat} (hE : 1 ≤ E) (hn : n * (2 ^ n * E) ≤ BB) {D : Int} (hD : D.natAbs < 2 ^ W4) : ∀ (f k : Nat) (above below : Int) (T : Nat → Nat → Int), k + f = n → (∀ i j, k ≤ i → i < n → j < n → (T i j).natAbs < 2 ^ (2 ^ k * E - 1)) → above.natAbs < 2 ^ (2 ^ k * E) → below.natAbs < 2 ^ (n * (2 ^ k * E)) → below ≠ 0 →
    D * below = above * det f (trl k T) → Lx n k above below T D := by
  intro f
  induction f with
  | zero =>
    intro k above below T hk hT ha hb h0 e
    have e : D * below = above * 1 := e
    rw [Int.mul_one] at e
    have hk : k = n := by omega
    subst hk
    have : D = above.fdiv below := by rw [← e, Int.mul_fdiv_cancel _ h0]
    rw [this]
    refine .done h0 ?_
    rw [← e, Int.natAbs_mul, Nat.mul_comm]
    exact Nat.mul_le_mul_left _ (Nat.le_of_lt hD)
  | succ f ih =>
    intro k above below T hk hT ha hb h0 e
    have k2 : 2 ^ (k + 1) = 2 * 2 ^ k := by rw [Nat.pow_succ, Nat.mul_comm]
    have kn : 2 ^ (k + 1) ≤ 2 ^ n := Nat.pow_le_pow_right (by decide) (by omega)
    have kp : 1 ≤ 2 ^ k := Nat.two_pow_pos k
    have ke : 1 ≤ 2 ^ k * E := Nat.mul_le_mul kp hE
    have ne : 2 ^ (k + 1) * E ≤ 2 ^ n * E := Nat.mul_le_mul_right E kn
    have ne2 : 2 ^ (k + 1) * E = 2 * (2 ^ k * E) := by rw [k2, Nat.mul_assoc]
    have n1 : 2 ^ n * E ≤ n * (2 ^ n * E) := Nat.le_mul_of_pos_left _ (by omega)
    have n2 : n * (2 ^ (k + 1) * E) ≤ n * (2 ^ n * E) := Nat.mul_le_mul_left n ne
    have n3 : n * (2 ^ (k + 1) * E) = 2 * (n * (2 ^ k * E)) := by rw [ne2, Nat.mul_left_comm]
    -- one turn whose lead is not nought
    have turn : ∀ (above : Int) (T : Nat → Nat → Int), T k k ≠ 0 → (∀ i j, k ≤ i → i < n → j < n → (T i j).natAbs < 2 ^ (2 ^ k * E - 1)) → above.natAbs < 2 ^ (2 ^ k * E) → D * below = above * det (f + 1) (trl k T) →
        (∀ i, i ≤ n → SmB (below * T k k ^ cntW T k i)) ∧ Lx n (k + 1) (above * T k k) (below * T k k ^ cntW T k (n - k - 1)) (elimW T k) D := by
      intro above T hkk hT ha e
      have hl := hT k k (Nat.le_refl k) (by omega) (by omega)
      have bl : ∀ i, i ≤ n → (below * T k k ^ cntW T k i).natAbs < 2 ^ (n * (2 ^ (k + 1) * E)) := fun i hi => by
        rw [Int.natAbs_mul, n3, Nat.two_mul, Nat.pow_add]
        have p := pow2_pow hl (cntW T k i)
        have q : 2 ^ (cntW T k i * (2 ^ k * E - 1)) ≤ 2 ^ (n * (2 ^ k * E)) := Nat.pow_le_pow_right (by decide) (Nat.mul_le_mul (Nat.le_trans cntW_le hi) (by omega))
        exact Nat.mul_lt_mul_of_lt_of_le hb (Nat.le_trans p q) (Nat.two_pow_pos _)
      refine ⟨fun i hi => smB_of (bl i hi) (by omega), ih (k + 1) _ _ _ (by omega) (fun i j h1 h3 h4 => ?_) ?_ (bl _ (by omega)) (Int.mul_ne_zero h0 (Int.pow_ne_zero hkk)) ?_⟩
      · unfold elimW
        have b1 := hT i j (by omega) h3 h4
        by_cases c : k < i ∧ T i k ≠ 0
        · rw [if_pos c]
          have x1 := pow2_lt hl b1
          have x2 := pow2_lt (hT i k (by omega) h3 (by omega)) (hT k j (Nat.le_refl k) (by omega) h4)
          have ex : 2 ^ (k + 1) * E - 1 = (2 ^ k * E - 1 + (2 ^ k * E - 1)) + 1 := by omega
          rw [ex, Nat.pow_succ]
          omega
        · rw [if_neg c]
          exact Nat.lt_of_lt_of_le b1 (Nat.pow_le_pow_right (by decide) (by omega))
      · have x := pow2_lt ha hl
        exact Nat.lt_of_lt_of_le x (Nat.pow_le_pow_right (by decide) (by omega))
      · rw [show n - k - 1 = f by omega]
        have t := trl_step (m := f) hkk
        rw [Int.mul_assoc, ← t, ← Int.mul_assoc, e]
        grind
    have hS : AllB k n T := fun i j h1 h3 h4 => smB_of (hT i j h1 h3 h4) (by omega)
    have sa : SmB above := smB_of ha (by omega)
    by_cases h1 : T k k = 0
    · by_cases hz : ∀ i, k ≤ i → i < n → T i k = 0
      · rw [det_col0 fun i hi => hz (k + i) (by omega) (by omega), Int.mul_zero] at e
        have : D = 0 := (Int.mul_eq_zero.mp e).elim id fun z => absurd z h0
        rw [this]
        exact .zero (by omega) hz
      · have exi : ∃ b, k < b ∧ b < n ∧ T b k ≠ 0 ∧ ∀ i, k ≤ i → i < b → T i k = 0 := by
          obtain ⟨i, hi⟩ := Classical.not_forall.mp hz
          have h1' : k ≤ i := Classical.byContradiction fun z => hi fun h => absurd h z
          have h2 : i < n := Classical.byContradiction fun z => hi fun _ h => absurd h z
          have h3 : T i k ≠ 0 := fun z => hi fun _ _ => z
          clear hi
          induction i using Nat.strongRecOn with
          | _ i ih =>
            by_cases q : ∃ j, k ≤ j ∧ j < i ∧ T j k ≠ 0
            · obtain ⟨j, q1, q2, q3⟩ := q
              exact ih j q2 q1 (by omega) q3
            · refine ⟨i, ?_, h2, h3, fun j j1 j2 => Classical.byContradiction fun z => q ⟨j, j1, j2, z⟩⟩
              rcases Nat.eq_or_lt_of_le h1' with z | z
              · exact absurd (z ▸ h1) h3
              · exact z
        obtain ⟨b, b1, b2, b3, b4⟩ := exi
        have skk : swapM T k b k k = T b k := if_pos rfl
        have hsw : det (f + 1) (trl k (swapM T k b)) = - det (f + 1) (trl k T) := by
          rw [← det_swap (n := f + 1) (i := 0) (j := b - k) (M := trl k T) (by omega) (by omega) (by omega)]
          refine det_congr fun x y _ _ => ?_
          show (if k + x = k then T b (k + y) else if k + x = b then T k (k + y) else T (k + x) (k + y)) = if x = 0 then T (k + (b - k)) (k + y) else if x = b - k then T (k + 0) (k + y) else T (k + x) (k + y)
          by_cases c1 : x = 0
          · rw [if_pos (by omega), if_pos c1, show k + (b - k) = b by omega]
          · rw [if_neg (by omega), if_neg c1]
            by_cases c2 : x = b - k
            · rw [if_pos (by omega), if_pos c2, Nat.add_zero]
            · rw [if_neg (by omega), if_neg c2]
        obtain ⟨t1, t2⟩ := turn (0 - above) (swapM T k b) (by rw [skk]; exact b3) (fun i j h1 h3 h4 => by
          unfold swapM
          split
          · exact hT _ _ (by omega) b2 h4
          · split
            · exact hT _ _ (Nat.le_refl k) (by omega) h4
            · exact hT _ _ h1 h3 h4) (by omega) (by rw [hsw, e]; grind)
        rw [skk] at t1 t2
        exact .swap b (by omega) h1 b1 b2 b3 b4 hS sa t1 t2
    · obtain ⟨t1, t2⟩ := turn above T h1 hT ha e
      exact .here (by omega) h1 hS sa t1 t2
theorem lx_det {n E : Nat} (n1 : 1 ≤ n) (hE : 2 ≤ E) (hn : n * (2 ^ n * E) ≤ BB) {M : Nat → Nat → Int} (hD : (det n M).natAbs < 2 ^ W4) (hM : ∀ i j, i < n → j < n → (M i j).natAbs < 2 ^ (E - 1)) : Lx n 0 1 1 M (det n M) := by
  refine lx_inv (E := E) (by omega) hn hD n 0 1 1 M (by omega) (fun i j _ h3 h4 => by rw [Nat.pow_zero, Nat.one_mul]; exact hM i j h3 h4) ?_ ?_ (by decide) ?_
  · rw [Nat.pow_zero, Nat.one_mul]
    exact Nat.one_lt_two_pow (by omega)
  · rw [Nat.pow_zero, Nat.one_mul]
    exact Nat.one_lt_two_pow (Nat.mul_ne_zero (by omega) (by omega))
  · rw [Int.mul_one, Int.one_mul]
    exact det_congr fun i j _ _ => by unfold trl; rw [Nat.zero_add, Nat.zero_add]
theorem wx_all {n : Nat} (n1 : 1 ≤ n) (n12 : n ≤ 12) {M : Nat → Nat → Int} (h : ∀ i j, i < n → j < n → (M i j).natAbs ≤ 1000000000000000000000000000000) : Wx n 0 1 1 M (det n M) :=
  wx_det n1 (fun m hm => Nat.lt_of_le_of_lt (fac_mono (C := 1000000000000000000000000000000) (by decide) (show m ≤ 12 by omega)) (by decide +kernel)) h
theorem lx_all {n : Nat} (n1 : 1 ≤ n) (n12 : n ≤ 12) {M : Nat → Nat → Int} (h : ∀ i j, i < n → j < n → (M i j).natAbs ≤ 1000000000000) : Lx n 0 1 1 M (det n M) := by
  refine lx_det (E := 41) n1 (by decide) ?_ (Nat.lt_of_le_of_lt (det_abs h) (Nat.lt_of_le_of_lt (fac_mono (C := 1000000000000) (by decide) n12) (by decide +kernel))) fun i j hi hj => Nat.lt_of_le_of_lt (h i j hi hj) (by decide)
  have a : 2 ^ n ≤ 2 ^ 12 := Nat.pow_le_pow_right (by decide) n12
  have b : n * (2 ^ n * 41) ≤ 12 * (2 ^ 12 * 41) := Nat.mul_le_mul n12 (Nat.mul_le_mul_right 41 a)
  exact Nat.le_trans b (by decide +kernel)

end M
namespace M
open PySem PySem.Spec PyProof.Rows L2 G LamX RZ
section
variable {P : Program} {w : World} {K : PySem.W.Frag} {mg : Str → Option Value} {base : Heap}
/-! tables that are worked on -/
structure TabM (K : PySem.W.Frag) (H : Hp) (a : Addr) (n : Nat) (ad : Nat → Addr) (M : Nat → Nat → Int) : Prop where
  top : SqL K H a ((List.range n).map fun i => V.ref (ad i))
  row : ∀ i, i < n → SqL K H (ad i) ((List.range n).map fun j => V.int (M i j))
theorem TabM.same {H H' : Hp} {a : Addr} {n : Nat} {ad : Nat → Addr} {M : Nat → Nat → Int} (h : TabM K H a n ad M) (s : Same H H') : TabM K H' a n ad M := ⟨SqL.same s h.top, fun i hi => SqL.same s (h.row i hi)⟩
structure Mat (H : Hp) (R : Addr) (n : Nat) (ad : Nat → Addr) (M : Nat → Nat → Int) : Prop where
  top : H R = some (.lst ((List.range n).map fun i => V.ref (ad i)))
  off : ∀ i, i < n → ad i ≠ R
  inj : ∀ i j, i < n → j < n → ad i = ad j → i = j
  row : ∀ i, i < n → H (ad i) = some (.lst ((List.range n).map fun j => V.int (M i j)))
section
variable {H H' : Hp} {R : Addr} {n : Nat} {ad : Nat → Addr} {M M' : Nat → Nat → Int}
theorem Mat.congr (h : Mat H R n ad M) (e : ∀ i j, i < n → j < n → M i j = M' i j) : Mat H R n ad M' :=
  ⟨h.top, h.off, h.inj, fun i hi => by rw [h.row i hi]; exact congrArg (fun z => some (HO.lst z)) (List.map_congr_left fun j hj => by rw [e i j hi (List.mem_range.mp hj)])⟩
theorem Mat.same (h : Mat H R n ad M) (s : Same H H') : Mat H' R n ad M := ⟨s _ _ h.top, h.off, h.inj, fun i hi => s _ _ (h.row i hi)⟩
theorem Mat.put (h : Mat H R n ad M) {i j : Nat} {v : Int} (hi : i < n) : Mat (upd H (ad i) (.lst (((List.range n).map fun b => V.int (M i b)).set j (.int v)))) R n ad (fun a b => if a = i ∧ b = j then v else M a b) := by
  refine ⟨(upd_ne (h.off i hi).symm).trans h.top, h.off, h.inj, fun a ha => ?_⟩
  by_cases e : a = i
  · subst e
    rw [upd_same, map_range_set]
    refine congrArg (fun z => some (HO.lst z)) (List.map_congr_left fun b _ => ?_)
    by_cases e2 : b = j
    · rw [if_pos e2, if_pos ⟨rfl, e2⟩]
    · rw [if_neg e2, if_neg (fun z => e2 z.2)]
  · refine (upd_ne fun z => e (h.inj a i ha hi z)).trans ((h.row a ha).trans (congrArg (fun z => some (HO.lst z)) (List.map_congr_left fun b _ => ?_)))
    rw [if_neg (fun z => e z.1)]
/-- a row's address put elsewhere, twice: rows exchanged -/
theorem Mat.swap (h : Mat H R n ad M) {k b : Nat} (hk : k < n) (hb : b < n) (hkb : k ≠ b) : Mat (upd (upd H R (.lst (((List.range n).map fun i => V.ref (ad i)).set k (.ref (ad b))))) R (.lst ((((List.range n).map fun i => V.ref (ad i)).set k (.ref (ad b))).set b (.ref (ad k))))) R n
    (fun i => if i = k then ad b else if i = b then ad k else ad i) (swapM M k b) := by
  have lt : ∀ i, i < n → (if i = k then b else if i = b then k else i) < n := fun i hi => by
    split
    · exact hb
    · split
      · exact hk
      · exact hi
  have ea : ∀ i, (if i = k then ad b else if i = b then ad k else ad i) = ad (if i = k then b else if i = b then k else i) := fun i => by
    split
    · rfl
    · split <;> rfl
  refine ⟨?_, fun i hi => ?_, fun i j hi hj z => ?_, fun i hi => ?_⟩
  · rw [upd_same, map_range_set, map_range_set]
    refine congrArg (fun z => some (HO.lst z)) (List.map_congr_left fun i _ => ?_)
    by_cases e1 : i = b
    · subst e1
      rw [if_pos rfl, if_neg (fun z => hkb z.symm), if_pos rfl]
    · rw [if_neg e1, if_neg e1]
      by_cases e2 : i = k
      · rw [if_pos e2, if_pos e2]
      · rw [if_neg e2, if_neg e2]
  · show (if i = k then ad b else if i = b then ad k else ad i) ≠ R
    rw [ea]
    exact h.off _ (lt i hi)
  · have z : (if i = k then ad b else if i = b then ad k else ad i) = (if j = k then ad b else if j = b then ad k else ad j) := z
    rw [ea, ea] at z
    have := h.inj _ _ (lt i hi) (lt j hj) z
    split at this <;> split at this <;> (try split at this) <;> (try split at this) <;> omega
  · show upd (upd H R _) R _ (if i = k then ad b else if i = b then ad k else ad i) = _
    rw [ea]
    have o := h.off _ (lt i hi)
    rw [upd_ne o, upd_ne o, h.row _ (lt i hi)]
    refine congrArg (fun z => some (HO.lst z)) (List.map_congr_left fun j _ => ?_)
    unfold swapM
    split
    · rfl
    · split <;> rfl
end
/-- a new table, read off its data -/
theorem TabM.of_rp {N : Addr → Prop} {H : Hp} {p : Addr} {n : Nat} {M : Nat → Nat → Int} (h : Rp N H (.ref p) (tabD ((List.range n).map fun i => (List.range n).map fun j => M i j))) : ∃ ad, TabM K H p n ad M := by
  obtain ⟨_, vs, e, ra⟩ := h.node
  rw [List.map_map] at ra
  have get : ∀ i, i < n → ∃ b, vs[i]? = some (.ref b) ∧ H b = some (.lst ((List.range n).map fun j => V.int (M i j))) := fun i hi => by
    obtain ⟨v, e1, e2⟩ := ra.get (i := i) (d := .list (((List.range n).map fun j => M i j).map PyData.int)) (by rw [List.getElem?_map, List.getElem?_range hi]; rfl)
    obtain ⟨b, rfl, _⟩ := e2.isRef
    refine ⟨b, e1, ?_⟩
    rw [e2.ints, List.map_map]
    rfl
  refine ⟨fun i => match vs[i]? with | some (.ref b) => b | _ => 0, ⟨SqL.of ?_, fun i hi => ?_⟩⟩
  · rw [e]
    refine congrArg (fun z => some (HO.lst z)) (List.ext_getElem? fun i => ?_)
    rw [List.getElem?_map]
    by_cases hi : i < n
    · obtain ⟨b, e1, _⟩ := get i hi
      rw [List.getElem?_range hi, e1]
      simp [e1]
    · rw [List.getElem?_eq_none (by rw [ra.length]; simp; omega), List.getElem?_eq_none (by simp; omega)]
      rfl
  · obtain ⟨b, e1, e2⟩ := get i hi
    simp only [e1]
    exact SqL.of e2

end
end M
namespace M
open PySem PySem.Spec PyProof.Rows L2 G LamX RZ
section
variable {P : Program} {w : World} {K : PySem.W.Frag} {mg : Str → Option Value} {base : Heap}
/-! worths of tables, whatever they hold -/
def sp_worth_of (K : PySem.W.Frag) : Sp := spec1 fun x H Q _ => ∃ (a : Addr) (n : Nat) (ad : Nat → Addr) (M : Nat → Nat → Int), x = .ref a ∧ TabM K H a n ad M ∧ 1 ≤ n ∧ n ≤ 12 ∧ (∀ i j, i < n → j < n → (M i j).natAbs ≤ 1000000000000000000000000000000) ∧ ∀ H', Same H H' → Q (.int (det n M)) H'
/-- what is done of a turn: rows above k + 1 + i whole, of this one j places -/
def partM (M : Nat → Nat → Int) (k : Nat) (last : Int) (i j : Nat) : Nat → Nat → Int := fun a b => if k < a ∧ k < b ∧ (a < k + 1 + i ∨ a = k + 1 + i ∧ b < k + 1 + j) then (M a b * M k k - M a k * M k b).fdiv last else M a b
theorem partM_zero {M : Nat → Nat → Int} {k : Nat} {last : Int} : partM M k last 0 0 = M := by
  funext a b
  unfold partM
  rw [if_neg (by omega)]
theorem partM_next {M : Nat → Nat → Int} {k : Nat} {last : Int} {i j : Nat} : (fun a b => if a = k + 1 + i ∧ b = k + 1 + j then (M (k + 1 + i) (k + 1 + j) * M k k - M (k + 1 + i) k * M k (k + 1 + j)).fdiv last else partM M k last i j a b) = partM M k last i (j + 1) := by
  funext a b
  unfold partM
  by_cases e : a = k + 1 + i ∧ b = k + 1 + j
  · obtain ⟨rfl, rfl⟩ := e
    rw [if_pos ⟨rfl, rfl⟩, if_pos (by omega)]
  · rw [if_neg e]
    by_cases c : k < a ∧ k < b ∧ (a < k + 1 + i ∨ a = k + 1 + i ∧ b < k + 1 + j)
    · rw [if_pos c, if_pos (by omega)]
    · rw [if_neg c, if_neg (by omega)]
def addA (ad : Nat → Addr) (i : Nat) (l : Addr) : Nat → Addr := fun k => if k = i then l else ad k
theorem addA_at {ad : Nat → Addr} {i : Nat} {l : Addr} : addA ad i l i = l := if_pos rfl
theorem addA_ne {ad : Nat → Addr} {i k : Nat} {l : Addr} (h : k ≠ i) : addA ad i l k = ad k := if_neg h
end
end M
namespace M
open PySem PySem.Spec PyProof.Rows L2 G LamX RZ
section
variable {P : Program} {w : World} {K : PySem.W.Frag} {mg : Str → Option Value} {base : Heap}
/-! lots handed in, their tables -/
structure LotF (n : Nat) (g : Nat → Nat) : Prop where
  n1 : 1 ≤ n
  n2 : n ≤ 12
  lo : ∀ i, i < n → 1 ≤ g i
  hi : ∀ i, i < n → g i ≤ 1000000
  up : ∀ i j, i < j → j < n → g i < g j
def gV (n : Nat) (g : Nat → Nat) : List V := (List.range n).map fun i => V.int (g i : Nat)
theorem gV_len {n : Nat} {g : Nat → Nat} : (gV n g).length = n := len_map_range
theorem gV_get {n i : Nat} {g : Nat → Nat} {x : V} (h : (gV n g)[i]? = some x) : i < n ∧ x = V.int (g i : Nat) := by
  have hi : i < n := by
    have := (List.getElem?_eq_some_iff.mp h).1
    rwa [gV_len] at this
  unfold gV at h
  rw [List.getElem?_map, List.getElem?_range hi] at h
  cases h
  exact ⟨hi, rfl⟩
theorem gV_drop {n i : Nat} {g : Nat → Nat} {x : V} (h : ((gV n g).drop 1)[i]? = some x) : i + 1 < n ∧ x = V.int (g (i + 1) : Nat) := by
  rw [List.getElem?_drop] at h
  have := gV_get h
  rw [Nat.add_comm] at this
  exact this
def gI (m : Nat) (h : Nat → Nat) : List Int := (List.range m).map fun j => ((h j : Nat) : Int)
theorem gI_V {m : Nat} {h : Nat → Nat} : (gI m h).map V.int = gV m h := by
  unfold gI gV
  rw [List.map_map]
  rfl
def sp_want_lot (K : PySem.W.Frag) : Sp := spec1 fun x H Q _ => ∃ (p : Addr) (n : Nat) (g : Nat → Nat), x = .ref p ∧ SqL K H p (gV n g) ∧ LotF n g ∧ ∀ H', Same H H' → Q .non H'
def tabR (n m : Nat) (M : Nat → Nat → Int) : List (List Int) := (List.range n).map fun i => (List.range m).map fun j => M i j
theorem tabR_D {n m : Nat} {M : Nat → Nat → Int} : tabD (tabR n m M) = .list ((List.range n).map fun i => .list (((List.range m).map fun j => M i j).map PyData.int)) := by
  unfold tabD tabR
  rw [List.map_map]
  rfl
def gcdM (g : Nat → Nat) : Nat → Nat → Int := fun i j => (Nat.gcd (g i) (g j) : Nat)
def lcmM (g : Nat → Nat) : Nat → Nat → Int := fun i j => (g i / Nat.gcd (g i) (g j) * g j : Nat)
def divM (g h : Nat → Nat) : Nat → Nat → Int := fun i j => if h j ∣ g i then 1 else 0
def sp_shares_of (K : PySem.W.Frag) : Sp := spec1 fun x H Q _ => ∃ (p : Addr) (n : Nat) (g : Nat → Nat), x = .ref p ∧ SqL K H p (gV n g) ∧ LotF n g ∧ ∀ r H', Same H H' → Rp (New H) H' (.ref r) (tabD (tabR n n (gcdM g))) → Q (.ref r) H'
theorem ok_shares_of {af : Addr} {fd : FuncData} (F : FunD K "shares_of" "shares_of" (defArgs s_shares_of) (defBody s_shares_of) (defScope s_shares_of) [] [] af fd) (B : Bt mg) (C_share_of : Cl False P w K mg base 1 "share_of" 2 [] (sp_share_of K)) : FnG False P w K mg base CX0 2 af fd ["numbers"] (sp_shares_of K) := by
  refine okG F sc_shares_of ar1 fun cdv A outer s H vs Q E hg hr h => ?_
  refine ⟨_, PSs.nox (pss_one (ps_ret (pe_lc (own := [("near", 1)]) rfl sc_shares_of.nd ((pi_list (pv 0))) (blkOk_by (own := [("near", 1)]) (N := ["numbers", "near", "far"]) (sc := defScope s_shares_of) (by decide +kernel)) (fun _ _ _ _ _ => pg_name (i := 1) sc_shares_of.nd rfl (.inr rfl) (.inl rfl)) (fun _ _ _ _ _ => pts_nil) (fun _ _ _ _ _ => (pe_lc (own := [("far", 2)]) rfl sc_shares_of.nd ((kPi (fun K => iList K _) (K := K) rfl (pi_list (pv 0)))) (blkOk_in (own := [("far", 2)]) (N := ["numbers", "near", "far"]) (sc := defScope s_shares_of) rfl (by decide +kernel)) (fun _ _ _ _ _ => pg_name (i := 2) sc_shares_of.nd rfl (.inl rfl) (.inr rfl)) (fun _ _ _ _ _ => pts_nil) (fun _ _ _ _ _ => (pe_cl C_share_of (fun h => h.elim) hr (by decide) rfl (pa_cons (pv 1) (pa_cons (pv 2) pa_nil))))))))), ?_⟩
  obtain ⟨_, rfl, p, n, g, rfl, hS, L, q⟩ := h
  have n1 := L.n1
  have n2 := L.n2
  refine ⟨_, rfl, p, rfl, ⟨_, hS⟩, fun D hD => lcM_list (K := K) (c := fun i : Nat => V.int (g i : Nat)) (src := List.range n) (fun i => .list (((List.range n).map fun j => gcdM g i j).map PyData.int)) hD hS (by rw [List.length_range]; omega) ?_ ?_⟩
  · intro k i H1 R S hi s1 hR
    have hi : i < n := List.mem_range.mp (List.mem_of_getElem? hi)
    have i1 := L.lo i hi
    have i2 := L.hi i hi
    have S1 := SqL.same s1 hS
    refine ⟨rfl, _, rfl, p, rfl, ⟨_, S1⟩, fun D2 hD2 => lcM_list (K := K) (c := fun i : Nat => V.int (g i : Nat)) (src := List.range n) (fun j => .int (gcdM g i j)) hD2 S1 (by rw [List.length_range]; omega) ?_ ?_⟩
    · intro k2 j H2 R2 T2 hj s2 hR2
      have hj : j < n := List.mem_range.mp (List.mem_of_getElem? hj)
      have j1 := L.lo j hj
      have j2 := L.hi j hj
      have gp : 0 < Nat.gcd (g i) (g j) := Nat.gcd_pos_of_pos_left _ i1
      have gl : Nat.gcd (g i) (g j) ≤ g i := Nat.le_of_dvd i1 (Nat.gcd_dvd_left _ _)
      exact ⟨rfl, _, rfl, _, rfl, _, _, rfl, g i, g j, rfl, rfl, by omega, by omega, hR2 _ _ (Same.refl _) (.int _)⟩
    · intro H2 s2 r2
      rw [map_in] at r2
      exact hR _ _ s2 r2
  · intro H1 s1 r1
    rw [← tabR_D] at r1
    exact q _ _ s1 r1
def sp_share_table (K : PySem.W.Frag) : Sp := sp_shares_of K
theorem ok_share_table {af : Addr} {fd : FuncData} (F : FunD K "share_table" "share_table" (defArgs s_share_table) (defBody s_share_table) (defScope s_share_table) [] [] af fd) (B : Bt mg) (C_want_lot : Cl False P w K mg base 4 "want_lot" 1 [] (sp_want_lot K)) (C_shares_of : Cl False P w K mg base 2 "shares_of" 1 [] (sp_shares_of K)) : FnG False P w K mg base CX0 5 af fd ["numbers"] (sp_share_table K) := by
  refine okG F sc_share_table ar1 fun cdv A outer s H vs Q E hg hr h => ?_
  refine ⟨_, PSs.nox (pss_cons (ps_expr (pe_cl C_want_lot (fun h => h.elim) hr (by decide) rfl (pa_cons (pv 0) pa_nil)))
    (pss_one (ps_ret (pe_cl C_shares_of (fun h => h.elim) hr (by decide) rfl (pa_cons (pv 0) pa_nil))))), ?_⟩
  obtain ⟨_, rfl, p, n, g, rfl, hS, L, q⟩ := h
  exact ⟨_, rfl, _, rfl, p, n, g, rfl, hS, L, fun H1 s1 => ⟨_, rfl, _, rfl, p, n, g, rfl, SqL.same s1 hS, L, fun r H2 s2 r2 => q r _ (s1.trans s2) (r2.lift s1)⟩⟩
def sp_multiples_of (K : PySem.W.Frag) : Sp := spec1 fun x H Q _ => ∃ (p : Addr) (n : Nat) (g : Nat → Nat), x = .ref p ∧ SqL K H p (gV n g) ∧ LotF n g ∧ ∀ r H', Same H H' → Rp (New H) H' (.ref r) (tabD (tabR n n (lcmM g))) → Q (.ref r) H'
def sp_multiple_table (K : PySem.W.Frag) : Sp := sp_multiples_of K
end
end M
namespace M
open PySem PySem.Spec PyProof.Rows L2 G LamX RZ
section
variable {P : Program} {w : World} {K : PySem.W.Frag} {mg : Str → Option Value} {base : Heap}
/-! divisor tables, tables turned and multiplied -/
def sp_divisor_table (K : PySem.W.Frag) : Sp := spec2 fun x y H Q _ => ∃ (p p2 : Addr) (n m : Nat) (g h : Nat → Nat), x = .ref p ∧ y = .ref p2 ∧ SqL K H p (gV n g) ∧ LotF n g ∧ SqL K H p2 (gV m h) ∧ LotF m h ∧ ∀ r H', Same H H' → Rp (New H) H' (.ref r) (tabD (tabR n m (divM g h))) → Q (.ref r) H'
def turnM (M : Nat → Nat → Int) : Nat → Nat → Int := fun i j => M j i
def sp_turned_of (K : PySem.W.Frag) : Sp := spec1 fun x H Q _ => ∃ (a : Addr) (n : Nat) (ad : Nat → Addr) (M : Nat → Nat → Int), x = .ref a ∧ TabM K H a n ad M ∧ 1 ≤ n ∧ n ≤ 12 ∧ ∀ r H', Same H H' → Rp (New H) H' (.ref r) (tabD (tabR n n (turnM M))) → Q (.ref r) H'
def sp_turned_table (K : PySem.W.Frag) : Sp := spec1 fun x H Q _ => ∃ (a : Addr) (n : Nat) (ad : Nat → Addr) (M : Nat → Nat → Int), x = .ref a ∧ TabM K H a n ad M ∧ 1 ≤ n ∧ n ≤ 12 ∧ (∀ i j, i < n → j < n → (M i j).natAbs < 1000000000000000000000000000000) ∧ ∀ r H', Same H H' → Rp (New H) H' (.ref r) (tabD (tabR n n (turnM M))) → Q (.ref r) H'
def mulM (n : Nat) (A B : Nat → Nat → Int) : Nat → Nat → Int := fun i j => ((List.range n).map fun k => A i k * B k j).sum
def sp_times_of (K : PySem.W.Frag) : Sp := spec2 fun x y H Q _ => ∃ (a b : Addr) (n : Nat) (ad bd : Nat → Addr) (A B : Nat → Nat → Int), x = .ref a ∧ y = .ref b ∧ TabM K H a n ad A ∧ TabM K H b n bd B ∧ 1 ≤ n ∧ n ≤ 12 ∧ (∀ i j, i < n → j < n → (A i j).natAbs < 1000000000) ∧ ∀ r H', Same H H' → Rp (New H) H' (.ref r) (tabD (tabR n n (mulM n A B))) → Q (.ref r) H'
def sp_table_times (K : PySem.W.Frag) : Sp := spec2 fun x y H Q _ => ∃ (a b : Addr) (n : Nat) (ad bd : Nat → Addr) (A B : Nat → Nat → Int), x = .ref a ∧ y = .ref b ∧ TabM K H a n ad A ∧ TabM K H b n bd B ∧ 1 ≤ n ∧ n ≤ 12 ∧ (∀ i j, i < n → j < n → (A i j).natAbs < 1000000000) ∧ (∀ i j, i < n → j < n → (B i j).natAbs < 1000000000) ∧ ∀ r H', Same H H' → Rp (New H) H' (.ref r) (tabD (tabR n n (mulM n A B))) → Q (.ref r) H'
def sp_share_worth (K : PySem.W.Frag) : Sp := spec1 fun x H Q _ => ∃ (p : Addr) (n : Nat) (g : Nat → Nat), x = .ref p ∧ SqL K H p (gV n g) ∧ LotF n g ∧ ∀ H', Same H H' → Q (.int (det n (gcdM g))) H'
def sp_multiple_worth (K : PySem.W.Frag) : Sp := spec1 fun x H Q _ => ∃ (p : Addr) (n : Nat) (g : Nat → Nat), x = .ref p ∧ SqL K H p (gV n g) ∧ LotF n g ∧ ∀ H', Same H H' → Q (.int (det n (lcmM g))) H'
end
end M
namespace M
/-! worths of tables that are products of lower, middle and upper ones -/
def ldS (L U : Nat → Nat → Int) (d : Nat → Int) : Nat → Nat → Nat → Nat → Int
  | 0, _, _, _ => 0
  | f + 1, k, a, b => L a k * d k * U k b + ldS L U d f (k + 1) a b
def ldD (d : Nat → Int) : Nat → Int
  | 0 => 1
  | k + 1 => ldD d k * d k
theorem ldS_zero {L U : Nat → Nat → Int} {d : Nat → Int} {a b : Nat} : ∀ {f k : Nat}, (∀ t, k ≤ t → t < k + f → L a t = 0 ∨ U t b = 0) → ldS L U d f k a b = 0
  | 0, _, _ => rfl
  | f + 1, k, h => by
    unfold ldS
    rw [ldS_zero (f := f) (k := k + 1) fun t h1 h2 => h t (by omega) (by omega)]
    rcases h k (Nat.le_refl k) (by omega) with z | z
    · rw [z, Int.zero_mul, Int.zero_mul]; rfl
    · rw [z, Int.mul_zero]; rfl
theorem ld_alg (X p q r S : Int) : (X * (p * q * r + S)) * (X * q) - (X * (p * q)) * (X * (q * r)) = X * (X * q * S) := by
  grind
theorem ldu {n : Nat} {L U : Nat → Nat → Int} {d : Nat → Int} (hL1 : ∀ t, t < n → L t t = 1) (hL0 : ∀ a t, a < t → t < n → L a t = 0) (hU1 : ∀ t, t < n → U t t = 1) (hU0 : ∀ t b, b < t → t < n → U t b = 0) (hd : ∀ t, t < n → d t ≠ 0)
    (hB : ∀ k a b, k < n → k ≤ a → k ≤ b → a < n → b < n → (ldD d k * ldS L U d (n - k) k a b).natAbs < 2 ^ 64) (hD : ∀ k, k < n → (ldD d k).natAbs < 2 ^ 200) :
    ∀ (f k : Nat) (M : Nat → Nat → Int), k + f + 1 = n → (∀ a b, k ≤ a → k ≤ b → a < n → b < n → M a b = ldD d k * ldS L U d (n - k) k a b) → Wo n k 1 (ldD d k) M (ldD d n) := by
  have nz : ∀ k, k ≤ n → ldD d k ≠ 0 := fun k => by
    induction k with
    | zero => exact fun _ => (by decide : (1 : Int) ≠ 0)
    | succ k ih => exact fun h => Int.mul_ne_zero (ih (by omega)) (hd k (by omega))
  have row : ∀ k a, k < n → k ≤ a → a < n → ldS L U d (n - k) k a k = L a k * d k := fun k a hk ha han => by
    rw [show n - k = (n - k - 1) + 1 by omega]
    unfold ldS
    rw [ldS_zero fun t h1 h2 => .inr (hU0 t k (by omega) (by omega)), hU1 k hk, Int.mul_one, Int.add_zero]
  have col : ∀ k b, k < n → k ≤ b → b < n → ldS L U d (n - k) k k b = d k * U k b := fun k b hk hb hbn => by
    rw [show n - k = (n - k - 1) + 1 by omega]
    unfold ldS
    rw [ldS_zero fun t h1 h2 => .inl (hL0 k t (by omega) (by omega)), hL1 k hk, Int.one_mul, Int.add_zero]
  have lead : ∀ k, k < n → ldD d k * ldS L U d (n - k) k k k = ldD d (k + 1) := fun k hk => by
    rw [row k k hk (Nat.le_refl k) hk, hL1 k hk, Int.one_mul]
    rfl
  intro f
  induction f with
  | zero =>
    intro k M hk hM
    have e := hM k k (Nat.le_refl k) (Nat.le_refl k) (by omega) (by omega)
    have e2 : ldD d n = 1 * M k k := by rw [e, lead k (by omega), Int.one_mul, show k + 1 = n by omega]
    rw [e2]
    exact .done (by omega) (by rw [e]; exact hB k k k (by omega) (Nat.le_refl k) (Nat.le_refl k) (by omega) (by omega))
  | succ f ih =>
    intro k M hk hM
    have e := hM k k (Nat.le_refl k) (Nat.le_refl k) (by omega) (by omega)
    rw [lead k (by omega)] at e
    refine .go (by omega) (by rw [e]; exact nz _ (by omega)) (fun a b h1 h2 h3 h4 => by rw [hM a b h1 h2 h3 h4]; exact hB k a b (by omega) h1 h2 h3 h4) ⟨nz k (by omega), hD k (by omega)⟩ ?_
    rw [e]
    refine ih (k + 1) _ (by omega) fun a b h1 h2 h3 h4 => ?_
    show (if k < a ∧ k < b then (M a b * M k k - M a k * M k b).fdiv (ldD d k) else M a b) = _
    rw [if_pos ⟨by omega, by omega⟩, e, hM a b (by omega) (by omega) h3 h4, hM a k (by omega) (Nat.le_refl k) h3 (by omega), hM k b (Nat.le_refl k) (by omega) (by omega) h4, row k a (by omega) (by omega) h3, col k b (by omega) (by omega) h4]
    have es : ldS L U d (n - k) k a b = L a k * d k * U k b + ldS L U d (n - (k + 1)) (k + 1) a b := by
      rw [show n - k = (n - (k + 1)) + 1 by omega]
      rfl
    have ed : ldD d (k + 1) = ldD d k * d k := rfl
    rw [es, ed, ld_alg, Int.mul_fdiv_cancel_left _ (nz k (by omega))]
theorem ldS_sum {L U : Nat → Nat → Int} {d : Nat → Int} {a b : Nat} : ∀ (f k : Nat), ldS L U d f k a b = ((List.range f).map fun i => L a (k + i) * d (k + i) * U (k + i) b).sum
  | 0, _ => rfl
  | f + 1, k => by
    unfold ldS
    rw [ldS_sum f (k + 1), List.range_succ_eq_map, List.map_cons, List.sum_cons, List.map_map]
    congr 2
    refine List.map_congr_left fun i _ => ?_
    show _ = L a (k + (i + 1)) * d (k + (i + 1)) * U (k + (i + 1)) b
    rw [show k + 1 + i = k + (i + 1) by omega]
theorem ldS_nn {L U : Nat → Nat → Int} {d : Nat → Int} {a b n : Nat} (h : ∀ t, t < n → 0 ≤ L a t * d t * U t b) : ∀ (f k : Nat), k + f ≤ n → 0 ≤ ldS L U d f k a b
  | 0, _, _ => Int.le_refl 0
  | f + 1, k, hk => by
    have := ldS_nn h f (k + 1) (by omega)
    have := h k (by omega)
    unfold ldS
    omega
theorem ldS_mono {L U : Nat → Nat → Int} {d : Nat → Int} {a b n : Nat} (h : ∀ t, t < n → 0 ≤ L a t * d t * U t b) : ∀ (k : Nat), k ≤ n → ldS L U d (n - k) k a b ≤ ldS L U d n 0 a b
  | 0, _ => Int.le_refl _
  | k + 1, hk => by
    have z := ldS_mono h k (by omega)
    have e : ldS L U d (n - k) k a b = L a k * d k * U k b + ldS L U d (n - (k + 1)) (k + 1) a b := by
      rw [show n - k = (n - (k + 1)) + 1 by omega]
      rfl
    have := h k (by omega)
    omega
theorem ldD_le {d : Nat → Int} {n : Nat} (h0 : d 0 = 1) (lo : ∀ t, t < n → 1 ≤ d t) (hi : ∀ t, t < n → d t ≤ 54) : ∀ k, k + 1 ≤ n → 1 ≤ ldD d (k + 1) ∧ ldD d (k + 1) ≤ 54 ^ k
  | 0, _ => by
    have : ldD d (0 + 1) = 1 := by
      show 1 * d 0 = 1
      rw [h0]
      rfl
    rw [this]
    exact ⟨by decide, by decide⟩
  | k + 1, hk => by
    obtain ⟨a, b⟩ := ldD_le h0 lo hi k (by omega)
    have l := lo (k + 1) (by omega)
    have u := hi (k + 1) (by omega)
    have e : ldD d (k + 1 + 1) = ldD d (k + 1) * d (k + 1) := rfl
    rw [e]
    refine ⟨?_, ?_⟩
    · have := Int.mul_le_mul a l (by decide) (by omega)
      omega
    · rw [Int.pow_succ]
      exact Int.mul_le_mul b u (by omega) (by omega)
theorem wo_ldu {n : Nat} {L U : Nat → Nat → Int} {d : Nat → Int} (n1 : 1 ≤ n) (n12 : n ≤ 12) (hL1 : ∀ t, t < n → L t t = 1) (hL0 : ∀ a t, a < t → t < n → L a t = 0) (hU1 : ∀ t, t < n → U t t = 1) (hU0 : ∀ t b, b < t → t < n → U t b = 0)
    (d0 : d 0 = 1) (lo : ∀ t, t < n → 1 ≤ d t) (hi : ∀ t, t < n → d t ≤ 54) (pos : ∀ a b t, a < n → b < n → t < n → 0 ≤ L a t * d t * U t b) {M : Nat → Nat → Int} (hM : ∀ a b, a < n → b < n → M a b = ((List.range n).map fun t => L a t * d t * U t b).sum)
    (h81 : ∀ a b, a < n → b < n → M a b ≤ 81) : Wo n 0 1 1 M (ldD d n) := by
  have p10 : ∀ k, k ≤ 10 → (54 : Int) ^ k ≤ 54 ^ 10 := by decide
  have hDk : ∀ k, k < n → 1 ≤ ldD d k ∧ ldD d k ≤ 54 ^ 10 := fun k hk => by
    cases k with
    | zero => exact ⟨by show (1 : Int) ≤ 1; decide, by show (1 : Int) ≤ 54 ^ 10; decide⟩
    | succ k =>
      obtain ⟨a, b⟩ := ldD_le d0 lo hi k (by omega)
      exact ⟨a, Int.le_trans b (p10 k (by omega))⟩
  have tot : ∀ a b, a < n → b < n → ldS L U d n 0 a b = M a b := fun a b ha hb => by
    rw [hM a b ha hb, ldS_sum]
    simp only [Nat.zero_add]
  refine ldu hL1 hL0 hU1 hU0 (fun t ht => (by have := lo t ht; omega)) (fun k a b hk h1 h2 h3 h4 => ?_) (fun k hk => ?_) (n - 1) 0 M (by omega) (fun a b _ _ h3 h4 => ?_)
  · obtain ⟨x1, x2⟩ := hDk k hk
    have nn := ldS_nn (fun t ht => pos a b t h3 h4 ht) (n - k) k (by omega)
    have mo := ldS_mono (fun t ht => pos a b t h3 h4 ht) k (by omega)
    rw [tot a b h3 h4] at mo
    have := h81 a b h3 h4
    have m1 : ldD d k * ldS L U d (n - k) k a b ≤ 54 ^ 10 * 81 := Int.mul_le_mul x2 (by omega) nn (by decide)
    have m0 : 0 ≤ ldD d k * ldS L U d (n - k) k a b := Int.mul_nonneg (by omega) nn
    have : (54 : Int) ^ 10 * 81 < 2 ^ 64 := by decide
    omega
  · obtain ⟨x1, x2⟩ := hDk k hk
    have : (54 : Int) ^ 10 < 2 ^ 200 := by decide
    omega
  · show M a b = 1 * ldS L U d (n - 0) 0 a b
    rw [Int.one_mul, Nat.sub_zero, tot a b h3 h4]
def idM (i j : Nat) : Int := if i = j then 1 else 0
theorem sum_pick (f : Nat → Int) : ∀ {n b : Nat}, b < n → ((List.range n).map fun t => if t = b then f t else 0).sum = f b := by
  intro n b hb
  have zer : ∀ m, m ≤ b → ((List.range m).map fun t => if t = b then f t else 0).sum = 0 := fun m => by
    induction m with
    | zero => exact fun _ => rfl
    | succ m ih =>
      intro h
      rw [List.range_succ, List.map_append, List.sum_append, ih (by omega)]
      show 0 + ((if m = b then f m else 0) + 0) = 0
      rw [if_neg (by omega)]
      rfl
  have aft : ∀ m, b < m → ((List.range m).map fun t => if t = b then f t else 0).sum = f b := fun m => by
    induction m with
    | zero => exact fun h => by omega
    | succ m ih =>
      intro h
      rw [List.range_succ, List.map_append, List.sum_append]
      show _ + ((if m = b then f m else 0) + 0) = f b
      by_cases c : m = b
      · rw [if_pos c, zer m (by omega), c, Int.zero_add, Int.add_zero]
      · rw [if_neg c, ih (by omega), Int.add_zero, Int.add_zero]
  exact aft n hb

end M
namespace M
/-! tables of shares as products -/
theorem sumE (f : Nat → Int) {K : Nat} {h : Nat → Nat} : ∀ {m : Nat} (f : Nat → Int), (∀ i j, i < j → j < m → h i < h j) → (∀ t, t < m → 1 ≤ h t ∧ h t ≤ K) → (∀ d, 1 ≤ d → d ≤ K → (∀ t, t < m → h t ≠ d) → f d = 0) →
    ((List.range m).map fun t => f (h t)).sum = sumR f K
  | 0, f, _, _, hf => by
    rw [sumR_zero fun i h1 h2 => hf i h1 h2 fun t ht => by omega]
    rfl
  | m + 1, f, hu, hb, hf => by
    obtain ⟨b1, b2⟩ := hb m (by omega)
    have ih := sumE f (m := m) (fun d => if d = h m then 0 else f d) (fun i j h1 h2 => hu i j h1 (by omega)) (fun t ht => hb t (by omega)) (fun d d1 d2 hd => by
      show (if d = h m then 0 else f d) = 0
      by_cases c : d = h m
      · rw [if_pos c]
      · rw [if_neg c]
        exact hf d d1 d2 fun t ht => by
          by_cases e : t = m
          · exact fun z => c (by rw [← z, e])
          · exact hd t (by omega))
    have e1 : ((List.range m).map fun t => f (h t)) = (List.range m).map fun t => if h t = h m then 0 else f (h t) := List.map_congr_left fun t ht => by
      have := hu t m (List.mem_range.mp ht) (by omega)
      rw [if_neg (by omega)]
    have e2 : sumR f K = sumR (fun d => (if d = h m then 0 else f d) + if d = h m then f d else 0) K := sumR_congr fun d _ _ => by
      split <;> simp
    have e3 : sumR (fun d => if d = h m then f d else 0) K = f (h m) := by
      rw [sumR_one (k := h m) b1 b2 fun i _ _ hi => if_neg hi, if_pos rfl]
    rw [e2, sumR_add, e3, ← ih, List.range_succ, List.map_append, List.sum_append, e1]
    show _ + (f (h m) + 0) = _
    rw [Int.add_zero]
theorem gaussE {m N : Nat} {h : Nat → Nat} (hu : ∀ i j, i < j → j < m → h i < h j) (h1 : ∀ t, t < m → 1 ≤ h t) (hN : 1 ≤ N) (hE : ∀ d, d ∣ N → ∃ t, t < m ∧ h t = d) :
    ((List.range m).map fun t => if h t ∣ N then phN (h t) else 0).sum = N := by
  obtain ⟨K, hK⟩ : ∃ K, (∀ t, t < m → h t ≤ K) ∧ N ≤ K := by
    refine ⟨h (m - 1) + N, fun t ht => ?_, by omega⟩
    by_cases c : t = m - 1
    · subst c
      omega
    · have := hu t (m - 1) (by omega) (by omega)
      omega
  rw [sumE (K := K) (fun d => if d ∣ N then phN d else 0) (fun d => if d ∣ N then phN d else 0) hu (fun t ht => ⟨h1 t ht, hK.1 t ht⟩) fun d _ _ hd => if_neg fun z => by
    obtain ⟨t, ht, e⟩ := hE d z
    exact hd t ht e, dsum_more hN hK.2, gauss hN]
theorem phL_pos : ∀ {b : Nat} {L : List (Nat × Nat)}, FacOk b L → 1 ≤ phL L
  | _, [], _ => Nat.le_refl 1
  | _, (p, e) :: r, ⟨_, hp, _, hr⟩ => by
    have a := phL_pos hr
    have b := pe_pos (e := e - 1) hp
    have c := hp.1
    exact Nat.mul_pos (Nat.mul_pos b (by omega)) a
theorem ph_pos {n : Nat} (hn : 1 ≤ n) : 1 ≤ phN n := by
  obtain ⟨L, h⟩ := fac_ex hn
  rw [ph_fac h]
  have := phL_pos h.1
  omega
theorem ph_le {n : Nat} (hn : 1 ≤ n) : phN n ≤ n := by
  have g := gauss hn
  obtain ⟨k, rfl⟩ : ∃ k, n = k + 1 := ⟨n - 1, by omega⟩
  have e : dsum phN (k + 1) = sumR (fun d => if d ∣ k + 1 then phN d else 0) k + phN (k + 1) := by
    unfold dsum
    rw [sumR, if_pos (Nat.dvd_refl _)]
  have nn : sumR (fun _ => (0 : Int)) k ≤ sumR (fun d => if d ∣ k + 1 then phN d else 0) k := sumR_mono fun i h1 _ => by
    split
    · have := ph_pos h1
      omega
    · exact Int.le_refl 0
  rw [sumR_zero fun _ _ _ => rfl] at nn
  omega
theorem ph81 : phN 81 = 54 := by decide +kernel
theorem ph63 : phN 63 = 36 := by decide +kernel
def GoodN (x : Nat) : Prop := 1 ≤ x ∧ (x ≤ 54 ∨ x = 63 ∨ x = 81)
theorem GoodN.dvd {x d : Nat} (h : GoodN x) (hd : d ∣ x) : GoodN d := by
  obtain ⟨x1, hx⟩ := h
  obtain ⟨c, rfl⟩ := hd
  have c1 : 1 ≤ c := Nat.pos_of_ne_zero fun z => by rw [z] at x1; simp at x1
  have d1 : 1 ≤ d := Nat.pos_of_ne_zero fun z => by rw [z] at x1; simp at x1
  by_cases e : c = 1
  · rw [e, Nat.mul_one] at hx
    exact ⟨d1, hx⟩
  · have := Nat.mul_le_mul (Nat.le_refl d) (show 2 ≤ c by omega)
    exact ⟨d1, .inl (by omega)⟩
theorem GoodN.ph {x : Nat} (h : GoodN x) : phN x ≤ 54 := by
  obtain ⟨x1, z | rfl | rfl⟩ := h
  · have := ph_le x1
    omega
  · rw [ph63]; decide
  · rw [ph81]; decide
theorem GoodN.le {x : Nat} (h : GoodN x) : x ≤ 81 := by
  obtain ⟨x1, z | rfl | rfl⟩ := h
  · omega
  · omega
  · omega
/-- what a sequence of all divisors of some numbers is -/
structure ClM (m : Nat) (h : Nat → Nat) : Prop where
  m1 : 1 ≤ m
  m12 : m ≤ 12
  up : ∀ i j, i < j → j < m → h i < h j
  ok : ∀ t, t < m → GoodN (h t)
  dv : ∀ i, i < m → ∀ d, d ∣ h i → ∃ t, t < m ∧ h t = d
def dvM (g h : Nat → Nat) (i j : Nat) : Int := if h j ∣ g i then 1 else 0
theorem ClM.first {m : Nat} {h : Nat → Nat} (C : ClM m h) : h 0 = 1 := by
  obtain ⟨t, ht, e⟩ := C.dv 0 C.m1 1 (Nat.one_dvd _)
  by_cases c : t = 0
  · rw [← c, e]
  · have := C.up 0 t (by omega) ht
    have := (C.ok 0 C.m1).1
    omega
theorem ClM.low {m : Nat} {h : Nat → Nat} (C : ClM m h) {a t : Nat} (hat : a < t) (ht : t < m) : dvM h h a t = 0 := by
  unfold dvM
  rw [if_neg fun z => ?_]
  have := Nat.le_of_dvd (C.ok a (by omega)).1 z
  have := C.up a t hat ht
  omega
theorem dvM_self {h : Nat → Nat} (t : Nat) : dvM h h t t = 1 := if_pos (Nat.dvd_refl _)
theorem dvM_nn (g h : Nat → Nat) (i j : Nat) : 0 ≤ dvM g h i j ∧ dvM g h i j ≤ 1 := by
  unfold dvM
  split <;> decide
/-- the sum over divisors is the share -/
theorem share_sumE {m : Nat} {h : Nat → Nat} (hu : ∀ i j, i < j → j < m → h i < h j) (h1 : ∀ t, t < m → 1 ≤ h t) {x y : Nat} (hx : 1 ≤ x) (hE : ∀ d, d ∣ x → ∃ t, t < m ∧ h t = d) :
    ((List.range m).map fun t => (if h t ∣ x then (1 : Int) else 0) * phN (h t) * (if h t ∣ y then 1 else 0)).sum = (Nat.gcd x y : Nat) := by
  rw [← gaussE hu h1 (Nat.gcd_pos_of_pos_left y hx) fun d hd => hE d (Nat.dvd_trans hd (Nat.gcd_dvd_left x y))]
  congr 1
  refine List.map_congr_left fun t _ => ?_
  by_cases a : h t ∣ x <;> by_cases b : h t ∣ y
  · rw [if_pos a, if_pos b, if_pos (Nat.dvd_gcd a b), Int.one_mul, Int.mul_one]
  · rw [if_neg b, if_neg fun z => b (Nat.dvd_trans z (Nat.gcd_dvd_right x y)), Int.mul_zero]
  · rw [if_neg a, if_neg fun z => a (Nat.dvd_trans z (Nat.gcd_dvd_left x y)), Int.zero_mul, Int.zero_mul]
  · rw [if_neg b, if_neg fun z => b (Nat.dvd_trans z (Nat.gcd_dvd_right x y)), Int.mul_zero]
def phD (h : Nat → Nat) (t : Nat) : Int := phN (h t)
theorem ClM.shares {m : Nat} {h : Nat → Nat} (C : ClM m h) : Wo m 0 1 1 (fun i j => (Nat.gcd (h i) (h j) : Nat)) (ldD (phD h) m) := by
  refine wo_ldu (L := dvM h h) (U := fun t b => dvM h h b t) C.m1 C.m12 (fun t _ => dvM_self t) (fun a t h1 h2 => C.low h1 h2) (fun t _ => dvM_self t) (fun t b h1 h2 => C.low h1 h2) ?_ (fun t ht => ph_pos (C.ok t ht).1) (fun t ht => (C.ok t ht).ph)
    (fun a b t _ _ ht => Int.mul_nonneg (Int.mul_nonneg (dvM_nn _ _ _ _).1 (by have := ph_pos (C.ok t ht).1; show 0 ≤ phN (h t); omega)) (dvM_nn _ _ _ _).1) (fun a b ha hb => (share_sumE C.up (fun t ht => (C.ok t ht).1) (C.ok a ha).1 (C.dv a ha)).symm) (fun a b ha hb => ?_)
  · show phN (h 0) = 1
    rw [C.first]
    decide +kernel
  · have := Nat.le_of_dvd (C.ok a ha).1 (Nat.gcd_dvd_left (h a) (h b))
    have := (C.ok a ha).le
    omega
theorem ClM.middle {m : Nat} {h : Nat → Nat} (C : ClM m h) : Wo m 0 1 1 (fun i j => if i = j then phN (h i) else 0) (ldD (phD h) m) := by
  have nn : ∀ i j, 0 ≤ idM i j := fun i j => by unfold idM; split <;> decide
  refine wo_ldu (L := idM) (U := idM) C.m1 C.m12 (fun t _ => if_pos rfl) (fun a t h1 h2 => if_neg (by omega)) (fun t _ => if_pos rfl) (fun t b h1 h2 => if_neg (by omega)) ?_ (fun t ht => ph_pos (C.ok t ht).1) (fun t ht => (C.ok t ht).ph)
    (fun a b t _ _ ht => Int.mul_nonneg (Int.mul_nonneg (nn _ _) (by have := ph_pos (C.ok t ht).1; show 0 ≤ phN (h t); omega)) (nn _ _)) (fun a b ha hb => ?_) (fun a b ha hb => ?_)
  · show phN (h 0) = 1
    rw [C.first]
    decide +kernel
  · rw [show (List.range m).map (fun t => idM a t * phN (h t) * idM t b) = (List.range m).map fun t => if t = b then (if a = t then phN (h a) else 0) else 0 from List.map_congr_left fun t _ => ?_, sum_pick (fun t => if a = t then phN (h a) else 0) hb]
    unfold idM
    by_cases x : a = t
    · subst x
      by_cases y : a = b
      · rw [if_pos rfl, if_pos y, if_pos y, if_pos rfl, Int.one_mul, Int.mul_one]
      · rw [if_neg y, if_neg y, Int.mul_zero]
    · rw [if_neg x, if_neg x, Int.zero_mul, Int.zero_mul]
      split <;> rfl
  · show (if a = b then phN (h a) else 0) ≤ 81
    have := (C.ok a ha).ph
    split <;> omega
theorem ClM.square {m : Nat} {h : Nat → Nat} (C : ClM m h) : Wo m 0 1 1 (dvM h h) 1 := by
  have e : ∀ k, ldD (fun _ => 1) k = 1 := fun k => by
    induction k with
    | zero => rfl
    | succ k ih =>
      show ldD _ k * 1 = 1
      rw [ih]
      rfl
  have w := wo_ldu (L := dvM h h) (U := idM) (d := fun _ => 1) (M := dvM h h) C.m1 C.m12 (fun t _ => dvM_self t) (fun a t h1 h2 => C.low h1 h2) (fun t _ => if_pos rfl) (fun t b h1 h2 => if_neg (by omega)) rfl (fun t ht => Int.le_refl 1) (fun t ht => by decide)
    (fun a b t _ _ ht => Int.mul_nonneg (Int.mul_nonneg (dvM_nn _ _ _ _).1 (by decide)) (by unfold idM; split <;> decide)) (fun a b ha hb => ?_) (fun a b ha hb => ?_)
  · rw [e] at w
    exact w
  · rw [show (List.range m).map (fun t => dvM h h a t * 1 * idM t b) = (List.range m).map fun t => if t = b then dvM h h a t else 0 from List.map_congr_left fun t _ => ?_, sum_pick (fun t => dvM h h a t) hb]
    unfold idM
    rw [Int.mul_one]
    split <;> simp
  · have := (dvM_nn h h a b).2
    omega

end M
namespace M
/-! worths of tables that are sums of squares; tables by lists, their sequence -/
theorem Sg_comm2 {f : Nat → Nat → Int} {n m : Nat} : (Sg n fun i => Sg m fun j => f i j) = Sg m fun j => Sg n fun i => f i j := Sg_comm
theorem Sg_nn {f : Nat → Int} : ∀ {n : Nat}, (∀ i, i < n → 0 ≤ f i) → 0 ≤ Sg n f
  | 0, _ => Int.le_refl 0
  | n + 1, h => by
    unfold Sg
    have a := Sg_nn (n := n) fun i hi => h i (by omega)
    have b := h n (by omega)
    omega
/-- what a table makes of the numbers v -/
def qf (n : Nat) (A : Nat → Nat → Int) (v : Nat → Int) : Int := Sg n fun i => Sg n fun j => v i * v j * A i j
def Psd (n : Nat) (A : Nat → Nat → Int) : Prop := (∀ i j, i < n → j < n → A i j = A j i) ∧ ∀ v : Nat → Int, 0 ≤ qf n A v
theorem qf_succ {n : Nat} {A : Nat → Nat → Int} (hs : ∀ i j, i < n + 1 → j < n + 1 → A i j = A j i) (t : Int) (v : Nat → Int) : qf (n + 1) A (fun i => if i = 0 then t else v (i - 1)) = t * t * A 0 0 + 2 * t * Sg n (fun i => v i * A (i + 1) 0) + qf n (fun i j => A (i + 1) (j + 1)) v := by
  unfold qf
  rw [Sg_head, Sg_head]
  have e1 : (Sg n fun i => Sg (n + 1) fun j => (if i + 1 = 0 then t else v (i + 1 - 1)) * (if j = 0 then t else v (j - 1)) * A (i + 1) j) = Sg n fun i => t * (v i * A (i + 1) 0) + Sg n fun j => v i * v j * A (i + 1) (j + 1) := Sg_congr fun i _ => by
    rw [Sg_head]
    show v i * t * A (i + 1) 0 + (Sg n fun j => v i * v j * A (i + 1) (j + 1)) = _
    congr 1
    grind
  have e2 : (Sg n fun i => (if 0 = 0 then t else v (0 - 1)) * (if i + 1 = 0 then t else v (i + 1 - 1)) * A 0 (i + 1)) = Sg n fun i => t * (v i * A (i + 1) 0) := Sg_congr fun i hi => by
    show t * v i * A 0 (i + 1) = _
    rw [hs 0 (i + 1) (by omega) (by omega), Int.mul_assoc]
  rw [e1, e2, Sg_add, ← Sg_mul]
  show t * t * A 0 0 + _ + _ = _
  rw [← Int.add_assoc]
  congr 1
  rw [Int.add_assoc]
  congr 1
  grind
theorem sq_nn (x : Int) : 0 ≤ x * x := by
  rcases Int.le_total 0 x with h | h
  · exact Int.mul_nonneg h h
  · have := Int.mul_nonneg (show 0 ≤ -x by omega) (show 0 ≤ -x by omega)
    rw [Int.neg_mul_neg] at this
    exact this
theorem Psd.diag {n : Nat} {A : Nat → Nat → Int} (h : Psd (n + 1) A) : 0 ≤ A 0 0 := by
  have z := h.2 fun i => if i = 0 then 1 else (fun _ : Nat => 0) (i - 1)
  rw [qf_succ h.1 1 fun _ => 0] at z
  have e1 : (Sg n fun i => (fun _ : Nat => (0 : Int)) i * A (i + 1) 0) = 0 := Sg_zero fun i _ => Int.zero_mul _
  have e2 : qf n (fun i j => A (i + 1) (j + 1)) (fun _ => 0) = 0 := Sg_zero fun i _ => Sg_zero fun j _ => by rw [Int.zero_mul, Int.zero_mul]
  rw [e1, e2] at z
  omega
theorem Psd.col {n : Nat} {A : Nat → Nat → Int} (h : Psd (n + 1) A) (h0 : A 0 0 = 0) : ∀ i, i < n → A (i + 1) 0 = 0 := by
  intro k hk
  refine Classical.byContradiction fun ne => ?_
  have sing : ∀ (f : Nat → Int), (Sg n fun i => (if i = k then 1 else 0) * f i) = f k := fun f => by
    rw [Sg_one hk fun i _ hn => by rw [if_neg hn, Int.zero_mul], if_pos rfl, Int.one_mul]
  have q : ∀ t : Int, 0 ≤ 2 * t * A (k + 1) 0 + A (k + 1) (k + 1) := fun t => by
    have z := h.2 fun i => if i = 0 then t else (fun i : Nat => if i = k then (1 : Int) else 0) (i - 1)
    rw [qf_succ h.1 t fun i => if i = k then 1 else 0, h0, sing fun i => A (i + 1) 0] at z
    have e : qf n (fun i j => A (i + 1) (j + 1)) (fun i => if i = k then 1 else 0) = A (k + 1) (k + 1) := by
      unfold qf
      rw [Sg_congr fun i _ => show (Sg n fun j => (if i = k then (1 : Int) else 0) * (if j = k then 1 else 0) * A (i + 1) (j + 1)) = (if i = k then 1 else 0) * A (i + 1) (k + 1) from ?_, sing fun i => A (i + 1) (k + 1)]
      rw [Sg_congr fun j _ => Int.mul_assoc _ _ _, ← Sg_mul, sing fun j => A (i + 1) (j + 1)]
    rw [e] at z
    omega
  generalize A (k + 1) 0 = x at ne q
  generalize A (k + 1) (k + 1) = y at q
  have q1 := q (y.natAbs + 1)
  have q2 := q (-(y.natAbs + 1))
  rcases Int.lt_or_gt_of_ne ne with c | c
  · have m := Int.mul_le_mul_of_nonneg_left (show x ≤ -1 by omega) (show (0 : Int) ≤ 2 * (y.natAbs + 1) by omega)
    omega
  · have m := Int.mul_le_mul_of_nonneg_left (show 1 ≤ x by omega) (show (0 : Int) ≤ 2 * (y.natAbs + 1) by omega)
    have e : 2 * -((y.natAbs : Int) + 1) * x = -(2 * ((y.natAbs : Int) + 1) * x) := by grind
    omega
theorem qf_smul {n : Nat} {A : Nat → Nat → Int} {s : Int} {v : Nat → Int} : qf n (fun i j => s * A i j) v = s * qf n A v := by
  unfold qf
  rw [Sg_mul]
  refine Sg_congr fun i _ => ?_
  rw [Sg_mul]
  exact Sg_congr fun j _ => by grind
theorem Psd.next {n : Nat} {A : Nat → Nat → Int} (h : Psd (n + 1) A) (h0 : A 0 0 ≠ 0) : Psd n fun a b => A 0 0 * A (a + 1) (b + 1) - A (a + 1) 0 * A 0 (b + 1) := by
  have a0 := h.diag
  refine ⟨fun i j hi hj => ?_, fun v => ?_⟩
  · show A 0 0 * A (i + 1) (j + 1) - A (i + 1) 0 * A 0 (j + 1) = A 0 0 * A (j + 1) (i + 1) - A (j + 1) 0 * A 0 (i + 1)
    rw [h.1 (i + 1) (j + 1) (by omega) (by omega), h.1 (i + 1) 0 (by omega) (by omega), h.1 0 (j + 1) (by omega) (by omega), Int.mul_comm (A 0 (i + 1))]
  · have z := h.2 fun i => if i = 0 then - Sg n (fun i => v i * A (i + 1) 0) else (fun i => A 0 0 * v i) (i - 1)
    rw [qf_succ h.1 (- Sg n fun i => v i * A (i + 1) 0) fun i => A 0 0 * v i] at z
    have e1 : (Sg n fun i => A 0 0 * v i * A (i + 1) 0) = A 0 0 * Sg n fun i => v i * A (i + 1) 0 := by
      rw [Sg_mul]
      exact Sg_congr fun i _ => Int.mul_assoc _ _ _
    have e2 : qf n (fun i j => A (i + 1) (j + 1)) (fun i => A 0 0 * v i) = A 0 0 * A 0 0 * qf n (fun i j => A (i + 1) (j + 1)) v := by
      unfold qf
      rw [Sg_mul]
      refine Sg_congr fun i _ => ?_
      rw [Sg_mul]
      exact Sg_congr fun j _ => by grind
    have e3 : qf n (fun a b => A 0 0 * A (a + 1) (b + 1) - A (a + 1) 0 * A 0 (b + 1)) v = A 0 0 * qf n (fun i j => A (i + 1) (j + 1)) v - (Sg n fun i => v i * A (i + 1) 0) * Sg n fun i => v i * A (i + 1) 0 := by
      unfold qf
      rw [Sg_lin (n := n) (s := A 0 0) (t := - Sg n fun i => v i * A (i + 1) 0) (f := fun i => Sg n fun j => v i * v j * A (i + 1) (j + 1)) (g := fun i => v i * A (i + 1) 0) fun i hi => ?_, Int.neg_mul]
      · rfl
      · rw [Sg_lin (n := n) (s := A 0 0) (t := -(v i * A (i + 1) 0)) (f := fun j => v i * v j * A (i + 1) (j + 1)) (g := fun j => v j * A (j + 1) 0) fun j hj => ?_]
        · grind
        · show v i * v j * (A 0 0 * A (i + 1) (j + 1) - A (i + 1) 0 * A 0 (j + 1)) = _
          rw [h.1 0 (j + 1) (by omega) (by omega)]
          grind
    rw [e1, e2] at z
    rw [e3]
    generalize (Sg n fun i => v i * A (i + 1) 0) = s at z ⊢
    generalize qf n (fun i j => A (i + 1) (j + 1)) v = q at z ⊢
    generalize A 0 0 = a at z h0 a0 ⊢
    have ap : 0 < a := by omega
    have e : -s * -s * a + 2 * -s * (a * s) + a * a * q = a * (a * q - s * s) := by grind
    rw [e] at z
    exact Int.nonneg_of_mul_nonneg_right z ap
theorem psd_det : ∀ {n : Nat} {A : Nat → Nat → Int}, Psd n A → 0 ≤ det n A
  | 0, _, _ => by unfold det; decide
  | n + 1, A, h => by
    by_cases h0 : A 0 0 = 0
    · rw [det_col0 fun i hi => ?_]
      · exact Int.le_refl 0
      · cases i with
        | zero => exact h0
        | succ i => exact h.col h0 i (by omega)
    · have a0 := h.diag
      have ap : 0 < A 0 0 := by omega
      have c := det_chio (n := n) (M := A) h0
      have ih := psd_det (h.next h0)
      have pp : 0 < A 0 0 ^ n := Int.pow_pos ap
      have r : 0 ≤ A 0 0 ^ n * det (n + 1) A := by
        rw [c]
        exact Int.mul_nonneg a0 ih
      exact Int.nonneg_of_mul_nonneg_right r pp
/-- sums of squares times numbers that are not negative -/
theorem psd_gram {n K : Nat} {w : Nat → Int} {E : Nat → Nat → Int} (hw : ∀ d, d < K → 0 ≤ w d) : Psd n fun i j => Sg K fun d => w d * (E i d * E j d) := by
  refine ⟨fun i j _ _ => Sg_congr fun d _ => by rw [Int.mul_comm (E i d)], fun v => ?_⟩
  have e : qf n (fun i j => Sg K fun d => w d * (E i d * E j d)) v = Sg K fun d => w d * ((Sg n fun i => v i * E i d) * Sg n fun i => v i * E i d) := by
    unfold qf
    have e1 : (Sg n fun i => Sg n fun j => v i * v j * Sg K fun d => w d * (E i d * E j d)) = Sg n fun i => Sg K fun d => w d * (v i * E i d * Sg n fun j => v j * E j d) := Sg_congr fun i _ => by
      rw [show (Sg n fun j => v i * v j * Sg K fun d => w d * (E i d * E j d)) = Sg n fun j => Sg K fun d => v i * v j * (w d * (E i d * E j d)) from Sg_congr fun j _ => Sg_mul, Sg_comm]
      refine Sg_congr fun d _ => ?_
      rw [Sg_mul, Sg_mul]
      exact Sg_congr fun j _ => by grind
    rw [e1, Sg_comm]
    refine Sg_congr fun d _ => ?_
    rw [← Sg_mul]
    congr 1
    rw [Int.mul_comm, Sg_mul]
    exact Sg_congr fun i _ => Int.mul_comm _ _
  rw [e]
  exact Sg_nn fun d hd => Int.mul_nonneg (hw d hd) (sq_nn _)
theorem Psd.congr {n : Nat} {A B : Nat → Nat → Int} (h : Psd n A) (e : ∀ i j, i < n → j < n → A i j = B i j) : Psd n B := by
  refine ⟨fun i j hi hj => by rw [← e i j hi hj, ← e j i hj hi]; exact h.1 i j hi hj, fun v => ?_⟩
  have : qf n B v = qf n A v := Sg_congr fun i hi => Sg_congr fun j hj => by rw [e i j hi hj]
  rw [this]
  exact h.2 v
/-- the head's place alone is greater -/
theorem det_head {n : Nat} {A B : Nat → Nat → Int} {c : Int} (h0 : B 0 0 = A 0 0 + c) (h : ∀ i j, i < n + 1 → j < n + 1 → (i ≠ 0 ∨ j ≠ 0) → B i j = A i j) : det (n + 1) B = det (n + 1) A + c * det n fun a b => A (a + 1) (b + 1) := by
  have e := det_lin (n := n + 1) (r := 0) (A := A) (B := rwM A 0 fun j => if j = 0 then 1 else 0) (C := B) (s := 1) (t := c) (by omega) (fun i j hi hj z => (h i j hi hj (.inl z)).symm) (fun i j hi hj z => by rw [rwM_ne z]; exact (h i j hi hj (.inl z)).symm) fun j hj => by
    rw [rwM_at]
    by_cases z : j = 0
    · subst z
      rw [if_pos rfl, h0]
      omega
    · rw [if_neg z, h 0 j (by omega) hj (.inr z)]
      omega
  have e2 : det (n + 1) (rwM A 0 fun j => if j = 0 then 1 else 0) = det n fun a b => A (a + 1) (b + 1) := by
    rw [det_firstR (M := rwM A 0 fun j => if j = 0 then 1 else 0) fun j hj => by rw [rwM_at, if_neg (by omega)], rwM_at, if_pos rfl, Int.one_mul]
    exact det_congr fun a b _ _ => rwM_ne (by omega)
  rw [e, e2, Int.one_mul]
/-! tables by lists -/
def atL (l : List Nat) (a : Nat) : Nat := l.getD a 0
def detL (F : Nat → Nat → Int) (l : List Nat) : Int := det l.length fun a b => F (atL l a) (atL l b)
theorem atL_app {pre l : List Nat} {a : Nat} : atL (pre ++ l) a = if a < pre.length then atL pre a else atL l (a - pre.length) := by
  unfold atL
  rw [List.getD_eq_getElem?_getD, List.getD_eq_getElem?_getD, List.getD_eq_getElem?_getD, List.getElem?_append]
  split <;> rfl
theorem detL_swap (F : Nat → Nat → Int) (pre l : List Nat) (x y : Nat) : detL F (pre ++ x :: y :: l) = detL F (pre ++ y :: x :: l) := by
  have len : (pre ++ x :: y :: l).length = (pre ++ y :: x :: l).length := by simp
  unfold detL
  rw [len]
  obtain ⟨k, hk⟩ : ∃ k, k = pre.length := ⟨_, rfl⟩
  have hl : k + 1 < (pre ++ y :: x :: l).length := by rw [hk]; simp
  generalize hn : (pre ++ y :: x :: l).length = n at hl
  let τ : Nat → Nat := fun a => if a = k then k + 1 else if a = k + 1 then k else a
  have ev : ∀ a, atL (pre ++ x :: y :: l) a = atL (pre ++ y :: x :: l) (τ a) := fun a => by
    show _ = atL _ (if a = k then k + 1 else if a = k + 1 then k else a)
    rw [atL_app, atL_app, ← hk]
    by_cases h1 : a = k
    · subst h1
      rw [if_neg (by omega), if_pos rfl, if_neg (by omega), Nat.sub_self, show a + 1 - a = 1 by omega]
      rfl
    · by_cases h2 : a = k + 1
      · rw [if_neg h1, if_pos h2, if_neg (by omega), if_neg (by omega), h2, Nat.sub_self, show k + 1 - k = 1 by omega]
        rfl
      · rw [if_neg h1, if_neg h2]
        by_cases h3 : a < k
        · rw [if_pos h3, if_pos h3]
        · rw [if_neg h3, if_neg h3]
          obtain ⟨c, hc⟩ : ∃ c, a - k = c + 2 := ⟨a - k - 2, by omega⟩
          rw [hc]
          rfl
  have e1 : (det n fun a b => F (atL (pre ++ x :: y :: l) a) (atL (pre ++ x :: y :: l) b)) = det n (xM (fun a b => F (atL (pre ++ y :: x :: l) a) (atL (pre ++ x :: y :: l) b)) k (k + 1)) := det_congr fun a b _ _ => by
    rw [ev a]
    unfold xM
    show F (atL _ (if a = k then k + 1 else if a = k + 1 then k else a)) _ = _
    split
    · rfl
    · split <;> rfl
  rw [e1, det_swap (by omega) hl (by omega), ← det_turn]
  have e2 : (det n fun a b => F (atL (pre ++ y :: x :: l) b) (atL (pre ++ x :: y :: l) a)) = det n (xM (fun a b => F (atL (pre ++ y :: x :: l) b) (atL (pre ++ y :: x :: l) a)) k (k + 1)) := det_congr fun a b _ _ => by
    rw [ev a]
    unfold xM
    show F _ (atL _ (if a = k then k + 1 else if a = k + 1 then k else a)) = _
    split
    · rfl
    · split <;> rfl
  rw [e2, det_swap (by omega) hl (by omega), Int.neg_neg]
  exact det_turn (M := fun a b => F (atL (pre ++ y :: x :: l) a) (atL (pre ++ y :: x :: l) b))
theorem detL_perm (F : Nat → Nat → Int) {l l' : List Nat} (h : l.Perm l') : ∀ pre : List Nat, detL F (pre ++ l) = detL F (pre ++ l') := by
  induction h with
  | nil => exact fun _ => rfl
  | cons x _ ih =>
    intro pre
    have := ih (pre ++ [x])
    simpa using this
  | swap x y l => exact fun pre => detL_swap F pre l y x
  | trans _ _ a b => exact fun pre => (a pre).trans (b pre)

end M
namespace M
/-! worths of tables of shares: at least the product, exactly for closed lots; a number more; each with a prime -/
theorem sumR_Sg (f : Nat → Int) : ∀ n : Nat, sumR f n = Sg n fun i => f (i + 1)
  | 0 => rfl
  | n + 1 => by
    show sumR f n + f (n + 1) = Sg n _ + f (n + 1)
    rw [sumR_Sg f n]
theorem sumL_Sg (f : Nat → Int) : ∀ n : Nat, ((List.range n).map f).sum = Sg n f
  | 0 => rfl
  | n + 1 => by
    rw [List.range_succ, List.map_append, List.sum_append, sumL_Sg f n]
    show _ + (f n + 0) = Sg n f + f n
    omega
def gcdF (x y : Nat) : Int := (Nat.gcd x y : Nat)
def wL (l : List Nat) : Int := detL gcdF l
def phP : List Nat → Int
  | [] => 1
  | x :: l => phN x * phP l
def eD (x d : Nat) : Int := if d + 1 ∣ x then 1 else 0
theorem le_sumL : ∀ {l : List Nat} {y : Nat}, y ∈ l → y ≤ l.sum
  | x :: l, y, h => by
    rw [List.sum_cons]
    rcases List.mem_cons.mp h with z | z
    · omega
    · have := le_sumL z
      omega
theorem gcd_sum {x y K : Nat} (hx : 1 ≤ x) (hK : x ≤ K) : gcdF x y = Sg K fun d => phN (d + 1) * (eD x d * eD y d) := by
  have g1 : 0 < Nat.gcd x y := Nat.gcd_pos_of_pos_left y hx
  have g2 : Nat.gcd x y ≤ K := Nat.le_trans (Nat.le_of_dvd hx (Nat.gcd_dvd_left x y)) hK
  unfold gcdF
  rw [← gauss g1, ← dsum_more g1 g2, sumR_Sg]
  refine Sg_congr fun d _ => ?_
  unfold eD
  by_cases a : d + 1 ∣ x <;> by_cases b : d + 1 ∣ y
  · rw [if_pos a, if_pos b, if_pos (Nat.dvd_gcd a b)]
    omega
  · rw [if_pos a, if_neg b, if_neg fun z => b (Nat.dvd_trans z (Nat.gcd_dvd_right x y))]
    omega
  · rw [if_neg a, if_neg fun z => a (Nat.dvd_trans z (Nat.gcd_dvd_left x y))]
    omega
  · rw [if_neg b, if_neg fun z => b (Nat.dvd_trans z (Nat.gcd_dvd_right x y))]
    omega
theorem atL_mem {l : List Nat} {a : Nat} (h : a < l.length) : atL l a ∈ l := by
  unfold atL
  rw [List.getD_eq_getElem?_getD, List.getElem?_eq_getElem h, Option.getD_some]
  exact List.getElem_mem h
theorem wL_more {x K : Nat} {l : List Nat} (p : Nat → Bool) (hx : 1 ≤ x) (hK : x ≤ K) (pos : ∀ y ∈ l, 1 ≤ y ∧ y ≤ K) (hp : ∀ d, p d = true → d ∣ x ∧ ∀ y ∈ l, ¬ d ∣ y) : (Sg K fun d => if p (d + 1) = true then phN (d + 1) else 0) * wL l ≤ wL (x :: l) := by
  let E : Nat → Nat → Int := fun a d => eD (atL (x :: l) a) d
  let wt : Nat → Int := fun d => if p (d + 1) = true then 0 else phN (d + 1)
  have wn : ∀ d, d < K → 0 ≤ wt d := fun d _ => by
    show 0 ≤ if p (d + 1) = true then 0 else phN (d + 1)
    split
    · exact Int.le_refl 0
    · have := ph_pos (n := d + 1) (by omega)
      omega
  have ps := psd_gram (n := (x :: l).length) (K := K) (w := wt) (E := E) wn
  have dn := psd_det ps
  have ok : ∀ a, a < l.length + 1 → 1 ≤ atL (x :: l) a ∧ atL (x :: l) a ≤ K := fun a ha => by
    rcases List.mem_cons.mp (atL_mem (l := x :: l) ha) with z | z
    · rw [z]
      exact ⟨hx, hK⟩
    · exact pos _ z
  have h0 : gcdF (atL (x :: l) 0) (atL (x :: l) 0) = (Sg K fun d => wt d * (E 0 d * E 0 d)) + Sg K fun d => if p (d + 1) = true then phN (d + 1) else 0 := by
    rw [gcd_sum (ok 0 (by omega)).1 (ok 0 (by omega)).2, ← Sg_add]
    refine Sg_congr fun d _ => ?_
    show phN (d + 1) * (eD x d * eD x d) = (if p (d + 1) = true then 0 else phN (d + 1)) * (eD x d * eD x d) + _
    by_cases c : p (d + 1) = true
    · rw [if_pos c, if_pos c]
      unfold eD
      rw [if_pos (hp _ c).1]
      omega
    · rw [if_neg c, if_neg c, Int.add_zero]
  have h1 : ∀ i j, i < l.length + 1 → j < l.length + 1 → (i ≠ 0 ∨ j ≠ 0) → gcdF (atL (x :: l) i) (atL (x :: l) j) = Sg K fun d => wt d * (E i d * E j d) := fun i j hi hj hij => by
    rw [gcd_sum (ok i hi).1 (ok i hi).2]
    refine Sg_congr fun d _ => ?_
    show phN (d + 1) * (eD (atL (x :: l) i) d * eD (atL (x :: l) j) d) = (if p (d + 1) = true then 0 else phN (d + 1)) * (eD (atL (x :: l) i) d * eD (atL (x :: l) j) d)
    by_cases c : p (d + 1) = true
    · have z : ∀ k, k < l.length + 1 → k ≠ 0 → eD (atL (x :: l) k) d = 0 := fun k hk h0 => by
        obtain ⟨m, rfl⟩ : ∃ m, k = m + 1 := ⟨k - 1, by omega⟩
        exact if_neg ((hp _ c).2 _ (atL_mem (l := l) (by omega)))
      rcases hij with q | q
      · rw [z i hi q, Int.zero_mul, Int.mul_zero, Int.mul_zero]
      · rw [z j hj q, Int.mul_zero, Int.mul_zero, Int.mul_zero]
    · rw [if_neg c]
  have e := det_head (n := l.length) (B := fun a b => gcdF (atL (x :: l) a) (atL (x :: l) b)) (A := fun i j => Sg K fun d => wt d * (E i d * E j d)) h0 h1
  have e2 : (det l.length fun a b => (fun i j => Sg K fun d => wt d * (E i d * E j d)) (a + 1) (b + 1)) = wL l := by
    unfold wL detL
    refine det_congr fun a b ha hb => ?_
    exact (h1 (a + 1) (b + 1) (by omega) (by omega) (.inl (by omega))).symm
  rw [e2] at e
  have e : wL (x :: l) = _ := e
  have dn : 0 ≤ det (l.length + 1) fun i j => Sg K fun d => wt d * (E i d * E j d) := dn
  rw [e]
  omega
theorem wL_cons {x : Nat} {l : List Nat} (hx : 1 ≤ x) (pos : ∀ y ∈ l, 1 ≤ y) (nd : ∀ y ∈ l, ¬ x ∣ y) : phN x * wL l ≤ wL (x :: l) := by
  have h := wL_more (K := x + l.sum) (x := x) (l := l) (fun d => decide (d = x)) hx (by omega) (fun y hy => ⟨pos y hy, by have := le_sumL hy; omega⟩) fun d hd => by
    have hd := of_decide_eq_true hd
    subst hd
    exact ⟨Nat.dvd_refl _, nd⟩
  rw [Sg_one (r := x - 1) (by omega) fun i _ hi => if_neg fun z => hi (by have := of_decide_eq_true z; omega)] at h
  rw [show x - 1 + 1 = x by omega, if_pos (decide_eq_true rfl)] at h
  exact h
theorem wL_cons2 {x d0 : Nat} {l : List Nat} (hx : 1 ≤ x) (pos : ∀ y ∈ l, 1 ≤ y) (nd : ∀ y ∈ l, ¬ x ∣ y) (h1 : d0 ∣ x) (h2 : d0 ≠ x) (h3 : ∀ y ∈ l, ¬ d0 ∣ y) : (phN x + phN d0) * wL l ≤ wL (x :: l) := by
  have d1 : 1 ≤ d0 := Nat.pos_of_dvd_of_pos h1 hx
  have d2 : d0 ≤ x := Nat.le_of_dvd hx h1
  have h := wL_more (K := x + l.sum) (x := x) (l := l) (fun d => decide (d = x ∨ d = d0)) hx (by omega) (fun y hy => ⟨pos y hy, by have := le_sumL hy; omega⟩) fun d hd => by
    rcases of_decide_eq_true hd with z | z
    · subst z
      exact ⟨Nat.dvd_refl _, nd⟩
    · subst z
      exact ⟨h1, h3⟩
  have e : (Sg (x + l.sum) fun d => if decide (d + 1 = x ∨ d + 1 = d0) = true then phN (d + 1) else 0) = phN x + phN d0 := by
    rw [show (fun d => if decide (d + 1 = x ∨ d + 1 = d0) = true then phN (d + 1) else 0) = fun d => (if d + 1 = x then phN (d + 1) else 0) + if d + 1 = d0 then phN (d + 1) else 0 from ?_, Sg_add, Sg_one (r := x - 1) (by omega) fun i _ hi => if_neg (by omega), Sg_one (r := d0 - 1) (by omega) fun i _ hi => if_neg (by omega)]
    · rw [if_pos (by omega), if_pos (by omega), show x - 1 + 1 = x by omega, show d0 - 1 + 1 = d0 by omega]
    · funext d
      by_cases c1 : d + 1 = x
      · rw [if_pos c1, if_neg (show ¬ d + 1 = d0 by omega), if_pos (decide_eq_true (Or.inl c1)), Int.add_zero]
      · rw [if_neg c1, Int.zero_add]
        by_cases c2 : d + 1 = d0
        · rw [if_pos c2, if_pos (decide_eq_true (Or.inr c2))]
        · rw [if_neg c2, if_neg (fun z => by rcases of_decide_eq_true z with y | y <;> omega)]
  rw [e] at h
  exact h
theorem wL_perm {l l' : List Nat} (h : l.Perm l') : wL l = wL l' := by
  have := detL_perm gcdF h []
  exact this
theorem phP_perm {l l' : List Nat} (h : l.Perm l') : phP l = phP l' := by
  induction h with
  | nil => rfl
  | cons x _ ih => show phN x * _ = phN x * _; rw [ih]
  | swap x y l => show phN y * (phN x * phP l) = phN x * (phN y * phP l); grind
  | trans _ _ a b => exact a.trans b
theorem phP_pos : ∀ {l : List Nat}, (∀ y ∈ l, 1 ≤ y) → 1 ≤ phP l
  | [], _ => Int.le_refl 1
  | x :: l, h => by
    have a := ph_pos (h x List.mem_cons_self)
    have b := phP_pos fun y hy => h y (List.mem_cons_of_mem x hy)
    have := Int.mul_le_mul a b (by decide) (by omega)
    show 1 ≤ phN x * phP l
    omega
/-- falling numbers: at least the product -/
theorem wL_ge : ∀ {l : List Nat}, l.Pairwise (· > ·) → (∀ y ∈ l, 1 ≤ y) → phP l ≤ wL l
  | [], _, _ => by show (1 : Int) ≤ 1; exact Int.le_refl 1
  | x :: l, hl, h => by
    obtain ⟨h1, h2⟩ := List.pairwise_cons.mp hl
    have ih := wL_ge h2 fun y hy => h y (List.mem_cons_of_mem x hy)
    have a := ph_pos (h x List.mem_cons_self)
    have c := wL_cons (h x List.mem_cons_self) (fun y hy => h y (List.mem_cons_of_mem x hy)) fun y hy z => by
      have := Nat.le_of_dvd (h y (List.mem_cons_of_mem x hy)) z
      have := h1 y hy
      omega
    have m := Int.mul_le_mul_of_nonneg_left ih (show 0 ≤ phN x by omega)
    show phN x * phP l ≤ _
    omega
theorem wL_ge_up {l : List Nat} (hl : l.Pairwise (· < ·)) (h : ∀ y ∈ l, 1 ≤ y) : phP l ≤ wL l := by
  rw [wL_perm (List.reverse_perm l).symm, phP_perm (List.reverse_perm l).symm]
  exact wL_ge (List.pairwise_reverse.mpr hl) fun y hy => h y (List.mem_reverse.mp hy)
/-- closed lots -/
def ClL (l : List Nat) : Prop := ∀ x ∈ l, ∀ d, d ∣ x → d ∈ l
theorem det_EDE {n : Nat} {F E : Nat → Nat → Int} {w : Nat → Int} (h1 : ∀ t, t < n → E t t = 1) (h0 : ∀ a t, a < n → t < n → a < t → E a t = 0) (hF : ∀ i j, i < n → j < n → F i j = Sg n fun t => E i t * w t * E j t) : det n F = prodF w n := by
  have eE : det n E = 1 := by
    rw [det_low fun a b ha hb hab => h0 a b ha hb hab]
    have : ∀ m, m ≤ n → prodF (fun i => E i i) m = 1 := fun m => by
      induction m with
      | zero => exact fun _ => rfl
      | succ m ih =>
        intro hm
        show prodF _ m * E m m = 1
        rw [ih (by omega), h1 m (by omega)]
        rfl
    exact this n (Nat.le_refl n)
  have e : det n F = det n (mulD n E fun t j => w t * E j t) := det_congr fun i j hi hj => by
    rw [hF i j hi hj]
    unfold mulD
    exact Sg_congr fun t _ => Int.mul_assoc _ _ _
  rw [e, det_mul, eE, Int.one_mul, det_mulRows (M := fun t j => E j t), det_turn, eE, Int.mul_one]
def prL (f : Nat → Int) : List Nat → Int
  | [] => 1
  | x :: l => f x * prL f l
theorem prL_ph : ∀ l, prL phN l = phP l
  | [] => rfl
  | x :: l => by show phN x * _ = phN x * _; rw [prL_ph l]
theorem prodF_app (f : Nat → Int) (l : List Nat) : prodF (fun t => f (atL l t)) l.length = prL f l := by
  have sh : ∀ (f : Nat → Int) m, prodF f (m + 1) = f 0 * prodF (fun i => f (i + 1)) m := fun f m => by
    induction m with
    | zero => show 1 * f 0 = f 0 * 1; omega
    | succ m ih =>
      show prodF f (m + 1) * f (m + 1) = f 0 * (prodF (fun i => f (i + 1)) m * f (m + 1))
      rw [ih, Int.mul_assoc]
  induction l with
  | nil => rfl
  | cons x l ih =>
    rw [List.length_cons, sh]
    show f x * prodF (fun t => f (atL l t)) l.length = f x * prL f l
    rw [ih]
theorem atL_lt {l : List Nat} (hl : l.Pairwise (· < ·)) {a b : Nat} (h : a < b) (hb : b < l.length) : atL l a < atL l b := by
  unfold atL
  rw [List.getD_eq_getElem?_getD, List.getD_eq_getElem?_getD, List.getElem?_eq_getElem hb, List.getElem?_eq_getElem (by omega)]
  exact List.pairwise_iff_getElem.mp hl a b (by omega) hb h
theorem atL_of {l : List Nat} {d : Nat} (h : d ∈ l) : ∃ t, t < l.length ∧ atL l t = d := by
  obtain ⟨t, ht, e⟩ := List.getElem_of_mem h
  refine ⟨t, ht, ?_⟩
  unfold atL
  rw [List.getD_eq_getElem?_getD, List.getElem?_eq_getElem ht, Option.getD_some, e]
theorem wL_closed {l : List Nat} (hl : l.Pairwise (· < ·)) (h : ∀ y ∈ l, 1 ≤ y) (c : ClL l) : wL l = phP l := by
  rw [← prL_ph, ← prodF_app]
  unfold wL detL
  refine det_EDE (E := fun a t => if atL l t ∣ atL l a then 1 else 0) (fun t _ => if_pos (Nat.dvd_refl _)) (fun a t ha ht hat => if_neg fun z => ?_) fun i j hi hj => ?_
  · have := Nat.le_of_dvd (h _ (atL_mem ha)) z
    have := atL_lt hl hat ht
    omega
  · rw [← sumL_Sg]
    exact (share_sumE (h := atL l) (m := l.length) (fun a b hab hb => atL_lt hl hab hb) (fun t ht => h _ (atL_mem ht)) (h _ (atL_mem hi)) fun d hd => atL_of (c _ (atL_mem hi) d hd)).symm
/-- one number more, that goes into none: equal exactly if what it has is there -/
theorem wL_late {x : Nat} {l m : List Nat} (hl : l.Pairwise (· < ·)) (h : ∀ y ∈ l, 1 ≤ y) (c : ClL l) (hx : 1 ≤ x) (nx : x ∉ l) (hm : m.Pairwise (· < ·)) (pm : m.Perm (x :: l)) : phN x * wL l ≤ wL m ∧ (wL m = phN x * wL l ↔ ClL m) := by
  have nd : ∀ y ∈ l, ¬ x ∣ y := fun y hy z => nx (c y hy x z)
  have mp : ∀ y, y ∈ m ↔ y = x ∨ y ∈ l := fun y => by rw [pm.mem_iff, List.mem_cons]
  have hm1 : ∀ y ∈ m, 1 ≤ y := fun y hy => by
    rcases (mp y).mp hy with z | z
    · rw [z]; exact hx
    · exact h y z
  have lp : 1 ≤ wL l := by
    rw [wL_closed hl h c]
    exact phP_pos h
  rw [wL_perm pm]
  refine ⟨wL_cons hx h nd, fun e => ?_, fun cm => ?_⟩
  · refine Classical.byContradiction fun nc => ?_
    have : ∃ d0, d0 ∣ x ∧ d0 ≠ x ∧ ∀ y ∈ l, ¬ d0 ∣ y := by
      refine Classical.byContradiction fun no => nc fun y hy d hd => ?_
      rcases (mp y).mp hy with z | z
      · subst z
        by_cases q : d = y
        · exact (mp d).mpr (.inl q)
        · refine Classical.byContradiction fun nm => no ⟨d, hd, q, fun y' hy' z' => nm ((mp d).mpr (.inr (c y' hy' d z')))⟩
      · exact (mp d).mpr (.inr (c y z d hd))
    obtain ⟨d0, h1, h2, h3⟩ := this
    have g := wL_cons2 hx h nd h1 h2 h3
    have p0 := ph_pos (Nat.pos_of_dvd_of_pos h1 hx)
    have m1 := Int.mul_le_mul p0 lp (by decide) (by omega)
    rw [Int.add_mul] at g
    omega
  · rw [← wL_perm pm, wL_closed hm hm1 cm, phP_perm pm, wL_closed hl h c]
    rfl
/-- the worth is the product exactly if the lot is closed -/
theorem wL_eq : ∀ {l : List Nat}, l.Pairwise (· > ·) → (∀ y ∈ l, 1 ≤ y) → wL l = phP l → ClL l
  | [], _, _, _ => fun x hx => by cases hx
  | x :: l, hl, h, e => by
    obtain ⟨h1, h2⟩ := List.pairwise_cons.mp hl
    have hp : ∀ y ∈ l, 1 ≤ y := fun y hy => h y (List.mem_cons_of_mem x hy)
    have hx := h x List.mem_cons_self
    have nd : ∀ y ∈ l, ¬ x ∣ y := fun y hy z => by
      have := Nat.le_of_dvd (hp y hy) z
      have := h1 y hy
      omega
    have ge := wL_ge h2 hp
    have a := ph_pos hx
    have c := wL_cons hx hp nd
    have m := Int.mul_le_mul_of_nonneg_left ge (show 0 ≤ phN x by omega)
    have e : wL (x :: l) = phN x * phP l := e
    have el : wL l = phP l := Int.eq_of_mul_eq_mul_left (show phN x ≠ 0 by omega) (by omega)
    have cl := wL_eq h2 hp el
    have pr : (x :: l).Perm (l.reverse ++ [x]) := by
      rw [← List.reverse_cons]
      exact (List.reverse_perm _).symm
    have rl : l.reverse.Pairwise (· < ·) := List.pairwise_reverse.mpr h2
    have w := wL_late (x := x) (l := l.reverse) (m := l.reverse ++ [x]) rl (fun y hy => hp y (List.mem_reverse.mp hy)) (fun y hy d hd => List.mem_reverse.mpr (cl y (List.mem_reverse.mp hy) d hd)) hx (fun z => by have := h1 x (List.mem_reverse.mp z); omega)
      (List.pairwise_append.mpr ⟨rl, List.pairwise_singleton _ _, fun y hy z hz => by rw [List.mem_singleton.mp hz]; exact h1 y (List.mem_reverse.mp hy)⟩) (pr.symm.trans (List.Perm.cons x (List.reverse_perm l).symm))
    have cm := w.2.mp (by rw [← wL_perm pr, wL_perm (List.reverse_perm l), el]; exact e)
    exact fun y hy d hd => pr.mem_iff.mpr (cm y (pr.mem_iff.mp hy) d hd)
theorem wL_iff {l : List Nat} (hl : l.Pairwise (· < ·)) (h : ∀ y ∈ l, 1 ≤ y) : wL l = phP l ↔ ClL l := by
  refine ⟨fun e => ?_, wL_closed hl h⟩
  have c := wL_eq (l := l.reverse) (List.pairwise_reverse.mpr hl) (fun y hy => h y (List.mem_reverse.mp hy)) (by rw [wL_perm (List.reverse_perm l), phP_perm (List.reverse_perm l)]; exact e)
  exact fun y hy d hd => List.mem_reverse.mp (c y (List.mem_reverse.mpr hy) d hd)
/-- all times a number -/
theorem atL_map {f : Nat → Nat} {l : List Nat} {a : Nat} (h : a < l.length) : atL (l.map f) a = f (atL l a) := by
  unfold atL
  rw [List.getD_eq_getElem?_getD, List.getD_eq_getElem?_getD, List.getElem?_map, List.getElem?_eq_getElem h]
  rfl
theorem wL_times {c : Nat} {l : List Nat} : wL (l.map fun x => c * x) = (c : Int) ^ l.length * wL l := by
  unfold wL detL
  rw [List.length_map, ← det_smul]
  refine det_congr fun a b ha hb => ?_
  rw [atL_map ha, atL_map hb]
  unfold gcdF
  rw [Nat.gcd_mul_left, Int.natCast_mul]
/-- each with and without a prime -/
theorem wL_both {p : Nat} (hp : Pr p) {l : List Nat} (nd : ∀ y ∈ l, ¬ p ∣ y) : wL (l.map (fun x => p * x) ++ l) = ((p : Int) - 1) ^ l.length * wL l * wL l := by
  have gc : ∀ x y, ¬ p ∣ y → Nat.gcd (p * x) y = Nat.gcd x y := fun x y hy => Nat.Coprime.gcd_mul_left_cancel x (hp.coprime hy)
  obtain ⟨n, hn⟩ : ∃ n, n = l.length := ⟨_, rfl⟩
  have at1 : ∀ a, a < n → atL (l.map (fun x => p * x) ++ l) a = p * atL l a := fun a ha => by
    rw [atL_app, if_pos (by rw [List.length_map]; omega), atL_map (by omega)]
  have at2 : ∀ a, atL (l.map (fun x => p * x) ++ l) (n + a) = atL l a := fun a => by
    rw [atL_app, if_neg (by rw [List.length_map]; omega), List.length_map, ← hn, show n + a - n = a by omega]
  unfold wL detL
  rw [List.length_append, List.length_map, ← hn]
  rw [← det_addAll (m := n) (c := fun a k => if k = a then -1 else 0) (r := fun k => n + k) n (by omega) fun k hk => ⟨by omega, by omega⟩]
  have pick : ∀ (a b : Nat), a < n → (Sg n fun k => (if k = a then (-1 : Int) else 0) * gcdF (atL (l.map (fun x => p * x) ++ l) (n + k)) b) = - gcdF (atL l a) b := fun a b ha => by
    rw [Sg_one ha fun k _ hk => by rw [if_neg hk, Int.zero_mul], if_pos rfl, at2]
    omega
  rw [det_blocks (n := n) (m := n) (A := fun a b => ((p : Int) - 1) * gcdF (atL l a) (atL l b)) (B := fun a b => gcdF (atL l a) (atL l b)) (fun a b ha hb => ?_) (fun a b ha hb => ?_) (fun a b ha hb => ?_), det_smul]
  · rw [if_pos ha, pick a _ ha, at1 a ha, at1 b hb]
    unfold gcdF
    rw [Nat.gcd_mul_left, Int.natCast_mul, Nat.gcd_comm (atL l a) (p * atL l b), gc _ _ (nd _ (atL_mem (by omega))), Nat.gcd_comm (atL l b)]
    grind
  · rw [if_pos ha, pick a _ ha, at1 a ha, at2]
    unfold gcdF
    rw [gc _ _ (nd _ (atL_mem (by omega)))]
    omega
  · rw [if_neg (by omega), at2, at2]
theorem phP_both {p : Nat} (hp : Pr p) : ∀ {l : List Nat}, (∀ y ∈ l, ¬ p ∣ y ∧ 1 ≤ y) → phP (l.map (fun x => p * x) ++ l) = ((p : Int) - 1) ^ l.length * phP l * phP l := by
  have app : ∀ (a b : List Nat), phP (a ++ b) = phP a * phP b := fun a b => by
    induction a with
    | nil => show _ = 1 * _; rw [Int.one_mul]; rfl
    | cons x a ih => show phN x * phP (a ++ b) = phN x * phP a * phP b; rw [ih, Int.mul_assoc]
  intro l h
  rw [app]
  congr 1
  induction l with
  | nil =>
    show (1 : Int) = ((p : Int) - 1) ^ 0 * 1
    rw [Int.pow_zero]
    rfl
  | cons x l ih =>
    have := h x List.mem_cons_self
    show phN (p * x) * phP (l.map fun x => p * x) = ((p : Int) - 1) ^ (l.length + 1) * (phN x * phP l)
    rw [ih fun y hy => h y (List.mem_cons_of_mem x hy), ph_mul hp this.1 this.2, Int.pow_succ]
    grind
theorem cl_both {p : Nat} (hp : Pr p) {l m : List Nat} (nd : ∀ y ∈ l, ¬ p ∣ y) (hm : ∀ y, y ∈ m ↔ y ∈ l ∨ ∃ x ∈ l, y = p * x) : ClL m ↔ ClL l := by
  have p0 : 0 < p := by have := hp.1; omega
  constructor
  · intro c x hx d hd
    rcases (hm d).mp (c x ((hm x).mpr (.inl hx)) d hd) with z | ⟨y, hy, rfl⟩
    · exact z
    · exact absurd (Nat.dvd_trans (Nat.dvd_mul_right p y) hd) (nd x hx)
  · intro c y hy d hd
    rcases (hm y).mp hy with z | ⟨x, hx, rfl⟩
    · exact (hm d).mpr (.inl (c y z d hd))
    · by_cases q : p ∣ d
      · obtain ⟨k, rfl⟩ := q
        exact (hm _).mpr (.inr ⟨k, c x hx k (Nat.dvd_of_mul_dvd_mul_left p0 hd), rfl⟩)
      · refine (hm d).mpr (.inl (c x hx d ?_))
        exact Nat.Coprime.dvd_of_dvd_mul_left (Nat.Coprime.symm (hp.coprime q)) hd

end M
namespace M
open PySem PySem.Spec PyProof.Rows L2 G LamX RZ
section
variable {P : Program} {w : World} {K : PySem.W.Frag} {mg : Str → Option Value} {base : Heap}
/-! divisors as a list, by their sums: the very list -/
theorem DivL.mem {ns : List Int} {n : Nat} (h : DivL ns n) (hn : 1 ≤ n) (x : Int) : x ∈ ns ↔ ∃ d : Nat, x = (d : Int) ∧ d ∣ n := by
  refine ⟨h.2 x, fun ⟨d, e, hd⟩ => Classical.byContradiction fun hx => ?_⟩
  have a := h.1 fun y => if y = x then 1 else 0
  have b : (ns.map fun y => if y = x then (1 : Int) else 0).sum = 0 := by
    have : (ns.map fun y => if y = x then (1 : Int) else 0) = ns.map fun _ => 0 := List.map_congr_left fun y hy => if_neg fun z : y = x => hx (z ▸ hy)
    rw [this]
    clear this a hx h
    induction ns with
    | nil => rfl
    | cons z l ih => rw [List.map_cons, List.sum_cons, ih]; rfl
  rw [b] at a
  have c : dsum (fun k => if ((k : Nat) : Int) = x then (1 : Int) else 0) n = 1 := by
    unfold dsum
    rw [sumR_one (k := d) (Nat.pos_of_dvd_of_pos hd hn) (Nat.le_of_dvd hn hd) (fun i _ _ hi => ?_), if_pos hd]
    · exact if_pos e.symm
    · split
      · exact if_neg (by omega)
      · rfl
  rw [c] at a
  exact absurd a (by decide)
theorem DivL.short {ns : List Int} {n : Nat} (h : DivL ns n) (hn : 1 ≤ n) : ns.length ≤ 2 * n := by
  have := h.len
  have := tau_2n hn
  omega
theorem DivL.nodup {ns : List Int} {n : Nat} (h : DivL ns n) (hn : 1 ≤ n) : ns.Nodup := by
  refine List.nodup_iff_count.mpr fun x => ?_
  have e : ((ns.count x : Nat) : Int) = (ns.map fun y => if y = x then (1 : Int) else 0).sum := by
    clear h
    induction ns with
    | nil => rfl
    | cons y l ih =>
      rw [List.map_cons, List.sum_cons, ← ih, List.count_cons]
      by_cases c : y = x
      · rw [if_pos c, if_pos (by simp [c])]
        omega
      · rw [if_neg c, if_neg (by simp [c])]
        omega
  rw [h.1 fun y => if y = x then 1 else 0] at e
  have l : dsum (fun d => if ((d : Nat) : Int) = x then (1 : Int) else 0) n ≤ 1 := by
    unfold dsum
    by_cases c : ∃ k : Nat, 1 ≤ k ∧ k ≤ n ∧ (k : Int) = x
    · obtain ⟨k, k1, k2, rfl⟩ := c
      rw [sumR_one (k := k) k1 k2 (fun i _ _ hi => ?_)]
      · show (if k ∣ n then (if ((k : Nat) : Int) = (k : Int) then (1 : Int) else 0) else 0) ≤ 1
        rw [if_pos rfl]
        split <;> decide
      · split
        · exact if_neg (by omega)
        · rfl
    · rw [sumR_zero fun i h1 h2 => ?_]
      · decide
      · split
        · exact if_neg fun z => c ⟨i, h1, h2, z⟩
        · rfl
  omega
theorem DivL.eq {ns : List Int} {n : Nat} (h : DivL ns n) (so : ns.Pairwise (· ≤ ·)) (hn : 1 ≤ n) : ns = (divsL n).map fun d : Nat => (d : Int) :=
  sorted_uniq (sorted_lt so (h.nodup hn)) (divsL_lt n) fun x => by
    rw [h.mem hn, List.mem_map]
    exact ⟨fun ⟨d, e, hd⟩ => ⟨d, (mem_divsL hn).mpr hd, e.symm⟩, fun ⟨d, hd, e⟩ => ⟨d, e.symm, (mem_divsL hn).mp hd⟩⟩
theorem cut_last (xs : List V) : cutV xs none (some (-1)) = xs.dropLast := by
  unfold cutV
  rw [HT.sIx_none, List.drop_zero, Nat.sub_zero, List.dropLast_eq_take]
  congr 1
  show (if (-1 : Int) < 0 then (-1 + (xs.length : Int)).toNat else min (-1 : Int).toNat xs.length) = xs.length - 1
  rw [if_pos (by decide)]
  omega

end
end M
namespace M
open PySem PySem.Spec PyProof.Rows L2 G LamX RZ
section
variable {P : Program} {w : World} {K : PySem.W.Frag} {mg : Str → Option Value} {base : Heap}
/-! closed lots, what others lack -/
def ClosedF (n : Nat) (g : Nat → Nat) : Prop := ∀ i, i < n → ∀ d, d ∣ g i → ∃ j, j < n ∧ g j = d
theorem flat_gV {n : Nat} {g : Nat → Nat} : (gV n g).all flatV = true := by
  unfold gV
  rw [List.all_map, List.all_eq_true]
  intro x _
  rfl
theorem inV_gV {n : Nat} {g : Nat → Nat} {d : Nat} : inV (V.int (d : Nat)) (gV n g) = true ↔ ∃ j, j < n ∧ g j = d := by
  unfold inV gV
  rw [List.any_eq_true]
  constructor
  · rintro ⟨x, hx, e⟩
    obtain ⟨j, hj, rfl⟩ := List.mem_map.mp hx
    have : ((g j : Nat) : Int) = (d : Nat) := by simpa [eqV, nV] using e
    exact ⟨j, List.mem_range.mp hj, by omega⟩
  · rintro ⟨j, hj, rfl⟩
    exact ⟨_, List.mem_map.mpr ⟨j, List.mem_range.mpr hj, rfl⟩, by simp [eqV]⟩
/-- the first number with a divisor that lacks, the least one -/
structure LackF (n : Nat) (g : Nat → Nat) (i d : Nat) : Prop where
  lt : i < n
  dv : d ∣ g i
  no : ∀ j, j < n → g j ≠ d
  before : ∀ k, k < i → ∀ e, e ∣ g k → ∃ j, j < n ∧ g j = e
  least : ∀ e, e < d → e ∣ g i → ∃ j, j < n ∧ g j = e
def sp_lacking_of (K : PySem.W.Frag) : Sp := spec1 fun x H Q _ => ∃ (p : Addr) (n : Nat) (g : Nat → Nat), x = .ref p ∧ SqL K H p (gV n g) ∧ LotF n g ∧
  (ClosedF n g → ∀ H', Same H H' → Q .non H') ∧ ∀ i d t H', LackF n g i d → Same H H' → H t = none → H' t = some (.tup [.int (g i : Nat), .int (d : Nat)]) → Q (.ref t) H'
theorem ok_lacking_of {af : Addr} {fd : FuncData} (F : FunD K "lacking_of" "lacking_of" (defArgs s_lacking_of) (defBody s_lacking_of) (defScope s_lacking_of) [] [] af fd) (B : Bt mg) (C_divisors_of : Cl False P w K mg base 2 "divisors_of" 1 [] (sp_divisors_of K)) : FnG False P w K mg base CX0 3 af fd ["numbers"] (sp_lacking_of K) := by
  refine okG F sc_lacking_of ar1 fun cdv A outer s H vs Q E hg hr h => ?_
  refine ⟨_, PSs.nox (pss_cons (ps_for PassesOwn.never rfl ((pi_list (pv 0))) (pg_name (i := 1) sc_lacking_of.nd rfl (.inl rfl))
      (pss_one (ps_for PassesOwn.never rfl ((pi_list (pe_cl C_divisors_of (fun h => h.elim) hr (by decide) rfl (pa_cons (pv 1) pa_nil)))) (pg_name (i := 2) sc_lacking_of.nd rfl (.inl rfl))
        (pss_one (ps_if (pt_cmpR op_notIn_seq (pv 2) (pv 0) (by rfl))
          (pss_one (ps_ret (pe_tup (pa_cons (pv 1) (pa_cons (pv 2) pa_nil)))))
          pss_nil)))))
    (pss_one (ps_ret pe_non))), ?_⟩
  obtain ⟨_, rfl, p, n, g, rfl, hS, L, q1, q2⟩ := h
  have n1 := L.n1
  have n2 := L.n2
  refine ⟨_, rfl, p, rfl, ⟨_, hS⟩, ?_⟩
  refine for_list (K := K) (a := p) (xs := gV n g) (fun i σ H2 => ∃ (y y2 : Option V), σ = [some (.ref p), y, y2] ∧ Same H H2 ∧ ∀ k, k < i → ∀ e, e ∣ g k → ∃ j, j < n ∧ g j = e)
    ⟨none, none, rfl, Same.refl H, fun k hk => (by omega)⟩ (fun i σ H2 _ ⟨_, _, _, z, _⟩ => SqL.same z hS) ?_ ?_
  · rintro i x σ H2 hx ⟨y, y2, rfl, s2, bf⟩
    obtain ⟨hi, rfl⟩ := gV_get hx
    have i1 := L.lo i hi
    have i2 := L.hi i hi
    refine ⟨_, rfl, _, rfl, g i, rfl, i1, i2, fun r H3 ns s3 hns so e3 => ⟨r, rfl, ⟨_, SqL.of e3⟩, ?_⟩⟩
    have ens := hns.eq so i1
    refine for_list (K := K) (a := r) (xs := ns.map V.int) (fun j σ H4 => ∃ (y2 : Option V), σ = [some (.ref p), some (.int (g i : Nat)), y2] ∧ Same H3 H4 ∧ ∀ k, k < j → ∀ e, (divsL (g i))[k]? = some e → ∃ j, j < n ∧ g j = e)
      ⟨y2, rfl, Same.refl H3, fun k hk => (by omega)⟩ (fun i σ H2 _ ⟨_, _, z, _⟩ => SqL.same z (SqL.of e3)) ?_ ?_
    · rintro k x σ H4 hx ⟨y2, rfl, s4, bk⟩
      rw [ens, List.map_map, List.getElem?_map] at hx
      obtain ⟨d, hz, rfl⟩ := Option.map_eq_some_iff.mp hx
      have hd : d ∣ g i := (mem_divsL i1).mp (List.mem_of_getElem? hz)
      refine ⟨_, rfl, _, rfl, p, _, rfl, .inl (SqL.same ((s2.trans s3).trans s4) hS), rfl, flat_gV, _, rfl, ?_⟩
      by_cases c : ∃ j, j < n ∧ g j = d
      · have e : inV (((V.int ∘ fun d : Nat => (d : Int)) d)) (gV n g) = true := inV_gV.mpr c
        rw [e]
        refine iteF ⟨_, rfl, s4, fun k2 hk2 e he => ?_⟩
        by_cases z : k2 = k
        · rw [z, hz] at he
          cases he
          exact c
        · exact bk k2 (by omega) e he
      · have e : inV (((V.int ∘ fun d : Nat => (d : Int)) d)) (gV n g) = false := by
          rw [Bool.eq_false_iff]
          exact fun z => c (inV_gV.mp z)
        rw [e]
        have s := (s2.trans s3).trans s4
        refine iteT ⟨_, rfl, _, rfl, sz2, fun t ht => q2 i d t _ ⟨hi, hd, fun j hj z => c ⟨j, hj, z⟩, bf, fun e he1 he2 => ?_⟩ (s.new ht) (s.free ht) upd_same⟩
        obtain ⟨k2, hk2, ek⟩ := List.getElem_of_mem ((mem_divsL i1).mpr he2)
        have hk2' : (divsL (g i))[k2]? = some e := by rw [List.getElem?_eq_getElem hk2, ek]
        refine bk k2 ?_ e hk2'
        refine Classical.byContradiction fun z => ?_
        have pw := divsL_lt (g i)
        rw [List.pairwise_map] at pw
        obtain ⟨hk, ed⟩ := List.getElem?_eq_some_iff.mp hz
        by_cases q : k = k2
        · subst q
          rw [hz] at hk2'
          have := Option.some.inj hk2'
          omega
        · have := List.pairwise_iff_getElem.mp pw k k2 hk hk2 (by omega)
          rw [ek, ed] at this
          omega
    · rintro σ H4 ⟨y2, rfl, s4, bk⟩
      refine ⟨_, _, rfl, (s2.trans s3).trans s4, fun k hk e he => ?_⟩
      by_cases z : k = i
      · subst z
        obtain ⟨k2, hk2, ek⟩ := List.getElem_of_mem ((mem_divsL i1).mpr he)
        refine bk k2 ?_ e (by rw [List.getElem?_eq_getElem hk2, ek])
        rw [ens, List.length_map, List.length_map]
        exact hk2
      · exact bf k (by omega) e he
  · rintro σ H2 ⟨y, y2, rfl, s2, bf⟩
    rw [gV_len] at bf
    exact q1 bf _ s2
def sp_is_closed_of (K : PySem.W.Frag) : Sp := spec1 fun x H Q _ => ∃ (p : Addr) (n : Nat) (g : Nat → Nat), x = .ref p ∧ SqL K H p (gV n g) ∧ LotF n g ∧ ∀ (b : Bool) H', (b = true ↔ ClosedF n g) → Same H H' → Q (.bl b) H'
theorem LackF.open {n : Nat} {g : Nat → Nat} {i d : Nat} (h : LackF n g i d) : ¬ ClosedF n g := fun c => by
  obtain ⟨j, hj, e⟩ := c i h.lt d h.dv
  exact h.no j hj e
theorem ok_is_closed_of {af : Addr} {fd : FuncData} (F : FunD K "is_closed_of" "is_closed_of" (defArgs s_is_closed_of) (defBody s_is_closed_of) (defScope s_is_closed_of) [] [] af fd) (B : Bt mg) (C_lacking_of : Cl False P w K mg base 3 "lacking_of" 1 [] (sp_lacking_of K)) : FnG False P w K mg base CX0 4 af fd ["numbers"] (sp_is_closed_of K) := by
  refine okG F sc_is_closed_of ar1 fun cdv A outer s H vs Q E hg hr h => ?_
  refine ⟨_, PSs.nox (pss_one (ps_ret (pe_cmpR op_isN (pe_cl C_lacking_of (fun h => h.elim) hr (by decide) rfl (pa_cons (pv 0) pa_nil)) pe_non (nomark _)))), ?_⟩
  obtain ⟨_, rfl, p, n, g, rfl, hS, L, q⟩ := h
  exact ⟨_, rfl, _, rfl, p, n, g, rfl, hS, L, fun C H1 s1 => ⟨rfl, q true _ ⟨fun _ => C, fun _ => rfl⟩ s1⟩, fun i d t H1 l s1 _ _ => ⟨rfl, q false _ ⟨fun z => (by cases z), fun z => absurd z l.open⟩ s1⟩⟩
def sp_is_closed (K : PySem.W.Frag) : Sp := sp_is_closed_of K
theorem ok_is_closed {af : Addr} {fd : FuncData} (F : FunD K "is_closed" "is_closed" (defArgs s_is_closed) (defBody s_is_closed) (defScope s_is_closed) [] [] af fd) (B : Bt mg) (C_want_lot : Cl False P w K mg base 4 "want_lot" 1 [] (sp_want_lot K)) (C_is_closed_of : Cl False P w K mg base 4 "is_closed_of" 1 [] (sp_is_closed_of K)) : FnG False P w K mg base CX0 5 af fd ["numbers"] (sp_is_closed K) := by
  refine okG F sc_is_closed ar1 fun cdv A outer s H vs Q E hg hr h => ?_
  refine ⟨_, PSs.nox (pss_cons (ps_expr (pe_cl C_want_lot (fun h => h.elim) hr (by decide) rfl (pa_cons (pv 0) pa_nil)))
    (pss_one (ps_ret (pe_cl C_is_closed_of (fun h => h.elim) hr (by decide) rfl (pa_cons (pe_callTy call_list_of (by rfl) B.list (by decide +kernel) (pa_cons (pv 0) pa_nil)) pa_nil))))), ?_⟩
  obtain ⟨_, rfl, p, n, g, rfl, hS, L, q⟩ := h
  refine ⟨_, rfl, _, rfl, p, n, g, rfl, hS, L, fun H1 s1 => ⟨_, rfl, p, _, rfl, .inl (SqL.same s1 hS), fun l hl => ⟨_, rfl, l, n, g, rfl, SqL.of upd_same, L, fun b H2 hb s2 => q b _ hb ((s1.new hl).trans s2)⟩⟩⟩
def sp_closed_paper (K : PySem.W.Frag) : Sp := spec1 fun x H Q _ => ∃ (p : Addr) (n : Nat) (g : Nat → Nat), x = .ref p ∧ SqL K H p (gV n g) ∧ LotF n g ∧
  (ClosedF n g → ∀ t H', Same H H' → H t = none → H' t = some (.tup [.str ("closed" : Str)]) → Q (.ref t) H') ∧ ∀ i d t H', LackF n g i d → Same H H' → H t = none → H' t = some (.tup [.str ("lacks" : Str), .int (g i : Nat), .int (d : Nat)]) → Q (.ref t) H'
end
end M
namespace M
open PySem PySem.Spec PyProof.Rows L2 G LamX RZ
section
variable {P : Program} {w : World} {K : PySem.W.Frag} {mg : Str → Option Value} {base : Heap}
/-! products -/
def prodI (l : List Int) : Int := l.foldl (fun a b => a * b) 1
def sp_product_of (K : PySem.W.Frag) : Sp := spec1 fun x H Q _ => ∃ (p : Addr) (ns : List Int), x = .ref p ∧ SqL K H p (ns.map V.int) ∧ ns.length ≤ 12 ∧ (∀ x ∈ ns, x.natAbs < 2 ^ 300) ∧ ∀ H', Same H H' → Q (.int (prodI ns)) H'
theorem prodI_snoc (ns : List Int) (z : Int) : prodI (ns ++ [z]) = prodI ns * z := by
  unfold prodI
  rw [List.foldl_append]
  rfl
theorem prodI_bits {c : Nat} : ∀ {ns : List Int}, (∀ x ∈ ns, x.natAbs < 2 ^ c) → ∀ i, (prodI (ns.take i)).natAbs ≤ 2 ^ (c * i)
  | ns, h, 0 => by
    rw [List.take_zero]
    exact Nat.le_refl 1
  | ns, h, i + 1 => by
    have ih := prodI_bits h i
    rw [List.take_add_one]
    cases e : ns[i]? with
    | none =>
      simp only [Option.toList, List.append_nil]
      exact Nat.le_trans ih (Nat.pow_le_pow_right (by decide) (Nat.mul_le_mul_left c (by omega)))
    | some z =>
      simp only [Option.toList]
      rw [prodI_snoc, Int.natAbs_mul, Nat.mul_succ, Nat.pow_add]
      exact Nat.mul_le_mul ih (Nat.le_of_lt (h z (List.mem_of_getElem? e)))
def phG (n : Nat) (g : Nat → Nat) : List Int := (List.range n).map fun i => phN (g i)
end
end M
namespace M
open PySem PySem.Spec PyProof.Rows L2 G LamX RZ
section
variable {P : Program} {w : World} {K : PySem.W.Frag} {mg : Str → Option Value} {base : Heap}
/-! the law's own lots, of any numbers -/
/-- numbers as they are drawn -/
structure DrawnX (M : Nat) (ks : List Int) : Prop where
  ne : ks ≠ []
  ok : ∀ x ∈ ks, ∃ k : Nat, x = (k : Int) ∧ 1 ≤ k ∧ k ≤ M
  len : ks.length ≤ 63
/-- the list handed out -/
structure LotX (M : Nat) (ks : List Int) : Prop where
  d : DrawnX M ks
  lt : ks.Pairwise (· < ·)
theorem divsL_ne {n : Nat} (h : 1 ≤ n) : 1 ≤ (divsL n).length := by
  have : 1 ∈ divsL n := (mem_divsL h).mpr (Nat.one_dvd n)
  cases e : divsL n with
  | nil => rw [e] at this; cases this
  | cons => simp
theorem nodup_len : ∀ {a b : List Int}, a.Nodup → (∀ x ∈ a, x ∈ b) → a.length ≤ b.length
  | [], _, _, _ => Nat.zero_le _
  | x :: a, b, h, s => by
    obtain ⟨h1, h2⟩ := List.nodup_cons.mp h
    have hx := s x List.mem_cons_self
    have := nodup_len (b := b.erase x) h2 fun y hy => (List.mem_erase_of_ne (fun z : y = x => h1 (z ▸ hy))).mpr (s y (List.mem_cons_of_mem _ hy))
    rw [List.length_erase_of_mem hx] at this
    have : 1 ≤ b.length := List.length_pos_of_mem hx
    rw [List.length_cons]
    omega
def pickL : List Nat := [1, 2, 4, 6, 8, 9, 12, 16, 18, 20, 25, 27, 28, 30, 45, 49, 50, 63, 81]
theorem pick_ok : ∀ n ∈ pickL, (divsL n).length ≤ 27 ∧ 1 ≤ n ∧ n ≤ 81 := by decide +kernel
def sp__law_lot (K : PySem.W.Frag) : Sp := spec2 fun x y H Q _ => ∃ (a : Addr) (m : Nat), x = .ref a ∧ y = .int m ∧ PotAt H a ∧ 1 ≤ m ∧ m ≤ 1000000 ∧ ∀ r ks H', LotX (max m 81) ks → ks.length ≤ 12 → Grow a H H' → PotAt H' a → r ≠ a → H' r = some (.lst (ks.map V.int)) → Q (.ref r) H'
theorem ok__law_lot {af : Addr} {fd : FuncData} (F : FunD K "_law_lot" "_law_lot" (defArgs s__law_lot) (defBody s__law_lot) (defScope s__law_lot) [] [] af fd) (B : Bt mg) (C__law_draw : Cl False P w K mg base 1 "_law_draw" 2 [] (sp__law_draw K)) (C__law_divisors : Cl False P w K mg base 1 "_law_divisors" 1 [] (sp__law_divisors K)) (C__law_pick : Cl False P w K mg base 2 "_law_pick" 2 [] (sp__law_pick K)) : FnG False P w K mg base CX0 3 af fd ["pot", "most"] (sp__law_lot K) := by
  refine okG F sc__law_lot ar2 fun cdv A outer s H vs Q E hg hr h => ?_
  refine ⟨_, PSs.nox (pss_cons (ps_par (i := 2) (j := 3) (by rfl) sc__law_lot.nd rfl rfl (by decide) rfl rfl (pa_cons (pe_cl C__law_draw (fun h => h.elim) hr (by decide) rfl (pa_cons (pv 0) (pa_cons pe_int pa_nil))) (pa_cons (pe_lst pa_nil) pa_nil)) (by rfl))
    (pss_cutG (ps_if (pt_cmpR op_eq (pv 2) pe_int (nomark _))
      (pss_one (ps_setLc (i := 3) (own := [("more", 4)]) rfl sc__law_lot.nd rfl rfl (sw_true rfl rfl rfl (by decide +kernel)) (pi_range1 rfl B.range (pa_cons (pe_op op_add pe_int (pe_cl C__law_draw (fun h => h.elim) hr (by decide) rfl (pa_cons (pv 0) (pa_cons pe_int pa_nil)))) pa_nil)) (blkOk_by (own := [("more", 4)]) (N := ["pot", "most", "kind", "found", "more", "at"]) (sc := defScope s__law_lot) (by decide +kernel)) (fun _ _ _ _ _ => pg_name (i := 4) sc__law_lot.nd rfl (.inl rfl) (.inr rfl)) (fun _ _ _ _ _ => pts_nil) (fun _ _ _ _ _ => (pe_op op_add pe_int (pe_cl C__law_draw (fun h => h.elim) hr (by decide) rfl (pa_cons (pv 0) (pa_cons (pv 1) pa_nil)))))))
      (pss_one (ps_for PassesOwn.never rfl (pi_range1 rfl B.range (pa_cons (pv 2) pa_nil)) (pg_name (i := 4) sc__law_lot.nd rfl (.inl rfl))
        (pss_one (ps_set (i := 3) sc__law_lot.nd rfl (.inl rfl) (pe_op op_cat (pv 3) (pe_cl C__law_divisors (fun h => h.elim) hr (by decide) rfl (pa_cons (pe_cl C__law_pick (fun h => h.elim) hr (by decide) rfl (pa_cons (pv 0) (pa_cons (pe_lst (pa_cons pe_int (pa_cons pe_int (pa_cons pe_int (pa_cons pe_int (pa_cons pe_int (pa_cons pe_int (pa_cons pe_int (pa_cons pe_int (pa_cons pe_int (pa_cons pe_int (pa_cons pe_int (pa_cons pe_int (pa_cons pe_int (pa_cons pe_int (pa_cons pe_int (pa_cons pe_int (pa_cons pe_int (pa_cons pe_int (pa_cons pe_int pa_nil)))))))))))))))))))) pa_nil))) pa_nil))))))))
    (pss_cons (ps_set (i := 3) sc__law_lot.nd rfl (.inl rfl) (pe_callB (cr_sortedSet rfl) (by rfl) B.sorted (by decide +kernel) (pa_cons (pe_callTy (cr_setL rfl) (by rfl) B.set (by decide +kernel) (pa_cons (pv 3) pa_nil)) pa_nil)))
    (pss_cutG (ps_if (PW.pt (pw_and (pt_cmpR op_eq (pe_cl C__law_draw (fun h => h.elim) hr (by decide) rfl (pa_cons (pv 0) (pa_cons pe_int pa_nil))) pe_int (nomark _)) (pw_and1 (pt_cmpR op_gt (pe_callB call_len_seq (by rfl) B.len (by decide +kernel) (pa_cons (pv 3) pa_nil)) pe_int (nomark _)))))
      (pss_cons (ps_set (i := 5) sc__law_lot.nd rfl (.inl rfl) (pe_cl C__law_draw (fun h => h.elim) hr (by decide) rfl (pa_cons (pv 0) (pa_cons (pe_callB call_len_seq (by rfl) B.len (by decide +kernel) (pa_cons (pv 3) pa_nil)) pa_nil))))
      (pss_one (ps_set (i := 3) sc__law_lot.nd rfl (.inl rfl) (pe_op op_cat (pe_slice sl_list (pv 3) po_none (po_some (pv 5))) (pe_slice sl_list (pv 3) (po_some (pe_op op_add (pv 5) pe_int)) po_none)))))
      pss_nil)
    (pss_one (ps_ret (pe_ifExp (pt_cmpR op_le (pe_callB call_len_seq (by rfl) B.len (by decide +kernel) (pa_cons (pv 3) pa_nil)) pe_int (nomark _)) (pv 3) (pe_lst (pa_cons pe_int (pa_cons pe_int pa_nil)))))))))), ?_⟩
  obtain ⟨_, _, rfl, a, m, rfl, rfl, hp, m1, m2, q⟩ := h
  refine ⟨_, rfl, _, _, rfl, a, 3, rfl, rfl, hp, by decide, by decide, fun kd H1 k0 k1 g1 p1 => ⟨sz0, fun l hl => ⟨_, _, rfl, ?_⟩⟩⟩
  refine ⟨fun σ H2 => ∃ (l : Addr) (ks : List Int) (y : Option V), σ = [some (.ref a), some (.int m), some (.int kd), some (.ref l), y, none] ∧ Grow a H H2 ∧ PotAt H2 a ∧ l ≠ a ∧ H2 l = some (.lst (ks.map V.int)) ∧ DrawnX (max m 81) ks, ⟨_, rfl, rfl, _, rfl, ite2 (fun hc => ?_) (fun hc => ?_)⟩, ?_⟩
  · have pl : PotAt (upd H1 l (.lst [])) a := p1.new hl
    refine ⟨_, rfl, _, _, rfl, a, 7, rfl, rfl, pl, by decide, by decide, fun d H2 d0 d1 g2 p2 => ⟨_, _, rfl, rfl, _, rfl, by omega, by omega, fun D hD => lc_range (lo := 0) (fun i H3 => ∃ ks : List Int, ks.length = i ∧ (∀ x ∈ ks, 1 ≤ x ∧ x ≤ (m : Int)) ∧ H3 D = some (.lst (ks.map V.int)) ∧ Grow a H2 H3 ∧ PotAt H3 a) ⟨[], rfl, fun x hx => (by cases hx), upd_same, (Grow.refl a H2).new hD, p2.new hD⟩ ?_ ?_⟩⟩
    · rintro i H3 hi ⟨ks, hl3, hk, e3, g3, p3⟩
      have Da := p2.ne hD
      refine ⟨rfl, _, rfl, _, rfl, _, _, rfl, a, m, rfl, rfl, p3, by omega, by omega, fun d3 H4 d30 d31 g4 p4 => ⟨_, _, rfl, rfl, ?_⟩⟩
      have e4 := g4 _ _ Da e3
      refine ⟨_, e4, small_lt (by simp; omega), ks ++ [1 + d3], by simp [hl3], fun x hx => ?_, by rw [upd_same, List.map_append]; rfl, fun b o hb e => (upd_ne (ne_of_none e hD)).trans ((g3.trans g4) b o hb e), ?_⟩
      · rcases List.mem_append.mp hx with z | z
        · exact hk x z
        · rw [List.mem_singleton.mp z]
          omega
      · obtain ⟨x, y, e, r⟩ := p4
        exact ⟨x, y, (upd_ne Da.symm).trans e, r⟩
    · rintro H3 ⟨ks, hl3, hk, e3, g3, p3⟩
      have Da := p2.ne hD
      have ok : ∀ x ∈ ks, ∃ k : Nat, x = (k : Int) ∧ 1 ≤ k ∧ k ≤ max m 81 := fun x hx => by
        obtain ⟨x1, x2⟩ := hk x hx
        exact ⟨x.toNat, by omega, by omega, by omega⟩
      refine ⟨D, ks, none, rfl, (g1.new hl).trans (g2.trans g3), p3, Da, e3, ⟨fun z => ?_, ok, by omega⟩⟩
      rw [z] at hl3
      simp at hl3
      omega
  · have k12 : 1 ≤ kd := by
      have : kd ≠ 0 := fun z => hc (decide_eq_true (by rw [z]))
      omega
    refine ⟨_, rfl, _, rfl, by omega, by omega, for_range (lo := 0) (fun i σ H2 => ∃ (l : Addr) (ks : List Int) (y : Option V), σ = [some (.ref a), some (.int m), some (.int kd), some (.ref l), y, none] ∧ Grow a H H2 ∧ PotAt H2 a ∧ l ≠ a ∧ H2 l = some (.lst (ks.map V.int)) ∧ (∀ x ∈ ks, ∃ k : Nat, x = (k : Int) ∧ 1 ≤ k ∧ k ≤ max m 81) ∧ ks.length ≤ 27 * i ∧ (1 ≤ i → ks ≠ []))
      ⟨l, [], none, rfl, g1.new hl, p1.new hl, p1.ne hl, upd_same, fun x hx => (by cases hx), Nat.le_refl 0, fun z => (by omega)⟩ ?_ ?_⟩
    · rintro i σ H2 hi ⟨l, ks, y, rfl, g2, p2, la, e2, ok, wt, ne⟩
      refine ⟨_, rfl, _, rfl, (by show 19 ≤ sizeLine; decide), fun pl hpl => ?_⟩
      refine ⟨_, _, rfl, a, pl, _, rfl, rfl, p2.new hpl, p2.ne hpl, SqL.of upd_same, by decide, by decide, fun v H3 hv g3 p3 => ?_⟩
      obtain ⟨n, hn, rfl⟩ : ∃ n ∈ pickL, v = .int (n : Nat) := by
        have hv : v ∈ pickL.map fun n : Nat => V.int (n : Nat) := hv
        obtain ⟨n, hn, rfl⟩ := List.mem_map.mp hv
        exact ⟨n, hn, rfl⟩
      obtain ⟨w1, n1, n2⟩ := pick_ok n hn
      refine ⟨_, rfl, n, rfl, n1, by omega, fun r H4 s4 hr e4 => ?_⟩
      have e2' := s4 _ _ (g3 _ _ la ((upd_ne (ne_of_none e2 hpl)).trans e2))
      have len4 : (nsV (divsL n)).length ≤ 27 := by rw [nsV_len]; exact w1
      refine ⟨l, r, _, _, rfl, rfl, e2', e4, small_sz (by rw [List.length_map]; omega), fun q hq => ?_⟩
      have p4 := p3.same s4
      refine ⟨q, ks ++ (divsL n).map fun d : Nat => (d : Int), some (.int (0 + (i : Int))), rfl, ((g2.new hpl).trans (g3.trans (Grow.of s4))).new hq, p4.new hq, p4.ne hq, by rw [upd_same, List.map_append, nsV_ints], fun x hx => ?_, by rw [List.length_append, List.length_map]; omega, fun _ z => ?_⟩
      · rcases List.mem_append.mp hx with z | z
        · exact ok x z
        · obtain ⟨d, hd, rfl⟩ := List.mem_map.mp z
          have hd := (mem_divsL n1).mp hd
          have d1 := Nat.pos_of_dvd_of_pos hd n1
          have d2 := Nat.le_of_dvd n1 hd
          exact ⟨d, rfl, d1, by omega⟩
      · have := divsL_ne n1
        have z := congrArg List.length z
        rw [List.length_append, List.length_map, List.length_nil] at z
        omega
    · rintro σ H2 ⟨l, ks, y, rfl, g2, p2, la, e2, ok, wt, ne⟩
      exact ⟨l, ks, y, rfl, g2, p2, la, e2, ne (by omega), ok, by omega⟩
  · rintro σ H2 ⟨l, ks, y, rfl, g2, p2, la, e2, dr⟩
    have := dr.len
    refine ⟨_, rfl, l, ks, rfl, SqL.of e2, by show _ < 4096; omega, fun p n hp hn => ⟨p, _, n, rfl, upd_same, by omega, fun ns r hs hm hl hr => ?_⟩⟩
    have p3 := p2.new (o := SetO w p (fun j => decide (j ∈ ks)) n) hp
    have sub : ∀ x ∈ ns, x ∈ ks := fun x hx => of_decide_eq_true ((hm x).mp hx)
    have ld : LotX (max m 81) ns := by
      refine ⟨⟨fun z => ?_, fun x hx => dr.ok x (sub x hx), Nat.le_trans (nodup_len (hs.imp fun z => by omega) sub) dr.len⟩, hs⟩
      obtain ⟨x, hx⟩ := List.exists_mem_of_ne_nil _ dr.ne
      have := (hm x).mpr (decide_eq_true hx)
      rw [z] at this
      cases this
    have g3 : Grow a H (upd (upd H2 p (SetO w p (fun j => decide (j ∈ ks)) n)) r (.lst (ns.map V.int))) := (g2.new hp).new hr
    have p4 := p3.new (o := .lst (ns.map V.int)) hr
    have ra := p3.ne hr
    have er : upd (upd H2 p (SetO w p (fun j => decide (j ∈ ks)) n)) r (.lst (ns.map V.int)) r = some (.lst (ns.map V.int)) := upd_same
    refine ⟨fun σ H4 => ∃ (l : Addr) (ks : List Int) (y y2 : Option V), σ = [some (.ref a), some (.int m), some (.int kd), some (.ref l), y, y2] ∧ Grow a H H4 ∧ PotAt H4 a ∧ l ≠ a ∧ H4 l = some (.lst (ks.map V.int)) ∧ LotX (max m 81) ks, ?_, ?_⟩
    · have w63 := ld.d.len
      refine ⟨_, rfl, _, _, rfl, a, 4, rfl, rfl, p4, by decide, by decide, fun d4 H4 d40 d41 g4 p5 => ⟨rfl, _, rfl, ite2 (fun hc => ?_) (fun hc => ⟨r, ns, y, none, rfl, g3.trans g4, p5, ra, g4 _ _ ra er, ld⟩)⟩⟩
      have e4 := g4 _ _ ra er
      refine ⟨_, rfl, r, _, rfl, .inl (SqL.of e4), _, _, rfl, rfl, _, rfl, ite2 (fun hc2 => ?_) (fun hc2 => ⟨r, ns, y, none, rfl, g3.trans g4, p5, ra, e4, ld⟩)⟩
      have l2 : 1 < ns.length := by
        have : (1 : Int) < ((ns.map V.int).length : Nat) := of_decide_eq_true hc2
        rw [List.length_map] at this
        omega
      refine ⟨_, rfl, _, rfl, r, _, rfl, .inl (SqL.of e4), _, _, rfl, a, _, rfl, rfl, p5, by rw [List.length_map]; omega, by rw [List.length_map]; omega, fun at' H5 a0 a1 g5 p6 => ?_⟩
      rw [List.length_map] at a1
      obtain ⟨t, rfl⟩ : ∃ t : Nat, at' = (t : Int) := ⟨at'.toNat, by omega⟩
      have e5 := g5 _ _ ra e4
      refine ⟨_, rfl, _, rfl, _, rfl, r, _, rfl, SqL.of e5, fun u1 hu1 => ⟨_, rfl, _, rfl, _, _, rfl, rfl, _, rfl, r, _, rfl, SqL.of ((upd_ne (ne_of_none e5 hu1)).trans e5), fun u2 hu2 => ?_⟩⟩
      rw [cut_to, show ((t : Int) + 1) = ((t + 1 : Nat) : Int) by omega, cut_from]
      rw [cut_to] at hu2
      have u12 : u1 ≠ u2 := fun z => by rw [← z, upd_same] at hu2; cases hu2
      have lt1 : (List.take t (ns.map V.int)).length + (List.drop (t + 1) (ns.map V.int)).length ≤ sizeLine := small_sz (by rw [List.length_take, List.length_drop, List.length_map]; omega)
      refine ⟨u1, u2, _, _, rfl, rfl, (upd_ne u12).trans upd_same, upd_same, lt1, fun u3 hu3 => ?_⟩
      have q6 := ((p6.new (o := .lst (List.take t (ns.map V.int))) hu1).new (o := .lst (List.drop (t + 1) (ns.map V.int))) hu2)
      have er : List.take t (ns.map V.int) ++ List.drop (t + 1) (ns.map V.int) = (ns.eraseIdx t).map V.int := by
        rw [List.eraseIdx_eq_take_drop_succ, List.map_append, List.map_take, List.map_drop]
      have sb := List.eraseIdx_sublist ns t
      have lt' := List.Pairwise.sublist sb ld.lt
      refine ⟨u3, ns.eraseIdx t, y, some (.int t), rfl, ((((g3.trans g4).trans g5).new hu1).new hu2).new hu3, q6.new hu3, q6.ne hu3, by rw [upd_same, er], ⟨⟨fun z => ?_, fun x hx => ld.d.ok x (sb.subset hx), by rw [List.length_eraseIdx_of_lt (by omega)]; omega⟩, lt'⟩⟩
      have z := congrArg List.length z
      rw [List.length_eraseIdx_of_lt (by omega), List.length_nil] at z
      omega
    · rintro σ H4 ⟨l, ks, y, y2, rfl, g4, p4, la, e4, lt⟩
      refine ⟨_, rfl, l, _, rfl, .inl (SqL.of e4), _, _, rfl, rfl, _, rfl, ite2 (fun hc => ⟨_, rfl, ?_⟩) (fun hc => ⟨sz2, fun u hu => ?_⟩)⟩
      · have : ((ks.map V.int).length : Int) ≤ 12 := of_decide_eq_true hc
        rw [List.length_map] at this
        exact q l ks _ lt (by omega) g4 p4 la e4
      · refine q u [1, 2] _ ⟨⟨by simp, fun x hx => ?_, by decide⟩, by decide⟩ (by decide) (g4.new hu) (p4.new hu) (p4.ne hu) upd_same
        rcases List.mem_cons.mp hx with z | z
        · exact ⟨1, by rw [z]; rfl, by decide, by omega⟩
        · rw [List.mem_singleton.mp z]
          exact ⟨2, rfl, by decide, by omega⟩

end
end M
namespace M
open PySem PySem.Spec PyProof.Rows L2 G LamX RZ
section
variable {P : Program} {w : World} {K : PySem.W.Frag} {mg : Str → Option Value} {base : Heap}
/-! lots by place; tables with unlike sides -/
structure RecM (K : PySem.W.Frag) (H : Hp) (a : Addr) (n m : Nat) (ad : Nat → Addr) (M : Nat → Nat → Int) : Prop where
  top : SqL K H a ((List.range n).map fun i => V.ref (ad i))
  row : ∀ i, i < n → SqL K H (ad i) ((List.range m).map fun j => V.int (M i j))
theorem RecM.same {H H' : Hp} {a : Addr} {n m : Nat} {ad : Nat → Addr} {M : Nat → Nat → Int} (h : RecM K H a n m ad M) (s : Same H H') : RecM K H' a n m ad M := ⟨SqL.same s h.top, fun i hi => SqL.same s (h.row i hi)⟩
theorem RecM.of_rp {N : Addr → Prop} {H : Hp} {p : Addr} {n m : Nat} {M : Nat → Nat → Int} (h : Rp N H (.ref p) (tabD (tabR n m M))) : ∃ ad, RecM K H p n m ad M := by
  obtain ⟨_, vs, e, ra⟩ := h.node
  unfold tabR at ra
  rw [List.map_map] at ra
  have get : ∀ i, i < n → ∃ b, vs[i]? = some (.ref b) ∧ H b = some (.lst ((List.range m).map fun j => V.int (M i j))) := fun i hi => by
    obtain ⟨v, e1, e2⟩ := ra.get (i := i) (d := .list (((List.range m).map fun j => M i j).map PyData.int)) (by rw [List.getElem?_map, List.getElem?_range hi]; rfl)
    obtain ⟨b, rfl, _⟩ := e2.isRef
    refine ⟨b, e1, ?_⟩
    rw [e2.ints, List.map_map]
    rfl
  refine ⟨fun i => match vs[i]? with | some (.ref b) => b | _ => 0, ⟨SqL.of ?_, fun i hi => ?_⟩⟩
  · rw [e]
    refine congrArg (fun z => some (HO.lst z)) (List.ext_getElem? fun i => ?_)
    rw [List.getElem?_map]
    by_cases hi : i < n
    · obtain ⟨b, e1, _⟩ := get i hi
      rw [List.getElem?_range hi, e1]
      simp [e1]
    · rw [List.getElem?_eq_none (by rw [ra.length]; simp; omega), List.getElem?_eq_none (by simp; omega)]
      rfl
  · obtain ⟨b, e1, e2⟩ := get i hi
    simp only [e1]
    exact SqL.of e2
theorem RecM.sq {H : Hp} {a : Addr} {n : Nat} {ad : Nat → Addr} {M : Nat → Nat → Int} (h : RecM K H a n n ad M) : TabM K H a n ad M := ⟨h.top, h.row⟩
/-- new pairs, by place -/
theorem pairs_of {N : Addr → Prop} {H : Hp} {p : Addr} {m : Nat} {x y : Nat → Int} (h : Rp N H (.ref p) (.list ((List.range m).map fun j => .tuple [.int (x j), .int (y j)]))) :
    ∃ ts : Nat → Addr, H p = some (.lst ((List.range m).map fun j => V.ref (ts j))) ∧ ∀ j, j < m → H (ts j) = some (.tup [.int (x j), .int (y j)]) := by
  obtain ⟨_, vs, e, ra⟩ := h.node
  have get : ∀ i, i < m → ∃ b, vs[i]? = some (.ref b) ∧ H b = some (.tup [.int (x i), .int (y i)]) := fun i hi => by
    obtain ⟨v, e1, e2⟩ := ra.get (i := i) (d := .tuple [.int (x i), .int (y i)]) (by rw [List.getElem?_map, List.getElem?_range hi]; rfl)
    cases e2 with
    | tup _ e r =>
      cases r with
      | cons c d =>
        cases c
        cases d with
        | cons c2 d2 =>
          cases c2
          cases d2
          exact ⟨_, e1, e⟩
  refine ⟨fun i => match vs[i]? with | some (.ref b) => b | _ => 0, ?_, fun i hi => ?_⟩
  · rw [e]
    refine congrArg (fun z => some (HO.lst z)) (List.ext_getElem? fun i => ?_)
    rw [List.getElem?_map]
    by_cases hi : i < m
    · obtain ⟨b, e1, _⟩ := get i hi
      rw [List.getElem?_range hi, e1]
      simp [e1]
    · rw [List.getElem?_eq_none (by rw [ra.length]; simp; omega), List.getElem?_eq_none (by simp; omega)]
      rfl
  · obtain ⟨b, e1, e2⟩ := get i hi
    simp only [e1]
    exact e2
theorem lists_of {N : Addr → Prop} {H : Hp} : ∀ {ls : List (List Int)} {vs : List V}, RpA N H vs (ls.map fun l => PyData.list (l.map PyData.int)) →
    ∃ as : List Addr, vs = as.map V.ref ∧ as.length = ls.length ∧ ∀ (i : Nat) (b : Addr) (xs : List V), as[i]? = some b → (ls.map fun l => l.map V.int)[i]? = some xs → H b = some (.lst xs)
  | [], _, h => by
    cases h
    exact ⟨[], rfl, rfl, fun i b xs h1 h2 => by simp at h1⟩
  | l :: ls, _, h => by
    cases h with
    | cons a b =>
      obtain ⟨as, rfl, e1, e2⟩ := lists_of b
      obtain ⟨p, rfl, _⟩ := a.isRef
      refine ⟨p :: as, rfl, by rw [List.length_cons, List.length_cons, e1], fun i b xs h1 h2 => ?_⟩
      cases i with
      | zero =>
        cases h1
        cases h2
        exact a.ints
      | succ i => exact e2 i b xs (by simpa using h1) (by simpa using h2)
theorem gV_at {n i : Nat} {g : Nat → Nat} (h : i < n) : atI (gV n g) (i : Int) = some (.int (g i : Nat)) := map_range_at h
theorem gV_last {n : Nat} {g : Nat → Nat} (h : 1 ≤ n) : atI (gV n g) (-1) = some (.int (g (n - 1) : Nat)) := by
  obtain ⟨k, rfl⟩ : ∃ k, n = k + 1 := ⟨n - 1, by omega⟩
  unfold gV
  rw [List.range_succ, List.map_append]
  exact atI_last _ _
theorem sum_filter {α : Type} (p : α → Bool) (f : α → Int) (l : List α) : ((l.filter p).map f).sum = (l.map fun x => if p x = true then f x else 0).sum := by
  induction l with
  | nil => rfl
  | cons x l ih =>
    rw [List.filter_cons, List.map_cons, List.sum_cons, ← ih]
    split
    · rw [List.map_cons, List.sum_cons]
    · omega
theorem good_R {n m : Nat} {M : Nat → Nat → Int} (hn : n ≤ 12) (hm : m ≤ 12) (h : ∀ i j, i < n → j < m → (M i j).natAbs < 10 ^ 14) : Good (tabD (tabR n m M)) := by
  refine good_tab (c := 14) (m := 12) (fun r hr x hx => ?_) (fun r hr => ?_) (by decide) ?_
  · unfold tabR at hr
    obtain ⟨i, hi, rfl⟩ := List.mem_map.mp hr
    obtain ⟨j, hj, rfl⟩ := List.mem_map.mp hx
    exact h i j (List.mem_range.mp hi) (List.mem_range.mp hj)
  · unfold tabR at hr
    obtain ⟨i, _, rfl⟩ := List.mem_map.mp hr
    rw [List.length_map, List.length_range]
    exact hm
  · unfold tabR
    rw [List.length_map, List.length_range]
    omega
theorem tabR_congr {n m : Nat} {M M' : Nat → Nat → Int} (h : ∀ i j, i < n → j < m → M i j = M' i j) : tabR n m M = tabR n m M' := by
  unfold tabR
  exact List.map_congr_left fun i hi => List.map_congr_left fun j hj => h i j (List.mem_range.mp hi) (List.mem_range.mp hj)

end
end M
namespace M
open PySem PySem.Spec PyProof.Rows L2 G LamX RZ
section
variable {P : Program} {w : World} {K : PySem.W.Frag} {mg : Str → Option Value} {base : Heap}
/-! the law's own share-free count, by its primes -/
def sp__law_free (_ : PySem.W.Frag) : Sp := spec1 fun x H Q _ => ∃ n : Nat, x = .int n ∧ 1 ≤ n ∧ n ≤ 1000000 ∧ ∀ H', Same H H' → Q (.int (phN n)) H'
theorem ok__law_free {af : Addr} {fd : FuncData} (F : FunD K "_law_free" "_law_free" (defArgs s__law_free) (defBody s__law_free) (defScope s__law_free) [] [] af fd) (B : Bt mg) (C__law_primes : Cl False P w K mg base 1 "_law_primes" 1 [] (sp__law_primes K)) : FnG False P w K mg base CX0 2 af fd ["number"] (sp__law_free K) := by
  refine okG F sc__law_free ar1 fun cdv A outer s H vs Q E hg hr h => ?_
  refine ⟨_, PSs.nox (pss_cons (ps_set (i := 1) sc__law_free.nd rfl (.inl rfl) (pv 0))
    (pss_cons (ps_for PassesOwn.never rfl ((pi_list (pe_cl C__law_primes (fun h => h.elim) hr (by decide) rfl (pa_cons (pv 0) pa_nil)))) (pg_name (i := 2) sc__law_free.nd rfl (.inl rfl))
      (pss_one (ps_set (i := 1) sc__law_free.nd rfl (.inl rfl) (pe_op op_mul (pe_op op_fdivW (pv 1) (pv 2)) (pe_op op_sub (pv 2) pe_int)))))
    (pss_one (ps_ret (pv 1))))), ?_⟩
  obtain ⟨_, rfl, n, rfl, h1, h2, q⟩ := h
  refine ⟨_, rfl, _, rfl, _, rfl, n, rfl, h1, by omega, fun L p H1 hL s1 hp e => ?_⟩
  refine ⟨p, rfl, ⟨_, SqL.of e⟩, for_list (K := K) (a := p) (xs := nsV (L.map Prod.fst)) (fun i σ H' => ∃ y2 : Option V, σ = [some (.int n), some (.int (phL (L.take i) * facP (L.drop i) : Nat)), y2] ∧ H' = H1) ⟨none, by rw [List.take_zero, List.drop_zero, hL.2]; show _ = [_, some (V.int ((1 * n : Nat) : Int)), _]; rw [Nat.one_mul]; rfl, rfl⟩ (fun i σ H' _ ⟨_, _, z⟩ => by rw [z]; exact SqL.of e) ?_ ?_⟩
  · rintro i v σ H3 hv ⟨y2, rfl, rfl⟩
    unfold nsV at hv
    rw [List.getElem?_map, List.getElem?_map] at hv
    obtain ⟨pr0, hx0, rfl⟩ := Option.map_eq_some_iff.mp hv
    obtain ⟨x, hx, rfl⟩ := Option.map_eq_some_iff.mp hx0
    obtain ⟨pr, many⟩ := x
    obtain ⟨b1, b2, b3, b4, b5⟩ := row_b hL (by omega) (List.mem_of_getElem? hx)
    have tk : L.take (i + 1) = L.take i ++ [(pr, many)] := by
      rw [List.take_add_one, hx]
      rfl
    obtain ⟨f, rfl⟩ : ∃ f, many = f + 1 := ⟨many - 1, by omega⟩
    have e2 : ((phL (L.take i) * facP (L.drop i) : Nat) : Int) / (pr : Int) = (phL (L.take i) * (pr ^ f * facP (L.drop (i + 1))) : Nat) := by
      rw [facP_drop hx, Nat.pow_succ, Nat.mul_comm (pr ^ f) pr, Nat.mul_assoc pr, Nat.mul_left_comm, Int.natCast_mul, Int.mul_ediv_cancel_left _ (by omega)]
    refine ⟨_, rfl, _, rfl, _, _, rfl, rfl, divw (by omega) (by omega), _, rfl, _, _, rfl, rfl, _, _, rfl, rfl, mulc' ⟨by omega, by omega⟩, some (.int (pr : Int)), ?_, rfl⟩
    show [some (V.int n), some (V.int (((phL (L.take i) * facP (L.drop i) : Nat) : Int) / (pr : Int) * ((pr : Int) - 1))), _] = _
    rw [e2, tk, phL_snoc, Nat.add_sub_cancel, show (pr : Int) - 1 = ((pr - 1 : Nat) : Int) by omega, ← Int.natCast_mul]
    congr 5
    rw [Nat.mul_assoc, Nat.mul_assoc, Nat.mul_assoc, Nat.mul_comm (facP (L.drop (i + 1))), Nat.mul_assoc (pr ^ f) (pr - 1)]
  · rintro σ H3 ⟨y2, rfl, rfl⟩
    unfold nsV
    rw [List.length_map, List.length_map, List.take_length, List.drop_length]
    refine ⟨_, rfl, ?_⟩
    have := q H3 s1
    rw [ph_fac hL] at this
    show Q (.int ((phL L * 1 : Nat) : Int)) H3
    rw [Nat.mul_one]
    exact this

end
end M
namespace M
open PySem PySem.Spec PyProof.Rows L2 G LamX RZ
section
variable {P : Program} {w : World} {K : PySem.W.Frag} {mg : Str → Option Value} {base : Heap}
/-! the law's own signs -/
theorem FacOk.pow_dvd : ∀ {b : Nat} {L : List (Nat × Nat)} {x : Nat × Nat}, FacOk b L → x ∈ L → x.1 ^ x.2 ∣ facP L
  | _, [], _, _, h => by simp at h
  | b, (p, e) :: r, x, ⟨_, _, _, h4⟩, h => by
    rw [facP]
    rcases List.mem_cons.mp h with rfl | h
    · exact Nat.dvd_mul_right _ _
    · exact Nat.dvd_trans (FacOk.pow_dvd h4 h) (Nat.dvd_mul_left _ _)
theorem fst_dvd {L : List (Nat × Nat)} {n q : Nat} (h : FacOf L n) (hq : q ∈ L.map Prod.fst) : Pr q ∧ q ∣ n := by
  obtain ⟨x, hx, rfl⟩ := List.mem_map.mp hq
  obtain ⟨_, h2, h3⟩ := h.1.mem hx
  refine ⟨h2, Nat.dvd_trans ?_ (h.2 ▸ h.1.pow_dvd hx)⟩
  exact dvd_pow_self h3
theorem sgn_free {L : List (Nat × Nat)} {n : Nat} (h : FacOf L n) (hs : ∀ q ∈ L.map Prod.fst, ¬ q * q ∣ n) : mu n = if L.length % 2 = 0 then 1 else -1 := by
  rw [mu_fac h]
  unfold sgnL
  rw [if_neg]
  intro z
  obtain ⟨x, hx, he⟩ := List.any_eq_true.mp z
  have he := of_decide_eq_true he
  refine hs x.1 (List.mem_map_of_mem hx) ?_
  rw [← h.2]
  refine Nat.dvd_trans ?_ (h.1.pow_dvd hx)
  rw [← Nat.pow_two]
  exact Nat.pow_dvd_pow x.1 he
def sp__law_sign (_ : PySem.W.Frag) : Sp := spec1 fun x H Q _ => ∃ n : Nat, x = .int n ∧ 1 ≤ n ∧ n ≤ 1000000000 ∧ ∀ H', Same H H' → Q (.int (mu n)) H'
theorem ok__law_sign {af : Addr} {fd : FuncData} (F : FunD K "_law_sign" "_law_sign" (defArgs s__law_sign) (defBody s__law_sign) (defScope s__law_sign) [] [] af fd) (B : Bt mg) (C__law_primes : Cl False P w K mg base 1 "_law_primes" 1 [] (sp__law_primes K)) : FnG False P w K mg base CX0 2 af fd ["number"] (sp__law_sign K) := by
  refine okG F sc__law_sign ar1 fun cdv A outer s H vs Q E hg hr h => ?_
  refine ⟨_, PSs.nox (pss_cons (ps_set (i := 1) sc__law_sign.nd rfl (.inl rfl) (pe_cl C__law_primes (fun h => h.elim) hr (by decide) rfl (pa_cons (pv 0) pa_nil)))
    (pss_cons (ps_if (pt_val (pe_callB (cr_any rfl) (by rfl) B.any (by decide +kernel) (pa_cons (pe_lc (own := [("prime", 2)]) rfl sc__law_sign.nd ((pi_list (pv 1))) (blkOk_by (own := [("prime", 2)]) (N := ["number", "primes", "prime"]) (sc := defScope s__law_sign) (by decide +kernel)) (fun _ _ _ _ _ => pg_name (i := 2) sc__law_sign.nd rfl (.inl rfl) (.inr rfl)) (fun _ _ _ _ _ => pts_nil) (fun _ _ _ _ _ => (pe_cmpR op_eq (pe_callTy call_int1 (by rfl) B.int (by decide +kernel) (pa_cons (pe_op op_mod (pv 0) (pe_op op_mul (pv 2) (pv 2))) pa_nil)) pe_int (nomark _)))) pa_nil)))
      (pss_one (ps_ret pe_int))
      pss_nil)
    (pss_one (ps_ret (pe_ifExp (pt_cmpR op_eq (pe_callTy call_int1 (by rfl) B.int (by decide +kernel) (pa_cons (pe_op op_mod (pe_callB call_len_seq (by rfl) B.len (by decide +kernel) (pa_cons (pv 1) pa_nil)) pe_int) pa_nil)) pe_int (nomark _)) pe_int (pe_un un_neg pe_int)))))), ?_⟩
  obtain ⟨_, rfl, n, rfl, h1, h2, q⟩ := h
  refine ⟨_, rfl, _, rfl, n, rfl, h1, h2, fun L p H1 hL s1 hp ep => ?_⟩
  have sh := fac_short hL (by omega)
  have sh : (L.map Prod.fst).length ≤ 100 := by rw [List.length_map]; exact sh
  refine ⟨_, rfl, p, rfl, ⟨_, SqL.of ep⟩, fun D hD => lcM_list (K := K) (c := nV) (src := L.map Prod.fst) (fun r => .bool (decide (V.int ((n : Int) % (((r : Nat) : Int) * ((r : Nat) : Int))) = V.int 0))) hD (SqL.of ep) (by omega) ?_ ?_⟩
  · intro i r H2 R S hr s2 hR
    obtain ⟨pr, pd⟩ := fst_dvd hL (List.mem_of_getElem? hr)
    have := Nat.le_of_dvd h1 pd
    have r0 := pr.two
    have rr : (0 : Int) < (r : Int) * (r : Int) := Int.mul_pos (by omega) (by omega)
    exact ⟨rfl, _, rfl, _, rfl, _, rfl, _, _, rfl, rfl, mulc ⟨by omega, by omega⟩, _, _, rfl, rfl, rr, .inl ⟨_, rfl, rfl, hR _ _ (Same.refl _) (.bl _)⟩⟩
  · intro H2 s2 r2
    rw [map_bl (fun r : Nat => decide (V.int ((n : Int) % (((r : Nat) : Int) * ((r : Nat) : Int))) = V.int 0))] at r2
    have key : ∀ r : Nat, decide (V.int ((n : Int) % (((r : Nat) : Int) * ((r : Nat) : Int))) = V.int 0) = true ↔ r * r ∣ n := fun r => by
      rw [decide_eq_true_iff]
      constructor
      · intro z
        have := V.int.inj z
        rw [← Int.natCast_mul] at this
        exact Nat.dvd_of_mod_eq_zero (by omega)
      · intro z
        have := Nat.mod_eq_zero_of_dvd z
        refine congrArg V.int ?_
        rw [← Int.natCast_mul]
        omega
    have q2 := q H2 (s1.trans s2)
    refine ⟨D, _, rfl, SqL.of r2.bls, _, rfl, ite2 (fun hc => ?_) (fun hc => ?_)⟩
    · obtain ⟨b, hb, e⟩ := List.any_eq_true.mp hc
      obtain ⟨r, hr, rfl⟩ := List.mem_map.mp hb
      have := (key r).mp e
      rw [mu_sq (fst_dvd hL hr).1 this h1] at q2
      exact q2
    · rw [sgn_free hL fun r hr z => hc (List.any_eq_true.mpr ⟨_, List.mem_map_of_mem hr, (key r).mpr z⟩)] at q2
      refine ⟨_, rfl, p, _, rfl, .inl (SqL.of (s2 _ _ ep)), _, _, rfl, rfl, (by show (0 : Int) < 2; decide), .inl ⟨_, rfl, rfl, _, rfl, ite2 (fun hd => ?_) (fun hd => ?_)⟩⟩
      · have : L.length % 2 = 0 := by
          have := V.int.inj (of_decide_eq_true hd)
          rw [nsV_len, List.length_map] at this
          omega
        rw [if_pos this] at q2
        exact q2
      · have : ¬ L.length % 2 = 0 := fun z => hd (decide_eq_true (by
          rw [nsV_len, List.length_map]
          refine congrArg V.int ?_
          omega))
        rw [if_neg this] at q2
        exact ⟨_, rfl, q2⟩

end
end M
namespace M
open PySem PySem.Spec PyProof.Rows L2 G LamX RZ
section
variable {P : Program} {w : World} {K : PySem.W.Frag} {mg : Str → Option Value} {base : Heap}
/-! lots by place and by lists -/
def gOf (l : List Int) (i : Nat) : Nat := (l.getD i 0).toNat
def glL (n : Nat) (g : Nat → Nat) : List Nat := (List.range n).map g
theorem lot_ofX {M : Nat} {l : List Int} (hne : l ≠ []) (h12 : l.length ≤ 12) (hM : M ≤ 1000000) (hlt : l.Pairwise (· < ·)) (hok : ∀ x ∈ l, ∃ k : Nat, x = (k : Int) ∧ 1 ≤ k ∧ k ≤ M) : l = gI l.length (gOf l) ∧ LotF l.length (gOf l) ∧ ∀ i, i < l.length → gOf l i ≤ M := by
  have get : ∀ i, i < l.length → l[i]? = some ((gOf l i : Nat) : Int) ∧ 1 ≤ gOf l i ∧ gOf l i ≤ M := fun i hi => by
    obtain ⟨k, e, hk⟩ := hok _ (List.getElem_mem hi)
    have e2 : gOf l i = k := by
      unfold gOf
      rw [List.getD_eq_getElem?_getD, List.getElem?_eq_getElem hi, Option.getD_some, e]
      rfl
    rw [e2, List.getElem?_eq_getElem hi, e]
    exact ⟨rfl, hk⟩
  refine ⟨List.ext_getElem? fun i => ?_, ⟨List.length_pos_iff.mpr hne, h12, fun i hi => (get i hi).2.1, fun i hi => Nat.le_trans (get i hi).2.2 hM, fun i j hij hj => ?_⟩, fun i hi => (get i hi).2.2⟩
  · unfold gI
    rw [List.getElem?_map]
    by_cases hi : i < l.length
    · rw [(get i hi).1, List.getElem?_range hi]
      rfl
    · rw [List.getElem?_eq_none (by omega), List.getElem?_eq_none (by simp; omega)]
      rfl
  · have z := List.pairwise_iff_getElem.mp hlt i j (by omega) hj hij
    have a := (get i (by omega)).1
    have b := (get j hj).1
    rw [List.getElem?_eq_getElem (by omega)] at a
    rw [List.getElem?_eq_getElem hj] at b
    have a := Option.some.inj a
    have b := Option.some.inj b
    omega
theorem glL_len {n : Nat} {g : Nat → Nat} : (glL n g).length = n := by unfold glL; rw [List.length_map, List.length_range]
theorem gI_glL {n : Nat} {g : Nat → Nat} : gI n g = (glL n g).map fun k : Nat => (k : Int) := by unfold gI glL; rw [List.map_map]; rfl
theorem glL_mem {n : Nat} {g : Nat → Nat} {x : Nat} : x ∈ glL n g ↔ ∃ i, i < n ∧ g i = x := by
  unfold glL
  rw [List.mem_map]
  exact ⟨fun ⟨i, h, e⟩ => ⟨i, List.mem_range.mp h, e⟩, fun ⟨i, h, e⟩ => ⟨i, List.mem_range.mpr h, e⟩⟩
theorem glL_lt {n : Nat} {g : Nat → Nat} (L : LotF n g) : (glL n g).Pairwise (· < ·) := by
  unfold glL
  rw [List.pairwise_map]
  exact List.pairwise_lt_range.imp_of_mem fun {a b} _ hb h => L.up a b h (List.mem_range.mp hb)
theorem glL_pos {n : Nat} {g : Nat → Nat} (L : LotF n g) : ∀ y ∈ glL n g, 1 ≤ y := fun y hy => by
  obtain ⟨i, hi, rfl⟩ := glL_mem.mp hy
  exact L.lo i hi
theorem glL_closed {n : Nat} {g : Nat → Nat} : ClL (glL n g) ↔ ClosedF n g := by
  constructor
  · intro c i hi d hd
    exact glL_mem.mp (c (g i) (glL_mem.mpr ⟨i, hi, rfl⟩) d hd)
  · intro c x hx d hd
    obtain ⟨i, hi, rfl⟩ := glL_mem.mp hx
    exact glL_mem.mpr (c i hi d hd)
theorem glL_at {n a : Nat} {g : Nat → Nat} (h : a < n) : atL (glL n g) a = g a := by
  unfold atL glL
  rw [List.getD_eq_getElem?_getD, List.getElem?_map, List.getElem?_range h]
  rfl
theorem det_gcdM {n : Nat} {g : Nat → Nat} : det n (gcdM g) = wL (glL n g) := by
  unfold wL detL
  rw [glL_len]
  exact det_congr fun a b ha hb => by rw [glL_at ha, glL_at hb]; rfl
theorem prodI_from (l : List Int) : ∀ c : Int, l.foldl (fun a b => a * b) c = c * prodI l := by
  unfold prodI
  induction l with
  | nil => intro c; show c = c * 1; omega
  | cons x l ih =>
    intro c
    show l.foldl _ (c * x) = c * l.foldl _ (1 * x)
    rw [ih (c * x), ih (1 * x)]
    grind
theorem prodI_ph {n : Nat} {g : Nat → Nat} : prodI (phG n g) = phP (glL n g) := by
  have : ∀ l : List Nat, prodI (l.map phN) = phP l := fun l => by
    induction l with
    | nil => rfl
    | cons x l ih =>
      show (l.map phN).foldl (fun a b => a * b) (1 * phN x) = phN x * phP l
      rw [prodI_from, ih, Int.one_mul]
  rw [← this]
  unfold phG glL
  rw [List.map_map]
  rfl
theorem ph_bound {n : Nat} {g : Nat → Nat} (L : LotF n g) : ∀ i, i < n → 0 ≤ phN (g i) ∧ phN (g i) ≤ 1000000 := fun i hi => by
  have a := ph_pos (L.lo i hi)
  have b := ph_le (L.lo i hi)
  have c := L.hi i hi
  omega
/-- sorted numbers, by place -/
theorem sorted_lot {l : List Nat} {ns : List Int} (hp : ns.Perm (l.map fun k : Nat => (k : Int))) (hs : ns.Pairwise (· ≤ ·)) (hn : l.Nodup) (ne : l ≠ []) (h12 : l.length ≤ 12) (ok : ∀ x ∈ l, 1 ≤ x ∧ x ≤ 1000000) :
    ∃ h : Nat → Nat, ns = gI l.length h ∧ LotF l.length h ∧ (glL l.length h).Perm l := by
  have nd : (l.map fun k : Nat => (k : Int)).Nodup := by
    unfold List.Nodup
    rw [List.pairwise_map]
    exact List.Pairwise.imp (fun {a b} h z => h (by omega)) hn
  have lt := sorted_lt hs (hp.nodup_iff.mpr nd)
  have len : ns.length = l.length := by rw [hp.length_eq, List.length_map]
  obtain ⟨e, L, _⟩ := lot_ofX (M := 1000000) (l := ns) (fun z => ne (by rw [z] at len; exact List.length_eq_zero_iff.mp len.symm)) (by omega) (Nat.le_refl _) lt fun x hx => by
    obtain ⟨k, hk, rfl⟩ := List.mem_map.mp (hp.mem_iff.mp hx)
    exact ⟨k, rfl, ok k hk⟩
  rw [len] at e L
  refine ⟨gOf ns, e, L, ?_⟩
  have hp2 := hp
  rw [e, gI_glL] at hp2
  have := hp2.map Int.toNat
  rw [List.map_map, List.map_map] at this
  have id : ∀ l : List Nat, l.map (Int.toNat ∘ fun k : Nat => (k : Int)) = l := fun l => by
    rw [show (Int.toNat ∘ fun k : Nat => (k : Int)) = id from funext fun k => Int.toNat_natCast k, List.map_id]
  rwa [id, id] at this

end
end M
namespace M
open PySem PySem.Spec PyProof.Rows L2 G LamX RZ
section
variable {P : Program} {w : World} {K : PySem.W.Frag} {mg : Str → Option Value} {base : Heap}
/-! rows, their sums, the sign row -/
def sp_want_row (K : PySem.W.Frag) : Sp := spec1 fun x H Q _ => ∃ (p : Addr) (ns : List Int), x = .ref p ∧ SqL K H p (ns.map V.int) ∧ 1 ≤ ns.length ∧ ns.length ≤ 60 ∧ (∀ x ∈ ns, x.natAbs < 1000000000000000000000000000000) ∧ ∀ H', Same H H' → Q .non H'
def psum (ns : List Int) : List Int := (List.range ns.length).map fun i => (ns.take (i + 1)).sum
def sp_summed (K : PySem.W.Frag) : Sp := spec1 fun x H Q _ => ∃ (p : Addr) (ns : List Int), x = .ref p ∧ SqL K H p (ns.map V.int) ∧ 1 ≤ ns.length ∧ ns.length ≤ 60 ∧ (∀ x ∈ ns, x.natAbs < 1000000000000000000000000000000) ∧ ∀ r H', Same H H' → H r = none → H' r = some (.lst ((psum ns).map V.int)) → Q (.ref r) H'
def sp_sign_of (_ : PySem.W.Frag) : Sp := spec1 fun x H Q _ => ∃ n : Nat, x = .int n ∧ 1 ≤ n ∧ n ≤ 1000000000000 ∧ ∀ H', Same H H' → Q (.int (mu n)) H'
theorem row_one' {N : Addr → Prop} {H : Hp} {v : V} {x : Nat × Nat} (h : Rp N H v (powD x)) : ∃ t, v = V.ref t ∧ H t = some (.tup [.int (x.1 : Int), .int (x.2 : Int)]) := by
  cases h with
  | tup _ e r =>
    cases r with
    | cons a b =>
      cases a
      cases b with
      | cons c d =>
        cases c
        cases d
        exact ⟨_, rfl, e⟩
theorem ok_sign_of {af : Addr} {fd : FuncData} (F : FunD K "sign_of" "sign_of" (defArgs s_sign_of) (defBody s_sign_of) (defScope s_sign_of) [] [] af fd) (B : Bt mg) (C_powers_of : Cl False P w K mg base 1 "powers_of" 1 [] (sp_powers_of K)) : FnG False P w K mg base CX0 2 af fd ["number"] (sp_sign_of K) := by
  refine okG F sc_sign_of ar1 fun cdv A outer s H vs Q E hg hr h => ?_
  refine ⟨_, PSs.nox (pss_cons (ps_set (i := 1) sc_sign_of.nd rfl (.inl rfl) (pe_cl C_powers_of (fun h => h.elim) hr (by decide) rfl (pa_cons (pv 0) pa_nil)))
    (pss_cons (ps_if (pt_val (pe_callB (cr_any rfl) (by rfl) B.any (by decide +kernel) (pa_cons (pe_lc (own := [("prime", 2), ("many", 3)]) (g := gTup K 2 (gCons (gName 2) (gCons (gName 3) gNil))) rfl sc_sign_of.nd ((pi_list (pv 1))) (blkOk_by (own := [("prime", 2), ("many", 3)]) (N := ["number", "powers", "prime", "many"]) (sc := defScope s_sign_of) (by decide +kernel)) (fun _ _ _ _ _ => pg_tup (n := 2) (by rfl) (pgs_cons (pg_name (i := 2) sc_sign_of.nd rfl (.inl rfl) (.inr rfl)) (pgs_cons (pg_name (i := 3) sc_sign_of.nd rfl (.inl rfl) (.inr rfl)) pgs_nil (by rfl)) (by rfl)) (by rfl) (by rfl)) (fun _ _ _ _ _ => pts_nil) (fun _ _ _ _ _ => (pe_cmpR op_gt (pv 3) pe_int (nomark _)))) pa_nil)))
      (pss_one (ps_ret pe_int))
      pss_nil)
    (pss_one (ps_ret (pe_ifExp (pt_cmpR op_eq (pe_op op_mod (pe_callB call_len_seq (by rfl) B.len (by decide +kernel) (pa_cons (pv 1) pa_nil)) pe_int) pe_int (nomark _)) pe_int (pe_un un_neg pe_int)))))), ?_⟩
  obtain ⟨_, rfl, n, rfl, h1, h2, q⟩ := h
  refine ⟨_, rfl, _, rfl, n, rfl, h1, h2, fun L p H1 hL s1 rp => ?_⟩
  have sh := fac_short hL h2
  have em := mu_fac hL
  obtain ⟨np, vs, e, ra⟩ := rp.node
  have vl : vs.length = L.length := by rw [ra.length, List.length_map]
  refine ⟨_, rfl, p, rfl, ⟨_, SqL.of e⟩, fun D hD => lc_list (K := K) (a := p) (xs := vs) (fun i H2 => Same H1 H2 ∧ H2 D = some (.lst (((L.take i).map fun x => decide (1 < x.2)).map V.bl))) ⟨(Same.refl _).new hD, upd_same⟩ (fun i H2 _ z => SqL.of (z.1 _ _ e)) ?_ ?_⟩
  · rintro i v H2 hv ⟨sm, eD⟩
    obtain ⟨d, hd, rv⟩ := ra.getV hv
    rw [List.getElem?_map] at hd
    obtain ⟨x, hx, rfl⟩ := Option.map_eq_some_iff.mp hd
    obtain ⟨t, rfl, et⟩ := row_one' rv
    have hDn : H1 D = none := hD
    refine ⟨t, _, rfl, SqT.of (sm _ _ et), rfl, _, _, rfl, _, _, rfl, rfl, rfl, _, rfl, _, _, rfl, rfl, _, eD, ?_, sm.mut hDn, ?_⟩
    · rw [List.length_map, List.length_map, List.length_take]
      exact small_lt (by omega)
    · rw [upd_same, List.take_add_one, hx]
      simp only [Option.toList, List.map_append, List.map_cons, List.map_nil]
      refine congrArg (fun z => some (HO.lst (_ ++ [V.bl z]))) (decide_eq_decide.mpr ?_)
      omega
  · rintro H2 ⟨sm, eD⟩
    rw [vl, List.take_length] at eD
    refine ⟨D, _, rfl, SqL.of eD, _, rfl, ?_⟩
    have ea : (List.map (fun x : Nat × Nat => decide (1 < x.2)) L).any id = L.any fun x => decide (1 < x.2) := by
      rw [List.any_map]
      rfl
    rw [ea]
    have q2 := q H2 (s1.trans sm)
    rw [em] at q2
    unfold sgnL at q2
    refine ite2 (fun hc => ?_) (fun hc => ?_)
    · rw [if_pos hc] at q2
      exact q2
    · rw [if_neg hc] at q2
      refine ⟨_, rfl, p, _, rfl, .inl (SqL.of (sm _ _ e)), _, _, rfl, rfl, (by show (0 : Int) < 2; decide), rfl, _, rfl, ite2 (fun hd => ?_) (fun hd => ?_)⟩
      · have : L.length % 2 = 0 := by
          have := V.int.inj (of_decide_eq_true hd)
          rw [vl] at this
          omega
        rw [if_pos this] at q2
        exact q2
      · have : ¬ L.length % 2 = 0 := fun z => hd (decide_eq_true (by
          rw [vl]
          refine congrArg V.int ?_
          omega))
        rw [if_neg this] at q2
        exact ⟨_, rfl, q2⟩
def muI (n : Nat) : List Int := (List.range n).map fun i => mu (i + 1)
def sp_signs_of (_ : PySem.W.Frag) : Sp := spec1 fun x H Q _ => ∃ n : Nat, x = .int n ∧ 1 ≤ n ∧ n ≤ 60 ∧ ∀ r H', Same H H' → H r = none → H' r = some (.lst ((muI n).map V.int)) → Q (.ref r) H'
def sp_sign_row (_ : PySem.W.Frag) : Sp := spec1 fun x H Q _ => ∃ n : Nat, x = .int n ∧ 1 ≤ n ∧ n ≤ 60 ∧ ∀ r H', Same H H' → H r = none → H' r = some (.lst ((muI n).map V.int)) → Q (.ref r) H'
end
end M
namespace M
open PySem PySem.Spec PyProof.Rows L2 G LamX RZ
section
variable {P : Program} {w : World} {K : PySem.W.Frag} {mg : Str → Option Value} {base : Heap}
/-! tables by rows -/
def rowM (row : List Int) (g : Nat → Nat) : Nat → Nat → Int := fun i j => row.getD (Nat.gcd (g i) (g j) - 1) 0
def sp_table_by (K : PySem.W.Frag) : Sp := spec2 fun x y H Q _ => ∃ (r p : Addr) (row : List Int) (n : Nat) (g : Nat → Nat), x = .ref r ∧ y = .ref p ∧ SqL K H r (row.map V.int) ∧ 1 ≤ row.length ∧ row.length ≤ 60 ∧ (∀ x ∈ row, x.natAbs < 1000000000000000000000000000000) ∧ SqL K H p (gV n g) ∧ LotF n g ∧ g (n - 1) ≤ row.length ∧ ∀ t H', Same H H' → Rp (New H) H' (.ref t) (tabD (tabR n n (rowM row g))) → Q (.ref t) H'
end
end M
namespace M
open PySem PySem.Spec PyProof.Rows L2 G LamX RZ
section
variable {P : Program} {w : World} {K : PySem.W.Frag} {mg : Str → Option Value} {base : Heap}
/-! tables handed in -/
def sp_is_table_value (K : PySem.W.Frag) : Sp := spec1 fun x H Q _ => ∃ (a : Addr) (n : Nat) (ad : Nat → Addr) (M : Nat → Nat → Int), x = .ref a ∧ TabM K H a n ad M ∧ 1 ≤ n ∧ n ≤ 12 ∧ (∀ i j, i < n → j < n → (M i j).natAbs < 1000000000000000000000000000000) ∧ ∀ H', Same H H' → Q (.bl true) H'
def sp_want_table (K : PySem.W.Frag) : Sp := spec1 fun x H Q _ => ∃ (a : Addr) (n : Nat) (ad : Nat → Addr) (M : Nat → Nat → Int), x = .ref a ∧ TabM K H a n ad M ∧ 1 ≤ n ∧ n ≤ 12 ∧ (∀ i j, i < n → j < n → (M i j).natAbs < 1000000000000000000000000000000) ∧ ∀ H', Same H H' → Q .non H'
def sp_table_worth (K : PySem.W.Frag) : Sp := spec1 fun x H Q _ => ∃ (a : Addr) (n : Nat) (ad : Nat → Addr) (M : Nat → Nat → Int), x = .ref a ∧ TabM K H a n ad M ∧ 1 ≤ n ∧ n ≤ 12 ∧ (∀ i j, i < n → j < n → (M i j).natAbs < 1000000000000000000000000000000) ∧ ∀ H', Same H H' → Q (.int (det n M)) H'
end
end M
namespace M
/-! what a number gives to the worth of a closed lot's table of least multiples -/
def fM (c : Nat) : Int := mu c * ((c : Int) * c)
def mfN (n : Nat) : Int := cs fM n
theorem fM_mul {p d : Nat} (hp : Pr p) (h : ¬ p ∣ d) : fM (p * d) = -((p : Int) * p) * fM d := by
  unfold fM
  rw [mu_mul hp h, Int.natCast_mul]
  grind
theorem fM_dvd {p d : Nat} (hp : Pr p) (h : p ∣ d) (h1 : 1 ≤ d) : fM (p * d) = 0 := by
  unfold fM
  rw [mu_mul_dvd hp h h1, Int.zero_mul]
theorem fM_cs {p m : Nat} (hp : Pr p) (hm : ¬ p ∣ m) (m1 : 1 ≤ m) : ∀ e : Nat, cs (fun d => fM (p * d)) (p ^ e * m) = (p ^ e : Nat) * (-((p : Int) * p) * cs fM m)
  | 0 => by
    rw [Nat.pow_zero, Nat.one_mul, ← cs_mul, cs_congr (g := fun d => -((p : Int) * p) * fM d) fun d _ hd => fM_mul hp fun z => hm (Nat.dvd_trans z hd)]
    show _ = (1 : Int) * _
    rw [Int.one_mul]
  | e + 1 => by
    have a := fM_cs hp hm m1 0
    rw [Nat.pow_zero, Nat.one_mul] at a
    rw [cs_pow _ hp hm m1 e, a, cs_congr (n := p ^ e * m) (g := fun d => 0 * fM d) fun d d1 _ => by rw [fM_dvd hp (Nat.dvd_mul_right p d) (Nat.mul_pos (by have := hp.1; omega) d1), Int.zero_mul], cs_mul, Int.zero_mul, Int.add_zero]
    show _ * ((1 : Int) * _) = _
    rw [Int.one_mul]
theorem mf_pow {p m : Nat} (hp : Pr p) (hm : ¬ p ∣ m) (m1 : 1 ≤ m) (e : Nat) : mfN (p ^ (e + 1) * m) = (p ^ e : Nat) * (((p : Int) - p * p) * mfN m) := by
  unfold mfN
  rw [cs_pow _ hp hm m1 e, fM_cs hp hm m1 e, Nat.pow_succ, Int.natCast_mul]
  grind
theorem mf_mul {p j : Nat} (hp : Pr p) (h : ¬ p ∣ j) (h1 : 1 ≤ j) : mfN (p * j) = ((p : Int) - p * p) * mfN j := by
  have := mf_pow hp h h1 0
  rw [Nat.zero_add, Nat.pow_one, Nat.pow_zero] at this
  rw [this]
  show (1 : Int) * _ = _
  rw [Int.one_mul]
theorem mf_mul_dvd {p j : Nat} (hp : Pr p) (h : p ∣ j) (h1 : 1 ≤ j) : mfN (p * j) = (p : Int) * mfN j := by
  obtain ⟨e, t, rfl, ht, t0⟩ := strip_ex hp.1 j h1
  obtain ⟨f, rfl⟩ : ∃ f, e = f + 1 := by
    cases e with
    | zero =>
      rw [Nat.pow_zero, Nat.mul_one] at h
      exact (ht h).elim
    | succ f => exact ⟨f, rfl⟩
  have e1 : p * (t * p ^ (f + 1)) = p ^ (f + 1 + 1) * t := by rw [Nat.pow_succ p (f + 1), Nat.mul_comm t, Nat.mul_comm (p ^ (f + 1)) p, Nat.mul_assoc]
  rw [e1, Nat.mul_comm t, mf_pow hp ht t0, mf_pow hp ht t0, Nat.pow_succ, Int.natCast_mul]
  grind
/-- with the number's part squared -/
def cs2 (f : Nat → Int) (n : Nat) : Int := sumR (fun d => if d ∣ n then f d * ((n / d : Nat) * (n / d : Nat) : Int) else 0) n
theorem cs2_more {f : Nat → Int} {n N : Nat} (h1 : 1 ≤ n) (h : n ≤ N) : sumR (fun d => if d ∣ n then f d * ((n / d : Nat) * (n / d : Nat) : Int) else 0) N = cs2 f n :=
  sumR_trunc h fun i hi _ => if_neg fun z => by
    have := Nat.le_of_dvd (by omega) z
    omega
theorem cs2_congr {f g : Nat → Int} {n : Nat} (h : ∀ d, 1 ≤ d → d ∣ n → f d = g d) : cs2 f n = cs2 g n := sumR_congr fun i i1 _ => by
  by_cases z : i ∣ n
  · rw [if_pos z, if_pos z, h i i1 z]
  · rw [if_neg z, if_neg z]
theorem cs2_mul (c : Int) (f : Nat → Int) (n : Nat) : cs2 (fun d => c * f d) n = c * cs2 f n := by
  unfold cs2
  rw [← sumR_mul]
  refine sumR_congr fun i _ _ => ?_
  split
  · rw [Int.mul_assoc]
  · simp
theorem cs2_pow {p m : Nat} (f : Nat → Int) (hp : Pr p) (hm : ¬ p ∣ m) (m1 : 1 ≤ m) (e : Nat) : cs2 f (p ^ (e + 1) * m) = ((p ^ (e + 1) : Nat) * (p ^ (e + 1) : Nat) : Int) * cs2 f m + cs2 (fun d => f (p * d)) (p ^ e * m) := by
  have p2 := hp.1
  have n1 : p ^ (e + 1) * m = p * (p ^ e * m) := by rw [Nat.pow_succ, Nat.mul_comm (p ^ e) p, Nat.mul_assoc]
  have ml : m ≤ p ^ (e + 1) * m := Nat.le_mul_of_pos_left m (pe_pos hp)
  show sumR (fun d => if d ∣ p ^ (e + 1) * m then f d * ((p ^ (e + 1) * m / d : Nat) * (p ^ (e + 1) * m / d : Nat) : Int) else 0) (p ^ (e + 1) * m) = _
  rw [sumR_split (p := p) (by omega)]
  congr 1
  · rw [← cs2_more m1 ml, ← sumR_mul]
    refine sumR_congr fun i i1 _ => ?_
    by_cases h : p ∣ i
    · rw [if_pos h, if_neg fun z => hm (Nat.dvd_trans h z), Int.mul_zero]
    · rw [if_neg h]
      by_cases g : i ∣ m
      · rw [if_pos g, if_pos ((dvd_pm hp h _).mpr g), Nat.mul_div_assoc _ g, Int.natCast_mul]
        grind
      · rw [if_neg g, if_neg fun z => g ((dvd_pm hp h _).mp z), Int.mul_zero]
  · rw [n1, Nat.mul_div_cancel_left _ (by omega : 0 < p)]
    refine sumR_congr fun i _ _ => ?_
    rw [Nat.mul_div_mul_left _ _ (by omega : 0 < p)]
    by_cases g : i ∣ p ^ e * m
    · rw [if_pos g, if_pos (Nat.mul_dvd_mul_left p g)]
    · rw [if_neg g, if_neg fun z => g (Nat.dvd_of_mul_dvd_mul_left (by omega) z)]
theorem mfsq_pow {p m : Nat} (hp : Pr p) (hm : ¬ p ∣ m) (m1 : 1 ≤ m) (h : cs2 mfN m = m) : ∀ e : Nat, cs2 (fun d => mfN (p * d)) (p ^ e * m) = ((p ^ (e + 1) : Nat) - (p ^ (e + 1) : Nat) * (p ^ (e + 1) : Nat) : Int) * m
  | 0 => by
    rw [Nat.pow_zero, Nat.one_mul, Nat.zero_add, Nat.pow_one, ← h, ← cs2_mul]
    exact cs2_congr fun d d1 hd => mf_mul hp (fun z => hm (Nat.dvd_trans z hd)) d1
  | e + 1 => by
    have a := mfsq_pow hp hm m1 h 0
    rw [Nat.pow_zero, Nat.one_mul, Nat.zero_add, Nat.pow_one] at a
    have b : cs2 (fun d => mfN (p * (p * d))) (p ^ e * m) = (p : Int) * cs2 (fun d => mfN (p * d)) (p ^ e * m) := by
      rw [← cs2_mul]
      exact cs2_congr fun d d1 _ => mf_mul_dvd hp (Nat.dvd_mul_right p d) (Nat.mul_pos (by have := hp.1; omega) d1)
    rw [cs2_pow _ hp hm m1 e, a, b, mfsq_pow hp hm m1 h e, Nat.pow_succ p (e + 1), Int.natCast_mul]
    grind
theorem mfsq_ok : ∀ {b : Nat} {L : List (Nat × Nat)}, FacOk b L → cs2 mfN (facP L) = facP L
  | _, [], _ => by
    show cs2 mfN 1 = 1
    decide
  | b, (p, e) :: r, ⟨h1, h2, h3, h4⟩ => by
    obtain ⟨f, rfl⟩ : ∃ f, e = f + 1 := ⟨e - 1, by omega⟩
    have ih := mfsq_ok h4
    have nd := not_dvd_rest h2 h4
    have pos := FacOk.pos h4
    show cs2 mfN (p ^ (f + 1) * facP r) = (p ^ (f + 1) * facP r : Nat)
    rw [cs2_pow _ h2 nd pos f, mfsq_pow h2 nd pos ih f, ih, Int.natCast_mul]
    grind
theorem mfsq {n : Nat} (h : 1 ≤ n) : cs2 mfN n = n := by
  obtain ⟨L, hL⟩ := fac_ex h
  rw [← hL.2]
  exact mfsq_ok hL.1
/-- by the powers -/
def radL : List (Nat × Nat) → Int
  | [] => 1
  | x :: r => (0 - (x.1 : Int)) * radL r
theorem mf_ok : ∀ {b : Nat} {L : List (Nat × Nat)}, FacOk b L → mfN (facP L) = phN (facP L) * radL L
  | _, [], _ => by
    show mfN 1 = phN 1 * 1
    decide
  | b, (p, e) :: r, ⟨h1, h2, h3, h4⟩ => by
    obtain ⟨f, rfl⟩ : ∃ f, e = f + 1 := ⟨e - 1, by omega⟩
    have nd := not_dvd_rest h2 h4
    have pos := FacOk.pos h4
    have p2 := h2.1
    show mfN (p ^ (f + 1) * facP r) = phN (p ^ (f + 1) * facP r) * ((0 - (p : Int)) * radL r)
    rw [mf_pow h2 nd pos, phN_pow h2 nd pos, mf_ok h4, Int.natCast_mul, show ((p - 1 : Nat) : Int) = (p : Int) - 1 by omega]
    grind
theorem mf_fac {L : List (Nat × Nat)} {n : Nat} (h : FacOf L n) : mfN n = phN n * radL L := by
  have := mf_ok h.1
  rwa [h.2] at this
theorem radL_sign : ∀ {b : Nat} {L : List (Nat × Nat)}, FacOk b L → radL L ≠ 0 ∧ (0 < radL L ↔ L.length % 2 = 0)
  | _, [], _ => ⟨by decide, by decide⟩
  | b, (p, e) :: r, ⟨h1, h2, h3, h4⟩ => by
    obtain ⟨a, c⟩ := radL_sign h4
    have p2 := h2.1
    have ng : (0 - (p : Int)) < 0 := by omega
    refine ⟨Int.mul_ne_zero (show (0 - (p : Int)) ≠ 0 by omega) a, ?_⟩
    show 0 < (0 - (p : Int)) * radL r ↔ (r.length + 1) % 2 = 0
    constructor
    · intro z
      have : ¬ 0 < radL r := fun y => by
        have := Int.mul_neg_of_neg_of_pos ng y
        omega
      rw [c] at this
      omega
    · intro z
      have : ¬ 0 < radL r := fun y => by
        have := c.mp y
        omega
      exact Int.mul_pos_of_neg_of_neg ng (by omega)

end M
namespace M
/-! counts by powers: the row back from powers of numbers -/
theorem sumR_flip (F : Nat → Nat → Int) {n : Nat} (h : 1 ≤ n) : sumR (fun d => if d ∣ n then F d (n / d) else 0) n = sumR (fun d => if d ∣ n then F (n / d) d else 0) n := by
  have one : ∀ d, 1 ≤ d → d ∣ n → 1 ≤ n / d ∧ n / d ≤ n ∧ d * (n / d) = n := fun d d1 hd => ⟨Nat.div_pos (Nat.le_of_dvd h hd) d1, Nat.div_le_self _ _, Nat.mul_div_cancel' hd⟩
  have a : sumR (fun d => if d ∣ n then F d (n / d) else 0) n = sumR (fun d => sumR (fun e => if d * e = n then F d e else 0) n) n := sumR_congr fun d d1 _ => by
    by_cases g : d ∣ n
    · obtain ⟨o1, o2, o3⟩ := one d d1 g
      rw [if_pos g, sumR_one (k := n / d) o1 o2 fun e _ _ he => if_neg fun z => he (Nat.eq_of_mul_eq_mul_left d1 (z.trans o3.symm)), if_pos o3]
    · rw [if_neg g, sumR_zero fun e _ _ => if_neg fun z => g ⟨e, z.symm⟩]
  rw [a, sumR_swap]
  refine sumR_congr fun e e1 _ => ?_
  by_cases g : e ∣ n
  · obtain ⟨o1, o2, o3⟩ := one e e1 g
    rw [if_pos g, sumR_one (k := n / e) o1 o2 fun d _ _ hd => if_neg fun z => hd (Nat.eq_of_mul_eq_mul_left e1 ((Nat.mul_comm e d).trans (z.trans o3.symm))), if_pos (by rw [Nat.mul_comm]; exact o3)]
  · rw [if_neg g, sumR_zero fun d _ _ => if_neg fun z => g ⟨d, by rw [Nat.mul_comm]; exact z.symm⟩]
/-- the row's worth back at n -/
def bkN (f : Nat → Int) (n : Nat) : Int := sumR (fun d => if d ∣ n then f d * mu (n / d) else 0) n
def jN (k n : Nat) : Int := sumR (fun d => if d ∣ n then mu d * ((n / d : Nat) : Int) ^ k else 0) n
theorem bk_jN {k n : Nat} (h : 1 ≤ n) : bkN (fun d => (d : Int) ^ k) n = jN k n := by
  unfold bkN jN
  rw [sumR_flip (fun d e => (d : Int) ^ k * mu e) h]
  refine sumR_congr fun d _ _ => ?_
  split
  · exact Int.mul_comm _ _
  · rfl
theorem jN_more {k n N : Nat} (h1 : 1 ≤ n) (h : n ≤ N) : sumR (fun d => if d ∣ n then mu d * ((n / d : Nat) : Int) ^ k else 0) N = jN k n :=
  sumR_trunc h fun i hi _ => if_neg fun z => by
    have := Nat.le_of_dvd (by omega) z
    omega
theorem jN_pow {k p m : Nat} (hp : Pr p) (hm : ¬ p ∣ m) (m1 : 1 ≤ m) (e : Nat) : jN k (p ^ (e + 1) * m) = ((p ^ e : Nat) : Int) ^ k * ((p : Int) ^ k - 1) * jN k m := by
  have p2 := hp.1
  have n1 : p ^ (e + 1) * m = p * (p ^ e * m) := by rw [Nat.pow_succ, Nat.mul_comm (p ^ e) p, Nat.mul_assoc]
  have c : ∀ d, ¬ p ∣ d → ∀ k, (d ∣ p ^ k * m ↔ d ∣ m) := fun d hd k => by
    have hc : Nat.Coprime d (p ^ k) := Nat.Coprime.pow_right _ (hp.coprime hd).symm
    exact ⟨fun z => hc.dvd_of_dvd_mul_left z, fun z => Nat.dvd_trans z (Nat.dvd_mul_left _ _)⟩
  have ml : ∀ k, m ≤ p ^ k * m := fun k => Nat.le_mul_of_pos_left m (pe_pos hp)
  have quo : ∀ d e, 1 ≤ d → d ∣ m → ((p ^ e * m / d : Nat) : Int) ^ k = ((p ^ e : Nat) : Int) ^ k * ((m / d : Nat) : Int) ^ k := fun d e d1 hd => by
    rw [Nat.mul_div_assoc _ hd, Int.natCast_mul, Int.mul_pow]
  unfold jN
  rw [sumR_split (p := p) (by omega)]
  have a : sumR (fun d => if p ∣ d then 0 else if d ∣ p ^ (e + 1) * m then mu d * ((p ^ (e + 1) * m / d : Nat) : Int) ^ k else 0) (p ^ (e + 1) * m) = ((p ^ (e + 1) : Nat) : Int) ^ k * jN k m := by
    rw [← jN_more m1 (ml (e + 1)), ← sumR_mul]
    refine sumR_congr fun i i1 _ => ?_
    by_cases h : p ∣ i
    · rw [if_pos h, if_neg fun z => hm (Nat.dvd_trans h z), Int.mul_zero]
    · rw [if_neg h]
      by_cases g : i ∣ m
      · rw [if_pos g, if_pos ((c i h (e + 1)).mpr g), quo i (e + 1) i1 g, Int.mul_left_comm]
      · rw [if_neg g, if_neg fun z => g ((c i h (e + 1)).mp z), Int.mul_zero]
  have b : sumR (fun i => if p * i ∣ p ^ (e + 1) * m then mu (p * i) * ((p ^ (e + 1) * m / (p * i) : Nat) : Int) ^ k else 0) (p ^ (e + 1) * m / p) = - (((p ^ e : Nat) : Int) ^ k * jN k m) := by
    rw [n1, Nat.mul_div_cancel_left _ (by omega : 0 < p), ← jN_more m1 (ml e), ← sumR_mul, ← sumR_neg]
    refine sumR_congr fun i i1 _ => ?_
    rw [Nat.mul_div_mul_left _ _ (by omega : 0 < p)]
    by_cases h : p ∣ i
    · rw [mu_mul_dvd hp h i1, if_neg fun z => hm (Nat.dvd_trans h z)]
      split <;> simp
    · rw [mu_mul hp h]
      by_cases g : i ∣ m
      · rw [if_pos g, if_pos (Nat.mul_dvd_mul_left p ((c i h e).mpr g)), quo i e i1 g, Int.neg_mul, Int.mul_left_comm]
      · rw [if_neg g, if_neg fun z => g ((c i h e).mp (Nat.dvd_of_mul_dvd_mul_left (by omega) z))]
        simp
  rw [a, b]
  have e3 : ((p ^ (e + 1) : Nat) : Int) ^ k = ((p ^ e : Nat) : Int) ^ k * (p : Int) ^ k := by rw [Nat.pow_succ, Int.natCast_mul, Int.mul_pow]
  show _ = ((p ^ e : Nat) : Int) ^ k * ((p : Int) ^ k - 1) * jN k m
  rw [e3]
  grind
theorem jN_mul {k p j : Nat} (hp : Pr p) (h : ¬ p ∣ j) (h1 : 1 ≤ j) : jN k (p * j) = ((p : Int) ^ k - 1) * jN k j := by
  have := jN_pow (k := k) hp h h1 0
  rw [Nat.pow_zero, Nat.zero_add, Nat.pow_one] at this
  rw [this, show ((1 : Nat) : Int) = 1 from rfl, Int.one_pow, Int.one_mul]
theorem jN_mul_dvd {k p j : Nat} (hp : Pr p) (h : p ∣ j) (h1 : 1 ≤ j) : jN k (p * j) = (p : Int) ^ k * jN k j := by
  obtain ⟨e, t, rfl, ht, t0⟩ := strip_ex hp.1 j h1
  obtain ⟨f, rfl⟩ : ∃ f, e = f + 1 := by
    cases e with
    | zero =>
      rw [Nat.pow_zero, Nat.mul_one] at h
      exact (ht h).elim
    | succ f => exact ⟨f, rfl⟩
  have e1 : p * (t * p ^ (f + 1)) = p ^ (f + 1 + 1) * t := by rw [Nat.pow_succ p (f + 1), Nat.mul_comm t, Nat.mul_comm (p ^ (f + 1)) p, Nat.mul_assoc]
  rw [e1, Nat.mul_comm t, jN_pow hp ht t0, jN_pow hp ht t0, Nat.pow_succ, Int.natCast_mul, Int.mul_pow]
  grind
theorem jsum_pow {k p m : Nat} (hp : Pr p) (hm : ¬ p ∣ m) (m1 : 1 ≤ m) (h : dsum (jN k) m = (m : Int) ^ k) : ∀ e : Nat, dsum (fun d => jN k (p * d)) (p ^ e * m) = (((p ^ (e + 1) : Nat) : Int) ^ k - 1) * (m : Int) ^ k
  | 0 => by
    rw [Nat.pow_zero, Nat.one_mul, Nat.zero_add, Nat.pow_one, ← h, ← dsum_mul]
    refine sumR_congr fun i i1 _ => ?_
    by_cases z : i ∣ m
    · rw [if_pos z, if_pos z]
      exact jN_mul hp (fun y => hm (Nat.dvd_trans y z)) i1
    · rw [if_neg z, if_neg z]
  | e + 1 => by
    rw [dsum_pow _ hp hm m1 e]
    have a : dsum (fun d => jN k (p * d)) m = ((p : Int) ^ k - 1) * (m : Int) ^ k := by
      have := jsum_pow hp hm m1 h 0
      rw [Nat.pow_zero, Nat.one_mul, Nat.zero_add, Nat.pow_one] at this
      exact this
    have b : dsum (fun d => jN k (p * (p * d))) (p ^ e * m) = (p : Int) ^ k * dsum (fun d => jN k (p * d)) (p ^ e * m) := by
      rw [← dsum_mul]
      refine sumR_congr fun i i1 _ => ?_
      split
      · exact jN_mul_dvd hp (Nat.dvd_mul_right p i) (Nat.mul_pos (by have := hp.1; omega) i1)
      · rfl
    rw [a, b, jsum_pow hp hm m1 h e, Nat.pow_succ p (e + 1), Int.natCast_mul, Int.mul_pow]
    grind
theorem jN_one {k : Nat} : jN k 1 = 1 := by
  unfold jN
  rw [sumR_one (k := 1) (Nat.le_refl 1) (Nat.le_refl 1) fun i a b c => absurd (Nat.le_antisymm b a) c, if_pos (Nat.dvd_refl 1), mu_one, Nat.div_self (by decide), show ((1 : Nat) : Int) = 1 from rfl, Int.one_pow, Int.one_mul]
theorem jsum_ok {k : Nat} : ∀ {b : Nat} {L : List (Nat × Nat)}, FacOk b L → dsum (jN k) (facP L) = (facP L : Int) ^ k
  | _, [], _ => by
    show dsum (jN k) 1 = ((1 : Nat) : Int) ^ k
    unfold dsum
    rw [sumR_one (k := 1) (Nat.le_refl 1) (Nat.le_refl 1) fun i a b c => absurd (Nat.le_antisymm b a) c, if_pos (Nat.dvd_refl 1), jN_one, show ((1 : Nat) : Int) = 1 from rfl, Int.one_pow]
  | b, (p, e) :: r, ⟨h1, h2, h3, h4⟩ => by
    obtain ⟨f, rfl⟩ : ∃ f, e = f + 1 := ⟨e - 1, by omega⟩
    have ih := jsum_ok (k := k) h4
    have nd := not_dvd_rest h2 h4
    have pos := FacOk.pos h4
    show dsum (jN k) (p ^ (f + 1) * facP r) = ((p ^ (f + 1) * facP r : Nat) : Int) ^ k
    rw [dsum_pow _ h2 nd pos f, jsum_pow h2 nd pos ih f, ih, Int.natCast_mul, Int.mul_pow]
    grind
theorem jsum {k n : Nat} (h : 1 ≤ n) : dsum (jN k) n = (n : Int) ^ k := by
  obtain ⟨L, hL⟩ := fac_ex h
  rw [← hL.2]
  exact jsum_ok hL.1
def jL (k : Nat) : List (Nat × Nat) → Int
  | [] => 1
  | x :: r => ((x.1 ^ (x.2 - 1) : Nat) : Int) ^ k * ((x.1 : Int) ^ k - 1) * jL k r
theorem jN_ok {k : Nat} : ∀ {b : Nat} {L : List (Nat × Nat)}, FacOk b L → jN k (facP L) = jL k L
  | _, [], _ => by
    exact jN_one
  | b, (p, e) :: r, ⟨h1, h2, h3, h4⟩ => by
    obtain ⟨f, rfl⟩ : ∃ f, e = f + 1 := ⟨e - 1, by omega⟩
    show jN k (p ^ (f + 1) * facP r) = ((p ^ (f + 1 - 1) : Nat) : Int) ^ k * ((p : Int) ^ k - 1) * jL k r
    rw [jN_pow h2 (not_dvd_rest h2 h4) (FacOk.pos h4), jN_ok h4, Nat.add_sub_cancel]
theorem jN_fac {k n : Nat} {L : List (Nat × Nat)} (h : FacOf L n) : jN k n = jL k L := by
  rw [← h.2]
  exact jN_ok h.1

end M
namespace M
/-! worths of closed lots' tables by rows, of least multiples; beside contraries */ -/
def lcmF (x y : Nat) : Int := (x / Nat.gcd x y * y : Nat)
theorem sumE_Sg {m K : Nat} {h : Nat → Nat} (f : Nat → Int) (hu : ∀ i j, i < j → j < m → h i < h j) (hb : ∀ t, t < m → 1 ≤ h t ∧ h t ≤ K) (hf : ∀ d, 1 ≤ d → d ≤ K → (∀ t, t < m → h t ≠ d) → f d = 0) : (Sg m fun t => f (h t)) = sumR f K := by
  rw [← sumL_Sg]
  exact sumE (h := h) (K := K) f f hu hb hf
theorem atL_bound {l : List Nat} (h : ∀ y ∈ l, 1 ≤ y) {t : Nat} (ht : t < l.length) {x : Nat} : 1 ≤ atL l t ∧ atL l t ≤ x + l.sum := by
  have a := atL_mem ht
  have b := le_sumL a
  exact ⟨h _ a, by omega⟩
/-- tables by a row: b, the row back -/
theorem det_row_closed {l : List Nat} {f b : Nat → Int} (hl : l.Pairwise (· < ·)) (h : ∀ y ∈ l, 1 ≤ y) (c : ClL l) (hf : ∀ x ∈ l, dsum b x = f x) : detL (fun x y => f (Nat.gcd x y)) l = prL b l := by
  rw [← prodF_app]
  unfold detL
  refine det_EDE (E := fun a t => if atL l t ∣ atL l a then 1 else 0) (fun t _ => if_pos (Nat.dvd_refl _)) (fun a t ha ht hat => if_neg fun z => ?_) fun i j hi hj => ?_
  · have := Nat.le_of_dvd (h _ (atL_mem ha)) z
    have := atL_lt hl hat ht
    omega
  · have xi := h _ (atL_mem hi)
    have gm : Nat.gcd (atL l i) (atL l j) ∈ l := c _ (atL_mem hi) _ (Nat.gcd_dvd_left _ _)
    have g1 := h _ gm
    have g2 := le_sumL gm
    show f (Nat.gcd (atL l i) (atL l j)) = _
    rw [← hf _ gm, ← dsum_more (N := l.sum) g1 g2]
    rw [← sumE_Sg (m := l.length) (h := atL l) (K := l.sum) (fun d => if d ∣ Nat.gcd (atL l i) (atL l j) then b d else 0) (fun a b hab hb => atL_lt hl hab hb) (fun t ht => by have := atL_bound h ht (x := 0); omega) fun d d1 _ hd => if_neg fun z => by
      obtain ⟨t, ht, e⟩ := atL_of (c _ gm d z)
      exact hd t ht e]
    refine Sg_congr fun t _ => ?_
    by_cases a : atL l t ∣ atL l i <;> by_cases b : atL l t ∣ atL l j
    · rw [if_pos a, if_pos b, if_pos (Nat.dvd_gcd a b)]
      omega
    · rw [if_neg b, if_neg fun z => b (Nat.dvd_trans z (Nat.gcd_dvd_right _ _)), Int.mul_zero]
    · rw [if_neg a, if_neg fun z => a (Nat.dvd_trans z (Nat.gcd_dvd_left _ _)), Int.zero_mul, Int.zero_mul]
    · rw [if_neg b, if_neg fun z => b (Nat.dvd_trans z (Nat.gcd_dvd_right _ _)), Int.mul_zero]
theorem lcm_closed {l : List Nat} (hl : l.Pairwise (· < ·)) (h : ∀ y ∈ l, 1 ≤ y) (c : ClL l) : detL lcmF l = prL mfN l := by
  rw [← prodF_app]
  unfold detL
  refine det_EDE (E := fun a t => if atL l t ∣ atL l a then ((atL l a / atL l t : Nat) : Int) else 0) (fun t ht => ?_) (fun a t ha ht hat => if_neg fun z => ?_) fun i j hi hj => ?_
  · rw [if_pos (Nat.dvd_refl _), Nat.div_self (h _ (atL_mem ht))]
    rfl
  · have := Nat.le_of_dvd (h _ (atL_mem ha)) z
    have := atL_lt hl hat ht
    omega
  · have gm : Nat.gcd (atL l i) (atL l j) ∈ l := c _ (atL_mem hi) _ (Nat.gcd_dvd_left _ _)
    generalize hx : atL l i = x at gm
    generalize hy : atL l j = y at gm
    have x1 : 1 ≤ x := hx ▸ h _ (atL_mem hi)
    have y1 : 1 ≤ y := hy ▸ h _ (atL_mem hj)
    generalize hg : Nat.gcd x y = g at gm
    have g1 := h _ gm
    have g2 := le_sumL gm
    obtain ⟨a, ha⟩ : g ∣ x := hg ▸ Nat.gcd_dvd_left x y
    obtain ⟨b, hb⟩ : g ∣ y := hg ▸ Nat.gcd_dvd_right x y
    have e : lcmF x y = (a : Int) * b * g := by
      unfold lcmF
      rw [hg, ha, Nat.mul_div_cancel_left _ g1, hb, Int.natCast_mul, Int.natCast_mul]
      grind
    rw [e, ← mfsq g1, ← cs2_more (N := l.sum) g1 g2]
    rw [← sumE_Sg (m := l.length) (h := atL l) (K := l.sum) (fun d => if d ∣ g then mfN d * ((g / d : Nat) * (g / d : Nat) : Int) else 0) (fun a b hab hb => atL_lt hl hab hb) (fun t ht => by have := atL_bound h ht (x := 0); omega) fun d d1 _ hd => if_neg fun z => by
      obtain ⟨t, ht, e⟩ := atL_of (c _ gm d z)
      exact hd t ht e, Sg_mul]
    refine Sg_congr fun t _ => ?_
    by_cases p : atL l t ∣ x <;> by_cases q : atL l t ∣ y
    · have gd : atL l t ∣ g := hg ▸ Nat.dvd_gcd p q
      rw [if_pos p, if_pos q, if_pos gd, ha, hb, Nat.mul_comm g a, Nat.mul_comm g b, Nat.mul_div_assoc _ gd, Nat.mul_div_assoc _ gd, Int.natCast_mul, Int.natCast_mul]
      grind
    · rw [if_neg q, if_neg fun z => q (Nat.dvd_trans z (hg ▸ Nat.gcd_dvd_right x y)), Int.mul_zero, Int.mul_zero]
    · rw [if_neg p, if_neg fun z => p (Nat.dvd_trans z (hg ▸ Nat.gcd_dvd_left x y)), Int.zero_mul, Int.zero_mul, Int.mul_zero]
    · rw [if_neg q, if_neg fun z => q (Nat.dvd_trans z (hg ▸ Nat.gcd_dvd_right x y)), Int.mul_zero, Int.mul_zero]
/-- beside a table of contraries -/
theorem det_contrary {n Lc : Nat} {g : Nat → Nat} (h1 : ∀ i, i < n → 1 ≤ g i) (hd : ∀ i j, i < n → j < n → Nat.gcd (g i) (g j) ∣ Lc) :
    det n (fun i j => lcmF (g i) (g j)) * (Lc : Int) ^ n = prodF (fun i => (g i : Int)) n * prodF (fun i => (g i : Int)) n * det n fun i j => ((Lc / Nat.gcd (g i) (g j) : Nat) : Int) := by
  rw [Int.mul_comm, ← det_smul, Int.mul_assoc, ← det_mulCols, ← det_mulRows]
  refine det_congr fun i j hi hj => ?_
  have gp : 0 < Nat.gcd (g i) (g j) := Nat.gcd_pos_of_pos_left _ (h1 i hi)
  obtain ⟨a, ha⟩ : Nat.gcd (g i) (g j) ∣ g i := Nat.gcd_dvd_left _ _
  obtain ⟨c, hc⟩ := hd i j hi hj
  unfold lcmF
  generalize hg : Nat.gcd (g i) (g j) = m at gp ha hc
  rw [hc, Nat.mul_div_cancel_left _ gp]
  have e : g i / m = a := by rw [ha, Nat.mul_div_cancel_left _ gp]
  rw [e, ha]
  simp only [Int.natCast_mul]
  grind

end M
namespace M
/-! rows from sums over divisors: back and forth -/
theorem dsum_mu {n : Nat} (h : 1 ≤ n) : dsum mu n = if n = 1 then 1 else 0 := by
  have e : dsum mu n = jN 0 n := by
    unfold dsum jN
    refine sumR_congr fun d _ _ => ?_
    rw [Int.pow_zero, Int.mul_one]
  obtain ⟨L, hL⟩ := fac_ex h
  rw [e, jN_fac hL]
  cases L with
  | nil =>
    rw [if_pos (show n = 1 from hL.2.symm)]
    rfl
  | cons x r =>
    obtain ⟨p, k⟩ := x
    obtain ⟨⟨h1, h2, h3, h4⟩, h5⟩ := hL
    have hn : n ≠ 1 := by
      have h5 : p ^ k * facP r = n := h5
      intro z
      rw [z] at h5
      have := Nat.eq_one_of_mul_eq_one_right h5
      have p2 := h2.1
      have : p ^ 1 ≤ p ^ k := Nat.pow_le_pow_right (by omega) h3
      rw [Nat.pow_one] at this
      omega
    rw [if_neg hn]
    show ((p ^ (k - 1) : Nat) : Int) ^ 0 * ((p : Int) ^ 0 - 1) * jL 0 r = 0
    rw [Int.pow_zero, Int.pow_zero]
    simp
theorem bk_inv {f : Nat → Int} {n : Nat} (h : 1 ≤ n) : dsum (bkN f) n = f n := by
  have a : dsum (bkN f) n = sumR (fun d => sumR (fun e => if e ∣ d then (if d ∣ n then f e * mu (d / e) else 0) else 0) n) n := sumR_congr fun d d1 d2 => by
    by_cases g : d ∣ n
    · rw [if_pos g]
      unfold bkN
      rw [sumR_trunc d2 fun i hi _ => if_neg fun z => by have := Nat.le_of_dvd d1 z; omega]
      refine sumR_congr fun e _ _ => ?_
      rw [if_pos g]
    · rw [if_neg g]
      refine (sumR_zero fun e _ _ => ?_).symm
      rw [if_neg g]
      split <;> rfl
  have b : ∀ e, 1 ≤ e → e ≤ n → sumR (fun d => if e ∣ d then (if d ∣ n then f e * mu (d / e) else 0) else 0) n = if e = n then f n else 0 := fun e e1 e2 => by
    rw [sumR_mult e1 fun d => if d ∣ n then f e * mu (d / e) else 0]
    by_cases g : e ∣ n
    · obtain ⟨m, rfl⟩ := g
      have m1 : 1 ≤ m := Nat.pos_of_ne_zero fun z => by rw [z] at h; omega
      rw [Nat.mul_div_cancel_left _ e1]
      have c : sumR (fun k => if e * k ∣ e * m then f e * mu (e * k / e) else 0) m = f e * dsum mu m := by
        unfold dsum
        rw [← sumR_mul]
        refine sumR_congr fun k _ _ => ?_
        rw [Nat.mul_div_cancel_left _ e1]
        by_cases q : k ∣ m
        · rw [if_pos q, if_pos (Nat.mul_dvd_mul_left e q)]
        · rw [if_neg q, if_neg fun z => q (Nat.dvd_of_mul_dvd_mul_left e1 z), Int.mul_zero]
      rw [c, dsum_mu m1]
      by_cases q : m = 1
      · rw [q, Nat.mul_one, if_pos rfl, if_pos rfl, Int.mul_one]
      · rw [if_neg q, Int.mul_zero, if_neg]
        intro z
        have : e * 1 = e * m := by omega
        exact q (Nat.eq_of_mul_eq_mul_left e1 this).symm
    · rw [sumR_zero fun k _ _ => if_neg fun z => g (Nat.dvd_trans (Nat.dvd_mul_right e k) z), if_neg (fun z : e = n => g (z ▸ Nat.dvd_refl e))]
  rw [a, sumR_swap, sumR_congr b, sumR_one (k := n) h (Nat.le_refl n) fun i _ _ z => if_neg z, if_pos rfl]
theorem sumR_abs {F : Nat → Int} {c : Nat} : ∀ {n : Nat}, (∀ i, 1 ≤ i → i ≤ n → (F i).natAbs ≤ c) → (sumR F n).natAbs ≤ c * n
  | 0, _ => by
    show (0 : Int).natAbs ≤ _
    omega
  | n + 1, h => by
    have a := sumR_abs (n := n) fun i h1 h2 => h i h1 (by omega)
    have b := h (n + 1) (by omega) (Nat.le_refl _)
    show (sumR F n + F (n + 1)).natAbs ≤ _
    rw [Nat.mul_succ]
    omega
theorem mu_abs (n : Nat) : (mu n).natAbs ≤ 1 := by
  rcases mu_small n with z | z | z <;> rw [z] <;> decide
theorem bk_abs {f : Nat → Int} {c n : Nat} (h : ∀ d, (f d).natAbs ≤ c) : (bkN f n).natAbs ≤ c * n := sumR_abs fun d _ _ => by
  split
  · rw [Int.natAbs_mul]
    exact Nat.le_trans (Nat.mul_le_mul (h d) (mu_abs _)) (by omega)
  · exact Nat.zero_le _
theorem filter_sum (p : Nat → Bool) (F : Nat → Int) (h0 : p 0 = false) : ∀ N : Nat, (((List.range (N + 1)).filter p).map F).sum = sumR (fun d => if p d = true then F d else 0) N
  | 0 => by
    rw [List.range_succ, List.filter_append, List.filter_cons, h0]
    rfl
  | N + 1 => by
    rw [List.range_succ, List.filter_append, List.map_append, List.sum_append, filter_sum p F h0 N, List.filter_cons]
    show _ = sumR _ N + _
    cases e : p (N + 1) with
    | true => simp [e]
    | false => simp [e]
theorem div_sum {f : Nat → Int} {n : Nat} (h : 1 ≤ n) : ((divsL n).map fun d => f d * mu (n / d)).sum = bkN f n := by
  unfold divsL bkN
  rw [filter_sum _ _ (by simp)]
  refine sumR_congr fun d d1 _ => ?_
  by_cases g : d ∣ n
  · rw [if_pos g, if_pos (decide_eq_true ⟨d1, g⟩)]
  · rw [if_neg g, if_neg fun z => g (of_decide_eq_true z).2]

end M
namespace M
/-! fractions in lowest terms; the table of shares undone -/
def lwP (a b : Int) : Int × Int := (a.fdiv (Nat.gcd a.natAbs b.natAbs : Nat), b.fdiv (Nat.gcd a.natAbs b.natAbs : Nat))
theorem lw_parts {a b : Int} (hb : 0 < b) : ∃ k x y : Int, 0 < k ∧ a = k * x ∧ b = k * y ∧ lwP a b = (x, y) ∧ k = (Nat.gcd a.natAbs b.natAbs : Nat) := by
  have gp : 0 < Nat.gcd a.natAbs b.natAbs := Nat.gcd_pos_of_pos_right _ (by omega)
  obtain ⟨x, hx⟩ : ((Nat.gcd a.natAbs b.natAbs : Nat) : Int) ∣ a := Int.ofNat_dvd_left.mpr (Nat.gcd_dvd_left _ _)
  obtain ⟨y, hy⟩ : ((Nat.gcd a.natAbs b.natAbs : Nat) : Int) ∣ b := Int.ofNat_dvd_left.mpr (Nat.gcd_dvd_right _ _)
  refine ⟨_, x, y, Int.natCast_pos.mpr gp, hx, hy, ?_, rfl⟩
  unfold lwP
  generalize hk : ((Nat.gcd a.natAbs b.natAbs : Nat) : Int) = k at hx hy ⊢
  have kp : k ≠ 0 := by omega
  rw [hx, hy, Int.fdiv_eq_ediv_of_nonneg _ (by omega), Int.fdiv_eq_ediv_of_nonneg _ (by omega), Int.mul_ediv_cancel_left _ kp, Int.mul_ediv_cancel_left _ kp]
theorem lw_val {a b : Int} (hb : 0 < b) : (lwP a b).1 * b = a * (lwP a b).2 ∧ 1 ≤ (lwP a b).2 ∧ (lwP a b).2 ≤ b ∧ (lwP a b).1.natAbs ≤ a.natAbs := by
  obtain ⟨k, x, y, kp, hx, hy, e, _⟩ := lw_parts (a := a) hb
  rw [e]
  show x * b = a * y ∧ 1 ≤ y ∧ y ≤ b ∧ x.natAbs ≤ a.natAbs
  have yp : 0 < y := by
    refine Classical.byContradiction fun z => ?_
    have := Int.mul_nonpos_of_nonneg_of_nonpos (show 0 ≤ k by omega) (show y ≤ 0 by omega)
    omega
  have h1 : x * b = a * y := by rw [hx, hy]; grind
  refine ⟨h1, yp, ?_, ?_⟩
  · rw [hy]
    have := Int.mul_le_mul_of_nonneg_right (show 1 ≤ k by omega) (show 0 ≤ y by omega)
    omega
  · rw [hx, Int.natAbs_mul]
    exact Nat.le_mul_of_pos_left _ (by omega)
theorem lw_scale {k a b : Int} (hk : 0 < k) (hb : 0 < b) : lwP (k * a) (k * b) = lwP a b := by
  obtain ⟨q, x, y, qp, hx, hy, e, hq⟩ := lw_parts (a := a) hb
  have g : ((Nat.gcd (k * a).natAbs (k * b).natAbs : Nat) : Int) = k * q := by
    rw [Int.natAbs_mul, Int.natAbs_mul, Nat.gcd_mul_left, Int.natCast_mul, ← hq, Int.natAbs_of_nonneg (by omega)]
  rw [e]
  unfold lwP
  have kq : 0 < k * q := Int.mul_pos hk qp
  rw [g, Int.fdiv_eq_ediv_of_nonneg _ (by omega), Int.fdiv_eq_ediv_of_nonneg _ (by omega)]
  have e1 : k * a = k * q * x := by rw [hx, Int.mul_assoc]
  have e2 : k * b = k * q * y := by rw [hy, Int.mul_assoc]
  rw [e1, e2, Int.mul_ediv_cancel_left _ (by omega), Int.mul_ediv_cancel_left _ (by omega)]
theorem lw_eq {a b c d : Int} (hb : 0 < b) (hd : 0 < d) (h : a * d = c * b) : lwP a b = lwP c d := by
  rw [← lw_scale (a := a) hd hb, ← lw_scale (a := c) hb hd, Int.mul_comm d a, h, Int.mul_comm c b, Int.mul_comm d b]
theorem lw_add {X Y D a b c d : Int} (hD : 0 < D) (hb : 0 < b) (hd : 0 < d) (h1 : a * D = X * b) (h2 : c * D = Y * d) : lwP (a * d + c * b) (b * d) = lwP (X + Y) D :=
  lw_eq (Int.mul_pos hb hd) hD (by
    rw [Int.add_mul, Int.add_mul, show a * d * D = a * D * d by grind, h1, show c * b * D = c * D * b by grind, h2]
    grind)
theorem lw_zero {D : Int} (hD : 0 < D) : lwP 0 D = (0, 1) := by
  rw [lw_eq (c := 0) (d := 1) hD (by decide) (by omega)]
  rfl
theorem lw_one {D : Int} (hD : 0 < D) : lwP D D = (1, 1) := by
  rw [lw_eq (c := 1) (d := 1) hD (by decide) (by omega)]
  rfl
/-! sums over divisors tell a row -/
theorem dsum_inj {u v : Nat → Int} (h : ∀ n, 1 ≤ n → dsum u n = dsum v n) : ∀ k n, 1 ≤ n → n ≤ k → u n = v n
  | 0, n, h1, h2 => by omega
  | k + 1, n, h1, h2 => by
    obtain ⟨m, rfl⟩ : ∃ m, n = m + 1 := ⟨n - 1, by omega⟩
    have e := h (m + 1) h1
    unfold dsum at e
    rw [sumR, sumR, if_pos (Nat.dvd_refl _), if_pos (Nat.dvd_refl _), sumR_congr (g := fun d => if d ∣ m + 1 then v d else 0) (fun i i1 i2 => by rw [dsum_inj h k i i1 (by omega)])] at e
    omega
theorem bk_dsum {h : Nat → Int} {n : Nat} (hn : 1 ≤ n) : bkN (dsum h) n = h n := dsum_inj (fun m hm => bk_inv hm) n n hn (Nat.le_refl n)
theorem gcd_dsum {a d : Nat} (ha : 1 ≤ a) (hd : 1 ≤ d) : dsum (fun e => if e ∣ a then phN e else 0) d = (Nat.gcd a d : Nat) := by
  have gp : 1 ≤ Nat.gcd a d := Nat.gcd_pos_of_pos_left _ ha
  rw [← gauss gp, ← dsum_more gp (Nat.le_of_dvd hd (Nat.gcd_dvd_right a d))]
  refine sumR_congr fun e _ _ => ?_
  show (if e ∣ d then (if e ∣ a then phN e else 0) else 0) = if e ∣ Nat.gcd a d then phN e else 0
  by_cases h1 : e ∣ d
  · by_cases h2 : e ∣ a
    · rw [if_pos h1, if_pos h2, if_pos (Nat.dvd_gcd h2 h1)]
    · rw [if_pos h1, if_neg h2, if_neg fun z => h2 (Nat.dvd_trans z (Nat.gcd_dvd_left _ _))]
  · rw [if_neg h1, if_neg fun z => h1 (Nat.dvd_trans z (Nat.gcd_dvd_right _ _))]
theorem bk_gcd {a N : Nat} (ha : 1 ≤ a) (hN : 1 ≤ N) : bkN (fun d => (Nat.gcd a d : Nat)) N = if N ∣ a then phN N else 0 := by
  rw [← bk_dsum (h := fun e => if e ∣ a then phN e else 0) hN]
  unfold bkN
  refine sumR_congr fun d d1 _ => ?_
  rw [gcd_dsum ha d1]
/-! a closed lot -/
structure ClG (n : Nat) (g : Nat → Nat) : Prop where
  up : ∀ i j, i < j → j < n → g i < g j
  lo : ∀ i, i < n → 1 ≤ g i
  cl : ∀ i, i < n → ∀ d, d ∣ g i → ∃ j, j < n ∧ g j = d
def unX (g : Nat → Nat) (w : Nat → Int) (i j t : Nat) : Int := if g i ∣ g t ∧ g j ∣ g t then mu (g t / g i) * mu (g t / g j) * w t else 0
theorem lot_sum {n K N : Nat} {g : Nat → Nat} (C : ClG n g) (hK : ∀ i, i < n → g i ≤ K) (f : Nat → Int) (N1 : 1 ≤ N) (hN : N ≤ K) (h0 : ∀ d, 1 ≤ d → ¬ (∃ j, j < n ∧ g j = d) → f d = 0) (h1 : ∀ d, N < d → f d = 0) : (Sg n fun t => f (g t)) = sumR f N := by
  rw [sumE_Sg (K := K) f C.up (fun t ht => ⟨C.lo t ht, hK t ht⟩) fun d d1 _ hd => h0 d d1 fun ⟨j, hj, e⟩ => hd j hj e]
  exact sumR_trunc hN fun i hi _ => h1 i hi
theorem undone {n K a b : Nat} {g : Nat → Nat} {w : Nat → Int} {D : Int} (C : ClG n g) (hK : ∀ i, i < n → g i ≤ K) (hw : ∀ t, t < n → w t * phN (g t) = D) (ha : a < n) (hb : b < n) :
    (Sg n fun k => (Nat.gcd (g a) (g k) : Nat) * Sg n fun t => unX g w k b t) = if a = b then D else 0 := by
  have a1 := C.lo a ha
  have b1 := C.lo b hb
  have e1 : (Sg n fun k => ((Nat.gcd (g a) (g k) : Nat) : Int) * Sg n fun t => unX g w k b t) = Sg n fun t => Sg n fun k => ((Nat.gcd (g a) (g k) : Nat) : Int) * unX g w k b t := by
    rw [← Sg_comm]
    exact Sg_congr fun k _ => Sg_mul
  rw [e1]
  have e2 : ∀ t, t < n → (Sg n fun k => ((Nat.gcd (g a) (g k) : Nat) : Int) * unX g w k b t) = if g b ∣ g t ∧ g t ∣ g a then mu (g t / g b) * D else 0 := fun t ht => by
    have t1 := C.lo t ht
    by_cases hbt : g b ∣ g t
    · have e3 : (Sg n fun k => ((Nat.gcd (g a) (g k) : Nat) : Int) * unX g w k b t) = Sg n fun k => mu (g t / g b) * w t * (if g k ∣ g t then ((Nat.gcd (g a) (g k) : Nat) : Int) * mu (g t / g k) else 0) := Sg_congr fun k _ => by
        unfold unX
        by_cases hk : g k ∣ g t
        · rw [if_pos ⟨hk, hbt⟩, if_pos hk]
          grind
        · rw [if_neg fun z => hk z.1, if_neg hk, Int.mul_zero, Int.mul_zero]
      rw [e3, ← Sg_mul, lot_sum C hK (fun d => if d ∣ g t then ((Nat.gcd (g a) d : Nat) : Int) * mu (g t / d) else 0) t1 (hK t ht) (fun d _ hd => if_neg fun z => hd (C.cl t ht d z)) (fun d hd => if_neg fun z => by have := Nat.le_of_dvd t1 z; omega)]
      have e4 := bk_gcd a1 t1
      unfold bkN at e4
      rw [e4]
      by_cases hta : g t ∣ g a
      · rw [if_pos hta, if_pos ⟨hbt, hta⟩, Int.mul_assoc, hw t ht]
      · rw [if_neg hta, if_neg fun z => hta z.2, Int.mul_zero]
    · rw [if_neg fun z => hbt z.1]
      refine Sg_zero fun k _ => ?_
      unfold unX
      rw [if_neg fun z => hbt z.2, Int.mul_zero]
  rw [Sg_congr e2, lot_sum C hK (fun d => if g b ∣ d ∧ d ∣ g a then mu (d / g b) * D else 0) a1 (hK a ha) (fun d _ hd => if_neg fun z => hd (C.cl a ha d z.2)) (fun d hd => if_neg fun z => by have := Nat.le_of_dvd a1 z.2; omega)]
  have e5 : sumR (fun d => if g b ∣ d ∧ d ∣ g a then mu (d / g b) * D else 0) (g a) = sumR (fun d => if g b ∣ d then (if d ∣ g a then mu (d / g b) * D else 0) else 0) (g a) := sumR_congr fun d _ _ => by
    by_cases h1 : g b ∣ d <;> by_cases h2 : d ∣ g a
    · rw [if_pos ⟨h1, h2⟩, if_pos h1, if_pos h2]
    · rw [if_neg fun z => h2 z.2, if_pos h1, if_neg h2]
    · rw [if_neg fun z => h1 z.1, if_neg h1]
    · rw [if_neg fun z => h1 z.1, if_neg h1]
  rw [e5, sumR_mult b1 fun d => if d ∣ g a then mu (d / g b) * D else 0]
  by_cases hab : g b ∣ g a
  · obtain ⟨m, hm⟩ := hab
    have m1 : 1 ≤ m := Nat.pos_of_ne_zero fun z => by rw [z] at hm; omega
    rw [hm, Nat.mul_div_cancel_left _ b1]
    have e6 : sumR (fun k => if g b * k ∣ g b * m then mu (g b * k / g b) * D else 0) m = D * dsum mu m := by
      unfold dsum
      rw [← sumR_mul]
      refine sumR_congr fun k _ _ => ?_
      rw [Nat.mul_div_cancel_left _ b1]
      by_cases q : k ∣ m
      · rw [if_pos q, if_pos (Nat.mul_dvd_mul_left _ q), Int.mul_comm]
      · rw [if_neg q, if_neg fun z => q (Nat.dvd_of_mul_dvd_mul_left b1 z), Int.mul_zero]
    rw [e6, dsum_mu m1]
    by_cases q : m = 1
    · have : a = b := by
        rw [q, Nat.mul_one] at hm
        rcases Nat.lt_trichotomy a b with z | z | z
        · have := C.up a b z hb
          omega
        · exact z
        · have := C.up b a z ha
          omega
      rw [if_pos q, if_pos this, Int.mul_one]
    · have : a ≠ b := fun z => by
        rw [z] at hm
        exact q (Nat.eq_of_mul_eq_mul_left b1 (by omega))
      rw [if_neg q, if_neg this, Int.mul_zero]
  · rw [sumR_zero fun k _ _ => if_neg fun z => hab (Nat.dvd_trans (Nat.dvd_mul_right _ k) z), if_neg fun z => hab (by rw [z]; exact Nat.dvd_refl _)]

end M
namespace M
open PySem PySem.Spec PyProof.Rows L2 G LamX RZ
section
variable {P : Program} {w : World} {K : PySem.W.Frag} {mg : Str → Option Value} {base : Heap}
/-! shares, least multiples, rows put together, products -/
def sp__law_share (_ : PySem.W.Frag) : Sp := spec2 fun x y H Q _ => ∃ a b : Nat, x = .int a ∧ y = .int b ∧ Q (.int (Nat.gcd a b : Nat)) H
theorem ok__law_share {af : Addr} {fd : FuncData} (F : FunD K "_law_share" "_law_share" (defArgs s__law_share) (defBody s__law_share) (defScope s__law_share) [] [] af fd) (B : Bt mg)  : FnG False P w K mg base CX0 1 af fd ["near", "far"] (sp__law_share K) := by
  refine okG F sc__law_share ar2 fun cdv A outer s H vs Q E hg hr h => ?_
  refine ⟨_, PSs.nox (pss_cons (ps_par (i := 2) (j := 3) (by rfl) sc__law_share.nd rfl rfl (by decide) rfl rfl (pa_cons (pv 0) (pa_cons (pv 1) pa_nil)) (by rfl))
    (pss_cons (ps_while PassesOwn.never (pt_cmpR op_gt (pv 3) pe_int (nomark _))
      (pss_one (ps_par (i := 2) (j := 3) (by rfl) sc__law_share.nd rfl rfl (by decide) rfl rfl (pa_cons (pv 3) (pa_cons (pe_callTy call_int1 (by rfl) B.int (by decide +kernel) (pa_cons (pe_op op_mod (pv 2) (pv 3)) pa_nil)) pa_nil)) (by rfl))))
    (pss_one (ps_ret (pv 2))))), ?_⟩
  obtain ⟨_, _, rfl, a, b, rfl, rfl, q⟩ := h
  refine ⟨_, rfl, _, rfl, _, _, rfl, ?_⟩
  refine ⟨fun m σ H' => ∃ c d : Nat, σ = [some (.int (a : Int)), some (.int (b : Int)), some (.int (c : Int)), some (.int (d : Int))] ∧ H' = H ∧ Nat.gcd c d = Nat.gcd a b ∧ d = m, ⟨_, a, b, rfl, rfl, rfl, rfl⟩, fun m σ H' hW => ?_⟩
  obtain ⟨c, d, rfl, rfl, hg', rfl⟩ := hW
  refine ⟨_, rfl, _, _, rfl, rfl, _, rfl, ite2 (fun hc => ?_) (fun hc => ?_)⟩
  · have d0 : 0 < d := by
      have : (0 : Int) < (d : Int) := of_decide_eq_true hc
      omega
    have lt := Nat.mod_lt c d0
    exact ⟨_, fun _ _ z => z, _, rfl, _, rfl, _, rfl, _, _, rfl, rfl, (show (0 : Int) < (d : Int) by omega), .inl ⟨_, rfl, _, _, rfl, c % d, by omega, d, c % d, rfl, rfl, gcd_turn.symm.trans hg', rfl⟩⟩
  · have d0 : d = 0 := by
      have : ¬ (0 : Int) < (d : Int) := fun z => hc (decide_eq_true z)
      omega
    subst d0
    rw [Nat.gcd_zero_right] at hg'
    rw [← hg'] at q
    exact ⟨_, rfl, q⟩
def sp_least_multiple (_ : PySem.W.Frag) : Sp := spec2 fun x y H Q _ => ∃ a b : Nat, x = .int a ∧ y = .int b ∧ 1 ≤ a ∧ 1 ≤ b ∧ a ≤ 1000000 ∧ b ≤ 1000000 ∧ Q (.int (a / Nat.gcd a b * b : Nat)) H
theorem mx {i j : Int} (hi : i.natAbs < 2 ^ 4000) (hj : j.natAbs < 2 ^ 4000) : CMulX i j := mulx_ok hi hj (by decide)
theorem lt4000 {i : Int} {b : Nat} (h : i.natAbs < 2 ^ b) (hb : b ≤ 4000 := by decide) : i.natAbs < 2 ^ 4000 := Nat.lt_of_lt_of_le h (Nat.pow_le_pow_right (by decide) hb)
theorem mxs {i j : Int} (hi : i.natAbs < 18446744073709551616) (hj : j.natAbs < 18446744073709551616) : CMulX i j := mulx_ok (a := 64) (b := 64) hi hj (by decide)
/-- what comes to the place i of the first k ones -/
def partT (f o : Nat → Int) (k i : Nat) : Int := sumR (fun d => if d ∣ i then f (d - 1) * o (i / d - 1) else 0) k
def hitT (f o : Nat → Int) (k t i : Nat) : Int := if k + 1 ∣ i ∧ i / (k + 1) ≤ t then partT f o (k + 1) i else partT f o k i
theorem hitT_zero {f o : Nat → Int} {k i : Nat} (hi : 1 ≤ i) : hitT f o k 0 i = partT f o k i := if_neg fun z => by
  have := Nat.div_pos (Nat.le_of_dvd hi z.1) (show 0 < k + 1 by omega)
  omega
theorem hitT_all {f o : Nat → Int} {k n i : Nat} (hi : i ≤ n) : hitT f o k (n / (k + 1)) i = partT f o (k + 1) i := by
  unfold hitT
  by_cases c : k + 1 ∣ i
  · rw [if_pos ⟨c, Nat.div_le_div_right hi⟩]
  · rw [if_neg fun z => c z.1]
    unfold partT
    rw [sumR, if_neg c, Int.add_zero]
theorem partT_hit {f o : Nat → Int} {k t : Nat} : partT f o (k + 1) ((k + 1) * (t + 1)) = partT f o k ((k + 1) * (t + 1)) + f k * o t := by
  unfold partT
  rw [sumR, if_pos (Nat.dvd_mul_right _ _), Nat.mul_div_cancel_left _ (by omega), Nat.add_sub_cancel, Nat.add_sub_cancel]
def sp_together (K : PySem.W.Frag) : Sp := spec2 fun x y H Q _ => ∃ (p r : Addr) (n : Nat) (f o : Nat → Int), x = .ref p ∧ y = .ref r ∧ SqL K H p ((List.range n).map fun i => V.int (f i)) ∧ SqL K H r ((List.range n).map fun i => V.int (o i)) ∧ 1 ≤ n ∧ n ≤ 60 ∧ (∀ i, i < n → (f i).natAbs < 2 ^ 200) ∧ (∀ i, i < n → (o i).natAbs < 2 ^ 200) ∧
  ∀ t H', Same H H' → H t = none → H' t = some (.lst ((List.range n).map fun i => V.int (partT f o n (i + 1)))) → Q (.ref t) H'
theorem partT_bk {f : Nat → Int} {n i : Nat} (hi : 1 ≤ i) (hn : i ≤ n) : partT f (fun t => mu (t + 1)) n i = bkN (fun d => f (d - 1)) i := by
  unfold partT bkN
  rw [sumR_trunc hn fun d h1 _ => if_neg fun z => by have := Nat.le_of_dvd hi z; omega]
  refine sumR_congr fun d d1 _ => ?_
  by_cases c : d ∣ i
  · rw [if_pos c, if_pos c]
    have := Nat.div_pos (Nat.le_of_dvd hi c) d1
    show f (d - 1) * mu (i / d - 1 + 1) = _
    rw [show i / d - 1 + 1 = i / d by omega]
  · rw [if_neg c, if_neg c]
def sp_back_of (K : PySem.W.Frag) : Sp := spec1 fun x H Q _ => ∃ (p : Addr) (n : Nat) (f : Nat → Int), x = .ref p ∧ SqL K H p ((List.range n).map fun i => V.int (f i)) ∧ 1 ≤ n ∧ n ≤ 60 ∧ (∀ i, i < n → (f i).natAbs < 2 ^ 200) ∧
  ∀ t H', Same H H' → H t = none → H' t = some (.lst ((List.range n).map fun i => V.int (bkN (fun d => f (d - 1)) (i + 1)))) → Q (.ref t) H'
def bkR (row : List Int) (k : Nat) : Int := bkN (fun d => row.getD (d - 1) 0) k
theorem row_range (row : List Int) : row.map V.int = (List.range row.length).map fun i => V.int (row.getD i 0) := by
  apply List.ext_getElem?
  intro i
  rw [List.getElem?_map, List.getElem?_map]
  by_cases h : i < row.length
  · rw [List.getElem?_eq_getElem h, List.getElem?_range h]
    simp only [Option.map_some]
    rw [List.getD_eq_getElem?_getD, List.getElem?_eq_getElem h]
    rfl
  · rw [List.getElem?_eq_none (by omega), List.getElem?_eq_none (by simp; omega)]
    rfl
theorem LotF.last {n i : Nat} {g : Nat → Nat} (L : LotF n g) (hi : i < n) : g i ≤ g (n - 1) := by
  by_cases e : i = n - 1
  · rw [e]; exact Nat.le_refl _
  · exact Nat.le_of_lt (L.up i (n - 1) (by omega) (by omega))
def sp_multiple_factor (_ : PySem.W.Frag) : Sp := spec1 fun x H Q _ => ∃ n : Nat, x = .int n ∧ 1 ≤ n ∧ n ≤ 1000000 ∧ ∀ H', Same H H' → Q (.int (mfN n)) H'
theorem radL_snoc (L : List (Nat × Nat)) (x : Nat × Nat) : radL (L ++ [x]) = radL L * (0 - (x.1 : Int)) := by
  induction L with
  | nil => show (0 - (x.1 : Int)) * 1 = 1 * _; omega
  | cons y r ih =>
    show (0 - (y.1 : Int)) * radL (r ++ [x]) = (0 - (y.1 : Int)) * radL r * _
    rw [ih, Int.mul_assoc]
end
end M
namespace M
open PySem PySem.Spec PyProof.Rows L2 G LamX RZ
section
variable {P : Program} {w : World} {K : PySem.W.Frag} {mg : Str → Option Value} {base : Heap}
/-! tables of multiples: what the law needs -/
structure B87 (H0 : Hp) (a Nu : Addr) (n : Nat) (g : Nat → Nat) (H : Hp) : Prop where
  pot : PotAt H a
  gr : Grow a H0 H
  ne : Nu ≠ a
  nu : H Nu = some (.lst (gV n g))
theorem B87.same {H0 H H' : Hp} {a Nu : Addr} {n : Nat} {g : Nat → Nat} (b : B87 H0 a Nu n g H) (s : Same H H') : B87 H0 a Nu n g H' := ⟨b.pot.same s, b.gr.trans (Grow.of s), b.ne, s _ _ b.nu⟩
theorem B87.grow {H0 H H' : Hp} {a Nu : Addr} {n : Nat} {g : Nat → Nat} (b : B87 H0 a Nu n g H) (gr : Grow a H H') (p : PotAt H' a) : B87 H0 a Nu n g H' := ⟨p, b.gr.trans gr, b.ne, gr _ _ b.ne b.nu⟩
theorem det_gcd_bits {n : Nat} {g : Nat → Nat} (L : LotF n g) : (det n (gcdM g)).natAbs < 2 ^ W4 := by
  refine Nat.lt_of_le_of_lt (det_abs (C := 1000000) fun i j hi hj => ?_) (Nat.lt_of_le_of_lt (fac_mono (by decide) L.n2) (by decide +kernel))
  have a := L.hi i hi
  have c : Nat.gcd (g i) (g j) ≤ g i := Nat.le_of_dvd (L.lo i hi) (Nat.gcd_dvd_left _ _)
  unfold gcdM
  omega
theorem det_lcm_bits {n : Nat} {g : Nat → Nat} (L : LotF n g) : (det n (lcmM g)).natAbs < 2 ^ W4 := by
  refine Nat.lt_of_le_of_lt (det_abs (C := 1000000000000) fun i j hi hj => ?_) (Nat.lt_of_le_of_lt (fac_mono (by decide) L.n2) (by decide +kernel))
  have a := L.hi i hi
  have b := L.hi j hj
  have c : g i / Nat.gcd (g i) (g j) ≤ g i := Nat.div_le_self _ _
  have d := Nat.mul_le_mul (Nat.le_trans c a) b
  unfold lcmM
  omega
/-! products of what numbers give -/
theorem radL_le : ∀ {b : Nat} {L : List (Nat × Nat)}, FacOk b L → (radL L).natAbs ≤ facP L
  | _, [], _ => Nat.le_refl 1
  | b, (p, e) :: r, ⟨h1, h2, h3, h4⟩ => by
    show ((0 - (p : Int)) * radL r).natAbs ≤ p ^ e * facP r
    rw [Int.natAbs_mul]
    refine Nat.mul_le_mul ?_ (radL_le h4)
    have : p ^ 1 ≤ p ^ e := Nat.pow_le_pow_right (by have := h2.1; omega) h3
    rw [Nat.pow_one] at this
    omega
theorem mf_le {n : Nat} (h1 : 1 ≤ n) (h2 : n ≤ 1000000) : (mfN n).natAbs < 2 ^ 64 := by
  obtain ⟨L, hL⟩ := fac_ex h1
  rw [mf_fac hL, Int.natAbs_mul]
  have a := radL_le hL.1
  rw [hL.2] at a
  have b := ph_pos h1
  have c := ph_le h1
  have := Nat.mul_le_mul (show (phN n).natAbs ≤ 1000000 by omega) (show (radL L).natAbs ≤ 1000000 by omega)
  omega
def mfG (n : Nat) (g : Nat → Nat) : List Int := (List.range n).map fun i => mfN (g i)
theorem prodI_prL (f : Nat → Int) : ∀ l : List Nat, prodI (l.map f) = prL f l
  | [] => rfl
  | x :: l => by
    show (l.map f).foldl (fun a b => a * b) (1 * f x) = f x * prL f l
    rw [prodI_from, prodI_prL f l, Int.one_mul]
theorem prodI_gl (f : Nat → Int) {n : Nat} {g : Nat → Nat} : prodI ((List.range n).map fun i => f (g i)) = prL f (glL n g) := by
  rw [← prodI_prL]
  unfold glL
  rw [List.map_map]
  rfl
theorem gI_bits {n : Nat} {g : Nat → Nat} (L : LotF n g) : ∀ x ∈ gI n g, x.natAbs < 2 ^ 20 := fun x hx => by
  unfold gI at hx
  obtain ⟨i, hi, rfl⟩ := List.mem_map.mp hx
  have := L.hi i (List.mem_range.mp hi)
  omega
theorem whole_bits {n : Nat} {g : Nat → Nat} (L : LotF n g) : (prodI (gI n g)).natAbs < 2 ^ 300 := by
  have lg : (gI n g).length = n := by unfold gI; rw [List.length_map, List.length_range]
  have a := prodI_bits (gI_bits L) n
  rw [List.take_of_length_le (by omega)] at a
  have n2 := L.n2
  exact Nat.lt_of_le_of_lt a (Nat.pow_lt_pow_right (by decide) (by omega))
theorem prodF_gI {n : Nat} {g : Nat → Nat} : prodF (fun i => (g i : Int)) n = prodI (gI n g) := by
  unfold gI
  induction n with
  | zero => rfl
  | succ n ih =>
    rw [List.range_succ, List.map_append]
    show prodF _ n * (g n : Int) = prodI (_ ++ [_])
    rw [prodI_snoc, ih]
/-! the least multiple of all shares -/
def pN (g : Nat → Nat) : Nat → Nat
  | 0 => 1
  | n + 1 => pN g n * g n
theorem pN_dvd {g : Nat → Nat} : ∀ {n i : Nat}, i < n → g i ∣ pN g n
  | 0, _, h => by omega
  | n + 1, i, h => by
    by_cases e : i = n
    · subst e
      exact Nat.dvd_mul_left _ _
    · exact Nat.dvd_trans (pN_dvd (by omega)) (Nat.dvd_mul_right _ _)
theorem pN_bits {g : Nat → Nat} : ∀ {n : Nat}, (∀ i, i < n → 1 ≤ g i ∧ g i ≤ 1000000) → 1 ≤ pN g n ∧ pN g n ≤ 1000000 ^ n
  | 0, _ => ⟨Nat.le_refl 1, Nat.le_refl 1⟩
  | n + 1, h => by
    obtain ⟨a, b⟩ := pN_bits (n := n) fun i hi => h i (by omega)
    obtain ⟨c, d⟩ := h n (by omega)
    exact ⟨Nat.mul_pos a c, by rw [Nat.pow_succ]; exact Nat.mul_le_mul b d⟩
/-- a number into which shares go, itself going into the product -/
structure LeastF (n : Nat) (g : Nat → Nat) (v : Nat) : Prop where
  pos : 1 ≤ v
  dv : v ∣ pN g n
theorem LeastF.bits {n v : Nat} {g : Nat → Nat} (L : LotF n g) (h : LeastF n g v) : v < 2 ^ 240 := by
  obtain ⟨a, b⟩ := pN_bits (g := g) (n := n) fun i hi => ⟨L.lo i hi, L.hi i hi⟩
  have c := Nat.le_of_dvd a h.dv
  have d : 1000000 ^ n ≤ 1000000 ^ 12 := Nat.pow_le_pow_right (by decide) L.n2
  exact Nat.lt_of_le_of_lt (Nat.le_trans (Nat.le_trans c b) d) (by decide +kernel)
theorem lcm_form {v s : Nat} : v / Nat.gcd v s * s = Nat.lcm v s := by
  unfold Nat.lcm
  rw [Nat.div_mul_right_comm (Nat.gcd_dvd_left v s)]
theorem LeastF.step {n v s : Nat} {g : Nat → Nat} (h : LeastF n g v) (hs : s ∣ pN g n) (s1 : 1 ≤ s) : LeastF n g (v / Nat.gcd v s * s) := by
  rw [lcm_form]
  exact ⟨Nat.lcm_pos h.pos s1, Nat.lcm_dvd h.dv hs⟩
theorem least_old {v s d : Nat} (h : d ∣ v) : d ∣ v / Nat.gcd v s * s := by
  rw [lcm_form]
  exact Nat.dvd_trans h (Nat.dvd_lcm_left v s)
theorem least_new {v s : Nat} : s ∣ v / Nat.gcd v s * s := Nat.dvd_mul_left _ _
theorem pow_bits {v k : Nat} (h : v < 2 ^ 240) (hk : k ≤ 12) : ((v : Int) ^ k).natAbs < 2 ^ 3000 := by
  rw [Int.natAbs_pow, Int.natAbs_natCast]
  have a : v ^ k ≤ (2 ^ 240) ^ k := Nat.pow_le_pow_left (Nat.le_of_lt h) k
  rw [← Nat.pow_mul] at a
  exact Nat.lt_of_le_of_lt a (Nat.pow_lt_pow_right (by decide) (by omega))
/-! rows of powers -/
def rowP (k : Nat) : List Int := (List.range 60).map fun i => ((i + 1 : Nat) : Int) ^ k
theorem rowP_get {k x : Nat} (h1 : 1 ≤ x) (h2 : x ≤ 60) : (rowP k).getD (x - 1) 0 = (x : Int) ^ k := by
  unfold rowP
  rw [List.getD_eq_getElem?_getD, List.getElem?_map, List.getElem?_range (by omega)]
  show ((x - 1 + 1 : Nat) : Int) ^ k = _
  rw [show x - 1 + 1 = x by omega]
theorem rowP_len {k : Nat} : (rowP k).length = 60 := by unfold rowP; rw [List.length_map, List.length_range]
theorem pow60 {x k : Nat} (h : x ≤ 60) (hk : k ≤ 4) : ((x : Int) ^ k).natAbs ≤ 12960000 := by
  rw [Int.natAbs_pow, Int.natAbs_natCast]
  exact Nat.le_trans (Nat.pow_le_pow_left h k) (Nat.pow_le_pow_right (by decide) hk)
theorem rowP_b {k : Nat} (hk : k ≤ 4) : ∀ x ∈ rowP k, x.natAbs ≤ 12960000 := fun x hx => by
  unfold rowP at hx
  obtain ⟨i, hi, rfl⟩ := List.mem_map.mp hx
  exact pow60 (by have := List.mem_range.mp hi; omega) hk
theorem bkR_rowP {k x : Nat} (h1 : 1 ≤ x) (h2 : x ≤ 60) : bkR (rowP k) x = jN k x := by
  rw [← bk_jN h1]
  unfold bkR bkN
  refine sumR_congr fun d d1 d2 => ?_
  split
  · show (rowP k).getD (d - 1) 0 * _ = _
    rw [rowP_get d1 (by omega)]
  · rfl
theorem jL_nn {k : Nat} : ∀ {b : Nat} {L : List (Nat × Nat)}, FacOk b L → 0 ≤ jL k L ∧ jL k L ≤ (facP L : Int) ^ k
  | _, [], _ => by
    show (0 : Int) ≤ 1 ∧ (1 : Int) ≤ ((1 : Nat) : Int) ^ k
    rw [show ((1 : Nat) : Int) = 1 from rfl, Int.one_pow]
    decide
  | b, (p, e) :: r, ⟨h1, h2, h3, h4⟩ => by
    obtain ⟨f, rfl⟩ : ∃ f, e = f + 1 := ⟨e - 1, by omega⟩
    obtain ⟨a, c⟩ := jL_nn (k := k) h4
    have p2 := h2.1
    have x1 : 0 ≤ ((p ^ f : Nat) : Int) ^ k := Int.pow_nonneg (Int.natCast_nonneg _)
    have x2 : 1 ≤ (p : Int) ^ k := by
      have := Nat.one_le_pow k p (by omega)
      rw [← Int.natCast_pow]
      omega
    show 0 ≤ ((p ^ (f + 1 - 1) : Nat) : Int) ^ k * ((p : Int) ^ k - 1) * jL k r ∧ _ ≤ ((p ^ (f + 1) * facP r : Nat) : Int) ^ k
    rw [Nat.add_sub_cancel]
    refine ⟨Int.mul_nonneg (Int.mul_nonneg x1 (by omega)) a, ?_⟩
    show ((p ^ (f + 1 - 1) : Nat) : Int) ^ k * ((p : Int) ^ k - 1) * jL k r ≤ _
    rw [Nat.add_sub_cancel, Int.natCast_mul, Int.mul_pow, Nat.pow_succ, Int.natCast_mul, Int.mul_pow]
    refine Int.mul_le_mul ?_ c a (Int.mul_nonneg x1 (by omega))
    exact Int.mul_le_mul_of_nonneg_left (by omega) x1
theorem jN_le {k x : Nat} (h1 : 1 ≤ x) (h2 : x ≤ 60) (hk : k ≤ 4) : (jN k x).natAbs < 2 ^ 24 := by
  obtain ⟨L, hL⟩ := fac_ex h1
  rw [jN_fac hL]
  obtain ⟨a, b⟩ := jL_nn (k := k) hL.1
  rw [hL.2] at b
  have := pow60 (k := k) h2 hk
  omega
theorem jL_snoc (k : Nat) (L : List (Nat × Nat)) (x : Nat × Nat) : jL k (L ++ [x]) = jL k L * (((x.1 ^ (x.2 - 1) : Nat) : Int) ^ k * ((x.1 : Int) ^ k - 1)) := by
  induction L with
  | nil =>
    show ((x.1 ^ (x.2 - 1) : Nat) : Int) ^ k * ((x.1 : Int) ^ k - 1) * 1 = 1 * _
    omega
  | cons y r ih =>
    show ((y.1 ^ (y.2 - 1) : Nat) : Int) ^ k * ((y.1 : Int) ^ k - 1) * jL k (r ++ [x]) = ((y.1 ^ (y.2 - 1) : Nat) : Int) ^ k * ((y.1 : Int) ^ k - 1) * jL k r * _
    rw [ih]
    grind
theorem det_rowM {n k : Nat} {g : Nat → Nat} (L : LotF n g) (C : ClosedF n g) (h60 : ∀ i, i < n → g i ≤ 60) : det n (rowM (rowP k) g) = prL (jN k) (glL n g) := by
  rw [← det_row_closed (f := fun x => (x : Int) ^ k) (b := jN k) (glL_lt L) (glL_pos L) (glL_closed.mpr C) fun x hx => jsum (glL_pos L x hx)]
  unfold detL
  rw [glL_len]
  refine det_congr fun a b ha hb => ?_
  rw [glL_at ha, glL_at hb]
  have gl : Nat.gcd (g a) (g b) ≤ g a := Nat.le_of_dvd (L.lo a ha) (Nat.gcd_dvd_left _ _)
  have gp : 0 < Nat.gcd (g a) (g b) := Nat.gcd_pos_of_pos_left _ (L.lo a ha)
  have := h60 a ha
  unfold rowM
  exact rowP_get gp (by omega)
theorem det_gcd_j {n : Nat} {g : Nat → Nat} (L : LotF n g) (C : ClosedF n g) : det n (gcdM g) = prL (jN 1) (glL n g) := by
  rw [← det_row_closed (f := fun x => (x : Int) ^ 1) (b := jN 1) (glL_lt L) (glL_pos L) (glL_closed.mpr C) fun x hx => jsum (glL_pos L x hx)]
  unfold detL
  rw [glL_len]
  refine det_congr fun a b ha hb => ?_
  rw [glL_at ha, glL_at hb]
  show ((Nat.gcd (g a) (g b) : Nat) : Int) = ((Nat.gcd (g a) (g b) : Nat) : Int) ^ 1
  rw [Int.pow_succ, Int.pow_zero, Int.one_mul]
theorem det_lcm_closed {n : Nat} {g : Nat → Nat} (L : LotF n g) (C : ClosedF n g) : det n (lcmM g) = prodI (mfG n g) := by
  unfold mfG
  rw [prodI_gl, ← lcm_closed (glL_lt L) (glL_pos L) (glL_closed.mpr C)]
  unfold detL
  rw [glL_len]
  exact det_congr fun a b ha hb => by rw [glL_at ha, glL_at hb]; rfl
theorem det_lcm_contrary {n v : Nat} {g : Nat → Nat} (L : LotF n g) (hd : ∀ i j, i < n → j < n → Nat.gcd (g i) (g j) ∣ v) : det n (lcmM g) * (v : Int) ^ n = prodI (gI n g) * prodI (gI n g) * det n fun i j => ((v / Nat.gcd (g i) (g j) : Nat) : Int) := by
  rw [← prodF_gI]
  exact det_contrary L.lo hd
/-- signs, products -/
theorem mfG_facts {n : Nat} {g : Nat → Nat} (L : LotF n g) (f : Nat → List (Nat × Nat)) (hf : ∀ i, i < n → FacOf (f i) (g i)) : ∀ m, m ≤ n → prodI (mfG m g) ≠ 0 ∧ (0 < prodI (mfG m g) ↔ ((List.range m).map fun i => (f i).length).sum % 2 = 0) ∧ prodI (phG m g) ∣ prodI (mfG m g) ∧ 1 ≤ prodI (phG m g)
  | 0, _ => ⟨by show (1 : Int) ≠ 0; decide, by show 0 < (1 : Int) ↔ 0 % 2 = 0; decide, Int.dvd_refl 1, Int.le_refl 1⟩
  | m + 1, h => by
    obtain ⟨a, b, c, d⟩ := mfG_facts L f hf m (by omega)
    have e1 : prodI (mfG (m + 1) g) = prodI (mfG m g) * mfN (g m) := by
      unfold mfG
      rw [List.range_succ, List.map_append]
      exact prodI_snoc _ _
    have e2 : prodI (phG (m + 1) g) = prodI (phG m g) * phN (g m) := by
      unfold phG
      rw [List.range_succ, List.map_append]
      exact prodI_snoc _ _
    have e3 : ((List.range (m + 1)).map fun i => (f i).length).sum = ((List.range m).map fun i => (f i).length).sum + (f m).length := by
      rw [List.range_succ, List.map_append, List.sum_append]
      show _ + ((f m).length + 0) = _
      omega
    have pp := ph_pos (L.lo m (by omega))
    obtain ⟨r1, r2⟩ := radL_sign (hf m (by omega)).1
    have e4 := mf_fac (hf m (by omega))
    have m0 : mfN (g m) ≠ 0 := by
      rw [e4]
      exact Int.mul_ne_zero (by omega) r1
    have mp : 0 < mfN (g m) ↔ (f m).length % 2 = 0 := by
      rw [e4, ← r2]
      constructor
      · intro z
        exact Classical.byContradiction fun y => by
          have := Int.mul_nonpos_of_nonneg_of_nonpos (show 0 ≤ phN (g m) by omega) (show radL (f m) ≤ 0 by omega)
          omega
      · exact fun z => Int.mul_pos (by omega) z
    rw [e1, e2, e3]
    refine ⟨Int.mul_ne_zero a m0, ?_, ?_, ?_⟩
    · constructor
      · intro z
        by_cases q : 0 < prodI (mfG m g)
        · have : 0 < mfN (g m) := Classical.byContradiction fun y => by
            have := Int.mul_nonpos_of_nonneg_of_nonpos (show 0 ≤ prodI (mfG m g) by omega) (show mfN (g m) ≤ 0 by omega)
            omega
          have x1 := b.mp q
          have x2 := mp.mp this
          omega
        · have : ¬ 0 < mfN (g m) := fun y => by
            have := Int.mul_neg_of_neg_of_pos (show prodI (mfG m g) < 0 by omega) y
            omega
          have x1 : ¬ _ := fun y => q (b.mpr y)
          have x2 : ¬ _ := fun y => this (mp.mpr y)
          omega
      · intro z
        by_cases q : 0 < prodI (mfG m g)
        · have x1 := b.mp q
          exact Int.mul_pos q (mp.mpr (by omega))
        · have x1 : ¬ _ := fun y => q (b.mpr y)
          have : ¬ 0 < mfN (g m) := fun y => by
            have := mp.mp y
            omega
          exact Int.mul_pos_of_neg_of_neg (by omega) (by omega)
    · rw [e4]
      exact Int.mul_dvd_mul c (Int.dvd_mul_right _ _)
    · have := Int.mul_le_mul d pp (by decide) (by omega)
      omega

end
end M
namespace M
open PySem PySem.Spec PyProof.Rows L2 G LamX RZ
section
variable {P : Program} {w : World} {K : PySem.W.Frag} {mg : Str → Option Value} {base : Heap}
/-! lots and rows, lists or tuples -/
def sp_is_lot_value (K : PySem.W.Frag) : Sp := spec1 fun x H Q _ => ∃ (b : Bool) (p : Addr) (n : Nat) (g : Nat → Nat), x = .ref p ∧ SqX K b H p (gV n g) ∧ LotF n g ∧ ∀ H', Same H H' → Q (.bl true) H'
theorem ok_is_lot_value {af : Addr} {fd : FuncData} (F : FunD K "is_lot_value" "is_lot_value" (defArgs s_is_lot_value) (defBody s_is_lot_value) (defScope s_is_lot_value) [] [] af fd) (B : Bt mg) (C_is_list : Cl False P w K mg base 1 "is_list" 1 [] (sp_is_list K)) (C_is_number_of : Cl False P w K mg base 2 "is_number_of" 2 [] (sp_is_number_of K)) {t_MOST_LOT : Tok} (c_MOST_LOT : mg "MOST_LOT" = some (.int 12 t_MOST_LOT)) {t_GREATEST_IN : Tok} (c_GREATEST_IN : mg "GREATEST_IN" = some (.int 1000000 t_GREATEST_IN)) : FnG False P w K mg base CX0 3 af fd ["value"] (sp_is_lot_value K) := by
  refine okG F sc_is_lot_value ar1 fun cdv A outer s H vs Q E hg hr h => ?_
  refine ⟨_, PSs.nox (pss_cons (ps_if (PW.pt (pw_or (pt_not (pt_val (pe_cl C_is_list (fun h => h.elim) hr (by decide) rfl (pa_cons (pv 0) pa_nil)))) (pw_or1 (pt_not (pt_chain op_le op_le pe_int (pe_callB call_len_seq (by rfl) B.len (by decide +kernel) (pa_cons (pv 0) pa_nil)) (pe_glob (v := .int 12) rfl c_MOST_LOT ⟨_, rfl⟩))))))
      (pss_one (ps_ret pe_bl))
      pss_nil)
    (pss_cons (ps_if (pt_not (pt_val (pe_callB (cr_all rfl) (by rfl) B.all (by decide +kernel) (pa_cons (pe_lc (own := [("one", 1)]) rfl sc_is_lot_value.nd ((pi_seq (pv 0))) (blkOk_by (own := [("one", 1)]) (N := ["value", "one", "near", "far"]) (sc := defScope s_is_lot_value) (by decide +kernel)) (fun _ _ _ _ _ => pg_name (i := 1) sc_is_lot_value.nd rfl (.inl rfl) (.inr rfl)) (fun _ _ _ _ _ => pts_nil) (fun _ _ _ _ _ => (pe_cl C_is_number_of (fun h => h.elim) hr (by decide) rfl (pa_cons (pv 1) (pa_cons (pe_glob (v := .int 1000000) rfl c_GREATEST_IN ⟨_, rfl⟩) pa_nil))))) pa_nil))))
      (pss_one (ps_ret pe_bl))
      pss_nil)
    (pss_one (ps_ret (pe_callB (cr_all rfl) (by rfl) B.all (by decide +kernel) (pa_cons (pe_lc (own := [("near", 2), ("far", 3)]) (g := gTup K 2 (gCons (gName 2) (gCons (gName 3) gNil))) rfl sc_is_lot_value.nd ((pi_zipA (by rfl) B.zip (pa_cons (pv 0) (pa_cons (pe_slice sl_sqx (pv 0) (po_some pe_int) po_none) pa_nil)))) (blkOk_by (own := [("near", 2), ("far", 3)]) (N := ["value", "one", "near", "far"]) (sc := defScope s_is_lot_value) (by decide +kernel)) (fun _ _ _ _ _ => pg_tup (n := 2) (by rfl) (pgs_cons (pg_name (i := 2) sc_is_lot_value.nd rfl (.inl rfl) (.inr rfl)) (pgs_cons (pg_name (i := 3) sc_is_lot_value.nd rfl (.inl rfl) (.inr rfl)) pgs_nil (by rfl)) (by rfl)) (by rfl) (by rfl)) (fun _ _ _ _ _ => pts_nil) (fun _ _ _ _ _ => (pe_cmpR op_lt (pv 2) (pv 3) (nomark _)))) pa_nil)))))), ?_⟩
  obtain ⟨_, rfl, b, p, n, g, rfl, hS, L, q⟩ := h
  have n1 := L.n1
  have n2 := L.n2
  refine ⟨_, rfl, _, rfl, p, _, rfl, hS.either, fun H1 s1 => ⟨_, rfl, iteF ⟨_, rfl, p, _, rfl, (hS.same s1).either, _, _, rfl, rfl, true, bl_t (by rw [gV_len]; omega), iteT ⟨_, _, rfl, rfl, true, bl_t (by rw [gV_len]; omega), iteF ?_⟩⟩⟩⟩
  refine ⟨b, _, rfl, p, rfl, ⟨_, hS.same s1⟩, fun D hD => lcM_seq (K := K) (c := fun j : Nat => V.int (g j : Nat)) (src := List.range n) (fun _ => .bool true) hD (hS.same s1) (by rw [List.length_range]; omega) ?_ ?_⟩
  · intro j z H4 R S hz s4 hR
    have hzn : z < n := List.mem_range.mp (List.mem_of_getElem? hz)
    have b1 := L.lo z hzn
    have b2 := L.hi z hzn
    exact ⟨rfl, _, rfl, _, _, rfl, (g z : Nat), 1000000, rfl, rfl, by omega, by omega, hR _ _ (Same.refl _) (.bl true)⟩
  · intro H4 s4 r4
    rw [show (List.range n).map (fun _ : Nat => PyData.bool true) = (List.replicate n true).map PyData.bool by rw [List.map_replicate, List.map_const', List.length_range]] at r4
    refine ⟨D, _, rfl, SqL.of r4.bls, _, rfl, ?_⟩
    rw [all_rep]
    refine iteF ?_
    have S4 := hS.same (s1.trans s4)
    refine ⟨_, rfl, _, rfl, _, rfl, b, p, _, rfl, S4, fun p2 H5 s5 S5 => ?_⟩
    rw [show (some (1 : Int)) = some ((1 : Nat) : Int) from rfl, cut_from] at S5
    have S45 := S4.same s5
    refine ⟨p, p2, gV n g, (gV n g).drop 1, rfl, ?_⟩
    cases b with
    | false =>
      refine .inl ⟨S45, S5, fun D2 hD2 => lcM_pairs (walk_zipX (K := K) (b := false) (n := n - 1) (xs := gV n g) (ys := (gV n g).drop 1) (by rw [List.length_drop, gV_len]; omega)) (fun _ => .bool true) hD2 (fun H s => ⟨S45.same s, S5.same s⟩) (by omega) ?_ ?_⟩
      · intro i T x y H6 R S hi hx hy s6 eT hR
        obtain ⟨_, rfl⟩ := gV_get hx
        obtain ⟨h2, rfl⟩ := gV_drop hy
        have := L.up i (i + 1) (by omega) h2
        exact ⟨T, _, rfl, SqT.of eT, rfl, _, _, rfl, _, _, rfl, rfl, rfl, _, rfl, _, rfl, _, _, rfl, rfl, blT (Q := R) (by omega) (hR _ _ (Same.refl _) (.bl true))⟩
      · intro H6 s6 r6
        rw [show (List.range (n - 1)).map (fun _ : Nat => PyData.bool true) = (List.replicate (n - 1) true).map PyData.bool by rw [List.map_replicate, List.map_const', List.length_range]] at r6
        refine ⟨D2, _, rfl, SqL.of r6.bls, ?_⟩
        rw [all_rep]
        exact q _ (((s1.trans s4).trans s5).trans s6)
    | true =>
      refine .inr ⟨S45, S5, fun D2 hD2 => lcM_pairs (walk_zipX (K := K) (b := true) (n := n - 1) (xs := gV n g) (ys := (gV n g).drop 1) (by rw [List.length_drop, gV_len]; omega)) (fun _ => .bool true) hD2 (fun H s => ⟨S45.same s, S5.same s⟩) (by omega) ?_ ?_⟩
      · intro i T x y H6 R S hi hx hy s6 eT hR
        obtain ⟨_, rfl⟩ := gV_get hx
        obtain ⟨h2, rfl⟩ := gV_drop hy
        have := L.up i (i + 1) (by omega) h2
        exact ⟨T, _, rfl, SqT.of eT, rfl, _, _, rfl, _, _, rfl, rfl, rfl, _, rfl, _, rfl, _, _, rfl, rfl, blT (Q := R) (by omega) (hR _ _ (Same.refl _) (.bl true))⟩
      · intro H6 s6 r6
        rw [show (List.range (n - 1)).map (fun _ : Nat => PyData.bool true) = (List.replicate (n - 1) true).map PyData.bool by rw [List.map_replicate, List.map_const', List.length_range]] at r6
        refine ⟨D2, _, rfl, SqL.of r6.bls, ?_⟩
        rw [all_rep]
        exact q _ (((s1.trans s4).trans s5).trans s6)
def spS_want_lot (K : PySem.W.Frag) : Sp := spec1 fun x H Q _ => ∃ (b : Bool) (p : Addr) (n : Nat) (g : Nat → Nat), x = .ref p ∧ SqX K b H p (gV n g) ∧ LotF n g ∧ ∀ H', Same H H' → Q .non H'
theorem w_want_lot (vs : List V) (H : Hp) (Q : VK) (E : XK) (h : sp_want_lot K vs H Q E) : spS_want_lot K vs H Q E := by
  obtain ⟨x, rfl, p, n, g, e, hS, r⟩ := h
  exact ⟨x, rfl, false, p, n, g, e, hS, r⟩
theorem ok_want_lot {af : Addr} {fd : FuncData} (F : FunD K "want_lot" "want_lot" (defArgs s_want_lot) (defBody s_want_lot) (defScope s_want_lot) [] [] af fd) (B : Bt mg) (C_is_lot_value : Cl False P w K mg base 3 "is_lot_value" 1 [] (sp_is_lot_value K)) : FnG False P w K mg base CX0 4 af fd ["value"] (spS_want_lot K) := by
  refine okG F sc_want_lot ar1 fun cdv A outer s H vs Q E hg hr h => ?_
  refine ⟨_, PSs.nox (pss_one (ps_if (pt_not (pt_val (pe_cl C_is_lot_value (fun h => h.elim) hr (by decide) rfl (pa_cons (pv 0) pa_nil))))
      (pss_one ps_never)
      pss_nil)), ?_⟩
  obtain ⟨_, rfl, b, p, n, g, rfl, hS, L, q⟩ := h
  exact ⟨_, rfl, _, rfl, b, p, n, g, rfl, hS, L, fun H1 s1 => ⟨_, rfl, iteF (q _ s1)⟩⟩
def sp_is_row_value (K : PySem.W.Frag) : Sp := spec1 fun x H Q _ => ∃ (b : Bool) (p : Addr) (ns : List Int), x = .ref p ∧ SqX K b H p (ns.map V.int) ∧ 1 ≤ ns.length ∧ ns.length ≤ 60 ∧ (∀ x ∈ ns, x.natAbs < 1000000000000000000000000000000) ∧ ∀ H', Same H H' → Q (.bl true) H'
def spS_want_row (K : PySem.W.Frag) : Sp := spec1 fun x H Q _ => ∃ (b : Bool) (p : Addr) (ns : List Int), x = .ref p ∧ SqX K b H p (ns.map V.int) ∧ 1 ≤ ns.length ∧ ns.length ≤ 60 ∧ (∀ x ∈ ns, x.natAbs < 1000000000000000000000000000000) ∧ ∀ H', Same H H' → Q .non H'
theorem w_want_row (vs : List V) (H : Hp) (Q : VK) (E : XK) (h : sp_want_row K vs H Q E) : spS_want_row K vs H Q E := by
  obtain ⟨x, rfl, p, ns, e, hS, r⟩ := h
  exact ⟨x, rfl, false, p, ns, e, hS, r⟩
def sp_free_product (K : PySem.W.Frag) : Sp := spec1 fun x H Q _ => ∃ (b : Bool) (p : Addr) (n : Nat) (g : Nat → Nat), x = .ref p ∧ SqX K b H p (gV n g) ∧ LotF n g ∧ ∀ H', Same H H' → Q (.int (prodI (phG n g))) H'
def sp_product_worth (K : PySem.W.Frag) : Sp := sp_free_product K
def sp_multiple_product (K : PySem.W.Frag) : Sp := spec1 fun x H Q _ => ∃ (b : Bool) (p : Addr) (n : Nat) (g : Nat → Nat), x = .ref p ∧ SqX K b H p (gV n g) ∧ LotF n g ∧ ∀ H', Same H H' → Q (.int (prodI (mfG n g))) H'
def sp_sums_back (K : PySem.W.Frag) : Sp := spec2 fun x y H Q _ => ∃ (b : Bool) (r p : Addr) (row : List Int) (n : Nat) (g : Nat → Nat), x = .ref r ∧ y = .ref p ∧ SqL K H r (row.map V.int) ∧ 1 ≤ row.length ∧ row.length ≤ 60 ∧ (∀ x ∈ row, x.natAbs < 2 ^ 200) ∧ SqX K b H p (gV n g) ∧ LotF n g ∧ g (n - 1) ≤ row.length ∧ (∀ i, i < n → (bkR row (g i)).natAbs < 2 ^ 300) ∧ ∀ H', Same H H' → Q (.int (prodI ((List.range n).map fun i => bkR row (g i)))) H'
/-- NotMade unless the lot is closed and the row reaches -/
def sp_worth_by (K : PySem.W.Frag) : Sp := spec2 fun x y H Q E => ∃ (b c : Bool) (r p : Addr) (row : List Int) (n : Nat) (g : Nat → Nat), x = .ref r ∧ y = .ref p ∧ SqX K b H r (row.map V.int) ∧ 1 ≤ row.length ∧ row.length ≤ 60 ∧ (∀ x ∈ row, x.natAbs < 1000000000000000000000000000000) ∧ SqX K c H p (gV n g) ∧ LotF n g ∧
  (ClosedF n g → g (n - 1) ≤ row.length → (∀ i, i < n → (bkR row (g i)).natAbs < 2 ^ 300) ∧ ∀ H', Same H H' → Q (.int (prodI ((List.range n).map fun i => bkR row (g i)))) H') ∧
  ((¬ ClosedF n g ∨ row.length < g (n - 1)) → ∀ H', Same H H' → E (.ref (He.ga K "NotMade")) none H')
def sp_back_from (K : PySem.W.Frag) : Sp := spec1 fun x H Q _ => ∃ (p : Addr) (row : List Int), x = .ref p ∧ SqL K H p (row.map V.int) ∧ 1 ≤ row.length ∧ row.length ≤ 60 ∧ (∀ x ∈ row, x.natAbs < 1000000000000000000000000000000) ∧
  ∀ t H', Same H H' → H t = none → H' t = some (.lst ((List.range row.length).map fun i => V.int (bkR row (i + 1)))) → Q (.ref t) H'
end
end M
namespace M
open PySem PySem.Spec PyProof.Rows L2 G LamX RZ
section
variable {P : Program} {w : World} {K : PySem.W.Frag} {mg : Str → Option Value} {base : Heap}
/-! the told of a call: what it gives, or the word that nothing was made -/
theorem heard_gives {CE CS : Addr} {X : Cx} {g : Addr} {cdg : Value} {q : Str} (oE : OwnE X.K CE) (gE : X.mg "NotMade" = some (.ref CE)) (iE : IsE X.K CE CS true) (gS : X.mg "StateError" = some (.ref CS)) (B : Bt X.mg) :
    LamX.GivesTo X ["call", "told", "e"] "_law_heard" (defScope s__law_heard) g cdg (defBody s__law_heard) "call" q (THeard CE true ("not made" : Str)) := by
  intro f c' s H Q tl act hc h
  refine ⟨_, pss_cons (ps_set (i := 1) sc__law_heard.nd rfl (.inl rfl) pe_non) (pss_cons (ps_try_as (i := 2) (c := .ref CE)
      (tb := fun W D σ H => ∃ Ech : XK, (∀ cls d σ' H', Ech cls d H' → W cls d σ' H') ∧ σ[0]? = some (some (.ref f)) ∧ H c' = some (LamX.CodeO c' q) ∧ tl Ech H fun v H' => D.nx (σ.set 1 (some v)) H')
      rfl rfl sc__law_heard.nd rfl rfl ⟨rfl, by decide, .inl gE⟩ LamX.takes0 (fun W pn xe tk _ => ?_)
      (fun a oe cls d pn hz hf => pss_len 3 rfl (pss_if (p := cls = .ref CE ∧ d = none) fun hp => pss_one (ps_set (i := 1) sc__law_heard.nd rfl (.inl rfl) (pe_lst (pa_cons pe_str (pa_cons (pe_callB (call_isE (X := (cxOf C8.CX0 X.prog X.w X.K X.mg X.base ["call", "told", "e"] "_law_heard" (defScope s__law_heard) g cdg X.A X.stack s H C8.E0).nox) (a := a) (D := CE) iE.of (by rw [hp.1, hp.2] at hz; exact hz) hf) (by rfl) B.isinstance (by decide +kernel) (pa_cons (pv 2) (pa_cons (pe_glob (v := .ref CS) (by rfl) gS (by rfl)) pa_nil))) pa_nil))))))) (pss_one (ps_ret (pv 1)))), ?_⟩
  · constructor
    intro pins s' σ H' D I h'
    obtain ⟨Ech, hW, h1, h2, h3⟩ := h'
    exact (pss_one (ps_set (i := 1) sc__law_heard.nd rfl (.inl rfl) (act W pn xe Ech _ _ tk hW))).run pins s' σ H' D I ⟨h1, h2, h3⟩
  · refine ⟨_, ?_, rfl, hc, Eq.mp (congrArg (tl _ H) ?_) h⟩
    · rintro cls d σ' H' ⟨rfl, rfl, k⟩
      refine ⟨true, oE.exm, fun _ a na hl => ?_, fun z => by cases z⟩
      rw [List.length_set] at hl
      obtain ⟨x, y, z, rfl⟩ : ∃ x y z, σ' = [x, y, z] := by
        match σ', hl with
        | [x, y, z], _ => exact ⟨x, y, z, rfl⟩
      exact ⟨⟨rfl, rfl⟩, _, rfl, .ref CS, .ref CS, true, rfl, fun u r => r, iE.is, sz2, fun l hl => ⟨_, rfl, k l hl⟩⟩
    · funext v H'
      exact propext ⟨fun q => ⟨v, rfl, q⟩, fun ⟨x, hx, q⟩ => by cases hx; exact q⟩

end
end M
namespace M
open PySem PySem.Spec PyProof.Rows L2 G LamX RZ
section
variable {P : Program} {w : World} {K : PySem.W.Frag} {mg : Str → Option Value} {base : Heap}
/-! worths of closed lots: what the law needs -/
def sp__law_product (K : PySem.W.Frag) : Sp := sp_product_of K
theorem ok__law_product {af : Addr} {fd : FuncData} (F : FunD K "_law_product" "_law_product" (defArgs s__law_product) (defBody s__law_product) (defScope s__law_product) [] [] af fd) (B : Bt mg)  : FnG False P w K mg base CX0 1 af fd ["numbers"] (sp__law_product K) := by
  refine okG F sc__law_product ar1 fun cdv A outer s H vs Q E hg hr h => ?_
  refine ⟨_, PSs.nox (pss_cons (ps_set (i := 1) sc__law_product.nd rfl (.inl rfl) pe_int)
    (pss_cons (ps_for PassesOwn.never rfl ((pi_list (pv 0))) (pg_name (i := 2) sc__law_product.nd rfl (.inl rfl))
      (pss_one (ps_set (i := 1) sc__law_product.nd rfl (.inl rfl) (pe_op op_mulX (pv 1) (pv 2)))))
    (pss_one (ps_ret (pv 1))))), ?_⟩
  obtain ⟨_, rfl, p, ns, rfl, hS, n12, hb, q⟩ := h
  refine ⟨_, rfl, p, rfl, ⟨_, hS⟩, for_list (K := K) (a := p) (xs := ns.map V.int) (fun i σ H2 => ∃ (y : Option V), σ = [some (.ref p), some (.int (prodI (ns.take i))), y] ∧ Same H H2)
    ⟨none, rfl, Same.refl H⟩ (fun i σ H2 _ ⟨_, _, z⟩ => SqL.same z hS) ?_ ?_⟩
  · rintro i x σ H2 hx ⟨y, rfl, s2⟩
    rw [List.getElem?_map] at hx
    obtain ⟨z, hz, rfl⟩ := Option.map_eq_some_iff.mp hx
    have bz := hb z (List.mem_of_getElem? hz)
    have hi := (List.getElem?_eq_some_iff.mp hz).1
    have bp := prodI_bits hb i
    have bp2 : (prodI (ns.take i)).natAbs < 2 ^ (300 * i + 1) := Nat.lt_of_le_of_lt bp (Nat.pow_lt_pow_right (by decide) (by omega))
    refine ⟨_, rfl, _, rfl, _, _, rfl, rfl, mulx_ok bp2 bz (by omega), some (.int z), ?_, s2⟩
    rw [List.take_add_one, hz]
    simp only [Option.toList]
    rw [prodI_snoc]
    rfl
  · rintro σ H2 ⟨y, rfl, s2⟩
    rw [List.length_map, List.take_length]
    exact ⟨_, rfl, q _ s2⟩
def inB (n : Nat) (g : Nat → Nat) (d : Nat) : Bool := inV (V.int (d : Nat)) (gV n g)
def clB (n : Nat) (g : Nat → Nat) : Bool := ((List.range n).map fun i => ((divsL (g i)).map (inB n g)).all id).all id
theorem clB_iff {n : Nat} {g : Nat → Nat} (L : LotF n g) : clB n g = true ↔ ClosedF n g := by
  unfold clB
  rw [List.all_eq_true]
  constructor
  · intro h i hi d hd
    have := h _ (List.mem_map.mpr ⟨i, List.mem_range.mpr hi, rfl⟩)
    have := List.all_eq_true.mp this (inB n g d) (List.mem_map.mpr ⟨d, (mem_divsL (L.lo i hi)).mpr hd, rfl⟩)
    exact inV_gV.mp this
  · intro h x hx
    obtain ⟨i, hi, rfl⟩ := List.mem_map.mp hx
    have hi := List.mem_range.mp hi
    refine List.all_eq_true.mpr fun y hy => ?_
    obtain ⟨d, hd, rfl⟩ := List.mem_map.mp hy
    exact inV_gV.mpr (h i hi d ((mem_divsL (L.lo i hi)).mp hd))
theorem divsL_len {n : Nat} : (divsL n).length ≤ n + 1 := by
  unfold divsL
  exact Nat.le_trans (List.length_filter_le _ _) (by rw [List.length_range]; exact Nat.le_refl _)
def sp__law_is_closed (K : PySem.W.Frag) : Sp := spec1 fun x H Q _ => ∃ (p : Addr) (n : Nat) (g : Nat → Nat), x = .ref p ∧ SqL K H p (gV n g) ∧ LotF n g ∧ ∀ H', Same H H' → Q (.bl (clB n g)) H'
theorem ok__law_is_closed {af : Addr} {fd : FuncData} (F : FunD K "_law_is_closed" "_law_is_closed" (defArgs s__law_is_closed) (defBody s__law_is_closed) (defScope s__law_is_closed) [] [] af fd) (B : Bt mg) (C__law_divisors : Cl False P w K mg base 1 "_law_divisors" 1 [] (sp__law_divisors K)) : FnG False P w K mg base CX0 2 af fd ["numbers"] (sp__law_is_closed K) := by
  refine okG F sc__law_is_closed ar1 fun cdv A outer s H vs Q E hg hr h => ?_
  refine ⟨_, PSs.nox (pss_one (ps_ret (pe_callB (cr_all rfl) (by rfl) B.all (by decide +kernel) (pa_cons (pe_lc (own := [("number", 1)]) rfl sc__law_is_closed.nd ((pi_list (pv 0))) (blkOk_by (own := [("number", 1)]) (N := ["numbers", "number", "one"]) (sc := defScope s__law_is_closed) (by decide +kernel)) (fun _ _ _ _ _ => pg_name (i := 1) sc__law_is_closed.nd rfl (.inl rfl) (.inr rfl)) (fun _ _ _ _ _ => pts_nil) (fun _ _ _ _ _ => (pe_callB (kCall rAll (K := K) rfl (cr_all rfl)) (by rfl) B.all (by decide +kernel) (pa_cons (pe_lc (own := [("one", 2)]) rfl sc__law_is_closed.nd ((kPi (fun K => iList K _) (K := K) rfl (pi_list (pe_cl C__law_divisors (fun h => h.elim) hr (by decide) rfl (pa_cons (pv 1) pa_nil))))) (blkOk_in (own := [("one", 2)]) (N := ["numbers", "number", "one"]) (sc := defScope s__law_is_closed) rfl (by decide +kernel)) (fun _ _ _ _ _ => pg_name (i := 2) sc__law_is_closed.nd rfl (.inl rfl) (.inr rfl)) (fun _ _ _ _ _ => pts_nil) (fun _ _ _ _ _ => (pe_cmpR (kOp (fun K => rIn K false) (K := K) rfl op_in_seq) (pv 2) (pv 0) (by rfl)))) pa_nil)))) pa_nil)))), ?_⟩
  obtain ⟨_, rfl, p, n, g, rfl, hS, L, q⟩ := h
  have n2 := L.n2
  refine ⟨_, rfl, p, rfl, ⟨_, hS⟩, fun D hD => lcM_list (K := K) (c := fun i : Nat => V.int (g i : Nat)) (src := List.range n) (fun i => .bool (((divsL (g i)).map (inB n g)).all id)) hD hS (by rw [List.length_range]; omega) ?_ ?_⟩
  · intro k i H1 R S hi s1 hR
    have hi : i < n := List.mem_range.mp (List.mem_of_getElem? hi)
    have i1 := L.lo i hi
    have i2 := L.hi i hi
    refine ⟨rfl, _, rfl, _, rfl, g i, rfl, i1, by omega, fun r H2 s2 hr e2 => ⟨r, rfl, ⟨_, SqL.of e2⟩, fun D2 hD2 => lcM_list (K := K) (c := nV) (src := divsL (g i)) (fun d => .bool (inB n g d)) hD2 (SqL.of e2) (by have := divsL_len (n := g i); omega) ?_ ?_⟩⟩
    · intro k2 d H3 R2 S2 hd s3 hR2
      exact ⟨rfl, _, rfl, _, rfl, p, _, rfl, .inl (SqL.same ((s1.trans s2).trans s3) hS), rfl, flat_gV, hR2 _ _ (Same.refl _) (.bl _)⟩
    · intro H3 s3 r3
      rw [map_bl] at r3
      exact ⟨D2, _, rfl, SqL.of r3.bls, hR _ _ (s2.trans s3) (.bl _)⟩
  · intro H1 s1 r1
    rw [map_bl] at r1
    exact ⟨D, _, rfl, SqL.of r1.bls, q _ s1⟩
/-! tables by rows: the row back -/
theorem det_rowB {n : Nat} {g : Nat → Nat} {row : List Int} (L : LotF n g) (C : ClosedF n g) : det n (rowM row g) = prodI ((List.range n).map fun i => bkR row (g i)) := by
  rw [prodI_gl, ← det_row_closed (f := fun x => row.getD (x - 1) 0) (b := bkR row) (glL_lt L) (glL_pos L) (glL_closed.mpr C) fun x hx => bk_inv (f := fun x => row.getD (x - 1) 0) (glL_pos L x hx)]
  unfold detL
  rw [glL_len]
  exact det_congr fun a b ha hb => by rw [glL_at ha, glL_at hb]; rfl
theorem row_abs {row : List Int} {c : Nat} (h : ∀ x ∈ row, x.natAbs ≤ c) (d : Nat) : (row.getD d 0).natAbs ≤ c := by
  rw [List.getD_eq_getElem?_getD]
  cases e : row[d]? with
  | none => exact Nat.zero_le _
  | some x => exact h x (List.mem_of_getElem? e)
theorem bkR_abs {row : List Int} {k : Nat} (h : ∀ x ∈ row, x.natAbs ≤ 10) (hk : k ≤ 60) : (bkR row k).natAbs ≤ 600 := by
  have := bk_abs (f := fun d => row.getD (d - 1) 0) (c := 10) (n := k) fun d => row_abs h (d - 1)
  unfold bkR
  omega
/-! what is told -/
def wordD : PyData := .list [.str ("not made" : Str), .bool true]
def dueD (c : Bool) (P : Int) : PyData := if c = true then .int P else wordD
def DueV (c : Bool) (P : Int) (H : Hp) (v : V) : Prop := (c = true ∧ v = .int P) ∨ (c = false ∧ ∃ l, v = .ref l ∧ H l = some (.lst [.str ("not made" : Str), .bl true]))
theorem DueV.same {c : Bool} {P : Int} {H H' : Hp} {v : V} (h : DueV c P H v) (s : Same H H') : DueV c P H' v := by
  rcases h with h | ⟨h, l, e, hl⟩
  · exact .inl h
  · exact .inr ⟨h, l, e, s _ _ hl⟩
theorem DueV.ext {c : Bool} {P : Int} {H H' : Hp} {v : V} (h : DueV c P H v) (s : ExtN H H') : DueV c P H' v := by
  rcases h with h | ⟨h, l, e, hl⟩
  · exact .inl h
  · exact .inr ⟨h, l, e, extN_lst s hl⟩
theorem DueV.mut {c : Bool} {P : Int} {H : Hp} {v : V} {a : Addr} {o : HO} {xs : List V} (h : DueV c P H v) (ha : H a = some (.lst xs)) (ne : ∀ x y : V, xs ≠ [x, y]) : DueV c P (upd H a o) v := by
  rcases h with h | ⟨h, l, e, hl⟩
  · exact .inl h
  · refine .inr ⟨h, l, e, ?_⟩
    rw [upd_ne]
    · exact hl
    · intro z
      rw [z, ha] at hl
      cases hl
      exact ne _ _ rfl
theorem DueV.dp {c : Bool} {P : Int} {H : Hp} {v : V} (h : DueV c P H v) : Dp K H v (dueD c P) := by
  rcases h with ⟨rfl, rfl⟩ | ⟨rfl, l, rfl, hl⟩
  · exact .int _
  · exact .lst (SqL.of hl) (.cons (.str _) (.cons (.bl _) .nil))
theorem good_told {c : Bool} {P : Int} (h : P.natAbs < 10 ^ 400) : Good (.list [dueD c P, dueD c P]) := by
  cases c with
  | true => exact good_ints (ns := [P, P]) (c := 400) (fun x hx => by
      rcases List.mem_cons.mp hx with rfl | z
      · exact h
      · rw [List.mem_singleton.mp z]; exact h) (by decide) (by show 408 * (2 + 1) ≤ _; decide)
  | false =>
    show Good (.list [wordD, wordD])
    exact ⟨by decide +kernel, by decide +kernel, by decide +kernel, by decide +kernel, by decide +kernel, by decide +kernel⟩
theorem good_word : Good wordD := ⟨by decide +kernel, by decide +kernel, by decide +kernel, by decide +kernel, by decide +kernel, by decide +kernel⟩
theorem due_of {b c k : Bool} {H1 : Hp} {Q : VK} {r p : Addr} {row : List Int} {n : Nat} {g : Nat → Nat} (hR : SqX K b H1 r (row.map V.int)) (r1 : 1 ≤ row.length) (r2 : row.length ≤ 60) (h10 : ∀ x ∈ row, x.natAbs ≤ 10) (hp : SqX K c H1 p (gV n g)) (L : LotF n g)
    (hk : k = true ↔ ClosedF n g ∧ g (n - 1) ≤ row.length) (q : ∀ v H', Same H1 H' → DueV k (prodI ((List.range n).map fun i => bkR row (g i))) H' v → Q v H') :
    sp_worth_by K [.ref r, .ref p] H1 Q (fun cls d H' => cls = .ref (He.ga K "NotMade") ∧ d = none ∧ ∀ l, H' l = none → Q (.ref l) (upd H' l (.lst [.str ("not made" : Str), .bl true]))) := by
  refine ⟨_, _, rfl, b, c, r, p, row, n, g, rfl, rfl, hR, r1, r2, fun x hx => Nat.lt_of_le_of_lt (h10 x hx) (by decide), hp, L, fun C hl => ⟨fun i hi => ?_, fun H' s => q _ _ s (.inl ⟨hk.mpr ⟨C, hl⟩, rfl⟩)⟩, fun no H' s => ⟨rfl, rfl, fun l hl => q _ _ (s.new hl) (.inr ⟨?_, l, rfl, upd_same⟩)⟩⟩
  · have gl := L.last hi
    exact Nat.lt_of_le_of_lt (bkR_abs h10 (by omega)) (Nat.lt_of_lt_of_le (show 600 < 2 ^ 10 by decide) (Nat.pow_le_pow_right (by decide) (by decide)))
  · rw [Bool.eq_false_iff]
    intro z
    obtain ⟨C, hl⟩ := hk.mp z
    rcases no with z | z
    · exact z C
    · omega
/-! the state of the law -/
abbrev TB83 (PP : Addr) : List (Addr × Str) := [(PP, lamQ "_law_right")]
structure B83 (PP : Addr) (H0 : Hp) (a Nu : Addr) (n : Nat) (g : Nat → Nat) (H : Hp) : Prop where
  pot : PotAt H a
  gr : GrowT a H0 H
  ne : Nu ≠ a
  nu : H Nu = some (.lst (gV n g))
  tb : Tabs (TB83 PP) H
theorem tabs_ne {PP a : Addr} {H : Hp} (t : Tabs (TB83 PP) H) {xs : List V} (h : H a = some (.lst xs)) : ∀ p ∈ TB83 PP, p.1 ≠ a := fun p hp z => by
  obtain ⟨ps, e, _⟩ := t p hp
  rw [z, h] at e
  cases e
theorem tabs_pot {PP a : Addr} {H H' : Hp} (t : Tabs (TB83 PP) H) (p : PotAt H a) (gr : Grow a H H') : Tabs (TB83 PP) H' := by
  obtain ⟨x, y, e, _⟩ := p
  exact Tabs.grow t (tabs_ne t e) ⟨_, e⟩ gr
theorem tabs_mut {PP a : Addr} {H : Hp} {o : HO} {xs : List V} (t : Tabs (TB83 PP) H) (h : H a = some (.lst xs)) : Tabs (TB83 PP) (upd H a o) := Tabs.grow t (tabs_ne t h) ⟨_, h⟩ fun b u n z => by rw [upd_ne n]; exact z
section
variable {PP a Nu : Addr} {H0 H H' : Hp} {n : Nat} {g : Nat → Nat}
theorem B83.same (b : B83 PP H0 a Nu n g H) (s : Same H H') : B83 PP H0 a Nu n g H' := ⟨b.pot.same s, b.gr.trans (GrowT.of (Grow.of s)), b.ne, s _ _ b.nu, b.tb.ext s⟩
theorem B83.grow (b : B83 PP H0 a Nu n g H) (gr : Grow a H H') (p : PotAt H' a) : B83 PP H0 a Nu n g H' := ⟨p, b.gr.trans (GrowT.of gr), b.ne, gr _ _ b.ne b.nu, tabs_pot b.tb b.pot gr⟩
theorem B83.ext (b : B83 PP H0 a Nu n g H) (e : ExtN H H') (t : Tabs (TB83 PP) H') : B83 PP H0 a Nu n g H' := by
  refine ⟨?_, b.gr.trans (GrowT.ext e), b.ne, extN_lst e b.nu, t⟩
  obtain ⟨x, y, z, r⟩ := b.pot
  exact ⟨x, y, extN_lst e z, r⟩
end
/-- a list made since changes -/
theorem B83.put {PP a Nu D : Addr} {H0 H1 H2 : Hp} {n : Nat} {g : Nat → Nat} {o : HO} {xs : List V} (b0 : B83 PP H0 a Nu n g H1) (hD : H1 D = none) (b : B83 PP H0 a Nu n g H2) (e : H2 D = some (.lst xs)) : B83 PP H0 a Nu n g (upd H2 D o) := by
  have na : D ≠ a := b0.pot.ne hD
  have nN : Nu ≠ D := ne_of_none b0.nu hD
  obtain ⟨x, y, z, r⟩ := b.pot
  refine ⟨⟨x, y, (upd_ne na.symm).trans z, r⟩, fun u w hu hw nt => ?_, b.ne, (upd_ne nN).trans b.nu, tabs_mut b.tb e⟩
  rw [upd_ne (ne_of_none (b0.gr u w hu hw nt) hD)]
  exact b.gr u w hu hw nt
/-! products, prime by prime -/
theorem rad_take {L : List (Nat × Nat)} (h : ∀ x ∈ L, x.1 ≤ 1000000) : ∀ i, (radL (L.take i)).natAbs ≤ 2 ^ (20 * i)
  | 0 => by
    rw [List.take_zero]
    exact Nat.le_refl 1
  | i + 1 => by
    have ih := rad_take h i
    rw [List.take_add_one]
    cases e : L[i]? with
    | none =>
      simp only [Option.toList, List.append_nil]
      exact Nat.le_trans ih (Nat.pow_le_pow_right (by decide) (by omega))
    | some x =>
      simp only [Option.toList]
      have := h x (List.mem_of_getElem? e)
      rw [radL_snoc, Int.natAbs_mul, Nat.mul_succ, Nat.pow_add]
      exact Nat.mul_le_mul ih (by omega)
theorem fac_le {L : List (Nat × Nat)} {n : Nat} (h : FacOf L n) (hn : n ≤ 1000000) : L.length < 20 ∧ ∀ x ∈ L, x.1 ≤ 1000000 := by
  have a := fac_len h.1
  rw [h.2] at a
  refine ⟨Classical.byContradiction fun z => ?_, fun x hx => ?_⟩
  · have : 2 ^ 20 ≤ 2 ^ L.length := Nat.pow_le_pow_right (by decide) (by omega)
    omega
  · obtain ⟨p, e⟩ := x
    have d := FacOk.pow_dvd h.1 hx
    rw [h.2] at d
    obtain ⟨b1, b2, _⟩ := row_b h (by omega) hx
    have n1 : 1 ≤ n := h.2 ▸ FacOk.pos h.1
    have le := Nat.le_of_dvd n1 d
    have : p ^ 1 ≤ p ^ e := Nat.pow_le_pow_right (by omega) b2
    rw [Nat.pow_one] at this
    exact Nat.le_trans (Nat.le_trans this le) hn
theorem mfG_take {n : Nat} {g : Nat → Nat} (L : LotF n g) : ∀ x ∈ mfG n g, x.natAbs < 2 ^ 64 := fun x hx => by
  unfold mfG at hx
  obtain ⟨i, hi, rfl⟩ := List.mem_map.mp hx
  have hi := List.mem_range.mp hi
  exact mf_le (L.lo i hi) (L.hi i hi)
theorem mfG_step {n k : Nat} {g : Nat → Nat} (h : k < n) : prodI ((mfG n g).take (k + 1)) = prodI ((mfG n g).take k) * mfN (g k) := by
  unfold mfG
  rw [List.take_add_one, List.getElem?_map, List.getElem?_range h]
  exact prodI_snoc _ _
theorem prod_bits {l : List Int} {c : Nat} (h : ∀ x ∈ l, x.natAbs < 2 ^ c) (hl : l.length ≤ 12) : (prodI l).natAbs ≤ 2 ^ (c * 12) := by
  have a := prodI_bits h l.length
  rw [List.take_length] at a
  exact Nat.le_trans a (Nat.pow_le_pow_right (by decide) (Nat.mul_le_mul_left c hl))
theorem phG_bits {n : Nat} {g : Nat → Nat} (L : LotF n g) : ∀ x ∈ phG n g, x.natAbs < 2 ^ 20 := fun x hx => by
  unfold phG at hx
  obtain ⟨i, hi, rfl⟩ := List.mem_map.mp hx
  have := ph_bound L i (List.mem_range.mp hi)
  omega

end
end M
namespace M
open PySem PySem.Spec PyProof.Rows L2 G LamX RZ
section
variable {P : Program} {w : World} {K : PySem.W.Frag} {mg : Str → Option Value} {base : Heap}
/-! tables undone -/
def spS_share_of (_ : PySem.W.Frag) : Sp := spec2 fun x y H Q _ => ∃ a b : Int, x = .int a ∧ y = .int b ∧ Q (.int (Nat.gcd a.natAbs b.natAbs : Nat)) H
theorem w_share_of (vs : List V) (H : Hp) (Q : VK) (E : XK) (h : sp_share_of K vs H Q E) : spS_share_of K vs H Q E := by
  obtain ⟨x, y, rfl, a, b, e1, e2, _, _, q⟩ := h
  exact ⟨x, y, rfl, a, b, e1, e2, q⟩
theorem ok_share_of {af : Addr} {fd : FuncData} (F : FunD K "share_of" "share_of" (defArgs s_share_of) (defBody s_share_of) (defScope s_share_of) [] [] af fd) (B : Bt mg)  : FnG False P w K mg base CX0 1 af fd ["near", "far"] (spS_share_of K) := by
  refine okG F sc_share_of ar2 fun cdv A outer s H vs Q E hg hr h => ?_
  refine ⟨_, PSs.nox (pss_cons (ps_par (i := 2) (j := 3) (by rfl) sc_share_of.nd rfl rfl (by decide) rfl rfl (pa_cons (pe_callB call_abs (by rfl) B.abs (by decide +kernel) (pa_cons (pv 0) pa_nil)) (pa_cons (pe_callB call_abs (by rfl) B.abs (by decide +kernel) (pa_cons (pv 1) pa_nil)) pa_nil)) (by rfl))
    (pss_cons (ps_while PassesOwn.never (pt_cmpR op_gt (pv 3) pe_int (nomark _))
      (pss_one (ps_par (i := 2) (j := 3) (by rfl) sc_share_of.nd rfl rfl (by decide) rfl rfl (pa_cons (pv 3) (pa_cons (pe_op op_mod (pv 2) (pv 3)) pa_nil)) (by rfl))))
    (pss_one (ps_ret (pv 2))))), ?_⟩
  obtain ⟨_, _, rfl, a0, b0, rfl, rfl, q⟩ := h
  generalize ha : a0.natAbs = a at q
  generalize hb : b0.natAbs = b at q
  refine ⟨_, rfl, _, rfl, _, rfl, _, rfl, _, _, rfl, ?_⟩
  dsimp only []
  rw [show (if a0 < 0 then -a0 else a0) = (a : Int) by split <;> omega, show (if b0 < 0 then -b0 else b0) = (b : Int) by split <;> omega]
  refine ⟨fun m σ H' => ∃ c d : Nat, σ = [some (.int a0), some (.int b0), some (.int (c : Int)), some (.int (d : Int))] ∧ H' = H ∧ Nat.gcd c d = Nat.gcd a b ∧ d = m, ⟨_, a, b, rfl, rfl, rfl, rfl⟩, fun m σ H' hW => ?_⟩
  obtain ⟨c, d, rfl, rfl, hg', rfl⟩ := hW
  refine ⟨_, rfl, _, _, rfl, rfl, _, rfl, ite2 (fun hc => ?_) (fun hc => ?_)⟩
  · have d0 : 0 < d := by
      have : (0 : Int) < (d : Int) := of_decide_eq_true hc
      omega
    have lt := Nat.mod_lt c d0
    exact ⟨_, fun _ _ z => z, _, rfl, _, rfl, _, rfl, _, _, rfl, rfl, (show (0 : Int) < (d : Int) by omega), _, _, rfl, c % d, by omega, d, c % d, rfl, rfl, gcd_turn.symm.trans hg', rfl⟩
  · have d0 : d = 0 := by
      have : ¬ (0 : Int) < (d : Int) := fun z => hc (decide_eq_true z)
      omega
    subst d0
    rw [Nat.gcd_zero_right] at hg'
    rw [← hg'] at q
    exact ⟨_, rfl, q⟩
def sp_lowest (K : PySem.W.Frag) : Sp := spec2 fun x y H Q _ => ∃ a b : Int, x = .int a ∧ y = .int b ∧ a.natAbs < 2 ^ 2000 ∧ 0 < b ∧ b.natAbs < 2 ^ 2000 ∧ ∀ t H', Same H H' → H t = none → H' t = some (.tup [.int (lwP a b).1, .int (lwP a b).2]) → Q (.ref t) H'
theorem gcd_div {a b : Int} (hb : 0 < b) (h : b.natAbs < 2 ^ 2000) (c : Int) : CDivX c ((Nat.gcd a.natAbs b.natAbs : Nat) : Int) := by
  have gp : 0 < Nat.gcd a.natAbs b.natAbs := Nat.gcd_pos_of_pos_right _ (by omega)
  have gl : Nat.gcd a.natAbs b.natAbs ≤ b.natAbs := Nat.le_of_dvd (by omega) (Nat.gcd_dvd_right _ _)
  refine fdivx_ok (b := 2000) (by omega) ?_ (by decide)
  rw [Int.natAbs_natCast]
  exact Nat.lt_of_le_of_lt gl h
theorem ok_lowest {af : Addr} {fd : FuncData} (F : FunD K "lowest" "lowest" (defArgs s_lowest) (defBody s_lowest) (defScope s_lowest) [] [] af fd) (B : Bt mg) (C_share_of : Cl False P w K mg base 1 "share_of" 2 [] (spS_share_of K)) : FnG False P w K mg base CX0 2 af fd ["above", "below"] (sp_lowest K) := by
  refine okG F sc_lowest ar2 fun cdv A outer s H vs Q E hg hr h => ?_
  refine ⟨_, PSs.nox (pss_cons (ps_set (i := 2) sc_lowest.nd rfl (.inl rfl) (pe_cl C_share_of (fun h => h.elim) hr (by decide) rfl (pa_cons (pv 0) (pa_cons (pv 1) pa_nil))))
    (pss_one (ps_ret (pe_tup (pa_cons (pe_op op_fdivX (pv 0) (pv 2)) (pa_cons (pe_op op_fdivX (pv 1) (pv 2)) pa_nil)))))), ?_⟩
  obtain ⟨_, _, rfl, a, b, rfl, rfl, h1, h2, h3, q⟩ := h
  exact ⟨_, rfl, _, rfl, _, _, rfl, a, b, rfl, rfl, _, rfl, _, rfl, _, _, rfl, rfl, gcd_div h2 h3 _, _, rfl, _, rfl, _, _, rfl, rfl, gcd_div h2 h3 _, sz2, fun t ht => q t _ ((Same.refl H).new ht) ht upd_same⟩
/-- what one place comes to over the first t numbers -/
def accU (g : Nat → Nat) (i j : Nat) : Nat → Int × Int
  | 0 => (0, 1)
  | t + 1 => if g i ∣ g t ∧ g j ∣ g t then lwP ((accU g i j t).1 * phN (g t) + mu (g t / g i) * mu (g t / g j) * (accU g i j t).2) ((accU g i j t).2 * phN (g t)) else accU g i j t
theorem Sg_abs2 {f : Nat → Int} {c : Nat} : ∀ {n : Nat}, (∀ i, i < n → (f i).natAbs ≤ c) → (Sg n f).natAbs ≤ n * c
  | 0, _ => by
    show (0 : Int).natAbs ≤ _
    omega
  | n + 1, h => by
    have a := Sg_abs2 (n := n) fun i hi => h i (by omega)
    have b := h n (by omega)
    show (Sg n f + f n).natAbs ≤ _
    rw [Nat.succ_mul]
    omega
theorem prodI_pos : ∀ {l : List Int}, (∀ x ∈ l, 0 < x) → 0 < prodI l ∧ ∀ x ∈ l, x ∣ prodI l
  | [], _ => ⟨by show (0 : Int) < 1; decide, fun x hx => by cases hx⟩
  | y :: l, h => by
    obtain ⟨a, b⟩ := prodI_pos (l := l) fun x hx => h x (List.mem_cons_of_mem _ hx)
    have e : prodI (y :: l) = y * prodI l := by
      show l.foldl (fun a b => a * b) (1 * y) = _
      rw [prodI_from, Int.one_mul]
    rw [e]
    refine ⟨Int.mul_pos (h y List.mem_cons_self) a, fun x hx => ?_⟩
    rcases List.mem_cons.mp hx with rfl | hx
    · exact Int.dvd_mul_right _ _
    · exact Int.dvd_trans (b x hx) (Int.dvd_mul_left _ _)
def dN (n : Nat) (g : Nat → Nat) : Int := prodI (phG n g)
def wN (n : Nat) (g : Nat → Nat) (t : Nat) : Int := dN n g / phN (g t)
theorem dN_pos {n : Nat} {g : Nat → Nat} (L : LotF n g) : 0 < dN n g ∧ ∀ t, t < n → phN (g t) ∣ dN n g := by
  have a := prodI_pos (l := phG n g) fun x hx => by
    unfold phG at hx
    obtain ⟨i, hi, rfl⟩ := List.mem_map.mp hx
    have := ph_pos (L.lo i (List.mem_range.mp hi))
    omega
  exact ⟨a.1, fun t ht => a.2 _ (List.mem_map.mpr ⟨t, List.mem_range.mpr ht, rfl⟩)⟩
theorem wN_mul {n t : Nat} {g : Nat → Nat} (L : LotF n g) (ht : t < n) : wN n g t * phN (g t) = dN n g := Int.ediv_mul_cancel ((dN_pos L).2 t ht)
theorem dN_bits {n : Nat} {g : Nat → Nat} (L : LotF n g) : (dN n g).natAbs ≤ 2 ^ 240 := prod_bits (phG_bits L) (by unfold phG; rw [List.length_map, List.length_range]; exact L.n2)
theorem wN_abs {n t : Nat} {g : Nat → Nat} (L : LotF n g) (ht : t < n) : (wN n g t).natAbs ≤ (dN n g).natAbs := by
  rw [← wN_mul L ht, Int.natAbs_mul]
  have := ph_pos (L.lo t ht)
  exact Nat.le_mul_of_pos_right _ (by omega)
theorem unX_abs {n i j t : Nat} {g : Nat → Nat} (L : LotF n g) (ht : t < n) : (unX g (wN n g) i j t).natAbs ≤ (dN n g).natAbs := by
  unfold unX
  split
  · rw [Int.natAbs_mul, Int.natAbs_mul]
    have a := Nat.mul_le_mul (mu_abs (g t / g i)) (mu_abs (g t / g j))
    exact Nat.le_trans (Nat.mul_le_mul a (wN_abs L ht)) (by omega)
  · exact Nat.zero_le _
theorem acc_eq {n i j : Nat} {g : Nat → Nat} (L : LotF n g) : ∀ t, t ≤ n → accU g i j t = lwP (Sg t (unX g (wN n g) i j)) (dN n g)
  | 0, _ => (lw_zero (dN_pos L).1).symm
  | t + 1, h => by
    have ih := acc_eq L (i := i) (j := j) t (by omega)
    have D := (dN_pos L).1
    show (if g i ∣ g t ∧ g j ∣ g t then _ else _) = lwP (Sg t (unX g (wN n g) i j) + unX g (wN n g) i j t) (dN n g)
    by_cases c : g i ∣ g t ∧ g j ∣ g t
    · obtain ⟨v1, v2, v3, v4⟩ := lw_val (a := Sg t (unX g (wN n g) i j)) D
      rw [if_pos c, ih]
      refine lw_add D (by omega) (by have := ph_pos (L.lo t (by omega)); omega) v1 ?_
      unfold unX
      rw [if_pos c, Int.mul_assoc (mu (g t / g i) * mu (g t / g j)) (wN n g t), wN_mul L (by omega)]
    · rw [if_neg c, ih]
      unfold unX
      rw [if_neg c, Int.add_zero]
theorem acc_b {n i j t : Nat} {g : Nat → Nat} (L : LotF n g) (ht : t ≤ n) : 1 ≤ (accU g i j t).2 ∧ (accU g i j t).2.natAbs < 2 ^ 256 ∧ (accU g i j t).1.natAbs < 2 ^ 256 := by
  rw [acc_eq L t ht]
  obtain ⟨v1, v2, v3, v4⟩ := lw_val (a := Sg t (unX g (wN n g) i j)) (dN_pos L).1
  have d := dN_bits L
  have s := Sg_abs2 (f := unX g (wN n g) i j) (c := (dN n g).natAbs) (n := t) fun k hk => unX_abs L (by omega)
  have z : 2 ^ 240 * 16 ≤ 2 ^ 256 := by rw [show (16 : Nat) = 2 ^ 4 from rfl, ← Nat.pow_add]; exact Nat.pow_le_pow_right (by decide) (by decide)
  have n2 := L.n2
  have s2 : t * (dN n g).natAbs ≤ 12 * 2 ^ 240 := Nat.mul_le_mul (by omega) d
  have p : 0 < 2 ^ 240 := Nat.two_pow_pos _
  omega
def undD (n : Nat) (g : Nat → Nat) : PyData := .list ((List.range n).map fun i => .list ((List.range n).map fun j => .tuple [.int (accU g i j n).1, .int (accU g i j n).2]))
def sp_undone_of (K : PySem.W.Frag) : Sp := spec1 fun x H Q _ => ∃ (p : Addr) (n : Nat) (g : Nat → Nat), x = .ref p ∧ SqL K H p (gV n g) ∧ LotF n g ∧ ∀ r H', Same H H' → Rp (New H) H' (.ref r) (undD n g) → Q (.ref r) H'
theorem ok_undone_of {af : Addr} {fd : FuncData} (F : FunD K "undone_of" "undone_of" (defArgs s_undone_of) (defBody s_undone_of) (defScope s_undone_of) [] [] af fd) (B : Bt mg) (C_lowest : Cl False P w K mg base 2 "lowest" 2 [] (sp_lowest K)) (C_free_count : Cl False P w K mg base 2 "free_count" 1 [] (sp_free_count K)) (C_sign_of : Cl False P w K mg base 2 "sign_of" 1 [] (sp_sign_of K)) : FnG False P w K mg base CX0 3 af fd ["numbers"] (sp_undone_of K) := by
  refine okG F sc_undone_of ar1 fun cdv A outer s H vs Q E hg hr h => ?_
  refine ⟨_, PSs.nox (pss_cons (ps_set (i := 1) sc_undone_of.nd rfl (.inl rfl) (pe_lst pa_nil))
    (pss_cons (ps_for PassesOwn.never rfl ((pi_list (pv 0))) (pg_name (i := 2) sc_undone_of.nd rfl (.inl rfl))
      (pss_cons (ps_set (i := 3) sc_undone_of.nd rfl (.inl rfl) (pe_lst pa_nil))
      (pss_cons (ps_for PassesOwn.never rfl ((pi_list (pv 0))) (pg_name (i := 4) sc_undone_of.nd rfl (.inl rfl))
        (pss_cons (ps_asg (pe_tup (pa_cons pe_int (pa_cons pe_int pa_nil))) (pg_tup rfl (pgs_cons (pg_name (i := 5) sc_undone_of.nd rfl (.inl rfl)) (pgs_cons (pg_name (i := 6) sc_undone_of.nd rfl (.inl rfl)) pgs_nil))))
        (pss_cons (ps_for PassesOwn.never rfl ((pi_list (pv 0))) (pg_name (i := 7) sc_undone_of.nd rfl (.inl rfl))
          (pss_one (ps_if (PW.pt (pw_and (pt_cmpR op_eq (pe_op op_mod (pv 7) (pv 2)) pe_int (nomark _)) (pw_and1 (pt_cmpR op_eq (pe_op op_mod (pv 7) (pv 4)) pe_int (nomark _)))))
            (pss_cons (ps_par (i := 8) (j := 9) (by rfl) sc_undone_of.nd rfl rfl (by decide) rfl rfl (pa_cons (pe_op op_mulX (pe_cl C_sign_of (fun h => h.elim) hr (by decide) rfl (pa_cons (pe_op op_fdivW (pv 7) (pv 2)) pa_nil)) (pe_cl C_sign_of (fun h => h.elim) hr (by decide) rfl (pa_cons (pe_op op_fdivW (pv 7) (pv 4)) pa_nil))) (pa_cons (pe_cl C_free_count (fun h => h.elim) hr (by decide) rfl (pa_cons (pv 7) pa_nil)) pa_nil)) (by rfl))
            (pss_cons (ps_par (i := 5) (j := 6) (by rfl) sc_undone_of.nd rfl rfl (by decide) rfl rfl (pa_cons (pe_op op_add (pe_op op_mulX (pv 5) (pv 9)) (pe_op op_mulX (pv 8) (pv 6))) (pa_cons (pe_op op_mulX (pv 6) (pv 9)) pa_nil)) (by rfl))
            (pss_one (ps_asg (pe_cl C_lowest (fun h => h.elim) hr (by decide) rfl (pa_cons (pv 5) (pa_cons (pv 6) pa_nil))) (pg_tup rfl (pgs_cons (pg_name (i := 5) sc_undone_of.nd rfl (.inl rfl)) (pgs_cons (pg_name (i := 6) sc_undone_of.nd rfl (.inl rfl)) pgs_nil)))))))
            pss_nil)))
        (pss_one (ps_expr (pe_bm PySem.F.plainAttrs_list PySem.F.slot_list_append PySem.F.type_list_append mt_append (pv 3) (pa_cons (pe_tup (pa_cons (pv 5) (pa_cons (pv 6) pa_nil))) pa_nil)))))))
      (pss_one (ps_expr (pe_bm PySem.F.plainAttrs_list PySem.F.slot_list_append PySem.F.type_list_append mt_append (pv 1) (pa_cons (pv 3) pa_nil)))))))
    (pss_one (ps_ret (pv 1))))), ?_⟩
  obtain ⟨_, rfl, p, n, g, rfl, hS, L, q⟩ := h
  have n2 := L.n2
  refine ⟨sz0, fun l hl => ⟨_, rfl, p, rfl, ⟨_, SqL.same ((Same.refl H).new hl) hS⟩, ?_⟩⟩
  have s0 : Same H (upd H l (.lst [])) := (Same.refl H).new hl
  refine for_list (K := K) (a := p) (xs := gV n g) (fun i σ H2 => ∃ (y2 y3 y4 y5 y6 y7 y8 y9 : Option V) (vs : List V), σ = [some (.ref p), some (.ref l), y2, y3, y4, y5, y6, y7, y8, y9] ∧ Same H H2 ∧ H2 l = some (.lst vs) ∧ RpA (New (upd H l (.lst []))) H2 vs ((List.range i).map fun i => .list ((List.range n).map fun j => .tuple [.int (accU g i j n).1, .int (accU g i j n).2])))
    ⟨none, none, none, none, none, none, none, none, [], rfl, s0, upd_same, .nil⟩ (fun i σ H2 _ ⟨_, _, _, _, _, _, _, _, _, _, z, _⟩ => SqL.same z hS) ?_ ?_
  · rintro i x σ H2 hx ⟨y2, y3, y4, y5, y6, y7, y8, y9, vs, rfl, s2, e2, r2⟩
    obtain ⟨hi, rfl⟩ := gV_get hx
    have i1 := L.lo i hi
    have i2 := L.hi i hi
    refine ⟨sz0, fun r hr => ⟨_, rfl, p, rfl, ⟨_, SqL.same (s2.new hr) hS⟩, ?_⟩⟩
    have s3 : Same H2 (upd H2 r (.lst [])) := (Same.refl H2).new hr
    refine for_list (K := K) (a := p) (xs := gV n g) (fun j σ H3 => ∃ (y4 y5 y6 y7 y8 y9 : Option V) (ws : List V), σ = [some (.ref p), some (.ref l), some (.int (g i : Nat)), some (.ref r), y4, y5, y6, y7, y8, y9] ∧ Same H2 H3 ∧ H3 r = some (.lst ws) ∧ RpA (New (upd H2 r (.lst []))) H3 ws ((List.range j).map fun j => .tuple [.int (accU g i j n).1, .int (accU g i j n).2]))
      ⟨y4, y5, y6, y7, y8, y9, [], rfl, s3, upd_same, .nil⟩ (fun j σ H3 _ ⟨_, _, _, _, _, _, _, _, z, _⟩ => SqL.same (s2.trans z) hS) ?_ ?_
    · rintro j x σ H3 hx ⟨y4, y5, y6, y7, y8, y9, ws, rfl, s4, e4, r4⟩
      obtain ⟨hj, rfl⟩ := gV_get hx
      have j1 := L.lo j hj
      refine ⟨sz2, fun t0 ht0 => ⟨t0, _, rfl, SqT.of upd_same, rfl, _, _, rfl, _, _, rfl, rfl, ?_⟩⟩
      have s5 : Same H3 (upd H3 t0 (.tup [.int 0, .int 1])) := (Same.refl H3).new ht0
      refine ⟨_, rfl, p, rfl, ⟨_, SqL.same (s2.trans (s4.trans s5)) hS⟩, for_list (K := K) (a := p) (xs := gV n g) (fun t σ H4 => ∃ (y7 y8 y9 : Option V), σ = [some (.ref p), some (.ref l), some (.int (g i : Nat)), some (.ref r), some (.int (g j : Nat)), some (.int (accU g i j t).1), some (.int (accU g i j t).2), y7, y8, y9] ∧ Same H3 H4)
        ⟨y7, y8, y9, rfl, s5⟩ (fun t σ H4 _ ⟨_, _, _, _, z⟩ => SqL.same (s2.trans (s4.trans z)) hS) ?_ ?_⟩
      · rintro t x σ H4 hx ⟨y7, y8, y9, rfl, s6⟩
        obtain ⟨ht, rfl⟩ := gV_get hx
        have t1 := L.lo t ht
        have t2 := L.hi t ht
        have no : ¬ (g i ∣ g t ∧ g j ∣ g t) → accU g i j (t + 1) = accU g i j t := fun z => if_neg z
        refine ⟨_, rfl, _, rfl, _, _, rfl, rfl, (by show (0 : Int) < _; omega), rfl, _, rfl, ite2 (fun h1 => ?_) (fun h1 => ⟨_, _, _, by rw [no fun z => h1 (decide_eq_true (congrArg V.int (int_mod.mpr (Nat.mod_eq_zero_of_dvd z.1))))]; rfl, s6⟩)⟩
        have h1 : g i ∣ g t := Nat.dvd_of_mod_eq_zero (int_mod.mp (V.int.inj (of_decide_eq_true h1)))
        refine ⟨_, rfl, _, rfl, _, _, rfl, rfl, (by show (0 : Int) < _; omega), rfl, _, rfl, ite2 (fun h2 => ?_) (fun h2 => ⟨_, _, _, by rw [no fun z => h2 (decide_eq_true (congrArg V.int (int_mod.mpr (Nat.mod_eq_zero_of_dvd z.2))))]; rfl, s6⟩)⟩
        have h2 : g j ∣ g t := Nat.dvd_of_mod_eq_zero (int_mod.mp (V.int.inj (of_decide_eq_true h2)))
        obtain ⟨o1, o2, o3⟩ := acc_b L (i := i) (j := j) (Nat.le_of_lt ht)
        have m1 := mu_abs (g t / g i)
        have m2 := mu_abs (g t / g j)
        have m3 : (mu (g t / g i) * mu (g t / g j)).natAbs ≤ 1 := by
          rw [Int.natAbs_mul]
          exact Nat.mul_le_mul m1 m2
        have pb := ph_bound L t ht
        have p1 := ph_pos (L.lo t ht)
        have yes : accU g i j (t + 1) = lwP ((accU g i j t).1 * phN (g t) + mu (g t / g i) * mu (g t / g j) * (accU g i j t).2) ((accU g i j t).2 * phN (g t)) := if_pos ⟨h1, h2⟩
        have d1 := Nat.div_pos (Nat.le_of_dvd t1 h1) i1
        have d2 := Nat.div_pos (Nat.le_of_dvd t1 h2) j1
        have l1 := Nat.div_le_self (g t) (g i)
        have l2 := Nat.div_le_self (g t) (g j)
        have j2 := L.hi j hj
        refine ⟨_, rfl, _, rfl, _, _, rfl, rfl, divw (by omega) (by omega), _, rfl, g t / g i, rfl, d1, by omega, fun H5 s7 => ⟨_, rfl, _, rfl, _, _, rfl, rfl, divw (by omega) (by omega), _, rfl, g t / g j, rfl, d2, by omega, fun H6 s8 => ⟨_, _, rfl, rfl, mxs (by omega) (by omega), _, rfl, _, rfl, g t, rfl, t1, t2, fun H7 s9 => ⟨_, _, rfl, ?_⟩⟩⟩⟩
        have q1 : ((accU g i j t).1 * phN (g t)).natAbs < 2 ^ 320 := by
          rw [Int.natAbs_mul, show 320 = 256 + 64 from rfl, Nat.pow_add]
          exact Nat.mul_lt_mul'' o3 (by omega)
        have q2 : (mu (g t / g i) * mu (g t / g j) * (accU g i j t).2).natAbs < 2 ^ 256 := by
          rw [Int.natAbs_mul]
          exact Nat.lt_of_le_of_lt (Nat.mul_le_mul_right _ m3) (by rw [Nat.one_mul]; exact o2)
        have q3 : ((accU g i j t).2 * phN (g t)).natAbs < 2 ^ 320 := by
          rw [Int.natAbs_mul, show 320 = 256 + 64 from rfl, Nat.pow_add]
          exact Nat.mul_lt_mul'' o2 (by omega)
        have q4 : ((accU g i j t).1 * phN (g t) + mu (g t / g i) * mu (g t / g j) * (accU g i j t).2).natAbs < 2 ^ 321 := by
          have := Int.natAbs_add_le ((accU g i j t).1 * phN (g t)) (mu (g t / g i) * mu (g t / g j) * (accU g i j t).2)
          have z : 2 ^ 256 ≤ 2 ^ 320 := Nat.pow_le_pow_right (by decide) (by decide)
          have z2 : 2 ^ 321 = 2 ^ 320 + 2 ^ 320 := by rw [Nat.pow_succ]; omega
          omega
        have q5 : 0 < (accU g i j t).2 * phN (g t) := Int.mul_pos (by omega) (by omega)
        refine ⟨_, rfl, _, rfl, _, _, rfl, rfl, mx (lt4000 o3) (lt4000 (b := 64) (by omega)), _, rfl, _, rfl, _, _, rfl, rfl, mx (lt4000 (b := 64) (by omega)) (lt4000 o2), _, _, rfl, rfl, _, rfl, _, rfl, _, _, rfl, rfl, mx (lt4000 o2) (lt4000 (b := 64) (by omega)), _, _, rfl, ?_⟩
        refine ⟨_, rfl, _, rfl, _, _, rfl, _, _, rfl, rfl, Nat.lt_of_lt_of_le q4 (Nat.pow_le_pow_right (by decide) (by decide)), q5, Nat.lt_of_lt_of_le q3 (Nat.pow_le_pow_right (by decide) (by decide)), fun T H8 s10 hT eT => ⟨T, _, rfl, SqT.of eT, rfl, _, _, rfl, _, _, rfl, rfl, _, _, _, by rw [yes]; rfl, (((s6.trans s7).trans s8).trans s9).trans s10⟩⟩
      · rintro σ H4 ⟨y7, y8, y9, rfl, s6⟩
        rw [gV_len]
        have e6 := s6 _ _ e4
        have lw : ws.length = j := by rw [r4.length, List.length_map, List.length_range]
        refine ⟨_, rfl, .inl ⟨rfl, _, SqL.of e6⟩, _, rfl, _, rfl, sz2, fun t1 ht1 => ⟨r, _, _, rfl, rfl, (upd_ne (ne_of_none e6 ht1)).trans e6, small_lt (by omega), _, _, _, _, _, _, ws ++ [.ref t1], rfl, (s4.trans (s6.new ht1)).mut hr, upd_same, ?_⟩⟩
        rw [List.range_succ, List.map_append]
        have keep : ∀ b o, New (upd H2 r (.lst [])) b → upd H4 t1 (.tup [.int (accU g i j n).1, .int (accU g i j n).2]) b = some o → upd (upd H4 t1 (.tup [.int (accU g i j n).1, .int (accU g i j n).2])) r (.lst (ws ++ [.ref t1])) b = some o := fun b o hb e => (upd_ne (ne_of_none upd_same hb).symm).trans e
        have nt : New (upd H2 r (.lst [])) t1 := (upd_ne (ne_of_none e6 ht1).symm).trans ((s4.trans s6).free ht1)
        refine RpA.snoc ((r4.same (s6.new ht1)).mono (fun _ z => z) keep) (.tup nt (keep _ _ nt upd_same) (.cons (.int _) (.cons (.int _) .nil)))
    · rintro σ H3 ⟨y4, y5, y6, y7, y8, y9, ws, rfl, s4, e4, r4⟩
      rw [gV_len] at r4
      have e5 := s4 _ _ e2
      have lv : vs.length = i := by rw [r2.length, List.length_map, List.length_range]
      refine ⟨_, rfl, .inl ⟨rfl, _, SqL.of e5⟩, _, rfl, l, _, _, rfl, rfl, e5, small_lt (by omega), _, _, _, _, _, _, _, _, vs ++ [.ref r], rfl, (s2.trans s4).mut hl, upd_same, ?_⟩
      rw [List.range_succ, List.map_append]
      have keep : ∀ b o, New (upd H l (.lst [])) b → H3 b = some o → upd H3 l (.lst (vs ++ [.ref r])) b = some o := fun b o hb e => (upd_ne (ne_of_none upd_same hb).symm).trans e
      have nw : ∀ b, New H2 b → New (upd H l (.lst [])) b := fun b z => (upd_ne (ne_of_none e2 z).symm).trans (s2.free z)
      refine RpA.snoc ((r2.same s4).mono (fun _ z => z) keep) ?_
      exact Rp.mono nw (fun b o hb e => keep b o (nw b hb) e) _ _ (.lst hr e4 (r4.lift s3))
  · rintro σ H2 ⟨y2, y3, y4, y5, y6, y7, y8, y9, vs, rfl, s2, e2, r2⟩
    rw [gV_len] at r2
    exact ⟨_, rfl, q l _ s2 (.lst hl e2 (r2.lift s0))⟩
def sp_undone_table (K : PySem.W.Frag) : Sp := spec1 fun x H Q E => ∃ (b : Bool) (p : Addr) (n : Nat) (g : Nat → Nat), x = .ref p ∧ SqX K b H p (gV n g) ∧ LotF n g ∧
  (ClosedF n g → ∀ r H', Same H H' → Rp (New H) H' (.ref r) (undD n g) → Q (.ref r) H') ∧ (¬ ClosedF n g → ∀ H', Same H H' → E (.ref (He.ga K "NotMade")) none H')
theorem ok_undone_table {af : Addr} {fd : FuncData} (F : FunD K "undone_table" "undone_table" (defArgs s_undone_table) (defBody s_undone_table) (defScope s_undone_table) [] [] af fd) (B : Bt mg) (C_want_lot : Cl False P w K mg base 4 "want_lot" 1 [] (spS_want_lot K)) (C_undone_of : Cl False P w K mg base 3 "undone_of" 1 [] (sp_undone_of K)) (C_is_closed_of : Cl False P w K mg base 4 "is_closed_of" 1 [] (sp_is_closed_of K)) (oE : OwnE K (He.ga K "NotMade")) (gE : mg "NotMade" = some (.ref (He.ga K "NotMade"))) : FnG False P w K mg base (L2.CX P w) 5 af fd ["numbers"] (sp_undone_table K) := by
  refine okG F sc_undone_table ar1 fun cdv A outer s H vs Q E hg hr h => ?_
  refine ⟨_, (pss_cons (ps_expr (pe_cl C_want_lot (fun h => h.elim) hr (by decide) rfl (pa_cons (pv 0) pa_nil)))
    (pss_cons (ps_if (pt_not (pt_val (pe_cl C_is_closed_of (fun h => h.elim) hr (by decide) rfl (pa_cons (pe_callTy call_list_of (by rfl) B.list (by decide +kernel) (pa_cons (pv 0) pa_nil)) pa_nil))))
      (pss_one (ps_raise rfl own_takes (pmk_own0 oE gE rfl)))
      pss_nil)
    (pss_one (ps_ret (pe_cl C_undone_of (fun h => h.elim) hr (by decide) rfl (pa_cons (pe_callTy call_list_of (by rfl) B.list (by decide +kernel) (pa_cons (pv 0) pa_nil)) pa_nil)))))), ?_⟩
  obtain ⟨_, rfl, b, p, n, g, rfl, hS, L, q1, q2⟩ := h
  refine ⟨_, rfl, _, rfl, b, p, n, g, rfl, hS, L, fun H1 s1 => ⟨_, rfl, p, _, rfl, (hS.same s1).either, fun l1 hl1 => ⟨_, rfl, l1, n, g, rfl, SqL.of upd_same, L, fun k H2 hk s2 => ?_⟩⟩⟩
  have s := (s1.new (o := .lst (gV n g)) hl1).trans s2
  cases k with
  | false => exact ⟨_, rfl, iteT (q2 (fun C => by cases hk.mpr C) _ s)⟩
  | true => exact ⟨_, rfl, iteF ⟨_, rfl, p, _, rfl, (hS.same s).either, fun l2 hl2 => ⟨_, rfl, l2, n, g, rfl, SqL.of upd_same, L, fun r H3 s3 r3 => q1 (hk.mp rfl) r _ ((s.new hl2).trans s3) (r3.lift (s.new hl2))⟩⟩⟩

end
end M
namespace M
open PySem PySem.Spec PyProof.Rows L2 G LamX RZ
section
variable {P : Program} {w : World} {K : PySem.W.Frag} {mg : Str → Option Value} {base : Heap}
/-! tables undone: what the law needs -/
section
variable {N N' : Addr → Prop} {H H' : Hp}
mutual
theorem Rp.re (h : ∀ a o, N a → H a = some o → (∀ ps, o ≠ .tbl ps) → N' a ∧ H' a = some o) : ∀ (d : PyData) (v : V), Rp N H v d → Rp N' H' v d
  | .none, _, r => by cases r; exact .non
  | .bool b, _, r => by cases r; exact .bl b
  | .int i, _, r => by cases r; exact .int i
  | .str _, _, r => by cases r
  | .list ds, _, r => by
    cases r with
    | lst n e r =>
      obtain ⟨z1, z2⟩ := h _ _ n e (fun _ z => by cases z)
      exact .lst z1 z2 (RpA.re h ds _ r)
  | .tuple ds, _, r => by
    cases r with
    | tup n e r =>
      obtain ⟨z1, z2⟩ := h _ _ n e (fun _ z => by cases z)
      exact .tup z1 z2 (RpA.re h ds _ r)
  | .dict _, _, r => by cases r
theorem RpA.re (h : ∀ a o, N a → H a = some o → (∀ ps, o ≠ .tbl ps) → N' a ∧ H' a = some o) : ∀ (ds : List PyData) (vs : List V), RpA N H vs ds → RpA N' H' vs ds
  | [], _, r => by cases r; exact .nil
  | d :: ds, _, r => by
    cases r with
    | cons r1 r2 => exact .cons (Rp.re h d _ r1) (RpA.re h ds _ r2)
end
end
/-- what is told: d, or the word that nothing was made -/
def TV (N : Addr → Prop) (c : Bool) (d : PyData) (H : Hp) (v : V) : Prop := (c = true ∧ Rp N H v d) ∨ (c = false ∧ ∃ l, v = .ref l ∧ N l ∧ H l = some (.lst [.str ("not made" : Str), .bl true]))
theorem TV.re {N N' : Addr → Prop} {c : Bool} {d : PyData} {H H' : Hp} {v : V} (r : TV N c d H v) (h : ∀ a o, N a → H a = some o → (∀ ps, o ≠ .tbl ps) → N' a ∧ H' a = some o) : TV N' c d H' v := by
  rcases r with ⟨z, r⟩ | ⟨z, l, e, n, hl⟩
  · exact .inl ⟨z, Rp.re h _ _ r⟩
  · obtain ⟨n', hl'⟩ := h _ _ n hl (fun _ z => by cases z)
    exact .inr ⟨z, l, e, n', hl'⟩
theorem TV.dp {N : Addr → Prop} {c : Bool} {d : PyData} {H : Hp} {v : V} (r : TV N c d H v) : Dp K H v (if c = true then d else wordD) := by
  rcases r with ⟨rfl, r⟩ | ⟨rfl, l, rfl, n, hl⟩
  · exact r.dp
  · exact .lst (SqL.of hl) (.cons (.str _) (.cons (.bl _) .nil))
theorem told_of {b k : Bool} {H1 : Hp} {Q : VK} {p : Addr} {n : Nat} {g : Nat → Nat} (hp : SqX K b H1 p (gV n g)) (L : LotF n g) (hk : k = true ↔ ClosedF n g)
    (q : ∀ v H', Same H1 H' → TV (New H1) k (undD n g) H' v → Q v H') :
    sp_undone_table K [.ref p] H1 Q (fun cls d H' => cls = .ref (He.ga K "NotMade") ∧ d = none ∧ ∀ l, H' l = none → Q (.ref l) (upd H' l (.lst [.str ("not made" : Str), .bl true]))) := by
  refine ⟨_, rfl, b, p, n, g, rfl, hp, L, fun C r H' s rp => q _ _ s (.inl ⟨hk.mpr C, rp⟩), fun no H' s => ⟨rfl, rfl, fun l hl => q _ _ (s.new hl) (.inr ⟨?_, l, rfl, s.free hl, upd_same⟩)⟩⟩
  rw [Bool.eq_false_iff]
  exact fun z => no (hk.mp z)
theorem good_und {n : Nat} {g : Nat → Nat} (L : LotF n g) : Good (undD n g) := by
  have n2 := L.n2
  have hb : ∀ i j, (accU g i j n).1.natAbs < 10 ^ 100 ∧ (accU g i j n).2.natAbs < 10 ^ 100 := fun i j => by
    obtain ⟨_, b1, b2⟩ := acc_b L (i := i) (j := j) (Nat.le_refl n)
    have z : 2 ^ 256 ≤ 10 ^ 100 := by decide +kernel
    exact ⟨Nat.lt_of_lt_of_le b2 z, Nat.lt_of_lt_of_le b1 z⟩
  refine Good.of (c := 100) ?_ (by decide) ?_ ?_
  · unfold undD
    rw [fine]
    refine fineAll_map fun i _ => ?_
    rw [fine]
    refine fineAll_map fun j _ => ?_
    rw [fine, fineAll, fineAll, fineAll, fine, fine]
    simp [hb i j]
  · unfold undD
    rw [PyData.depth]
    have := depthAll_map (f := fun i => PyData.list ((List.range n).map fun j => .tuple [.int (accU g i j n).1, .int (accU g i j n).2])) (xs := List.range n) (k := 2) fun i _ => by
      show (PyData.list _).depth ≤ 2
      rw [PyData.depth]
      have := depthAll_map (f := fun j => PyData.tuple [.int (accU g i j n).1, .int (accU g i j n).2]) (xs := List.range n) (k := 1) fun j _ => by
        simp [PyData.depth, PyData.depthAll]
      omega
    omega
  · unfold undD
    rw [nodes]
    have := nodesAll_map (f := fun i => PyData.list ((List.range n).map fun j => .tuple [.int (accU g i j n).1, .int (accU g i j n).2])) (xs := List.range n) (k := 37) fun i _ => by
      show nodes (PyData.list _) ≤ 37
      rw [nodes]
      have := nodesAll_map (f := fun j => PyData.tuple [.int (accU g i j n).1, .int (accU g i j n).2]) (xs := List.range n) (k := 3) fun j _ => by
        simp [nodes, nodesAll]
      rw [List.length_range] at this
      omega
    rw [List.length_range] at this
    have : n * 37 ≤ 12 * 37 := Nat.mul_le_mul_right _ n2
    omega
/-- one place of the table -/
theorem due_at {N : Addr → Prop} {H : Hp} {l : Addr} {n i j : Nat} {g : Nat → Nat} (r : Rp N H (.ref l) (undD n g)) (hi : i < n) (hj : j < n) :
    ∃ (vs : List V) (ra : Addr) (ws : List V) (ta : Addr), H l = some (.lst vs) ∧ vs[i]? = some (.ref ra) ∧ H ra = some (.lst ws) ∧ ws[j]? = some (.ref ta) ∧ H ta = some (.tup [.int (accU g i j n).1, .int (accU g i j n).2]) := by
  obtain ⟨_, vs, e1, r1⟩ := Rp.node r
  obtain ⟨v, e2, r2⟩ := r1.get (i := i) (d := .list ((List.range n).map fun j => .tuple [.int (accU g i j n).1, .int (accU g i j n).2])) (by rw [List.getElem?_map, List.getElem?_range hi]; rfl)
  obtain ⟨ra, rfl, _, ws, e3, r3⟩ := Rp.isRef r2
  obtain ⟨u, e4, r4⟩ := r3.get (i := j) (d := .tuple [.int (accU g i j n).1, .int (accU g i j n).2]) (by rw [List.getElem?_map, List.getElem?_range hj]; rfl)
  cases r4 with
  | tup _ e5 r5 =>
    cases r5 with
    | cons x1 x2 =>
      cases x1
      cases x2 with
      | cons x3 x4 =>
        cases x3
        cases x4
        exact ⟨vs, ra, ws, _, e1, e2, e3, e4, e5⟩
theorem due_row {N : Addr → Prop} {H : Hp} {l : Addr} {n : Nat} {g : Nat → Nat} (r : Rp N H (.ref l) (undD n g)) (hn : 0 < n) :
    ∃ (vs : List V) (ra : Addr) (ws : List V), H l = some (.lst (.ref ra :: vs)) ∧ N ra ∧ H ra = some (.lst ws) ∧ ws.length = n := by
  obtain ⟨_, vs, e1, r1⟩ := Rp.node r
  obtain ⟨v, e2, r2⟩ := r1.get (i := 0) (d := .list ((List.range n).map fun j => .tuple [.int (accU g 0 j n).1, .int (accU g 0 j n).2])) (by rw [List.getElem?_map, List.getElem?_range hn]; rfl)
  obtain ⟨ra, rfl, na, ws, e3, r3⟩ := Rp.isRef r2
  cases vs with
  | nil => simp at e2
  | cons v0 vs =>
    obtain rfl : v0 = .ref ra := by simpa using e2
    exact ⟨vs, ra, ws, e1, na, e3, by rw [r3.length, List.length_map, List.length_range]⟩
theorem good_pair {x y : Int} (hx : x.natAbs < 10 ^ 100) (hy : y.natAbs < 10 ^ 100) : Good (.tuple [.int x, .int y]) := by
  refine Good.of (c := 100) ?_ (by decide) (by simp [PyData.depth, PyData.depthAll]) (by simp [nodes, nodesAll])
  rw [fine, fineAll, fineAll, fineAll, fine, fine]
  simp [hx, hy]
theorem acc_small {n i j : Nat} {g : Nat → Nat} (L : LotF n g) : (accU g i j n).1.natAbs < 10 ^ 100 ∧ (accU g i j n).2.natAbs < 10 ^ 100 := by
  obtain ⟨_, b1, b2⟩ := acc_b L (i := i) (j := j) (Nat.le_refl n)
  have z : 2 ^ 256 ≤ 10 ^ 100 := by decide +kernel
  exact ⟨Nat.lt_of_lt_of_le b2 z, Nat.lt_of_lt_of_le b1 z⟩
/-! the lots at the end -/
def g1L : Nat → Nat := fun _ => 1
def g13 : Nat → Nat := fun i => if i = 0 then 1 else 3
theorem lot1 : LotF 1 g1L := ⟨by decide, by decide, fun i _ => by unfold g1L; omega, fun i _ => by unfold g1L; omega, fun i j h1 h2 => by omega⟩
theorem lot13 : LotF 2 g13 := ⟨by decide, by decide, fun i _ => by unfold g13; split <;> omega, fun i _ => by unfold g13; split <;> omega, fun i j h1 h2 => by unfold g13; split <;> split <;> omega⟩
theorem cl1 : ClosedF 1 g1L := fun i _ d hd => ⟨0, by decide, (Nat.dvd_one.mp hd).symm⟩
theorem cl13 : ClosedF 2 g13 := fun i hi d hd => by
  have h3 : ∀ d, d ∣ 3 → d = 1 ∨ d = 3 := fun d hd => by
    have := Nat.le_of_dvd (by decide) hd
    have h0 : d ≠ 0 := fun z => by rw [z] at hd; omega
    have h2 : d ≠ 2 := fun z => by rw [z] at hd; omega
    omega
  have : d ∣ 3 := by
    unfold g13 at hd
    split at hd
    · exact Nat.dvd_trans hd (by decide)
    · exact hd
  rcases h3 d this with rfl | rfl
  · exact ⟨0, by decide, rfl⟩
  · exact ⟨1, by decide, rfl⟩
theorem und1 : undD 1 g1L = .list [.list [.tuple [.int 1, .int 1]]] := by
  have e : accU g1L 0 0 1 = (1, 1) := by decide +kernel
  show PyData.list [.list [.tuple [.int (accU g1L 0 0 1).1, .int (accU g1L 0 0 1).2]]] = _
  rw [e]
theorem und13 : undD 2 g13 = .list [.list [.tuple [.int 3, .int 2], .tuple [.int (-1), .int 2]], .list [.tuple [.int (-1), .int 2], .tuple [.int 1, .int 2]]] := by
  have e1 : accU g13 0 0 2 = (3, 2) := by decide +kernel
  have e2 : accU g13 0 1 2 = (-1, 2) := by decide +kernel
  have e3 : accU g13 1 0 2 = (-1, 2) := by decide +kernel
  have e4 : accU g13 1 1 2 = (1, 2) := by decide +kernel
  show PyData.list [.list [.tuple [.int (accU g13 0 0 2).1, .int (accU g13 0 0 2).2], .tuple [.int (accU g13 0 1 2).1, .int (accU g13 0 1 2).2]], .list [.tuple [.int (accU g13 1 0 2).1, .int (accU g13 1 0 2).2], .tuple [.int (accU g13 1 1 2).1, .int (accU g13 1 1 2).2]]] = _
  rw [e1, e2, e3, e4]
/-- two fractions together -/
def sp__law_plus (K : PySem.W.Frag) : Sp := spec2 fun x y H Q _ => ∃ (p r : Addr) (a b c d : Int), x = .ref p ∧ y = .ref r ∧ SqT K H p [.int a, .int b] ∧ SqT K H r [.int c, .int d] ∧ 0 < b ∧ 0 < d ∧ a.natAbs < 2 ^ 400 ∧ b.natAbs < 2 ^ 400 ∧ c.natAbs < 2 ^ 400 ∧ d.natAbs < 2 ^ 400 ∧
  ∀ t H', Same H H' → H t = none → H' t = some (.tup [.int (lwP (a * d + c * b) (b * d)).1, .int (lwP (a * d + c * b) (b * d)).2]) → Q (.ref t) H'
theorem ok__law_plus {af : Addr} {fd : FuncData} (F : FunD K "_law_plus" "_law_plus" (defArgs s__law_plus) (defBody s__law_plus) (defScope s__law_plus) [] [] af fd) (B : Bt mg) (C__law_share : Cl False P w K mg base 1 "_law_share" 2 [] (sp__law_share K)) : FnG False P w K mg base CX0 2 af fd ["near", "far"] (sp__law_plus K) := by
  refine okG F sc__law_plus ar2 fun cdv A outer s H vs Q E hg hr h => ?_
  refine ⟨_, PSs.nox (pss_cons (ps_par (i := 2) (j := 3) (by rfl) sc__law_plus.nd rfl rfl (by decide) rfl rfl (pa_cons (pe_op op_add (pe_op op_mulX (pe_ix ix_tup (pv 0) pe_int (fun _ _ => rfl)) (pe_ix ix_tup (pv 1) pe_int (fun _ _ => rfl))) (pe_op op_mulX (pe_ix ix_tup (pv 1) pe_int (fun _ _ => rfl)) (pe_ix ix_tup (pv 0) pe_int (fun _ _ => rfl)))) (pa_cons (pe_op op_mulX (pe_ix ix_tup (pv 0) pe_int (fun _ _ => rfl)) (pe_ix ix_tup (pv 1) pe_int (fun _ _ => rfl))) pa_nil)) (by rfl))
    (pss_cons (ps_set (i := 4) sc__law_plus.nd rfl (.inl rfl) (pe_cl C__law_share (fun h => h.elim) hr (by decide) rfl (pa_cons (pe_callB call_abs (by rfl) B.abs (by decide +kernel) (pa_cons (pv 2) pa_nil)) (pa_cons (pv 3) pa_nil))))
    (pss_one (ps_ret (pe_tup (pa_cons (pe_op op_fdivX (pv 2) (pv 4)) (pa_cons (pe_op op_fdivX (pv 3) (pv 4)) pa_nil))))))), ?_⟩
  obtain ⟨_, _, rfl, p, r, a, b, c, d, rfl, rfl, hp, hr', hb, hd, a4, b4, c4, d4, q⟩ := h
  have m : ∀ x y : Int, x.natAbs < 2 ^ 400 → y.natAbs < 2 ^ 400 → (x * y).natAbs < 2 ^ 800 := fun x y hx hy => by
    rw [Int.natAbs_mul, show 800 = 400 + 400 from rfl, Nat.pow_add]
    exact Nat.mul_lt_mul'' hx hy
  have bd : 0 < b * d := Int.mul_pos hb hd
  have b8 := m b d b4 d4
  have at0 : ∀ x y : Int, atI [V.int x, V.int y] 0 = some (.int x) := fun x y => rfl
  have at1 : ∀ x y : Int, atI [V.int x, V.int y] 1 = some (.int y) := fun x y => rfl
  refine ⟨_, rfl, p, _, _, _, rfl, rfl, hp, at0 _ _, _, rfl, r, _, _, _, rfl, rfl, hr', at1 _ _, _, _, rfl, rfl, mx (lt4000 a4) (lt4000 d4), _, rfl, r, _, _, _, rfl, rfl, hr', at0 _ _, _, rfl, p, _, _, _, rfl, rfl, hp, at1 _ _, _, _, rfl, rfl, mx (lt4000 c4) (lt4000 b4), _, _, rfl, rfl, _, rfl, p, _, _, _, rfl, rfl, hp, at1 _ _, _, rfl, r, _, _, _, rfl, rfl, hr', at1 _ _, _, _, rfl, rfl, mx (lt4000 b4) (lt4000 d4), _, _, rfl, ?_⟩
  have y2 : (b * d).natAbs < 2 ^ 2000 := Nat.lt_of_lt_of_le b8 (Nat.pow_le_pow_right (by decide) (by decide))
  refine ⟨_, rfl, _, rfl, _, rfl, _, _, rfl, (a * d + c * b).natAbs, (b * d).natAbs, congrArg V.int (by generalize a * d + c * b = X; split <;> omega), congrArg V.int (by generalize b * d = Y at bd ⊢; omega), ?_⟩
  exact ⟨_, rfl, _, rfl, _, _, rfl, rfl, gcd_div bd y2 _, _, rfl, _, rfl, _, _, rfl, rfl, gcd_div bd y2 _, sz2, fun t ht => q t _ ((Same.refl H).new ht) ht upd_same⟩
/-! sums, number by number -/
def stepU (g : Nat → Nat) (i j : Nat) (a : Int × Int) (t : Nat) : Int × Int := lwP (a.1 * phN (g t) + mu (g t / g i) * mu (g t / g j) * a.2) (a.2 * phN (g t))
def accF (g : Nat → Nat) (i j : Nat) (l : List Nat) : Int × Int := l.foldl (stepU g i j) (0, 1)
def mulL (n : Nat) (g : Nat → Nat) (i j : Nat) : List Nat := (List.range n).filter fun t => decide (g i ∣ g t) && decide (g j ∣ g t)
theorem accF_U {g : Nat → Nat} {i j : Nat} : ∀ t, accF g i j (mulL t g i j) = accU g i j t
  | 0 => rfl
  | t + 1 => by
    have ih := accF_U (g := g) (i := i) (j := j) t
    unfold mulL at ih ⊢
    rw [List.range_succ, List.filter_append]
    unfold accF at ih ⊢
    rw [List.foldl_append, ih, List.filter_cons]
    show _ = if g i ∣ g t ∧ g j ∣ g t then _ else _
    by_cases c : g i ∣ g t ∧ g j ∣ g t
    · rw [if_pos c, if_pos (by simp [c.1, c.2])]
      rfl
    · rw [if_neg c, if_neg (by simpa using c)]
      rfl
theorem accF_from {n i j : Nat} {g : Nat → Nat} (L : LotF n g) : ∀ (l : List Nat) (S : Int), (∀ t ∈ l, t < n ∧ g i ∣ g t ∧ g j ∣ g t) → l.foldl (stepU g i j) (lwP S (dN n g)) = lwP (S + (l.map (unX g (wN n g) i j)).sum) (dN n g)
  | [], S, _ => by
    show lwP S (dN n g) = lwP (S + 0) (dN n g)
    rw [Int.add_zero]
  | t :: l, S, h => by
    have D := (dN_pos L).1
    obtain ⟨ht, c⟩ := h t List.mem_cons_self
    obtain ⟨v1, v2, v3, v4⟩ := lw_val (a := S) D
    have e : stepU g i j (lwP S (dN n g)) t = lwP (S + unX g (wN n g) i j t) (dN n g) := by
      unfold stepU
      refine lw_add D (by omega) (by have := ph_pos (L.lo t ht); omega) v1 ?_
      unfold unX
      rw [if_pos c, Int.mul_assoc (mu (g t / g i) * mu (g t / g j)) (wN n g t), wN_mul L ht]
    show l.foldl (stepU g i j) (stepU g i j (lwP S (dN n g)) t) = lwP (S + (unX g (wN n g) i j t + (l.map _).sum)) (dN n g)
    rw [e, accF_from L l _ fun x hx => h x (List.mem_cons_of_mem _ hx), Int.add_assoc]
theorem accF_eq {n i j : Nat} {g : Nat → Nat} (L : LotF n g) {l : List Nat} (h : ∀ t ∈ l, t < n ∧ g i ∣ g t ∧ g j ∣ g t) : accF g i j l = lwP (l.map (unX g (wN n g) i j)).sum (dN n g) := by
  have e := accF_from L l 0 h
  rw [lw_zero (dN_pos L).1, Int.zero_add] at e
  exact e
theorem sum_abs {f : Nat → Int} {c : Nat} : ∀ {l : List Nat}, (∀ t ∈ l, (f t).natAbs ≤ c) → ((l.map f).sum).natAbs ≤ l.length * c
  | [], _ => by
    show (0 : Int).natAbs ≤ _
    omega
  | t :: l, h => by
    have a := sum_abs (l := l) fun x hx => h x (List.mem_cons_of_mem _ hx)
    have b := h t List.mem_cons_self
    show (f t + (l.map f).sum).natAbs ≤ (l.length + 1) * c
    rw [Nat.succ_mul]
    omega
theorem lw_bits {X D : Int} {k : Nat} (hD : 0 < D) (d : D.natAbs ≤ 2 ^ 240) (h : X.natAbs ≤ 2 ^ 300) : 0 < (lwP X D).2 ∧ (lwP X D).1.natAbs < 2 ^ 400 ∧ (lwP X D).2.natAbs < 2 ^ 400 := by
  obtain ⟨v1, v2, v3, v4⟩ := lw_val (a := X) hD
  have z : 2 ^ 240 < 2 ^ 400 := Nat.pow_lt_pow_right (by decide) (by decide)
  have z2 : 2 ^ 300 < 2 ^ 400 := Nat.pow_lt_pow_right (by decide) (by decide)
  omega
theorem accF_b {n i j : Nat} {g : Nat → Nat} (L : LotF n g) {l : List Nat} (h : ∀ t ∈ l, t < n ∧ g i ∣ g t ∧ g j ∣ g t) (hl : l.length ≤ 12) : 0 < (accF g i j l).2 ∧ (accF g i j l).1.natAbs < 2 ^ 400 ∧ (accF g i j l).2.natAbs < 2 ^ 400 := by
  rw [accF_eq L h]
  have d := dN_bits L
  have s := sum_abs (f := unX g (wN n g) i j) (c := (dN n g).natAbs) (l := l) fun k hk => unX_abs L (h k hk).1
  have s2 : l.length * (dN n g).natAbs ≤ 16 * 2 ^ 240 := Nat.mul_le_mul (by omega) d
  have z : 16 * 2 ^ 240 ≤ 2 ^ 300 := by rw [show (16 : Nat) = 2 ^ 4 from rfl, ← Nat.pow_add]; exact Nat.pow_le_pow_right (by decide) (by decide)
  exact lw_bits (k := 0) (dN_pos L).1 d (by omega)
/-! shares times the table undone -/
def xS (n : Nat) (g : Nat → Nat) (i j : Nat) : Int := Sg n (unX g (wN n g) i j)
theorem acc_xS {n i j : Nat} {g : Nat → Nat} (L : LotF n g) : accU g i j n = lwP (xS n g i j) (dN n g) := acc_eq L n (Nat.le_refl n)
theorem acc_turn {n i j : Nat} {g : Nat → Nat} (L : LotF n g) : accU g i j n = accU g j i n := by
  rw [acc_xS L, acc_xS L]
  unfold xS
  rw [Sg_congr fun t _ => (by
    unfold unX
    by_cases c : g i ∣ g t ∧ g j ∣ g t
    · rw [if_pos c, if_pos ⟨c.2, c.1⟩, Int.mul_comm (mu (g t / g i))]
    · rw [if_neg c, if_neg fun z => c ⟨z.2, z.1⟩] : unX g (wN n g) i j t = unX g (wN n g) j i t)]
def totU (n : Nat) (g : Nat → Nat) (a b k : Nat) : Int × Int := lwP (Sg k fun m => (Nat.gcd (g a) (g m) : Nat) * xS n g m b) (dN n g)
theorem tot_zero {n a b : Nat} {g : Nat → Nat} (L : LotF n g) : totU n g a b 0 = (0, 1) := lw_zero (dN_pos L).1
theorem xS_abs {n i j : Nat} {g : Nat → Nat} (L : LotF n g) : (xS n g i j).natAbs ≤ 2 ^ 244 := by
  have d := dN_bits L
  have s := Sg_abs2 (f := unX g (wN n g) i j) (c := (dN n g).natAbs) (n := n) fun k hk => unX_abs L hk
  have n2 := L.n2
  have s2 : n * (dN n g).natAbs ≤ 16 * 2 ^ 240 := Nat.mul_le_mul (by omega) d
  have z : 16 * 2 ^ 240 = 2 ^ 244 := by rw [show (16 : Nat) = 2 ^ 4 from rfl, ← Nat.pow_add]
  unfold xS
  omega
theorem gcd_b {n a m : Nat} {g : Nat → Nat} (L : LotF n g) (ha : a < n) : Nat.gcd (g a) (g m) ≤ 2 ^ 20 := by
  have := Nat.le_of_dvd (L.lo a ha) (Nat.gcd_dvd_left (g a) (g m))
  have := L.hi a ha
  omega
theorem tot_b {n a b k : Nat} {g : Nat → Nat} (L : LotF n g) (ha : a < n) (hk : k ≤ n) : 0 < (totU n g a b k).2 ∧ (totU n g a b k).1.natAbs < 2 ^ 400 ∧ (totU n g a b k).2.natAbs < 2 ^ 400 := by
  have s := Sg_abs2 (f := fun m => ((Nat.gcd (g a) (g m) : Nat) : Int) * xS n g m b) (c := 2 ^ 264) (n := k) fun m hm => by
    rw [Int.natAbs_mul, Int.natAbs_natCast, show 264 = 20 + 244 from rfl, Nat.pow_add]
    exact Nat.mul_le_mul (gcd_b L ha) (xS_abs L)
  have n2 := L.n2
  have s2 : k * 2 ^ 264 ≤ 2 ^ 4 * 2 ^ 264 := Nat.mul_le_mul_right _ (by omega)
  rw [← Nat.pow_add] at s2
  have z : 2 ^ (4 + 264) ≤ 2 ^ 300 := Nat.pow_le_pow_right (by decide) (by decide)
  exact lw_bits (k := 0) (dN_pos L).1 (dN_bits L) (by omega)
theorem tot_step {n a b k : Nat} {g : Nat → Nat} (L : LotF n g) (hk : k < n) : lwP ((totU n g a b k).1 * (accU g k b n).2 + (Nat.gcd (g a) (g k) : Nat) * (accU g k b n).1 * (totU n g a b k).2) ((totU n g a b k).2 * (accU g k b n).2) = totU n g a b (k + 1) := by
  have D := (dN_pos L).1
  obtain ⟨v1, v2, v3, v4⟩ := lw_val (a := Sg k fun m => ((Nat.gcd (g a) (g m) : Nat) : Int) * xS n g m b) D
  obtain ⟨u1, u2, u3, u4⟩ := lw_val (a := xS n g k b) D
  rw [← acc_xS L] at u1 u2
  show _ = lwP (Sg k _ + ((Nat.gcd (g a) (g k) : Nat) : Int) * xS n g k b) (dN n g)
  exact lw_add D (by unfold totU; omega) (by omega) v1 (by rw [Int.mul_assoc, u1, Int.mul_assoc])
theorem tot_end {n a b : Nat} {g : Nat → Nat} (L : LotF n g) (C : ClosedF n g) (ha : a < n) (hb : b < n) : totU n g a b n = (if a = b then 1 else 0, 1) := by
  have D := (dN_pos L).1
  have e := undone (n := n) (K := 1000000) (a := a) (b := b) (g := g) (w := wN n g) (D := dN n g) ⟨L.up, L.lo, C⟩ L.hi (fun t ht => wN_mul L ht) ha hb
  unfold totU xS
  rw [e]
  split
  · exact lw_one D
  · exact lw_zero D

end
end M
namespace M
open PySem PySem.Spec PyProof.Rows L2 G LamX RZ
section
variable {P : Program} {w : World} {K : PySem.W.Frag} {mg : Str → Option Value} {base : Heap}
/-! the law of tables undone -/
theorem ne_same {Q : Bool → Hp → Prop} {x y : V} {H : Hp} (h : x = y) (q : Q false H) : Q (!decide (x = y)) H := by
  rw [decide_eq_true h]
  exact q
theorem und_ref {N : Addr → Prop} {c : Bool} {n : Nat} {g : Nat → Nat} {H : Hp} {v : V} (r : TV N c (undD n g) H v) : ∃ a, v = .ref a := by
  rcases r with ⟨_, r⟩ | ⟨_, l, e, _⟩
  · obtain ⟨p, e, _⟩ := Rp.isRef r
    exact ⟨p, e⟩
  · exact ⟨l, e⟩
def toldD (n : Nat) (g : Nat → Nat) : PyData := if clB n g = true then undD n g else wordD
theorem good_toldD {n : Nat} {g : Nat → Nat} (L : LotF n g) : Good (toldD n g) := by
  unfold toldD
  split
  · exact good_und L
  · exact good_word
theorem eqv_told {n : Nat} {g : Nat → Nat} (L : LotF n g) : PyData.eqv (toldD n g) wordD = !clB n g := by
  unfold toldD
  cases h : clB n g with
  | false => exact good_word.refl
  | true =>
    have n1 := L.n1
    obtain ⟨m, rfl⟩ : ∃ m, n = m + 1 := ⟨n - 1, by omega⟩
    rw [if_pos rfl]
    unfold undD wordD
    rw [List.range_succ_eq_map, List.map_cons]
    simp [PyData.eqv, PyData.eqvAll]
def sp__law_right (K : PySem.W.Frag) (PP : Addr) : Sp := spec1 fun x H Q _ => ∃ a, x = .ref a ∧ PotAt H a ∧ Tabs (TB83 PP) H ∧ ∀ H', GrowT a H H' → Tabs (TB83 PP) H' → Q (.bl true) H'
theorem ok__law_right {af : Addr} {fd : FuncData} (F : FunD K "_law_right" "_law_right" (defArgs s__law_right) (defBody s__law_right) (defScope s__law_right) [] [] af fd) (B : Bt mg) (C__law_lot : Cl False P w K mg base 3 "_law_lot" 2 [] (sp__law_lot K)) (C_is_closed : Cl False P w K mg base 5 "is_closed" 1 [] (sp_is_closed K)) (C__law_pick : Cl False P w K mg base 2 "_law_pick" 2 [] (sp__law_pick K)) (C_share_table : Cl False P w K mg base 5 "share_table" 1 [] (sp_share_table K)) (C_undone_table : ClX P w K mg base 5 "undone_table" 1 [] (sp_undone_table K)) (C__law_is_closed : Cl False P w K mg base 2 "_law_is_closed" 1 [] (sp__law_is_closed K)) (C_undone_table_numbers : ClkX P w K mg base 5 "undone_table" ["numbers"] (fun zs => [zs.getD 0 .non]) (sp_undone_table K)) (C__law_plus : Cl False P w K mg base 2 "_law_plus" 2 [] (sp__law_plus K)) (C__law_free : Cl False P w K mg base 2 "_law_free" 1 [] (sp__law_free K)) (C__law_sign : Cl False P w K mg base 2 "_law_sign" 1 [] (sp__law_sign K)) {ah : Addr} {fdh : FuncData} (Fh : FunD K "_law_heard" "_law_heard" (defArgs s__law_heard) (defBody s__law_heard) (defScope s__law_heard) [] [] ah fdh) (mh : mg "_law_heard" = some (.ref ah)) (bh : L2.Binds K fdh ["call"] []) {cc PP : Addr} (TB : TabB base mg cc PP) (hcd : fd.code = .ref cc) (oE : OwnE K (He.ga K "NotMade")) (gE : mg "NotMade" = some (.ref (He.ga K "NotMade"))) (iE : IsE K (He.ga K "NotMade") (He.ga K "StateError") true) (gS : mg "StateError" = some (.ref (He.ga K "StateError"))) : FnG True P w K mg base CX0 8 af fd ["pot"] (sp__law_right K PP) := by
  refine okGT F sc__law_right hcd ar1 fun A outer s H vs Q E hg hr h => ?_
  have hGh : ∀ cdv, GivesTo (cxOf CX0 P w K mg base ["pot", "turn", "numbers", "told", "due", "near", "row", "far", "total", "number", "sign", "free", "shares", "at", "to", "by", "one"] "_law_right" (defScope s__law_right) af (.ref cc) A outer s H E).nox ["call", "told", "e"] "_law_heard" (defScope s__law_heard) ah cdv (defBody s__law_heard) "call" (lamQ "_law_right") (THeard (He.ga K "NotMade") true ("not made" : Str)) := fun _ => heard_gives oE gE iE gS B
  refine ⟨_, PSs.nox (pss_cons (ps_for PassesOwn.never rfl (pi_range1 rfl B.range (pa_cons pe_int pa_nil)) (pg_name (i := 1) sc__law_right.nd rfl (.inl rfl))
      (pss_cons (ps_set (i := 2) sc__law_right.nd rfl (.inr rfl) (pe_cl C__law_lot (fun h => h.elim) hr (by decide) rfl (pa_cons (pv 0) (pa_cons (pe_cl C__law_pick (fun h => h.elim) hr (by decide) rfl (pa_cons (pv 0) (pa_cons (pe_lst (pa_cons pe_int (pa_cons pe_int pa_nil))) pa_nil))) pa_nil))))
      (pss_cons (ps_set (i := 3) sc__law_right.nd rfl (.inl rfl) (pe_lst (pa_cons (pe_lamF (k := 5) Fh mh bh sc__law_heard hGh TB rfl hr rfl (lamS_by (sc := defScope s__law_right) (by decide +kernel)) rfl (fun _ _ _ _ _ _ _ hr hpx => (pe_clX C_undone_table hpx hr (by decide) rfl (pa_cons (pv 2) pa_nil))) (fun _ _ _ _ _ => rfl) rfl (.inl rfl)) pa_nil)))
      (pss_cons (ps_expr (pe_bm PySem.F.plainAttrs_list PySem.F.slot_list_append PySem.F.type_list_append mt_append (pv 3) (pa_cons (pe_lamF (k := 5) Fh mh bh sc__law_heard hGh TB rfl hr rfl (lamS_by (sc := defScope s__law_right) (by decide +kernel)) rfl (fun _ _ _ _ _ _ _ hr hpx => (pe_clkX C_undone_table_numbers hpx hr (by decide) rfl (pk_cons (pe_callTy (kCall rTupOf (K := K) rfl call_tuple_of) (by rfl) B.tuple (by decide +kernel) (pa_cons (pv 2) pa_nil)) pk_nil) kw_len1)) (fun _ _ _ _ _ => rfl) rfl (.inl rfl)) pa_nil)))
      (pss_cons (ps_if (PW.pt (pw_or (pt_cmpR op_ne (pe_callB (call_repr_data (hg trivial) hr.units) (by rfl) B.repr (by decide +kernel) (pa_cons (pe_ix ix_list (pv 3) pe_int (fun _ _ => rfl)) pa_nil)) (pe_callB (call_repr_data (hg trivial) hr.units) (by rfl) B.repr (by decide +kernel) (pa_cons (pe_ix ix_list (pv 3) pe_int (fun _ _ => rfl)) pa_nil)) (nomark _)) (pw_or (pt_cmpR op_eq (pe_cmpR (op_eqD hr.units) (pe_ix ix_list (pv 3) pe_int (fun _ _ => rfl)) (pe_lst (pa_cons pe_str (pa_cons pe_bl pa_nil))) (nomark _)) (pe_cl C_is_closed (fun h => h.elim) hr (by decide) rfl (pa_cons (pv 2) pa_nil)) (nomark _)) (pw_or1 (pt_cmpR op_ne (pe_cl C_is_closed (fun h => h.elim) hr (by decide) rfl (pa_cons (pv 2) pa_nil)) (pe_cl C__law_is_closed (fun h => h.elim) hr (by decide) rfl (pa_cons (pv 2) pa_nil)) (nomark _))))))
        (pss_one (ps_ret pe_bl))
        pss_nil)
      (pss_one (ps_if (pt_val (pe_cl C_is_closed (fun h => h.elim) hr (by decide) rfl (pa_cons (pv 2) pa_nil)))
        (pss_cons (ps_set (i := 4) sc__law_right.nd rfl (.inl rfl) (pe_lst pa_nil))
        (pss_cons (ps_for PassesOwn.never rfl ((pi_list (pv 2))) (pg_name (i := 5) sc__law_right.nd rfl (.inr rfl))
          (pss_cons (ps_set (i := 6) sc__law_right.nd rfl (.inl rfl) (pe_lst pa_nil))
          (pss_cons (ps_for PassesOwn.never rfl ((pi_list (pv 2))) (pg_name (i := 7) sc__law_right.nd rfl (.inr rfl))
            (pss_cons (ps_set (i := 8) sc__law_right.nd rfl (.inl rfl) (pe_tup (pa_cons pe_int (pa_cons pe_int pa_nil))))
            (pss_cons (ps_for PassesOwn.never rfl ((pi_list (pe_lc (own := [("one", 16)]) rfl sc__law_right.nd ((pi_list (pv 2))) (blkOk_by (own := [("one", 16)]) (N := ["pot", "turn", "numbers", "told", "due", "near", "row", "far", "total", "number", "sign", "free", "shares", "at", "to", "by", "one"]) (sc := defScope s__law_right) (by decide +kernel)) (fun _ _ _ _ _ => pg_name (i := 16) sc__law_right.nd rfl (.inl rfl) (.inr rfl)) (fun _ _ _ _ _ => pts_one (PW.pt (pw_and (pt_cmpR op_eq (pe_callTy call_int1 (by rfl) B.int (by decide +kernel) (pa_cons (pe_op op_mod (pv 16) (pv 5)) pa_nil)) pe_int (nomark _)) (pw_and1 (pt_cmpR op_eq (pe_callTy call_int1 (by rfl) B.int (by decide +kernel) (pa_cons (pe_op op_mod (pv 16) (pv 7)) pa_nil)) pe_int (nomark _)))))) (fun _ _ _ _ _ => (pv 16))))) (pg_name (i := 9) sc__law_right.nd rfl (.inl rfl))
              (pss_cons (ps_par (i := 10) (j := 11) (by rfl) sc__law_right.nd rfl rfl (by decide) rfl rfl (pa_cons (pe_op op_mulX (pe_cl C__law_sign (fun h => h.elim) hr (by decide) rfl (pa_cons (pe_op op_fdivW (pv 9) (pv 5)) pa_nil)) (pe_cl C__law_sign (fun h => h.elim) hr (by decide) rfl (pa_cons (pe_op op_fdivW (pv 9) (pv 7)) pa_nil))) (pa_cons (pe_cl C__law_free (fun h => h.elim) hr (by decide) rfl (pa_cons (pv 9) pa_nil)) pa_nil)) (by rfl))
              (pss_one (ps_set (i := 8) sc__law_right.nd rfl (.inl rfl) (pe_cl C__law_plus (fun h => h.elim) hr (by decide) rfl (pa_cons (pv 8) (pa_cons (pe_tup (pa_cons (pv 10) (pa_cons (pv 11) pa_nil))) pa_nil)))))))
            (pss_one (ps_expr (pe_bm PySem.F.plainAttrs_list PySem.F.slot_list_append PySem.F.type_list_append mt_append (pv 6) (pa_cons (pv 8) pa_nil)))))))
          (pss_one (ps_expr (pe_bm PySem.F.plainAttrs_list PySem.F.slot_list_append PySem.F.type_list_append mt_append (pv 4) (pa_cons (pv 6) pa_nil)))))))
        (pss_cons (ps_if (pt_cmpR op_ne (pe_callB (call_repr_data (hg trivial) hr.units) (by rfl) B.repr (by decide +kernel) (pa_cons (pe_ix ix_list (pv 3) pe_int (fun _ _ => rfl)) pa_nil)) (pe_callB (call_repr_data (hg trivial) hr.units) (by rfl) B.repr (by decide +kernel) (pa_cons (pv 4) pa_nil)) (nomark _))
          (pss_one (ps_ret pe_bl))
          pss_nil)
        (pss_cons (ps_set (i := 12) sc__law_right.nd rfl (.inl rfl) (pe_cl C_share_table (fun h => h.elim) hr (by decide) rfl (pa_cons (pv 2) pa_nil)))
        (pss_cons (ps_for PassesOwn.never rfl (pi_range1 rfl B.range (pa_cons (pe_callB call_len_seq (by rfl) B.len (by decide +kernel) (pa_cons (pv 2) pa_nil)) pa_nil)) (pg_name (i := 13) sc__law_right.nd rfl (.inl rfl))
          (pss_one (ps_for PassesOwn.never rfl (pi_range1 rfl B.range (pa_cons (pe_callB call_len_seq (by rfl) B.len (by decide +kernel) (pa_cons (pv 2) pa_nil)) pa_nil)) (pg_name (i := 14) sc__law_right.nd rfl (.inl rfl))
            (pss_cons (ps_set (i := 8) sc__law_right.nd rfl (.inl rfl) (pe_tup (pa_cons pe_int (pa_cons pe_int pa_nil))))
            (pss_cons (ps_for PassesOwn.never rfl (pi_range1 rfl B.range (pa_cons (pe_callB call_len_seq (by rfl) B.len (by decide +kernel) (pa_cons (pv 2) pa_nil)) pa_nil)) (pg_name (i := 15) sc__law_right.nd rfl (.inl rfl))
              (pss_one (ps_set (i := 8) sc__law_right.nd rfl (.inl rfl) (pe_cl C__law_plus (fun h => h.elim) hr (by decide) rfl (pa_cons (pv 8) (pa_cons (pe_tup (pa_cons (pe_op op_mulX (pe_ix ix_list (pe_ix ix_list (pv 12) (pv 13) (fun _ _ => rfl)) (pv 15) (fun _ _ => rfl)) (pe_ix ix_tup (pe_ix ix_list (pe_ix ix_list (pv 4) (pv 15) (fun _ _ => rfl)) (pv 14) (fun _ _ => rfl)) pe_int (fun _ _ => rfl))) (pa_cons (pe_ix ix_tup (pe_ix ix_list (pe_ix ix_list (pv 4) (pv 15) (fun _ _ => rfl)) (pv 14) (fun _ _ => rfl)) pe_int (fun _ _ => rfl)) pa_nil))) pa_nil))))))
            (pss_one (ps_if (PW.pt (pw_or (pt_cmpR (op_neD hr.units) (pv 8) (pe_tup (pa_cons (pe_callTy call_int1 (by rfl) B.int (by decide +kernel) (pa_cons (pe_cmpR op_eq (pv 13) (pv 14) (nomark _)) pa_nil)) (pa_cons pe_int pa_nil))) (nomark _)) (pw_or1 (pt_cmpR (op_neD hr.units) (pe_ix ix_list (pe_ix ix_list (pv 4) (pv 13) (fun _ _ => rfl)) (pv 14) (fun _ _ => rfl)) (pe_ix ix_list (pe_ix ix_list (pv 4) (pv 14) (fun _ _ => rfl)) (pv 13) (fun _ _ => rfl)) (nomark _)))))
              (pss_one (ps_ret pe_bl))
              pss_nil)))))))
        (pss_cons (ps_expr (pe_bm PySem.F.plainAttrs_list PySem.F.slot_list_append PySem.F.type_list_append mt_append (pe_ix ix_list (pe_clX C_undone_table never_passes hr (by decide) rfl (pa_cons (pv 2) pa_nil)) pe_int (fun _ _ => rfl)) (pa_cons pe_non pa_nil)))
        (pss_one (ps_if (pt_cmpR (op_neD hr.units) (pe_clX C_undone_table never_passes hr (by decide) rfl (pa_cons (pv 2) pa_nil)) (pv 4) (nomark _))
          (pss_one (ps_ret pe_bl))
          pss_nil))))))))
        pss_nil)))))))
    (pss_one (ps_ret (pe_and (pe_cmpR (op_eqD hr.units) (pe_clX C_undone_table never_passes hr (by decide) rfl (pa_cons (pe_lst (pa_cons pe_int pa_nil)) pa_nil)) (pe_lst (pa_cons (pe_lst (pa_cons (pe_tup (pa_cons pe_int (pa_cons pe_int pa_nil))) pa_nil)) pa_nil)) (nomark _)) (pe_one (pe_cmpR (op_eqD hr.units) (pe_clX C_undone_table never_passes hr (by decide) rfl (pa_cons (pe_lst (pa_cons pe_int (pa_cons pe_int pa_nil))) pa_nil)) (pe_lst (pa_cons (pe_lst (pa_cons (pe_tup (pa_cons pe_int (pa_cons pe_int pa_nil))) (pa_cons (pe_tup (pa_cons (pe_un un_neg pe_int) (pa_cons pe_int pa_nil))) pa_nil))) (pa_cons (pe_lst (pa_cons (pe_tup (pa_cons (pe_un un_neg pe_int) (pa_cons pe_int pa_nil))) (pa_cons (pe_tup (pa_cons pe_int (pa_cons pe_int pa_nil))) pa_nil))) pa_nil))) (nomark _))))))), ?_⟩
  obtain ⟨_, rfl, a, rfl, hp, t00, q⟩ := h
  refine ⟨_, rfl, by decide, by decide, for_range (lo := 0) (fun i σ H' => ∃ y1 y2 y3 y4 y5 y6 y7 y8 y9 y10 y11 y12 y13 y14 y15 : Option V, σ = [some (.ref a), y1, y2, y3, y4, y5, y6, y7, y8, y9, y10, y11, y12, y13, y14, y15, none] ∧ PotAt H' a ∧ GrowT a H H' ∧ Tabs (TB83 PP) H')
    ⟨none, none, none, none, none, none, none, none, none, none, none, none, none, none, none, rfl, hp, GrowT.refl a H, t00⟩ ?_ ?_⟩
  · rintro i σ H0 hi ⟨y1, y2, y3, y4, y5, y6, y7, y8, y9, y10, y11, y12, y13, y14, y15, rfl, p0, g0, t0⟩
    refine ⟨_, rfl, _, rfl, sz2, fun pl hpl => ⟨_, _, rfl, a, pl, _, rfl, rfl, p0.new hpl, p0.ne hpl, SqL.of upd_same, by decide, by decide, fun v H1 hv g1 p1 => ?_⟩⟩
    obtain ⟨mm, rfl, mm1, mm2⟩ : ∃ mm : Nat, v = .int mm ∧ 1 ≤ mm ∧ mm ≤ 1000 := by
      rcases List.mem_cons.mp hv with z | z
      · exact ⟨12, z, by decide, by decide⟩
      · exact ⟨60, List.mem_singleton.mp z, by decide, by decide⟩
    refine ⟨_, _, rfl, a, mm, rfl, rfl, p1, mm1, by omega, fun Nu ks H2 lt k12 g2 p2 nua e2 => ?_⟩
    obtain ⟨ek, L, g9⟩ := lot_ofX (M := 1000) lt.d.ne k12 (by decide) lt.lt fun x hx => by
      obtain ⟨k, e, k1, k2⟩ := lt.d.ok x hx
      exact ⟨k, e, k1, by omega⟩
    generalize hn : ks.length = n at ek L g9
    generalize gOf ks = g at ek L g9
    rw [ek, gI_V] at e2
    have b : B83 PP H a Nu n g H2 := ⟨p2, ((g0.new hpl).trans (GrowT.of g1)).trans (GrowT.of g2), nua, e2, tabs_pot (tabs_pot (t0.ext ((Same.refl H0).new hpl)) (p0.new hpl) g1) p1 g2⟩
    clear p0 g0 hpl g1 p1 hv g2 p2 e2 nua lt k12 ek hn t0
    have n1 := L.n1
    have n2 := L.n2
    have cl := clB_iff L
    -- told
    refine ⟨b.tb, fun H3 e3 t3 => ?_⟩
    have b3 := b.ext e3 t3
    refine ⟨_, rfl, told_of (b := false) (k := clB n g) (SqL.of b3.nu) L cl fun v1 H4 s4 r1 => ⟨sz1, fun tl htl => ?_⟩⟩
    have b4 := b3.same s4
    have new4 := (Same.refl H4).new (o := .lst [v1]) htl
    have r1' : TV (fun x => x ≠ tl) (clB n g) (undD n g) (upd H4 tl (.lst [v1])) v1 := r1.re fun x o _ hx _ => ⟨ne_of_none hx htl, (upd_ne (ne_of_none hx htl)).trans hx⟩
    clear b e3 t3 b3 s4 r1
    refine ⟨_, rfl, .inl ⟨rfl, _, SqL.of upd_same⟩, (b4.same new4).tb, fun H5 e5 t5 => ?_⟩
    have b5 := (b4.same new4).ext e5 t5
    have r5 : TV (fun x => x ≠ tl) (clB n g) (undD n g) H5 v1 := r1'.re fun x o nx hx nt => ⟨nx, e5 _ _ hx nt⟩
    have eT5 : H5 tl = some (.lst [v1]) := extN_lst e5 upd_same
    refine ⟨_, rfl, Nu, _, rfl, .inl ⟨SqL.of b5.nu, fun l1 hl1 => ?_⟩⟩
    have n6 := (Same.refl H5).new (o := .tup (gV n g)) hl1
    refine told_of (b := true) (k := clB n g) (p := l1) (n := n) (g := g) (SqT.of upd_same) L cl fun v2 H6 s6 r2 => ?_
    have s56 := n6.trans s6
    have b6 := b5.same s56
    have eT6 := s56 _ _ eT5
    refine ⟨tl, _, _, rfl, rfl, eT6, small_lt (by show 1 < _; decide), ?_⟩
    have b7 := b4.put (o := .lst ([v1] ++ [v2])) htl b6 eT6
    have rA : TV (fun x => x ≠ tl) (clB n g) (undD n g) (upd H6 tl (.lst ([v1] ++ [v2]))) v1 := r5.re fun x o nx hx nt => ⟨nx, (upd_ne nx).trans (s56 _ _ hx)⟩
    have rB : TV (fun x => x ≠ tl) (clB n g) (undD n g) (upd H6 tl (.lst ([v1] ++ [v2]))) v2 := r2.re fun x o nx hx nt => by
      have nx' : x ≠ tl := fun z => by
        have y := n6 _ _ eT5
        rw [← z] at y
        rw [show _ = none from nx] at y
        cases y
      exact ⟨nx', (upd_ne nx').trans hx⟩
    have eT7 : (upd H6 tl (.lst ([v1] ++ [v2]))) tl = _ := upd_same
    generalize upd H6 tl (.lst ([v1] ++ [v2])) = H7 at b7 rA rB eT7 ⊢
    clear b4 new4 r1' e5 t5 b5 r5 eT5 n6 s6 r2 s56 b6 eT6 htl hl1
    obtain ⟨a1, rfl⟩ := und_ref rA
    obtain ⟨a2, rfl⟩ := und_ref rB
    have gd := good_toldD L
    dsimp only [tNext, tSeq, gName]
    refine if_skip (Same H7) (fun Q' hq => ?_) (fun H8 s8 => ?_)
    · refine ⟨_, rfl, tl, _, _, _, rfl, rfl, SqL.of eT7, atC, a1, toldD n g, rfl, rA.dp, gd.showable, gd.noDict, gd.deep, gd.fits, ?_⟩
      refine ⟨_, rfl, tl, _, _, _, rfl, rfl, SqL.of eT7, (show atI [V.ref a1, V.ref a2] 1 = some (V.ref a2) from rfl), a2, toldD n g, rfl, rB.dp, gd.showable, gd.noDict, gd.deep, gd.fits, ?_⟩
      refine ⟨rfl, _, bl_nf rfl, iteF ?_⟩
      refine ⟨_, rfl, tl, _, _, _, rfl, rfl, SqL.of eT7, atC, sz2, fun w hw => ?_⟩
      have nw := (Same.refl H7).new (o := .lst [.str ("not made" : Str), .bl true]) hw
      refine ⟨toldD n g, wordD, (rA.re (N' := fun _ => True) (fun x o _ hx _ => ⟨True.intro, nw _ _ hx⟩)).dp, .lst (SqL.of upd_same) (.cons (.str _) (.cons (.bl _) .nil)), gd.shaped, good_word.shaped, ?_⟩
      rw [eqv_told L]
      have b8 := b7.same nw
      refine ⟨_, rfl, _, rfl, Nu, n, g, rfl, SqL.of b8.nu, L, fun k H9 hk s9 => ⟨rfl, _, bl_f ?_, iteF ?_⟩⟩
      · rw [Bool.eq_iff_iff.mpr (hk.trans cl.symm)]
        cases clB n g <;> simp
      have b9 := b8.same s9
      refine ⟨_, rfl, _, rfl, Nu, n, g, rfl, SqL.of b9.nu, L, fun k2 H10 hk2 s10 => ⟨_, rfl, _, rfl, Nu, n, g, rfl, SqL.of (b9.same s10).nu, L, fun H11 s11 => ⟨rfl, _, rfl, ne_same (congrArg V.bl (Bool.eq_iff_iff.mpr (hk2.trans cl.symm))) (hq _ (((nw.trans s9).trans s10).trans s11))⟩⟩⟩
    have b8 := b7.same s8
    have r8 : TV (fun x => x ≠ tl) (clB n g) (undD n g) H8 (.ref a1) := rA.re fun x o nx hx _ => ⟨nx, s8 _ _ hx⟩
    have eT8 := s8 _ _ eT7
    clear b7 rA rB eT7 s8 gd
    refine ⟨_, rfl, _, rfl, Nu, n, g, rfl, SqL.of b8.nu, L, fun k H9 hk s9 => ⟨k, rfl, ?_⟩⟩
    have b9 := b8.same s9
    have r9 : TV (fun x => x ≠ tl) (clB n g) (undD n g) H9 (.ref a1) := r8.re fun x o nx hx _ => ⟨nx, s9 _ _ hx⟩
    have eT9 := s9 _ _ eT8
    clear b8 r8 eT8 s9
    cases k with
    | false => exact iteF ⟨_, _, _, _, _, _, _, _, _, _, _, _, _, _, _, rfl, b9.pot, b9.gr, b9.tb⟩
    | true =>
    have C := hk.mp rfl
    refine iteT ?_
    have rT : Rp (fun x => x ≠ tl) H9 (.ref a1) (undD n g) := by
      rcases r9 with ⟨_, r⟩ | ⟨z, _⟩
      · exact r
      · rw [cl.mpr C] at z
        cases z
    clear r9 hk
    -- due
    refine ⟨sz0, fun l hl => ⟨_, rfl, Nu, rfl, ⟨_, SqL.of (b9.same ((Same.refl H9).new hl)).nu⟩, ?_⟩⟩
    have s0 : Same H9 (upd H9 l (.lst [])) := (Same.refl H9).new hl
    have hS : SqL K H9 Nu (gV n g) := SqL.of b9.nu
    refine for_list (K := K) (a := Nu) (xs := gV n g) (fun k σ H2 => ∃ (z5 z6 z7 z8 z9 z10 z11 : Option V) (vs : List V), σ = [some (.ref a), some (.int (0 + (i : Int))), some (.ref Nu), some (.ref tl), some (.ref l), z5, z6, z7, z8, z9, z10, z11, y12, y13, y14, y15, none] ∧ Same H9 H2 ∧ H2 l = some (.lst vs) ∧ RpA (New (upd H9 l (.lst []))) H2 vs ((List.range k).map fun i => .list ((List.range n).map fun j => .tuple [.int (accU g i j n).1, .int (accU g i j n).2])))
      ⟨y5, y6, y7, y8, y9, y10, y11, [], rfl, s0, upd_same, .nil⟩ (fun i σ H2 _ ⟨_, _, _, _, _, _, _, _, _, z, _⟩ => SqL.same z hS) ?_ ?_
    · rintro k x σ H2 hx ⟨z5, z6, z7, z8, z9, z10, z11, vs, rfl, s2, e2, r2⟩
      obtain ⟨hk, rfl⟩ := gV_get hx
      have k1 := L.lo k hk
      refine ⟨sz0, fun r hr => ⟨_, rfl, Nu, rfl, ⟨_, SqL.same (s2.new hr) hS⟩, ?_⟩⟩
      have s3 : Same H2 (upd H2 r (.lst [])) := (Same.refl H2).new hr
      refine for_list (K := K) (a := Nu) (xs := gV n g) (fun j σ H3 => ∃ (z7 z8 z9 z10 z11 : Option V) (ws : List V), σ = [some (.ref a), some (.int (0 + (i : Int))), some (.ref Nu), some (.ref tl), some (.ref l), some (.int (g k : Nat)), some (.ref r), z7, z8, z9, z10, z11, y12, y13, y14, y15, none] ∧ Same H2 H3 ∧ H3 r = some (.lst ws) ∧ RpA (New (upd H2 r (.lst []))) H3 ws ((List.range j).map fun j => .tuple [.int (accU g k j n).1, .int (accU g k j n).2]))
        ⟨z7, z8, z9, z10, z11, [], rfl, s3, upd_same, .nil⟩ (fun j σ H3 _ ⟨_, _, _, _, _, _, _, z, _⟩ => SqL.same (s2.trans z) hS) ?_ ?_
      · rintro j x σ H3 hx ⟨z7, z8, z9, z10, z11, ws, rfl, s4, e4, r4⟩
        obtain ⟨hj, rfl⟩ := gV_get hx
        have j1 := L.lo j hj
        refine ⟨sz2, fun t0 ht0 => ?_⟩
        have s5 : Same H3 (upd H3 t0 (.tup [.int 0, .int 1])) := (Same.refl H3).new ht0
        refine ⟨_, rfl, Nu, rfl, ⟨_, SqL.same (s2.trans (s4.trans s5)) hS⟩, fun D hD => lcF_list (K := K) (c := fun i : Nat => V.int (g i : Nat)) (src := List.range n) (fun t => decide (g k ∣ g t) && decide (g j ∣ g t)) (fun t => .int (g t : Nat)) hD (SqL.same (s2.trans (s4.trans s5)) hS) (by rw [List.length_range]; omega) ?_ ?_⟩
        · intro m t H4 R S ht s6 kT kF
          have ht : t < n := List.mem_range.mp (List.mem_of_getElem? ht)
          refine ⟨rfl, _, rfl, _, rfl, _, _, rfl, rfl, (by show (0 : Int) < _; omega), .inl ⟨_, rfl, rfl, _, rfl, ite2 (fun h1 => ?_) (fun h1 => ?_)⟩⟩
          · have h1 : g k ∣ g t := Nat.dvd_of_mod_eq_zero (int_mod.mp (V.int.inj (of_decide_eq_true h1)))
            refine ⟨_, rfl, _, rfl, _, _, rfl, rfl, (by show (0 : Int) < _; omega), .inl ⟨_, rfl, rfl, _, rfl, ?_⟩⟩
            by_cases h2 : g j ∣ g t
            · rw [decide_eq_true (congrArg V.int (int_mod.mpr (Nat.mod_eq_zero_of_dvd h2)))]
              exact iteT ⟨_, rfl, kT (by simp [h1, h2]) _ _ (Same.refl _) (.int _)⟩
            · rw [decide_eq_false fun z => h2 (Nat.dvd_of_mod_eq_zero (int_mod.mp (V.int.inj z)))]
              exact iteF (kF (by simp [h2]) _ (Same.refl _))
          · refine iteF (kF ?_ _ (Same.refl _))
            have : ¬ g k ∣ g t := fun z => h1 (decide_eq_true (congrArg V.int (int_mod.mpr (Nat.mod_eq_zero_of_dvd z))))
            simp [this]
        intro H4 s6 r6
        have e6 : H4 D = some (.lst ((mulL n g k j).map fun t : Nat => V.int (g t : Nat))) := by
          have r6' : Rp (New (upd H3 t0 (.tup [.int 0, .int 1]))) H4 (.ref D) (.list ((mulL n g k j).map fun t : Nat => PyData.int ((g t : Nat) : Int))) := r6
          rw [map_in (fun t : Nat => ((g t : Nat) : Int))] at r6'
          rw [r6'.ints, ← map_vi]
        have s46 : Same H3 H4 := s5.trans s6
        have e0 : H4 t0 = some (.tup [.int 0, .int 1]) := s6 _ _ upd_same
        have ml : ∀ t ∈ mulL n g k j, t < n ∧ g k ∣ g t ∧ g j ∣ g t := fun t ht => by
          unfold mulL at ht
          rw [List.mem_filter, List.mem_range, Bool.and_eq_true, decide_eq_true_iff, decide_eq_true_iff] at ht
          exact ⟨ht.1, ht.2⟩
        have mlen : (mulL n g k j).length ≤ 12 := Nat.le_trans (List.length_filter_le _ _) (by rw [List.length_range]; exact n2)
        refine ⟨D, rfl, ⟨_, SqL.of e6⟩, for_list (K := K) (a := D) (xs := (mulL n g k j).map fun t : Nat => V.int (g t : Nat)) (fun m σ H5 => ∃ (z9 z10 z11 : Option V) (tt : Addr), σ = [some (.ref a), some (.int (0 + (i : Int))), some (.ref Nu), some (.ref tl), some (.ref l), some (.int (g k : Nat)), some (.ref r), some (.int (g j : Nat)), some (.ref tt), z9, z10, z11, y12, y13, y14, y15, none] ∧ Same H4 H5 ∧ H3 tt = none ∧ H5 tt = some (.tup [.int (accF g k j ((mulL n g k j).take m)).1, .int (accF g k j ((mulL n g k j).take m)).2]))
          ⟨z9, z10, z11, t0, rfl, Same.refl _, ht0, e0⟩ (fun m σ H5 _ ⟨_, _, _, _, _, z, _⟩ => SqL.same z (SqL.of e6)) ?_ ?_⟩
        · rintro m x σ H5 hx ⟨z9, z10, z11, tt, rfl, s7, nt, et⟩
          rw [List.getElem?_map] at hx
          obtain ⟨t, ht, rfl⟩ := Option.map_eq_some_iff.mp hx
          obtain ⟨t1, t2, t3⟩ := ml t (List.mem_of_getElem? ht)
          have q1 := L.lo t t1
          have q2 := L.hi t t1
          have d1 := Nat.div_pos (Nat.le_of_dvd q1 t2) k1
          have d2 := Nat.div_pos (Nat.le_of_dvd q1 t3) j1
          have l1 := Nat.div_le_self (g t) (g k)
          have l2 := Nat.div_le_self (g t) (g j)
          have k2 := L.hi k hk
          have j2 := L.hi j hj
          have m1 := mu_abs (g t / g k)
          have m2 := mu_abs (g t / g j)
          have m3 : (mu (g t / g k) * mu (g t / g j)).natAbs ≤ 1 := by
            rw [Int.natAbs_mul]
            exact Nat.mul_le_mul m1 m2
          have pb := ph_bound L t t1
          have p1 := ph_pos (L.lo t t1)
          obtain ⟨c1, c2, c3⟩ := accF_b L (i := k) (j := j) (l := (mulL n g k j).take m) (fun x hx => ml x (List.mem_of_mem_take hx)) (by rw [List.length_take]; omega)
          have z4 : 2 ^ 64 ≤ 2 ^ 400 := Nat.pow_le_pow_right (by decide) (by decide)
          refine ⟨_, rfl, _, rfl, _, _, rfl, rfl, divw (by omega) (by omega), _, rfl, g t / g k, rfl, d1, by omega, fun H6 s8 => ⟨_, rfl, _, rfl, _, _, rfl, rfl, divw (by omega) (by omega), _, rfl, g t / g j, rfl, d2, by omega, fun H7 s9 => ⟨_, _, rfl, rfl, mxs (by omega) (by omega), _, rfl, _, rfl, g t, rfl, q1, q2, fun H8 s10 => ⟨_, _, rfl, ?_⟩⟩⟩⟩
          refine ⟨_, rfl, _, rfl, _, rfl, sz2, fun u hu => ⟨_, _, rfl, tt, u, _, _, _, _, rfl, rfl, SqT.of (((Same.refl H8).new hu) _ _ (s10 _ _ (s9 _ _ (s8 _ _ et)))), SqT.of upd_same, c1, by omega, c2, c3, by omega, by omega, fun t' H9' s11 ht' et' => ?_⟩⟩
          have sa : Same H5 H9' := ((s8.trans s9).trans s10).trans (((Same.refl H8).new hu).trans s11)
          refine ⟨_, _, _, t', rfl, s7.trans sa, s46.free (s7.free (((s8.trans s9).trans s10).free (((Same.refl H8).new hu).free ht'))), ?_⟩
          rw [et', List.take_add_one, ht]
          unfold accF
          rw [List.foldl_append]
          rfl
        · rintro σ H5 ⟨z9, z10, z11, tt, rfl, s7, nt, et⟩
          rw [List.length_map, List.take_length, accF_U] at et
          have s47 := s46.trans s7
          have e7 := s47 _ _ e4
          have lw : ws.length = j := by rw [r4.length, List.length_map, List.length_range]
          refine ⟨_, rfl, .inl ⟨rfl, _, SqL.of e7⟩, _, rfl, r, _, _, rfl, rfl, e7, small_lt (by omega), _, _, _, _, _, ws ++ [.ref tt], rfl, (s4.trans s47).mut hr, upd_same, ?_⟩
          rw [List.range_succ, List.map_append]
          have keep : ∀ b o, New (upd H2 r (.lst [])) b → H5 b = some o → upd H5 r (.lst (ws ++ [.ref tt])) b = some o := fun b o hb e => (upd_ne (ne_of_none upd_same hb).symm).trans e
          have nt' : New (upd H2 r (.lst [])) tt := (upd_ne (ne_of_none e4 nt).symm).trans (s4.free nt)
          exact RpA.snoc ((r4.same s47).mono (fun _ z => z) keep) (.tup nt' (keep _ _ nt' et) (.cons (.int _) (.cons (.int _) .nil)))
      · rintro σ H3 ⟨z7, z8, z9, z10, z11, ws, rfl, s4, e4, r4⟩
        rw [gV_len] at r4
        have e5 := s4 _ _ e2
        have lv : vs.length = k := by rw [r2.length, List.length_map, List.length_range]
        refine ⟨_, rfl, .inl ⟨rfl, _, SqL.of e5⟩, _, rfl, l, _, _, rfl, rfl, e5, small_lt (by omega), _, _, _, _, _, _, _, vs ++ [.ref r], rfl, (s2.trans s4).mut hl, upd_same, ?_⟩
        rw [List.range_succ, List.map_append]
        have keep : ∀ b o, New (upd H9 l (.lst [])) b → H3 b = some o → upd H3 l (.lst (vs ++ [.ref r])) b = some o := fun b o hb e => (upd_ne (ne_of_none upd_same hb).symm).trans e
        have nw : ∀ b, New H2 b → New (upd H9 l (.lst [])) b := fun b z => (upd_ne (ne_of_none e2 z).symm).trans (s2.free z)
        refine RpA.snoc ((r2.same s4).mono (fun _ z => z) keep) ?_
        exact Rp.mono nw (fun b o hb e => keep b o (nw b hb) e) _ _ (.lst hr e4 (r4.lift s3))
    rintro σ H2 ⟨z5, z6, z7, z8, z9, z10, z11, vs, rfl, s2, e2, r2⟩
    rw [gV_len] at r2
    have rD : Rp (New H9) H2 (.ref l) (undD n g) := .lst hl e2 (r2.lift s0)
    have b2 := b9.same s2
    have rT2 := rT.same s2
    have eT2 := s2 _ _ eT9
    have gu := good_und L
    clear b9 rT eT9 s0 hS r2 e2
    dsimp only [tNext, tSeq, gName]
    refine if_skip (Same H2) (fun Q' hq => ?_) (fun H3 s3 => ?_)
    · refine ⟨_, rfl, tl, _, _, _, rfl, rfl, SqL.of eT2, atC, a1, undD n g, rfl, rT2.dp, gu.showable, gu.noDict, gu.deep, gu.fits, ?_⟩
      refine ⟨_, rfl, l, undD n g, rfl, rD.dp, gu.showable, gu.noDict, gu.deep, gu.fits, ?_⟩
      exact ⟨rfl, _, rfl, ne_same rfl (hq _ (Same.refl _))⟩
    have b3 := b2.same s3
    have rD3 := rD.same s3
    clear b2 rT2 eT2 rD s2 s3
    -- shares
    refine ⟨_, rfl, _, rfl, Nu, n, g, rfl, SqL.of b3.nu, L, fun T H4 s4 r4 => ?_⟩
    obtain ⟨ad, hT⟩ := TabM.of_rp (K := K) r4
    have b4 := b3.same s4
    have rD4 := rD3.same s4
    clear b3 rD3 s4 r4
    refine ⟨_, rfl, Nu, _, rfl, .inl (SqL.of b4.nu), ?_⟩
    rw [gV_len]
    refine ⟨_, rfl, by omega, by omega, for_range (lo := 0) (fun k σ H5 => ∃ (w8 w13 w14 w15 : Option V), σ = [some (.ref a), some (.int (0 + (i : Int))), some (.ref Nu), some (.ref tl), some (.ref l), z5, z6, z7, w8, z9, z10, z11, some (.ref T), w13, w14, w15, none] ∧ Same H4 H5) ⟨z8, y13, y14, y15, rfl, Same.refl _⟩ ?_ ?_⟩
    · rintro k σ H5 hk ⟨w8, w13, w14, w15, rfl, s5⟩
      have hk : k < n := by omega
      refine ⟨_, rfl, Nu, _, rfl, .inl (SqL.of (b4.same s5).nu), ?_⟩
      rw [gV_len]
      refine ⟨_, rfl, by omega, by omega, for_range (lo := 0) (fun j σ H6 => ∃ (w8 w14 w15 : Option V), σ = [some (.ref a), some (.int (0 + (i : Int))), some (.ref Nu), some (.ref tl), some (.ref l), z5, z6, z7, w8, z9, z10, z11, some (.ref T), some (.int (0 + (k : Int))), w14, w15, none] ∧ Same H4 H6) ⟨w8, w14, w15, rfl, s5⟩ ?_ ?_⟩
      · rintro j σ H6 hj ⟨w8, w14, w15, rfl, s6⟩
        have hj : j < n := by omega
        refine ⟨sz2, fun t0 ht0 => ?_⟩
        have n6 := (Same.refl H6).new (o := .tup [.int 0, .int 1]) ht0
        have s60 := s6.trans n6
        refine ⟨_, rfl, Nu, _, rfl, .inl (SqL.of (b4.same s60).nu), ?_⟩
        rw [gV_len]
        refine ⟨_, rfl, by omega, by omega, for_range (lo := 0) (fun m σ H7 => ∃ (w15 : Option V) (tt : Addr), σ = [some (.ref a), some (.int (0 + (i : Int))), some (.ref Nu), some (.ref tl), some (.ref l), z5, z6, z7, some (.ref tt), z9, z10, z11, some (.ref T), some (.int (0 + (k : Int))), some (.int (0 + (j : Int))), w15, none] ∧ Same H4 H7 ∧ H7 tt = some (.tup [.int (totU n g k j m).1, .int (totU n g k j m).2])) ⟨w15, t0, rfl, s60, by rw [tot_zero L]; exact upd_same⟩ ?_ ?_⟩
        · rintro m σ H7 hm ⟨w15, tt, rfl, s7, et⟩
          have hm : m < n := by omega
          obtain ⟨vs', ra, ws', ta, f1, f2, f3, f4, f5⟩ := due_at (rD4.same s7) hm hj
          have hT7 := hT.same s7
          simp only [Int.zero_add]
          obtain ⟨c1, c2, c3⟩ := tot_b (a := k) (b := j) (k := m) L hk (Nat.le_of_lt hm)
          obtain ⟨u1, u2, u3⟩ := acc_b L (i := m) (j := j) (Nat.le_refl n)
          have gb := gcd_b (m := m) L hk
          have z4 : 2 ^ 256 ≤ 2 ^ 400 := Nat.pow_le_pow_right (by decide) (by decide)
          have cb : (gcdM g k m * (accU g m j n).1).natAbs < 2 ^ 400 := by
            unfold gcdM
            rw [Int.natAbs_mul, Int.natAbs_natCast]
            refine Nat.lt_of_le_of_lt (Nat.mul_le_mul gb (Nat.le_of_lt u3)) ?_
            rw [← Nat.pow_add]
            exact Nat.pow_lt_pow_right (by decide) (by decide)
          refine ⟨_, rfl, _, rfl, _, rfl, T, _, _, _, rfl, rfl, hT7.top, map_range_at (f := fun i => V.ref (ad i)) hk, _, rfl, ad k, _, _, _, rfl, rfl, hT7.row k hk, map_range_at (f := fun j => V.int (gcdM g k j)) hm, _, rfl, _, rfl, l, _, _, _, rfl, rfl, SqL.of f1, atI_nat f2, _, rfl, ra, _, _, _, rfl, rfl, SqL.of f3, atI_nat f4, ta, _, _, _, rfl, rfl, SqT.of f5, atC, _, _, rfl, rfl, mx (lt4000 (b := 64) (by unfold gcdM; rw [Int.natAbs_natCast]; omega)) (lt4000 u3), ?_⟩
          refine ⟨_, rfl, _, rfl, l, _, _, _, rfl, rfl, SqL.of f1, atI_nat f2, _, rfl, ra, _, _, _, rfl, rfl, SqL.of f3, atI_nat f4, ta, _, _, _, rfl, rfl, SqT.of f5, (show atI [V.int (accU g m j n).1, V.int (accU g m j n).2] 1 = some (.int (accU g m j n).2) from rfl), sz2, fun u hu => ⟨_, _, rfl, tt, u, _, _, _, _, rfl, rfl, SqT.of (((Same.refl H7).new hu) _ _ et), SqT.of upd_same, c1, by omega, c2, c3, cb, by omega, fun t' H8 s8 ht' et' => ?_⟩⟩
          refine ⟨_, t', rfl, s7.trans (((Same.refl H7).new hu).trans s8), ?_⟩
          rw [et']
          have e := tot_step (a := k) (b := j) L hm
          unfold gcdM
          rw [e]
        · rintro σ H7 ⟨w15, tt, rfl, s7, et⟩
          rw [show ((n : Nat) : Int).toNat = n by omega, tot_end L C hk hj] at et
          dsimp only [tNext, tSeq, gName]
          refine if_skip (Same H7) (fun Q' hq => ?_) (fun H8 s8 => ⟨_, _, _, rfl, s7.trans s8⟩)
          obtain ⟨vs1, ra1, ws1, ta1, f1, f2, f3, f4, f5⟩ := due_at (rD4.same s7) hk hj
          obtain ⟨vs2, ra2, ws2, ta2, h1, h2, h3, h4, h5⟩ := due_at (rD4.same s7) hj hk
          obtain ⟨sm1, sm2⟩ := acc_small L (i := k) (j := j)
          simp only [Int.zero_add]
          refine ⟨_, rfl, _, rfl, _, rfl, rfl, .inr ⟨_, rfl, sz2, fun u hu => ?_⟩⟩
          have nu := (Same.refl H7).new (o := .tup [.int (if decide (V.int (k : Int) = V.int (j : Int)) = true then 1 else 0), .int 1]) hu
          have eu : (if decide (V.int (k : Int) = V.int (j : Int)) = true then (1 : Int) else 0) = if k = j then 1 else 0 := by
            by_cases c : k = j
            · rw [if_pos c, if_pos (decide_eq_true (by rw [c]))]
            · rw [if_neg c, if_neg fun z => c (by have := V.int.inj (of_decide_eq_true z); omega)]
          refine (good_pair (x := if k = j then 1 else 0) (y := 1) (by split <;> decide) (by decide)).neD (.tup (SqT.of (nu _ _ et)) (.cons (.int _) (.cons (.int _) .nil))) (.tup (SqT.of (by rw [upd_same, eu])) (.cons (.int _) (.cons (.int _) .nil))) ⟨_, rfl, iteF ?_⟩
          refine ⟨_, rfl, _, rfl, l, _, _, _, rfl, rfl, SqL.of (nu _ _ f1), atI_nat f2, _, rfl, ra1, _, _, _, rfl, rfl, SqL.of (nu _ _ f3), atI_nat f4, _, rfl, _, rfl, l, _, _, _, rfl, rfl, SqL.of (nu _ _ h1), atI_nat h2, _, rfl, ra2, _, _, _, rfl, rfl, SqL.of (nu _ _ h3), atI_nat h4, ?_⟩
          rw [acc_turn L] at h5
          exact (good_pair sm1 sm2).neD (.tup (SqT.of (nu _ _ f5)) (.cons (.int _) (.cons (.int _) .nil))) (.tup (SqT.of (nu _ _ h5)) (.cons (.int _) (.cons (.int _) .nil))) ⟨_, rfl, hq _ nu⟩
      · rintro σ H6 ⟨w8, w14, w15, rfl, s6⟩
        exact ⟨_, _, _, _, rfl, s6⟩
    rintro σ H5 ⟨w8, w13, w14, w15, rfl, s5⟩
    have b5 := b4.same s5
    have rD5 := rD4.same s5
    clear b4 rD4 s5 hT
    -- a fresh answer
    refine ⟨_, rfl, _, rfl, false, Nu, n, g, rfl, SqL.of b5.nu, L, fun _ r H6 s6 r6 => ?_, fun no => absurd C no⟩
    obtain ⟨vs', ra, ws', e1, na, e3, wl⟩ := due_row r6 n1
    refine ⟨r, _, _, _, rfl, rfl, SqL.of e1, atC, .inl ⟨rfl, _, SqL.of e3⟩, ra, _, _, rfl, rfl, e3, small_lt (by omega), ?_⟩
    have s7 := s6.mut (o := .lst (ws' ++ [.non])) na
    have b7 := b5.same s7
    have rD7 := rD5.same s7
    exact ⟨_, rfl, _, rfl, false, Nu, n, g, rfl, SqL.of b7.nu, L, fun _ r8 H8 s8 rp8 => ⟨_, rfl, gu.neD rp8.dp (rD7.same s8).dp ⟨_, rfl, iteF ⟨_, _, _, _, _, _, _, _, _, _, _, _, _, _, _, rfl, (b7.same s8).pot, (b7.same s8).gr, (b7.same s8).tb⟩⟩⟩, fun no => absurd C no⟩
  · rintro σ H' ⟨y1, y2, y3, y4, y5, y6, y7, y8, y9, y10, y11, y12, y13, y14, y15, rfl, p0, g0, t0⟩
    refine ⟨sz1, fun p hp => ⟨_, rfl, false, p, 1, g1L, rfl, SqL.of upd_same, lot1, fun _ r H1 s1 r1 => ?_, fun no => absurd cl1 no⟩⟩
    refine ⟨sz2, fun t ht => ⟨sz1, fun l1 hl1 => ⟨sz1, fun l2 hl2 => ?_⟩⟩⟩
    have m1 := (Same.refl (upd H1 t (.tup [.int 1, .int 1]))).new (o := .lst [.ref t]) hl1
    have m2 := (Same.refl (upd (upd H1 t (.tup [.int 1, .int 1])) l1 (.lst [.ref t]))).new (o := .lst [.ref l1]) hl2
    have m0 := (Same.refl H1).new (o := .tup [.int 1, .int 1]) ht
    have sA := (m0.trans m1).trans m2
    have sH := ((Same.refl H').new (o := .lst [.int 1]) hp).trans (s1.trans sA)
    refine (good_und lot1).eqD (r1.same sA).dp (by rw [und1]; exact .lst (SqL.of upd_same) (.cons (.lst (SqL.of (m2 _ _ upd_same)) (.cons (.tup (SqT.of ((m1.trans m2) _ _ upd_same)) (.cons (.int _) (.cons (.int _) .nil))) .nil)) .nil)) ⟨true, rfl, iteT ?_⟩
    generalize upd (upd (upd H1 t (.tup [.int 1, .int 1])) l1 (.lst [.ref t])) l2 (.lst [.ref l1]) = H2 at sH ⊢
    clear m0 m1 m2 sA r1 s1 ht hl1 hl2 hp
    refine ⟨sz2, fun p2 hp2 => ⟨_, rfl, false, p2, 2, g13, rfl, SqL.of upd_same, lot13, fun _ r2 H3 s3 r3 => ?_, fun no => absurd cl13 no⟩⟩
    refine ⟨sz2, fun t1 h1 => ⟨_, rfl, sz2, fun t2 h2 => ⟨sz2, fun k1 j1 => ⟨_, rfl, sz2, fun t3 h3 => ⟨sz2, fun t4 h4 => ⟨sz2, fun k2 j2 => ⟨sz2, fun k3 j3 => ?_⟩⟩⟩⟩⟩⟩⟩
    have q1 := (Same.refl _).new (o := .tup [.int 3, .int 2]) h1
    have q2 := (Same.refl _).new (o := .tup [.int (-1), .int 2]) h2
    have q3 := (Same.refl _).new (o := .lst [.ref t1, .ref t2]) j1
    have q4 := (Same.refl _).new (o := .tup [.int (-1), .int 2]) h3
    have q5 := (Same.refl _).new (o := .tup [.int 1, .int 2]) h4
    have q6 := (Same.refl _).new (o := .lst [.ref t3, .ref t4]) j2
    have q7 := (Same.refl _).new (o := .lst [.ref k1, .ref k2]) j3
    have q67 := q6.trans q7
    have q57 := q5.trans q67
    have q47 := q4.trans q57
    have q37 := q3.trans q47
    have q27 := q2.trans q37
    have sB := q1.trans q27
    have S := sH.trans (((Same.refl H2).new (o := .lst [.int 1, .int 3]) hp2).trans (s3.trans sB))
    exact (good_und lot13).eqD (r3.same sB).dp (by rw [und13]; exact .lst (SqL.of upd_same) (.cons (.lst (SqL.of (q47 _ _ upd_same)) (.cons (.tup (SqT.of (q27 _ _ upd_same)) (.cons (.int _) (.cons (.int _) .nil))) (.cons (.tup (SqT.of (q37 _ _ upd_same)) (.cons (.int _) (.cons (.int _) .nil))) .nil))) (.cons (.lst (SqL.of (q7 _ _ upd_same)) (.cons (.tup (SqT.of (q57 _ _ upd_same)) (.cons (.int _) (.cons (.int _) .nil))) (.cons (.tup (SqT.of (q67 _ _ upd_same)) (.cons (.int _) (.cons (.int _) .nil))) .nil))) .nil))) (q _ (g0.trans (GrowT.of (Grow.of S))) (t0.ext S))

end
end M
namespace M
open PySem PySem.Spec PyProof.Rows L2 G LamX RZ
section
variable {P : Program} {w : World} {K : PySem.W.Frag} {mg : Str → Option Value} {base : Heap}
/-! the law: the pots, one by one -/
theorem all_true (m : Nat) : (List.replicate m true).all id = true := by
  induction m with
  | zero => rfl
  | succ m ih => rw [List.replicate_succ, List.all_cons, ih]; rfl
def sp_law (K : PySem.W.Frag) (PP : Addr) : Sp := spec1 fun x H Q _ => ∃ (l : Addr) (ns : List Int), x = .ref l ∧ SqL K H l (ns.map V.int) ∧ ns.length ≤ 63 ∧ Tabs (TB83 PP) H ∧ ∀ H', Q (.bl true) H'
theorem ok_law {af : Addr} {fd : FuncData} (F : FunD K "law" "law" (defArgs s_law) (defBody s_law) (defScope s_law) [] [] af fd) (B : Bt mg) {cc PP : Addr} (TB : TabB base mg cc PP) (C__law_right : Cl True P w K mg base 8 "_law_right" 1 [] (sp__law_right K PP)) (C__law_pot : Cl False P w K mg base 1 "_law_pot" 2 [] (sp__law_pot K)) : FnG True P w K mg base CX0 9 af fd ["script"] (sp_law K PP) := by
  refine okG F sc_law ar1 fun cdv A outer s H vs Q E hg hr h => ?_
  refine ⟨_, PSs.nox (pss_one (ps_ret (pe_callB (cr_all rfl) (by rfl) B.all (by decide +kernel) (pa_cons (pe_lc (own := [("k", 1)]) rfl sc_law.nd (pi_range1 rfl B.range (pa_cons (pe_callB (call_max2 rfl) (by rfl) B.max (by decide +kernel) (pa_cons pe_int (pa_cons (pe_callB (call_min2 rfl) (by rfl) B.min (by decide +kernel) (pa_cons pe_int (pa_cons (pe_callB call_len_seq (by rfl) B.len (by decide +kernel) (pa_cons (pv 0) pa_nil)) pa_nil))) pa_nil))) pa_nil)) (blkOk_by (own := [("k", 1)]) (N := ["script", "k"]) (sc := defScope s_law) (by decide +kernel)) (fun _ _ _ _ _ => pg_name (i := 1) sc_law.nd rfl (.inl rfl) (.inr rfl)) (fun _ _ _ _ _ => pts_nil) (fun _ _ _ _ _ => (pe_cl C__law_right hg hr (by decide) rfl (pa_cons (pe_cl C__law_pot (fun h => h.elim) hr (by decide) rfl (pa_cons (pv 0) (pa_cons (pv 1) pa_nil))) pa_nil)))) pa_nil)))), ?_⟩
  obtain ⟨_, rfl, l, ns, rfl, hS, hn, t0, q⟩ := h
  refine ⟨_, rfl, l, _, rfl, .inl hS, _, _, rfl, _, _, rfl, _, rfl, by split <;> split <;> omega, by split <;> split <;> omega, fun D hD => lc_range (lo := 0) (fun j H2 => ExtN H H2 ∧ Tabs (TB83 PP) H2 ∧ ∃ m, m ≤ j ∧ H2 D = some (.lst ((List.replicate m true).map V.bl))) ⟨ExtN.of ((Same.refl _).new hD), t0.ext ((Same.refl _).new hD), 0, Nat.le_refl 0, upd_same⟩ ?_ ?_⟩
  · rintro j H2 hj ⟨s2, t2, m, hm, eD⟩
    have hj : j < 4 := by
      refine Nat.lt_of_lt_of_le hj ?_
      split <;> split <;> omega
    refine ⟨rfl, _, rfl, _, rfl, _, _, rfl, l, ns, j, rfl, congrArg V.int (by omega), extN_seq s2 hS, by omega, fun a H3 s3 ha hp => ?_⟩
    have hDa : D ≠ a := ne_of_none eD ha
    refine ⟨_, rfl, a, rfl, hp, t2.ext s3, fun H4 g4 t4 => ?_⟩
    have eD4 := g4 _ _ hDa (s3 _ _ eD) (fun _ z => by cases z)
    refine ⟨_, eD4, small_lt (by simp; omega), fun b o hb nt => ?_, tabs_mut t4 eD4, m + 1, by omega, ?_⟩
    · have hbD : b ≠ D := by
        rintro rfl
        rw [hb] at hD
        cases hD
      have hb2 := s2 _ _ hb nt
      have hba : b ≠ a := by
        rintro rfl
        rw [hb2] at ha
        cases ha
      exact (upd_ne hbD).trans (g4 _ _ hba (s3 _ _ hb2) nt)
    · rw [upd_same, List.replicate_succ', List.map_append]
      rfl
  · rintro H2 ⟨s2, _, m, hm, eD⟩
    refine ⟨D, _, rfl, SqL.of eD, ?_⟩
    rw [all_true]
    exact q _
theorem law_ends {PP : Addr} (H : Hp) (a : Addr) (ns : List Int) (hl : ns.length ≤ 63) (hH : H PP = some (.tbl #[])) (hS : SqL K H a (ns.map V.int)) : sp_law K PP [.ref a] H (fun v _ => v = .bl true) E0 :=
  ⟨_, rfl, a, ns, rfl, hS, hl, fun p hp => by rw [List.mem_singleton.mp hp]; exact TabS.nil hH, fun _ => rfl⟩

end
end M
namespace M
open PySem PySem.Spec PyProof.Rows L2 G LamX RZ
def d_is_integer : He.DefD := ⟨("is_integer", none), "is_integer", "is_integer", defArgs s_is_integer, defBody s_is_integer, defScope s_is_integer, [], []⟩
def d_is_list : He.DefD := ⟨("is_list", none), "is_list", "is_list", defArgs s_is_list, defBody s_is_list, defScope s_is_list, [], []⟩
def d_is_number_of : He.DefD := ⟨("is_number_of", none), "is_number_of", "is_number_of", defArgs s_is_number_of, defBody s_is_number_of, defScope s_is_number_of, [], []⟩
def d_share_of : He.DefD := ⟨("share_of", none), "share_of", "share_of", defArgs s_share_of, defBody s_share_of, defScope s_share_of, [], []⟩
def d_powers_of : He.DefD := ⟨("powers_of", none), "powers_of", "powers_of", defArgs s_powers_of, defBody s_powers_of, defScope s_powers_of, [], []⟩
def d_divisors_by : He.DefD := ⟨("divisors_by", none), "divisors_by", "divisors_by", defArgs s_divisors_by, defBody s_divisors_by, defScope s_divisors_by, [], []⟩
def d_divisors_of : He.DefD := ⟨("divisors_of", none), "divisors_of", "divisors_of", defArgs s_divisors_of, defBody s_divisors_of, defScope s_divisors_of, [], []⟩
def d_sign_of : He.DefD := ⟨("sign_of", none), "sign_of", "sign_of", defArgs s_sign_of, defBody s_sign_of, defScope s_sign_of, [], []⟩
def d_is_lot_value : He.DefD := ⟨("is_lot_value", none), "is_lot_value", "is_lot_value", defArgs s_is_lot_value, defBody s_is_lot_value, defScope s_is_lot_value, [], []⟩
def d_want_lot : He.DefD := ⟨("want_lot", none), "want_lot", "want_lot", defArgs s_want_lot, defBody s_want_lot, defScope s_want_lot, [], []⟩
def d_shares_of : He.DefD := ⟨("shares_of", none), "shares_of", "shares_of", defArgs s_shares_of, defBody s_shares_of, defScope s_shares_of, [], []⟩
def d_free_count : He.DefD := ⟨("free_count", none), "free_count", "free_count", defArgs s_free_count, defBody s_free_count, defScope s_free_count, [], []⟩
def d_share_table : He.DefD := ⟨("share_table", none), "share_table", "share_table", defArgs s_share_table, defBody s_share_table, defScope s_share_table, [], []⟩
def d_lacking_of : He.DefD := ⟨("lacking_of", none), "lacking_of", "lacking_of", defArgs s_lacking_of, defBody s_lacking_of, defScope s_lacking_of, [], []⟩
def d_is_closed_of : He.DefD := ⟨("is_closed_of", none), "is_closed_of", "is_closed_of", defArgs s_is_closed_of, defBody s_is_closed_of, defScope s_is_closed_of, [], []⟩
def d_lowest : He.DefD := ⟨("lowest", none), "lowest", "lowest", defArgs s_lowest, defBody s_lowest, defScope s_lowest, [], []⟩
def d_undone_of : He.DefD := ⟨("undone_of", none), "undone_of", "undone_of", defArgs s_undone_of, defBody s_undone_of, defScope s_undone_of, [], []⟩
def d_is_closed : He.DefD := ⟨("is_closed", none), "is_closed", "is_closed", defArgs s_is_closed, defBody s_is_closed, defScope s_is_closed, [], []⟩
def d_undone_table : He.DefD := ⟨("undone_table", none), "undone_table", "undone_table", defArgs s_undone_table, defBody s_undone_table, defScope s_undone_table, [], []⟩
def d__law_pot : He.DefD := ⟨("_law_pot", none), "_law_pot", "_law_pot", defArgs s__law_pot, defBody s__law_pot, defScope s__law_pot, [], []⟩
def d__law_draw : He.DefD := ⟨("_law_draw", none), "_law_draw", "_law_draw", defArgs s__law_draw, defBody s__law_draw, defScope s__law_draw, [], []⟩
def d__law_pick : He.DefD := ⟨("_law_pick", none), "_law_pick", "_law_pick", defArgs s__law_pick, defBody s__law_pick, defScope s__law_pick, [], []⟩
def d__law_share : He.DefD := ⟨("_law_share", none), "_law_share", "_law_share", defArgs s__law_share, defBody s__law_share, defScope s__law_share, [], []⟩
def d__law_divisors : He.DefD := ⟨("_law_divisors", none), "_law_divisors", "_law_divisors", defArgs s__law_divisors, defBody s__law_divisors, defScope s__law_divisors, [], []⟩
def d__law_primes : He.DefD := ⟨("_law_primes", none), "_law_primes", "_law_primes", defArgs s__law_primes, defBody s__law_primes, defScope s__law_primes, [], []⟩
def d__law_free : He.DefD := ⟨("_law_free", none), "_law_free", "_law_free", defArgs s__law_free, defBody s__law_free, defScope s__law_free, [], []⟩
def d__law_sign : He.DefD := ⟨("_law_sign", none), "_law_sign", "_law_sign", defArgs s__law_sign, defBody s__law_sign, defScope s__law_sign, [], []⟩
def d__law_worth : He.DefD := ⟨("_law_worth", none), "_law_worth", "_law_worth", defArgs s__law_worth, defBody s__law_worth, defScope s__law_worth, [], []⟩
def d__law_lot : He.DefD := ⟨("_law_lot", none), "_law_lot", "_law_lot", defArgs s__law_lot, defBody s__law_lot, defScope s__law_lot, [], []⟩
def d__law_is_closed : He.DefD := ⟨("_law_is_closed", none), "_law_is_closed", "_law_is_closed", defArgs s__law_is_closed, defBody s__law_is_closed, defScope s__law_is_closed, [], []⟩
def d__law_product : He.DefD := ⟨("_law_product", none), "_law_product", "_law_product", defArgs s__law_product, defBody s__law_product, defScope s__law_product, [], []⟩
def d__law_heard : He.DefD := ⟨("_law_heard", none), "_law_heard", "_law_heard", defArgs s__law_heard, defBody s__law_heard, defScope s__law_heard, [], []⟩
def d__law_plus : He.DefD := ⟨("_law_plus", none), "_law_plus", "_law_plus", defArgs s__law_plus, defBody s__law_plus, defScope s__law_plus, [], []⟩
def d__law_right : He.DefD := ⟨("_law_right", none), "_law_right", "_law_right", defArgs s__law_right, defBody s__law_right, defScope s__law_right, [], []⟩
def d_law : He.DefD := ⟨("law", none), "law", "law", defArgs s_law, defBody s_law, defScope s_law, [], []⟩
def fn : List He.DefD := [d_is_integer, d_is_list, d_is_number_of, d_share_of, d_powers_of, d_divisors_by, d_divisors_of, d_sign_of, d_is_lot_value, d_want_lot, d_shares_of, d_free_count, d_share_table, d_lacking_of, d_is_closed_of, d_lowest, d_undone_of, d_is_closed, d_undone_table, d__law_pot, d__law_draw, d__law_pick, d__law_share, d__law_divisors, d__law_primes, d__law_free, d__law_sign, d__law_worth, d__law_lot, d__law_is_closed, d__law_product, d__law_heard, d__law_plus, d__law_right, d_law]
def fa : List He.Fa := [.glo "is_integer", .glo "is_list", .glo "is_number_of", .glo "share_of", .glo "powers_of", .glo "divisors_by", .glo "divisors_of", .glo "sign_of", .glo "is_lot_value", .glo "want_lot", .glo "shares_of", .glo "free_count", .glo "share_table", .glo "lacking_of", .glo "is_closed_of", .glo "lowest", .glo "undone_of", .glo "is_closed", .glo "undone_table", .glo "_law_pot", .glo "_law_draw", .glo "_law_pick", .glo "_law_share", .glo "_law_divisors", .glo "_law_primes", .glo "_law_free", .glo "_law_sign", .glo "_law_worth", .glo "_law_lot", .glo "_law_is_closed", .glo "_law_product", .glo "_law_heard", .glo "_law_plus", .glo "_law_right", .glo "law", .glo "NotMade", .glo "StateError"] ++ btNames.map He.Fa.free ++ [.int "MOST_LOT" 12, .int "GREATEST_IN" 1000000]

def ex (K : PySem.W.Frag) : Bool := (ownB K (He.ga K "NotMade") && (isB K (He.ga K "NotMade") (He.ga K "StateError") true))
abbrev R : PySem.W.OpenRow := PySem.W.OpenLaw.row PySem.Challenge.rw_divisorsums_k85_whole_tables_undone
def tf : List He.Defn := [("_law_right", none)]
abbrev hk : PySem.W.Hook := He.hookX 4 fa fn [] tf ex
def ob (s : PySem.W.SharedT) : He.AlX := He.obsX 4 fa fn [] tf ex (HandSHeadRun.getT s)
theorem ob_eq (s : PySem.W.SharedT) : ob s = hk.obs s.abs := He.obsX_eq (HandSHeadRun.getT_eq s)
def loose : List Str := [("is_integer" : Str), ("is_list" : Str), ("is_number_of" : Str), ("share_of" : Str), ("powers_of" : Str), ("divisors_by" : Str), ("divisors_of" : Str), ("sign_of" : Str), ("is_lot_value" : Str), ("want_lot" : Str), ("shares_of" : Str), ("free_count" : Str), ("share_table" : Str), ("lacking_of" : Str), ("is_closed_of" : Str), ("lowest" : Str), ("undone_of" : Str), ("is_closed" : Str), ("undone_table" : Str), ("_law_pot" : Str), ("_law_draw" : Str), ("_law_pick" : Str), ("_law_share" : Str), ("_law_divisors" : Str), ("_law_primes" : Str), ("_law_free" : Str), ("_law_sign" : Str), ("_law_worth" : Str), ("_law_lot" : Str), ("_law_is_closed" : Str), ("_law_product" : Str), ("_law_heard" : Str), ("_law_plus" : Str), ("_law_right" : Str), ("NumberError" : Str), ("StateError" : Str), ("InvalidNumber" : Str), ("NotMade" : Str), ("MOST_LOT" : Str), ("GREATEST_IN" : Str)]
theorem run (w : World) : HandSHeadRun.RunEq R (PySem.W.view R.prog [47]) hk ob 4000 loose w := by
  intro os
  kernel_rfl
theorem facts {P : Program} {w : World} {K : PySem.W.Frag} {h : Heap} {mg : Str → Option Value} {f : Addr} (X : K.In h) (G0 : h.Ns mainGlobals mg) (hfa : mg ("law" : Str) = some (.ref f)) (c0 : He.SaysX fa fn [] tf ex w h K) :
    ∃ (fd : FuncData) (cc PP : Addr), h.get? PP = some G.emptyT ∧ K.lookup PP = none ∧ PySem.W.CodeHd h cc PP ∧ (∀ (s : Shared) (v : Value), BindsTo s fd ⟨[v], []⟩ [("script", v)]) ∧ ∀ base : Heap, K.In base → base.Ns mainGlobals mg → LamX.TabB base mg cc PP → FnG True P w K mg base CX0 9 f fd ["script"] (sp_law K PP) := by
  have c := c0.t.d
  have cx := c0.more
  have B : Bt mg := Bt.of fun x hx => by
    exact He.free_ok X G0 (says_mem c (List.mem_append_left _ (List.mem_append_right _ (List.mem_map_of_mem hx))))
  obtain ⟨t_MOST_LOT, c_MOST_LOT⟩ := He.int_ok X G0 (c.fact 58 (f := .int "MOST_LOT" 12) rfl)
  obtain ⟨t_GREATEST_IN, c_GREATEST_IN⟩ := He.int_ok X G0 (c.fact 59 (f := .int "GREATEST_IN" 1000000) rfl)
  have c_NotMade := He.glo_ok X G0 (c.fact 35 (f := .glo "NotMade") rfl)
  have c_StateError := He.glo_ok X G0 (c.fact 36 (f := .glo "StateError") rfl)
  simp only [ex, Bool.and_eq_true] at cx
  obtain ⟨x_own, x_is⟩ := cx
  obtain ⟨fd_is_integer, F_is_integer⟩ := c.def_ 0 (d := d_is_integer) rfl
  have m_is_integer := He.glo_ok X G0 (c.fact 0 (f := .glo "is_integer") rfl)
  obtain ⟨fd_is_list, F_is_list⟩ := c.def_ 1 (d := d_is_list) rfl
  have m_is_list := He.glo_ok X G0 (c.fact 1 (f := .glo "is_list") rfl)
  obtain ⟨fd_is_number_of, F_is_number_of⟩ := c.def_ 2 (d := d_is_number_of) rfl
  have m_is_number_of := He.glo_ok X G0 (c.fact 2 (f := .glo "is_number_of") rfl)
  obtain ⟨fd_share_of, F_share_of⟩ := c.def_ 3 (d := d_share_of) rfl
  have m_share_of := He.glo_ok X G0 (c.fact 3 (f := .glo "share_of") rfl)
  obtain ⟨fd_powers_of, F_powers_of⟩ := c.def_ 4 (d := d_powers_of) rfl
  have m_powers_of := He.glo_ok X G0 (c.fact 4 (f := .glo "powers_of") rfl)
  obtain ⟨fd_divisors_by, F_divisors_by⟩ := c.def_ 5 (d := d_divisors_by) rfl
  have m_divisors_by := He.glo_ok X G0 (c.fact 5 (f := .glo "divisors_by") rfl)
  obtain ⟨fd_divisors_of, F_divisors_of⟩ := c.def_ 6 (d := d_divisors_of) rfl
  have m_divisors_of := He.glo_ok X G0 (c.fact 6 (f := .glo "divisors_of") rfl)
  obtain ⟨fd_sign_of, F_sign_of⟩ := c.def_ 7 (d := d_sign_of) rfl
  have m_sign_of := He.glo_ok X G0 (c.fact 7 (f := .glo "sign_of") rfl)
  obtain ⟨fd_is_lot_value, F_is_lot_value⟩ := c.def_ 8 (d := d_is_lot_value) rfl
  have m_is_lot_value := He.glo_ok X G0 (c.fact 8 (f := .glo "is_lot_value") rfl)
  obtain ⟨fd_want_lot, F_want_lot⟩ := c.def_ 9 (d := d_want_lot) rfl
  have m_want_lot := He.glo_ok X G0 (c.fact 9 (f := .glo "want_lot") rfl)
  obtain ⟨fd_shares_of, F_shares_of⟩ := c.def_ 10 (d := d_shares_of) rfl
  have m_shares_of := He.glo_ok X G0 (c.fact 10 (f := .glo "shares_of") rfl)
  obtain ⟨fd_free_count, F_free_count⟩ := c.def_ 11 (d := d_free_count) rfl
  have m_free_count := He.glo_ok X G0 (c.fact 11 (f := .glo "free_count") rfl)
  obtain ⟨fd_share_table, F_share_table⟩ := c.def_ 12 (d := d_share_table) rfl
  have m_share_table := He.glo_ok X G0 (c.fact 12 (f := .glo "share_table") rfl)
  obtain ⟨fd_lacking_of, F_lacking_of⟩ := c.def_ 13 (d := d_lacking_of) rfl
  have m_lacking_of := He.glo_ok X G0 (c.fact 13 (f := .glo "lacking_of") rfl)
  obtain ⟨fd_is_closed_of, F_is_closed_of⟩ := c.def_ 14 (d := d_is_closed_of) rfl
  have m_is_closed_of := He.glo_ok X G0 (c.fact 14 (f := .glo "is_closed_of") rfl)
  obtain ⟨fd_lowest, F_lowest⟩ := c.def_ 15 (d := d_lowest) rfl
  have m_lowest := He.glo_ok X G0 (c.fact 15 (f := .glo "lowest") rfl)
  obtain ⟨fd_undone_of, F_undone_of⟩ := c.def_ 16 (d := d_undone_of) rfl
  have m_undone_of := He.glo_ok X G0 (c.fact 16 (f := .glo "undone_of") rfl)
  obtain ⟨fd_is_closed, F_is_closed⟩ := c.def_ 17 (d := d_is_closed) rfl
  have m_is_closed := He.glo_ok X G0 (c.fact 17 (f := .glo "is_closed") rfl)
  obtain ⟨fd_undone_table, F_undone_table⟩ := c.def_ 18 (d := d_undone_table) rfl
  have m_undone_table := He.glo_ok X G0 (c.fact 18 (f := .glo "undone_table") rfl)
  obtain ⟨fd__law_pot, F__law_pot⟩ := c.def_ 19 (d := d__law_pot) rfl
  have m__law_pot := He.glo_ok X G0 (c.fact 19 (f := .glo "_law_pot") rfl)
  obtain ⟨fd__law_draw, F__law_draw⟩ := c.def_ 20 (d := d__law_draw) rfl
  have m__law_draw := He.glo_ok X G0 (c.fact 20 (f := .glo "_law_draw") rfl)
  obtain ⟨fd__law_pick, F__law_pick⟩ := c.def_ 21 (d := d__law_pick) rfl
  have m__law_pick := He.glo_ok X G0 (c.fact 21 (f := .glo "_law_pick") rfl)
  obtain ⟨fd__law_share, F__law_share⟩ := c.def_ 22 (d := d__law_share) rfl
  have m__law_share := He.glo_ok X G0 (c.fact 22 (f := .glo "_law_share") rfl)
  obtain ⟨fd__law_divisors, F__law_divisors⟩ := c.def_ 23 (d := d__law_divisors) rfl
  have m__law_divisors := He.glo_ok X G0 (c.fact 23 (f := .glo "_law_divisors") rfl)
  obtain ⟨fd__law_primes, F__law_primes⟩ := c.def_ 24 (d := d__law_primes) rfl
  have m__law_primes := He.glo_ok X G0 (c.fact 24 (f := .glo "_law_primes") rfl)
  obtain ⟨fd__law_free, F__law_free⟩ := c.def_ 25 (d := d__law_free) rfl
  have m__law_free := He.glo_ok X G0 (c.fact 25 (f := .glo "_law_free") rfl)
  obtain ⟨fd__law_sign, F__law_sign⟩ := c.def_ 26 (d := d__law_sign) rfl
  have m__law_sign := He.glo_ok X G0 (c.fact 26 (f := .glo "_law_sign") rfl)
  obtain ⟨fd__law_worth, F__law_worth⟩ := c.def_ 27 (d := d__law_worth) rfl
  have m__law_worth := He.glo_ok X G0 (c.fact 27 (f := .glo "_law_worth") rfl)
  obtain ⟨fd__law_lot, F__law_lot⟩ := c.def_ 28 (d := d__law_lot) rfl
  have m__law_lot := He.glo_ok X G0 (c.fact 28 (f := .glo "_law_lot") rfl)
  obtain ⟨fd__law_is_closed, F__law_is_closed⟩ := c.def_ 29 (d := d__law_is_closed) rfl
  have m__law_is_closed := He.glo_ok X G0 (c.fact 29 (f := .glo "_law_is_closed") rfl)
  obtain ⟨fd__law_product, F__law_product⟩ := c.def_ 30 (d := d__law_product) rfl
  have m__law_product := He.glo_ok X G0 (c.fact 30 (f := .glo "_law_product") rfl)
  obtain ⟨fd__law_heard, F__law_heard⟩ := c.def_ 31 (d := d__law_heard) rfl
  have m__law_heard := He.glo_ok X G0 (c.fact 31 (f := .glo "_law_heard") rfl)
  obtain ⟨fd__law_plus, F__law_plus⟩ := c.def_ 32 (d := d__law_plus) rfl
  have m__law_plus := He.glo_ok X G0 (c.fact 32 (f := .glo "_law_plus") rfl)
  obtain ⟨fd__law_right, F__law_right⟩ := c.def_ 33 (d := d__law_right) rfl
  have m__law_right := He.glo_ok X G0 (c.fact 33 (f := .glo "_law_right") rfl)
  obtain ⟨fd_law, F_law⟩ := c.def_ 34 (d := d_law) rfl
  have m_law := He.glo_ok X G0 (c.fact 34 (f := .glo "law") rfl)
  cases (hfa.symm.trans m_law)
  refine ⟨fd_law, (He.cT K ("_law_right", none)).1, (He.cT K ("_law_right", none)).2, c0.empty _ List.mem_cons_self, c0.out _ List.mem_cons_self, PySem.W.codeHd_of_K X (c0.hd _ List.mem_cons_self), fun s v => FunD.bindsA (ps := ["script"]) F_law (fun _ _ _ _ _ _ us hl => match us, hl with | [_], _ => rfl) s [v] rfl, fun base _ _ TB => ?_⟩
  have G__law_draw := ok__law_draw (P := P) (w := w) (base := base) F__law_draw B  
  have C__law_draw : Cl False P w K mg base 1 "_law_draw" 2 [] (sp__law_draw K) := ⟨_, _, _, [], G__law_draw, rfl, m__law_draw, F__law_draw.kp, FunD.bindsN (ps := ["pot", "many"]) F__law_draw (fun _ _ _ _ _ _ us hl => match us, hl with | [_, _], _ => rfl), .nil⟩
  have G__law_divisors := ok__law_divisors (P := P) (w := w) (base := base) F__law_divisors B  
  have C__law_divisors : Cl False P w K mg base 1 "_law_divisors" 1 [] (sp__law_divisors K) := ⟨_, _, _, [], G__law_divisors, rfl, m__law_divisors, F__law_divisors.kp, FunD.bindsN (ps := ["number"]) F__law_divisors (fun _ _ _ _ _ _ us hl => match us, hl with | [_], _ => rfl), .nil⟩
  have G__law_pick := ok__law_pick (P := P) (w := w) (base := base) F__law_pick B C__law_draw 
  have C__law_pick : Cl False P w K mg base 2 "_law_pick" 2 [] (sp__law_pick K) := ⟨_, _, _, [], G__law_pick, rfl, m__law_pick, F__law_pick.kp, FunD.bindsN (ps := ["pot", "some"]) F__law_pick (fun _ _ _ _ _ _ us hl => match us, hl with | [_, _], _ => rfl), .nil⟩
  have G__law_lot := ok__law_lot (P := P) (w := w) (base := base) F__law_lot B C__law_draw C__law_divisors C__law_pick 
  have C__law_lot : Cl False P w K mg base 3 "_law_lot" 2 [] (sp__law_lot K) := ⟨_, _, _, [], G__law_lot, rfl, m__law_lot, F__law_lot.kp, FunD.bindsN (ps := ["pot", "most"]) F__law_lot (fun _ _ _ _ _ _ us hl => match us, hl with | [_, _], _ => rfl), .nil⟩
  have G_is_list := ok_is_list (P := P) (w := w) (base := base) F_is_list B  
  have C_is_list : Cl False P w K mg base 1 "is_list" 1 [] (sp_is_list K) := ⟨_, _, _, [], G_is_list, rfl, m_is_list, F_is_list.kp, FunD.bindsN (ps := ["value"]) F_is_list (fun _ _ _ _ _ _ us hl => match us, hl with | [_], _ => rfl), .nil⟩
  have G_is_integer := ok_is_integer (P := P) (w := w) (base := base) F_is_integer B  
  have C_is_integer : Cl False P w K mg base 1 "is_integer" 1 [] (sp_is_integer K) := ⟨_, _, _, [], G_is_integer, rfl, m_is_integer, F_is_integer.kp, FunD.bindsN (ps := ["value"]) F_is_integer (fun _ _ _ _ _ _ us hl => match us, hl with | [_], _ => rfl), .nil⟩
  have G_is_number_of := ok_is_number_of (P := P) (w := w) (base := base) F_is_number_of B C_is_integer 
  have C_is_number_of : Cl False P w K mg base 2 "is_number_of" 2 [] (sp_is_number_of K) := ⟨_, _, _, [], G_is_number_of, rfl, m_is_number_of, F_is_number_of.kp, FunD.bindsN (ps := ["value", "most"]) F_is_number_of (fun _ _ _ _ _ _ us hl => match us, hl with | [_, _], _ => rfl), .nil⟩
  have G_is_lot_value := ok_is_lot_value (P := P) (w := w) (base := base) F_is_lot_value B C_is_list C_is_number_of c_MOST_LOT c_GREATEST_IN 
  have C_is_lot_value : Cl False P w K mg base 3 "is_lot_value" 1 [] (sp_is_lot_value K) := ⟨_, _, _, [], G_is_lot_value, rfl, m_is_lot_value, F_is_lot_value.kp, FunD.bindsN (ps := ["value"]) F_is_lot_value (fun _ _ _ _ _ _ us hl => match us, hl with | [_], _ => rfl), .nil⟩
  have G_want_lot := ok_want_lot (P := P) (w := w) (base := base) F_want_lot B C_is_lot_value 
  have C_want_lot : Cl False P w K mg base 4 "want_lot" 1 [] (sp_want_lot K) := ⟨_, _, _, [], (G_want_lot.weak w_want_lot), rfl, m_want_lot, F_want_lot.kp, FunD.bindsN (ps := ["value"]) F_want_lot (fun _ _ _ _ _ _ us hl => match us, hl with | [_], _ => rfl), .nil⟩
  have CS_want_lot : Cl False P w K mg base 4 "want_lot" 1 [] (spS_want_lot K) := ⟨_, _, _, [], G_want_lot, rfl, m_want_lot, F_want_lot.kp, FunD.bindsN (ps := ["value"]) F_want_lot (fun _ _ _ _ _ _ us hl => match us, hl with | [_], _ => rfl), .nil⟩
  have G_divisors_by := ok_divisors_by (P := P) (w := w) (base := base) F_divisors_by B  
  have C_divisors_by : Cl False P w K mg base 1 "divisors_by" 1 [] (sp_divisors_by K) := ⟨_, _, _, [], G_divisors_by, rfl, m_divisors_by, F_divisors_by.kp, FunD.bindsN (ps := ["powers"]) F_divisors_by (fun _ _ _ _ _ _ us hl => match us, hl with | [_], _ => rfl), .nil⟩
  have G_powers_of := ok_powers_of (P := P) (w := w) (base := base) F_powers_of B  
  have C_powers_of : Cl False P w K mg base 1 "powers_of" 1 [] (sp_powers_of K) := ⟨_, _, _, [], G_powers_of, rfl, m_powers_of, F_powers_of.kp, FunD.bindsN (ps := ["number"]) F_powers_of (fun _ _ _ _ _ _ us hl => match us, hl with | [_], _ => rfl), .nil⟩
  have G_divisors_of := ok_divisors_of (P := P) (w := w) (base := base) F_divisors_of B C_divisors_by C_powers_of 
  have C_divisors_of : Cl False P w K mg base 2 "divisors_of" 1 [] (sp_divisors_of K) := ⟨_, _, _, [], G_divisors_of, rfl, m_divisors_of, F_divisors_of.kp, FunD.bindsN (ps := ["number"]) F_divisors_of (fun _ _ _ _ _ _ us hl => match us, hl with | [_], _ => rfl), .nil⟩
  have G_lacking_of := ok_lacking_of (P := P) (w := w) (base := base) F_lacking_of B C_divisors_of 
  have C_lacking_of : Cl False P w K mg base 3 "lacking_of" 1 [] (sp_lacking_of K) := ⟨_, _, _, [], G_lacking_of, rfl, m_lacking_of, F_lacking_of.kp, FunD.bindsN (ps := ["numbers"]) F_lacking_of (fun _ _ _ _ _ _ us hl => match us, hl with | [_], _ => rfl), .nil⟩
  have G_is_closed_of := ok_is_closed_of (P := P) (w := w) (base := base) F_is_closed_of B C_lacking_of 
  have C_is_closed_of : Cl False P w K mg base 4 "is_closed_of" 1 [] (sp_is_closed_of K) := ⟨_, _, _, [], G_is_closed_of, rfl, m_is_closed_of, F_is_closed_of.kp, FunD.bindsN (ps := ["numbers"]) F_is_closed_of (fun _ _ _ _ _ _ us hl => match us, hl with | [_], _ => rfl), .nil⟩
  have G_is_closed := ok_is_closed (P := P) (w := w) (base := base) F_is_closed B C_want_lot C_is_closed_of 
  have C_is_closed : Cl False P w K mg base 5 "is_closed" 1 [] (sp_is_closed K) := ⟨_, _, _, [], G_is_closed, rfl, m_is_closed, F_is_closed.kp, FunD.bindsN (ps := ["numbers"]) F_is_closed (fun _ _ _ _ _ _ us hl => match us, hl with | [_], _ => rfl), .nil⟩
  have G_share_of := ok_share_of (P := P) (w := w) (base := base) F_share_of B  
  have C_share_of : Cl False P w K mg base 1 "share_of" 2 [] (sp_share_of K) := ⟨_, _, _, [], (G_share_of.weak w_share_of), rfl, m_share_of, F_share_of.kp, FunD.bindsN (ps := ["near", "far"]) F_share_of (fun _ _ _ _ _ _ us hl => match us, hl with | [_, _], _ => rfl), .nil⟩
  have CS_share_of : Cl False P w K mg base 1 "share_of" 2 [] (spS_share_of K) := ⟨_, _, _, [], G_share_of, rfl, m_share_of, F_share_of.kp, FunD.bindsN (ps := ["near", "far"]) F_share_of (fun _ _ _ _ _ _ us hl => match us, hl with | [_, _], _ => rfl), .nil⟩
  have G_shares_of := ok_shares_of (P := P) (w := w) (base := base) F_shares_of B C_share_of 
  have C_shares_of : Cl False P w K mg base 2 "shares_of" 1 [] (sp_shares_of K) := ⟨_, _, _, [], G_shares_of, rfl, m_shares_of, F_shares_of.kp, FunD.bindsN (ps := ["numbers"]) F_shares_of (fun _ _ _ _ _ _ us hl => match us, hl with | [_], _ => rfl), .nil⟩
  have G_share_table := ok_share_table (P := P) (w := w) (base := base) F_share_table B C_want_lot C_shares_of 
  have C_share_table : Cl False P w K mg base 5 "share_table" 1 [] (sp_share_table K) := ⟨_, _, _, [], G_share_table, rfl, m_share_table, F_share_table.kp, FunD.bindsN (ps := ["numbers"]) F_share_table (fun _ _ _ _ _ _ us hl => match us, hl with | [_], _ => rfl), .nil⟩
  have G_lowest := ok_lowest (P := P) (w := w) (base := base) F_lowest B CS_share_of 
  have C_lowest : Cl False P w K mg base 2 "lowest" 2 [] (sp_lowest K) := ⟨_, _, _, [], G_lowest, rfl, m_lowest, F_lowest.kp, FunD.bindsN (ps := ["above", "below"]) F_lowest (fun _ _ _ _ _ _ us hl => match us, hl with | [_, _], _ => rfl), .nil⟩
  have G_free_count := ok_free_count (P := P) (w := w) (base := base) F_free_count B C_powers_of 
  have C_free_count : Cl False P w K mg base 2 "free_count" 1 [] (sp_free_count K) := ⟨_, _, _, [], G_free_count, rfl, m_free_count, F_free_count.kp, FunD.bindsN (ps := ["number"]) F_free_count (fun _ _ _ _ _ _ us hl => match us, hl with | [_], _ => rfl), .nil⟩
  have G_sign_of := ok_sign_of (P := P) (w := w) (base := base) F_sign_of B C_powers_of 
  have C_sign_of : Cl False P w K mg base 2 "sign_of" 1 [] (sp_sign_of K) := ⟨_, _, _, [], G_sign_of, rfl, m_sign_of, F_sign_of.kp, FunD.bindsN (ps := ["number"]) F_sign_of (fun _ _ _ _ _ _ us hl => match us, hl with | [_], _ => rfl), .nil⟩
  have G_undone_of := ok_undone_of (P := P) (w := w) (base := base) F_undone_of B C_lowest C_free_count C_sign_of 
  have C_undone_of : Cl False P w K mg base 3 "undone_of" 1 [] (sp_undone_of K) := ⟨_, _, _, [], G_undone_of, rfl, m_undone_of, F_undone_of.kp, FunD.bindsN (ps := ["numbers"]) F_undone_of (fun _ _ _ _ _ _ us hl => match us, hl with | [_], _ => rfl), .nil⟩
  have G_undone_table := ok_undone_table (P := P) (w := w) (base := base) F_undone_table B CS_want_lot C_undone_of C_is_closed_of (ownB_ok x_own) c_NotMade 
  have C_undone_table : ClX P w K mg base 5 "undone_table" 1 [] (sp_undone_table K) := ⟨_, _, _, [], G_undone_table, rfl, m_undone_table, F_undone_table.kp, FunD.bindsN (ps := ["numbers"]) F_undone_table (fun _ _ _ _ _ _ us hl => match us, hl with | [_], _ => rfl), .nil⟩
  have C_undone_table_numbers : ClkX P w K mg base 5 "undone_table" ["numbers"] (fun zs => [zs.getD 0 .non]) (sp_undone_table K) := by
    have to := FunD.kwOnly (ps := ["numbers"]) (ks := ["numbers"]) (g := fun ws => [ws.getD 0 .none]) F_undone_table fun _ _ _ _ _ _ ws hl => match ws, hl with | [_], _ => rfl
    exact ⟨_, _, _, fun ws => [ws.getD 0 .none], G_undone_table, m_undone_table, F_undone_table.kp, to, fun {zs ws} r => .cons (vals_getD r 0) .nil⟩
  have G__law_is_closed := ok__law_is_closed (P := P) (w := w) (base := base) F__law_is_closed B C__law_divisors 
  have C__law_is_closed : Cl False P w K mg base 2 "_law_is_closed" 1 [] (sp__law_is_closed K) := ⟨_, _, _, [], G__law_is_closed, rfl, m__law_is_closed, F__law_is_closed.kp, FunD.bindsN (ps := ["numbers"]) F__law_is_closed (fun _ _ _ _ _ _ us hl => match us, hl with | [_], _ => rfl), .nil⟩
  have G__law_share := ok__law_share (P := P) (w := w) (base := base) F__law_share B  
  have C__law_share : Cl False P w K mg base 1 "_law_share" 2 [] (sp__law_share K) := ⟨_, _, _, [], G__law_share, rfl, m__law_share, F__law_share.kp, FunD.bindsN (ps := ["near", "far"]) F__law_share (fun _ _ _ _ _ _ us hl => match us, hl with | [_, _], _ => rfl), .nil⟩
  have G__law_plus := ok__law_plus (P := P) (w := w) (base := base) F__law_plus B C__law_share 
  have C__law_plus : Cl False P w K mg base 2 "_law_plus" 2 [] (sp__law_plus K) := ⟨_, _, _, [], G__law_plus, rfl, m__law_plus, F__law_plus.kp, FunD.bindsN (ps := ["near", "far"]) F__law_plus (fun _ _ _ _ _ _ us hl => match us, hl with | [_, _], _ => rfl), .nil⟩
  have G__law_primes := ok__law_primes (P := P) (w := w) (base := base) F__law_primes B  
  have C__law_primes : Cl False P w K mg base 1 "_law_primes" 1 [] (sp__law_primes K) := ⟨_, _, _, [], G__law_primes, rfl, m__law_primes, F__law_primes.kp, FunD.bindsN (ps := ["number"]) F__law_primes (fun _ _ _ _ _ _ us hl => match us, hl with | [_], _ => rfl), .nil⟩
  have G__law_free := ok__law_free (P := P) (w := w) (base := base) F__law_free B C__law_primes 
  have C__law_free : Cl False P w K mg base 2 "_law_free" 1 [] (sp__law_free K) := ⟨_, _, _, [], G__law_free, rfl, m__law_free, F__law_free.kp, FunD.bindsN (ps := ["number"]) F__law_free (fun _ _ _ _ _ _ us hl => match us, hl with | [_], _ => rfl), .nil⟩
  have G__law_sign := ok__law_sign (P := P) (w := w) (base := base) F__law_sign B C__law_primes 
  have C__law_sign : Cl False P w K mg base 2 "_law_sign" 1 [] (sp__law_sign K) := ⟨_, _, _, [], G__law_sign, rfl, m__law_sign, F__law_sign.kp, FunD.bindsN (ps := ["number"]) F__law_sign (fun _ _ _ _ _ _ us hl => match us, hl with | [_], _ => rfl), .nil⟩
  have G__law_right := ok__law_right (P := P) (w := w) (base := base) F__law_right B C__law_lot C_is_closed C__law_pick C_share_table C_undone_table C__law_is_closed C_undone_table_numbers C__law_plus C__law_free C__law_sign F__law_heard m__law_heard (FunD.bindsN (ps := ["call"]) F__law_heard fun _ _ _ _ _ _ us hl => match us, hl with | [_], _ => rfl) TB (code_of F__law_right) (ownB_ok x_own) c_NotMade (isB_ok x_is) c_StateError 
  have C__law_right : Cl True P w K mg base 8 "_law_right" 1 [] (sp__law_right K (He.cT K ("_law_right", none)).2) := ⟨_, _, _, [], G__law_right, rfl, m__law_right, F__law_right.kp, FunD.bindsN (ps := ["pot"]) F__law_right (fun _ _ _ _ _ _ us hl => match us, hl with | [_], _ => rfl), .nil⟩
  have G__law_pot := ok__law_pot (P := P) (w := w) (base := base) F__law_pot B  
  have C__law_pot : Cl False P w K mg base 1 "_law_pot" 2 [] (sp__law_pot K) := ⟨_, _, _, [], G__law_pot, rfl, m__law_pot, F__law_pot.kp, FunD.bindsN (ps := ["script", "k"]) F__law_pot (fun _ _ _ _ _ _ us hl => match us, hl with | [_, _], _ => rfl), .nil⟩
  have G_law := ok_law (P := P) (w := w) (base := base) F_law B TB C__law_right C__law_pot 
  exact G_law
end M
open PySem PySem.W PySem.Calls PyProof.Rows
set_option maxRecDepth 100000 in
set_option maxHeartbeats 0 in
theorem PySem.Challenge.cw_divisorsums_k85_whole_tables_undone_holds : PySem.Challenge.rw_divisorsums_k85_whole_tables_undone.Holds := by
  w_on; o_law
  refine HandSHeadRun.head_any (r := OpenLaw.row PySem.Challenge.rw_divisorsums_k85_whole_tables_undone) (q := view (OpenLaw.row PySem.Challenge.rw_divisorsums_k85_whole_tables_undone).prog [47]) (H := M.hk) (ob := M.ob) (M := 4000) (loose := M.loose) (d := HandSHeadRun.topDef (OpenLaw.row PySem.Challenge.rw_divisorsums_k85_whole_tables_undone).prog 47) (kwd := []) M.ob_eq
    (by kernel_rfl) (fun s => by kernel_rfl) M.run (by kernel_rfl) (by kernel_rfl) (by kernel_rfl) (by rfl) (by first | assumption | decide +kernel) (by decide +kernel) ⟨rfl, rfl, rfl, rfl, rfl, by decide +kernel⟩ ?hw ?hc
  case hw => w_witness2
  case hc =>
    refine G.walk_GT (l := PySem.Challenge.rw_divisorsums_k85_whole_tables_undone) (n := 63) (k := 9) (x := "script") rfl (by decide) (by kernel_rfl) ⟨rfl, by decide, by decide⟩ ?F
    intro w mg fa h Y G0 hmg0
    obtain ⟨K, KX, c⟩ := Y
    have hmg : mg ("law" : PySem.Str) = some (.ref fa) := by
      have e : (HandSHeadRun.topDef (OpenLaw.row PySem.Challenge.rw_divisorsums_k85_whole_tables_undone).prog 47).name = ("law" : PySem.Str) := by kernel_rfl
      rw [← e]
      exact hmg0
    obtain ⟨fd, cc, PP, e1, e2, e3, hb, hF⟩ := M.facts (P := (PySem.Challenge.rw_divisorsums_k85_whole_tables_undone).prog) (w := w) KX G0 hmg c
    exact ⟨K, fd, cc, PP, M.sp_law K PP, KX, e1, e2, e3, hb, fun H a ns hl hH hS => M.law_ends H a ns hl hH hS, hF⟩
