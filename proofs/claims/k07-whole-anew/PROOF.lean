import PyProof.Rows.All
import Wide.All
import OpenK.AllK
import Wide.FinOn
import PyProof.EqAt
import PyProof.EqKinds
import PyProof.TupleCall
import HandS.ForMost
import HandS.ForExc
import HandS.Evl
import HandS.Conv
import HandS.IsInst
import HandS.Strs
import HandS.SetFor
import HandS.Style
import HandS.Flow
import HandS.Zip
import HandS.EndBits
import KE.RegKIsAll
import HandS.ExcIs
import HandS.TryOnly
import HandS.ExcOwn
import HandS.WordsExc
import HandS.Dict
import HandS.TupAny
import HandS.Walk
import HandS.Iter
import HandS.Nested
import HandS.EndTab
import KE.KNestM
import HandS.HotCalls
import PySem.Challenge.RW_changeback_k07_whole_anew
set_option Elab.async false
set_option linter.all false
set_option maxRecDepth 100000
set_option maxHeartbeats 4000000
/-! Rules of my own over the layer, and short names for readings. -/
namespace Cb
open PySem PySem.Spec PyProof.Rows L2 Evl

/-! ### short names for readings -/
abbrev rAddI : R2 := rI0 fun i j => .int (i + j)
abbrev rSubI : R2 := rI0 fun i j => .int (i - j)
abbrev rMulI : R2 := rI (fun i j => IntMulOk i j) fun i j => .int (i * j)
abbrev rDivI : R2 := rI CDiv fun i j => .int (i / j)
abbrev rModI : R2 := rI (fun _ j => 0 < j) fun i j => .int (i % j)
abbrev rPowI : R2 := rI CPow fun i j => .int (i ^ j.toNat)
abbrev rLtI : R2 := rI0 fun i j => .bl (decide (i < j))
abbrev rLeI : R2 := rI0 fun i j => .bl (decide (i ≤ j))
abbrev rGtI : R2 := rI0 fun i j => .bl (decide (j < i))
abbrev rGeI : R2 := rI0 fun i j => .bl (decide (j ≤ i))
abbrev rNegI : V → Hp → VK → Prop := rU fun i => .int (-i)
abbrev rAbsI : List V → Hp → VK → Prop := fun xs H Q => ∃ i, xs = [.int i] ∧ Q (.int (if i < 0 then -i else i)) H
abbrev rMin2 : List V → Hp → VK → Prop := fun xs H Q => ∃ i j, xs = [.int i, .int j] ∧ Q (.int (if j < i then j else i)) H
abbrev ipAdd : TIp := ipI fun i j => i + j

section
variable {X : Cx}
theorem op_mulK : OpR X (binaryOp .Mult) rMulI := opI fun _ _ _ _ _ _ _ hc q => mul_int q hc
theorem mulOk_left {i j : Int} (h : -(2 ^ 64) < i ∧ i < 2 ^ 64) : IntMulOk i j := CMul.ok (.inl h)
theorem mulOk_right {i j : Int} (h : -(2 ^ 64) < j ∧ j < 2 ^ 64) : IntMulOk i j := CMul.ok (.inr h)

/-- xs[i] by values -/
theorem get_list : PGet X (rIxL X.K) := by
  intro pins s σ H o i ov iv Q I ro ri h
  obtain ⟨p, xs, k, z, rfl, rfl, hq, he, q⟩ := h
  cases ro
  obtain ⟨t, rfl⟩ := ri
  obtain ⟨its, r, pl, hz⟩ := I.list hq
  obtain ⟨j, h1, h2, h3, h4, h5⟩ := atI_get he
  obtain ⟨u, eu, ru⟩ := r.get h2
  have hl := r.length
  have hn := line63
  by_cases h0 : 0 ≤ k
  · have hj : k.toNat = j := by
      rw [seqIndex_of h0 h5] at h1
      exact Option.some.inj h1
    exact wpAny_getItem_list pl.isList h0 (by omega) (by rw [hj]; simpa using eu) ⟨z, H, I, ru, q⟩
  · have hj : (k + (its.toArray.size : Int)).toNat = j := by
      rw [seqIndex_neg (by omega) h4] at h1
      rw [List.size_toArray, ← hl]
      exact Option.some.inj h1
    exact wpAny_getItem_list_neg pl.isList (by omega) (by rw [List.size_toArray] <;> omega) (by omega) (by rw [hj]; simpa using eu) ⟨z, H, I, ru, q⟩
end

/-! ### a def that is called by its name -/
structure Cal (P : Program) (w : World) (K : PySem.W.Frag) (mg : Str → Option Value) (base : Heap) (CX : CXT) (k : Nat) (x : Str) (ps : List Str) (sp : Sp) : Prop where
  ex : ∃ (f : Addr) (fd : FuncData), FnOk P w K mg base CX k f fd ps sp ∧ mg x = some (.ref f) ∧ PySem.W.keepIn K (.ref f) = true ∧ Binds K fd ps []
theorem pc_call {X : Cx} {k : Nat} {x : Str} {ps : List Str} {sp : Sp} {e : Expr} {es : List Expr} {t : TA} {p pos : Pos} (C : Cal X.prog X.w X.K X.mg X.base CX0 k x ps sp) (hr : Room k X.A) (ha : PA X (e :: es) t)
    (hg : Gl X x := by rfl) (hdb : (x == ("__debug__" : Str)) = false := by decide) (he : starEach (e :: es) X.env = (false, eval e X.env) :: starEach es X.env := by rfl) (hpl : (backTo pos (starEach es X.env)).any (·.1) = false := by rfl) :
    PE X (.Call (.Name x p) (e :: es) [] pos) (tCall sp [] E0 t) := by
  obtain ⟨f, fd, F, hm, hk, hb⟩ := C.ex
  exact pe_call F hr hg hm hk hb .nil pass0 ha hdb he hpl
/-- a def of the text, and where it stands -/
structure FnAt (K : PySem.W.Frag) (mg : Str → Option Value) (x : Str) (st : Stmt) (ps : List Str) : Prop where
  ex : ∃ (f : Addr) (fd : FuncData), Fun K x x st f fd ∧ mg x = some (.ref f) ∧ Binds K fd ps []
/-- the same of a def at its place -/
theorem fun_ok {P : Program} {w : World} {K : PySem.W.Frag} {mg : Str → Option Value} {base : Heap} {x q : Str} {st : Stmt} {f : Addr} {fd : FuncData} {N ps : List Str} {k : Nat} {sp : Sp} {t : TS} (F : Fun K x q st f fd) (S : FnScope N ps (defScope st)) (len : ∀ vs H Q E, sp vs H Q E → vs.length = ps.length)
    (pure : ∀ vs H Q E, sp vs H Q E → t { nx := fun _ H' => Q .non H', rt := Q } (start N vs) H)
    (body : ∀ (f : Addr) (cdv : Value) (A : Around) (outer : List Env) (s : Shared) (H : Hp) (E : XK), Room k (A.deeper (envOfC q (defScope st) s.heap.objs.size f cdv)) →
      PSs (cxOf CX0 P w K mg base N q (defScope st) f cdv A outer s H E).nox (defBody st) t) : FnOk P w K mg base CX0 (k + 1) f fd ps sp :=
  F.ok S len fun cdv A outer s H vs Q E hr h => ⟨t, body f cdv A outer s H E hr, pure vs H Q E h⟩
theorem FnAt.ok {P : Program} {w : World} {K : PySem.W.Frag} {mg : Str → Option Value} {base : Heap} {x : Str} {st : Stmt} {N ps : List Str} {k : Nat} {sp : Sp} {t : TS} (F : FnAt K mg x st ps) (S : FnScope N ps (defScope st)) (len : ∀ vs H Q E, sp vs H Q E → vs.length = ps.length)
    (pure : ∀ vs H Q E, sp vs H Q E → t { nx := fun _ H' => Q .non H', rt := Q } (start N vs) H)
    (body : ∀ (f : Addr) (cdv : Value) (A : Around) (outer : List Env) (s : Shared) (H : Hp) (E : XK), Room k (A.deeper (envOfC x (defScope st) s.heap.objs.size f cdv)) →
      PSs (cxOf CX0 P w K mg base N x (defScope st) f cdv A outer s H E).nox (defBody st) t) : Cal P w K mg base CX0 (k + 1) x ps sp := by
  obtain ⟨f, fd, F, hm, hb⟩ := F.ex
  exact ⟨f, fd, F.ok S len fun cdv A outer s H vs Q E hr h => ⟨t, body f cdv A outer s H E hr, pure vs H Q E h⟩, hm, F.kp, hb⟩
end Cb

set_option Elab.async false
set_option linter.all false
set_option maxRecDepth 100000
set_option maxHeartbeats 4000000
/-! set(xs) of a list of ints, as a value whose members are known: the library's loop (set_update_ints) behind the library's making (code_set_led1). -/
namespace Cb
open PySem PySem.Spec PyProof.Rows L2 Evl

abbrev eSet (w : World) : Obj := { cls := .type "set", dict := none, data := .set #[] 0 (.fresh 0 0 (!w.params.followText "set-order")) }
theorem set_of_list {P : Program} {w : World} {A : Around} {E : Value → Shared → Prop} {s : Shared} {l : Addr} {its : Array Value} (ns : List Int) {Q : Value → Shared → Prop} (hh : A.handled = none) (hl : s.heap.IsList l its)
    (hi : IntsAre its.toList ns) (hb : ns.length + 1 < scanBound)
    (k : ∀ (g : Heap) (tk c : Nat), SetR w g s.heap.objs.size (fun j => decide (j ∈ ns)) c → c ≤ ns.length → (∀ b o, s.heap.get? b = some o → g.get? b = some o) → Q (.ref s.heap.objs.size) { s with heap := g, toks := tk }) :
    wpAny (model P w) A (call (.type "set") [.ref l]) Q E s := by
  have nI : its.size = ns.length := (Array.length_toList (xs := its)).symm.trans (IntsAre.length hi)
  obtain ⟨_, _, a1⟩ := F.called_set.mro
  have a2 := F.called_set.made
  have a3 := F.called_set.sub
  have a4 := F.called_set.notType
  have a5 := F.called_set.canCreate
  have a6 := F.typeCall_set_1 (.ref l)
  refine wpAny_call (codeAny_of_tree (wpAny_pure ⟨Code.quiet_builtin _ (by decide +kernel), codeAny_builtin F.entry_type_call ?_⟩))
  rw [Around.under_plain (weight_type_call_type "set" [.ref l] []) rfl]
  repeat (any_goals (first | assumption | wp_step))
  refine codeAny_mono (code_set_led1 (.ref l) (E := E) (Q₁ := fun v u => v = .ref s.heap.objs.size ∧ u = { s with heap := s.heap.push (eSet w) }) ⟨rfl, rfl⟩) fun r u hu => ?_
  match r, hu with
  | .error _, z => exact z
  | .ok .next, z => exact z.elim
  | .ok .brk, z => exact z.elim
  | .ok .cont, z => exact z.elim
  | .ok (.ret v), z =>
    obtain ⟨rfl, rfl⟩ := z
    have gS : (s.heap.push (eSet w)).get? s.heap.objs.size = some (eSet w) := Heap.get?_push_size _ rfl
    have tS : Shared.TypeIs { s with heap := s.heap.push (eSet w) } (.ref s.heap.objs.size) "set" := ⟨_, gS, rfl⟩
    have b1 := F.called_set.init.lookup
    have b2 := F.called_set.init.bind (.ref s.heap.objs.size)
    repeat (any_goals (first | assumption | wp_step))
    refine codeAny_mono (codeAny_call_builtin (R := wants (fun v u => v = .none ∧ ∃ g tk c, u = { s with heap := g, toks := tk } ∧ SetR w g s.heap.objs.size (fun j => decide (j ∈ ns)) c ∧ c ≤ ns.length ∧
      ∀ b o, s.heap.get? b = some o → g.get? b = some o) E) F.called_set.init.plain F.entry_set_init (check_set_init_1 tS ?_)) fun r2 u2 h2 => ?_
    · obtain ⟨⟨oc, od, odt, osl⟩, ho, e1, n1, e2⟩ := hl
      simp only at e1 e2
      subst e1 e2
      have ho1 : (s.heap.push (eSet w)).get? l = some { cls := .type "list", dict := od, data := .seq its n1, slots := osl } := Heap.get?_push_of_some _ ho
      have c1 := F.sub_list_set
      have c2 := F.sub_list_frozenset
      have c3 : (Value.type "list" == Value.type "dict") = false := by decide
      have hl1 : (s.heap.push (eSet w)).IsList l its := ⟨_, ho1, rfl, n1, rfl⟩
      unfold Builtin.«set.__init__» noKeywords Builtin.Frozenset.updateFrom
      generalize hPI : pyIter = PI
      wp_walk
      subst hPI
      refine wpAny_pyIter_list hl1 (wpAny_bind (wpAny_runValue ?_))
      have lt : l < s.heap.objs.size := Heap.lt_size ho
      have sz : (s.heap.push (eSet w)).objs.size = s.heap.objs.size + 1 := Heap.size_push ..
      have n2 : l ≠ (s.heap.push (eSet w)).objs.size := by rw [sz]; exact Nat.ne_of_lt (Nat.lt_succ_of_lt lt)
      have n3 : s.heap.objs.size ∉ [(s.heap.push (eSet w)).objs.size, l] := by
        rw [sz]
        simp only [List.mem_cons, List.not_mem_nil, or_false, not_or]
        exact ⟨Nat.ne_of_lt (Nat.lt_succ_self _), Nat.ne_of_gt lt⟩
      have vals : ∀ (i : Nat) (v : Value), its[i]? = some v → ∃ z t, ns[i]? = some z ∧ v = .int z t := fun i v hv => by
        have hlt : i < ns.length := nI ▸ (Array.getElem?_eq_some_iff.mp hv).1
        obtain ⟨t, e⟩ := IntsAre.int_at hi i v (by rw [Array.getElem?_toList]; exact hv)
        exact ⟨ns[i], t, List.getElem?_eq_getElem hlt, by rw [e, List.getD_eq_getElem?_getD, List.getElem?_eq_getElem hlt] <;> rfl⟩
      refine set_update_ints ((Walks.list (show A.in1.in1.in1.handled = none by simp [hh]) _ l n2 its).toS) s.heap.objs.size n3 ns nI hb vals (its.size - 0) 0 _ (by omega) (Nat.zero_le _)
        ⟨⟨_, Heap.get?_push_size _ rfl, rfl, rfl⟩, hl1.push _⟩ ⟨0, Nat.le_refl 0, setR_new_at (Heap.get?_push_of_some _ gS)⟩ fun u c hm hc hS => ?_
      obtain ⟨g, ug, ud, ut, uo⟩ := u
      obtain rfl : ug = s.gens := hm.gens
      obtain rfl : ud = s.drawn := hm.drawn
      obtain rfl : uo = s.os := hm.os
      show wpAny _ _ _ _ _ _
      refine wpAny_pure ?_
      show wpAny _ _ (ret Value.none) _ _ _
      refine wpAny_pure ⟨rfl, g, ut, c, rfl, hS, nI ▸ hc, fun b o e => ?_⟩
      have bl : b < s.heap.objs.size := Heap.lt_size e
      refine hm.heap b o ?_ (Heap.get?_push_of_some _ (Heap.get?_push_of_some _ e))
      rw [sz]
      simp only [List.mem_cons, List.not_mem_nil, or_false, not_or]
      exact ⟨Nat.ne_of_lt bl, Nat.ne_of_lt (Nat.lt_succ_of_lt bl)⟩
    · match r2, h2 with
      | .error _, z => exact z
      | .ok .next, z => exact z.elim
      | .ok .brk, z => exact z.elim
      | .ok .cont, z => exact z.elim
      | .ok (.ret _), z =>
        obtain ⟨rfl, g, tk, c, rfl, x1, x2, x3⟩ := z
        repeat (any_goals (first | assumption | wp_step))
        exact k _ _ _ x1 x2 x3
/-- set(xs), xs a list of few ints -/
def rSetI (K : PySem.W.Frag) (w : World) : List V → Hp → VK → Prop := fun vs H Q => ∃ (p : Addr) (ns : List Int), vs = [.ref p] ∧ SqL K H p (ns.map V.int) ∧ ns.length ≤ 60 ∧
  ∀ a n, H a = none → n ≤ ns.length → Q (.ref a) (upd H a (SetO w a (fun j => decide (j ∈ ns)) n))
theorem cr_setI {X : Cx} (hc : X.calm = true) : CallR X (.type "set") (rSetI X.K X.w) := by
  intro pins s σ H vs us Q I r h
  obtain ⟨p, ns, rfl, hq, hn, q⟩ := h
  rw [Vals.ref1 r]
  obtain ⟨its, rv, pl, _⟩ := I.list hq
  refine set_of_list ns (I.ok.hd hc) pl.isList (by simpa using intsAre_of rv) (by show ns.length + 1 < 4096; omega) fun g tk c hS hle hk => ?_
  exact ⟨.ref s.heap.objs.size, upd H s.heap.objs.size (SetO X.w s.heap.objs.size (fun j => decide (j ∈ ns)) c), I.laid (t' := tk) hk (Nat.le_refl _) (setO_new hS), rfl, q _ _ (I.hok.fresh (Nat.le_refl _)) hle⟩
end Cb

set_option Elab.async false
set_option linter.all false
set_option maxRecDepth 100000
set_option maxHeartbeats 4000000
namespace Cb
open PySem PySem.Spec PyProof.Rows L2 Evl
/-- the built-ins' names are not bound by the text -/
structure Blt (mg : Str → Option Value) : Prop where
  isinstance : mg "isinstance" = none
  int : mg "int" = none
  bool : mg "bool" = none
  list : mg "list" = none
  len : mg "len" = none
  all : mg "all" = none
  any : mg "any" = none
  zip : mg "zip" = none
  range : mg "range" = none
  max : mg "max" = none
  min : mg "min" = none
  abs : mg "abs" = none
  sum : mg "sum" = none
  enumerate : mg "enumerate" = none
  sorted : mg "sorted" = none
  set : mg "set" = none
  str : mg "str" = none
  tuple : mg "tuple" = none
end Cb

set_option Elab.async false
set_option linter.all false
set_option maxRecDepth 100000
set_option maxHeartbeats 4000000
/-! Classes: made, asked, their methods; a reading or another. -/
namespace Cb
open PySem PySem.Spec PyProof.Rows L2 Evl
/-- what isinstance asks of an own class -/
structure IsiT (K : PySem.W.Frag) (C : Addr) : Prop where
  ha : PySem.W.findIn K (.ref C) "__class__" = some (some (.builtin "object.__class__"))
  hn : PySem.W.specialIn K (.builtin "object.__class__") "__get__" = some (some (.builtin "getset_descriptor.__get__"))
  htk : PySem.W.takesIn K (.builtin "object.__class__") = some true
  hm : PySem.W.mroIn K C (.type "object") = some true
/-- the answers' classes -/
structure Kls (K : PySem.W.Frag) (mg : Str → Option Value) (CA CP CN : Addr) : Prop where
  gA : mg "Answer" = some (.ref CA)
  gP : mg "Paid" = some (.ref CP)
  gN : mg "Never" = some (.ref CN)
  clP : Cls K CP
  clN : Cls K CN
  nGive : NoAttr K CP "give"
  nBack : NoAttr K CP "back"
  nHei : NoAttr K CP "heights"
  nPart : NoAttr K CN "part"
  iP : IsiT K CP
  iN : IsiT K CN
  kPA : PySem.W.kitOne K (.ref CP) (.ref CA) = some true
  kPP : PySem.W.kitOne K (.ref CP) (.ref CP) = some true
  kPN : PySem.W.kitOne K (.ref CP) (.ref CN) = some false
  kNA : PySem.W.kitOne K (.ref CN) (.ref CA) = some true
  kNP : PySem.W.kitOne K (.ref CN) (.ref CP) = some false
  kNN : PySem.W.kitOne K (.ref CN) (.ref CN) = some true
/-- a method, an __init__, with its promise -/
structure CalM (P : Program) (w : World) (K : PySem.W.Frag) (mg : Str → Option Value) (base : Heap) (k : Nat) (C : Addr) (m : Str) (ps : List Str) (sp : Sp) : Prop where
  ex : ∃ (f : Addr) (fd : FuncData), FnOk P w K mg base CX0 k f fd ps sp ∧ Meth K C m f ∧ Binds K fd ps []
structure CalI (P : Program) (w : World) (K : PySem.W.Frag) (mg : Str → Option Value) (base : Heap) (k : Nat) (C : Addr) (ps : List Str) (sp : Sp) : Prop where
  ex : ∃ (f : Addr) (fd : FuncData), FnOk P w K mg base CX0 k f fd ps sp ∧ Mk K C f ∧ Binds K fd ps []
section
variable {X : Cx} {k : Nat} {x m : Str} {ps : List Str} {sp : Sp} {o e : Expr} {es : List Expr} {ta : TE} {t : TA} {p pos apos : Pos} {C : Addr}
theorem pc_meth {pl : Sem Bool} (he : PE X o ta) (c : Cls X.K C) (M : CalM X.prog X.w X.K X.mg X.base k C m ps sp) (hr : Room k X.A) (ha : PA X (e :: es) t)
    (hst : starEach (e :: es) X.env = (false, eval e X.env) :: starEach es X.env := by rfl) (hpl : (backTo pos (starEach es X.env)).any (·.1) = false := by rfl)
    (ht : eval (.Call (.Attribute o m apos) (e :: es) [] pos) X.env = (do
      let ov ← eval o X.env
      standAt apos.atName
      let (f, first) ← holding [ov] (getMethod ov m pl)
      callWith pos f first (backTo pos (starEach (e :: es) X.env)) (backToKw pos (keywordEach [] X.env))) := by rfl) :
    PE X (.Call (.Attribute o m apos) (e :: es) [] pos) (tMeth C m sp [] E0 ta t) := by
  obtain ⟨f, fd, F, hm, hb⟩ := M.ex
  exact pe_meth he c hm F hr hb .nil pass0 ha hst hpl ht
theorem pc_make (I : CalI X.prog X.w X.K X.mg X.base k C ps sp) (hr : Room (k + 1) X.A) (hm : X.mg x = some (.ref C)) (ha : PA X (e :: es) t) (hg : Gl X x := by rfl) (hdb : (x == ("__debug__" : Str)) = false := by decide)
    (he : starEach (e :: es) X.env = (false, eval e X.env) :: starEach es X.env := by rfl) (hpl : (backTo pos (starEach es X.env)).any (·.1) = false := by rfl) :
    PE X (.Call (.Name x p) (e :: es) [] pos) (tMake C sp [] E0 t) := by
  obtain ⟨f, fd, F, M, hb⟩ := I.ex
  exact pe_make M F hr hg hm hb .nil pass0 ha hdb he hpl
end
/-- one of two readings -/
def tEi (t u : TE) : TE := fun σ H Q => t σ H Q ∨ u σ H Q
theorem pe_ei {X : Cx} {e : Expr} {t u : TE} (h : PE X e t) (h' : PE X e u) : PE X e (tEi t u) :=
  ⟨fun pins s σ H Q I q => q.elim (fun z => h.run pins s σ H Q I z) fun z => h'.run pins s σ H Q I z⟩
end Cb

set_option linter.all false
/-! The mathematics: coins, walks in a strip, the fewest coins. Plain Lean. -/
namespace Chg

/-- a step: a coin given or back -/
def Stp (cs : List Int) (s : Int) : Prop := s ∈ cs ∨ -s ∈ cs
theorem Stp.neg {cs : List Int} {s : Int} (h : Stp cs s) : Stp cs (-s) := by
  rcases h with h | h
  · right; simpa using h
  · left; exact h
/-- k coins, given or back, come to t -/
def Reach (cs : List Int) (k : Nat) (t : Int) : Prop := ∃ l : List Int, l.length = k ∧ (∀ s ∈ l, Stp cs s) ∧ l.sum = t
/-- a walk of k steps from p to t, each place behind a step in [lo, hi) -/
def Walk (cs : List Int) (lo hi : Int) : Nat → Int → Int → Prop
  | 0, p, t => p = t
  | k + 1, p, t => ∃ s, Stp cs s ∧ lo ≤ p + s ∧ p + s < hi ∧ Walk cs lo hi k (p + s) t

theorem Walk.snoc {cs : List Int} {lo hi : Int} : ∀ {k : Nat} {p t s : Int}, Walk cs lo hi k p t → Stp cs s → lo ≤ t + s → t + s < hi → Walk cs lo hi (k + 1) p (t + s)
  | 0, p, t, s, h, hs, h1, h2 => by
    cases h
    exact ⟨s, hs, h1, h2, rfl⟩
  | k + 1, p, t, s, ⟨s', h', a, b, w⟩, hs, h1, h2 => ⟨s', h', a, b, Walk.snoc w hs h1 h2⟩
theorem Walk.unsnoc {cs : List Int} {lo hi : Int} : ∀ {k : Nat} {p t : Int}, Walk cs lo hi (k + 1) p t → ∃ s, Stp cs s ∧ lo ≤ t ∧ t < hi ∧ Walk cs lo hi k p (t - s)
  | 0, p, t, ⟨s, hs, a, b, w⟩ => by
    have w' : p + s = t := w
    exact ⟨s, hs, by omega, by omega, by show p = t - s; omega⟩
  | k + 1, p, t, ⟨s, hs, a, b, w⟩ => by
    obtain ⟨s2, h2, a2, b2, w2⟩ := Walk.unsnoc w
    exact ⟨s2, h2, a2, b2, s, hs, a, b, w2⟩
theorem Walk.reach {cs : List Int} {lo hi : Int} : ∀ {k : Nat} {p t : Int}, Walk cs lo hi k p t → Reach cs k (t - p)
  | 0, p, t, h => by
    cases h
    exact ⟨[], rfl, by simp, by simp⟩
  | k + 1, p, t, ⟨s, hs, a, b, w⟩ => by
    obtain ⟨l, h1, h2, h3⟩ := Walk.reach w
    refine ⟨s :: l, by simp [h1], ?_, ?_⟩
    · intro x hx
      rcases List.mem_cons.mp hx with rfl | hx
      · exact hs
      · exact h2 x hx
    · rw [List.sum_cons, h3]; omega
theorem sum_erase {l : List Int} {s : Int} (h : s ∈ l) : l.sum = s + (l.erase s).sum := by
  induction l with
  | nil => cases h
  | cons x r ih =>
    by_cases e : x = s
    · subst e; simp
    · rw [List.erase_cons_tail (by simpa using e)]
      have : s ∈ r := by
        rcases List.mem_cons.mp h with h | h
        · exact absurd h.symm e
        · exact h
      have := ih this
      simp only [List.sum_cons]
      omega
theorem sum_nonneg_of {l : List Int} (h : ∀ s ∈ l, 0 ≤ s) : 0 ≤ l.sum := by
  induction l with
  | nil => simp
  | cons x r ih =>
    have := ih (fun s hs => h s (List.mem_cons_of_mem _ hs))
    have := h x List.mem_cons_self
    simp only [List.sum_cons]; omega
theorem sum_nonpos_of {l : List Int} (h : ∀ s ∈ l, s ≤ 0) : l.sum ≤ 0 := by
  induction l with
  | nil => simp
  | cons x r ih =>
    have := ih (fun s hs => h s (List.mem_cons_of_mem _ hs))
    have := h x List.mem_cons_self
    simp only [List.sum_cons]; omega
theorem len_erase {l : List Int} {s : Int} {k : Nat} (h : s ∈ l) (hl : l.length = k + 1) : (l.erase s).length = k := by
  rw [List.length_erase_of_mem h]; omega
/-- steps can be put in such a turn that the strip is never left -/
theorem walk_of_steps {cs : List Int} {lo hi z : Int} (hc : ∀ w ∈ cs, 0 < w ∧ w ≤ z - lo ∧ w ≤ hi - z) : ∀ (k : Nat) (l : List Int) (p t : Int), l.length = k → (∀ s ∈ l, Stp cs s) → p + l.sum = t →
    lo ≤ p → p < hi → lo ≤ t → t < hi → Walk cs lo hi k p t
  | 0, l, p, t, hl, hs, e, _, _, _, _ => by
    have : l = [] := List.length_eq_zero_iff.mp hl
    subst this
    show p = t
    simpa using e
  | k + 1, l, p, t, hl, hs, e, h1, h2, h3, h4 => by
    have pos : ∀ s, Stp cs s → s ≠ 0 ∧ s ≤ z - lo ∧ -s ≤ z - lo ∧ s ≤ hi - z := fun s h => by
      rcases h with h | h
      · have := hc s h; omega
      · have := hc (-s) h; omega
    have take : ∀ s ∈ l, lo ≤ p + s → p + s < hi → Walk cs lo hi (k + 1) p t := fun s hm a b => by
      have e2 := sum_erase hm
      refine ⟨s, hs s hm, a, b, walk_of_steps hc k (l.erase s) (p + s) t (len_erase hm hl) (fun x hx => hs x (List.mem_of_mem_erase hx)) (by omega) a b h3 h4⟩
    have ne : ∃ s, s ∈ l := by
      cases l with
      | nil => simp at hl
      | cons x r => exact ⟨x, List.mem_cons_self⟩
    by_cases hp : z ≤ p
    · by_cases hn : ∃ s ∈ l, s < 0
      · obtain ⟨s, hm, hlt⟩ := hn
        have := pos s (hs s hm)
        exact take s hm (by omega) (by omega)
      · obtain ⟨s, hm⟩ := ne
        have hall : ∀ s ∈ l, 0 ≤ s := fun s hm => Int.not_lt.mp fun h => hn ⟨s, hm, h⟩
        have e2 := sum_erase hm
        have := sum_nonneg_of (l := l.erase s) fun x hx => hall x (List.mem_of_mem_erase hx)
        have := hall s hm
        exact take s hm (by omega) (by omega)
    · by_cases hn : ∃ s ∈ l, 0 < s
      · obtain ⟨s, hm, hlt⟩ := hn
        have := pos s (hs s hm)
        exact take s hm (by omega) (by omega)
      · obtain ⟨s, hm⟩ := ne
        have hall : ∀ s ∈ l, s ≤ 0 := fun s hm => Int.not_lt.mp fun h => hn ⟨s, hm, h⟩
        have e2 := sum_erase hm
        have := sum_nonpos_of (l := l.erase s) fun x hx => hall x (List.mem_of_mem_erase hx)
        have := hall s hm
        exact take s hm (by omega) (by omega)
theorem walk_iff {cs : List Int} {lo hi z : Int} (hc : ∀ w ∈ cs, 0 < w ∧ w ≤ z - lo ∧ w ≤ hi - z) {k : Nat} {t : Int} (hz : lo ≤ z ∧ z < hi) (ht : lo ≤ t ∧ t < hi) : Walk cs lo hi k z t ↔ Reach cs k (t - z) := by
  refine ⟨Walk.reach, fun ⟨l, h1, h2, h3⟩ => ?_⟩
  exact walk_of_steps hc k l z t h1 h2 (by omega) hz.1 hz.2 ht.1 ht.2

/-! ### reach -/
theorem Reach.add {cs : List Int} {k m : Nat} {t u : Int} : Reach cs k t → Reach cs m u → Reach cs (k + m) (t + u) := by
  rintro ⟨l, a, b, c⟩ ⟨l', a', b', c'⟩
  refine ⟨l ++ l', by simp [a, a'], ?_, by simp [c, c']⟩
  intro s hs
  rcases List.mem_append.mp hs with h | h
  · exact b s h
  · exact b' s h
theorem Reach.neg {cs : List Int} {k : Nat} {t : Int} : Reach cs k t → Reach cs k (-t) := by
  rintro ⟨l, a, b, c⟩
  refine ⟨l.map (- ·), by simp [a], ?_, ?_⟩
  · intro s hs
    obtain ⟨x, hx, rfl⟩ := List.mem_map.mp hs
    exact (b x hx).neg
  · rw [← c]
    clear a b c
    induction l with
    | nil => simp
    | cons x r ih => simp only [List.map_cons, List.sum_cons, ih]; omega
theorem reach_zero {cs : List Int} : Reach cs 0 0 := ⟨[], rfl, by simp, rfl⟩
theorem reach_coin {cs : List Int} {w : Int} (h : w ∈ cs) : Reach cs 1 w := ⟨[w], rfl, by simp; exact Or.inl h, by simp⟩
theorem reach_step {cs : List Int} {w : Int} (h : Stp cs w) : Reach cs 1 w := ⟨[w], rfl, by simp; exact h, by simp⟩
theorem Reach.mul {cs : List Int} {w : Int} (h : Stp cs w) : ∀ k : Nat, Reach cs k (k * w)
  | 0 => by simpa using reach_zero
  | k + 1 => by
    have := (Reach.mul h k).add (reach_step h)
    have e : ((k + 1 : Nat) : Int) * w = k * w + w := by rw [Int.natCast_add, Int.add_mul]; simp
    rw [e]; exact this
theorem Reach.sub {cs cs' : List Int} {k : Nat} {t : Int} (hs : ∀ w ∈ cs, w ∈ cs') : Reach cs k t → Reach cs' k t := by
  rintro ⟨l, a, b, c⟩
  refine ⟨l, a, fun s h => ?_, c⟩
  rcases b s h with z | z
  · exact Or.inl (hs _ z)
  · exact Or.inr (hs _ z)
/-- some coins come to it -/
def Can (cs : List Int) (t : Int) : Prop := ∃ k, Reach cs k t
theorem Can.add {cs : List Int} {t u : Int} : Can cs t → Can cs u → Can cs (t + u) := fun ⟨k, h⟩ ⟨m, h'⟩ => ⟨k + m, h.add h'⟩
theorem Can.neg {cs : List Int} {t : Int} : Can cs t → Can cs (-t) := fun ⟨k, h⟩ => ⟨k, h.neg⟩
theorem Can.nmul {cs : List Int} {t : Int} (h : Can cs t) : ∀ k : Nat, Can cs (k * t)
  | 0 => by
    have e : ((0 : Nat) : Int) * t = 0 := by simp
    rw [e]; exact ⟨0, reach_zero⟩
  | k + 1 => by
    have e : ((k + 1 : Nat) : Int) * t = k * t + t := by rw [Int.natCast_add, Int.add_mul]; simp
    rw [e]; exact (h.nmul k).add h
theorem Can.mul {cs : List Int} {t : Int} (h : Can cs t) (k : Int) : Can cs (k * t) := by
  rcases Int.lt_or_le k 0 with hk | hk
  · have := (h.nmul (-k).toNat).neg
    have e : ((-k).toNat : Int) = -k := by omega
    rw [e] at this
    have e2 : -(-k * t) = k * t := by rw [Int.neg_mul, Int.neg_neg]
    rw [e2] at this; exact this
  · have := h.nmul k.toNat
    have e : (k.toNat : Int) = k := by omega
    rw [e] at this; exact this
theorem Can.gcd {cs : List Int} : ∀ (m n : Nat), Can cs m → Can cs n → Can cs (Nat.gcd m n : Nat) := by
  intro m n
  induction m, n using Nat.gcd.induction with
  | H0 n => intro _ h; simpa using h
  | H1 m n hm ih =>
    intro h1 h2
    rw [Nat.gcd_rec]
    refine ih ?_ h1
    have := h2.add (h1.mul (-((n / m : Nat) : Int)))
    have e : (n : Int) + -((n / m : Nat) : Int) * (m : Int) = ((n % m : Nat) : Int) := by
      have := Nat.div_add_mod n m
      have e2 : ((m * (n / m) : Nat) : Int) + ((n % m : Nat) : Int) = n := by rw [← Int.natCast_add, this]
      rw [Int.natCast_mul] at e2
      rw [Int.neg_mul, Int.mul_comm]
      omega
    rw [e] at this; exact this

/-- the fewest -/
theorem least {P : Nat → Prop} : ∀ k, P k → ∃ m, m ≤ k ∧ P m ∧ ∀ j, j < m → ¬ P j := by
  intro k
  induction k using Nat.strongRecOn with
  | _ k ih =>
    intro h
    by_cases hx : ∃ j, j < k ∧ P j
    · obtain ⟨j, hj, pj⟩ := hx
      obtain ⟨m, a, b, c⟩ := ih j hj pj
      exact ⟨m, by omega, b, c⟩
    · exact ⟨k, Nat.le_refl _, h, fun j hj pj => hx ⟨j, hj, pj⟩⟩
/-- k is the least with P -/
def Least (P : Nat → Prop) (k : Nat) : Prop := P k ∧ ∀ j, j < k → ¬ P j
theorem Least.uniq {P : Nat → Prop} {a b : Nat} (h : Least P a) (h' : Least P b) : a = b := by
  rcases Nat.lt_trichotomy a b with z | z | z
  · exact absurd h.1 (h'.2 a z)
  · exact z
  · exact absurd h'.1 (h.2 b z)
open Classical in
/-- the least number with P, or -1 -/
noncomputable def leastI (P : Nat → Prop) : Int := if h : ∃ k, P k then ((Classical.choose (least (P := P) (Classical.choose h) (Classical.choose_spec h)) : Nat) : Int) else -1
theorem leastI_none {P : Nat → Prop} (h : ∀ k, ¬ P k) : leastI P = -1 := by
  unfold leastI
  rw [dif_neg (fun ⟨k, hk⟩ => h k hk)]
theorem leastI_some {P : Nat → Prop} {k : Nat} (h : Least P k) : leastI P = k := by
  unfold leastI
  have hx : ∃ k, P k := ⟨k, h.1⟩
  rw [dif_pos hx]
  have sp := Classical.choose_spec (least (P := P) (Classical.choose hx) (Classical.choose_spec hx))
  exact congrArg Int.ofNat (Least.uniq ⟨sp.2.1, sp.2.2⟩ h)
theorem leastI_iff {P Q : Nat → Prop} (h : ∀ k, P k ↔ Q k) : leastI P = leastI Q := by
  have : P = Q := funext fun k => propext (h k)
  rw [this]
theorem leastI_cases (P : Nat → Prop) : (leastI P = -1 ∧ ∀ k, ¬ P k) ∨ ∃ k : Nat, leastI P = k ∧ Least P k := by
  by_cases h : ∃ k, P k
  · obtain ⟨k, hk⟩ := h
    obtain ⟨m, _, a, b⟩ := least k hk
    exact .inr ⟨m, leastI_some ⟨a, b⟩, a, b⟩
  · have h' : ∀ k, ¬ P k := fun k hk => h ⟨k, hk⟩
    exact .inl ⟨leastI_none h', h'⟩
/-- the fewest coins that come to t (-1: none do) -/
noncomputable def few (cs : List Int) (t : Int) : Int := leastI fun k => Reach cs k t
end Chg

set_option linter.all false
namespace Chg
/-! ### the greatest number that goes into all -/
def gc (cs : List Int) : Int := cs.foldl (fun a w => (Int.gcd a w : Int)) 0
theorem gc_dvd_aux (cs : List Int) : ∀ a : Int, cs.foldl (fun a w => (Int.gcd a w : Int)) a ∣ a ∧ ∀ w ∈ cs, cs.foldl (fun a w => (Int.gcd a w : Int)) a ∣ w := by
  induction cs with
  | nil => intro a; simp
  | cons x r ih =>
    intro a
    rw [List.foldl_cons]
    obtain ⟨h1, h2⟩ := ih (Int.gcd a x)
    refine ⟨Int.dvd_trans h1 (Int.gcd_dvd_left _ _), fun w hw => ?_⟩
    rcases List.mem_cons.mp hw with rfl | hw
    · exact Int.dvd_trans h1 (Int.gcd_dvd_right _ _)
    · exact h2 w hw
theorem gc_dvd {cs : List Int} {w : Int} (h : w ∈ cs) : gc cs ∣ w := (gc_dvd_aux cs 0).2 w h
theorem gc_great_aux {d : Int} (cs : List Int) : ∀ a : Int, d ∣ a → (∀ w ∈ cs, d ∣ w) → d ∣ cs.foldl (fun a w => (Int.gcd a w : Int)) a := by
  induction cs with
  | nil => intro a h _; simpa using h
  | cons x r ih =>
    intro a h hs
    rw [List.foldl_cons]
    exact ih _ (Int.dvd_coe_gcd h (hs x List.mem_cons_self)) fun w hw => hs w (List.mem_cons_of_mem _ hw)
theorem gc_great {d : Int} {cs : List Int} (h : ∀ w ∈ cs, d ∣ w) : d ∣ gc cs := gc_great_aux cs 0 (Int.dvd_zero d) h
theorem gc_nonneg_aux (cs : List Int) : ∀ a : Int, 0 ≤ a → 0 ≤ cs.foldl (fun a w => (Int.gcd a w : Int)) a := by
  induction cs with
  | nil => intro a h; simpa using h
  | cons x r ih => intro a h; rw [List.foldl_cons]; exact ih _ (by omega)
theorem gc_nonneg (cs : List Int) : 0 ≤ gc cs := gc_nonneg_aux cs 0 (by omega)
theorem gc_pos {cs : List Int} {w : Int} (h : w ∈ cs) (hw : 0 < w) : 0 < gc cs := by
  have h1 := gc_nonneg cs
  have h2 := gc_dvd h
  rcases Int.lt_or_eq_of_le h1 with z | z
  · exact z
  · rw [← z] at h2
    have := Int.zero_dvd.mp h2
    omega
theorem can_gc_aux {cs0 : List Int} (cs : List Int) : ∀ a : Int, 0 ≤ a → Can cs0 a → (∀ w ∈ cs, Can cs0 w ∧ 0 ≤ w) → Can cs0 (cs.foldl (fun a w => (Int.gcd a w : Int)) a) := by
  induction cs with
  | nil => intro a _ h _; simpa using h
  | cons x r ih =>
    intro a ha h hs
    rw [List.foldl_cons]
    refine ih _ (by omega) ?_ fun w hw => hs w (List.mem_cons_of_mem _ hw)
    obtain ⟨hx, hx0⟩ := hs x List.mem_cons_self
    have := Can.gcd a.toNat x.toNat (by rw [show ((a.toNat : Nat) : Int) = a by omega]; exact h) (by rw [show ((x.toNat : Nat) : Int) = x by omega]; exact hx)
    have e : Nat.gcd a.toNat x.toNat = Int.gcd a x := by
      unfold Int.gcd
      rw [show a.natAbs = a.toNat by omega, show x.natAbs = x.toNat by omega]
    rw [e] at this
    exact this
theorem can_gc {cs : List Int} (h : ∀ w ∈ cs, 0 < w) : Can cs (gc cs) :=
  can_gc_aux cs 0 (by omega) ⟨0, reach_zero⟩ fun w hw => ⟨⟨1, reach_coin hw⟩, by have := h w hw; omega⟩
theorem dvd_sum {d : Int} {l : List Int} (h : ∀ s ∈ l, d ∣ s) : d ∣ l.sum := by
  induction l with
  | nil => simp
  | cons x r ih =>
    rw [List.sum_cons]
    exact Int.dvd_add (h x List.mem_cons_self) (ih fun s hs => h s (List.mem_cons_of_mem _ hs))
theorem can_iff {cs : List Int} (h : ∀ w ∈ cs, 0 < w) {t : Int} : Can cs t ↔ gc cs ∣ t := by
  refine ⟨fun ⟨k, l, _, b, c⟩ => ?_, fun ⟨m, e⟩ => ?_⟩
  · rw [← c]
    refine dvd_sum fun s hs => ?_
    rcases b s hs with z | z
    · exact gc_dvd z
    · exact (Int.dvd_neg).mp (gc_dvd z)
  · have := (can_gc h).mul m
    rw [e, Int.mul_comm]; exact this
/-- the loop of common -/
theorem gcd_step {a b : Int} (ha : 0 ≤ a) (hb : 0 < b) : Int.gcd b (a % b) = Int.gcd a b := by
  rw [Int.gcd_comm b]; unfold Int.gcd; rw [show (a % b).natAbs = a.natAbs % b.natAbs by rw [Int.natAbs_emod_of_nonneg ha]]; rw [← Nat.gcd_rec, Nat.gcd_comm]

/-! ### the queue -/
/-- the entry at a place -/
def ent (F : List Int) (x : Int) : Int := F.getD x.toNat 0
theorem ent_set_same {F : List Int} {x v : Int} (h0 : 0 ≤ x) (h : x < F.length) : ent (F.set x.toNat v) x = v := by
  unfold ent
  rw [List.getD_eq_getElem?_getD, List.getElem?_set_self (by omega)]; rfl
theorem ent_set_ne {F : List Int} {x y v : Int} (h0 : 0 ≤ x) (h1 : 0 ≤ y) (h : x ≠ y) : ent (F.set x.toNat v) y = ent F y := by
  unfold ent
  rw [List.getD_eq_getElem?_getD, List.getD_eq_getElem?_getD, List.getElem?_set_ne (by omega)]
/-- one neighbour looked at -/
def visit (here : Int) (st : List Int × List Int) (there : Int) : List Int × List Int :=
  if 0 ≤ there ∧ there < st.1.length ∧ ent st.1 there < 0 then (st.1.set there.toNat (ent st.1 here + 1), st.2 ++ [there]) else st
/-- how many entries are below 0 -/
def negs (F : List Int) : Nat := F.countP fun x => decide (x < 0)
theorem negs_set : ∀ {F : List Int} {i : Nat} {v : Int}, i < F.length → F.getD i 0 < 0 → 0 ≤ v → negs (F.set i v) + 1 = negs F
  | [], i, v, h, _, _ => by simp at h
  | x :: r, 0, v, h, h1, h2 => by
    have h1' : x < 0 := h1
    unfold negs
    rw [List.set_cons_zero, List.countP_cons, List.countP_cons]
    simp [h1', show ¬ v < 0 by omega]
  | x :: r, i + 1, v, h, h1, h2 => by
    have := negs_set (F := r) (i := i) (v := v) (by simpa using h) (by simpa using h1) h2
    unfold negs at *
    rw [List.set_cons_succ, List.countP_cons, List.countP_cons]
    omega
structure Bst (cs : List Int) (n g : Int) (F : List Int) : Prop where
  len : (F.length : Int) = n
  low : ∀ j, 0 ≤ j → j < n → -1 ≤ ent F j
  zero : ent F g = 0
  walk : ∀ j, 0 ≤ j → j < n → 0 ≤ ent F j → Walk cs 0 n (ent F j).toNat g j
/-- between two turns of the while -/
structure Bq (cs : List Int) (n g : Int) (F T : List Int) : Prop extends Bst cs n g F where
  turn : ∀ x ∈ T, 0 ≤ x ∧ x < n ∧ 0 ≤ ent F x
  srt : T.Pairwise fun x y => ent F x ≤ ent F y
  top : ∀ x ∈ T, ∀ j, 0 ≤ j → j < n → ent F j ≤ ent F x + 1
  done : ∀ j, 0 ≤ j → j < n → 0 ≤ ent F j → j ∉ T → ∀ s, Stp cs s → 0 ≤ j + s → j + s < n → 0 ≤ ent F (j + s) ∧ ent F (j + s) ≤ ent F j + 1
/-- while here's neighbours are looked at; S: the steps gone -/
structure Be (cs : List Int) (n g here d : Int) (S : Int → Prop) (F T : List Int) : Prop extends Bst cs n g F where
  h0 : 0 ≤ here
  hn : here < n
  hd : ent F here = d
  d0 : 0 ≤ d
  turn : ∀ x ∈ T, 0 ≤ x ∧ x < n ∧ d ≤ ent F x
  srt : T.Pairwise fun x y => ent F x ≤ ent F y
  top : ∀ j, 0 ≤ j → j < n → ent F j ≤ d + 1
  done : ∀ j, 0 ≤ j → j < n → j ≠ here → 0 ≤ ent F j → j ∉ T → ∀ s, Stp cs s → 0 ≤ j + s → j + s < n → 0 ≤ ent F (j + s) ∧ ent F (j + s) ≤ ent F j + 1
  mine : ∀ s, S s → 0 ≤ here + s → here + s < n → 0 ≤ ent F (here + s)
theorem Bq.pop {cs : List Int} {n g here : Int} {F T : List Int} (h : Bq cs n g F (here :: T)) : Be cs n g here (ent F here) (fun _ => False) F T where
  toBst := h.toBst
  h0 := (h.turn here List.mem_cons_self).1
  hn := (h.turn here List.mem_cons_self).2.1
  hd := rfl
  d0 := (h.turn here List.mem_cons_self).2.2
  turn := fun x hx => ⟨(h.turn x (List.mem_cons_of_mem _ hx)).1, (h.turn x (List.mem_cons_of_mem _ hx)).2.1, (List.pairwise_cons.mp h.srt).1 x hx⟩
  srt := (List.pairwise_cons.mp h.srt).2
  top := h.top here List.mem_cons_self
  done := fun j a b hj c d => h.done j a b c (by
    intro hm
    rcases List.mem_cons.mp hm with z | z
    · exact hj z
    · exact d z)
  mine := fun _ z => z.elim
theorem Be.fin {cs : List Int} {n g here d : Int} {S : Int → Prop} {F T : List Int} (h : Be cs n g here d S F T) (hS : ∀ s, Stp cs s → S s) : Bq cs n g F T where
  toBst := h.toBst
  turn := fun x hx => ⟨(h.turn x hx).1, (h.turn x hx).2.1, by have := (h.turn x hx).2.2; have := h.d0; omega⟩
  srt := h.srt
  top := fun x hx j a b => by have := h.top j a b; have := (h.turn x hx).2.2; omega
  done := fun j a b c e s hs h1 h2 => by
    by_cases hj : j = here
    · subst hj
      have := h.mine s (hS s hs) h1 h2
      have := h.top (j + s) h1 h2
      have := h.hd
      omega
    · exact h.done j a b hj c e s hs h1 h2
theorem Be.visit {cs : List Int} {n g here d s : Int} {S : Int → Prop} {F T : List Int} (h : Be cs n g here d S F T) (hs : Stp cs s) :
    Be cs n g here d (fun x => S x ∨ x = s) (visit here (F, T) (here + s)).1 (visit here (F, T) (here + s)).2 ∧
    negs (visit here (F, T) (here + s)).1 + (visit here (F, T) (here + s)).2.length = negs F + T.length := by
  unfold Chg.visit
  have hl := h.len
  split
  · rename_i c
    obtain ⟨c0, c1, c2⟩ := c
    dsimp only at c0 c1 c2 ⊢
    have hne : here + s ≠ here := by
      intro e
      rw [e, h.hd] at c2
      have := h.d0; omega
    have same : ent (F.set (here + s).toNat (ent F here + 1)) (here + s) = d + 1 := by rw [ent_set_same c0 c1, h.hd]
    have other : ∀ y, 0 ≤ y → y ≠ here + s → ent (F.set (here + s).toNat (ent F here + 1)) y = ent F y := fun y h1 h2 => ent_set_ne c0 h1 (Ne.symm h2)
    have nT : here + s ∉ T := fun hm => by
      have := (h.turn _ hm).2.2
      have := h.d0
      omega
    have keep : ∀ y, 0 ≤ y → 0 ≤ ent F y → ent (F.set (here + s).toNat (ent F here + 1)) y = ent F y := fun y h1 h2 => other y h1 (by rintro rfl; omega)
    have d0 := h.d0
    have eT : ∀ x ∈ T, ent (F.set (here + s).toNat (ent F here + 1)) x = ent F x := fun x hx => other x (h.turn x hx).1 (by rintro rfl; exact nT hx)
    refine ⟨?_, ?_⟩
    · refine { len := by rw [List.length_set]; exact hl, low := ?_, zero := ?_, walk := ?_, h0 := h.h0, hn := h.hn, hd := ?_, d0 := h.d0, turn := ?_, srt := ?_, top := ?_, done := ?_, mine := ?_ }
      · intro j a b
        by_cases e : j = here + s
        · subst e; omega
        · rw [other j a e]; exact h.low j a b
      · by_cases hg : 0 ≤ g
        · by_cases e : g = here + s
          · rw [← e, h.zero] at c2; omega
          · rw [other g hg e]; exact h.zero
        · have := h.zero
          have eg : ent F g = ent F 0 := by unfold ent; rw [show g.toNat = (0 : Int).toNat by omega]
          have eg2 : ent (F.set (here + s).toNat (ent F here + 1)) g = ent (F.set (here + s).toNat (ent F here + 1)) 0 := by unfold ent; rw [show g.toNat = (0 : Int).toNat by omega]
          rw [eg2, keep 0 (by omega) (by omega), ← eg]; exact this
      · intro j a b c
        by_cases e : j = here + s
        · subst e
          rw [same]
          have w := h.walk here h.h0 h.hn (by rw [h.hd]; exact d0)
          rw [h.hd] at w
          have e2 : (d + 1).toNat = d.toNat + 1 := by omega
          rw [e2]
          exact w.snoc hs c0 (by omega)
        · rw [other j a e] at c ⊢
          exact h.walk j a b c
      · rw [keep here h.h0 (by rw [h.hd]; exact d0)]; exact h.hd
      · intro x hx
        rcases List.mem_append.mp hx with hx | hx
        · rw [eT x hx]; exact h.turn x hx
        · have e : x = here + s := by simpa using hx
          subst e
          omega
      · rw [List.pairwise_append]
        refine ⟨?_, by simp, ?_⟩
        · exact h.srt.imp_of_mem fun {x y} hx hy q => by rw [eT x hx, eT y hy]; exact q
        · intro x hx y hy
          have e : y = here + s := by simpa using hy
          subst e
          rw [eT x hx, same]
          exact h.top x (h.turn x hx).1 (h.turn x hx).2.1
      · intro j a b
        by_cases e : j = here + s
        · subst e; omega
        · rw [other j a e]; exact h.top j a b
      · intro j a b hj c hT s' hs' h1 h2
        have hjT : j ∉ T := fun z => hT (List.mem_append_left _ z)
        have hj2 : j ≠ here + s := fun z => hT (List.mem_append_right _ (by simp [z]))
        rw [other j a hj2] at c ⊢
        have q := h.done j a b hj c hjT s' hs' h1 h2
        rw [keep (j + s') h1 q.1]
        exact q
      · intro x hx h1 h2
        rcases hx with hx | rfl
        · have := h.mine x hx h1 h2
          rw [keep _ h1 this]; exact this
        · rw [same]; omega
    · have := negs_set (F := F) (i := (here + s).toNat) (v := ent F here + 1) (by omega) c2 (by rw [h.hd]; omega)
      rw [List.length_append]
      show _ + (T.length + 1) = _
      omega
  · rename_i c
    refine ⟨{ toBst := h.toBst, h0 := h.h0, hn := h.hn, hd := h.hd, d0 := h.d0, turn := h.turn, srt := h.srt, top := h.top, done := h.done, mine := ?_ }, rfl⟩
    intro x hx h1 h2
    rcases hx with hx | rfl
    · exact h.mine x hx h1 h2
    · dsimp only at c
      by_cases q : 0 ≤ ent F (here + x)
      · exact q
      · exact absurd ⟨h1, by omega, by omega⟩ c
/-- at the end -/
theorem Bq.dist {cs : List Int} {n g : Int} {F : List Int} (h : Bq cs n g F []) (hg : 0 ≤ g ∧ g < n) : ∀ (k : Nat) (j : Int), Walk cs 0 n k g j → 0 ≤ ent F j ∧ ent F j ≤ k ∧ 0 ≤ j ∧ j < n
  | 0, j, w => by
    cases w
    rw [h.zero]; omega
  | k + 1, j, w => by
    obtain ⟨s, hs, a, b, w'⟩ := w.unsnoc
    obtain ⟨q1, q2, q3, q4⟩ := Bq.dist h hg k _ w'
    have := h.done (j - s) q3 q4 q1 (by simp) s hs (by omega) (by omega)
    have e : j - s + s = j := by omega
    rw [e] at this
    omega
/-- heights of a strip of n places, from g -/
noncomputable def hts (cs : List Int) (n g : Int) : List Int := (List.range n.toNat).map fun (j : Nat) => leastI fun k => Walk cs 0 n k g (j : Int)
theorem hts_len {cs : List Int} {n g : Int} : (hts cs n g).length = n.toNat := by unfold hts; simp
theorem hts_ent {cs : List Int} {n g j : Int} (h0 : 0 ≤ j) (h : j < n) : ent (hts cs n g) j = leastI fun k => Walk cs 0 n k g j := by
  unfold ent hts
  rw [List.getD_eq_getElem?_getD, List.getElem?_map, List.getElem?_range (by omega)]
  show leastI _ = _
  rw [show ((j.toNat : Nat) : Int) = j by omega]
theorem eq_of_ent {F G : List Int} {n : Int} (h1 : (F.length : Int) = n) (h2 : (G.length : Int) = n) (h : ∀ j, 0 ≤ j → j < n → ent F j = ent G j) : F = G := by
  refine List.ext_getElem (by omega) fun i a b => ?_
  have := h i (by omega) (by omega)
  unfold ent at this
  simpa [List.getD_eq_getElem?_getD, List.getElem?_eq_getElem a, List.getElem?_eq_getElem b] using this
theorem Bq.hts {cs : List Int} {n g : Int} {F : List Int} (h : Bq cs n g F []) (hg : 0 ≤ g ∧ g < n) : F = Chg.hts cs n g := by
  have hl := h.len
  refine eq_of_ent hl (by rw [hts_len]; omega) fun j a b => ?_
  rw [hts_ent a b]
  by_cases q : 0 ≤ ent F j
  · have w := h.walk j a b q
    have : Least (fun k => Walk cs 0 n k g j) (ent F j).toNat := ⟨w, fun k hk w' => by
      have := (h.dist hg k j w').2.1
      omega⟩
    rw [leastI_some this]; omega
  · rw [leastI_none fun k w => q (h.dist hg k j w).1]
    have := h.low j a b
    omega
theorem Bq.start {cs : List Int} {n g : Int} (hg : 0 ≤ g ∧ g < n) : Bq cs n g ((List.replicate n.toNat (-1)).set g.toNat 0) [g] := by
  have l : ((List.replicate n.toNat (-1 : Int)).length : Int) = n := by simp; omega
  have same : ent ((List.replicate n.toNat (-1)).set g.toNat 0) g = 0 := ent_set_same hg.1 (by omega)
  have other : ∀ j, 0 ≤ j → j < n → j ≠ g → ent ((List.replicate n.toNat (-1)).set g.toNat 0) j = -1 := fun j a b c => by
    rw [ent_set_ne hg.1 a (Ne.symm c)]
    unfold ent
    rw [List.getD_eq_getElem?_getD, List.getElem?_replicate_of_lt (by omega)]; rfl
  refine { len := by rw [List.length_set]; exact l, low := ?_, zero := same, walk := ?_, turn := ?_, srt := by simp, top := ?_, done := ?_ }
  · intro j a b
    by_cases e : j = g
    · subst e; omega
    · rw [other j a b e]; omega
  · intro j a b c
    by_cases e : j = g
    · subst e; rw [same]; rfl
    · rw [other j a b e] at c; omega
  · intro x hx
    have e : x = g := by simpa using hx
    subst e; omega
  · intro x hx j a b
    have e : x = g := by simpa using hx
    subst e
    by_cases e : j = x
    · subst e; omega
    · rw [other j a b e]; omega
  · intro j a b c d
    have e : j ≠ g := fun z => d (by simp [z])
    rw [other j a b e] at c; omega
end Chg

set_option linter.all false
namespace Chg
theorem few_cases (cs : List Int) (t : Int) : (few cs t = -1 ∧ ∀ k, ¬ Reach cs k t) ∨ ∃ k : Nat, few cs t = k ∧ Least (fun k => Reach cs k t) k := leastI_cases _
theorem few_of {cs : List Int} {t : Int} {k : Nat} (h : Least (fun k => Reach cs k t) k) : few cs t = k := leastI_some h
theorem few_can {cs : List Int} {t : Int} (h : Can cs t) : ∃ k : Nat, few cs t = k ∧ Least (fun k => Reach cs k t) k := by
  rcases few_cases cs t with ⟨_, z⟩ | z
  · obtain ⟨k, hk⟩ := h
    exact absurd hk (z k)
  · exact z
theorem few_le {cs : List Int} {t : Int} {k : Nat} (h : Reach cs k t) : few cs t ≤ k ∧ 0 ≤ few cs t := by
  obtain ⟨m, e, a, b⟩ := few_can ⟨k, h⟩
  rw [e]
  have : ¬ k < m := fun z => b k z h
  omega
theorem few_zero {cs : List Int} : few cs 0 = 0 := by
  have := few_le (cs := cs) reach_zero
  omega
theorem hts_few {cs : List Int} {n g a t : Int} (hc : ∀ w ∈ cs, 0 < w ∧ w ≤ g) (hg : 0 < g) (ha : 0 ≤ a) (hn : n = a + 2 * g) (h1 : -g ≤ t) (h2 : t < a + g) : ent (hts cs n g) (g + t) = few cs t := by
  rw [hts_ent (by omega) (by omega)]
  refine leastI_iff fun k => ?_
  rw [walk_iff (z := g) (fun w hw => by have := hc w hw; omega) (by omega) (by omega)]
  rw [show g + t - g = t by omega]
theorem few_add {cs : List Int} {t u : Int} (h : Can cs t) (h' : Can cs u) : few cs (t + u) ≤ few cs t + few cs u := by
  obtain ⟨k, e, a, _⟩ := few_can h
  obtain ⟨m, e', a', _⟩ := few_can h'
  have := (few_le (a.add a')).1
  omega
theorem few_sub {cs cs' : List Int} {t : Int} (hs : ∀ w ∈ cs, w ∈ cs') (h : Can cs t) : few cs' t ≤ few cs t := by
  obtain ⟨k, e, a, _⟩ := few_can h
  have := (few_le (a.sub hs)).1
  omega
theorem few_near {cs : List Int} {t g : Int} (h : Can cs t) (hg : g ∈ cs) : few cs (t + g) ≤ few cs t + 1 ∧ few cs t ≤ few cs (t + g) + 1 := by
  obtain ⟨k, e, a, _⟩ := few_can h
  have h1 := (few_le (a.add (reach_coin hg))).1
  obtain ⟨m, e', a', _⟩ := few_can (h.add ⟨1, reach_coin hg⟩)
  have h2 := (few_le (a'.add (reach_coin hg).neg)).1
  rw [show t + g + -g = t by omega] at h2
  omega
theorem sum_map_mul (c : Int) (l : List Int) : (l.map (c * ·)).sum = c * l.sum := by
  induction l with
  | nil => simp
  | cons x r ih => simp only [List.map_cons, List.sum_cons, ih, Int.mul_add]
theorem reach_times {cs : List Int} {c : Int} (hc : 0 < c) {k : Nat} {t : Int} : Reach (cs.map (c * ·)) k (c * t) ↔ Reach cs k t := by
  refine ⟨fun ⟨l, a, b, e⟩ => ?_, fun ⟨l, a, b, e⟩ => ?_⟩
  · have : ∀ s ∈ l, ∃ u, Stp cs u ∧ s = c * u := fun s hs => by
      rcases b s hs with z | z
      · obtain ⟨w, hw, e⟩ := List.mem_map.mp z
        exact ⟨w, .inl hw, e.symm⟩
      · obtain ⟨w, hw, e⟩ := List.mem_map.mp z
        exact ⟨-w, .inr (by simpa using hw), by rw [Int.mul_neg, e]; omega⟩
    have : ∃ l' : List Int, l'.length = l.length ∧ (∀ s ∈ l', Stp cs s) ∧ l = l'.map (c * ·) := by
      clear a b e
      induction l with
      | nil => exact ⟨[], rfl, by simp, rfl⟩
      | cons x r ih =>
        obtain ⟨l', h1, h2, h3⟩ := ih fun s hs => this s (List.mem_cons_of_mem _ hs)
        obtain ⟨u, hu, e⟩ := this x List.mem_cons_self
        refine ⟨u :: l', by simp [h1], ?_, by rw [e, h3]; rfl⟩
        intro s hs
        rcases List.mem_cons.mp hs with rfl | hs
        · exact hu
        · exact h2 s hs
    obtain ⟨l', h1, h2, h3⟩ := this
    refine ⟨l', by omega, h2, ?_⟩
    rw [h3, sum_map_mul] at e
    exact Int.eq_of_mul_eq_mul_left (by omega) e
  · refine ⟨l.map (c * ·), by simp [a], ?_, by rw [sum_map_mul, e]⟩
    intro s hs
    obtain ⟨u, hu, rfl⟩ := List.mem_map.mp hs
    rcases b u hu with z | z
    · exact .inl (List.mem_map.mpr ⟨u, z, rfl⟩)
    · exact .inr (List.mem_map.mpr ⟨-u, z, by rw [Int.mul_neg]⟩)
theorem few_times {cs : List Int} {c t : Int} (hc : 0 < c) : few (cs.map (c * ·)) (c * t) = few cs t := leastI_iff fun k => reach_times hc

/-! ### an amount more by the greatest worth -/
theorem pigeon : ∀ (G : Nat) (f : Nat → Nat), (∀ i, i ≤ G → f i < G) → ∃ i j, i < j ∧ j ≤ G ∧ f i = f j
  | 0, f, h => by have := h 0 (by omega); omega
  | G + 1, f, h => by
    by_cases hx : ∃ i, i ≤ G ∧ f i = f (G + 1)
    · obtain ⟨i, a, b⟩ := hx
      exact ⟨i, G + 1, by omega, by omega, b⟩
    · have hne : ∀ i, i ≤ G → f i ≠ f (G + 1) := fun i hi e => hx ⟨i, hi, e⟩
      have hv := h (G + 1) (by omega)
      obtain ⟨i, j, a, b, c⟩ := pigeon G (fun i => if f i > f (G + 1) then f i - 1 else f i) fun i hi => by
        have h1 := h i (by omega)
        have h2 := hne i hi
        split <;> omega
      refine ⟨i, j, a, by omega, ?_⟩
      have h1 := hne i (by omega)
      have h2 := hne j (by omega)
      split at c <;> split at c <;> omega
theorem sum_bound {l : List Int} {m : Int} (hm : 0 ≤ m) (h : ∀ s ∈ l, -m ≤ s ∧ s ≤ m) : -(l.length * m) ≤ l.sum ∧ l.sum ≤ l.length * m := by
  induction l with
  | nil => simp
  | cons x r ih =>
    have h1 := ih fun s hs => h s (List.mem_cons_of_mem _ hs)
    have h2 := h x List.mem_cons_self
    rw [List.sum_cons, List.length_cons, Int.natCast_add, Int.add_mul]
    simp only [Int.natCast_one, Int.one_mul]
    omega
theorem take_sum_split (L : List Int) (i j : Nat) (h : i ≤ j) : (L.take j).sum = (L.take i).sum + ((L.take j).drop i).sum := by
  have e : (L.take j).take i ++ (L.take j).drop i = L.take j := List.take_append_drop _ _
  have e2 : (L.take j).take i = L.take i := by rw [List.take_take, Nat.min_eq_left h]
  rw [e2] at e
  calc (L.take j).sum = (L.take i ++ (L.take j).drop i).sum := by rw [e]
    _ = _ := by rw [List.sum_append]
/-- among g steps some in a row come to a multiple of g -/
theorem block {g : Int} (hg : 0 < g) {L : List Int} (hL : g ≤ L.length) : ∃ a b c : List Int, L = a ++ b ++ c ∧ b ≠ [] ∧ g ∣ b.sum := by
  obtain ⟨i, j, h1, h2, h3⟩ := pigeon g.toNat (fun i => ((L.take i).sum % g).toNat) fun i _ => by
    have := Int.emod_nonneg (L.take i).sum (show g ≠ 0 by omega)
    have := Int.emod_lt_of_pos (L.take i).sum hg
    omega
  have ei : (L.take i).sum % g = (L.take j).sum % g := by
    have := Int.emod_nonneg (L.take i).sum (show g ≠ 0 by omega)
    have := Int.emod_nonneg (L.take j).sum (show g ≠ 0 by omega)
    omega
  refine ⟨L.take i, (L.take j).drop i, L.drop j, ?_, ?_, ?_⟩
  · have e1 : L.take i ++ (L.take j).drop i = L.take j := by
      have e : (L.take j).take i ++ (L.take j).drop i = L.take j := List.take_append_drop _ _
      rw [List.take_take, Nat.min_eq_left (by omega)] at e
      exact e
    rw [e1, List.take_append_drop]
  · intro e
    have : ((L.take j).drop i).length = 0 := by rw [e]; rfl
    rw [List.length_drop, List.length_take] at this
    omega
  · have := take_sum_split L i j (by omega)
    have e : ((L.take j).drop i).sum = (L.take j).sum - (L.take i).sum := by omega
    rw [e]
    exact Int.dvd_of_emod_eq_zero (by rw [Int.sub_emod, ei]; simp)
theorem part_sum (p : Int → Bool) (l : List Int) : l.sum = (l.filter p).sum + (l.filter fun x => !p x).sum ∧ l.length = (l.filter p).length + (l.filter fun x => !p x).length := by
  induction l with
  | nil => simp
  | cons x r ih =>
    obtain ⟨h1, h2⟩ := ih
    cases hp : p x
    · rw [List.filter_cons_of_neg (by simp [hp]), List.filter_cons_of_pos (by simp [hp])]
      simp only [List.sum_cons, List.length_cons]
      omega
    · rw [List.filter_cons_of_pos hp, List.filter_cons_of_neg (by simp [hp])]
      simp only [List.sum_cons, List.length_cons]
      omega
theorem mult_reach {cs : List Int} {g m : Int} (hg : g ∈ cs) : Reach cs m.natAbs (g * m) := by
  rcases Int.lt_or_le m 0 with h | h
  · have := Reach.mul (cs := cs) (w := -g) (.inr (by simpa using hg)) m.natAbs
    rw [show ((m.natAbs : Nat) : Int) = -m by omega, Int.neg_mul_neg, Int.mul_comm] at this
    exact this
  · have := Reach.mul (cs := cs) (w := g) (.inl hg) m.natAbs
    rw [show ((m.natAbs : Nat) : Int) = m by omega, Int.mul_comm] at this
    exact this
theorem great_has {cs : List Int} {g t : Int} (hc : ∀ w ∈ cs, 0 < w ∧ w ≤ g) (hg : g ∈ cs) (ht : g * g ≤ t) {l : List Int} (hs : ∀ s ∈ l, Stp cs s) (hl : l.sum = t + g)
    (hm : ∀ j, j < l.length → ¬ Reach cs j (t + g)) : g ∈ l := by
  by_cases hx : g ∈ l
  · exact hx
  have g0 := hc g hg
  exfalso
  obtain ⟨e1, e2⟩ := part_sum (fun s => decide (s ≠ -g)) l
  generalize hA : l.filter (fun s => decide (s ≠ -g)) = A at e1 e2
  generalize hB : l.filter (fun s => !decide (s ≠ -g)) = B at e1 e2
  have bA : ∀ s ∈ A, -(g - 1) ≤ s ∧ s ≤ g - 1 := fun s h => by
    rw [← hA] at h
    obtain ⟨h1, h2⟩ := List.mem_filter.mp h
    have h2 : s ≠ -g := by simpa using h2
    have h3 : s ≠ g := fun z => hx (z ▸ h1)
    rcases hs s h1 with z | z
    · have := hc s z; omega
    · have := hc (-s) z; omega
  have bB : B.sum ≤ 0 := sum_nonpos_of fun s h => by
    rw [← hB] at h
    have : s = -g := by simpa using (List.mem_filter.mp h).2
    omega
  have sA : ∀ s ∈ A, Stp cs s := fun s h => hs s (by rw [← hA] at h; exact (List.mem_filter.mp h).1)
  have sB : ∀ s ∈ B, Stp cs s := fun s h => hs s (by rw [← hB] at h; exact (List.mem_filter.mp h).1)
  by_cases hlen : g ≤ A.length
  · obtain ⟨a, b, c, ea, nb, m, em⟩ := block g0.1 hlen
    have bb := sum_bound (l := b) (m := g - 1) (by omega) fun s h => bA s (by rw [ea]; simp [h])
    have lb : 0 < b.length := List.length_pos_iff.mpr nb
    have hlt : m.natAbs < b.length := by
      rw [em] at bb
      have h1 : g * (m.natAbs : Int) ≤ b.length * (g - 1) := by
        rcases Int.lt_or_le m 0 with z | z
        · rw [show ((m.natAbs : Nat) : Int) = -m by omega, Int.mul_neg]; omega
        · rw [show ((m.natAbs : Nat) : Int) = m by omega]; omega
      have h2 : (b.length : Int) * (g - 1) < g * b.length := by
        rw [Int.mul_sub, Int.mul_comm g]; omega
      have h3 : g * (m.natAbs : Int) < g * (b.length : Int) := by omega
      have := Int.lt_of_mul_lt_mul_left h3 (by omega)
      omega
    have rest : Reach cs (a.length + c.length + B.length) ((a.sum + c.sum) + B.sum) := by
      refine ⟨a ++ c ++ B, by simp only [List.length_append], ?_, by simp only [List.sum_append]⟩
      intro s h
      rcases List.mem_append.mp h with h | h
      · refine sA s ?_
        rw [ea]
        rcases List.mem_append.mp h with h | h <;> simp [h]
      · exact sB s h
    have all := rest.add (mult_reach (m := m) hg)
    have es : a.sum + c.sum + B.sum + g * m = t + g := by
      rw [ea] at e1
      simp only [List.sum_append] at e1
      omega
    rw [es] at all
    refine hm _ ?_ all
    rw [ea] at e2
    simp only [List.length_append] at e2
    omega
  · have bb := sum_bound (l := A) (m := g - 1) (by omega) bA
    have h1 : (A.length : Int) * (g - 1) ≤ (g - 1) * (g - 1) := Int.mul_le_mul_of_nonneg_right (by omega) (by omega)
    have h2 : (g - 1) * (g - 1) = g * g - 2 * g + 1 := by
      rw [Int.mul_sub, Int.sub_mul]; omega
    omega
theorem few_great1 {cs : List Int} {g t : Int} (hc : ∀ w ∈ cs, 0 < w ∧ w ≤ g) (hg : g ∈ cs) (ht : g * g ≤ t) (h : Can cs t) : few cs (t + g) = few cs t + 1 := by
  have hu := (few_near h hg).1
  obtain ⟨k, e, ⟨l, a, b, c⟩, m⟩ := few_can (h.add ⟨1, reach_coin hg⟩)
  have hin : g ∈ l := great_has hc hg ht b c (by rw [a]; exact m)
  have e2 := sum_erase hin
  have lk : 0 < l.length := List.length_pos_of_mem hin
  have r : Reach cs (l.erase g).length t := ⟨l.erase g, rfl, fun s hs => b s (List.mem_of_mem_erase hs), by omega⟩
  have := (few_le r).1
  rw [List.length_erase_of_mem hin] at this
  omega
theorem few_great {cs : List Int} {g t : Int} (hc : ∀ w ∈ cs, 0 < w ∧ w ≤ g) (hg : g ∈ cs) (ht : g * g ≤ t) (h : Can cs t) : ∀ m : Nat, few cs (t + m * g) = few cs t + m
  | 0 => by simp
  | m + 1 => by
    have g0 := hc g hg
    have ih := few_great hc hg ht h m
    have h0 : (0 : Int) ≤ m * g := Int.mul_nonneg (by omega) (by omega)
    have e : t + ((m + 1 : Nat) : Int) * g = (t + m * g) + g := by rw [Int.natCast_add, Int.add_mul]; simp; omega
    have hcan : Can cs (t + m * g) := h.add ⟨m, Reach.mul (.inl hg) m⟩
    rw [e, few_great1 hc hg (by omega) hcan, ih]
    omega
/-- what fewest reckons -/
def moreOf (g a : Int) : Int := max 0 ((a - g * g) / g)
theorem more_left {g a : Int} (hg : 0 < g) (ha : 0 ≤ a) : 0 ≤ moreOf g a ∧ 0 ≤ a - moreOf g a * g ∧ a - moreOf g a * g < g * g + g ∧ (0 < moreOf g a → g * g ≤ a - moreOf g a * g) := by
  unfold moreOf
  have h1 := Int.mul_ediv_add_emod (a - g * g) g
  have h2 := Int.emod_nonneg (a - g * g) (show g ≠ 0 by omega)
  have h3 := Int.emod_lt_of_pos (a - g * g) hg
  have hgg : 0 ≤ g * g := Int.mul_nonneg (by omega) (by omega)
  rcases Int.le_total 0 ((a - g * g) / g) with z | z
  · rw [Int.max_eq_right z, Int.mul_comm ((a - g * g) / g) g]
    omega
  · rw [Int.max_eq_left z]
    have h4 : g * ((a - g * g) / g) ≤ 0 := by
      rw [Int.mul_comm]
      exact Int.mul_nonpos_of_nonpos_of_nonneg z (by omega)
    omega
theorem few_more {cs : List Int} {g a : Int} (hc : ∀ w ∈ cs, 0 < w ∧ w ≤ g) (hg : g ∈ cs) (ha : 0 ≤ a) (h : gc cs ∣ a) : few cs a = moreOf g a + few cs (a - moreOf g a * g) := by
  have g0 := hc g hg
  obtain ⟨h1, h2, h3, h4⟩ := more_left g0.1 ha
  rcases Int.lt_or_eq_of_le h1 with z | z
  · have hd : gc cs ∣ a - moreOf g a * g := Int.dvd_sub h (Int.dvd_mul_of_dvd_right (gc_dvd hg))
    have hcan : Can cs (a - moreOf g a * g) := (can_iff fun w hw => (hc w hw).1).mpr hd
    have := few_great hc hg (h4 z) hcan (moreOf g a).toNat
    rw [show (((moreOf g a).toNat : Nat) : Int) = moreOf g a by omega] at this
    rw [show a - moreOf g a * g + moreOf g a * g = a by omega] at this
    omega
  · rw [← z]; simp
end Chg

set_option Elab.async false
set_option linter.all false
set_option maxRecDepth 100000
set_option maxHeartbeats 4000000
/-! More of what evaluates to what (over HandS.Evl). -/
namespace Cb
open PySem PySem.Spec PyProof.Rows L2 Evl Chg
section
variable {K : PySem.W.Frag} {σ : L2.St} {H H' : Hp} {ta tb tc te : TE} {t u : TT} {x y z v : V} {r r' : R2} {Q : VK} {D : Ends}
theorem ev_go (h : Ev te σ H v) (k : ∀ H2, Ex H H2 → Q v H2) : te σ H Q := h H (Ex.refl H) Q k
theorem el_go {xs : List V} (h : EvL te σ H xs) (k : ∀ p H2, H p = none → Ex H H2 → H2 p = some (.lst xs) → Q (.ref p) H2) : te σ H Q := h H (Ex.refl H) Q k
theorem ev_eq (h : Ev te σ H x) (e : x = v) : Ev te σ H v := e ▸ h
theorem el_eq {xs ys : List V} (h : EvL te σ H xs) (e : xs = ys) : EvL te σ H ys := e ▸ h
theorem ev_chain {a b : Bool} (ha : Ev ta σ H x) (hb : Ev tb σ H y) (hr : RV r x y H (.bl a)) (hc : a = true → Ev tc σ H z) (hr' : a = true → RV r' y z H (.bl b)) : Ev (tChain r r' ta tb tc) σ H (.bl (a && b)) := fun H1 e Q q =>
  ha H1 e _ fun H2 e2 => hb H2 (e.trans e2) _ fun H3 e3 => hr H3 ((e.trans e2).trans e3) _ fun H4 e4 => ⟨a, rfl, by
    cases a with
    | false => exact q H4 ((e2.trans e3).trans e4)
    | true => exact hc rfl H4 (((e.trans e2).trans e3).trans e4) _ fun H5 e5 => hr' rfl H5 ((((e.trans e2).trans e3).trans e4).trans e5) Q fun H6 e6 => q H6 ((((e2.trans e3).trans e4).trans e5).trans e6)⟩
theorem ev_isi {K : PySem.W.Frag} {T c : String} {b : Bool} (ha : Ev ta σ H x) (ty : ∀ H1, Ex H H1 → TyX K H1 x (.type T)) (h : kitB T c = some b) : Ev (tCB (rIsi K) (tCons ta (tCons (tC (.ty c)) tNil))) σ H (.bl b) := fun H1 e Q q =>
  ha H1 e _ fun H2 e2 => ⟨x, .ty c, .type T, .type c, b, rfl, ClsV.ty _, ty H2 (e.trans e2), kit_ty h, q H2 e2⟩
theorem ev_allL {bs : List Bool} (h : EvL te σ H (bs.map V.bl)) : Ev (tCB (rAll K) (tCons te tNil)) σ H (.bl (bs.all id)) := fun H1 e Q q =>
  h H1 e _ fun p H2 _ e2 hp => ⟨p, bs, rfl, sq_of hp, q H2 e2⟩
theorem ev_anyL {bs : List Bool} (h : EvL te σ H (bs.map V.bl)) : Ev (tCB (rAny K) (tCons te tNil)) σ H (.bl (bs.any id)) := fun H1 e Q q =>
  h H1 e _ fun p H2 _ e2 hp => ⟨p, bs, rfl, sq_of hp, q H2 e2⟩
theorem ev_sumL {ns : List Int} (h : EvL te σ H (ns.map V.int)) : Ev (tCB (rSum K) (tCons te tNil)) σ H (.int ns.sum) := fun H1 e Q q =>
  h H1 e _ fun p H2 _ e2 hp => ⟨p, ns, rfl, sq_of hp, q H2 e2⟩
theorem ev_sumV {p : Addr} {ns : List Int} (h : Ev te σ H (.ref p)) (hp : SqL K H p (ns.map V.int)) : Ev (tCB (rSum K) (tCons te tNil)) σ H (.int ns.sum) := fun H1 e Q q =>
  h H1 e _ fun H2 e2 => ⟨p, ns, rfl, ex_l (e.trans e2) hp, q H2 e2⟩
theorem ev_abs {i : Int} (h : Ev te σ H (.int i)) : Ev (tCB rAbsI (tCons te tNil)) σ H (.int (if i < 0 then -i else i)) := fun H1 e Q q => h H1 e _ fun H2 e2 => ⟨i, rfl, q H2 e2⟩
theorem ev_max {i j : Int} (ha : Ev ta σ H (.int i)) (hb : Ev tb σ H (.int j)) : Ev (tCB rMax2 (tCons ta (tCons tb tNil))) σ H (.int (if j > i then j else i)) := ev_max2 ha hb
theorem ev_min {i j : Int} (ha : Ev ta σ H (.int i)) (hb : Ev tb σ H (.int j)) : Ev (tCB rMin2 (tCons ta (tCons tb tNil))) σ H (.int (if j < i then j else i)) := fun H1 e Q q =>
  ha H1 e _ fun H2 e2 => hb H2 (e.trans e2) _ fun H3 e3 => ⟨i, j, rfl, q H3 (e2.trans e3)⟩
theorem ev_ixL {p : Addr} {xs : List V} {i : Int} (ha : Ev ta σ H (.ref p)) (hb : Ev tb σ H (.int i)) (h : SqL K H p xs) (hi : atI xs i = some v) : Ev (tOp (rIxL K) ta tb) σ H v := ev_op ha hb (rv_ixL h hi)
theorem ev_ixNL {xs : List V} {i : Int} (ha : EvL ta σ H xs) (hb : Ev tb σ H (.int i)) (hi : atI xs i = some v) : Ev (tOp (rIxL K) ta tb) σ H v :=
  ev_opL1 ha (fun H1 e => hb.mono e) fun p H1 hp e => rv_ixL (sq_of hp) hi
theorem ev_ixNU {xs : List V} {i : Int} (ha : EvU ta σ H xs) (hb : Ev tb σ H (.int i)) (hi : atI xs i = some v) : Ev (tOp (rIxT K) ta tb) σ H v := fun H1 e Q q =>
  ha H1 e _ fun p H2 _ e2 hp => hb H2 (e.trans e2) _ fun H3 e3 => ⟨p, xs, i, v, rfl, rfl, st_of (e3 p _ hp), hi, q H3 (e2.trans e3)⟩
theorem ev_neg {i : Int} (h : Ev te σ H (.int i)) : Ev (tUn rNegI te) σ H (.int (-i)) := ev_un h ru_neg
theorem ev_m1 : Ev (tUn rNegI (tC (.int 1))) σ H (.int (-1)) := ev_neg ev_c
theorem ev_add {i j : Int} (ha : Ev ta σ H (.int i)) (hb : Ev tb σ H (.int j)) : Ev (tOp rAddI ta tb) σ H (.int (i + j)) := ev_op ha hb rv_I0
theorem ev_sub {i j : Int} (ha : Ev ta σ H (.int i)) (hb : Ev tb σ H (.int j)) : Ev (tOp rSubI ta tb) σ H (.int (i - j)) := ev_op ha hb rv_I0
theorem ev_mul {i j : Int} (ha : Ev ta σ H (.int i)) (hb : Ev tb σ H (.int j)) (h : IntMulOk i j) : Ev (tOp rMulI ta tb) σ H (.int (i * j)) := ev_op ha hb (rv_I h)
theorem ev_mod {i j : Int} (ha : Ev ta σ H (.int i)) (hb : Ev tb σ H (.int j)) (h : 0 < j) : Ev (tOp rModI ta tb) σ H (.int (i % j)) := ev_op ha hb (rv_I h)
theorem ev_div {i j : Int} (ha : Ev ta σ H (.int i)) (hb : Ev tb σ H (.int j)) (h : 0 < j ∧ j < 1073741824) : Ev (tOp rDivI ta tb) σ H (.int (i / j)) := ev_op ha hb (rv_I h)
theorem ev_pow {i j : Int} (ha : Ev ta σ H (.int i)) (hb : Ev tb σ H (.int j)) (h : 0 ≤ j ∧ j ≤ 1000000 ∧ i.natAbs < 2 ^ 64) : Ev (tOp rPowI ta tb) σ H (.int (i ^ j.toNat)) := ev_op ha hb (rv_I h)
theorem ev_cmp {i j : Int} {p : Int → Int → Bool} (ha : Ev ta σ H (.int i)) (hb : Ev tb σ H (.int j)) : Ev (tOp (rI0 fun i j => .bl (p i j)) ta tb) σ H (.bl (p i j)) := ev_op ha hb rv_I0
theorem ev_eqI {i j : Int} (ha : Ev ta σ H (.int i)) (hb : Ev tb σ H (.int j)) : Ev (tOp rEq ta tb) σ H (.bl (decide (i = j))) := ev_op ha hb (by
  have e : decide (V.int i = V.int j) = decide (i = j) := by
    by_cases q : i = j
    · subst q; simp
    · simp [q]
  rw [← e]; exact rv_eq rfl)
theorem ev_neI {i j : Int} (ha : Ev ta σ H (.int i)) (hb : Ev tb σ H (.int j)) : Ev (tOp rNe ta tb) σ H (.bl (decide (i ≠ j))) := ev_op ha hb (by
  have e : (!decide (V.int i = V.int j)) = decide (i ≠ j) := by
    by_cases q : i = j
    · subst q; simp
    · simp [q]
  rw [← e]; exact rv_ne rfl)
theorem et_chain {b : Bool} (h : Ev (tChain r r' ta tb tc) σ H (.bl b)) : EvT (tTest (tChain r r' ta tb tc)) σ H b := et_test h
/-- a def's call, by its promise -/
theorem ev_callV {sp : Sp} {vs : List V} {E : XK} {ta : TA} (h : EvA ta σ H vs) (hs : ∀ H1, Ex H H1 → ∀ Q, RetV z H1 Q → sp vs H1 Q E) : Ev (tCall sp [] E ta) σ H z := fun H1 e Q q =>
  h H1 e _ fun H2 e2 => by
    rw [List.append_nil]
    exact hs H2 (e.trans e2) Q fun H3 e3 => q H3 (e2.trans e3)
theorem el_callL {sp : Sp} {vs xs : List V} {E : XK} {ta : TA} (h : EvA ta σ H vs) (hs : ∀ H1, Ex H H1 → ∀ Q, RetL xs H1 Q → sp vs H1 Q E) : EvL (tCall sp [] E ta) σ H xs := fun H1 e Q q =>
  h H1 e _ fun H2 e2 => by
    rw [List.append_nil]
    exact hs H2 (e.trans e2) Q fun p H3 hp e3 h3 => q p H3 (fresh_back e2 hp) (e2.trans e3) h3

/-! ### statements -/
variable {tu tz : TS}
theorem q_forR3 {ta : TA} {j : Nat} {lo hi c : Int} {n : Nat} (h : EvA ta σ H [.int lo, .int hi, .int c]) (hn : RgC lo hi c n) (Pv : Nat → L2.St → Hp → Prop) (h0 : ∀ H1, Ex H H1 → Pv 0 σ H1)
    (hs : ∀ (i : Nat) σ' H', i < n → Pv i σ' H' → tu { D with nx := Pv (i + 1), ct := Pv (i + 1), bk := tz D } (σ'.set j (some (.int (lo + (i : Int) * c)))) H') (hd : ∀ σ' H', Pv n σ' H' → tz D σ' H') : tSeq (tFor (iRng3 ta) (gName j) tu) tz D σ H :=
  h H (Ex.refl H) _ fun H1 e => ⟨lo, hi, c, n, rfl, hn, for_rangeC Pv (h0 H1 e) hs hd⟩
/-- x = f(..), whatever f promises -/
theorem q_asgCall {sp : Sp} {vs : List V} {E : XK} {ta : TA} {i : Nat} (h : EvA ta σ H vs) (k : ∀ H1, Ex H H1 → sp vs H1 (fun v H2 => tz D (σ.set i (some v)) H2) E) : tSeq (tAsg (tCall sp [] E ta) (gName i)) tz D σ H :=
  h H (Ex.refl H) _ fun H1 e => by
    rw [List.append_nil]
    exact k H1 e
theorem q_par {i j : Nat} {v w : V} (ha : Ev ta σ H v) (hb : Ev tb σ H w) (k : ∀ H1, Ex H H1 → tz D ((σ.set i (some v)).set j (some w)) H1) : tSeq (tPar i j (tCons ta (tCons tb tNil))) tz D σ H :=
  ha H (Ex.refl H) _ fun H1 e1 => hb H1 e1 _ fun H2 e2 => ⟨v, w, rfl, k H2 (e1.trans e2)⟩
theorem s_par {i j : Nat} {v w : V} (ha : Ev ta σ H v) (hb : Ev tb σ H w) (k : ∀ H1, Ex H H1 → D.nx ((σ.set i (some v)).set j (some w)) H1) : tPar i j (tCons ta (tCons tb tNil)) D σ H :=
  ha H (Ex.refl H) _ fun H1 e1 => hb H1 e1 _ fun H2 e2 => ⟨v, w, rfl, k H2 (e1.trans e2)⟩

/-! ### comprehensions -/
theorem given_all {n : Nat} {f : Nat → V} : given n (fun _ => true) f = (List.range n).map f := by
  unfold given
  rw [List.filter_eq_self.mpr (fun _ _ => rfl)]
theorem range_map_get {α β : Type} (xs : List α) (f : α → β) (d : α) : (List.range xs.length).map (fun i => f (xs.getD i d)) = xs.map f := by
  refine List.ext_getElem (by simp) fun i h1 h2 => ?_
  have hi : i < xs.length := by simpa using h2
  simp [List.getD_eq_getElem?_getD, List.getElem?_eq_getElem hi]
theorem filter_range_get {α β : Type} (p : α → Bool) (f : α → β) (d : α) : ∀ xs : List α, (((List.range xs.length).filter fun i => p (xs.getD i d)).map fun i => f (xs.getD i d)) = (xs.filter p).map f := by
  intro xs
  induction xs with
  | nil => rfl
  | cons x r ih =>
    rw [List.length_cons, List.range_succ_eq_map, List.filter_cons]
    have e1 : (x :: r).getD 0 d = x := rfl
    rw [e1, List.filter_map]
    have e2 : ((fun i => p ((x :: r).getD i d)) ∘ Nat.succ) = fun i => p (r.getD i d) := rfl
    rw [e2, List.filter_cons]
    have e3 : (List.map (fun i => f ((x :: r).getD i d)) (List.map Nat.succ (List.filter (fun i => p (r.getD i d)) (List.range r.length)))) = (r.filter p).map f := by
      rw [List.map_map]
      exact ih
    split
    · rw [List.map_cons, List.map_cons, e3, e1]
    · exact e3
/-- [e for x in xs if t], xs a list that stands -/
theorem el_lc {a : Addr} {xs : List V} {tl : TE} {j : Nat} {vs : List Nat} (p : V → Bool) (f : V → V) (h : Ev tl σ H (.ref a)) (hx : SqL K H a xs) (hz : xs.length ≤ 40000) (hw : ∀ x, wipe ((wipe σ vs).set j (some x)) vs = wipe σ vs)
    (ht : ∀ (x : V) H1, x ∈ xs → Ex H H1 → EvT t ((wipe σ vs).set j (some x)) H1 (p x)) (he : ∀ (x : V) H1, x ∈ xs → Ex H H1 → p x = true → Ev te ((wipe σ vs).set j (some x)) H1 (f x)) :
    EvL (tLc (iList K tl) (gName j) t te vs) σ H ((xs.filter p).map f) := by
  have g := el_lcL (K := K) (t := t) (te := te) (tl := tl) (j := j) (vs := vs) (σ := σ) (H := H) (fun i => p (xs.getD i .non)) (fun i => f (xs.getD i .non)) h hx hz hw
    (fun i x H1 e hi => by
      have : xs.getD i .non = x := by rw [List.getD_eq_getElem?_getD, hi]; rfl
      rw [this]; exact ht x H1 (List.mem_of_getElem? hi) e)
    (fun i x H1 e hi hf => by
      have : xs.getD i .non = x := by rw [List.getD_eq_getElem?_getD, hi]; rfl
      rw [this] at hf ⊢; exact he x H1 (List.mem_of_getElem? hi) e hf)
  refine el_eq g ?_
  unfold given
  exact filter_range_get p f .non xs
/-- without a test -/
theorem el_lcY {a : Addr} {xs : List V} {tl : TE} {j : Nat} {vs : List Nat} (f : V → V) (h : Ev tl σ H (.ref a)) (hx : SqL K H a xs) (hz : xs.length ≤ 40000) (hw : ∀ x, wipe ((wipe σ vs).set j (some x)) vs = wipe σ vs)
    (he : ∀ (x : V) H1, x ∈ xs → Ex H H1 → Ev te ((wipe σ vs).set j (some x)) H1 (f x)) :
    EvL (tLc (iList K tl) (gName j) tYes te vs) σ H (xs.map f) := by
  have := el_lc (K := K) (t := tYes) (te := te) (tl := tl) (fun _ => true) f h hx hz hw (fun _ _ _ _ => fun H1 _ Q q => q H1 (Ex.refl H1)) (fun x H1 hm e _ => he x H1 hm e)
  rw [List.filter_eq_self.mpr (fun _ _ => rfl)] at this
  exact this
/-- over a new tuple -/
theorem el_lcNU {xs : List V} {tl : TE} {j : Nat} {vs : List Nat} (f : V → V) (h : EvU tl σ H xs) (hz : xs.length ≤ 40000) (hw : ∀ x, wipe ((wipe σ vs).set j (some x)) vs = wipe σ vs)
    (he : ∀ (x : V) H1, x ∈ xs → Ex H H1 → Ev te ((wipe σ vs).set j (some x)) H1 (f x)) :
    EvL (tLc (iTup K tl) (gName j) tYes te vs) σ H (xs.map f) := fun H0 e Q q => h H0 e _ fun a H1 ha e1 hx => ⟨a, rfl, ⟨xs, st_of hx⟩, fun Dl hD => by
  have key := lc_tup (K := K) (a := a) (xs := xs) (g := gName j) (tt := tYes) (te := te) (vs := vs) (σ := σ) (H1 := H1) (D := Dl) (Qd := fun H' => Q (.ref Dl) H') (Cw H1 (fun _ => true) (fun i => f (xs.getD i .non)) Dl) ⟨hD, Ex.new hD, upd_same⟩ (fun i H' _ p => st_of (p.2.1 a _ hx))
    (fun i x H' hi p => ⟨hw x, cw_turn (t := tYes) p (by have := (List.getElem?_eq_some_iff.mp hi).1; omega) (fun H1 _ Q q => q H1 (Ex.refl H1)) (fun _ => by
      have : xs.getD i .non = x := by rw [List.getD_eq_getElem?_getD, hi]; rfl
      rw [this]
      exact he x H1 (List.mem_of_getElem? hi) (e.trans e1))⟩)
    (fun H' p => q Dl H' (fresh_back e1 p.1) (e1.trans p.2.1) (by
      rw [p.2.2, given_all, range_map_get xs f .non]))
  exact key⟩
/-- over two lists side by side -/
theorem el_lcZ {a b : Addr} {xs ys : List V} {ti : TA} {j l : Nat} {vs : List Nat} (f : V → V → V) (h : ∀ H1, Ex H H1 → ∀ Q : List V → Hp → Prop, (∀ a b H2, Ex H1 H2 → SqL K H2 a xs → SqL K H2 b ys → Q [.ref a, .ref b] H2) → ti σ H1 Q)
    (hz : xs.length ≤ 40000) (hw : ∀ x y, wipe (((wipe σ vs).set j (some x)).set l (some y)) vs = wipe σ vs)
    (he : ∀ (i : Nat) (x y : V) H1, xs[i]? = some x → ys[i]? = some y → Ex H H1 → Ev te (((wipe σ vs).set j (some x)).set l (some y)) H1 (f x y)) :
    EvL (tLc (iZip K ti) (gTup K 2 (gCons (gName j) (gCons (gName l) gNil))) tYes te vs) σ H (List.zipWith f xs ys) := fun H0 e Q q => h H0 e _ fun a b H1 e1 ha hb => ⟨a, b, xs, ys, rfl, ha, hb, fun Dl hD => by
  refine ⟨fun i m H' => m = min xs.length ys.length - i ∧ i ≤ min xs.length ys.length ∧ Ex H1 H' ∧ H' Dl = some (.lst ((List.zipWith f xs ys).take i)), ⟨_, rfl, Nat.zero_le _, Ex.new hD, upd_same⟩, ?_⟩
  rintro i m H' ⟨rfl, hi, ex, hDl⟩
  have qa : SqL K H' a xs := ex_l ex ha
  have qb : SqL K H' b ys := ex_l ex hb
  have hzl : (List.zipWith f xs ys).length = min xs.length ys.length := List.length_zipWith
  by_cases hlt : i < min xs.length ys.length
  · have h1 : i < xs.length := by omega
    have h2 : i < ys.length := by omega
    refine .inr ⟨⟨xs, ys, xs[i], ys[i], qa, qb, List.getElem?_eq_getElem h1, List.getElem?_eq_getElem h2⟩, fun H'' => Ex H1 H'' ∧ H'' Dl = some (.lst ((List.zipWith f xs ys).take (i + 1))), fun H'' ⟨x1, x2⟩ => ⟨_, by omega, rfl, hlt, x1, x2⟩, fun x H'' hy => ?_⟩
    obtain ⟨T, x1, y1, rfl, nT, rfl, f1, f2⟩ := hy
    have g1 := f1 _ qa
    have g2 := f2 _ qb
    have exT : Ex H' (upd H' T (.tup [x1, y1])) := Ex.new nT
    refine ⟨T, [x1, y1], rfl, st_of upd_same, rfl, x1, [y1], rfl, y1, [], rfl, rfl, hw x1 y1, ?_⟩
    refine he i x1 y1 H' g1 g2 ((e.trans e1).trans ex) _ exT _ fun H3 e3 => ⟨_, e3 _ _ (exT _ _ hDl), ?_, ?_⟩
    · rw [List.length_take]
      exact sz_lt (by omega)
    · refine ⟨Ex.mut ((ex.trans exT).trans e3) hD, ?_⟩
      rw [upd_same, List.take_add_one]
      congr 2
      rw [List.getElem?_zipWith, g1, g2]
      rfl
  · have ei : i = min xs.length ys.length := by omega
    refine .inl ⟨⟨xs, ys, qa, qb, by omega⟩, ?_⟩
    refine q Dl H' (fresh_back e1 hD) (e1.trans ex) ?_
    rw [hDl, List.take_of_length_le (by omega)]⟩
end
end Cb

set_option Elab.async false
set_option linter.all false
set_option maxRecDepth 100000
set_option maxHeartbeats 4000000
/-! The promises. -/
namespace Cb
open PySem PySem.Spec PyProof.Rows L2 Evl Chg
/-- coins as the document has them -/
structure Coins (cs : List Int) : Prop where
  one : 1 ≤ cs.length
  six : cs.length ≤ 6
  wor : ∀ w ∈ cs, 1 ≤ w ∧ w ≤ 30
  ris : cs.Pairwise (· < ·)
def topC (cs : List Int) : Int := cs.getLastD 0
theorem Coins.ne {cs : List Int} (h : Coins cs) : cs ≠ [] := by
  intro e
  have := h.one
  rw [e] at this
  simp at this
theorem topC_eq {cs : List Int} (h : cs ≠ []) : topC cs = cs.getLast h := by
  unfold topC
  rw [List.getLastD_eq_getLast?, List.getLast?_eq_getLast h]; rfl
theorem topC_mem {cs : List Int} (h : cs ≠ []) : topC cs ∈ cs := by
  rw [topC_eq h]
  exact List.getLast_mem h
theorem topC_split {cs : List Int} (h : cs ≠ []) : cs = cs.dropLast ++ [topC cs] := by
  rw [topC_eq h, List.dropLast_concat_getLast]
theorem topC_at {cs : List Int} (h : cs ≠ []) : atI (cs.map V.int) (-1) = some (.int (topC cs)) := by
  rw [topC_split h, List.map_append]
  have e : topC (cs.dropLast ++ [topC cs]) = topC cs := by rw [← topC_split h]
  rw [e]
  exact atI_last _ _
theorem Coins.le_top {cs : List Int} (h : Coins cs) : ∀ w ∈ cs, 0 < w ∧ w ≤ topC cs := fun w hw => by
  refine ⟨by have := h.wor w hw; omega, ?_⟩
  have hr := h.ris
  rw [topC_split h.ne] at hr hw
  rcases List.mem_append.mp hw with z | z
  · have := (List.pairwise_append.mp hr).2.2 w z (topC cs) (by simp)
    omega
  · have : w = topC cs := by simpa using z
    omega
theorem Coins.top {cs : List Int} (h : Coins cs) : 1 ≤ topC cs ∧ topC cs ≤ 30 := h.wor _ (topC_mem h.ne)
theorem Coins.gpos {cs : List Int} (h : Coins cs) : 0 < gc cs := gc_pos (topC_mem h.ne) (by have := h.top; omega)
theorem gc_le_of {cs : List Int} {w : Int} (h : w ∈ cs) (hw : 0 < w) : gc cs ≤ w := Int.le_of_dvd hw (gc_dvd h)
/-- a list of ints that stands -/
abbrev Il (H : Hp) (p : Addr) (ns : List Int) : Prop := H p = some (.lst (ns.map V.int))
theorem atI_int {ns : List Int} {i : Int} (h0 : 0 ≤ i) (h : i < ns.length) : atI (ns.map V.int) i = some (.int (ent ns i)) := by
  have e : i = ((i.toNat : Nat) : Int) := by omega
  have hj : i.toNat < ns.length := by omega
  rw [e]
  refine atI_nat ?_
  rw [List.getElem?_map, List.getElem?_eq_getElem hj]
  show some (V.int ns[i.toNat]) = some (V.int (ent ns ((i.toNat : Nat) : Int)))
  congr 2
  unfold ent
  rw [Int.toNat_natCast, List.getD_eq_getElem?_getD, List.getElem?_eq_getElem hj]; rfl

/-! ### the program's -/
def sp_is_number (K : PySem.W.Frag) : Sp := fun vs H Q _ => ∃ (v : V) (T : String) (b1 b2 : Bool), vs = [v] ∧ (∀ H1, Ex H H1 → TyX K H1 v (.type T)) ∧ kitB T "int" = some b1 ∧ kitB T "bool" = some b2 ∧ RetV (.bl (b1 && !b2)) H Q
def sp_check_coins (K : PySem.W.Frag) : Sp := fun vs H Q _ => ∃ (p : Addr) (cs : List Int), vs = [.ref p] ∧ Il H p cs ∧ Coins cs ∧ RetV .non H Q
def sp_check_amount (K : PySem.W.Frag) : Sp := fun vs H Q _ => ∃ a m : Int, vs = [.int a, .int m] ∧ 0 ≤ a ∧ (0 ≤ m → a ≤ m) ∧ RetV .non H Q
def sp_common (K : PySem.W.Frag) : Sp := fun vs H Q _ => ∃ (p : Addr) (cs : List Int), vs = [.ref p] ∧ Il H p cs ∧ (∀ w ∈ cs, 0 ≤ w) ∧ cs.length ≤ 100 ∧ RetV (.int (gc cs)) H Q
def sp_strip (K : PySem.W.Frag) : Sp := fun vs H Q _ => ∃ (p : Addr) (cs : List Int) (a : Int), vs = [.ref p, .int a] ∧ Il H p cs ∧ cs ≠ [] ∧ (0 ≤ topC cs ∧ topC cs ≤ 1000) ∧ (0 ≤ a ∧ a ≤ 5000) ∧ RetL (rgV (-topC cs) (a + topC cs)) H Q
/-- the heights that heights_of makes -/
noncomputable def hOf (cs : List Int) (a : Int) : List Int := hts cs (a + 2 * topC cs) (topC cs)
def sp_heights_of (K : PySem.W.Frag) : Sp := fun vs H Q _ => ∃ (p : Addr) (cs : List Int) (a : Int), vs = [.ref p, .int a] ∧ Il H p cs ∧ Coins cs ∧ (0 ≤ a ∧ a ≤ 5000) ∧ RetL ((hOf cs a).map V.int) H Q
def sp_fewest (K : PySem.W.Frag) : Sp := fun vs H Q _ => ∃ (p : Addr) (cs : List Int) (a : Int), vs = [.ref p, .int a] ∧ Il H p cs ∧ Coins cs ∧ 0 ≤ a ∧ gc cs ∣ a ∧ RetV (.int (few cs a)) H Q

/-! ### the laws' helpers -/
def cellAt (ns : List Int) (k : Int) : Int := ent ns k
def sp__law_cell_at (K : PySem.W.Frag) : Sp := fun vs H Q _ => ∃ (p : Addr) (ns : List Int) (k : Int), vs = [.ref p, .int k] ∧ SqL K H p (ns.map V.int) ∧ 0 ≤ k ∧ RetV (.int (cellAt ns k)) H Q
def drawP : List Int := [1000003, 1000033, 1000037, 1000039, 1000081, 1000099, 1000117, 1000121, 1000133, 1000151, 1000159, 1000171, 1000183, 1000187, 1000193, 1000199]
def drawV (c k m : Int) : Int := (c * 48271 + k * 69621) % ent drawP (k % 16) % m
def sp__law_draw (K : PySem.W.Frag) : Sp := fun vs H Q _ => ∃ c k m : Int, vs = [.int c, .int k, .int m] ∧ (0 ≤ k ∧ k ≤ 1000) ∧ 0 < m ∧ RetV (.int (drawV c k m)) H Q
def numP : List Int := [1, 7, 49, 343, 2401]
def numV (c k m : Int) : Int := if 10 ^ 18 ≤ c then (c - 10 ^ 18) / ent numP (k % 5) % m else drawV ((c + 977 * k) * (c + 31 * k + 5)) (k % 9 + 1) 999983 % m
/-- not too great a cell -/
def Bits (c : Int) : Prop := Builtin.Int.intBits c ≤ 1048600
def sp__law_number (K : PySem.W.Frag) : Sp := fun vs H Q _ => ∃ c k m : Int, vs = [.int c, .int k, .int m] ∧ Bits c ∧ (0 ≤ k ∧ k ≤ 1000) ∧ 0 < m ∧ RetV (.int (numV c k m)) H Q
/-- what _law_coins makes: rising, one to most, worths to great -/
structure LCoins (most great : Int) (cs : List Int) : Prop where
  one : 1 ≤ cs.length
  top : (cs.length : Int) ≤ most
  wor : ∀ w ∈ cs, 1 ≤ w ∧ w ≤ great
  ris : cs.Pairwise (· < ·)
/-- the cells of a script -/
def Cells (ns : List Int) : Prop := ∀ k ∈ ns, Builtin.Int.intBits k ≤ 1048576
def sp__law_coins (K : PySem.W.Frag) : Sp := fun vs H Q _ => ∃ (p : Addr) (ns : List Int) (b m g : Int), vs = [.ref p, .int b, .int m, .int g] ∧ SqL K H p (ns.map V.int) ∧ Cells ns ∧ (0 ≤ b ∧ b ≤ 100) ∧ (1 ≤ m ∧ m ≤ 50) ∧ (3 ≤ g ∧ g ≤ 1000) ∧
  ∀ cs, LCoins m g cs → RetL (cs.map V.int) H Q
def sp__law_common (K : PySem.W.Frag) : Sp := fun vs H Q _ => ∃ (p : Addr) (cs : List Int), vs = [.ref p] ∧ Il H p cs ∧ cs ≠ [] ∧ cs.length ≤ 1000 ∧ (∀ w ∈ cs, 1 ≤ w ∧ w ≤ 1000) ∧ RetV (.int (gc cs)) H Q
end Cb

set_option Elab.async false
set_option linter.all false
set_option maxRecDepth 100000
set_option maxHeartbeats 4000000
/-! The readings of the defs' bodies (printed by gen/mk.py). -/
namespace Cb
open PySem PySem.Spec PyProof.Rows L2 Evl Chg
def t_is_number (K : PySem.W.Frag) : TS :=
  (tRet (tAndV (tCB (rIsi K) (tCons (tVar 0) (tCons (tC (.ty "int")) tNil))) (tNotV (tCB (rIsi K) (tCons (tVar 0) (tCons (tC (.ty "bool")) tNil))))))
def t_check_coins (K : PySem.W.Frag) : TS :=
  (tSeq (tIfS (tOr (tNot (tB (tCB (rIsi K) (tCons (tVar 0) (tCons (tC (.ty "list")) tNil))))) (tNot (tTest (tChain rLeI rLeI (tC (.int 1)) (tCB (rLenS K) (tCons (tVar 0) tNil)) (tC (.int 6)))))) tNever tNext)
  (tSeq (tIfS (tNot (tB (tCB (rAll K) (tCons (tLc (iList K (tVar 0)) (gName 1) tYes (tAndV (tCall (sp_is_number K) [] E0 (tCons (tVar 1) tNil)) (tChain rLeI rLeI (tC (.int 1)) (tVar 1) (tC (.int 30)))) [1]) tNil)))) tNever tNext)
  (tIfS (tB (tCB (rAny K) (tCons (tLc (iZip K (tCons (tVar 0) (tCons (tSl (rSlL K) (tVar 0) (tPart (tC (.int 1))) tNoPart) tNil))) (gTup K 2 (gCons (gName 2) (gCons (gName 3) gNil))) tYes (tOp rGeI (tVar 2) (tVar 3)) [2, 3]) tNil))) tNever tNext)))
def t_check_amount (K : PySem.W.Frag) : TS :=
  (tIfS (tOr (tNot (tB (tCall (sp_is_number K) [] E0 (tCons (tVar 0) tNil)))) (tOr (tTest (tOp rLtI (tVar 0) (tC (.int 0)))) (tTest (tChain rLeI rLtI (tC (.int 0)) (tVar 1) (tVar 0))))) tNever tNext)
def t_common (K : PySem.W.Frag) : TS :=
  (tSeq (tAsg (tC (.int 0)) (gName 1))
  (tSeq (tFor (iList K (tVar 0)) (gName 2) (tWhile (tTest (tOp rGtI (tVar 2) (tC (.int 0)))) (tPar 1 2 (tCons (tVar 2) (tCons (tOp rModI (tVar 1) (tVar 2)) tNil)))))
  (tRet (tVar 1))))
def t_strip (K : PySem.W.Frag) : TS :=
  (tRet (tLstRg (tRg2 (tUn rNegI (tOp (rIxL K) (tVar 0) (tUn rNegI (tC (.int 1))))) (tOp rAddI (tVar 1) (tOp (rIxL K) (tVar 0) (tUn rNegI (tC (.int 1))))))))
def t_heights_of (K : PySem.W.Frag) : TS :=
  (tSeq (tAsg (tCall (sp_strip K) [] E0 (tCons (tVar 0) (tCons (tVar 1) tNil))) (gName 2))
  (tSeq (tAsg (tOp rRep (tLst (tCons (tUn rNegI (tC (.int 1))) tNil)) (tCB (rLenS K) (tCons (tVar 2) tNil))) (gName 3))
  (tSeq (tAsg (tC (.int 0)) (gSub (tVar 3) (tOp (rIxL K) (tVar 0) (tUn rNegI (tC (.int 1)))) rSetL))
  (tSeq (tAsg (tLst (tCons (tOp (rIxL K) (tVar 0) (tUn rNegI (tC (.int 1)))) tNil)) (gName 4))
  (tSeq (tWhile (tTest (tOp (rNeD K) (tVar 4) (tLst tNil))) (tSeq (tAsg (tBM K "list" rPopAt (tVar 4) (tCons (tC (.int 0)) tNil)) (gName 5))
  (tFor (iList K (tVar 0)) (gName 6) (tFor (iTup K (tTup (tCons (tOp rSubI (tVar 5) (tVar 6)) (tCons (tOp rAddI (tVar 5) (tVar 6)) tNil)))) (gName 7) (tIfS (tAnd (tTest (tChain rLeI rLtI (tC (.int 0)) (tVar 7) (tCB (rLenS K) (tCons (tVar 2) tNil)))) (tTest (tOp rLtI (tOp (rIxL K) (tVar 3) (tVar 7)) (tC (.int 0))))) (tSeq (tAsg (tOp rAddI (tOp (rIxL K) (tVar 3) (tVar 5)) (tC (.int 1))) (gSub (tVar 3) (tVar 7) rSetL))
  (tDrop (tBM K "list" rAppend (tVar 4) (tCons (tVar 7) tNil)))) tNext)))))
  (tRet (tVar 3)))))))
def t_fewest (K : PySem.W.Frag) : TS :=
  (tSeq (tDrop (tCall (sp_check_coins K) [] E0 (tCons (tVar 0) tNil)))
  (tSeq (tDrop (tCall (sp_check_amount K) [] E0 (tCons (tVar 1) (tCons (tUn rNegI (tC (.int 1))) tNil))))
  (tSeq (tIfS (tTest (tOp rGtI (tOp rModI (tVar 1) (tCall (sp_common K) [] E0 (tCons (tVar 0) tNil))) (tC (.int 0)))) tNever tNext)
  (tSeq (tAsg (tOp (rIxL K) (tVar 0) (tUn rNegI (tC (.int 1)))) (gName 2))
  (tSeq (tAsg (tCB rMax2 (tCons (tC (.int 0)) (tCons (tOp rDivI (tOp rSubI (tVar 1) (tOp rMulI (tVar 2) (tVar 2))) (tVar 2)) tNil))) (gName 3))
  (tSeq (tAsg (tOp rSubI (tVar 1) (tOp rMulI (tVar 3) (tVar 2))) (gName 4))
  (tRet (tOp rAddI (tVar 3) (tOp (rIxL K) (tCall (sp_heights_of K) [] E0 (tCons (tVar 0) (tCons (tVar 4) tNil))) (tOp rAddI (tVar 2) (tVar 4)))))))))))
def t__law_cell_at (K : PySem.W.Frag) : TS :=
  (tSeq (tIfS (tTest (tOp rLtI (tVar 1) (tCB (rLenS K) (tCons (tVar 0) tNil)))) (tRet (tOp (rIxL K) (tVar 0) (tVar 1))) tNext)
  (tRet (tC (.int 0))))
def t__law_draw (K : PySem.W.Frag) : TS :=
  (tSeq (tAsg (tTup (tCons (tC (.int 1000003)) (tCons (tC (.int 1000033)) (tCons (tC (.int 1000037)) (tCons (tC (.int 1000039)) (tCons (tC (.int 1000081)) (tCons (tC (.int 1000099)) (tCons (tC (.int 1000117)) (tCons (tC (.int 1000121)) (tCons (tC (.int 1000133)) (tCons (tC (.int 1000151)) (tCons (tC (.int 1000159)) (tCons (tC (.int 1000171)) (tCons (tC (.int 1000183)) (tCons (tC (.int 1000187)) (tCons (tC (.int 1000193)) (tCons (tC (.int 1000199)) tNil))))))))))))))))) (gName 3))
  (tRet (tOp rModI (tOp rModI (tOp rAddI (tOp rMulI (tVar 0) (tC (.int 48271))) (tOp rMulI (tVar 1) (tC (.int 69621)))) (tOp (rIxT K) (tVar 3) (tOp rModI (tVar 1) (tC (.int 16))))) (tVar 2))))
def t__law_number (K : PySem.W.Frag) : TS :=
  (tSeq (tIfS (tTest (tOp rGeI (tVar 0) (tOp rPowI (tC (.int 10)) (tC (.int 18))))) (tRet (tOp rModI (tOp rDivI (tOp rSubI (tVar 0) (tOp rPowI (tC (.int 10)) (tC (.int 18)))) (tOp (rIxT K) (tTup (tCons (tC (.int 1)) (tCons (tC (.int 7)) (tCons (tC (.int 49)) (tCons (tC (.int 343)) (tCons (tC (.int 2401)) tNil)))))) (tOp rModI (tVar 1) (tC (.int 5))))) (tVar 2))) tNext)
  (tRet (tOp rModI (tCall (sp__law_draw K) [] E0 (tCons (tOp rMulI (tOp rAddI (tVar 0) (tOp rMulI (tC (.int 977)) (tVar 1))) (tOp rAddI (tOp rAddI (tVar 0) (tOp rMulI (tC (.int 31)) (tVar 1))) (tC (.int 5)))) (tCons (tOp rAddI (tOp rModI (tVar 1) (tC (.int 9))) (tC (.int 1))) (tCons (tC (.int 999983)) tNil)))) (tVar 2))))
def t__law_coins (K : PySem.W.Frag) (w : World) : TS :=
  (tSeq (tAsg (tCall (sp__law_cell_at K) [] E0 (tCons (tVar 0) (tCons (tVar 1) tNil))) (gName 4))
  (tSeq (tAsg (tOp (rIxT K) (tTup (tCons (tC (.int 1)) (tCons (tC (.int 1)) (tCons (tC (.int 1)) (tCons (tC (.int 2)) (tCons (tC (.int 3)) tNil)))))) (tCall (sp__law_number K) [] E0 (tCons (tVar 4) (tCons (tOp rAddI (tVar 1) (tC (.int 1))) (tCons (tC (.int 5)) tNil))))) (gName 5))
  (tSeq (tAsg (tLst tNil) (gName 6))
  (tSeq (tFor (iRng1 (tCons (tOp rAddI (tC (.int 1)) (tCall (sp__law_number K) [] E0 (tCons (tVar 4) (tCons (tOp rAddI (tVar 1) (tC (.int 2))) (tCons (tVar 2) tNil))))) tNil)) (gName 7) (tDrop (tBM K "list" rAppend (tVar 6) (tCons (tOp rMulI (tVar 5) (tOp rAddI (tC (.int 1)) (tCall (sp__law_number K) [] E0 (tCons (tOp rAddI (tCall (sp__law_cell_at K) [] E0 (tCons (tVar 0) (tCons (tOp rAddI (tVar 1) (tVar 7)) tNil))) (tOp rMulI (tC (.int 31)) (tVar 7))) (tCons (tOp rAddI (tOp rAddI (tVar 1) (tVar 7)) (tC (.int 3))) (tCons (tOp rDivI (tVar 3) (tVar 5)) tNil)))))) tNil))))
  (tRet (tCB (rSortedSet w) (tCons (tCB (rSetI K w) (tCons (tVar 6) tNil)) tNil)))))))
def t__law_common (K : PySem.W.Frag) : TS :=
  (tRet (tOp (rIxL K) (tLc (iRng2 (tCons (tC (.int 1)) (tCons (tOp rAddI (tOp (rIxL K) (tVar 0) (tC (.int 0))) (tC (.int 1))) tNil))) (gName 1) (tB (tCB (rAll K) (tCons (tLc (iList K (tVar 0)) (gName 2) tYes (tOp rEq (tOp rModI (tVar 2) (tVar 1)) (tC (.int 0))) [2]) tNil))) (tVar 1) [1]) (tUn rNegI (tC (.int 1)))))
end Cb

set_option Elab.async false
set_option linter.all false
set_option maxRecDepth 100000
set_option maxHeartbeats 4000000
/-! Each reading keeps its promise: the program's defs. -/
namespace Cb
open PySem PySem.Spec PyProof.Rows L2 Evl Chg
section
variable {K : PySem.W.Frag} {vs : List V} {H : Hp} {Q : VK} {E : XK}
abbrev endsOf (Q : VK) : Ends := { nx := fun _ H' => Q .non H', rt := Q }
theorem len_is_number (h : sp_is_number K vs H Q E) : vs.length = (["thing"] : List Str).length := by
  obtain ⟨v, T, b1, b2, rfl, _⟩ := h
  rfl
theorem pure_is_number (h : sp_is_number K vs H Q E) : t_is_number K (endsOf Q) (start ["thing"] vs) H := by
  obtain ⟨v, T, b1, b2, rfl, ty, e1, e2, q⟩ := h
  refine s_ret (v := .bl (b1 && !b2)) ?_ fun H1 e => q H1 e
  exact ev_andV (ev_isi (ev_var rfl) ty e1) fun _ => ev_notV (ev_isi (ev_var rfl) ty e2)
theorem is_int {i : Int} (hq : RetV (.bl true) H Q) : sp_is_number K [.int i] H Q E :=
  ⟨.int i, "int", true, false, rfl, fun _ _ => .base (.int i), by decide +kernel, by decide +kernel, hq⟩
theorem ev_isnum {σ : L2.St} {te : TE} {i : Int} (h : Ev te σ H (.int i)) : Ev (tCall (sp_is_number K) [] E (tCons te tNil)) σ H (.bl true) :=
  ev_callV (ea_cons h ea_nil) fun H1 _ Q q => is_int q

theorem len_check_coins (h : sp_check_coins K vs H Q E) : vs.length = (["coins"] : List Str).length := by
  obtain ⟨p, cs, rfl, _⟩ := h
  rfl
theorem all_map_true {α : Type} {xs : List α} {f : α → Bool} (h : ∀ x ∈ xs, f x = true) : (xs.map f).all id = true := by
  rw [List.all_map, List.all_eq_true]
  exact fun x hx => h x hx
theorem any_zip_false {cs : List Int} (h : cs.Pairwise (· < ·)) : (List.zipWith (fun a b : Int => decide (b ≤ a)) cs (cs.drop 1)).any id = false := by
  rw [Bool.eq_false_iff]
  intro hx
  obtain ⟨b, hb, e⟩ := List.any_eq_true.mp hx
  obtain ⟨i, hi, rfl⟩ := List.mem_iff_getElem.mp hb
  rw [List.length_zipWith, List.length_drop] at hi
  rw [List.getElem_zipWith, List.getElem_drop] at e
  have := List.pairwise_iff_getElem.mp h i (1 + i) (by omega) (by omega) (by omega)
  simp at e
  omega
theorem cut_one (xs : List V) : cutV xs (some 1) none = xs.drop 1 := by
  unfold cutV
  rw [show HT.sIx xs.length 0 (some 1) = min 1 xs.length from HT.sIx_nat xs.length 0 1, HT.sIx_none]
  cases xs with
  | nil => rfl
  | cons x r =>
    rw [show min 1 (x :: r).length = 1 by
      rw [List.length_cons]
      omega]
    rw [List.take_of_length_le (by rw [List.length_drop]; exact Nat.le_refl _)]
theorem pure_check_coins (h : sp_check_coins K vs H Q E) : t_check_coins K (endsOf Q) (start ["coins", "worth", "one", "other"] vs) H := by
  obtain ⟨p, cs, rfl, hp, hc, q⟩ := h
  have len : (cs.map V.int).length = cs.length := List.length_map ..
  have h1 := hc.one
  have h6 := hc.six
  refine q_when (b := false) ?_ (fun z => nomatch z) fun _ H1 e1 => ?_
  · refine et_is (et_or (a := false) (b := false) (et_is (et_not (et_B (ev_isi (T := "list") (b := true) (ev_var rfl) (fun H1 e => .base (.lst (e p _ hp))) (by decide +kernel)))) rfl) fun _ => et_is (et_not (et_chain (ev_chain (a := true) (b := true) ev_c (ev_len (ev_var rfl) (sq_of hp)) ?_ (fun _ => ev_c) fun _ => ?_))) rfl) rfl
    · have : RV (H := H) rLeI (.int 1) (.int ((cs.map V.int).length : Int)) (.bl (decide ((1 : Int) ≤ ((cs.map V.int).length : Int)))) := rv_I0
      rw [decide_eq_true (by rw [len]; omega)] at this
      exact this
    · have : RV (H := H) rLeI (.int ((cs.map V.int).length : Int)) (.int 6) (.bl (decide (((cs.map V.int).length : Int) ≤ 6))) := rv_I0
      rw [decide_eq_true (by rw [len]; omega)] at this
      exact this
  have hp1 := e1 p _ hp
  refine q_when (b := false) ?_ (fun z => nomatch z) fun _ H2 e2 => ?_
  · refine et_is (a := !true) (et_not (et_B ?_)) rfl
    have := ev_allL (K := K) (bs := (cs.map V.int).map fun _ => true) (σ := start ["coins", "worth", "one", "other"] [.ref p]) (H := H1) (te := tLc (iList K (tVar 0)) (gName 1) tYes (tAndV (tCall (sp_is_number K) [] E0 (tCons (tVar 1) tNil)) (tChain rLeI rLeI (tC (.int 1)) (tVar 1) (tC (.int 30)))) [1]) ?_
    · rw [all_map_true fun _ _ => rfl] at this
      exact this
    rw [List.map_map]
    refine el_lcY (fun _ => .bl true) (ev_var rfl) (sq_of hp1) (by rw [len]; omega) (fun _ => rfl) fun x H3 hx e3 => ?_
    obtain ⟨w, hw, rfl⟩ := List.mem_map.mp hx
    have hb := hc.wor w hw
    refine ev_eq (ev_andV (a := true) (b := true) (ev_isnum (ev_var rfl)) fun _ => ev_chain (a := true) (b := true) ev_c (ev_var rfl) ?_ (fun _ => ev_c) fun _ => ?_) rfl
    · have : RV (H := H3) rLeI (.int 1) (.int w) (.bl (decide ((1 : Int) ≤ w))) := rv_I0
      rw [decide_eq_true hb.1] at this
      exact this
    · have : RV (H := H3) rLeI (.int w) (.int 30) (.bl (decide (w ≤ (30 : Int)))) := rv_I0
      rw [decide_eq_true hb.2] at this
      exact this
  have hp2 := e2 p _ hp1
  refine s_when (b := false) ?_ (fun z => nomatch z) fun _ H3 e3 => q H3 ((e1.trans e2).trans e3)
  refine et_B ?_
  have := ev_anyL (K := K) (bs := List.zipWith (fun a b : Int => decide (b ≤ a)) cs (cs.drop 1)) (σ := start ["coins", "worth", "one", "other"] [.ref p]) (H := H2)
    (te := tLc (iZip K (tCons (tVar 0) (tCons (tSl (rSlL K) (tVar 0) (tPart (tC (.int 1))) tNoPart) tNil))) (gTup K 2 (gCons (gName 2) (gCons (gName 3) gNil))) tYes (tOp rGeI (tVar 2) (tVar 3)) [2, 3]) ?_
  · rw [any_zip_false hc.ris] at this
    exact this
  refine el_eq (el_lcZ (a := p) (b := p) (xs := cs.map V.int) (ys := (cs.drop 1).map V.int) (fun x y => match x, y with | .int a, .int b => .bl (decide (b ≤ a)) | _, _ => .non) (fun H3 e3 Q' k => ?_) (by rw [len]; omega) (fun _ _ => rfl) fun i x y H3 hx hy e3 => ?_) ?_
  · refine ⟨.ref p, rfl, ?_⟩
    refine el_go (el_sl (K := K) (ev_var rfl) (eo_some ev_c) eo_none (sq_of (e3 p _ hp2))) fun c H4 hc4 e4 h4 => ?_
    refine k p c H4 e4 (sq_of (e4 p _ (e3 p _ hp2))) (sq_of ?_)
    rw [h4, cut_one, List.map_drop]
  · obtain ⟨a, ha, rfl⟩ := List.mem_map.mp (List.mem_of_getElem? hx)
    obtain ⟨b, hb, rfl⟩ := List.mem_map.mp (List.mem_of_getElem? hy)
    exact ev_cmp (p := fun i j => decide (j ≤ i)) (ev_var rfl) (ev_var rfl)
  · rw [List.zipWith_map, List.map_zipWith]
theorem len_check_amount (h : sp_check_amount K vs H Q E) : vs.length = (["amount", "most"] : List Str).length := by
  obtain ⟨a, m, rfl, _⟩ := h
  rfl
theorem pure_check_amount (h : sp_check_amount K vs H Q E) : t_check_amount K (endsOf Q) (start ["amount", "most"] vs) H := by
  obtain ⟨a, m, rfl, h0, hm, q⟩ := h
  refine s_when (b := false) ?_ (fun z => nomatch z) fun _ H3 e3 => q H3 e3
  refine et_is (et_or (a := false) (b := false) (et_is (et_not (et_B (ev_isnum (ev_var rfl)))) rfl) fun _ => et_is (et_or (a := false) (b := false) (et_is (et_test (ev_cmp (p := fun i j => decide (i < j)) (ev_var rfl) ev_c)) (decide_eq_false (by omega))) fun _ =>
    et_is (et_chain (ev_chain (a := decide ((0 : Int) ≤ m)) (b := decide (m < a)) ev_c (ev_var rfl) rv_I0 (fun _ => ev_var rfl) fun _ => rv_I0)) ?_) rfl) rfl
  by_cases z : 0 ≤ m
  · have := hm z
    rw [decide_eq_false (show ¬ m < a by omega), Bool.and_false]
  · rw [decide_eq_false z, Bool.false_and]
theorem len_common (h : sp_common K vs H Q E) : vs.length = (["numbers"] : List Str).length := by
  obtain ⟨p, cs, rfl, _⟩ := h
  rfl
theorem gc_take {cs : List Int} {i : Nat} {w : Int} (h : cs[i]? = some w) : gc (cs.take (i + 1)) = Int.gcd (gc (cs.take i)) w := by
  unfold gc
  rw [List.take_add_one, h, List.foldl_append]
  rfl
theorem pure_common (h : sp_common K vs H Q E) : t_common K (endsOf Q) (start ["numbers", "found", "number"] vs) H := by
  obtain ⟨p, cs, rfl, hp, hw, hl, q⟩ := h
  refine q_asg ev_c fun H1 e1 => ?_
  refine q_forLn (xs := cs.map V.int) (ev_var rfl) (sq_of (e1 p _ hp)) (fun i σ' H' => Ex H1 H' ∧ ∃ y, σ' = [some (.ref p), some (.int (gc (cs.take i))), y]) (fun H2 e2 => ⟨e2, none, rfl⟩) (fun i σ' H' _ hP => sq_of (hP.1 p _ (e1 p _ hp))) (fun i x σ' H' hx hP => ?_) fun σ' H' hP => ?_
  · obtain ⟨e2, y, rfl⟩ := hP
    obtain ⟨w, hw1, rfl⟩ : ∃ w, cs[i]? = some w ∧ x = .int w := by
      rw [List.getElem?_map] at hx
      cases e : cs[i]? with
      | none => rw [e] at hx; cases hx
      | some w => rw [e] at hx; exact ⟨w, rfl, (Option.some.inj hx).symm⟩
    have w0 := hw w (List.mem_of_getElem? hw1)
    refine s_while (fun m σ2 H2 => Ex H1 H2 ∧ ∃ f n : Int, σ2 = [some (.ref p), some (.int f), some (.int n)] ∧ 0 ≤ f ∧ 0 ≤ n ∧ Int.gcd f n = Int.gcd (gc (cs.take i)) w ∧ m = n.toNat) w.toNat ⟨e2, _, _, rfl, gc_nonneg _, w0, rfl, rfl⟩ fun m σ2 H2 hW => ?_
    obtain ⟨e3, f, n, rfl, f0, n0, hg, rfl⟩ := hW
    refine ⟨decide (0 < n), et_test (ev_cmp (p := fun i j => decide (j < i)) (ev_var rfl) ev_c), fun hb H3 e4 => ?_, fun hb H3 e4 => ?_⟩
    · have hn : 0 < n := of_decide_eq_true hb
      refine ⟨fun σ3 H3 => Ex H1 H3 ∧ ∃ f' n' : Int, σ3 = [some (.ref p), some (.int f'), some (.int n')] ∧ 0 ≤ f' ∧ 0 ≤ n' ∧ Int.gcd f' n' = Int.gcd (gc (cs.take i)) w ∧ n' < n, fun σ3 H3 hN => ?_, ?_⟩
      · obtain ⟨e5, f', n', rfl, a, b, c, d⟩ := hN
        exact ⟨n'.toNat, by omega, e5, f', n', rfl, a, b, c, rfl⟩
      · refine ⟨.int n, rfl, ?_⟩
        refine ev_go (ev_mod (ev_var rfl) (ev_var rfl) hn) fun H4 e5 => ⟨.int n, .int (f % n), rfl, (e3.trans e4).trans e5, n, f % n, rfl, n0, Int.emod_nonneg _ (by omega), ?_, Int.emod_lt_of_pos _ hn⟩
        rw [gcd_step f0 hn]
        exact hg
    · have hn : ¬ 0 < n := of_decide_eq_false hb
      have e0 : n = 0 := by omega
      subst e0
      refine ⟨e3.trans e4, some (.int 0), ?_⟩
      rw [gc_take hw1, ← hg]
      have : (Int.gcd f 0 : Int) = f := by rw [Int.gcd_zero_right]; omega
      rw [this]
  · obtain ⟨e2, y, rfl⟩ := hP
    refine s_ret (ev_var rfl) fun H3 e3 => ?_
    rw [List.length_map, List.take_length]
    exact q H3 ((e1.trans e2).trans e3)
theorem len_strip (h : sp_strip K vs H Q E) : vs.length = (["coins", "amount"] : List Str).length := by
  obtain ⟨p, cs, a, rfl, _⟩ := h
  rfl
theorem pure_strip (h : sp_strip K vs H Q E) : t_strip K (endsOf Q) (start ["coins", "amount"] vs) H := by
  obtain ⟨p, cs, a, rfl, hp, ne, ht, ha, q⟩ := h
  have top : ∀ H1, Ex H H1 → Ev (tOp (rIxL K) (tVar 0) (tUn rNegI (tC (.int 1)))) (start ["coins", "amount"] [.ref p, .int a]) H1 (.int (topC cs)) := fun H1 e => ev_ixL (ev_var rfl) ev_m1 (sq_of (e p _ hp)) (topC_at ne)
  refine ev_go (Q := fun x H1 => _) (ev_neg (top H (Ex.refl H))) fun H1 e1 => ?_
  refine ev_go (Q := fun x H1 => _) (ev_add (ev_var (v := .int a) rfl) (top H1 e1)) fun H2 e2 => ⟨-topC cs, a + topC cs, rfl, rfl, ⟨by omega, by omega, by omega, by omega, by omega⟩, fun l hl => ?_⟩
  exact q l _ (fresh_back (e1.trans e2) hl) ((e1.trans e2).trans (Ex.new hl)) upd_same
end
end Cb

set_option Elab.async false
set_option linter.all false
set_option maxRecDepth 100000
set_option maxHeartbeats 4000000
/-! heights_of, fewest. -/
namespace Cb
open PySem PySem.Spec PyProof.Rows L2 Evl Chg
/-! ### == of lists of ints -/
theorem eqvAll_ints : ∀ xs ys : List Int, PyData.eqvAll (xs.map PyData.int) (ys.map PyData.int) = decide (xs = ys)
  | [], [] => by simp [PyData.eqvAll]
  | [], _ :: _ => by simp [PyData.eqvAll]
  | _ :: _, [] => by simp [PyData.eqvAll]
  | a :: r, b :: t => by
    rw [List.map_cons, List.map_cons, PyData.eqvAll, eqvAll_ints r t, PyData.eqv]
    by_cases h : a = b <;> by_cases h' : r = t <;> simp [h, h']
theorem eqv_ints (xs ys : List Int) : PyData.eqv (.list (xs.map PyData.int)) (.list (ys.map PyData.int)) = decide (xs = ys) := by
  rw [PyData.eqv]; exact eqvAll_ints xs ys
theorem dpAll_ints {K : PySem.W.Frag} {H : Hp} : ∀ xs : List Int, DpAll K H (xs.map V.int) (xs.map PyData.int)
  | [] => .nil
  | x :: r => .cons (.int x) (dpAll_ints r)
theorem dp_ints {K : PySem.W.Frag} {H : Hp} {p : Addr} {xs : List Int} (h : SqL K H p (xs.map V.int)) : Dp K H (.ref p) (.list (xs.map PyData.int)) := .lst h (dpAll_ints xs)
theorem flat_rep (x : V) : ∀ n : Nat, (List.replicate n [x]).flatten = List.replicate n x
  | 0 => rfl
  | n + 1 => by rw [List.replicate_succ, List.flatten_cons, List.replicate_succ, flat_rep x n]; rfl
section
variable {K : PySem.W.Frag} {σ : L2.St} {H : Hp} {ta tb : TE} {D : Ends}
theorem rv_neL {p q : Addr} {xs ys : List Int} (h1 : SqL K H p (xs.map V.int)) (h2 : SqL K H q (ys.map V.int)) : RV (rNeD K) (.ref p) (.ref q) H (.bl (!decide (xs = ys))) := fun H1 e Q k =>
  ⟨_, _, dp_ints (ex_l e h1), dp_ints (ex_l e h2), PySem.W.ke_shaped_ints _, PySem.W.ke_shaped_ints _, by rw [eqv_ints]; exact k H1 (Ex.refl H1)⟩
theorem rv_eqL {p q : Addr} {xs ys : List Int} (h1 : SqL K H p (xs.map V.int)) (h2 : SqL K H q (ys.map V.int)) : RV (rEqD K) (.ref p) (.ref q) H (.bl (decide (xs = ys))) := fun H1 e Q k =>
  ⟨_, _, dp_ints (ex_l e h1), dp_ints (ex_l e h2), PySem.W.ke_shaped_ints _, PySem.W.ke_shaped_ints _, by rw [eqv_ints]; exact k H1 (Ex.refl H1)⟩
/-- xs != [..] -/
theorem ev_neN {p : Addr} {xs ys : List Int} (ha : Ev ta σ H (.ref p)) (hp : SqL K H p (xs.map V.int)) (hb : EvL tb σ H (ys.map V.int)) : Ev (tOp (rNeD K) ta tb) σ H (.bl (!decide (xs = ys))) :=
  ev_opL ha hb fun q H1 hq e => rv_neL (ex_l e hp) (sq_of hq)
/-- x = xs.pop(0) -/
theorem s_pop0 {l : Addr} {x : V} {r : List V} {i : Nat} (ha : Ev ta σ H (.ref l)) (hl : H l = some (.lst (x :: r))) (k : ∀ H1, Ex H H1 → D.nx (σ.set i (some x)) (upd H1 l (.lst r))) :
    tAsg (tBM K "list" rPopAt ta (tCons (tC (.int 0)) tNil)) (gName i) D σ H := ha H (Ex.refl H) _ fun H1 e1 =>
  ⟨Or.inl ⟨rfl, x :: r, sq_of (e1 l _ hl)⟩, l, x :: r, 0, 0, x, rfl, rfl, e1 l _ hl, by decide, by decide, seqIndex_of (by decide) (by rw [List.length_cons]; omega), rfl, k H1 e1⟩
/-- for over a new tuple -/
theorem s_forNU {xs : List V} {tl : TE} {g : TG} {tu : TS} (h : EvU tl σ H xs) (k : ∀ p H1, H p = none → Ex H H1 → H1 p = some (.tup xs) → ∃ Pv : Nat → L2.St → Hp → Prop, Pv 0 σ H1 ∧ (∀ i σ' H', i ≤ xs.length → Pv i σ' H' → SqT K H' p xs) ∧
    (∀ i x σ' H', xs[i]? = some x → Pv i σ' H' → g x σ' H' fun σ2 H2 => tu { D with nx := Pv (i + 1), ct := Pv (i + 1), bk := D.nx } σ2 H2) ∧ ∀ σ' H', Pv xs.length σ' H' → D.nx σ' H') : tFor (iTup K tl) g tu D σ H :=
  h H (Ex.refl H) _ fun p H1 hp e h1 => ⟨p, rfl, ⟨xs, st_of h1⟩, by
    obtain ⟨Pv, a, b, c, d⟩ := k p H1 hp e h1
    exact for_tup Pv a b c d⟩
/-- [x] * n -/
theorem el_rep1 {x : V} {n : Nat} (ha : EvL ta σ H [x]) (hb : ∀ H1, Ex H H1 → Ev tb σ H1 (.int (n : Int))) (hn : n ≤ 100000) : EvL (tOp rRep ta tb) σ H (List.replicate n x) := fun H1 e Q q =>
  ha H1 e _ fun p H2 hp e2 h2 => hb H2 (e.trans e2) H2 (Ex.refl H2) _ fun H3 e3 => ⟨p, n, [x], rfl, rfl, e3 p _ h2, by omega, by omega, by
    show 1 * (n : Int).toNat ≤ sizeLine
    rw [Int.toNat_natCast, Nat.one_mul]; exact sz_of hn, fun l hl => by
    have er : (List.replicate (n : Int).toNat [x]).flatten = List.replicate n x := by rw [Int.toNat_natCast]; exact flat_rep x n
    rw [er]
    exact q l _ (fresh_back (e2.trans e3) hl) ((e2.trans e3).trans (Ex.new hl)) upd_same⟩
end
/-! ### heights_of -/
section
variable {K : PySem.W.Frag} {vs : List V} {H : Hp} {Q : VK} {E : XK}
theorem len_heights_of (h : sp_heights_of K vs H Q E) : vs.length = (["coins", "amount"] : List Str).length := by
  obtain ⟨p, cs, a, rfl, _⟩ := h
  rfl
/-- found at fo, turn at tu, over what stood in H1 -/
structure HW (H1 : Hp) (fo tu : Addr) (F T : List Int) (H' : Hp) : Prop where
  ex : Ex H1 H'
  nf : H1 fo = none
  nt : H1 tu = none
  ne : fo ≠ tu
  fo : Il H' fo F
  tu : Il H' tu T
theorem HW.mono {H1 H' H'' : Hp} {fo tu : Addr} {F T : List Int} (h : HW H1 fo tu F T H') (e : Ex H' H'') : HW H1 fo tu F T H'' := ⟨h.ex.trans e, h.nf, h.nt, h.ne, e _ _ h.fo, e _ _ h.tu⟩
theorem HW.setF {H1 H' : Hp} {fo tu : Addr} {F T F' : List Int} (h : HW H1 fo tu F T H') : HW H1 fo tu F' T (upd H' fo (.lst (F'.map V.int))) :=
  ⟨h.ex.mut h.nf, h.nf, h.nt, h.ne, upd_same, by rw [Il, upd_ne h.ne.symm]; exact h.tu⟩
theorem HW.setT {H1 H' : Hp} {fo tu : Addr} {F T T' : List Int} (h : HW H1 fo tu F T H') : HW H1 fo tu F T' (upd H' tu (.lst (T'.map V.int))) :=
  ⟨h.ex.mut h.nt, h.nf, h.nt, h.ne, by rw [Il, upd_ne h.ne]; exact h.fo, upd_same⟩
theorem rgV_len {a b : Int} : (rgV a b).length = (b - a).toNat := rgV_length a b
/-- one neighbour -/
theorem visit_step {D : Ends} {H1 H' : Hp} {p pl fo tu : Addr} {a here there n : Int} {y6 : Option V} {F T : List Int} {xs : List V} (hw : HW H1 fo tu F T H') (hpl : H1 pl = some (.lst xs)) (hn : (xs.length : Int) = n) (hF : (F.length : Int) = n) (hn2 : n ≤ 50000)
    (h0 : 0 ≤ here) (h1 : here < n) (hT : T.length < 50000)
    (k : ∀ H'', HW H1 fo tu (visit here (F, T) there).1 (visit here (F, T) there).2 H'' → (∀ b o, b ≠ fo → b ≠ tu → H' b = some o → H'' b = some o) → D.nx [some (.ref p), some (.int a), some (.ref pl), some (.ref fo), some (.ref tu), some (.int here), y6, some (.int there)] H'') :
    tIfS (tAnd (tTest (tChain rLeI rLtI (tC (.int 0)) (tVar 7) (tCB (rLenS K) (tCons (tVar 2) tNil)))) (tTest (tOp rLtI (tOp (rIxL K) (tVar 3) (tVar 7)) (tC (.int 0)))))
      (tSeq (tAsg (tOp rAddI (tOp (rIxL K) (tVar 3) (tVar 5)) (tC (.int 1))) (gSub (tVar 3) (tVar 7) rSetL)) (tDrop (tBM K "list" rAppend (tVar 4) (tCons (tVar 7) tNil)))) tNext D
      [some (.ref p), some (.int a), some (.ref pl), some (.ref fo), some (.ref tu), some (.int here), y6, some (.int there)] H' := by
  have lF : (F.map V.int).length = F.length := List.length_map ..
  refine s_when (b := (decide (0 ≤ there) && decide (there < n)) && decide (ent F there < 0)) ?_ (fun hb H2 e2 => ?_) fun hb H2 e2 => ?_
  · refine et_and (et_chain (ev_chain (a := decide (0 ≤ there)) (b := decide (there < n)) ev_c (ev_var rfl) rv_I0 (fun _ => ev_eq (ev_len (ev_var rfl) (sq_of (hw.ex _ _ hpl))) (by rw [hn])) fun _ => rv_I0)) fun hb => ?_
    rw [Bool.and_eq_true, decide_eq_true_eq, decide_eq_true_eq] at hb
    exact et_test (ev_cmp (p := fun i j => decide (i < j)) (ev_ixL (ev_var rfl) (ev_var rfl) (sq_of hw.fo) (atI_int hb.1 (by omega))) ev_c)
  · rw [Bool.and_eq_true, Bool.and_eq_true, decide_eq_true_eq, decide_eq_true_eq, decide_eq_true_eq] at hb
    obtain ⟨⟨b0, b1⟩, b2⟩ := hb
    have hw2 := hw.mono e2
    have ev : visit here (F, T) there = (F.set there.toNat (ent F here + 1), T ++ [there]) := if_pos ⟨b0, by show there < (F.length : Int); omega, b2⟩
    rw [ev] at k
    refine q_setL (xs := F.map V.int) (j := there.toNat) hw2.fo (ev_add (ev_ixL (ev_var rfl) (ev_var rfl) (sq_of hw2.fo) (atI_int h0 (by omega))) ev_c) (ev_var rfl) (ev_eq (ev_var rfl) (by rw [show ((there.toNat : Nat) : Int) = there by omega])) (by omega) fun H3 e3 => ?_
    have e4 : (F.map V.int).set there.toNat (.int (ent F here + 1)) = (F.set there.toNat (ent F here + 1)).map V.int := by rw [List.map_set]
    rw [e4]
    have hw3 := (hw2.mono e3).setF (F' := F.set there.toNat (ent F here + 1))
    refine s_app hw3.tu (ev_var rfl) (ev_var rfl) (by rw [List.length_map]; omega) fun H4 e5 => ?_
    have e6 : T.map V.int ++ [V.int there] = (T ++ [there]).map V.int := by rw [List.map_append]; rfl
    rw [e6]
    refine k _ ((hw3.mono e5).setT) fun b o n1 n2 hb => ?_
    rw [upd_ne n2]
    refine e5 _ _ ?_
    rw [upd_ne n1]
    exact e3 _ _ (e2 _ _ hb)
  · have ev : visit here (F, T) there = (F, T) := if_neg (by
      rintro ⟨z0, z1, z2⟩
      dsimp only at z0 z1 z2
      rw [decide_eq_true z0, decide_eq_true (show there < n by omega), decide_eq_true z2] at hb
      cases hb)
    rw [ev] at k
    exact k H2 (hw.mono e2) fun b o _ _ hb => e2 _ _ hb
theorem get_int {cs : List Int} {i : Nat} {x : V} (h : (cs.map V.int)[i]? = some x) : ∃ w, cs[i]? = some w ∧ x = .int w := by
  rw [List.getElem?_map] at h
  cases e : cs[i]? with
  | none => rw [e] at h; cases h
  | some w => rw [e] at h; exact ⟨w, rfl, (Option.some.inj h).symm⟩
theorem mem_take_succ {cs : List Int} {i : Nat} {w x : Int} (h : cs[i]? = some w) (hx : x ∈ cs.take (i + 1)) : x ∈ cs.take i ∨ x = w := by
  rw [List.take_add_one, h] at hx
  rcases List.mem_append.mp hx with z | z
  · exact .inl z
  · exact .inr (by simpa using z)
theorem _root_.Chg.Be.weak {cs : List Int} {n g here d : Int} {S S' : Int → Prop} {F T : List Int} (h : Be cs n g here d S F T) (hS : ∀ s, S' s → S s) : Be cs n g here d S' F T :=
  { toBst := h.toBst, h0 := h.h0, hn := h.hn, hd := h.hd, d0 := h.d0, turn := h.turn, srt := h.srt, top := h.top, done := h.done, mine := fun s hs => h.mine s (hS s hs) }
theorem be_len_ok {cs : List Int} {n g here d : Int} {S : Int → Prop} {F T : List Int} {M : Nat} (h : negs F + T.length = M) (hM : M < 50000) : T.length < 50000 := by omega
theorem negs_le (F : List Int) : negs F ≤ F.length := List.countP_le_length
theorem pure_heights_of (h : sp_heights_of K vs H Q E) : t_heights_of K (endsOf Q) (start ["coins", "amount", "places", "found", "turn", "here", "worth", "there"] vs) H := by
  obtain ⟨p, cs, a, rfl, hp, hc, ha, q⟩ := h
  have ht := hc.top
  have ne := hc.ne
  generalize hg : topC cs = g at ht
  have topEv : ∀ {σ : L2.St} {H1 : Hp}, Ex H H1 → σ[0]? = some (some (.ref p)) → Ev (tOp (rIxL K) (tVar 0) (tUn rNegI (tC (.int 1)))) σ H1 (.int g) := fun e hs => hg ▸ ev_ixL (ev_var hs) ev_m1 (sq_of (e p _ hp)) (topC_at ne)
  generalize hn : a + 2 * g = n
  -- places
  refine q_asgL (xs := rgV (-g) (a + g)) (el_callL (ea_cons (ev_var rfl) (ea_cons (ev_var rfl) ea_nil)) fun H1 e1 Q' q' => ⟨p, cs, a, rfl, e1 p _ hp, ne, by omega, by omega, by rw [hg]; exact q'⟩) fun pl H1 npl e1 hpl => ?_
  have lpl : ((rgV (-g) (a + g)).length : Int) = n := by rw [rgV_len]; omega
  -- found
  refine q_asgL (xs := List.replicate n.toNat (.int (-1))) (el_rep1 (el_lst (ea_cons ev_m1 ea_nil) (by simp)) (fun H2 e2 => ev_eq (ev_len (ev_var rfl) (sq_of (e2 _ _ hpl))) (by rw [lpl, show ((n.toNat : Nat) : Int) = n by omega])) (by omega)) fun fo H2 nfo e2 hfo => ?_
  have nfo1 : H1 fo = none := nfo
  have eF : List.replicate n.toNat (V.int (-1)) = (List.replicate n.toNat (-1 : Int)).map V.int := by rw [List.map_replicate]
  rw [eF] at hfo
  -- found[coins[-1]] = 0
  refine q_setL (xs := (List.replicate n.toNat (-1 : Int)).map V.int) (j := g.toNat) hfo ev_c (ev_var rfl) (ev_eq (topEv (e1.trans e2) rfl) (by rw [show ((g.toNat : Nat) : Int) = g by omega])) (by rw [List.length_map, List.length_replicate]; omega) fun H3 e3 => ?_
  have eF2 : ((List.replicate n.toNat (-1 : Int)).map V.int).set g.toNat (.int 0) = ((List.replicate n.toNat (-1 : Int)).set g.toNat 0).map V.int := by rw [List.map_set]
  rw [eF2]
  have e13 : Ex H1 (upd H3 fo (.lst (((List.replicate n.toNat (-1 : Int)).set g.toNat 0).map V.int))) := (e2.trans e3).mut nfo1
  -- turn
  refine q_asgL (xs := [.int g]) (el_lst (ea_cons (topEv (e1.trans e13) rfl) ea_nil) (by simp)) fun tu H4 ntu e4 htu => ?_
  have hw : HW H1 fo tu ((List.replicate n.toNat (-1 : Int)).set g.toNat 0) [g] H4 := ⟨e13.trans e4, nfo1, fresh_back e13 ntu, ne_of_none upd_same ntu, e4 _ _ upd_same, htu⟩
  -- the while
  refine q_while (fun m σ' H' => ∃ F T y5 y6 y7, σ' = [some (.ref p), some (.int a), some (.ref pl), some (.ref fo), some (.ref tu), y5, y6, y7] ∧ HW H1 fo tu F T H' ∧ Bq cs n g F T ∧ m = negs F + T.length ∧ m ≤ n.toNat + 1) _
    ⟨_, _, none, none, none, rfl, hw, Bq.start (by omega), rfl, ?_⟩ fun m σ' H' hW => ?_
  · have := negs_le ((List.replicate n.toNat (-1 : Int)).set g.toNat 0)
    rw [List.length_set, List.length_replicate] at this
    show _ + 1 ≤ _
    omega
  obtain ⟨F, T, y5, y6, y7, rfl, hw, hq, hm, hmle⟩ := hW
  have hlF := hq.len
  refine ⟨!decide (T = []), et_test (ev_neN (ev_var rfl) (sq_of hw.tu) (el_eq (el_lst ea_nil (by simp)) rfl)), fun hb H5 e5 => ?_, fun hb H5 e5 => ?_⟩
  · -- a turn
    have hw5 := hw.mono e5
    cases T with
    | nil => simp at hb
    | cons here T =>
      refine ⟨fun σ2 H2' => ∃ F' T' y5 y6 y7, σ2 = [some (.ref p), some (.int a), some (.ref pl), some (.ref fo), some (.ref tu), y5, y6, y7] ∧ HW H1 fo tu F' T' H2' ∧ Bq cs n g F' T' ∧ negs F' + T'.length = negs F + T.length, fun σ2 H2' hN => ?_, ?_⟩
      · obtain ⟨F', T', y5, y6, y7, e, a1, a2, a3⟩ := hN
        refine ⟨negs F' + T'.length, by rw [hm, List.length_cons]; omega, F', T', y5, y6, y7, e, a1, a2, rfl, ?_⟩
        rw [hm, List.length_cons] at hmle
        omega
      · refine s_pop0 (D := { nx := _, rt := _, bk := _, ct := _ }) (ev_var rfl) hw5.tu fun H6 e6 => ?_
        have hw6 : HW H1 fo tu F T (upd H6 tu (.lst (T.map V.int))) := (hw5.mono e6).setT
        have be := hq.pop
        have b0 := be.h0
        have b1 := be.hn
        generalize hd : ent F here = d at be
        rw [hm, List.length_cons] at hmle
        have hM : negs F + T.length < 50000 := by omega
        refine s_forLn (xs := cs.map V.int) (ev_var rfl) (sq_of (hw6.ex _ _ (e1 _ _ hp))) (fun i σ2 H2' => ∃ F' T' y6 y7, σ2 = [some (.ref p), some (.int a), some (.ref pl), some (.ref fo), some (.ref tu), some (.int here), y6, y7] ∧ HW H1 fo tu F' T' H2' ∧
          Be cs n g here d (fun s => ∃ w ∈ cs.take i, s = -w ∨ s = w) F' T' ∧ negs F' + T'.length = negs F + T.length) (fun H7 e7 => ⟨F, T, y6, y7, rfl, hw6.mono e7, be.weak (fun s ⟨w, hw, _⟩ => by simp at hw), rfl⟩)
          (fun i σ2 H2' _ ⟨F', T', y6, y7, _, h', _⟩ => sq_of (h'.ex _ _ (e1 _ _ hp))) (fun i x σ2 H2' hx hP => ?_) fun σ2 H2' hP => ?_
        · obtain ⟨F1, T1, z6, z7, rfl, w1, be1, m1⟩ := hP
          obtain ⟨w, hw0, rfl⟩ := get_int hx
          have hwm : w ∈ cs := List.mem_of_getElem? hw0
          -- the pair of neighbours
          have hu : EvU (tTup (tCons (tOp rSubI (tVar 5) (tVar 6)) (tCons (tOp rAddI (tVar 5) (tVar 6)) tNil))) [some (.ref p), some (.int a), some (.ref pl), some (.ref fo), some (.ref tu), some (.int here), some (.int w), z7] H2' [.int (here - w), .int (here + w)] :=
            eu_tup (ea_cons (ev_sub (ev_var rfl) (ev_var rfl)) (ea_cons (ev_add (ev_var rfl) (ev_var rfl)) ea_nil)) (by simp)
          refine s_forNU hu fun tp H7 ntp e7 htp => ?_
          have w7 := w1.mono e7
          have nfo' : tp ≠ fo := fun z => by rw [z, w1.fo] at ntp; cases ntp
          have ntu' : tp ≠ tu := fun z => by rw [z, w1.tu] at ntp; cases ntp
          refine ⟨fun j σ3 H3' => ∃ F2 T2 z7, σ3 = [some (.ref p), some (.int a), some (.ref pl), some (.ref fo), some (.ref tu), some (.int here), some (.int w), z7] ∧ HW H1 fo tu F2 T2 H3' ∧ H3' tp = some (.tup [.int (here - w), .int (here + w)]) ∧
            Be cs n g here d (fun s => (∃ w ∈ cs.take i, s = -w ∨ s = w) ∨ (1 ≤ j ∧ s = -w) ∨ (2 ≤ j ∧ s = w)) F2 T2 ∧ negs F2 + T2.length = negs F + T.length,
            ⟨F1, T1, z7, rfl, w7, htp, be1.weak (fun s h => by
              rcases h with h | h | h
              · exact h
              · omega
              · omega), m1⟩, fun j σ3 H3' _ ⟨F2, T2, z7, _, _, h, _⟩ => st_of h, fun j y σ3 H3' hy hP3 => ?_, fun σ3 H3' hP3 => ?_⟩
          · obtain ⟨F2, T2, z7, rfl, w2, ht2, be2, m2⟩ := hP3
            have l2 := be2.len
            obtain ⟨s, hs, ey, hS⟩ : ∃ s, Stp cs s ∧ y = .int (here + s) ∧ ∀ x, ((∃ w ∈ cs.take i, x = -w ∨ x = w) ∨ (1 ≤ j + 1 ∧ x = -w) ∨ (2 ≤ j + 1 ∧ x = w)) → ((∃ w ∈ cs.take i, x = -w ∨ x = w) ∨ (1 ≤ j ∧ x = -w) ∨ (2 ≤ j ∧ x = w)) ∨ x = s := by
              match j, hy with
              | 0, hy =>
                refine ⟨-w, .inr (by simpa using hwm), by rw [← Option.some.inj hy]; rfl, fun x hx => ?_⟩
                rcases hx with h | ⟨_, h⟩ | ⟨h, _⟩
                · exact .inl (.inl h)
                · exact .inr h
                · omega
              | 1, hy =>
                refine ⟨w, .inl hwm, (Option.some.inj hy).symm, fun x hx => ?_⟩
                rcases hx with h | ⟨_, h⟩ | ⟨_, h⟩
                · exact .inl (.inl h)
                · exact .inl (.inr (.inl ⟨by omega, h⟩))
                · exact .inr h
            subst ey
            obtain ⟨v1, v2⟩ := be2.visit hs
            refine visit_step (K := K) (y6 := some (.int w)) (p := p) (a := a) (there := here + s) w2 hpl lpl l2 (by omega) b0 b1 (by omega) fun H4' w4 k4 => ?_
            exact ⟨_, _, some (.int (here + s)), rfl, w4, k4 _ _ nfo' ntu' ht2, v1.weak hS, by rw [v2]; exact m2⟩
          · obtain ⟨F2, T2, z7, rfl, w2, ht2, be2, m2⟩ := hP3
            refine ⟨F2, T2, some (.int w), z7, rfl, w2, be2.weak fun s ⟨x, hx, hs⟩ => ?_, m2⟩
            rcases mem_take_succ hw0 hx with z | z
            · exact .inl ⟨x, z, hs⟩
            · subst z
              rcases hs with hs | hs
              · exact .inr (.inl ⟨by simp, hs⟩)
              · exact .inr (.inr ⟨by simp, hs⟩)
        · obtain ⟨F1, T1, z6, z7, rfl, w1, be1, m1⟩ := hP
          refine ⟨F1, T1, some (.int here), z6, z7, rfl, w1, be1.fin fun s hs => ?_, m1⟩
          rw [List.length_map, List.take_length]
          rcases hs with hs | hs
          · exact ⟨s, hs, .inr rfl⟩
          · exact ⟨-s, hs, .inl (by omega)⟩
  · -- the end
    have hw5 := hw.mono e5
    have eT : T = [] := by simpa using hb
    subst eT
    have eH := hq.hts (by omega)
    refine s_ret (ev_var rfl) fun H6 e6 => ?_
    refine q fo H6 (fresh_back e1 nfo1) (e1.trans ((hw5.mono e6).ex)) ?_
    have := (hw5.mono e6).fo
    rw [this, eH]
    unfold hOf
    rw [hg, hn]
end
end Cb

set_option Elab.async false
set_option linter.all false
set_option maxRecDepth 100000
set_option maxHeartbeats 4000000
/-! fewest; the laws' helpers. -/
namespace Cb
open PySem PySem.Spec PyProof.Rows L2 Evl Chg
section
variable {K : PySem.W.Frag} {vs : List V} {H : Hp} {Q : VK} {E : XK}
theorem len_fewest (h : sp_fewest K vs H Q E) : vs.length = (["coins", "amount"] : List Str).length := by
  obtain ⟨p, cs, a, rfl, _⟩ := h
  rfl
theorem hOf_at {cs : List Int} {a t : Int} (hc : Coins cs) (ha : 0 ≤ a) (h1 : -topC cs ≤ t) (h2 : t < a + topC cs) : ent (hOf cs a) (topC cs + t) = few cs t :=
  hts_few hc.le_top (by have := hc.top; omega) ha rfl h1 h2
theorem hOf_len {cs : List Int} {a : Int} (hc : Coins cs) (ha : 0 ≤ a) : ((hOf cs a).length : Int) = a + 2 * topC cs := by
  unfold hOf
  have := hc.top
  rw [hts_len]; omega
theorem max_more (g a : Int) : (if (a - g * g) / g > 0 then (a - g * g) / g else 0) = moreOf g a := by
  unfold moreOf
  split <;> omega
theorem ev_common {σ : L2.St} {te : TE} {p : Addr} {cs : List Int} (h : Ev te σ H (.ref p)) (hp : Il H p cs) (hc : Coins cs) : Ev (tCall (sp_common K) [] E (tCons te tNil)) σ H (.int (gc cs)) :=
  ev_callV (ea_cons h ea_nil) fun H1 e Q q => ⟨p, cs, rfl, e _ _ hp, fun w hw => by have := hc.wor w hw; omega, by have := hc.six; omega, q⟩
theorem ev_checkC {σ : L2.St} {te : TE} {p : Addr} {cs : List Int} (h : Ev te σ H (.ref p)) (hp : Il H p cs) (hc : Coins cs) : Ev (tCall (sp_check_coins K) [] E (tCons te tNil)) σ H .non :=
  ev_callV (ea_cons h ea_nil) fun H1 e Q q => ⟨p, cs, rfl, e _ _ hp, hc, q⟩
theorem ev_checkA {σ : L2.St} {te tm : TE} {a m : Int} (h : Ev te σ H (.int a)) (hm : Ev tm σ H (.int m)) (h0 : 0 ≤ a) (h1 : 0 ≤ m → a ≤ m) : Ev (tCall (sp_check_amount K) [] E (tCons te (tCons tm tNil))) σ H .non :=
  ev_callV (ea_cons h (ea_cons hm ea_nil)) fun H1 e Q q => ⟨a, m, rfl, h0, h1, q⟩
theorem el_heights {σ : L2.St} {te tm : TE} {p : Addr} {cs : List Int} {a : Int} (h : Ev te σ H (.ref p)) (hm : Ev tm σ H (.int a)) (hp : Il H p cs) (hc : Coins cs) (ha : 0 ≤ a ∧ a ≤ 5000) : EvL (tCall (sp_heights_of K) [] E (tCons te (tCons tm tNil))) σ H ((hOf cs a).map V.int) :=
  el_callL (ea_cons h (ea_cons hm ea_nil)) fun H1 e Q q => ⟨p, cs, a, rfl, e _ _ hp, hc, ha, q⟩
theorem small_mul {i j : Int} (h1 : -1000000 ≤ j ∧ j ≤ 1000000) : IntMulOk i j := mulOk_right (by omega)
/-- the part of fewest behind its checks -/
def t_fewest_rest (K : PySem.W.Frag) : TS :=
  (tSeq (tAsg (tOp (rIxL K) (tVar 0) (tUn rNegI (tC (.int 1)))) (gName 2))
  (tSeq (tAsg (tCB rMax2 (tCons (tC (.int 0)) (tCons (tOp rDivI (tOp rSubI (tVar 1) (tOp rMulI (tVar 2) (tVar 2))) (tVar 2)) tNil))) (gName 3))
  (tSeq (tAsg (tOp rSubI (tVar 1) (tOp rMulI (tVar 3) (tVar 2))) (gName 4))
  (tRet (tOp rAddI (tVar 3) (tOp (rIxL K) (tCall (sp_heights_of K) [] E0 (tCons (tVar 0) (tCons (tVar 4) tNil))) (tOp rAddI (tVar 2) (tVar 4))))))))
theorem fewest_rest {p : Addr} {cs : List Int} {a : Int} (hp : Il H p cs) (hc : Coins cs) (ha : 0 ≤ a) (hd : gc cs ∣ a) (q : RetV (.int (few cs a)) H Q) : t_fewest_rest K (endsOf Q) (start ["coins", "amount", "great", "more", "left"] [.ref p, .int a]) H := by
  have ht := hc.top
  obtain ⟨m1, m2, m3, m4⟩ := more_left (g := topC cs) (a := a) (by omega) ha
  have hgg : topC cs * topC cs ≤ 30 * 30 := Int.mul_le_mul ht.2 ht.2 (by omega) (by omega)
  refine q_asg (ev_ixL (ev_var rfl) ev_m1 (sq_of hp) (topC_at hc.ne)) fun H1 e1 => ?_
  refine q_asg (v := .int (moreOf (topC cs) a)) (ev_eq (ev_max ev_c (ev_div (ev_sub (ev_var rfl) (ev_mul (ev_var rfl) (ev_var rfl) (small_mul (by omega)))) (ev_var rfl) (by omega))) (by rw [max_more])) fun H2 e2 => ?_
  refine q_asg (ev_sub (ev_var rfl) (ev_mul (ev_var rfl) (ev_var rfl) (small_mul (by omega)))) fun H3 e3 => ?_
  have hp3 := e3 _ _ (e2 _ _ (e1 _ _ hp))
  refine s_ret (ev_add (ev_var rfl) (ev_ixNL (el_heights (ev_var rfl) (ev_var rfl) hp3 hc ⟨m2, by omega⟩) (ev_add (ev_var rfl) (ev_var rfl)) (atI_int (by omega) (by rw [hOf_len hc m2]; omega)))) fun H4 e4 => ?_
  rw [hOf_at hc m2 (by omega) (by omega), ← few_more hc.le_top (topC_mem hc.ne) ha hd]
  exact q H4 (((e1.trans e2).trans e3).trans e4)
theorem pure_fewest (h : sp_fewest K vs H Q E) : t_fewest K (endsOf Q) (start ["coins", "amount", "great", "more", "left"] vs) H := by
  obtain ⟨p, cs, a, rfl, hp, hc, ha, hd, q⟩ := h
  refine q_drop (ev_checkC (ev_var rfl) hp hc) fun H1 e1 => ?_
  have hp1 := e1 _ _ hp
  refine q_drop (ev_checkA (ev_var rfl) ev_m1 ha (by omega)) fun H2 e2 => ?_
  have hp2 := e2 _ _ hp1
  refine q_when (b := false) (et_test (ev_eq (ev_cmp (p := fun i j => decide (j < i)) (ev_mod (ev_var rfl) (ev_common (ev_var rfl) hp2 hc) hc.gpos) ev_c) ?_)) (fun z => nomatch z) fun _ H3 e3 => ?_
  · rw [Int.emod_eq_zero_of_dvd hd]; rfl
  exact fewest_rest (e3 _ _ hp2) hc ha hd fun H4 e4 => q H4 (((e1.trans e2).trans e3).trans e4)

/-! ### the laws' helpers -/
theorem len__law_cell_at (h : sp__law_cell_at K vs H Q E) : vs.length = (["_law_script", "_law_k"] : List Str).length := by
  obtain ⟨p, ns, k, rfl, _⟩ := h
  rfl
theorem pure__law_cell_at (h : sp__law_cell_at K vs H Q E) : t__law_cell_at K (endsOf Q) (start ["_law_script", "_law_k"] vs) H := by
  obtain ⟨p, ns, k, rfl, hp, hk, q⟩ := h
  have len : (ns.map V.int).length = ns.length := List.length_map ..
  refine q_when (et_test (ev_cmp (p := fun i j => decide (i < j)) (ev_var rfl) (ev_len (ev_var rfl) hp))) (fun hb H1 e1 => ?_) fun hb H1 e1 => ?_
  · rw [len, decide_eq_true_eq] at hb
    exact s_ret (ev_ixL (ev_var rfl) (ev_var rfl) (ex_l e1 hp) (atI_int hk hb)) fun H2 e2 => q H2 (e1.trans e2)
  · rw [len, decide_eq_false_iff_not] at hb
    have e : cellAt ns k = 0 := by
      unfold cellAt ent
      rw [List.getD_eq_getElem?_getD, List.getElem?_eq_none (by omega)]; rfl
    rw [e] at q
    exact s_ret ev_c fun H2 e2 => q H2 (e1.trans e2)
theorem len__law_draw (h : sp__law_draw K vs H Q E) : vs.length = (["_law_cell", "_law_k", "_law_most"] : List Str).length := by
  obtain ⟨c, k, m, rfl, _⟩ := h
  rfl
theorem ent_all {P : Int → Prop} {xs : List Int} (h : ∀ x ∈ xs, P x) {i : Int} (h0 : 0 ≤ i) (h1 : i < xs.length) : P (ent xs i) := by
  unfold ent
  have hj : i.toNat < xs.length := by omega
  rw [List.getD_eq_getElem?_getD, List.getElem?_eq_getElem hj]
  exact h _ (List.getElem_mem hj)
theorem pure__law_draw (h : sp__law_draw K vs H Q E) : t__law_draw K (endsOf Q) (start ["_law_cell", "_law_k", "_law_most", "_law_primes"] vs) H := by
  obtain ⟨c, k, m, rfl, hk, hm, q⟩ := h
  have hp : 0 < ent drawP (k % 16) := ent_all (P := fun x => 0 < x) (by decide) (by omega) (by show k % 16 < (16 : Nat); omega)
  refine q_asgU (xs := drawP.map V.int) (eu_tup (ea_cons ev_c (ea_cons ev_c (ea_cons ev_c (ea_cons ev_c (ea_cons ev_c (ea_cons ev_c (ea_cons ev_c (ea_cons ev_c (ea_cons ev_c (ea_cons ev_c (ea_cons ev_c (ea_cons ev_c (ea_cons ev_c (ea_cons ev_c (ea_cons ev_c (ea_cons ev_c ea_nil)))))))))))))))) (by decide)) fun p H1 hp1 e1 h1 => ?_
  refine s_ret (ev_mod (ev_mod (ev_add (ev_mul (ev_var rfl) ev_c (small_mul (by omega))) (ev_mul (ev_var rfl) ev_c (small_mul (by omega)))) (ev_op (ev_var rfl) (ev_mod (ev_var rfl) ev_c (by decide)) (rv_ixT (st_of h1) (atI_int (by omega) (by show k % 16 < (16 : Nat); omega)))) hp) (ev_var rfl) hm) fun H2 e2 => q H2 (e1.trans e2)
theorem len__law_number (h : sp__law_number K vs H Q E) : vs.length = (["_law_cell", "_law_k", "_law_limit"] : List Str).length := by
  obtain ⟨c, k, m, rfl, _⟩ := h
  rfl
theorem bits_small {x : Int} (h : -1000000 ≤ x ∧ x ≤ 1000000) : Builtin.Int.intBits x ≤ 64 := intBits_le_64 (by omega) (by omega)
theorem pure__law_number (h : sp__law_number K vs H Q E) : t__law_number K (endsOf Q) (start ["_law_cell", "_law_k", "_law_limit"] vs) H := by
  obtain ⟨c, k, m, rfl, hb, hk, hm, q⟩ := h
  have pw : ∀ {H1 : Hp} {σ : L2.St}, Ev (tOp rPowI (tC (.int 10)) (tC (.int 18))) σ H1 (.int (10 ^ 18)) := ev_pow ev_c ev_c (by decide)
  refine q_when (et_test (ev_cmp (p := fun i j => decide (j ≤ i)) (ev_var rfl) pw)) (fun hc H1 e1 => ?_) fun hc H1 e1 => ?_
  · have hc' : (10 : Int) ^ 18 ≤ c := of_decide_eq_true hc
    have ev : numV c k m = (c - 10 ^ 18) / ent numP (k % 5) % m := if_pos hc'
    rw [ev] at q
    have h5 : 0 < ent numP (k % 5) ∧ ent numP (k % 5) < 1073741824 := ent_all (P := fun x => 0 < x ∧ x < 1073741824) (by decide) (by omega) (by show k % 5 < (5 : Nat); omega)
    refine s_ret (ev_mod (ev_div (ev_sub (ev_var rfl) pw) (ev_ixNU (xs := numP.map V.int) (eu_tup (ea_cons ev_c (ea_cons ev_c (ea_cons ev_c (ea_cons ev_c (ea_cons ev_c ea_nil))))) (by decide)) (ev_mod (ev_var rfl) ev_c (by decide)) (atI_int (by omega) (by show k % 5 < (5 : Nat); omega))) h5) (ev_var rfl) hm) fun H2 e2 => q H2 (e1.trans e2)
  · have hc' : ¬ (10 : Int) ^ 18 ≤ c := of_decide_eq_false hc
    have ev : numV c k m = drawV ((c + 977 * k) * (c + 31 * k + 5)) (k % 9 + 1) 999983 % m := if_neg hc'
    rw [ev] at q
    have ok : IntMulOk (c + 977 * k) (c + 31 * k + 5) := by
      have h1 : Builtin.Int.intBits (c + 977 * k) ≤ max 1048600 64 + 1 := intBits_add_le hb (bits_small (by omega))
      have h2 : Builtin.Int.intBits (c + 31 * k) ≤ max 1048600 64 + 1 := intBits_add_le hb (bits_small (by omega))
      have h3 : Builtin.Int.intBits (c + 31 * k + 5) ≤ max (max 1048600 64 + 1) 64 + 1 := intBits_add_le h2 (bits_small (by omega))
      exact IntMulOk.of_le h1 h3 (by decide)
    refine s_ret (ev_mod (ev_callV (z := .int (drawV ((c + 977 * k) * (c + 31 * k + 5)) (k % 9 + 1) 999983)) (ea_cons (ev_mul (ev_add (ev_var rfl) (ev_mul ev_c (ev_var rfl) (small_mul (by omega)))) (ev_add (ev_add (ev_var rfl) (ev_mul ev_c (ev_var rfl) (small_mul (by omega)))) ev_c) ok) (ea_cons (ev_add (ev_mod (ev_var rfl) ev_c (by decide)) ev_c) (ea_cons ev_c ea_nil)))
      fun H2 e2 Q q => ⟨_, _, _, rfl, by omega, by decide, q⟩) (ev_var rfl) hm) fun H2 e2 => q H2 (e1.trans e2)
theorem num_bound {c k m : Int} (hm : 0 < m) : 0 ≤ numV c k m ∧ numV c k m < m := by
  unfold numV
  split
  · exact ⟨Int.emod_nonneg _ (by omega), Int.emod_lt_of_pos _ hm⟩
  · exact ⟨Int.emod_nonneg _ (by omega), Int.emod_lt_of_pos _ hm⟩
theorem ev_num {σ : L2.St} {tc tk tm : TE} {c k m : Int} (h1 : Ev tc σ H (.int c)) (h2 : Ev tk σ H (.int k)) (h3 : Ev tm σ H (.int m)) (hb : Bits c) (hk : 0 ≤ k ∧ k ≤ 1000) (hm : 0 < m) : Ev (tCall (sp__law_number K) [] E (tCons tc (tCons tk (tCons tm tNil)))) σ H (.int (numV c k m)) :=
  ev_callV (ea_cons h1 (ea_cons h2 (ea_cons h3 ea_nil))) fun H1 e Q q => ⟨c, k, m, rfl, hb, hk, hm, q⟩
theorem ev_cell {σ : L2.St} {ts tk : TE} {p : Addr} {ns : List Int} {k : Int} (h1 : Ev ts σ H (.ref p)) (h2 : Ev tk σ H (.int k)) (hp : SqL K H p (ns.map V.int)) (hk : 0 ≤ k) : Ev (tCall (sp__law_cell_at K) [] E (tCons ts (tCons tk tNil))) σ H (.int (cellAt ns k)) :=
  ev_callV (ea_cons h1 (ea_cons h2 ea_nil)) fun H1 e Q q => ⟨p, ns, k, rfl, ex_l e hp, hk, q⟩
theorem cell_bits {ns : List Int} (h : Cells ns) (k : Int) : Builtin.Int.intBits (cellAt ns k) ≤ 1048576 := by
  unfold cellAt ent
  rw [List.getD_eq_getElem?_getD]
  cases e : ns[k.toNat]? with
  | none => exact Nat.le_trans (bits_small (x := 0) (by decide)) (by decide)
  | some x => exact h x (List.mem_of_getElem? e)
theorem cell_Bits {ns : List Int} (h : Cells ns) (k : Int) : Bits (cellAt ns k) := Nat.le_trans (cell_bits h k) (by decide)
theorem cell_Bits2 {ns : List Int} (h : Cells ns) (k x : Int) (hx : -1000000 ≤ x ∧ x ≤ 1000000) : Bits (cellAt ns k + x) := Nat.le_trans (intBits_add_le (cell_bits h k) (bits_small hx)) (by decide)
end
end Cb

set_option Elab.async false
set_option linter.all false
set_option maxRecDepth 100000
set_option maxHeartbeats 4000000
/-! _law_coins, _law_common. -/
namespace Cb
open PySem PySem.Spec PyProof.Rows L2 Evl Chg
section
variable {K : PySem.W.Frag} {vs : List V} {H : Hp} {Q : VK} {E : XK}
theorem len__law_coins (h : sp__law_coins K vs H Q E) : vs.length = (["_law_script", "_law_by", "_law_most", "_law_great"] : List Str).length := by
  obtain ⟨p, ns, b, m, g, rfl, _⟩ := h
  rfl
def oftP : List Int := [1, 1, 1, 2, 3]
theorem pure__law_coins {w : World} (h : sp__law_coins K vs H Q E) : t__law_coins K w (endsOf Q) (start ["_law_script", "_law_by", "_law_most", "_law_great", "_law_cell", "_law_often", "_law_found", "_law_k"] vs) H := by
  obtain ⟨p, ns, b, m, g, rfl, hp, hcl, hb, hm, hg, q⟩ := h
  refine q_asg (ev_cell (ev_var rfl) (ev_var rfl) hp hb.1) fun H1 e1 => ?_
  generalize hc : cellAt ns b = c
  have hcb : Bits c := hc ▸ cell_Bits hcl b
  have n5 := num_bound (c := c) (k := b + 1) (m := 5) (by decide)
  have ho : 1 ≤ ent oftP (numV c (b + 1) 5) ∧ ent oftP (numV c (b + 1) 5) ≤ 3 := ent_all (P := fun x => 1 ≤ x ∧ x ≤ 3) (by decide) n5.1 n5.2
  refine q_asg (v := .int (ent oftP (numV c (b + 1) 5))) (ev_ixNU (xs := oftP.map V.int) (eu_tup (ea_cons ev_c (ea_cons ev_c (ea_cons ev_c (ea_cons ev_c (ea_cons ev_c ea_nil))))) (by decide)) (ev_num (ev_var rfl) (ev_add (ev_var rfl) ev_c) ev_c hcb (by omega) (by decide)) (atI_int n5.1 n5.2)) fun H2 e2 => ?_
  generalize ent oftP (numV c (b + 1) 5) = o at ho
  refine q_asgL (xs := []) (el_lst ea_nil (by simp)) fun fo H3 nfo e3 hfo => ?_
  have nm := num_bound (c := c) (k := b + 2) (m := m) (by omega)
  generalize hnm : numV c (b + 2) m = nn at nm
  have e13 := (e1.trans e2).trans e3
  have nfoH : H fo = none := fresh_back (e1.trans e2) nfo
  refine q_forR1 (n := 1 + nn) (ea_cons (hnm ▸ ev_add ev_c (ev_num (ev_var rfl) (ev_add (ev_var rfl) ev_c) (ev_var rfl) hcb (by omega) (by omega))) ea_nil) (by omega)
    (fun i σ' H' => ∃ (F : List Int) (y7 : Option V), σ' = [some (.ref p), some (.int b), some (.int m), some (.int g), some (.int c), some (.int o), some (.ref fo), y7] ∧ Ex H H' ∧ Il H' fo F ∧ F.length = i ∧ ∀ x ∈ F, 1 ≤ x ∧ x ≤ g)
    (fun H4 e4 => ⟨[], none, rfl, e13.trans e4, e4 _ _ hfo, rfl, by simp⟩) (fun i σ' H' hi hP => ?_) fun σ' H' hP => ?_
  · obtain ⟨F, y7, rfl, ex, hF, lF, bF⟩ := hP
    have hdiv : 0 < g / o := by
      have := Int.le_ediv_of_mul_le (a := 1) (b := g) (c := o) (by omega) (by omega)
      omega
    have nk := num_bound (c := cellAt ns (b + (i : Int)) + 31 * (i : Int)) (k := b + (i : Int) + 3) (m := g / o) hdiv
    refine s_app hF (ev_var rfl) (ev_mul (ev_var rfl) (ev_add ev_c (ev_num (ev_add (ev_cell (ev_var rfl) (ev_add (ev_var rfl) (ev_var rfl)) (ex_l ex hp) (by omega)) (ev_mul ev_c (ev_var rfl) (small_mul (by omega)))) (ev_add (ev_add (ev_var rfl) (ev_var rfl)) ev_c) (ev_div (ev_var rfl) (ev_var rfl) (by omega)) (cell_Bits2 hcl _ _ (by omega)) (by omega) hdiv)) (mulOk_left (by omega))) (by rw [List.length_map]; omega) fun H4 e4 => ?_
    refine ⟨F ++ [o * (1 + numV (cellAt ns (b + (i : Int)) + 31 * (i : Int)) (b + (i : Int) + 3) (g / o))], some (.int (i : Int)), rfl, (ex.trans e4).mut nfoH, ?_, by simp [lF], fun x hx => ?_⟩
    · rw [Il, upd_same, List.map_append]; rfl
    · rcases List.mem_append.mp hx with z | z
      · exact bF x z
      · have ex' : x = o * (1 + numV (cellAt ns (b + (i : Int)) + 31 * (i : Int)) (b + (i : Int) + 3) (g / o)) := by simpa using z
        generalize numV (cellAt ns (b + (i : Int)) + 31 * (i : Int)) (b + (i : Int) + 3) (g / o) = r at nk ex'
        subst ex'
        have h1 : o * (1 + r) ≤ o * (g / o) := Int.mul_le_mul_of_nonneg_left (by omega) (by omega)
        have h2 : o * (g / o) ≤ g := Int.mul_ediv_self_le (by omega)
        have h3 : 1 * 1 ≤ o * (1 + r) := Int.mul_le_mul ho.1 (by omega) (by omega) (by omega)
        omega
  · obtain ⟨F, y7, rfl, ex, hF, lF, bF⟩ := hP
    have lF' : (F.length : Int) = 1 + nn := by omega
    refine ⟨.ref fo, rfl, fo, F, rfl, sq_of hF, by omega, fun s c' hs hc' => ⟨s, _, c', rfl, upd_same, by omega, fun cs l ris mem len hl => ?_⟩⟩
    have hl' : H' l = none := by
      have : l ≠ s := fun z => by rw [z, upd_same] at hl; cases hl
      rw [upd_ne this] at hl; exact hl
    have mem' : ∀ k, k ∈ cs ↔ k ∈ F := fun k => by rw [mem k]; simp
    refine q cs ⟨?_, ?_, fun w hw => bF w ((mem' w).mp hw), ris⟩ l _ (fresh_back ex hl') ?_ upd_same
    · obtain ⟨x, hx⟩ : ∃ x, x ∈ F := by
        cases F with
        | nil => simp at lF'; omega
        | cons x r => exact ⟨x, List.mem_cons_self⟩
      have := (mem' x).mpr hx
      have := List.length_pos_of_mem this
      omega
    · rw [len]; omega
    · exact (ex.trans (Ex.new hs)).trans (Ex.new hl)
theorem len__law_common (h : sp__law_common K vs H Q E) : vs.length = (["_law_coins_here"] : List Str).length := by
  obtain ⟨p, cs, rfl, _⟩ := h
  rfl
/-- [e for x in range(lo, hi) if t] -/
theorem el_lcR2 {σ : L2.St} {t : TT} {te : TE} {ta : TA} {j : Nat} {vs : List Nat} {lo hi : Int} (f : Nat → Bool) (v : Nat → V) (h : EvA ta σ H [.int lo, .int hi]) (hn : (-40000 ≤ lo ∧ lo ≤ 40000) ∧ (-40000 ≤ hi ∧ hi ≤ 40000) ∧ hi - lo ≤ 40000) (hw : ∀ x, wipe ((wipe σ vs).set j (some x)) vs = wipe σ vs)
    (ht : ∀ (i : Nat) H1, Ex H H1 → lo + (i : Int) < hi → EvT t ((wipe σ vs).set j (some (.int (lo + (i : Int))))) H1 (f i)) (he : ∀ (i : Nat) H1, Ex H H1 → lo + (i : Int) < hi → f i = true → Ev te ((wipe σ vs).set j (some (.int (lo + (i : Int))))) H1 (v i)) :
    EvL (tLc (iRng2 ta) (gName j) t te vs) σ H (given (hi - lo).toNat f v) := fun H0 e Q q => h H0 e _ fun H1 e1 => ⟨lo, hi, rfl, ⟨by omega, by omega, by omega, by omega⟩, fun Dl hD =>
  lc_range (lo := lo) (n := (hi - lo).toNat) (Cw H1 f v Dl) ⟨hD, Ex.new hD, upd_same⟩ (fun i H' hi' p => ⟨hw _, cw_turn p (by omega) (ht i H1 (e.trans e1) (by omega)) (fun hf => he i H1 (e.trans e1) (by omega) hf)⟩) (fun H' p => q Dl H' (fresh_back e1 p.1) (e1.trans p.2.1) p.2.2)⟩
theorem range_filter_last (f : Nat → Bool) (G n : Nat) (h1 : G < n) (hG : f G = true) (hb : ∀ i, G < i → i < n → f i = false) : (List.range n).filter f = (List.range G).filter f ++ [G] := by
  have e : n = G + 1 + (n - (G + 1)) := by omega
  rw [e, List.range_add, List.filter_append, List.range_succ, List.filter_append, List.filter_cons, if_pos hG]
  have : ((List.range (n - (G + 1))).map (G + 1 + ·)).filter f = [] := by
    rw [List.filter_eq_nil_iff]
    intro x hx
    obtain ⟨y, hy, rfl⟩ := List.mem_map.mp hx
    have := List.mem_range.mp hy
    rw [hb _ (by omega) (by omega)]
    simp
  rw [this]
  simp
/-- whether a number goes into all -/
def goes (cs : List Int) (d : Int) : Bool := (cs.map fun w => decide (w % d = 0)).all id
theorem goes_iff {cs : List Int} {d : Int} (hd : 0 < d) : goes cs d = true ↔ ∀ w ∈ cs, d ∣ w := by
  unfold goes
  rw [List.all_map, List.all_eq_true]
  refine ⟨fun h w hw => ?_, fun h w hw => ?_⟩
  · have := h w hw
    simp at this
    exact Int.dvd_of_emod_eq_zero this
  · simp [Int.emod_eq_zero_of_dvd (h w hw)]
/-- all([w % d == 0 for w in cs]) -/
theorem ev_goes {σ : L2.St} {tl td : TE} {p : Addr} {cs : List Int} {d : Int} {j : Nat} {vs : List Nat} (h : Ev tl σ H (.ref p)) (hp : Il H p cs) (hl : cs.length ≤ 40000) (hd : 0 < d) (hw : ∀ x, wipe ((wipe σ vs).set j (some x)) vs = wipe σ vs)
    (hv : ∀ x H1, Ex H H1 → Ev (tVar j) ((wipe σ vs).set j (some x)) H1 x) (htd : ∀ x H1, Ex H H1 → Ev td ((wipe σ vs).set j (some x)) H1 (.int d)) :
    Ev (tCB (rAll K) (tCons (tLc (iList K tl) (gName j) tYes (tOp rEq (tOp rModI (tVar j) td) (tC (.int 0))) vs) tNil)) σ H (.bl (goes cs d)) := by
  refine ev_allL ?_
  rw [List.map_map]
  refine el_eq (el_lcY (xs := cs.map V.int) (fun x => match x with | .int w => .bl (decide (w % d = 0)) | _ => .non) h (sq_of hp) (by rw [List.length_map]; exact hl) hw fun x H1 hx e => ?_) (by rw [List.map_map]; rfl)
  obtain ⟨w, _, rfl⟩ := List.mem_map.mp hx
  exact ev_eqI (ev_mod (hv _ H1 e) (htd _ H1 e) hd) ev_c
theorem pure__law_common (h : sp__law_common K vs H Q E) : t__law_common K (endsOf Q) (start ["_law_coins_here", "_law_part", "_law_worth"] vs) H := by
  obtain ⟨p, cs, rfl, hp, ne, hl, hw, q⟩ := h
  obtain ⟨c0, r, rfl⟩ : ∃ c r, cs = c :: r := by
    cases cs with
    | nil => exact absurd rfl ne
    | cons c r => exact ⟨c, r, rfl⟩
  have h0 := hw c0 List.mem_cons_self
  have gp : 0 < gc (c0 :: r) := gc_pos List.mem_cons_self (by omega)
  have gl : gc (c0 :: r) ≤ c0 := gc_le_of List.mem_cons_self (by omega)
  refine s_ret (v := .int (gc (c0 :: r))) ?_ fun H1 e1 => q H1 e1
  have at0 : atI ((c0 :: r).map V.int) 0 = some (.int c0) := atI_nat (j := 0) rfl
  refine ev_ixNL (xs := given (c0 + 1 - 1).toNat (fun i => goes (c0 :: r) (1 + (i : Int))) fun i => .int (1 + (i : Int))) (el_lcR2 _ _ (ea_cons ev_c (ea_cons (ev_add (ev_ixL (ev_var rfl) ev_c (sq_of hp) at0) ev_c) ea_nil)) (by omega) (fun _ => rfl) (fun i H1 e1 hi => ?_) fun i H1 e1 hi hf => ev_var rfl) ev_m1 ?_
  · exact et_B (ev_goes (ev_var rfl) (e1 _ _ hp) (by omega) (by omega) (fun _ => rfl) (fun _ _ _ => ev_var rfl) (fun _ _ _ => ev_var rfl))
  · unfold given
    rw [range_filter_last _ (gc (c0 :: r) - 1).toNat _ (by omega) ?_ ?_]
    · rw [List.map_append]
      have e2 : (1 : Int) + (((gc (c0 :: r) - 1).toNat : Nat) : Int) = gc (c0 :: r) := by omega
      have := atI_last (List.map (fun (i : Nat) => V.int (1 + (i : Int))) ((List.range (gc (c0 :: r) - 1).toNat).filter fun i => goes (c0 :: r) (1 + (i : Int)))) (V.int (1 + (((gc (c0 :: r) - 1).toNat : Nat) : Int)))
      rw [e2] at this
      rw [List.map_cons, List.map_nil, e2]
      exact this
    · rw [show (1 : Int) + (((gc (c0 :: r) - 1).toNat : Nat) : Int) = gc (c0 :: r) by omega, goes_iff gp]
      exact fun w hw => gc_dvd hw
    · intro i h1 h2
      rw [Bool.eq_false_iff]
      intro hx
      have := (goes_iff (by omega)).mp hx
      have := Int.le_of_dvd gp (gc_great this)
      omega
theorem LCoins.coins {m g : Int} {cs : List Int} (h : LCoins m g cs) (hm : m ≤ 6) (hg : g ≤ 30) : Coins cs :=
  ⟨h.one, by have := h.top; omega, fun w hw => by have := h.wor w hw; omega, h.ris⟩
theorem ev_few {σ : L2.St} {tl ta : TE} {p : Addr} {cs : List Int} {a : Int} (h : Ev tl σ H (.ref p)) (h2 : Ev ta σ H (.int a)) (hp : Il H p cs) (hc : Coins cs) (ha : 0 ≤ a) (hd : gc cs ∣ a) : Ev (tCall (sp_fewest K) [] E (tCons tl (tCons ta tNil))) σ H (.int (few cs a)) :=
  ev_callV (ea_cons h (ea_cons h2 ea_nil)) fun H1 e Q q => ⟨p, cs, a, rfl, e _ _ hp, hc, ha, hd, q⟩
/-- of a list that is made on the spot -/
theorem ev_fewN {σ : L2.St} {tl ta : TE} {cs : List Int} {a : Int} (h : EvL tl σ H (cs.map V.int)) (h2 : Ev ta σ H (.int a)) (hc : Coins cs) (ha : 0 ≤ a) (hd : gc cs ∣ a) : Ev (tCall (sp_fewest K) [] E (tCons tl (tCons ta tNil))) σ H (.int (few cs a)) := fun H1 e Q q =>
  h H1 e _ fun p H2 hp e2 h2p => h2 H2 (e.trans e2) _ fun H3 e3 => ⟨p, cs, a, rfl, e3 _ _ h2p, hc, ha, hd, fun H4 e4 => q H4 ((e2.trans e3).trans e4)⟩
theorem rg4 {j : Int} (h : 1 ≤ j ∧ j ≤ 8) : ∃ n : Nat, RgC 0 j 4 n ∧ n ≤ 2 := by
  rcases (by omega : j = 1 ∨ j = 2 ∨ j = 3 ∨ j = 4 ∨ j = 5 ∨ j = 6 ∨ j = 7 ∨ j = 8) with rfl | rfl | rfl | rfl | rfl | rfl | rfl | rfl
  · exact ⟨1, ⟨by decide, by decide, by decide, by decide⟩, by decide⟩
  · exact ⟨1, ⟨by decide, by decide, by decide, by decide⟩, by decide⟩
  · exact ⟨1, ⟨by decide, by decide, by decide, by decide⟩, by decide⟩
  · exact ⟨1, ⟨by decide, by decide, by decide, by decide⟩, by decide⟩
  · exact ⟨2, ⟨by decide, by decide, by decide, by decide⟩, by decide⟩
  · exact ⟨2, ⟨by decide, by decide, by decide, by decide⟩, by decide⟩
  · exact ⟨2, ⟨by decide, by decide, by decide, by decide⟩, by decide⟩
  · exact ⟨2, ⟨by decide, by decide, by decide, by decide⟩, by decide⟩
theorem coins2 {a b : Int} (h : 1 ≤ a ∧ a < b ∧ b ≤ 30) : Coins [a, b] :=
  ⟨by simp, by simp, by
    intro w hw
    rcases List.mem_cons.mp hw with z | z
    · omega
    · have : w = b := by simpa using z
      omega, by simp; omega⟩
end
end Cb

set_option linter.all false
/-! Two worths; what 3 times the worths pay. -/
namespace Chg
theorem reach2_of {a b : Int} {k : Nat} {t : Int} (h : Reach [a, b] k t) : ∃ x y : Int, t = a * x + b * y ∧ x.natAbs + y.natAbs ≤ k := by
  obtain ⟨l, hl, hs, e⟩ := h
  subst e
  induction l generalizing k with
  | nil => exact ⟨0, 0, by simp, by simp⟩
  | cons s r ih =>
    obtain ⟨x, y, e, hxy⟩ := ih (k := r.length) rfl fun s' h => hs s' (List.mem_cons_of_mem _ h)
    rw [List.length_cons] at hl
    rw [List.sum_cons, e]
    rcases hs s List.mem_cons_self with z | z
    · rcases List.mem_cons.mp z with z | z
      · exact ⟨x + 1, y, by rw [z, Int.mul_add]; omega, by omega⟩
      · have z : s = b := by simpa using z
        exact ⟨x, y + 1, by rw [z, Int.mul_add]; omega, by omega⟩
    · rcases List.mem_cons.mp z with z | z
      · exact ⟨x - 1, y, by rw [Int.mul_sub]; omega, by omega⟩
      · have z : -s = b := by simpa using z
        exact ⟨x, y - 1, by rw [Int.mul_sub]; omega, by omega⟩
theorem reach2 {a b : Int} (x y : Int) : Reach [a, b] (x.natAbs + y.natAbs) (a * x + b * y) :=
  (mult_reach (by simp)).add (mult_reach (by simp))
/-- the fewest of two worths, by a way and by a look at all others -/
theorem few2 {a b t k : Int} (x y : Int) (h1 : t = a * x + b * y) (h2 : k = x.natAbs + y.natAbs) (h : ∀ x y : Int, t = a * x + b * y → ¬ ((x.natAbs + y.natAbs : Int) < k)) : few [a, b] t = k := by
  have r : Reach [a, b] (x.natAbs + y.natAbs) t := h1 ▸ reach2 x y
  have : Least (fun k => Reach [a, b] k t) (x.natAbs + y.natAbs) := ⟨r, fun j hj hr => by
    obtain ⟨x', y', e, l⟩ := reach2_of hr
    exact h x' y' e (by omega)⟩
  rw [few_of this]; omega
theorem reach1_of {a : Int} {k : Nat} {t : Int} (h : Reach [a] k t) : ∃ x : Int, t = a * x ∧ x.natAbs ≤ k := by
  have : Reach [a, a] k t := h.sub (by simp)
  obtain ⟨x, y, e, l⟩ := reach2_of this
  exact ⟨x + y, by rw [Int.mul_add]; exact e, by omega⟩
theorem few1 {a t k : Int} (ha : 0 < a) (hk : 0 ≤ k) (h1 : t = a * k) : few [a] t = k := by
  have r : Reach [a] k.natAbs t := h1 ▸ mult_reach (by simp)
  have : Least (fun k => Reach [a] k t) k.natAbs := ⟨r, fun j hj hr => by
    obtain ⟨x, e, l⟩ := reach1_of hr
    rw [h1] at e
    have := Int.eq_of_mul_eq_mul_left (by omega) e
    omega⟩
  rw [few_of this]; omega
theorem gc_times {cs : List Int} {c t : Int} (hc : 0 < c) (h : ∀ w ∈ cs, 0 < w) (hd : gc cs ∣ t) : gc (cs.map (c * ·)) ∣ c * t := by
  obtain ⟨k, hk⟩ := (can_iff h).mpr hd
  refine (can_iff fun w hw => ?_).mp ⟨k, (reach_times hc).mpr hk⟩
  obtain ⟨u, hu, rfl⟩ := List.mem_map.mp hw
  exact Int.mul_pos hc (h u hu)
end Chg

set_option linter.all false
/-! What an answer must be. -/
namespace Chg
def absI (x : Int) : Int := if x < 0 then -x else x
def dot (G cs : List Int) : Int := (List.zipWith (fun x y => x * y) G cs).sum
theorem dot_set : ∀ {G cs : List Int} {k : Nat} {w : Int}, k < G.length → cs[k]? = some w → dot (G.set k (G.getD k 0 + 1)) cs = dot G cs + w
  | [], _, _, _, h, _ => by simp at h
  | _ :: _, [], _, _, _, h => by simp at h
  | x :: r, c :: t, 0, w, h, hw => by
    have : c = w := by simpa using hw
    subst this
    unfold dot
    simp only [List.set_cons_zero, List.zipWith_cons_cons, List.sum_cons, List.getD_cons_zero, Int.add_mul]
    omega
  | x :: r, c :: t, k + 1, w, h, hw => by
    have := dot_set (G := r) (cs := t) (k := k) (w := w) (by simpa using h) (by simpa using hw)
    unfold dot at *
    simp only [List.set_cons_succ, List.zipWith_cons_cons, List.sum_cons, List.getD_cons_succ]
    omega
theorem sum_set : ∀ {G : List Int} {k : Nat}, k < G.length → (G.set k (G.getD k 0 + 1)).sum = G.sum + 1
  | [], _, h => by simp at h
  | x :: r, 0, h => by simp only [List.set_cons_zero, List.sum_cons, List.getD_cons_zero]; omega
  | x :: r, k + 1, h => by
    have := sum_set (G := r) (k := k) (by simpa using h)
    simp only [List.set_cons_succ, List.sum_cons, List.getD_cons_succ]
    omega
theorem dot_zero (n : Nat) (cs : List Int) : dot (List.replicate n 0) cs = 0 := by
  unfold dot
  induction n generalizing cs with
  | zero => simp
  | succ n ih =>
    cases cs with
    | nil => simp
    | cons c t => simp only [List.replicate_succ, List.zipWith_cons_cons, List.sum_cons, ih]; omega
theorem sum_zero (n : Nat) : (List.replicate n (0 : Int)).sum = 0 := by
  induction n with
  | zero => rfl
  | succ n ih => rw [List.replicate_succ, List.sum_cons, ih]; rfl
theorem mem_set_nonneg {G : List Int} {k : Nat} (h : ∀ x ∈ G, 0 ≤ x) : ∀ x ∈ G.set k (G.getD k 0 + 1), 0 ≤ x := fun x hx => by
  rcases List.mem_or_eq_of_mem_set hx with z | z
  · exact h x z
  · have : 0 ≤ G.getD k 0 := by
      rw [List.getD_eq_getElem?_getD]
      cases e : G[k]? with
      | none => simp
      | some y => exact h y (List.mem_of_getElem? e)
    omega
/-- what led_back tells -/
structure LedOk (cs : List Int) (d n : Int) (G B : List Int) : Prop where
  lg : G.length = cs.length
  lb : B.length = cs.length
  pg : ∀ x ∈ G, 0 ≤ x
  pb : ∀ x ∈ B, 0 ≤ x
  dt : dot G cs - dot B cs = d
  sm : G.sum + B.sum = n
/-- heights on the strip -/
structure Floor (cs : List Int) (g a : Int) (S : List Int) : Prop where
  len : (S.length : Int) = a + 2 * g
  zero : ent S g = 0
  near : ∀ w ∈ cs, ∀ i : Int, 0 ≤ i → i + w < S.length → ent S (i + w) - ent S i ≤ 1 ∧ ent S i - ent S (i + w) ≤ 1
/-- an answer as the document has it -/
structure PaidOk (cs : List Int) (g a : Int) (G B S : List Int) : Prop extends LedOk cs a (few cs a) G B, Floor cs g a S where
  top : ent S (g + a) = few cs a
/-- the heights with the gaps filled -/
noncomputable def fullAt (cs : List Int) (n g i : Int) : Int := if ent (hts cs n g) i < 0 then ent (hts cs n g) (i - (i - g) % gc cs) else ent (hts cs n g) i
noncomputable def fullH (cs : List Int) (n g : Int) : List Int := (List.range n.toNat).map fun (i : Nat) => fullAt cs n g (i : Int)
theorem few_neg {cs : List Int} {t : Int} (h : ∀ w ∈ cs, 0 < w) : few cs t < 0 ↔ ¬ gc cs ∣ t := by
  rw [← can_iff h]
  rcases few_cases cs t with ⟨e, z⟩ | ⟨k, e, z⟩
  · rw [e]
    exact ⟨fun _ ⟨k, hk⟩ => z k hk, fun _ => by omega⟩
  · rw [e]
    exact ⟨fun h => by omega, fun h => absurd ⟨k, z.1⟩ h⟩
theorem emod_floor {t g p : Int} (hp : 0 < p) (hg : p ∣ g) (ht : -g ≤ t) : -g ≤ t - t % p := by
  obtain ⟨m, rfl⟩ := hg
  have h1 := Int.mul_ediv_add_emod t p
  have h2 := Int.emod_lt_of_pos t hp
  have h3 : t - t % p = p * (t / p) := by omega
  rw [h3]
  have h4 : p * (-m) ≤ p * (t / p) := by
    refine Int.mul_le_mul_of_nonneg_left ?_ (by omega)
    refine Int.le_ediv_of_mul_le hp ?_
    rw [Int.neg_mul, Int.mul_comm]
    exact ht
  rw [Int.mul_neg] at h4
  exact h4
theorem fullAt_few {cs : List Int} {n g a i : Int} (hc : ∀ w ∈ cs, 0 < w ∧ w ≤ g) (hg : g ∈ cs) (ha : 0 ≤ a) (hn : n = a + 2 * g) (h0 : 0 ≤ i) (h1 : i < n) : fullAt cs n g i = few cs ((i - g) - (i - g) % gc cs) := by
  have g0 := hc g hg
  have gp : 0 < gc cs := gc_pos hg g0.1
  have pos : ∀ w ∈ cs, 0 < w := fun w hw => (hc w hw).1
  have e1 : ent (hts cs n g) i = few cs (i - g) := by
    have := hts_few hc g0.1 ha hn (t := i - g) (by omega) (by omega)
    rw [show g + (i - g) = i by omega] at this
    exact this
  have m0 := Int.emod_nonneg (i - g) (show gc cs ≠ 0 by omega)
  unfold fullAt
  rw [e1]
  split
  · have hfl := emod_floor gp (gc_dvd hg) (t := i - g) (by omega)
    have := hts_few hc g0.1 ha hn (t := (i - g) - (i - g) % gc cs) (by omega) (by omega)
    rw [show g + ((i - g) - (i - g) % gc cs) = i - (i - g) % gc cs by omega] at this
    exact this
  · rename_i h
    have hd : gc cs ∣ i - g := by
      by_cases q : gc cs ∣ i - g
      · exact q
      · exact absurd ((few_neg pos).mpr q) h
    rw [Int.emod_eq_zero_of_dvd hd, Int.sub_zero]
theorem fullH_len {cs : List Int} {n g : Int} : (fullH cs n g).length = n.toNat := by unfold fullH; simp
theorem fullH_ent {cs : List Int} {n g i : Int} (h0 : 0 ≤ i) (h : i < n) : ent (fullH cs n g) i = fullAt cs n g i := by
  unfold ent fullH
  rw [List.getD_eq_getElem?_getD, List.getElem?_map, List.getElem?_range (by omega)]
  show fullAt cs n g ((i.toNat : Nat) : Int) = _
  rw [show ((i.toNat : Nat) : Int) = i by omega]
theorem full_floor {cs : List Int} {n g a : Int} (hc : ∀ w ∈ cs, 0 < w ∧ w ≤ g) (hg : g ∈ cs) (ha : 0 ≤ a) (hn : n = a + 2 * g) : Floor cs g a (fullH cs n g) := by
  have g0 := hc g hg
  have gp : 0 < gc cs := gc_pos hg g0.1
  have pos : ∀ w ∈ cs, 0 < w := fun w hw => (hc w hw).1
  refine ⟨by rw [fullH_len]; omega, ?_, fun w hw i h0 h1 => ?_⟩
  · rw [fullH_ent (by omega) (by omega), fullAt_few hc hg ha hn (by omega) (by omega)]
    simp [few_zero]
  · rw [fullH_len] at h1
    have w0 := hc w hw
    rw [fullH_ent (by omega) (by omega), fullH_ent h0 (by omega), fullAt_few hc hg ha hn (by omega) (by omega), fullAt_few hc hg ha hn h0 (by omega)]
    have e : (i + w - g) % gc cs = (i - g) % gc cs := by
      rw [show i + w - g = (i - g) + w by omega, Int.add_emod, Int.emod_eq_zero_of_dvd (gc_dvd hw), Int.add_zero, Int.emod_emod_of_dvd _ (Int.dvd_refl _)]
    rw [e, show i + w - g - (i - g) % gc cs = (i - g - (i - g) % gc cs) + w by omega]
    have hd : gc cs ∣ i - g - (i - g) % gc cs := Int.dvd_self_sub_emod
    have := few_near ((can_iff pos).mpr hd) hw
    omega
theorem full_top {cs : List Int} {n g a : Int} (hc : ∀ w ∈ cs, 0 < w ∧ w ≤ g) (hg : g ∈ cs) (ha : 0 ≤ a) (hn : n = a + 2 * g) (hd : gc cs ∣ a) : ent (fullH cs n g) (g + a) = few cs a := by
  have g0 := hc g hg
  rw [fullH_ent (by omega) (by omega), fullAt_few hc hg ha hn (by omega) (by omega), show g + a - g = a by omega, Int.emod_eq_zero_of_dvd hd, Int.sub_zero]
/-- heights that go down to g: where an entry is above 0, some coin leads one lower -/
structure Desc (cs S : List Int) (g : Int) : Prop where
  low : ∀ i : Int, 0 ≤ i → i < S.length → 0 < ent S i → ∃ (k : Nat) (w t : Int), cs[k]? = some w ∧ (t = i - w ∨ t = i + w) ∧ 0 ≤ t ∧ t < S.length ∧ ent S t = ent S i - 1
  zero : ∀ i : Int, 0 ≤ i → i < S.length → ent S i = 0 → i = g
theorem hts_desc {cs : List Int} {n g : Int} (hg : 0 ≤ g ∧ g < n) : Desc cs (hts cs n g) g := by
  have l : ((hts cs n g).length : Int) = n := by rw [hts_len]; omega
  refine ⟨fun i h0 h1 h2 => ?_, fun i h0 h1 h2 => ?_⟩
  · rw [l] at h1
    rw [hts_ent h0 h1] at h2
    rcases leastI_cases (fun k => Walk cs 0 n k g i) with ⟨e, _⟩ | ⟨k, e, lk, mk⟩
    · omega
    · cases k with
      | zero => omega
      | succ k =>
        obtain ⟨s, hs, a, b, w⟩ := Walk.unsnoc lk
        have rng : 0 ≤ i - s ∧ i - s < n := by
          cases k with
          | zero =>
            have : g = i - s := w
            omega
          | succ k => exact ⟨(Walk.unsnoc w).choose_spec.2.1, (Walk.unsnoc w).choose_spec.2.2.1⟩
        have lst : Least (fun k => Walk cs 0 n k g (i - s)) k := ⟨w, fun j hj wj => mk (j + 1) (by omega) (by
          have := wj.snoc hs (by omega) (by omega)
          rw [show i - s + s = i by omega] at this
          exact this)⟩
        have ev : ent (hts cs n g) (i - s) = ent (hts cs n g) i - 1 := by
          rw [hts_ent rng.1 rng.2, hts_ent h0 h1, leastI_some lst, e]; omega
        rcases hs with hs | hs
        · obtain ⟨k', hk⟩ := List.getElem?_of_mem hs
          exact ⟨k', s, i - s, hk, .inl rfl, rng.1, by omega, ev⟩
        · obtain ⟨k', hk⟩ := List.getElem?_of_mem hs
          exact ⟨k', -s, i - s, hk, .inr (by omega), rng.1, by omega, ev⟩
  · rw [l] at h1
    rw [hts_ent h0 h1] at h2
    rcases leastI_cases (fun k => Walk cs 0 n k g i) with ⟨e, _⟩ | ⟨k, e, lk, mk⟩
    · omega
    · have : k = 0 := by omega
      subst this
      have : g = i := lk
      omega
end Chg

set_option Elab.async false
set_option linter.all false
set_option maxRecDepth 100000
set_option maxHeartbeats 4000000
/-! Promises of the answers' defs. -/
namespace Cb
open PySem PySem.Spec PyProof.Rows L2 Evl Chg
def RetU (xs : List V) (H : Hp) (Q : VK) : Prop := ∀ p H2, H p = none → Ex H H2 → H2 p = some (.tup xs) → Q (.ref p) H2
def areB (G cs : List Int) : Bool := decide (G.length = cs.length) && (G.map fun x => decide (0 ≤ x)).all id
def gapB (S : List Int) (w : Int) : Bool := (List.zipWith (fun a b : Int => decide (1 < absI (a - b))) S (S.drop w.toNat)).any id
def floorB (cs : List Int) (a : Int) (S : List Int) : Bool := (decide ((S.length : Int) = a + 2 * topC cs) && decide (ent S (topC cs) = 0)) && cs.all fun w => !gapB S w
def showB (cs : List Int) (a : Int) (G B S : List Int) : Bool := ((areB G cs && areB B cs) && decide (dot G cs - dot B cs = a)) && (floorB cs a S && decide (ent S (topC cs + a) = G.sum + B.sum))
def nevB (cs : List Int) (a part : Int) : Bool := (decide (1 ≤ part) && decide (a % part ≠ 0)) && goes cs part
def sp_are_counts (K : PySem.W.Frag) : Sp := fun vs H Q _ => ∃ (a b : Addr) (G cs : List Int), vs = [.ref a, .ref b] ∧ Il H a G ∧ Il H b cs ∧ G.length ≤ 30000 ∧ RetV (.bl (areB G cs)) H Q
def sp_worth_of (K : PySem.W.Frag) : Sp := fun vs H Q _ => ∃ (a b : Addr) (G cs : List Int), vs = [.ref a, .ref b] ∧ Il H a G ∧ Il H b cs ∧ G.length ≤ 30000 ∧ (∀ w ∈ cs, 1 ≤ w ∧ w ≤ 1000) ∧ RetV (.int (dot G cs)) H Q
def sp_is_floor (K : PySem.W.Frag) : Sp := fun vs H Q _ => ∃ (p h : Addr) (cs S : List Int) (a : Int), vs = [.ref p, .int a, .ref h] ∧ Il H p cs ∧ Il H h S ∧ Coins cs ∧ (0 ≤ a ∧ a ≤ 5000) ∧ S.length ≤ 30000 ∧ RetV (.bl (floorB cs a S)) H Q
/-- a Paid's fields -/
def pf (lg lb lh : Addr) : List (Str × V) := putF "heights" (.ref lh) (putF "back" (.ref lb) (putF "give" (.ref lg) []))
theorem pf_give (lg lb lh : Addr) : (pf lg lb lh).lookup ("give" : Str) = some (.ref lg) := by
  unfold pf
  rw [lookup_putF, if_neg (by decide +kernel), lookup_putF, if_neg (by decide +kernel), lookup_putF, if_pos rfl]
theorem pf_back (lg lb lh : Addr) : (pf lg lb lh).lookup ("back" : Str) = some (.ref lb) := by
  unfold pf
  rw [lookup_putF, if_neg (by decide +kernel), lookup_putF, if_pos rfl]
theorem pf_hei (lg lb lh : Addr) : (pf lg lb lh).lookup ("heights" : Str) = some (.ref lh) := by
  unfold pf
  rw [lookup_putF, if_pos rfl]
theorem pf_shows (lg lb lh : Addr) : (pf lg lb lh).lookup ("shows" : Str) = none := by
  unfold pf
  rw [lookup_putF, if_neg (by decide +kernel), lookup_putF, if_neg (by decide +kernel), lookup_putF, if_neg (by decide +kernel)]
  rfl
def nf (part : Int) : List (Str × V) := putF "part" (.int part) []
theorem nf_part (part : Int) : (nf part).lookup ("part" : Str) = some (.int part) := by
  unfold nf
  rw [lookup_putF, if_pos rfl]
theorem nf_shows (part : Int) : (nf part).lookup ("shows" : Str) = none := by
  unfold nf
  rw [lookup_putF, if_neg (by decide +kernel)]
  rfl
/-- a Paid stands at x -/
structure PaidAt (C : Addr) (H : Hp) (x dx lg lb lh : Addr) (G B S : List Int) : Prop where
  ob : H x = some (.ins C dx (pf lg lb lh))
  g : Il H lg G
  b : Il H lb B
  h : Il H lh S
theorem PaidAt.mono {C : Addr} {H H' : Hp} {x dx lg lb lh : Addr} {G B S : List Int} (p : PaidAt C H x dx lg lb lh G B S) (e : Ex H H') : PaidAt C H' x dx lg lb lh G B S := ⟨e _ _ p.ob, e _ _ p.g, e _ _ p.b, e _ _ p.h⟩
/-- a Never stands at x -/
def NeverAt (C : Addr) (H : Hp) (x dx : Addr) (part : Int) : Prop := H x = some (.ins C dx (nf part))
def sp_Paid_init (K : PySem.W.Frag) (C : Addr) : Sp := fun vs H Q _ => ∃ (x dx a b c : Addr) (G B S : List Int), vs = [.ref x, .ref a, .ref b, .ref c] ∧ H x = some (.ins C dx []) ∧ Il H a G ∧ Il H b B ∧ Il H c S ∧
  ∀ lg lb lh H2, H lg = none → H lb = none → H lh = none → lg ≠ lb → lg ≠ lh → lb ≠ lh → (∀ y o, y ≠ x → H y = some o → H2 y = some o) → PaidAt C H2 x dx lg lb lh G B S → Q .non H2
def sp_Never_init (K : PySem.W.Frag) (C : Addr) : Sp := fun vs H Q _ => ∃ (x dx : Addr) (part : Int), vs = [.ref x, .int part] ∧ H x = some (.ins C dx []) ∧ ∀ H2, (∀ y o, y ≠ x → H y = some o → H2 y = some o) → NeverAt C H2 x dx part → Q .non H2
def sp_Paid_shows (K : PySem.W.Frag) (C : Addr) : Sp := fun vs H Q _ => ∃ (x dx lg lb lh p : Addr) (G B S cs : List Int) (a : Int), vs = [.ref x, .ref p, .int a] ∧ PaidAt C H x dx lg lb lh G B S ∧ Il H p cs ∧ Coins cs ∧ (0 ≤ a ∧ a ≤ 5000) ∧ (G.length ≤ 30000 ∧ B.length ≤ 30000 ∧ S.length ≤ 30000) ∧
  RetV (.bl (showB cs a G B S)) H Q
def sp_Never_shows (K : PySem.W.Frag) (C : Addr) : Sp := fun vs H Q _ => ∃ (x dx p : Addr) (part : Int) (cs : List Int) (a : Int), vs = [.ref x, .ref p, .int a] ∧ NeverAt C H x dx part ∧ Il H p cs ∧ cs.length ≤ 1000 ∧ RetV (.bl (nevB cs a part)) H Q
def sp_lower (K : PySem.W.Frag) : Sp := fun vs H Q _ => ∃ (p h : Addr) (cs S : List Int) (i : Int), vs = [.ref p, .ref h, .int i] ∧ Il H p cs ∧ Il H h S ∧ cs.length ≤ 100 ∧ S.length ≤ 30000 ∧ (0 ≤ i ∧ i < S.length) ∧
  (∃ (k : Nat) (w t : Int), cs[k]? = some w ∧ (t = i - w ∨ t = i + w) ∧ 0 ≤ t ∧ t < S.length ∧ ent S t = ent S i - 1) ∧
  ∀ (k : Nat) (w t : Int), cs[k]? = some w → (t = i - w ∨ t = i + w) → 0 ≤ t → t < S.length → ent S t = ent S i - 1 → RetU [.int (k : Int), .int t] H Q
def sp_led_back (K : PySem.W.Frag) : Sp := fun vs H Q _ => ∃ (p h : Addr) (cs S : List Int) (i g : Int), vs = [.ref p, .ref h, .int i] ∧ Il H p cs ∧ Il H h S ∧ cs.length ≤ 100 ∧ (∀ w ∈ cs, 0 < w) ∧ S.length ≤ 30000 ∧ (0 ≤ i ∧ i < S.length) ∧ 0 ≤ ent S i ∧ Desc cs S g ∧
  ∀ G B, LedOk cs (i - g) (ent S i) G B → ∀ lg lb tp H2, H lg = none → H lb = none → lg ≠ lb → Ex H H2 → Il H2 lg G → Il H2 lb B → H2 tp = some (.tup [.ref lg, .ref lb]) → Q (.ref tp) H2
/-- a new Paid, a new Never comes back -/
def RetP (C : Addr) (G B S : List Int) (H : Hp) (Q : VK) : Prop := ∀ x dx lg lb lh H2, H x = none → H dx = none → H lg = none → H lb = none → H lh = none → lg ≠ lb → lg ≠ lh → lb ≠ lh → Ex H H2 → PaidAt C H2 x dx lg lb lh G B S → Q (.ref x) H2
def RetN (C : Addr) (part : Int) (H : Hp) (Q : VK) : Prop := ∀ x dx H2, H x = none → H dx = none → Ex H H2 → NeverAt C H2 x dx part → Q (.ref x) H2
def sp_paid (K : PySem.W.Frag) (CP CN : Addr) : Sp := fun vs H Q _ => ∃ (p : Addr) (cs : List Int) (a : Int), vs = [.ref p, .int a] ∧ Il H p cs ∧ Coins cs ∧ (0 ≤ a ∧ a ≤ 200) ∧
  (¬ gc cs ∣ a → RetN CN (gc cs) H Q) ∧ (gc cs ∣ a → ∀ G B S, PaidOk cs (topC cs) a G B S → RetP CP G B S H Q)
end Cb

set_option Elab.async false
set_option linter.all false
set_option maxRecDepth 100000
set_option maxHeartbeats 4000000
/-! Readings of the answers' defs (printed by gen/mk.py). -/
namespace Cb
open PySem PySem.Spec PyProof.Rows L2 Evl Chg
def t_are_counts (K : PySem.W.Frag) : TS :=
  (tRet (tAndV (tOp rEq (tCB (rLenS K) (tCons (tVar 0) tNil)) (tCB (rLenS K) (tCons (tVar 1) tNil))) (tCB (rAll K) (tCons (tLc (iList K (tVar 0)) (gName 2) tYes (tAndV (tCall (sp_is_number K) [] E0 (tCons (tVar 2) tNil)) (tOp rGeI (tVar 2) (tC (.int 0)))) [2]) tNil))))
def t_worth_of (K : PySem.W.Frag) : TS :=
  (tRet (tCB (rSum K) (tCons (tLc (iZip K (tCons (tVar 0) (tCons (tVar 1) tNil))) (gTup K 2 (gCons (gName 2) (gCons (gName 3) gNil))) tYes (tOp rMulI (tVar 2) (tVar 3)) [2, 3]) tNil)))
def t_is_floor (K : PySem.W.Frag) : TS :=
  (tSeq (tIfS (tOr (tTest (tOp rNe (tCB (rLenS K) (tCons (tVar 2) tNil)) (tCB (rLenS K) (tCons (tCall (sp_strip K) [] E0 (tCons (tVar 0) (tCons (tVar 1) tNil))) tNil)))) (tTest (tOp rNe (tOp (rIxL K) (tVar 2) (tOp (rIxL K) (tVar 0) (tUn rNegI (tC (.int 1))))) (tC (.int 0))))) (tRet (tC (.bl false))) tNext)
  (tSeq (tFor (iList K (tVar 0)) (gName 3) (tIfS (tB (tCB (rAny K) (tCons (tLc (iZip K (tCons (tVar 2) (tCons (tSl (rSlL K) (tVar 2) (tPart (tVar 3)) tNoPart) tNil))) (gTup K 2 (gCons (gName 4) (gCons (gName 5) gNil))) tYes (tOp rGtI (tCB rAbsI (tCons (tOp rSubI (tVar 4) (tVar 5)) tNil)) (tC (.int 1))) [4, 5]) tNil))) (tRet (tC (.bl false))) tNext))
  (tRet (tC (.bl true)))))
def t_Paid_init (K : PySem.W.Frag) : TS :=
  (tSeq (sFld K (tVar 0) (tCB (rListS K) (tCons (tVar 1) tNil)) "give")
  (tSeq (sFld K (tVar 0) (tCB (rListS K) (tCons (tVar 2) tNil)) "back")
  (sFld K (tVar 0) (tCB (rListS K) (tCons (tVar 3) tNil)) "heights")))
def t_Paid_shows (K : PySem.W.Frag) : TS :=
  (tSeq (tIfS (tOr (tNot (tB (tCall (sp_are_counts K) [] E0 (tCons (tFld K (tVar 0) "give") (tCons (tVar 1) tNil))))) (tNot (tB (tCall (sp_are_counts K) [] E0 (tCons (tFld K (tVar 0) "back") (tCons (tVar 1) tNil)))))) (tRet (tC (.bl false))) tNext)
  (tSeq (tIfS (tTest (tOp rNe (tOp rSubI (tCall (sp_worth_of K) [] E0 (tCons (tFld K (tVar 0) "give") (tCons (tVar 1) tNil))) (tCall (sp_worth_of K) [] E0 (tCons (tFld K (tVar 0) "back") (tCons (tVar 1) tNil)))) (tVar 2))) (tRet (tC (.bl false))) tNext)
  (tSeq (tIfS (tNot (tB (tCall (sp_is_floor K) [] E0 (tCons (tVar 1) (tCons (tVar 2) (tCons (tFld K (tVar 0) "heights") tNil)))))) (tRet (tC (.bl false))) tNext)
  (tRet (tOp rEq (tOp (rIxL K) (tFld K (tVar 0) "heights") (tOp rAddI (tOp (rIxL K) (tVar 1) (tUn rNegI (tC (.int 1)))) (tVar 2))) (tOp rAddI (tCB (rSum K) (tCons (tFld K (tVar 0) "give") tNil)) (tCB (rSum K) (tCons (tFld K (tVar 0) "back") tNil))))))))
def t_Never_init (K : PySem.W.Frag) : TS :=
  (sFld K (tVar 0) (tVar 1) "part")
def t_Never_shows (K : PySem.W.Frag) : TS :=
  (tSeq (tIfS (tOr (tTest (tOp rLtI (tFld K (tVar 0) "part") (tC (.int 1)))) (tTest (tOp rEq (tOp rModI (tVar 2) (tFld K (tVar 0) "part")) (tC (.int 0))))) (tRet (tC (.bl false))) tNext)
  (tRet (tCB (rAll K) (tCons (tLc (iList K (tVar 1)) (gName 3) tYes (tOp rEq (tOp rModI (tVar 3) (tFld K (tVar 0) "part")) (tC (.int 0))) [3]) tNil))))
def t_led_back (K : PySem.W.Frag) : TS :=
  (tSeq (tPar 3 4 (tCons (tOp rRep (tLst (tCons (tC (.int 0)) tNil)) (tCB (rLenS K) (tCons (tVar 0) tNil))) (tCons (tOp rRep (tLst (tCons (tC (.int 0)) tNil)) (tCB (rLenS K) (tCons (tVar 0) tNil))) tNil)))
  (tSeq (tWhile (tTest (tOp rGtI (tOp (rIxL K) (tVar 1) (tVar 2)) (tC (.int 0)))) (tSeq (tAsg (tCall (sp_lower K) [] E0 (tCons (tVar 0) (tCons (tVar 1) (tCons (tVar 2) tNil)))) (gTup K 2 (gCons (gName 5) (gCons (gName 6) gNil))))
  (tSeq (tIfS (tTest (tOp rLtI (tVar 6) (tVar 2))) (tAugS (tVar 3) (tVar 5) (tC (.int 1)) (rIxL K) ipAdd rSetL) (tAugS (tVar 4) (tVar 5) (tC (.int 1)) (rIxL K) ipAdd rSetL))
  (tAsg (tVar 6) (gName 2)))))
  (tRet (tTup (tCons (tVar 3) (tCons (tVar 4) tNil))))))
def t_lower (K : PySem.W.Frag) : TS :=
  (tSeq (tFor (iEnum K (tCons (tVar 0) tNil)) (gTup K 2 (gCons (gName 3) (gCons (gName 4) gNil))) (tFor (iTup K (tTup (tCons (tOp rSubI (tVar 2) (tVar 4)) (tCons (tOp rAddI (tVar 2) (tVar 4)) tNil)))) (gName 5) (tIfS (tAnd (tTest (tChain rLeI rLtI (tC (.int 0)) (tVar 5) (tCB (rLenS K) (tCons (tVar 1) tNil)))) (tTest (tOp rEq (tOp (rIxL K) (tVar 1) (tVar 5)) (tOp rSubI (tOp (rIxL K) (tVar 1) (tVar 2)) (tC (.int 1)))))) (tRet (tTup (tCons (tVar 3) (tCons (tVar 5) tNil)))) tNext)))
  (tRet (tTup (tCons (tUn rNegI (tC (.int 1))) (tCons (tUn rNegI (tC (.int 1))) tNil)))))
def t_paid (K : PySem.W.Frag) (CP CN : Addr) : TS :=
  (tSeq (tDrop (tCall (sp_check_coins K) [] E0 (tCons (tVar 0) tNil)))
  (tSeq (tDrop (tCall (sp_check_amount K) [] E0 (tCons (tVar 1) (tCons (tC (.int 200)) tNil))))
  (tSeq (tAsg (tCall (sp_common K) [] E0 (tCons (tVar 0) tNil)) (gName 2))
  (tSeq (tIfS (tTest (tOp rGtI (tOp rModI (tVar 1) (tVar 2)) (tC (.int 0)))) (tRet (tMake CN (sp_Never_init K CN) [] E0 (tCons (tVar 2) tNil))) tNext)
  (tSeq (tAsg (tCall (sp_heights_of K) [] E0 (tCons (tVar 0) (tCons (tVar 1) tNil))) (gName 3))
  (tSeq (tAsg (tCall (sp_led_back K) [] E0 (tCons (tVar 0) (tCons (tVar 3) (tCons (tOp rAddI (tOp (rIxL K) (tVar 0) (tUn rNegI (tC (.int 1)))) (tVar 1)) tNil)))) (gTup K 2 (gCons (gName 4) (gCons (gName 5) gNil))))
  (tSeq (tAsg (tLc (iEnum K (tCons (tVar 3) tNil)) (gTup K 2 (gCons (gName 7) (gCons (gName 8) gNil))) tYes (tIf (tTest (tOp rLtI (tVar 8) (tC (.int 0)))) (tOp (rIxL K) (tVar 3) (tOp rSubI (tVar 7) (tOp rModI (tOp rSubI (tVar 7) (tOp (rIxL K) (tVar 0) (tUn rNegI (tC (.int 1))))) (tVar 2)))) (tVar 8)) [7, 8]) (gName 6))
  (tRet (tMake CP (sp_Paid_init K CP) [] E0 (tCons (tVar 4) (tCons (tVar 5) (tCons (tVar 6) tNil))))))))))))
end Cb

set_option Elab.async false
set_option linter.all false
set_option maxRecDepth 100000
set_option maxHeartbeats 4000000
/-! The answers' defs. -/
namespace Cb
open PySem PySem.Spec PyProof.Rows L2 Evl Chg
section
variable {K : PySem.W.Frag} {mg : Str → Option Value} {CA CP CN : Addr} {vs : List V} {H : Hp} {Q : VK} {E : XK}
theorem len_are_counts (h : sp_are_counts K vs H Q E) : vs.length = (["some", "coins"] : List Str).length := by
  obtain ⟨a, b, G, cs, rfl, _⟩ := h
  rfl
theorem nat_eq_dec (a b : Nat) : decide ((a : Int) = (b : Int)) = decide (a = b) := by
  by_cases h : a = b
  · subst h; simp
  · rw [decide_eq_false h, decide_eq_false (by omega)]
/-- all([f(x) for x in xs]) by a test of ints -/
theorem ev_allP {σ : L2.St} {tl te : TE} {p : Addr} {G : List Int} {j : Nat} {vs : List Nat} (f : Int → Bool) (h : Ev tl σ H (.ref p)) (hp : SqL K H p (G.map V.int)) (hl : G.length ≤ 40000) (hw : ∀ x, wipe ((wipe σ vs).set j (some x)) vs = wipe σ vs)
    (he : ∀ (w : Int) H1, w ∈ G → Ex H H1 → Ev te ((wipe σ vs).set j (some (.int w))) H1 (.bl (f w))) :
    Ev (tCB (rAll K) (tCons (tLc (iList K tl) (gName j) tYes te vs) tNil)) σ H (.bl ((G.map f).all id)) := by
  refine ev_allL ?_
  rw [List.map_map]
  refine el_eq (el_lcY (xs := G.map V.int) (fun x => match x with | .int w => .bl (f w) | _ => .non) h hp (by rw [List.length_map]; exact hl) hw fun x H1 hx e => ?_) (by rw [List.map_map]; rfl)
  obtain ⟨w, hw', rfl⟩ := List.mem_map.mp hx
  exact he w H1 hw' e
theorem ev_anyP {σ : L2.St} {tl te : TE} {p : Addr} {G : List Int} {j : Nat} {vs : List Nat} (f : Int → Bool) (h : Ev tl σ H (.ref p)) (hp : SqL K H p (G.map V.int)) (hl : G.length ≤ 40000) (hw : ∀ x, wipe ((wipe σ vs).set j (some x)) vs = wipe σ vs)
    (he : ∀ (w : Int) H1, w ∈ G → Ex H H1 → Ev te ((wipe σ vs).set j (some (.int w))) H1 (.bl (f w))) :
    Ev (tCB (rAny K) (tCons (tLc (iList K tl) (gName j) tYes te vs) tNil)) σ H (.bl ((G.map f).any id)) := by
  refine ev_anyL ?_
  rw [List.map_map]
  refine el_eq (el_lcY (xs := G.map V.int) (fun x => match x with | .int w => .bl (f w) | _ => .non) h hp (by rw [List.length_map]; exact hl) hw fun x H1 hx e => ?_) (by rw [List.map_map]; rfl)
  obtain ⟨w, hw', rfl⟩ := List.mem_map.mp hx
  exact he w H1 hw' e
/-- a comprehension over two lists of ints that stand -/
theorem el_zipI {σ : L2.St} {ta tb te : TE} {a b : Addr} {G B : List Int} {j l : Nat} {vs : List Nat} (f : Int → Int → V) (ha : Ev ta σ H (.ref a)) (hb : Ev tb σ H (.ref b)) (h1 : SqL K H a (G.map V.int)) (h2 : SqL K H b (B.map V.int)) (hl : G.length ≤ 40000)
    (hw : ∀ x y, wipe (((wipe σ vs).set j (some x)).set l (some y)) vs = wipe σ vs) (he : ∀ (x y : Int) H1, x ∈ G → y ∈ B → Ex H H1 → Ev te (((wipe σ vs).set j (some (.int x))).set l (some (.int y))) H1 (f x y)) :
    EvL (tLc (iZip K (tCons ta (tCons tb tNil))) (gTup K 2 (gCons (gName j) (gCons (gName l) gNil))) tYes te vs) σ H (List.zipWith f G B) := by
  refine el_eq (el_lcZ (a := a) (b := b) (xs := G.map V.int) (ys := B.map V.int) (fun x y => match x, y with | .int p, .int q => f p q | _, _ => .non) (fun H1 e Q k => ?_) (by rw [List.length_map]; exact hl) hw fun i x y H1 hx hy e => ?_) ?_
  · exact ha H1 e _ fun H2 e2 => hb H2 (e.trans e2) _ fun H3 e3 => k a b H3 (e2.trans e3) (ex_l ((e.trans e2).trans e3) h1) (ex_l ((e.trans e2).trans e3) h2)
  · obtain ⟨p, hp, rfl⟩ := List.mem_map.mp (List.mem_of_getElem? hx)
    obtain ⟨q, hq, rfl⟩ := List.mem_map.mp (List.mem_of_getElem? hy)
    exact he p q H1 hp hq e
  · rw [List.zipWith_map]
theorem pure_are_counts (h : sp_are_counts K vs H Q E) : t_are_counts K (endsOf Q) (start ["some", "coins", "one"] vs) H := by
  obtain ⟨a, b, G, cs, rfl, ha, hb, hl, q⟩ := h
  refine s_ret (v := .bl (areB G cs)) ?_ fun H1 e => q H1 e
  refine ev_eq (ev_andV (a := decide (G.length = cs.length)) (ev_eq (ev_eqI (ev_len (ev_var rfl) (sq_of ha)) (ev_len (ev_var rfl) (sq_of hb))) (by rw [List.length_map, List.length_map, nat_eq_dec])) fun _ => ev_allP (fun x => decide (0 ≤ x)) (ev_var rfl) (sq_of ha) (by omega) (fun _ => rfl) fun w H1 hw e => ?_) rfl
  exact ev_eq (ev_andV (a := true) (ev_isnum (ev_var rfl)) fun _ => ev_cmp (p := fun i j => decide (j ≤ i)) (ev_var rfl) ev_c) (by rw [Bool.true_and])
theorem len_worth_of (h : sp_worth_of K vs H Q E) : vs.length = (["counts", "coins"] : List Str).length := by
  obtain ⟨a, b, G, cs, rfl, _⟩ := h
  rfl
theorem pure_worth_of (h : sp_worth_of K vs H Q E) : t_worth_of K (endsOf Q) (start ["counts", "coins", "count", "worth"] vs) H := by
  obtain ⟨a, b, G, cs, rfl, ha, hb, hl, hw, q⟩ := h
  refine s_ret (v := .int (dot G cs)) (ev_sumL (ns := List.zipWith (fun x y => x * y) G cs) (el_eq (el_zipI (fun x y => .int (x * y)) (ev_var rfl) (ev_var rfl) (sq_of ha) (sq_of hb) (by omega) (fun _ _ => rfl) fun x y H1 hx hy e => ?_) (by rw [List.map_zipWith]))) fun H1 e => q H1 e
  have := hw y hy
  exact ev_mul (ev_var rfl) (ev_var rfl) (small_mul (by omega))
theorem len_is_floor (h : sp_is_floor K vs H Q E) : vs.length = (["coins", "amount", "heights"] : List Str).length := by
  obtain ⟨p, hh, cs, S, a, rfl, _⟩ := h
  rfl
theorem cut_from {xs : List V} {w : Int} (hw : 0 ≤ w) : cutV xs (some w) none = xs.drop w.toNat := by
  unfold cutV
  have e : w = ((w.toNat : Nat) : Int) := by omega
  rw [e, HT.sIx_nat, HT.sIx_none, Int.toNat_natCast]
  rcases Nat.le_total w.toNat xs.length with h | h
  · rw [Nat.min_eq_left h, List.take_of_length_le (by rw [List.length_drop]; omega)]
  · rw [Nat.min_eq_right h, List.drop_of_length_le (Nat.le_refl _), List.drop_of_length_le h]; simp
theorem pure_is_floor (h : sp_is_floor K vs H Q E) : t_is_floor K (endsOf Q) (start ["coins", "amount", "heights", "worth", "one", "other"] vs) H := by
  obtain ⟨p, hh, cs, S, a, rfl, hp, hS, hc, ha, hl, q⟩ := h
  have ht := hc.top
  have hlen : Ev (tCB (rLenS K) (tCons (tCall (sp_strip K) [] E0 (tCons (tVar 0) (tCons (tVar 1) tNil))) tNil)) (start ["coins", "amount", "heights", "worth", "one", "other"] [.ref p, .int a, .ref hh]) H (.int (a + 2 * topC cs)) :=
    ev_eq (ev_lenN (xs := rgV (-topC cs) (a + topC cs)) (el_callL (ea_cons (ev_var rfl) (ea_cons (ev_var rfl) ea_nil)) fun H1 e1 Q' q' => ⟨p, cs, a, rfl, e1 p _ hp, hc.ne, by omega, by omega, q'⟩)) (by rw [rgV_len]; congr 1; omega)
  refine q_when (b := decide ((S.length : Int) ≠ a + 2 * topC cs) || decide (ent S (topC cs) ≠ 0)) ?_ (fun hb H1 e1 => ?_) fun hb H1 e1 => ?_
  · refine et_or (et_test (ev_eq (ev_neI (ev_len (ev_var rfl) (sq_of hS)) hlen) (by rw [List.length_map]))) fun hf => ?_
    have hf' : (S.length : Int) = a + 2 * topC cs := by simpa using hf
    exact et_test (ev_neI (ev_ixL (ev_var rfl) (ev_ixL (ev_var rfl) ev_m1 (sq_of hp) (topC_at hc.ne)) (sq_of hS) (atI_int (by omega) (by omega))) ev_c)
  · refine s_ret ev_c fun H2 e2 => ?_
    have : floorB cs a S = false := by
      unfold floorB
      by_cases h1 : (S.length : Int) = a + 2 * topC cs
      · by_cases h2 : ent S (topC cs) = 0
        · simp [h1, h2] at hb
        · simp [h2]
      · simp [h1]
    rw [this] at q
    exact q H2 (e1.trans e2)
  · have hb' : (S.length : Int) = a + 2 * topC cs ∧ ent S (topC cs) = 0 := by simpa using hb
    have hfl : floorB cs a S = cs.all fun w => !gapB S w := by
      unfold floorB
      rw [decide_eq_true hb'.1, decide_eq_true hb'.2]; simp
    rw [hfl] at q
    refine q_forLn (xs := cs.map V.int) (ev_var rfl) (sq_of (e1 _ _ hp)) (fun i σ' H' => Ex H H' ∧ ((cs.take i).all fun w => !gapB S w) = true ∧ ∃ y3 y4 y5 : Option V, σ' = [some (.ref p), some (.int a), some (.ref hh), y3, y4, y5]) (fun H2 e2 => ⟨e1.trans e2, by simp, _, _, _, rfl⟩) (fun i σ' H' _ hP => sq_of (hP.1 _ _ hp)) (fun i x σ' H' hx hP => ?_) fun σ' H' hP => ?_
    · obtain ⟨e2, hall, y3, y4, y5, rfl⟩ := hP
      obtain ⟨w, hw, rfl⟩ := get_int hx
      have w0 := hc.wor w (List.mem_of_getElem? hw)
      refine s_when (b := gapB S w) ?_ (fun hg H3 e3 => ?_) fun hg H3 e3 => ?_
      · refine et_B (ev_anyL (bs := List.zipWith (fun a b : Int => decide (1 < absI (a - b))) S (S.drop w.toNat)) ?_)
        refine el_eq (el_lcZ (a := hh) (b := hh) (xs := S.map V.int) (ys := (S.drop w.toNat).map V.int) (fun x y => match x, y with | .int p, .int q => .bl (decide (1 < absI (p - q))) | _, _ => .non) (fun H3 e3 Q' k => ?_) (by rw [List.length_map]; omega) (fun _ _ => rfl) fun i x y H3 hx hy e3 => ?_) ?_
        · refine ⟨.ref hh, rfl, ?_⟩
          refine el_go (el_sl (K := K) (ev_var rfl) (eo_some (ev_var rfl)) eo_none (sq_of (e3 _ _ (e2 _ _ hS)))) fun c H4 hc4 e4 h4 => ?_
          refine k hh c H4 e4 (sq_of (e4 _ _ (e3 _ _ (e2 _ _ hS)))) (sq_of ?_)
          rw [h4, cut_from (by omega), List.map_drop]
        · obtain ⟨p', _, rfl⟩ := List.mem_map.mp (List.mem_of_getElem? hx)
          obtain ⟨q', _, rfl⟩ := List.mem_map.mp (List.mem_of_getElem? hy)
          exact ev_cmp (p := fun i j => decide (j < i)) (ev_abs (ev_sub (ev_var rfl) (ev_var rfl))) ev_c
        · rw [List.zipWith_map, List.map_zipWith]
      · refine s_ret ev_c fun H4 e4 => ?_
        have : (cs.all fun w => !gapB S w) = false := by
          rw [Bool.eq_false_iff]
          intro hx
          have := List.all_eq_true.mp hx w (List.mem_of_getElem? hw)
          rw [hg] at this
          simp at this
        rw [this] at q
        exact q H4 ((e2.trans e3).trans e4)
      · refine ⟨e2.trans e3, ?_, _, _, _, rfl⟩
        rw [List.take_add_one, hw, List.all_append, hall]
        simp [hg]
    · obtain ⟨e2, hall, y3, y4, y5, rfl⟩ := hP
      rw [List.length_map, List.take_length] at hall
      rw [hall] at q
      exact s_ret ev_c fun H3 e3 => q H3 (e2.trans e3)
theorem len_Paid_init (h : sp_Paid_init K CP vs H Q E) : vs.length = (["self", "give", "back", "heights"] : List Str).length := by
  obtain ⟨x, dx, a, b, c, G, B, S, rfl, _⟩ := h
  rfl
/-- self.f = list(xs) -/
theorem s_fldL {C x dx a : Addr} {fs : List (Str × V)} {xs : List V} {f : Str} {i : Nat} {D : Ends} {σ : L2.St} (hs0 : σ[0]? = some (some (.ref x))) (hsi : σ[i]? = some (some (.ref a))) (hx : H x = some (.ins C dx fs)) (ha : H a = some (.lst xs)) (cl : Cls K C) (n : NoAttr K C f) (hl : fs.length < 1000)
    (k : ∀ l, H l = none → D.nx σ (upd (upd H l (.lst xs)) x (.ins C dx (putF f (.ref l) fs)))) : sFld K (tVar 0) (tCB (rListS K) (tCons (tVar i) tNil)) f D σ H := by
  refine ⟨.ref a, hsi, a, xs, rfl, .inl (sq_of ha), fun l hl' => ⟨.ref x, hs0, x, C, dx, fs, rfl, ?_, cl, n, hl, k l hl'⟩⟩
  rw [upd_ne (ne_of_none hx hl')]
  exact hx
theorem ne_up {H : Hp} {p l : Addr} {o u : HO} (h : H p = some o) (hl : H l = none) : upd H l u p = some o := by
  rw [upd_ne (ne_of_none h hl)]; exact h
theorem pure_Paid_init (T : Kls K mg CA CP CN) (h : sp_Paid_init K CP vs H Q E) : t_Paid_init K (endsOf Q) (start ["self", "give", "back", "heights"] vs) H := by
  obtain ⟨x, dx, a, b, c, G, B, S, rfl, hx, ha, hb, hc, q⟩ := h
  have nax : a ≠ x := ne_of ha hx (by intro z; cases z)
  have nbx : b ≠ x := ne_of hb hx (by intro z; cases z)
  have ncx : c ≠ x := ne_of hc hx (by intro z; cases z)
  refine s_fldL (D := { nx := _, rt := _, bk := _, ct := _ }) rfl rfl hx ha T.clP T.nGive (by simp) fun lg nlg => ?_
  have nlgx : lg ≠ x := (ne_of_none hx nlg).symm
  have hb1 : upd (upd H lg (.lst (G.map V.int))) x (.ins CP dx (putF "give" (.ref lg) [])) b = some (.lst (B.map V.int)) := by rw [upd_ne nbx]; exact ne_up hb nlg
  have hc1 : upd (upd H lg (.lst (G.map V.int))) x (.ins CP dx (putF "give" (.ref lg) [])) c = some (.lst (S.map V.int)) := by rw [upd_ne ncx]; exact ne_up hc nlg
  have hg1 : upd (upd H lg (.lst (G.map V.int))) x (.ins CP dx (putF "give" (.ref lg) [])) lg = some (.lst (G.map V.int)) := by rw [upd_ne nlgx]; exact upd_same
  have old1 : ∀ y o, y ≠ x → H y = some o → upd (upd H lg (.lst (G.map V.int))) x (.ins CP dx (putF "give" (.ref lg) [])) y = some o := fun y o ny hy => by rw [upd_ne ny]; exact ne_up hy nlg
  have hx1 : upd (upd H lg (.lst (G.map V.int))) x (.ins CP dx (putF "give" (.ref lg) [])) x = some (.ins CP dx (putF "give" (.ref lg) [])) := upd_same
  generalize upd (upd H lg (.lst (G.map V.int))) x (.ins CP dx (putF "give" (.ref lg) [])) = H1 at hb1 hc1 hg1 hx1 old1
  refine s_fldL (D := { nx := _, rt := _, bk := _, ct := _ }) rfl rfl hx1 hb1 T.clP T.nBack (by simp [putF]) fun lb nlb => ?_
  have nlbx : lb ≠ x := (ne_of_none hx1 nlb).symm
  have ngb : lg ≠ lb := ne_of_none hg1 nlb
  have hlb : H lb = none := by
    cases e : H lb with
    | none => rfl
    | some o => rw [old1 lb o nlbx e] at nlb; cases nlb
  have hc2 : upd (upd H1 lb (.lst (B.map V.int))) x (.ins CP dx (putF "back" (.ref lb) (putF "give" (.ref lg) []))) c = some (.lst (S.map V.int)) := by rw [upd_ne ncx]; exact ne_up hc1 nlb
  have hg2 : upd (upd H1 lb (.lst (B.map V.int))) x (.ins CP dx (putF "back" (.ref lb) (putF "give" (.ref lg) []))) lg = some (.lst (G.map V.int)) := by rw [upd_ne nlgx]; exact ne_up hg1 nlb
  have hb2 : upd (upd H1 lb (.lst (B.map V.int))) x (.ins CP dx (putF "back" (.ref lb) (putF "give" (.ref lg) []))) lb = some (.lst (B.map V.int)) := by rw [upd_ne nlbx]; exact upd_same
  have old2 : ∀ y o, y ≠ x → H y = some o → upd (upd H1 lb (.lst (B.map V.int))) x (.ins CP dx (putF "back" (.ref lb) (putF "give" (.ref lg) []))) y = some o := fun y o ny hy => by rw [upd_ne ny]; exact ne_up (old1 y o ny hy) nlb
  have hx2 : upd (upd H1 lb (.lst (B.map V.int))) x (.ins CP dx (putF "back" (.ref lb) (putF "give" (.ref lg) []))) x = some (.ins CP dx (putF "back" (.ref lb) (putF "give" (.ref lg) []))) := upd_same
  generalize upd (upd H1 lb (.lst (B.map V.int))) x (.ins CP dx (putF "back" (.ref lb) (putF "give" (.ref lg) []))) = H2 at hc2 hg2 hb2 hx2 old2
  refine s_fldL rfl rfl hx2 hc2 T.clP T.nHei (by show (putF "back" (.ref lb) [("give", V.ref lg)]).length < 1000; unfold putF; split <;> simp [putF]) fun lh nlh => ?_
  have nlhx : lh ≠ x := (ne_of_none hx2 nlh).symm
  have hlh : H lh = none := by
    cases e : H lh with
    | none => rfl
    | some o => rw [old2 lh o nlhx e] at nlh; cases nlh
  refine q lg lb lh _ nlg hlb hlh ngb (ne_of_none hg2 nlh) (ne_of_none hb2 nlh) (fun y o ny hy => by rw [upd_ne ny]; exact ne_up (old2 y o ny hy) nlh) ⟨upd_same, ?_, ?_, ?_⟩
  · rw [Il, upd_ne nlgx]; exact ne_up hg2 nlh
  · rw [Il, upd_ne nlbx]; exact ne_up hb2 nlh
  · rw [Il, upd_ne nlhx]; exact upd_same
theorem len_Never_init (h : sp_Never_init K CN vs H Q E) : vs.length = (["self", "part"] : List Str).length := by
  obtain ⟨x, dx, part, rfl, _⟩ := h
  rfl
theorem pure_Never_init (T : Kls K mg CA CP CN) (h : sp_Never_init K CN vs H Q E) : t_Never_init K (endsOf Q) (start ["self", "part"] vs) H := by
  obtain ⟨x, dx, part, rfl, hx, q⟩ := h
  exact ⟨.int part, rfl, .ref x, rfl, x, CN, dx, [], rfl, hx, T.clN, T.nPart, by simp, q _ (fun y o ny hy => by rw [upd_ne ny]; exact hy) upd_same⟩
end
end Cb

set_option Elab.async false
set_option linter.all false
set_option maxRecDepth 100000
set_option maxHeartbeats 4000000
/-! shows; lower, led_back, paid. -/
namespace Cb
open PySem PySem.Spec PyProof.Rows L2 Evl Chg
section
variable {K : PySem.W.Frag} {mg : Str → Option Value} {CA CP CN : Addr} {vs : List V} {H : Hp} {Q : VK} {E : XK}
theorem ev_fld {σ : L2.St} {te : TE} {x C dx : Addr} {fs : List (Str × V)} {f : Str} {v : V} (h : Ev te σ H (.ref x)) (hx : H x = some (.ins C dx fs)) (cl : Cls K C) (n : NoAttr K C f) (l : fs.lookup f = some v) : Ev (tFld K te f) σ H v := fun H1 e Q q =>
  h H1 e _ fun H2 e2 => ⟨x, C, dx, fs, v, rfl, e2 _ _ (e _ _ hx), cl, n, l, q H2 e2⟩
section
variable {σ : L2.St} {te : TE} {x dx lg lb lh : Addr} {G B S : List Int}
theorem ev_give (T : Kls K mg CA CP CN) (h : Ev te σ H (.ref x)) (p : PaidAt CP H x dx lg lb lh G B S) : Ev (tFld K te "give") σ H (.ref lg) := ev_fld h p.ob T.clP T.nGive (pf_give lg lb lh)
theorem ev_back (T : Kls K mg CA CP CN) (h : Ev te σ H (.ref x)) (p : PaidAt CP H x dx lg lb lh G B S) : Ev (tFld K te "back") σ H (.ref lb) := ev_fld h p.ob T.clP T.nBack (pf_back lg lb lh)
theorem ev_hei (T : Kls K mg CA CP CN) (h : Ev te σ H (.ref x)) (p : PaidAt CP H x dx lg lb lh G B S) : Ev (tFld K te "heights") σ H (.ref lh) := ev_fld h p.ob T.clP T.nHei (pf_hei lg lb lh)
theorem ev_part {part : Int} (T : Kls K mg CA CP CN) (h : Ev te σ H (.ref x)) (p : NeverAt CN H x dx part) : Ev (tFld K te "part") σ H (.int part) := ev_fld h p T.clN T.nPart (nf_part part)
end
theorem len_Paid_shows (h : sp_Paid_shows K CP vs H Q E) : vs.length = (["self", "coins", "amount"] : List Str).length := by
  obtain ⟨x, dx, lg, lb, lh, p, G, B, S, cs, a, rfl, _⟩ := h
  rfl
theorem ev_areC {σ : L2.St} {ta tb : TE} {a b : Addr} {G cs : List Int} (h1 : Ev ta σ H (.ref a)) (h2 : Ev tb σ H (.ref b)) (ha : Il H a G) (hb : Il H b cs) (hl : G.length ≤ 30000) : Ev (tCall (sp_are_counts K) [] E (tCons ta (tCons tb tNil))) σ H (.bl (areB G cs)) :=
  ev_callV (ea_cons h1 (ea_cons h2 ea_nil)) fun H1 e Q q => ⟨a, b, G, cs, rfl, e _ _ ha, e _ _ hb, hl, q⟩
theorem ev_worth {σ : L2.St} {ta tb : TE} {a b : Addr} {G cs : List Int} (h1 : Ev ta σ H (.ref a)) (h2 : Ev tb σ H (.ref b)) (ha : Il H a G) (hb : Il H b cs) (hl : G.length ≤ 30000) (hc : Coins cs) : Ev (tCall (sp_worth_of K) [] E (tCons ta (tCons tb tNil))) σ H (.int (dot G cs)) :=
  ev_callV (ea_cons h1 (ea_cons h2 ea_nil)) fun H1 e Q q => ⟨a, b, G, cs, rfl, e _ _ ha, e _ _ hb, hl, fun w hw => by have := hc.wor w hw; omega, q⟩
theorem pure_Paid_shows (T : Kls K mg CA CP CN) (h : sp_Paid_shows K CP vs H Q E) : t_Paid_shows K (endsOf Q) (start ["self", "coins", "amount"] vs) H := by
  obtain ⟨x, dx, lg, lb, lh, p, G, B, S, cs, a, rfl, hP, hp, hc, ha, hl, q⟩ := h
  have ht := hc.top
  refine q_when (b := !areB G cs || !areB B cs) (et_or (et_not (et_B (ev_areC (ev_give T (ev_var rfl) hP) (ev_var rfl) hP.g hp hl.1))) fun _ => et_not (et_B (ev_areC (ev_back T (ev_var rfl) hP) (ev_var rfl) hP.b hp hl.2.1))) (fun hb H1 e1 => ?_) fun hb H1 e1 => ?_
  · have : showB cs a G B S = false := by
      unfold showB
      cases h1 : areB G cs <;> cases h2 : areB B cs <;> simp_all
    rw [this] at q
    exact s_ret ev_c fun H2 e2 => q H2 (e1.trans e2)
  have hb' : areB G cs = true ∧ areB B cs = true := by
    cases h1 : areB G cs <;> cases h2 : areB B cs <;> simp_all
  have hP1 := hP.mono e1
  have hp1 := e1 _ _ hp
  refine q_when (b := decide (dot G cs - dot B cs ≠ a)) (et_test (ev_neI (ev_sub (ev_worth (ev_give T (ev_var rfl) hP1) (ev_var rfl) hP1.g hp1 hl.1 hc) (ev_worth (ev_back T (ev_var rfl) hP1) (ev_var rfl) hP1.b hp1 hl.2.1 hc)) (ev_var rfl))) (fun hd H2 e2 => ?_) fun hd H2 e2 => ?_
  · have hd' := of_decide_eq_true hd
    have : showB cs a G B S = false := by
      unfold showB
      rw [decide_eq_false hd']; simp
    rw [this] at q
    exact s_ret ev_c fun H3 e3 => q H3 ((e1.trans e2).trans e3)
  have hd' : dot G cs - dot B cs = a := by simpa using hd
  have hP2 := hP1.mono e2
  have hp2 := e2 _ _ hp1
  have hsh : showB cs a G B S = (floorB cs a S && decide (ent S (topC cs + a) = G.sum + B.sum)) := by
    unfold showB
    rw [hb'.1, hb'.2, decide_eq_true hd']; simp
  rw [hsh] at q
  refine q_when (b := !floorB cs a S) (et_not (et_B (ev_callV (ea_cons (ev_var rfl) (ea_cons (ev_var rfl) (ea_cons (ev_hei T (ev_var rfl) hP2) ea_nil))) fun H3 e3 Q' q' => ⟨p, lh, cs, S, a, rfl, e3 _ _ hp2, e3 _ _ hP2.h, hc, ha, hl.2.2, q'⟩))) (fun hf H3 e3 => ?_) fun hf H3 e3 => ?_
  · have hf' : floorB cs a S = false := by simpa using hf
    rw [hf'] at q
    exact s_ret ev_c fun H4 e4 => q H4 (((e1.trans e2).trans e3).trans e4)
  have hf' : floorB cs a S = true := by simpa using hf
  rw [hf', Bool.true_and] at q
  have hlen : (S.length : Int) = a + 2 * topC cs := by
    unfold floorB at hf'
    rw [Bool.and_eq_true, Bool.and_eq_true, decide_eq_true_eq] at hf'
    exact hf'.1.1
  have hP3 := hP2.mono e3
  have hp3 := e3 _ _ hp2
  refine s_ret (ev_eqI (ev_ixL (ev_hei T (ev_var rfl) hP3) (ev_add (ev_ixL (ev_var rfl) ev_m1 (sq_of hp3) (topC_at hc.ne)) (ev_var rfl)) (sq_of hP3.h) (atI_int (by omega) (by omega))) (ev_add (ev_sumV (ev_give T (ev_var rfl) hP3) (sq_of hP3.g)) (ev_sumV (ev_back T (ev_var rfl) hP3) (sq_of hP3.b)))) fun H4 e4 => q H4 (((e1.trans e2).trans e3).trans e4)
theorem len_Never_shows (h : sp_Never_shows K CN vs H Q E) : vs.length = (["self", "coins", "amount"] : List Str).length := by
  obtain ⟨x, dx, p, part, cs, a, rfl, _⟩ := h
  rfl
theorem pure_Never_shows (T : Kls K mg CA CP CN) (h : sp_Never_shows K CN vs H Q E) : t_Never_shows K (endsOf Q) (start ["self", "coins", "amount", "worth"] vs) H := by
  obtain ⟨x, dx, p, part, cs, a, rfl, hN, hp, hl, q⟩ := h
  refine q_when (b := decide (part < 1) || decide (a % part = 0)) (et_or (et_test (ev_cmp (p := fun i j => decide (i < j)) (ev_part T (ev_var rfl) hN) ev_c)) fun hf => et_test (ev_eqI (ev_mod (ev_var rfl) (ev_part T (ev_var rfl) hN) (by simp at hf; omega)) ev_c)) (fun hb H1 e1 => ?_) fun hb H1 e1 => ?_
  · have : nevB cs a part = false := by
      unfold nevB
      rw [Bool.or_eq_true, decide_eq_true_eq, decide_eq_true_eq] at hb
      rcases hb with z | z
      · rw [decide_eq_false (show ¬ 1 ≤ part by omega)]; simp
      · simp [z]
    rw [this] at q
    exact s_ret ev_c fun H2 e2 => q H2 (e1.trans e2)
  · have hb' : 1 ≤ part ∧ a % part ≠ 0 := by
      rw [Bool.or_eq_false_iff, decide_eq_false_iff_not, decide_eq_false_iff_not] at hb
      exact ⟨by omega, hb.2⟩
    have : nevB cs a part = goes cs part := by
      unfold nevB
      rw [decide_eq_true hb'.1, decide_eq_true hb'.2]; simp
    rw [this] at q
    have hN1 : NeverAt CN H1 x dx part := e1 _ _ hN
    exact s_ret (ev_goes (ev_var rfl) (e1 _ _ hp) (by omega) (by omega) (fun _ => rfl) (fun _ _ _ => ev_var rfl) (fun _ H2 e2 => ev_part T (ev_var rfl) (e2 _ _ hN1))) fun H2 e2 => q H2 (e1.trans e2)
/-- for i, x in enumerate(xs) -/
theorem s_forEn {σ : L2.St} {D : Ends} {tu : TS} {a : Addr} {xs : List V} {tl : TE} {i j : Nat} (h : Ev tl σ H (.ref a)) (hx : SqL K H a xs) (Pv : Nat → L2.St → Hp → Prop) (h0 : ∀ H1, Ex H H1 → Pv 0 σ H1) (hl : ∀ n σ' H', n ≤ xs.length → Pv n σ' H' → SqL K H' a xs)
    (hs : ∀ (n : Nat) x σ' H' H'', xs[n]? = some x → Pv n σ' H' → Ex H' H'' → tu { D with nx := Pv (n + 1), ct := Pv (n + 1), bk := D.nx } ((σ'.set i (some (.int (n : Int)))).set j (some x)) H'') (hd : ∀ σ' H', Pv xs.length σ' H' → D.nx σ' H') :
    tFor (iEnum K (tCons tl tNil)) (gTup K 2 (gCons (gName i) (gCons (gName j) gNil))) tu D σ H :=
  h H (Ex.refl H) _ fun H1 e => ⟨a, xs, rfl, ex_l e hx, by
    refine ⟨fun n m σ' H' => m = xs.length - n ∧ n ≤ xs.length ∧ Pv n σ' H', ⟨_, rfl, Nat.zero_le _, h0 H1 e⟩, ?_⟩
    rintro n m σ' H' ⟨rfl, hn, p⟩
    have q := hl n σ' H' hn p
    by_cases hlt : n < xs.length
    · refine .inr ⟨⟨xs, xs[n], q, List.getElem?_eq_getElem hlt⟩, Pv (n + 1), fun σ2 H2 p' => ⟨_, by omega, rfl, hlt, p'⟩, fun v H2 hy => ?_⟩
      obtain ⟨T, x, rfl, nT, rfl, f⟩ := hy
      have g := f _ q
      exact ⟨T, [.int (n : Int), x], rfl, st_of upd_same, rfl, .int (n : Int), [x], rfl, x, [], rfl, rfl, hs n x σ' H' _ g p (Ex.new nT)⟩
    · have en : n = xs.length := by omega
      subst en
      exact .inl ⟨⟨xs, q, Nat.le_refl _⟩, hd σ' H' p⟩⟩
theorem q_forEn {σ : L2.St} {D : Ends} {tu tz : TS} {a : Addr} {xs : List V} {tl : TE} {i j : Nat} (h : Ev tl σ H (.ref a)) (hx : SqL K H a xs) (Pv : Nat → L2.St → Hp → Prop) (h0 : ∀ H1, Ex H H1 → Pv 0 σ H1) (hl : ∀ n σ' H', n ≤ xs.length → Pv n σ' H' → SqL K H' a xs)
    (hs : ∀ (n : Nat) x σ' H' H'', xs[n]? = some x → Pv n σ' H' → Ex H' H'' → tu { D with nx := Pv (n + 1), ct := Pv (n + 1), bk := tz D } ((σ'.set i (some (.int (n : Int)))).set j (some x)) H'') (hd : ∀ σ' H', Pv xs.length σ' H' → tz D σ' H') :
    tSeq (tFor (iEnum K (tCons tl tNil)) (gTup K 2 (gCons (gName i) (gCons (gName j) gNil))) tu) tz D σ H := s_forEn (D := { D with nx := tz D }) h hx Pv h0 hl hs hd
/-- [e for i, x in enumerate(xs)] -/
theorem el_lcE {σ : L2.St} {te tl : TE} {a : Addr} {xs : List V} {j l : Nat} {vs : List Nat} (f : Nat → V → V) (h : Ev tl σ H (.ref a)) (hx : SqL K H a xs) (hz : xs.length ≤ 40000) (hw : ∀ x y, wipe (((wipe σ vs).set j (some x)).set l (some y)) vs = wipe σ vs)
    (he : ∀ (n : Nat) (x : V) H1, xs[n]? = some x → Ex H H1 → Ev te (((wipe σ vs).set j (some (.int (n : Int)))).set l (some x)) H1 (f n x)) :
    EvL (tLc (iEnum K (tCons tl tNil)) (gTup K 2 (gCons (gName j) (gCons (gName l) gNil))) tYes te vs) σ H (xs.mapIdx f) := fun H0 e Q q => h H0 e _ fun H1 e1 => ⟨a, xs, rfl, ex_l (e.trans e1) hx, fun Dl hD => by
  refine ⟨fun i m H' => m = xs.length - i ∧ i ≤ xs.length ∧ Ex H1 H' ∧ H' Dl = some (.lst ((xs.mapIdx f).take i)), ⟨_, rfl, Nat.zero_le _, Ex.new hD, upd_same⟩, ?_⟩
  rintro i m H' ⟨rfl, hi, ex, hDl⟩
  have qa : SqL K H' a xs := ex_l ((e.trans e1).trans ex) hx
  by_cases hlt : i < xs.length
  · refine .inr ⟨⟨xs, xs[i], qa, List.getElem?_eq_getElem hlt⟩, fun H'' => Ex H1 H'' ∧ H'' Dl = some (.lst ((xs.mapIdx f).take (i + 1))), fun H'' ⟨x1, x2⟩ => ⟨_, by omega, rfl, hlt, x1, x2⟩, fun x H'' hy => ?_⟩
    obtain ⟨T, x1, rfl, nT, rfl, f1⟩ := hy
    have g1 := f1 _ qa
    have exT : Ex H' (upd H' T (.tup [.int (i : Int), x1])) := Ex.new nT
    refine ⟨T, [.int (i : Int), x1], rfl, st_of upd_same, rfl, .int (i : Int), [x1], rfl, x1, [], rfl, rfl, hw _ _, ?_⟩
    refine he i x1 H' g1 ((e.trans e1).trans ex) _ exT _ fun H3 e3 => ⟨_, e3 _ _ (exT _ _ hDl), ?_, ?_⟩
    · rw [List.length_take]
      exact sz_lt (by omega)
    · refine ⟨Ex.mut ((ex.trans exT).trans e3) hD, ?_⟩
      rw [upd_same, List.take_add_one]
      congr 2
      rw [List.getElem?_mapIdx, g1]
      rfl
  · have ei : i = xs.length := by omega
    refine .inl ⟨⟨xs, qa, by omega⟩, ?_⟩
    refine q Dl H' (fresh_back e1 hD) (e1.trans ex) ?_
    rw [hDl, List.take_of_length_le (by rw [List.length_mapIdx]; omega)]⟩
theorem len_lower (h : sp_lower K vs H Q E) : vs.length = (["coins", "heights", "place"] : List Str).length := by
  obtain ⟨p, hh, cs, S, i, rfl, _⟩ := h
  rfl
theorem pure_lower (h : sp_lower K vs H Q E) : t_lower K (endsOf Q) (start ["coins", "heights", "place", "at", "worth", "there"] vs) H := by
  obtain ⟨p, hh, cs, S, i, rfl, hp, hS, hl, hlS, hi, ⟨k0, w0, t0, z1, z2, z3, z4, z5⟩, q⟩ := h
  refine q_forEn (xs := cs.map V.int) (ev_var rfl) (sq_of hp) (fun n σ' H' => Ex H H' ∧ n ≤ k0 ∧ ∃ y3 y4 y5 : Option V, σ' = [some (.ref p), some (.ref hh), some (.int i), y3, y4, y5]) (fun H1 e1 => ⟨e1, Nat.zero_le _, _, _, _, rfl⟩) (fun n σ' H' _ hP => sq_of (hP.1 _ _ hp)) (fun n x σ' H' H'' hx hP e1 => ?_) fun σ' H' hP => ?_
  · obtain ⟨e0, hn, y3, y4, y5, rfl⟩ := hP
    obtain ⟨w, hw, rfl⟩ := get_int hx
    have ex := e0.trans e1
    have hu : EvU (tTup (tCons (tOp rSubI (tVar 2) (tVar 4)) (tCons (tOp rAddI (tVar 2) (tVar 4)) tNil))) [some (.ref p), some (.ref hh), some (.int i), some (.int (n : Int)), some (.int w), y5] H'' [.int (i - w), .int (i + w)] :=
      eu_tup (ea_cons (ev_sub (ev_var rfl) (ev_var rfl)) (ea_cons (ev_add (ev_var rfl) (ev_var rfl)) ea_nil)) (by simp)
    refine s_forNU hu fun tp H1 ntp e2 htp => ⟨fun j σ2 H2 => Ex H H2 ∧ H2 tp = some (.tup [.int (i - w), .int (i + w)]) ∧ (n = k0 → (t0 = i - w → j < 1) ∧ (t0 = i + w → j < 2)) ∧ ∃ y5 : Option V, σ2 = [some (.ref p), some (.ref hh), some (.int i), some (.int (n : Int)), some (.int w), y5], ⟨ex.trans e2, htp, fun _ => ⟨fun _ => by omega, fun _ => by omega⟩, _, rfl⟩, fun j σ2 H2 _ hP => st_of hP.2.1, fun j y σ2 H2 hy hP => ?_, fun σ2 H2 hP => ?_⟩
    · obtain ⟨e3, ht, hk, y5, rfl⟩ := hP
      obtain ⟨t, rfl, ht1⟩ : ∃ t, y = .int t ∧ ((j = 0 ∧ t = i - w) ∨ (j = 1 ∧ t = i + w)) := by
        match j, hy with
        | 0, hy => exact ⟨i - w, (Option.some.inj hy).symm, .inl ⟨rfl, rfl⟩⟩
        | 1, hy => exact ⟨i + w, (Option.some.inj hy).symm, .inr ⟨rfl, rfl⟩⟩
      have hS3 := e3 _ _ hS
      refine s_when (b := (decide (0 ≤ t) && decide (t < (S.length : Int))) && decide (ent S t = ent S i - 1)) ?_ (fun hb H4 e4 => ?_) fun hb H4 e4 => ?_
      · refine et_and (et_chain (ev_chain (a := decide (0 ≤ t)) (b := decide (t < (S.length : Int))) ev_c (ev_var rfl) rv_I0 (fun _ => ev_eq (ev_len (ev_var rfl) (sq_of hS3)) (by rw [List.length_map])) fun _ => rv_I0)) fun hb => ?_
        rw [Bool.and_eq_true, decide_eq_true_eq, decide_eq_true_eq] at hb
        exact et_test (ev_eqI (ev_ixL (ev_var rfl) (ev_var rfl) (sq_of hS3) (atI_int hb.1 hb.2)) (ev_sub (ev_ixL (ev_var rfl) (ev_var rfl) (sq_of hS3) (atI_int hi.1 hi.2)) ev_c))
      · rw [Bool.and_eq_true, Bool.and_eq_true, decide_eq_true_eq, decide_eq_true_eq, decide_eq_true_eq] at hb
        refine s_retU (xs := [.int (n : Int), .int t]) (eu_tup (ea_cons (ev_var rfl) (ea_cons (ev_var rfl) ea_nil)) (by simp)) fun r H5 nr e5 hr => ?_
        exact q n w t hw (by omega) hb.1.1 hb.1.2 hb.2 r H5 (fresh_back (e3.trans e4) nr) ((e3.trans e4).trans e5) hr
      · refine ⟨e3.trans e4, e4 _ _ ht, fun hnk => ?_, _, rfl⟩
        subst hnk
        rw [hw] at z1
        have : w = w0 := Option.some.inj z1
        subst this
        have hx' : t ≠ t0 := fun et => by
          subst et
          rw [decide_eq_true z3, decide_eq_true z4, decide_eq_true z5] at hb
          cases hb
        have := hk rfl
        omega
    · obtain ⟨e3, ht, hk, y5, rfl⟩ := hP
      refine ⟨e3, ?_, _, _, _, rfl⟩
      have hl2 : ([V.int (i - w), V.int (i + w)] : List V).length = 2 := rfl
      rw [hl2] at hk
      by_cases hnk : n = k0
      · subst hnk
        rw [hw] at z1
        have : w = w0 := Option.some.inj z1
        subst this
        have := hk rfl
        omega
      · omega
  · obtain ⟨e3, hn, y3, y4, y5, rfl⟩ := hP
    have : k0 < cs.length := (List.getElem?_eq_some_iff.mp z1).1
    rw [List.length_map] at hn
    omega
theorem q_asgCallG {σ : L2.St} {D : Ends} {tz : TS} {sp : Sp} {vs : List V} {E : XK} {ta : TA} {g : TG} (h : EvA ta σ H vs) (k : ∀ H1, Ex H H1 → sp vs H1 (fun v H2 => g v σ H2 fun σ' H' => tz D σ' H') E) : tSeq (tAsg (tCall sp [] E ta) g) tz D σ H :=
  h H (Ex.refl H) _ fun H1 e => by
    rw [List.append_nil]
    exact k H1 e
theorem len_led_back (h : sp_led_back K vs H Q E) : vs.length = (["coins", "heights", "place"] : List Str).length := by
  obtain ⟨p, hh, cs, S, i, g, rfl, _⟩ := h
  rfl
/-- xs[k] += 1 -/
theorem s_augL {D : Ends} {σ : L2.St} {ta tb : TE} {l : Addr} {G : List Int} {k : Nat} (ha : Ev ta σ H (.ref l)) (hb : Ev tb σ H (.int (k : Int))) (hl : Il H l G) (hk : k < G.length) (c : ∀ H1, Ex H H1 → D.nx σ (upd H1 l (.lst ((G.set k (G.getD k 0 + 1)).map V.int)))) :
    tAugS ta tb (tC (.int 1)) (rIxL K) ipAdd rSetL D σ H := ha H (Ex.refl H) _ fun H1 e1 => hb H1 e1 _ fun H2 e2 => by
  have h2 := e2 _ _ (e1 _ _ hl)
  refine ⟨l, G.map V.int, (k : Int), .int (ent G (k : Int)), rfl, rfl, sq_of h2, atI_int (by omega) (by omega), ent G (k : Int), 1, rfl, rfl, l, G.map V.int, (k : Int), k, rfl, rfl, h2, ixN_nat (by rw [List.length_map]; exact hk), ?_⟩
  have e : (G.map V.int).set k (.int (ent G (k : Int) + 1)) = (G.set k (G.getD k 0 + 1)).map V.int := by
    rw [List.map_set]
    rfl
  rw [e]
  exact c H2 (e1.trans e2)
theorem pure_led_back (h : sp_led_back K vs H Q E) : t_led_back K (endsOf Q) (start ["coins", "heights", "place", "give", "back", "at", "there"] vs) H := by
  obtain ⟨p, hh, cs, S, i, g, rfl, hp, hS, hl, hpos, hlS, hi, hi0, hD, q⟩ := h
  have zl : ∀ {σ : L2.St} {H1 : Hp}, Ex H H1 → σ[0]? = some (some (.ref p)) → EvL (tOp rRep (tLst (tCons (tC (.int 0)) tNil)) (tCB (rLenS K) (tCons (tVar 0) tNil))) σ H1 ((List.replicate cs.length (0 : Int)).map V.int) := fun {σ H1} e hs => by
    rw [List.map_replicate]
    exact el_rep1 (el_lst (ea_cons ev_c ea_nil) (by simp)) (fun H2 e2 => ev_eq (ev_len (ev_var hs) (sq_of (e2 _ _ (e _ _ hp)))) (by rw [List.length_map])) (by omega)
  -- give, back
  refine el_go (zl (σ := start ["coins", "heights", "place", "give", "back", "at", "there"] [.ref p, .ref hh, .int i]) (Ex.refl H) rfl) fun lg H1 nlg e1 hlg => ?_
  refine el_go (zl e1 rfl) fun lb H2 nlb e2 hlb => ⟨.ref lg, .ref lb, rfl, ?_⟩
  have e12 := e1.trans e2
  have nlbH : H lb = none := fresh_back e1 nlb
  have nglb : lg ≠ lb := ne_of_none hlg nlb
  have st0 : LedOk cs (i - i) (ent S i - ent S i) (List.replicate cs.length 0) (List.replicate cs.length 0) := ⟨by simp, by simp, fun x hx => by rw [List.eq_of_mem_replicate hx]; omega, fun x hx => by rw [List.eq_of_mem_replicate hx]; omega, by rw [dot_zero]; omega, by rw [sum_zero]; omega⟩
  refine q_while (fun m σ' H' => ∃ (j : Int) (G B : List Int) (y5 y6 : Option V), σ' = [some (.ref p), some (.ref hh), some (.int j), some (.ref lg), some (.ref lb), y5, y6] ∧ Ex H H' ∧ Il H' lg G ∧ Il H' lb B ∧ (0 ≤ j ∧ j < S.length) ∧ 0 ≤ ent S j ∧ LedOk cs (i - j) (ent S i - ent S j) G B ∧ m = (ent S j).toNat) _
    ⟨i, _, _, none, none, rfl, e12, e2 _ _ hlg, hlb, hi, hi0, st0, rfl⟩ fun m σ' H' hW => ?_
  obtain ⟨j, G, B, y5, y6, rfl, ex, hG, hB, hj, hj0, ok, rfl⟩ := hW
  have hS' := ex _ _ hS
  have hp' := ex _ _ hp
  refine ⟨decide (0 < ent S j), et_test (ev_cmp (p := fun i j => decide (j < i)) (ev_ixL (ev_var rfl) (ev_var rfl) (sq_of hS') (atI_int hj.1 hj.2)) ev_c), fun hb H3 e3 => ?_, fun hb H3 e3 => ?_⟩
  · have hpos' : 0 < ent S j := of_decide_eq_true hb
    refine ⟨fun σ2 H2 => ∃ (j' : Int) (G B : List Int) (y5 y6 : Option V), σ2 = [some (.ref p), some (.ref hh), some (.int j'), some (.ref lg), some (.ref lb), y5, y6] ∧ Ex H H2 ∧ Il H2 lg G ∧ Il H2 lb B ∧ (0 ≤ j' ∧ j' < S.length) ∧ ent S j' = ent S j - 1 ∧ LedOk cs (i - j') (ent S i - ent S j') G B, fun σ2 H2 hN => ?_, ?_⟩
    · obtain ⟨j', G, B, y5, y6, e, a1, a2, a3, a4, a5, a6⟩ := hN
      exact ⟨(ent S j').toNat, by omega, j', G, B, y5, y6, e, a1, a2, a3, a4, by omega, a6, rfl⟩
    · have hlow := hD.low j hj.1 hj.2 hpos'
      have ex3 := ex.trans e3
      refine q_asgCallG (ea_cons (ev_var rfl) (ea_cons (ev_var rfl) (ea_cons (ev_var rfl) ea_nil))) fun H4 e4 => ⟨p, hh, cs, S, j, rfl, e4 _ _ (ex3 _ _ hp), e4 _ _ (ex3 _ _ hS), hl, hlS, hj, hlow, fun k w t hk ht h0 h1 hE tp H5 ntp e5 htp => ?_⟩
      have ex5 := (ex3.trans e4).trans e5
      have hG5 : Il H5 lg G := e5 _ _ (e4 _ _ (e3 _ _ hG))
      have hB5 : Il H5 lb B := e5 _ _ (e4 _ _ (e3 _ _ hB))
      have w0 := hpos w (List.mem_of_getElem? hk)
      have klt : k < cs.length := (List.getElem?_eq_some_iff.mp hk).1
      refine ⟨tp, [.int (k : Int), .int t], rfl, st_of htp, rfl, .int (k : Int), [.int t], rfl, .int t, [], rfl, rfl, ?_⟩
      refine s_if (b := decide (t < j)) (D := { nx := _, rt := _, bk := _, ct := _ }) (et_test (ev_cmp (p := fun i j => decide (i < j)) (ev_var rfl) (ev_var rfl))) (fun hlt H6 e6 => ?_) fun hlt H6 e6 => ?_
      · have hlt' : t < j := of_decide_eq_true hlt
        have et : t = j - w := by omega
        refine s_augL (D := { nx := _, rt := _, bk := _, ct := _ }) (ev_var rfl) (ev_var rfl) (e6 _ _ hG5) (by rw [ok.lg]; exact klt) fun H7 e7 => ?_
        refine s_asg (ev_var rfl) fun H8 e8 => ?_
        refine ⟨t, _, B, _, _, rfl, (((ex5.trans e6).trans e7).mut nlg).trans e8, e8 _ _ upd_same, e8 _ _ ?_, ⟨h0, h1⟩, hE, ⟨by rw [List.length_set]; exact ok.lg, ok.lb, mem_set_nonneg ok.pg, ok.pb, ?_, ?_⟩⟩
        · rw [upd_ne nglb.symm]
          exact e7 _ _ (e6 _ _ hB5)
        · rw [dot_set (by rw [ok.lg]; exact klt) hk]
          have := ok.dt
          omega
        · rw [sum_set (by rw [ok.lg]; exact klt)]
          have := ok.sm
          omega
      · have hlt' : ¬ t < j := of_decide_eq_false hlt
        have et : t = j + w := by omega
        refine s_augL (D := { nx := _, rt := _, bk := _, ct := _ }) (ev_var rfl) (ev_var rfl) (e6 _ _ hB5) (by rw [ok.lb]; exact klt) fun H7 e7 => ?_
        refine s_asg (ev_var rfl) fun H8 e8 => ?_
        refine ⟨t, G, _, _, _, rfl, (((ex5.trans e6).trans e7).mut nlbH).trans e8, e8 _ _ ?_, e8 _ _ upd_same, ⟨h0, h1⟩, hE, ⟨ok.lg, by rw [List.length_set]; exact ok.lb, ok.pg, mem_set_nonneg ok.pb, ?_, ?_⟩⟩
        · rw [upd_ne nglb]
          exact e7 _ _ (e6 _ _ hG5)
        · rw [dot_set (by rw [ok.lb]; exact klt) hk]
          have := ok.dt
          omega
        · rw [sum_set (by rw [ok.lb]; exact klt)]
          have := ok.sm
          omega
  · have hz : ent S j = 0 := by
      have := of_decide_eq_false hb
      omega
    have ej := hD.zero j hj.1 hj.2 hz
    subst ej
    rw [hz, Int.sub_zero] at ok
    have ex3 := ex.trans e3
    refine s_retU (xs := [.ref lg, .ref lb]) (eu_tup (ea_cons (ev_var rfl) (ea_cons (ev_var rfl) ea_nil)) (by simp)) fun r H5 nr e5 hr => ?_
    exact q G B ok lg lb r H5 nlg nlbH nglb (ex3.trans e5) (e5 _ _ (e3 _ _ hG)) (e5 _ _ (e3 _ _ hB)) hr
end
end Cb

set_option Elab.async false
set_option linter.all false
set_option maxRecDepth 100000
set_option maxHeartbeats 4000000
/-! paid. -/
namespace Cb
open PySem PySem.Spec PyProof.Rows L2 Evl Chg
section
variable {K : PySem.W.Frag} {mg : Str → Option Value} {CA CP CN : Addr} {vs : List V} {H : Hp} {Q : VK} {E : XK}
theorem len_paid (h : sp_paid K CP CN vs H Q E) : vs.length = (["coins", "amount"] : List Str).length := by
  obtain ⟨p, cs, a, rfl, _⟩ := h
  rfl
/-- what stood stands beside a new instance -/
theorem made_ex {H1 H2 : Hp} {x dx : Addr} {o u : HO} (nx : H1 x = none) (ndx : H1 dx = none) (k : ∀ y o', y ≠ x → upd (upd H1 dx o) x u y = some o' → H2 y = some o') : Ex H1 H2 := fun y o' hy => by
  have n1 : y ≠ x := ne_of_none hy nx
  have n2 : y ≠ dx := ne_of_none hy ndx
  refine k y o' n1 ?_
  rw [upd_ne n1, upd_ne n2]
  exact hy
theorem made_free {H1 : Hp} {x dx l : Addr} {o u : HO} (h : upd (upd H1 dx o) x u l = none) : H1 l = none := by
  have n1 : l ≠ x := fun z => by rw [z, upd_same] at h; cases h
  rw [upd_ne n1] at h
  have n2 : l ≠ dx := fun z => by rw [z, upd_same] at h; cases h
  rw [upd_ne n2] at h
  exact h
theorem made_old {H1 : Hp} {x dx l : Addr} {o u o' : HO} (nx : H1 x = none) (ndx : H1 dx = none) (h : H1 l = some o') : upd (upd H1 dx o) x u l = some o' := by
  rw [upd_ne (ne_of_none h nx), upd_ne (ne_of_none h ndx)]
  exact h
/-- Never(part) -/
theorem r_Never {te : TE} {σ : L2.St} {part : Int} (h : Ev te σ H (.int part)) (k : RetN CN part H Q) : tMake CN (sp_Never_init K CN) [] E (tCons te tNil) σ H Q :=
  h H (Ex.refl H) _ fun H1 e1 x dx nx ndx ne => ⟨x, dx, part, rfl, upd_same, fun H2 k2 hN => ⟨rfl, k x dx H2 (fresh_back e1 nx) (fresh_back e1 ndx) (e1.trans (made_ex nx ndx k2)) hN⟩⟩
/-- Paid(give, back, heights) of lists that stand -/
theorem r_Paid {ta tb tc : TE} {σ : L2.St} {a b c : Addr} {G B S : List Int} (h1 : Ev ta σ H (.ref a)) (h2 : Ev tb σ H (.ref b)) (h3 : Ev tc σ H (.ref c)) (ha : Il H a G) (hb : Il H b B) (hc : Il H c S) (k : RetP CP G B S H Q) :
    tMake CP (sp_Paid_init K CP) [] E (tCons ta (tCons tb (tCons tc tNil))) σ H Q :=
  h1 H (Ex.refl H) _ fun H1 e1 => h2 H1 e1 _ fun H2 e2 => h3 H2 (e1.trans e2) _ fun H3 e3 x dx nx ndx ne =>
    have e : Ex H H3 := (e1.trans e2).trans e3
    ⟨x, dx, a, b, c, G, B, S, rfl, upd_same, made_old nx ndx (e _ _ ha), made_old nx ndx (e _ _ hb), made_old nx ndx (e _ _ hc), fun lg lb lh H4 n1 n2 n3 d1 d2 d3 k4 hP =>
      ⟨rfl, k x dx lg lb lh H4 (fresh_back e nx) (fresh_back e ndx) (fresh_back e (made_free n1)) (fresh_back e (made_free n2)) (fresh_back e (made_free n3)) d1 d2 d3 (e.trans (made_ex nx ndx k4)) hP⟩⟩
theorem full_list {cs : List Int} {n g : Int} (f : Nat → V → V) (hf : ∀ (i : Nat) (h : Int), f i (.int h) = .int (if h < 0 then ent (hts cs n g) ((i : Int) - ((i : Int) - g) % gc cs) else h)) : ((hts cs n g).map V.int).mapIdx f = (fullH cs n g).map V.int := by
  refine List.ext_getElem (by simp [hts_len, fullH_len]) fun i h1 h2 => ?_
  have hi : i < (hts cs n g).length := by simpa using h1
  have hi2 : i < n.toNat := by rw [hts_len] at hi; exact hi
  rw [List.getElem_mapIdx, List.getElem_map, List.getElem_map, hf]
  have e1 : (hts cs n g)[i] = ent (hts cs n g) (i : Int) := by
    unfold ent
    rw [Int.toNat_natCast, List.getD_eq_getElem?_getD, List.getElem?_eq_getElem hi]; rfl
  have e2 : (fullH cs n g)[i]'(by rw [fullH_len]; exact hi2) = fullAt cs n g (i : Int) := by
    unfold fullH
    rw [List.getElem_map, List.getElem_range]
  rw [e2, e1]
  rfl
/-- paid behind its checks -/
def t_paid_rest (K : PySem.W.Frag) (CP CN : Addr) : TS :=
  (tSeq (tAsg (tCall (sp_common K) [] E0 (tCons (tVar 0) tNil)) (gName 2))
  (tSeq (tIfS (tTest (tOp rGtI (tOp rModI (tVar 1) (tVar 2)) (tC (.int 0)))) (tRet (tMake CN (sp_Never_init K CN) [] E0 (tCons (tVar 2) tNil))) tNext)
  (tSeq (tAsg (tCall (sp_heights_of K) [] E0 (tCons (tVar 0) (tCons (tVar 1) tNil))) (gName 3))
  (tSeq (tAsg (tCall (sp_led_back K) [] E0 (tCons (tVar 0) (tCons (tVar 3) (tCons (tOp rAddI (tOp (rIxL K) (tVar 0) (tUn rNegI (tC (.int 1)))) (tVar 1)) tNil)))) (gTup K 2 (gCons (gName 4) (gCons (gName 5) gNil))))
  (tSeq (tAsg (tLc (iEnum K (tCons (tVar 3) tNil)) (gTup K 2 (gCons (gName 7) (gCons (gName 8) gNil))) tYes (tIf (tTest (tOp rLtI (tVar 8) (tC (.int 0)))) (tOp (rIxL K) (tVar 3) (tOp rSubI (tVar 7) (tOp rModI (tOp rSubI (tVar 7) (tOp (rIxL K) (tVar 0) (tUn rNegI (tC (.int 1))))) (tVar 2)))) (tVar 8)) [7, 8]) (gName 6))
  (tRet (tMake CP (sp_Paid_init K CP) [] E0 (tCons (tVar 4) (tCons (tVar 5) (tCons (tVar 6) tNil))))))))))
theorem paid_rest {p : Addr} {cs : List Int} {a : Int} (hp : Il H p cs) (hc : Coins cs) (ha : 0 ≤ a ∧ a ≤ 200) (qN : ¬ gc cs ∣ a → RetN CN (gc cs) H Q) (qP : gc cs ∣ a → ∀ G B S, PaidOk cs (topC cs) a G B S → RetP CP G B S H Q) :
    t_paid_rest K CP CN (endsOf Q) (start ["coins", "amount", "part", "heights", "give", "back", "full", "at", "height"] [.ref p, .int a]) H := by
  have ht := hc.top
  have gpos := hc.gpos
  have gmem := topC_mem hc.ne
  refine q_asg (ev_common (ev_var rfl) hp hc) fun H3 e3 => ?_
  have hp3 := e3 _ _ hp
  have e13 : Ex H H3 := e3
  refine q_when (b := decide (0 < a % gc cs)) (et_test (ev_cmp (p := fun i j => decide (j < i)) (ev_mod (ev_var rfl) (ev_var rfl) gpos) ev_c)) (fun hb H4 e4 => ?_) fun hb H4 e4 => ?_
  · have hb' := of_decide_eq_true hb
    have nd : ¬ gc cs ∣ a := fun z => by rw [Int.emod_eq_zero_of_dvd z] at hb'; omega
    exact r_Never (ev_var rfl) fun x dx H5 nx ndx e5 hN => qN nd x dx H5 (fresh_back (e13.trans e4) nx) (fresh_back (e13.trans e4) ndx) ((e13.trans e4).trans e5) hN
  have hb' := of_decide_eq_false hb
  have hd : gc cs ∣ a := by
    have := Int.emod_nonneg a (show gc cs ≠ 0 by omega)
    exact Int.dvd_of_emod_eq_zero (by omega)
  have e14 := e13.trans e4
  have hp4 := e4 _ _ hp3
  refine q_asgL (el_heights (ev_var rfl) (ev_var rfl) hp4 hc (by omega)) fun lh H5 nlh e5 hlh => ?_
  have hp5 := e5 _ _ hp4
  have hln := hOf_len hc ha.1
  have topEv : ∀ {σ : L2.St} {H6 : Hp}, Ex H5 H6 → σ[0]? = some (some (.ref p)) → Ev (tOp (rIxL K) (tVar 0) (tUn rNegI (tC (.int 1)))) σ H6 (.int (topC cs)) := fun e hs => ev_ixL (ev_var hs) ev_m1 (sq_of (e _ _ hp5)) (topC_at hc.ne)
  have hat := hOf_at (t := a) hc ha.1 (by omega) (by omega)
  have f0 : 0 ≤ few cs a := by
    have := (few_neg (t := a) fun w hw => (hc.le_top w hw).1)
    by_cases z : 0 ≤ few cs a
    · exact z
    · exact absurd hd (this.mp (by omega))
  refine q_asgCallG (ea_cons (ev_var rfl) (ea_cons (ev_var rfl) (ea_cons (ev_add (topEv (Ex.refl _) rfl) (ev_var rfl)) ea_nil))) fun H6 e6 => ⟨p, lh, cs, hOf cs a, topC cs + a, topC cs, rfl, e6 _ _ hp5, e6 _ _ hlh, by have := hc.six; omega, fun w hw => (hc.le_top w hw).1, by omega, by omega, by rw [hat]; exact f0, hts_desc (by omega), fun G B ok lg lb tp H7 nlg nlb nglb e7 hlg hlb htp => ?_⟩
  rw [hat, show topC cs + a - topC cs = a by omega] at ok
  refine ⟨tp, [.ref lg, .ref lb], rfl, st_of htp, rfl, .ref lg, [.ref lb], rfl, .ref lb, [], rfl, rfl, ?_⟩
  have e57 := e6.trans e7
  refine q_asgL (xs := (fullH cs (a + 2 * topC cs) (topC cs)).map V.int) (el_eq (el_lcE (xs := (hOf cs a).map V.int) (fun n x => match x with | .int h => .int (if h < 0 then ent (hOf cs a) ((n : Int) - ((n : Int) - topC cs) % gc cs) else h) | _ => .non) (ev_var rfl) (sq_of (e57 _ _ hlh)) (by rw [List.length_map]; omega) (fun _ _ => rfl) fun n x H8 hx e8 => ?_) (full_list _ fun i h => rfl)) fun lf H8 nlf e8 hlf => ?_
  · obtain ⟨hgt, hh, rfl⟩ := get_int hx
    have hn : n < (hOf cs a).length := (List.getElem?_eq_some_iff.mp hh).1
    have m0 := Int.emod_nonneg ((n : Int) - topC cs) (show gc cs ≠ 0 by omega)
    have fl := emod_floor gpos (gc_dvd gmem) (t := (n : Int) - topC cs) (by omega)
    refine ev_if (b := decide (hgt < 0)) (et_test (ev_cmp (p := fun i j => decide (i < j)) (ev_var rfl) ev_c)) (fun hz => ?_) fun hz => ?_
    · have hz' := of_decide_eq_true hz
      refine ev_eq (ev_ixL (ev_var rfl) (ev_sub (ev_var rfl) (ev_mod (ev_sub (ev_var rfl) (topEv (e57.trans e8) rfl)) (ev_var rfl) gpos)) (sq_of (e8 _ _ (e57 _ _ hlh))) (atI_int (by omega) (by omega))) ?_
      simp [hz']
    · have hz' := of_decide_eq_false hz
      refine ev_eq (ev_var rfl) ?_
      simp [hz']
  · have f1 := full_floor (n := a + 2 * topC cs) hc.le_top gmem ha.1 rfl
    have f2 := full_top (n := a + 2 * topC cs) hc.le_top gmem ha.1 rfl hd
    refine r_Paid (ev_var rfl) (ev_var rfl) (ev_var rfl) (e8 _ _ hlg) (e8 _ _ hlb) hlf fun x dx l1 l2 l3 H9 nx ndx n1 n2 n3 d1 d2 d3 e9 hP => ?_
    have e18 : Ex H H8 := (e14.trans e5).trans (e57.trans e8)
    exact qP hd G B _ { toLedOk := ok, toFloor := f1, top := f2 } x dx l1 l2 l3 H9 (fresh_back e18 nx) (fresh_back e18 ndx) (fresh_back e18 n1) (fresh_back e18 n2) (fresh_back e18 n3) d1 d2 d3 (e18.trans e9) hP
theorem RetN.ext {part : Int} {H1 : Hp} (q : RetN CN part H Q) (e : Ex H H1) : RetN CN part H1 Q := fun x dx H2 n1 n2 e2 hN => q x dx H2 (fresh_back e n1) (fresh_back e n2) (e.trans e2) hN
theorem RetP.ext {G B S : List Int} {H1 : Hp} (q : RetP CP G B S H Q) (e : Ex H H1) : RetP CP G B S H1 Q := fun x dx lg lb lh H2 n1 n2 n3 n4 n5 d1 d2 d3 e2 hP => q x dx lg lb lh H2 (fresh_back e n1) (fresh_back e n2) (fresh_back e n3) (fresh_back e n4) (fresh_back e n5) d1 d2 d3 (e.trans e2) hP
theorem pure_paid (h : sp_paid K CP CN vs H Q E) : t_paid K CP CN (endsOf Q) (start ["coins", "amount", "part", "heights", "give", "back", "full", "at", "height"] vs) H := by
  obtain ⟨p, cs, a, rfl, hp, hc, ha, qN, qP⟩ := h
  refine q_drop (ev_checkC (ev_var rfl) hp hc) fun H1 e1 => ?_
  have hp1 := e1 _ _ hp
  refine q_drop (ev_checkA (ev_var rfl) ev_c ha.1 (by omega)) fun H2 e2 => ?_
  exact paid_rest (e2 _ _ hp1) hc ha (fun nd => (qN nd).ext (e1.trans e2)) fun d G B S ok => (qP d G B S ok).ext (e1.trans e2)
end
end Cb

set_option Elab.async false
set_option linter.all false
set_option maxRecDepth 100000
set_option maxHeartbeats 4000000
/-! Promises and readings of the laws' helpers about answers. -/
namespace Cb
open PySem PySem.Spec PyProof.Rows L2 Evl Chg
def sp__law_whole (K : PySem.W.Frag) : Sp := sp_is_number K
def sp__law_says (K : PySem.W.Frag) : Sp := fun vs H Q _ => ∃ a b : Bool, vs = [.bl a, .bl b] ∧ RetV (.bl (decide (a = b))) H Q
def sp__law_floor (K : PySem.W.Frag) : Sp := sp_is_floor K
def sp__law_due (K : PySem.W.Frag) : Sp := fun vs H Q _ => ∃ (p lg lb lh : Addr) (cs G B S : List Int) (a : Int), vs = [.ref p, .int a, .ref lg, .ref lb, .ref lh] ∧ Il H p cs ∧ Il H lg G ∧ Il H lb B ∧ Il H lh S ∧ Coins cs ∧ (0 ≤ a ∧ a ≤ 5000) ∧ (G.length ≤ 15000 ∧ B.length ≤ 15000 ∧ S.length ≤ 30000) ∧ RetV (.bl (showB cs a G B S)) H Q
def sp__law_says_due (K : PySem.W.Frag) (CP CN : Addr) : Sp := fun vs H Q _ => ∃ (p x dx : Addr) (cs : List Int) (a : Int), vs = [.ref p, .int a, .ref x] ∧ Il H p cs ∧ Coins cs ∧ (0 ≤ a ∧ a ≤ 5000) ∧
  ((∃ (lg lb lh : Addr) (G B S : List Int), PaidAt CP H x dx lg lb lh G B S ∧ (G.length ≤ 15000 ∧ B.length ≤ 15000 ∧ S.length ≤ 30000) ∧ RetV (.bl (showB cs a G B S)) H Q) ∨ ∃ part, NeverAt CN H x dx part ∧ RetV (.bl (nevB cs a part)) H Q)
def t__law_whole (K : PySem.W.Frag) : TS :=
  (tRet (tAndV (tCB (rIsi K) (tCons (tVar 0) (tCons (tC (.ty "int")) tNil))) (tNotV (tCB (rIsi K) (tCons (tVar 0) (tCons (tC (.ty "bool")) tNil))))))
def t__law_says (K : PySem.W.Frag) : TS :=
  (tRet (tAndV (tCB (rIsi K) (tCons (tVar 0) (tCons (tC (.ty "bool")) tNil))) (tOp rEq (tVar 0) (tVar 1))))
def t__law_floor (K : PySem.W.Frag) : TS :=
  (tSeq (tAsg (tUn rNegI (tOp (rIxL K) (tVar 0) (tUn rNegI (tC (.int 1))))) (gName 3))
  (tSeq (tIfS (tOr (tTest (tOp rNe (tCB (rLenS K) (tCons (tVar 2) tNil)) (tOp rSubI (tVar 1) (tOp rMulI (tC (.int 2)) (tVar 3))))) (tTest (tOp rNe (tOp (rIxL K) (tVar 2) (tUn rNegI (tVar 3))) (tC (.int 0))))) (tRet (tC (.bl false))) tNext)
  (tSeq (tFor (iEnum K (tCons (tVar 2) tNil)) (gTup K 2 (gCons (gName 4) (gCons (gName 5) gNil))) (tFor (iList K (tVar 0)) (gName 6) (tIfS (tAnd (tTest (tOp rLtI (tOp rAddI (tVar 4) (tVar 6)) (tCB (rLenS K) (tCons (tVar 2) tNil)))) (tTest (tOp rGtI (tCB rAbsI (tCons (tOp rSubI (tOp (rIxL K) (tVar 2) (tOp rAddI (tVar 4) (tVar 6))) (tVar 5)) tNil)) (tC (.int 1))))) (tRet (tC (.bl false))) tNext)))
  (tRet (tC (.bl true))))))
def t__law_due (K : PySem.W.Frag) : TS :=
  (tSeq (tIfS (tOr (tTest (tOp rNe (tCB (rLenS K) (tCons (tVar 2) tNil)) (tCB (rLenS K) (tCons (tVar 0) tNil)))) (tOr (tTest (tOp rNe (tCB (rLenS K) (tCons (tVar 3) tNil)) (tCB (rLenS K) (tCons (tVar 0) tNil)))) (tB (tCB (rAny K) (tCons (tLc (iList K (tOp rCat (tVar 2) (tVar 3))) (gName 5) tYes (tOp rLtI (tVar 5) (tC (.int 0))) [5]) tNil))))) (tRet (tC (.bl false))) tNext)
  (tSeq (tAsg (tCB (rSum K) (tCons (tLc (iZip K (tCons (tVar 2) (tCons (tVar 0) tNil))) (gTup K 2 (gCons (gName 5) (gCons (gName 7) gNil))) tYes (tOp rMulI (tVar 5) (tVar 7)) [5, 7]) tNil)) (gName 6))
  (tSeq (tAsg (tCB (rSum K) (tCons (tLc (iZip K (tCons (tVar 3) (tCons (tVar 0) tNil))) (gTup K 2 (gCons (gName 5) (gCons (gName 7) gNil))) tYes (tOp rMulI (tVar 5) (tVar 7)) [5, 7]) tNil)) (gName 8))
  (tSeq (tIfS (tOr (tTest (tOp rNe (tOp rSubI (tVar 6) (tVar 8)) (tVar 1))) (tNot (tB (tCall (sp__law_floor K) [] E0 (tCons (tVar 0) (tCons (tVar 1) (tCons (tVar 4) tNil))))))) (tRet (tC (.bl false))) tNext)
  (tRet (tOp rEq (tOp (rIxL K) (tVar 4) (tOp rAddI (tOp (rIxL K) (tVar 0) (tUn rNegI (tC (.int 1)))) (tVar 1))) (tOp rAddI (tCB (rSum K) (tCons (tVar 2) tNil)) (tCB (rSum K) (tCons (tVar 3) tNil)))))))))
def t__law_says_due (K : PySem.W.Frag) (CN : Addr) : TS :=
  (tSeq (tIfS (tB (tCB (rIsi K) (tCons (tVar 2) (tCons (tC (.ref CN)) tNil)))) (tRet (tAndV (tOp rGtI (tFld K (tVar 2) "part") (tC (.int 1))) (tAndV (tOp rGtI (tOp rModI (tVar 1) (tFld K (tVar 2) "part")) (tC (.int 0))) (tCB (rAll K) (tCons (tLc (iList K (tVar 0)) (gName 3) tYes (tOp rEq (tOp rModI (tVar 3) (tFld K (tVar 2) "part")) (tC (.int 0))) [3]) tNil))))) tNext)
  (tRet (tCall (sp__law_due K) [] E0 (tCons (tVar 0) (tCons (tVar 1) (tCons (tFld K (tVar 2) "give") (tCons (tFld K (tVar 2) "back") (tCons (tFld K (tVar 2) "heights") tNil))))))))
end Cb

set_option Elab.async false
set_option linter.all false
set_option maxRecDepth 100000
set_option maxHeartbeats 4000000
/-! The laws' helpers about answers. -/
namespace Cb
open PySem PySem.Spec PyProof.Rows L2 Evl Chg
/-! ### data -/
mutual
theorem dp_mono {K : PySem.W.Frag} {H H' : Hp} (e : Ex H H') : ∀ (d : PyData) (v : V), Dp K H v d → Dp K H' v d
  | .none, _, h => by cases h; exact .non
  | .bool b, _, h => by cases h; exact .bl b
  | .int i, _, h => by cases h; exact .int i
  | .str x, _, h => by cases h; exact .str x
  | .list ds, _, h => by
    cases h with
    | lst hs ha => exact .lst (ex_l e hs) (dpAll_mono e ds _ ha)
  | .tuple ds, _, h => by
    cases h with
    | tup hs ha => exact .tup (ex_t e hs) (dpAll_mono e ds _ ha)
  | .dict _, _, h => by cases h
theorem dpAll_mono {K : PySem.W.Frag} {H H' : Hp} (e : Ex H H') : ∀ (ds : List PyData) (vs : List V), DpAll K H vs ds → DpAll K H' vs ds
  | [], _, h => by cases h; exact .nil
  | d :: ds, _, h => by
    cases h with
    | cons h1 h2 => exact .cons (dp_mono e d _ h1) (dpAll_mono e ds _ h2)
end
def EvD (K : PySem.W.Frag) (te : TE) (σ : L2.St) (H : Hp) (d : PyData) : Prop := ∀ H1, Ex H H1 → ∀ Q : VK, (∀ v H2, Ex H1 H2 → Dp K H2 v d → Q v H2) → te σ H1 Q
def EvDA (K : PySem.W.Frag) (ta : TA) (σ : L2.St) (H : Hp) (ds : List PyData) : Prop := ∀ H1, Ex H H1 → ∀ Q : List V → Hp → Prop, (∀ vs H2, Ex H1 H2 → DpAll K H2 vs ds → vs.length = ds.length → Q vs H2) → ta σ H1 Q
section
variable {K : PySem.W.Frag} {σ : L2.St} {H : Hp} {ta tb te : TE}
theorem EvD.mono {H' : Hp} {d : PyData} (h : EvD K te σ H d) (e : Ex H H') : EvD K te σ H' d := fun H1 a Q q => h H1 (e.trans a) Q q
theorem ed_int {i : Int} (h : Ev te σ H (.int i)) : EvD K te σ H (.int i) := fun H1 e Q q => h H1 e _ fun H2 e2 => q _ H2 e2 (.int i)
theorem ed_bl {b : Bool} (h : Ev te σ H (.bl b)) : EvD K te σ H (.bool b) := fun H1 e Q q => h H1 e _ fun H2 e2 => q _ H2 e2 (.bl b)
theorem ed_at {p : Addr} {d : PyData} (h : Ev te σ H (.ref p)) (hd : Dp K H (.ref p) d) : EvD K te σ H d := fun H1 e Q q => h H1 e _ fun H2 e2 => q _ H2 e2 (dp_mono (e.trans e2) d _ hd)
theorem ed_list {p : Addr} {ns : List Int} (h : Ev te σ H (.ref p)) (hp : SqL K H p (ns.map V.int)) : EvD K te σ H (.list (ns.map PyData.int)) := ed_at h (dp_ints hp)
theorem ed_new {ns : List Int} (h : EvL te σ H (ns.map V.int)) : EvD K te σ H (.list (ns.map PyData.int)) := fun H1 e Q q => h H1 e _ fun p H2 _ e2 hp => q _ H2 e2 (dp_ints (sq_of hp))
theorem eda_nil : EvDA K tNil σ H [] := fun H1 _ Q q => q [] H1 (Ex.refl H1) .nil rfl
theorem eda_cons {tr : TA} {d : PyData} {ds : List PyData} (h : EvD K te σ H d) (hr : EvDA K tr σ H ds) : EvDA K (tCons te tr) σ H (d :: ds) := fun H1 e Q q =>
  h H1 e _ fun v H2 e2 hv => hr H2 (e.trans e2) _ fun vs H3 e3 hvs hl => q (v :: vs) H3 (e2.trans e3) (.cons (dp_mono e3 d _ hv) hvs) (by simp [hl])
theorem ed_lst {t : TA} {ds : List PyData} (h : EvDA K t σ H ds) (hl : ds.length ≤ 1000) : EvD K (tLst t) σ H (.list ds) := fun H1 e Q q =>
  h H1 e _ fun vs H2 e2 hvs hvl => ⟨sz_of (by omega), fun p hp => q _ _ (e2.trans (Ex.new hp)) (.lst (sq_of upd_same) (dpAll_mono (Ex.new hp) ds vs hvs))⟩
theorem ed_tup {t : TA} {ds : List PyData} (h : EvDA K t σ H ds) (hl : ds.length ≤ 1000) : EvD K (tTup t) σ H (.tuple ds) := fun H1 e Q q =>
  h H1 e _ fun vs H2 e2 hvs hvl => ⟨sz_of (by omega), fun p hp => q _ _ (e2.trans (Ex.new hp)) (.tup (st_of upd_same) (dpAll_mono (Ex.new hp) ds vs hvs))⟩
theorem ev_neD {d e : PyData} (ha : EvD K ta σ H d) (hb : EvD K tb σ H e) (sd : SeqAt.shaped d = true) (se : SeqAt.shaped e = true) : Ev (tOp (rNeD K) ta tb) σ H (.bl (!PyData.eqv d e)) := fun H1 e1 Q q =>
  ha H1 e1 _ fun v H2 e2 hv => hb H2 (e1.trans e2) _ fun u H3 e3 hu => ⟨d, e, dp_mono e3 d _ hv, hu, sd, se, q H3 (e2.trans e3)⟩
theorem ev_eqD {d e : PyData} (ha : EvD K ta σ H d) (hb : EvD K tb σ H e) (sd : SeqAt.shaped d = true) (se : SeqAt.shaped e = true) : Ev (tOp (rEqD K) ta tb) σ H (.bl (PyData.eqv d e)) := fun H1 e1 Q q =>
  ha H1 e1 _ fun v H2 e2 hv => hb H2 (e1.trans e2) _ fun u H3 e3 hu => ⟨d, e, dp_mono e3 d _ hv, hu, sd, se, q H3 (e2.trans e3)⟩
end
/-! ### gaps -/
theorem gapB_iff {S : List Int} {w : Int} (hw : 0 ≤ w) : gapB S w = true ↔ ∃ i : Int, 0 ≤ i ∧ i + w < S.length ∧ 1 < absI (ent S i - ent S (i + w)) := by
  unfold gapB
  rw [List.any_eq_true]
  refine ⟨fun ⟨b, hb, e⟩ => ?_, fun ⟨i, h0, h1, h2⟩ => ?_⟩
  · obtain ⟨n, hn, rfl⟩ := List.mem_iff_getElem.mp hb
    rw [List.length_zipWith, List.length_drop] at hn
    rw [List.getElem_zipWith, List.getElem_drop] at e
    have e' := of_decide_eq_true e
    refine ⟨(n : Int), by omega, by omega, ?_⟩
    have a1 : ent S (n : Int) = S[n]'(by omega) := by
      unfold ent
      rw [Int.toNat_natCast, List.getD_eq_getElem?_getD, List.getElem?_eq_getElem (by omega)]; rfl
    have a2 : ent S ((n : Int) + w) = S[w.toNat + n]'(by omega) := by
      unfold ent
      rw [show ((n : Int) + w).toNat = w.toNat + n by omega, List.getD_eq_getElem?_getD, List.getElem?_eq_getElem (by omega)]; rfl
    rw [a1, a2]
    exact e'
  · have hl : i.toNat < (List.zipWith (fun a b : Int => decide (1 < absI (a - b))) S (S.drop w.toNat)).length := by
      rw [List.length_zipWith, List.length_drop]; omega
    refine ⟨_, List.getElem_mem hl, ?_⟩
    rw [List.getElem_zipWith, List.getElem_drop]
    have a1 : ent S i = S[i.toNat]'(by omega) := by
      unfold ent
      rw [List.getD_eq_getElem?_getD, List.getElem?_eq_getElem (by omega)]; rfl
    have a2 : ent S (i + w) = S[w.toNat + i.toNat]'(by omega) := by
      unfold ent
      rw [show (i + w).toNat = w.toNat + i.toNat by omega, List.getD_eq_getElem?_getD, List.getElem?_eq_getElem (by omega)]; rfl
    rw [a1, a2] at h2
    exact decide_eq_true h2
theorem absI_comm (a b : Int) : absI (a - b) = absI (b - a) := by
  unfold absI
  split <;> split <;> omega
/-- floorB says Floor -/
theorem floorB_iff {cs : List Int} {a : Int} {S : List Int} (hc : Coins cs) : floorB cs a S = true ↔ Floor cs (topC cs) a S := by
  unfold floorB
  rw [Bool.and_eq_true, Bool.and_eq_true, decide_eq_true_eq, decide_eq_true_eq, List.all_eq_true]
  refine ⟨fun ⟨⟨h1, h2⟩, h3⟩ => ⟨h1, h2, fun w hw i h0 hi => ?_⟩, fun h => ⟨⟨h.len, h.zero⟩, fun w hw => ?_⟩⟩
  · have hg := h3 w hw
    have w0 := hc.wor w hw
    by_cases q : 1 < absI (ent S i - ent S (i + w))
    · have := (gapB_iff (by omega)).mpr ⟨i, h0, hi, q⟩
      rw [this] at hg; cases hg
    · unfold absI at q
      split at q <;> omega
  · have w0 := hc.wor w hw
    have : ¬ gapB S w = true := fun z => by
      obtain ⟨i, h0, h1, h2⟩ := (gapB_iff (by omega)).mp z
      have := h.near w hw i h0 h1
      unfold absI at h2
      split at h2 <;> omega
    simpa using this
section
variable {K : PySem.W.Frag} {mg : Str → Option Value} {CA CP CN : Addr} {vs : List V} {H : Hp} {Q : VK} {E : XK}
theorem len__law_whole (h : sp__law_whole K vs H Q E) : vs.length = (["_law_found"] : List Str).length := by
  obtain ⟨v, T, b1, b2, rfl, _⟩ := h
  rfl
theorem pure__law_whole (h : sp__law_whole K vs H Q E) : t__law_whole K (endsOf Q) (start ["_law_found"] vs) H := by
  obtain ⟨v, T, b1, b2, rfl, ty, e1, e2, q⟩ := h
  refine s_ret (v := .bl (b1 && !b2)) ?_ fun H1 e => q H1 e
  exact ev_andV (ev_isi (ev_var rfl) ty e1) fun _ => ev_notV (ev_isi (ev_var rfl) ty e2)
theorem ev_whole {σ : L2.St} {te : TE} {i : Int} (h : Ev te σ H (.int i)) : Ev (tCall (sp__law_whole K) [] E (tCons te tNil)) σ H (.bl true) :=
  ev_callV (ea_cons h ea_nil) fun H1 _ Q q => is_int q
theorem len__law_says (h : sp__law_says K vs H Q E) : vs.length = (["_law_said", "_law_due_here"] : List Str).length := by
  obtain ⟨a, b, rfl, _⟩ := h
  rfl
theorem pure__law_says (h : sp__law_says K vs H Q E) : t__law_says K (endsOf Q) (start ["_law_said", "_law_due_here"] vs) H := by
  obtain ⟨a, b, rfl, q⟩ := h
  refine s_ret (v := .bl (decide (a = b))) ?_ fun H1 e => q H1 e
  refine ev_eq (ev_andV (a := true) (b := decide (a = b)) (ev_isi (T := "bool") (ev_var rfl) (fun _ _ => .base (.bl a)) (by decide +kernel)) fun _ => ev_eq (ev_op (ev_var rfl) (ev_var rfl) (rv_eq (x := .bl a) (y := .bl b) rfl)) ?_) (by rw [Bool.true_and])
  cases a <;> cases b <;> rfl
theorem ev_says {σ : L2.St} {ta tb : TE} {a b : Bool} (h : Ev ta σ H (.bl a)) (h2 : Ev tb σ H (.bl b)) : Ev (tCall (sp__law_says K) [] E (tCons ta (tCons tb tNil))) σ H (.bl (decide (a = b))) :=
  ev_callV (ea_cons h (ea_cons h2 ea_nil)) fun H1 _ Q q => ⟨a, b, rfl, q⟩
theorem len__law_floor (h : sp__law_floor K vs H Q E) : vs.length = (["_law_coins_here", "_law_amount", "_law_heights"] : List Str).length := by
  obtain ⟨p, hh, cs, S, a, rfl, _⟩ := h
  rfl
theorem pure__law_floor (h : sp__law_floor K vs H Q E) : t__law_floor K (endsOf Q) (start ["_law_coins_here", "_law_amount", "_law_heights", "_law_first", "_law_at", "_law_height", "_law_worth"] vs) H := by
  obtain ⟨p, hh, cs, S, a, rfl, hp, hS, hc, ha, hl, q⟩ := h
  have ht := hc.top
  refine q_asg (ev_neg (ev_ixL (ev_var rfl) ev_m1 (sq_of hp) (topC_at hc.ne))) fun H1 e1 => ?_
  have hp1 := e1 _ _ hp
  have hS1 := e1 _ _ hS
  refine q_when (b := decide ((S.length : Int) ≠ a - 2 * -topC cs) || decide (ent S (- -topC cs) ≠ 0)) (et_or (et_test (ev_eq (ev_neI (ev_len (ev_var rfl) (sq_of hS1)) (ev_sub (ev_var rfl) (ev_mul ev_c (ev_var rfl) (small_mul (by omega))))) (by rw [List.length_map]))) fun hf => et_test (ev_neI (ev_ixL (ev_var rfl) (ev_neg (ev_var rfl)) (sq_of hS1) (atI_int (by omega) (by simp at hf; omega))) ev_c)) (fun hb H2 e2 => ?_) fun hb H2 e2 => ?_
  · refine s_ret ev_c fun H3 e3 => ?_
    have : floorB cs a S = false := by
      unfold floorB
      rw [show a - 2 * -topC cs = a + 2 * topC cs by omega, Int.neg_neg] at hb
      by_cases h1 : (S.length : Int) = a + 2 * topC cs
      · by_cases h2 : ent S (topC cs) = 0
        · simp [h1, h2] at hb
        · simp [h2]
      · simp [h1]
    rw [this] at q
    exact q H3 ((e1.trans e2).trans e3)
  rw [show a - 2 * -topC cs = a + 2 * topC cs by omega, Int.neg_neg] at hb
  have hb' : (S.length : Int) = a + 2 * topC cs ∧ ent S (topC cs) = 0 := by simpa using hb
  have e12 := e1.trans e2
  refine q_forEn (xs := S.map V.int) (ev_var rfl) (sq_of (e2 _ _ hS1)) (fun n σ' H' => Ex H H' ∧ (∀ w ∈ cs, ∀ i : Int, 0 ≤ i → i < n → i + w < S.length → ¬ 1 < absI (ent S i - ent S (i + w))) ∧ ∃ y4 y5 y6 : Option V, σ' = [some (.ref p), some (.int a), some (.ref hh), some (.int (-topC cs)), y4, y5, y6])
    (fun H3 e3 => ⟨e12.trans e3, fun w hw i h0 h1 => by omega, _, _, _, rfl⟩) (fun n σ' H' _ hP => sq_of (hP.1 _ _ hS)) (fun n x σ' H' H'' hx hP e3 => ?_) fun σ' H' hP => ?_
  · obtain ⟨e4, hall, y4, y5, y6, rfl⟩ := hP
    obtain ⟨hgt, hh', rfl⟩ := get_int hx
    have hn : n < S.length := (List.getElem?_eq_some_iff.mp hh').1
    have ehgt : hgt = ent S (n : Int) := by
      unfold ent
      rw [Int.toNat_natCast, List.getD_eq_getElem?_getD, hh']; rfl
    have ex := e4.trans e3
    refine s_forLn (xs := cs.map V.int) (ev_var rfl) (sq_of (ex _ _ hp)) (fun k σ2 H2 => Ex H H2 ∧ (∀ w ∈ cs.take k, (n : Int) + w < S.length → ¬ 1 < absI (ent S (n : Int) - ent S ((n : Int) + w))) ∧ ∃ y6 : Option V, σ2 = [some (.ref p), some (.int a), some (.ref hh), some (.int (-topC cs)), some (.int (n : Int)), some (.int hgt), y6])
      (fun H5 e5 => ⟨ex.trans e5, by simp, _, rfl⟩) (fun k σ2 H2 _ hP => sq_of (hP.1 _ _ hp)) (fun k x σ2 H2 hx2 hP => ?_) fun σ2 H2 hP => ?_
    · obtain ⟨e5, hk, y6, rfl⟩ := hP
      obtain ⟨w, hw, rfl⟩ := get_int hx2
      have w0 := hc.wor w (List.mem_of_getElem? hw)
      have hS5 := e5 _ _ hS
      refine s_when (b := decide ((n : Int) + w < S.length) && decide (1 < absI (ent S ((n : Int) + w) - hgt))) (et_and (et_test (ev_eq (ev_cmp (p := fun i j => decide (i < j)) (ev_add (ev_var rfl) (ev_var rfl)) (ev_len (ev_var rfl) (sq_of hS5))) (by rw [List.length_map]))) fun hf => et_test (ev_cmp (p := fun i j => decide (j < i)) (ev_abs (ev_sub (ev_ixL (ev_var rfl) (ev_add (ev_var rfl) (ev_var rfl)) (sq_of hS5) (atI_int (by omega) (of_decide_eq_true hf))) (ev_var rfl))) ev_c)) (fun hb2 H6 e6 => ?_) fun hb2 H6 e6 => ?_
      · rw [Bool.and_eq_true, decide_eq_true_eq, decide_eq_true_eq, ehgt, absI_comm] at hb2
        have : floorB cs a S = false := by
          rw [Bool.eq_false_iff]
          intro hx3
          have := ((floorB_iff hc).mp hx3).near w (List.mem_of_getElem? hw) n (by omega) hb2.1
          have hb3 := hb2.2
          unfold absI at hb3
          split at hb3 <;> omega
        rw [this] at q
        exact s_ret ev_c fun H7 e7 => q H7 ((e5.trans e6).trans e7)
      · refine ⟨e5.trans e6, fun w' hw' hlt => ?_, _, rfl⟩
        rcases mem_take_succ hw hw' with z | z
        · exact hk w' z hlt
        · subst z
          rw [decide_eq_true hlt, Bool.true_and, decide_eq_false_iff_not, ehgt, absI_comm] at hb2
          exact hb2
    · obtain ⟨e5, hk, y6, rfl⟩ := hP
      refine ⟨e5, fun w hw i h0 h1 h2 => ?_, _, _, _, rfl⟩
      rw [List.length_map, List.take_length] at hk
      by_cases hin : i = n
      · subst hin
        exact hk w hw h2
      · exact hall w hw i h0 (by omega) h2
  · obtain ⟨e4, hall, y4, y5, y6, rfl⟩ := hP
    rw [List.length_map] at hall
    have : floorB cs a S = true := (floorB_iff hc).mpr ⟨hb'.1, hb'.2, fun w hw i h0 h1 => by
      have := hc.wor w hw
      have := hall w hw i h0 (by omega) h1
      unfold absI at this
      split at this <;> omega⟩
    rw [this] at q
    exact s_ret ev_c fun H3 e3 => q H3 (e4.trans e3)
end
end Cb

set_option Elab.async false
set_option linter.all false
set_option maxRecDepth 100000
set_option maxHeartbeats 4000000
/-! _law_due, _law_says_due; paid called. -/
namespace Cb
open PySem PySem.Spec PyProof.Rows L2 Evl Chg
section
variable {K : PySem.W.Frag} {mg : Str → Option Value} {CA CP CN : Addr} {vs : List V} {H : Hp} {Q : VK} {E : XK}
/-- xs + ys -/
theorem el_cat {σ : L2.St} {ta tb : TE} {a b : Addr} {xs ys : List V} (h1 : Ev ta σ H (.ref a)) (h2 : Ev tb σ H (.ref b)) (ha : H a = some (.lst xs)) (hb : H b = some (.lst ys)) (hl : xs.length + ys.length ≤ 100000) : EvL (tOp rCat ta tb) σ H (xs ++ ys) := fun H1 e Q q =>
  h1 H1 e _ fun H2 e2 => h2 H2 (e.trans e2) _ fun H3 e3 => ⟨a, b, xs, ys, rfl, rfl, e3 _ _ (e2 _ _ (e _ _ ha)), e3 _ _ (e2 _ _ (e _ _ hb)), sz_of hl, fun p hp => q p _ (fresh_back (e2.trans e3) hp) ((e2.trans e3).trans (Ex.new hp)) upd_same⟩
/-- both, or one, made on the spot -/
theorem el_catLL {σ : L2.St} {ta tb : TE} {xs ys : List V} (h1 : EvL ta σ H xs) (h2 : EvL tb σ H ys) (hl : xs.length + ys.length ≤ 100000) : EvL (tOp rCat ta tb) σ H (xs ++ ys) := fun H1 e Q q =>
  h1 H1 e _ fun a H2 _ e2 ha => h2 H2 (e.trans e2) _ fun b H3 _ e3 hb => ⟨a, b, xs, ys, rfl, rfl, e3 _ _ ha, hb, sz_of hl, fun p hp => q p _ (fresh_back (e2.trans e3) hp) ((e2.trans e3).trans (Ex.new hp)) upd_same⟩
theorem el_catVL {σ : L2.St} {ta tb : TE} {a : Addr} {xs ys : List V} (h1 : Ev ta σ H (.ref a)) (h2 : EvL tb σ H ys) (ha : H a = some (.lst xs)) (hl : xs.length + ys.length ≤ 100000) : EvL (tOp rCat ta tb) σ H (xs ++ ys) := fun H1 e Q q =>
  h1 H1 e _ fun H2 e2 => h2 H2 (e.trans e2) _ fun b H3 _ e3 hb => ⟨a, b, xs, ys, rfl, rfl, e3 _ _ (e2 _ _ (e _ _ ha)), hb, sz_of hl, fun p hp => q p _ (fresh_back (e2.trans e3) hp) ((e2.trans e3).trans (Ex.new hp)) upd_same⟩
/-- a comprehension over a list made on the spot -/
theorem el_lcNY {σ : L2.St} {te tl : TE} {xs : List V} {j : Nat} {vs : List Nat} (f : V → V) (h : EvL tl σ H xs) (hz : xs.length ≤ 40000) (hw : ∀ x, wipe ((wipe σ vs).set j (some x)) vs = wipe σ vs)
    (he : ∀ (x : V) H1, x ∈ xs → Ex H H1 → Ev te ((wipe σ vs).set j (some x)) H1 (f x)) : EvL (tLc (iList K tl) (gName j) tYes te vs) σ H (xs.map f) := by
  refine el_eq (el_lcNL (K := K) (t := tYes) (fun _ => true) (fun i => f (xs.getD i .non)) h hz hw (fun i x H1 _ _ => fun H1 _ Q q => q H1 (Ex.refl H1)) (fun i x H1 e hi _ => ?_)) (by rw [given_all, range_map_get xs f .non])
  have : xs.getD i .non = x := by rw [List.getD_eq_getElem?_getD, hi]; rfl
  rw [this]
  exact he x H1 (List.mem_of_getElem? hi) e
theorem len__law_due (h : sp__law_due K vs H Q E) : vs.length = (["_law_coins_here", "_law_amount", "_law_give", "_law_back", "_law_heights"] : List Str).length := by
  obtain ⟨p, lg, lb, lh, cs, G, B, S, a, rfl, _⟩ := h
  rfl
theorem any_neg (G B : List Int) : ((G ++ B).map fun x => decide (x < 0)).any id = !((G.map fun x => decide (0 ≤ x)).all id && (B.map fun x => decide (0 ≤ x)).all id) := by
  rw [← List.all_append, ← List.map_append, List.any_map, List.all_map]
  induction G ++ B with
  | nil => rfl
  | cons x r ih =>
    rw [List.any_cons, List.all_cons, ih]
    simp only [Function.comp, id]
    by_cases h : x < 0
    · rw [decide_eq_true h, decide_eq_false (show ¬ 0 ≤ x by omega)]; simp
    · rw [decide_eq_false h, decide_eq_true (show 0 ≤ x by omega)]; simp
theorem ev_dot {σ : L2.St} {ta tb : TE} {a b : Addr} {G cs : List Int} {i j : Nat} {vs : List Nat} (h1 : Ev ta σ H (.ref a)) (h2 : Ev tb σ H (.ref b)) (ha : Il H a G) (hb : Il H b cs) (hl : G.length ≤ 30000) (hc : Coins cs) (hw : ∀ x y, wipe (((wipe σ vs).set i (some x)).set j (some y)) vs = wipe σ vs)
    (e1 : ∀ x y H1, Ev (tVar i) (((wipe σ vs).set i (some x)).set j (some y)) H1 x) (e2 : ∀ x y H1, Ev (tVar j) (((wipe σ vs).set i (some x)).set j (some y)) H1 y) :
    Ev (tCB (rSum K) (tCons (tLc (iZip K (tCons ta (tCons tb tNil))) (gTup K 2 (gCons (gName i) (gCons (gName j) gNil))) tYes (tOp rMulI (tVar i) (tVar j)) vs) tNil)) σ H (.int (dot G cs)) :=
  ev_sumL (ns := List.zipWith (fun x y => x * y) G cs) (el_eq (el_zipI (fun x y => .int (x * y)) h1 h2 (sq_of ha) (sq_of hb) (by omega) hw fun x y H1 hx hy e => by
    have := hc.wor y hy
    exact ev_mul (e1 _ _ _) (e2 _ _ _) (small_mul (by omega))) (by rw [List.map_zipWith]))
theorem pure__law_due (h : sp__law_due K vs H Q E) : t__law_due K (endsOf Q) (start ["_law_coins_here", "_law_amount", "_law_give", "_law_back", "_law_heights", "_law_one", "_law_there", "_law_worth", "_law_here"] vs) H := by
  obtain ⟨p, lg, lb, lh, cs, G, B, S, a, rfl, hp, hG, hB, hS, hc, ha, hl, q⟩ := h
  have ht := hc.top
  have nd : ∀ a b : Nat, decide ((a : Int) ≠ (b : Int)) = decide (a ≠ b) := fun a b => by
    by_cases h : a = b
    · subst h; simp
    · rw [decide_eq_true h, decide_eq_true (by omega)]
  refine q_when (b := !(areB G cs && areB B cs)) ?_ (fun hb H1 e1 => ?_) fun hb H1 e1 => ?_
  · refine et_is (et_or (a := decide (G.length ≠ cs.length)) (et_test (ev_eq (ev_neI (ev_len (ev_var rfl) (sq_of hG)) (ev_len (ev_var rfl) (sq_of hp))) (by rw [List.length_map, List.length_map, nd]))) fun _ => et_or (a := decide (B.length ≠ cs.length)) (et_test (ev_eq (ev_neI (ev_len (ev_var rfl) (sq_of hB)) (ev_len (ev_var rfl) (sq_of hp))) (by rw [List.length_map, List.length_map, nd]))) fun _ => et_B (ev_anyL (bs := (G ++ B).map fun x => decide (x < 0)) ?_)) ?_
    · refine el_eq (el_lcNY (xs := (G ++ B).map V.int) (fun x => match x with | .int w => .bl (decide (w < 0)) | _ => .non) (el_eq (el_cat (ev_var rfl) (ev_var rfl) hG hB (by rw [List.length_map, List.length_map]; omega)) (by rw [List.map_append])) (by rw [List.length_map, List.length_append]; omega) (fun _ => rfl) fun x H1 hx e1 => ?_) (by rw [List.map_map, List.map_map]; rfl)
      obtain ⟨w, _, rfl⟩ := List.mem_map.mp hx
      exact ev_cmp (p := fun i j => decide (i < j)) (ev_var rfl) ev_c
    · rw [any_neg]
      unfold areB
      by_cases h1 : G.length = cs.length <;> by_cases h2 : B.length = cs.length <;> simp [h1, h2]
  · have hb' : (areB G cs && areB B cs) = false := by
      cases hx : (areB G cs && areB B cs) with
      | false => rfl
      | true => rw [hx] at hb; cases hb
    have : showB cs a G B S = false := by
      unfold showB
      rw [hb']; simp
    rw [this] at q
    exact s_ret ev_c fun H2 e2 => q H2 (e1.trans e2)
  have hb' : (areB G cs && areB B cs) = true := by
    cases hx : (areB G cs && areB B cs) with
    | true => rfl
    | false => rw [hx] at hb; cases hb
  have hsh : showB cs a G B S = (decide (dot G cs - dot B cs = a) && (floorB cs a S && decide (ent S (topC cs + a) = G.sum + B.sum))) := by
    unfold showB
    rw [hb']; simp
  rw [hsh] at q
  refine q_asg (ev_dot (ev_var rfl) (ev_var rfl) (e1 _ _ hG) (e1 _ _ hp) (by omega) hc (fun _ _ => rfl) (fun _ _ _ => ev_var rfl) (fun _ _ _ => ev_var rfl)) fun H2 e2 => ?_
  have e12 := e1.trans e2
  refine q_asg (ev_dot (ev_var rfl) (ev_var rfl) (e12 _ _ hB) (e12 _ _ hp) (by omega) hc (fun _ _ => rfl) (fun _ _ _ => ev_var rfl) (fun _ _ _ => ev_var rfl)) fun H3 e3 => ?_
  have e13 := e12.trans e3
  refine q_when (b := decide (dot G cs - dot B cs ≠ a) || !floorB cs a S) (et_or (et_test (ev_neI (ev_sub (ev_var rfl) (ev_var rfl)) (ev_var rfl))) fun _ => et_not (et_B (ev_callV (ea_cons (ev_var rfl) (ea_cons (ev_var rfl) (ea_cons (ev_var rfl) ea_nil))) fun H4 e4 Q' q' => ⟨p, lh, cs, S, a, rfl, e4 _ _ (e13 _ _ hp), e4 _ _ (e13 _ _ hS), hc, ha, hl.2.2, q'⟩))) (fun hf H4 e4 => ?_) fun hf H4 e4 => ?_
  · have : (decide (dot G cs - dot B cs = a) && (floorB cs a S && decide (ent S (topC cs + a) = G.sum + B.sum))) = false := by
      by_cases h1 : dot G cs - dot B cs = a
      · rw [decide_eq_false (by simpa using h1), Bool.false_or] at hf
        have : floorB cs a S = false := by simpa using hf
        rw [this]; simp
      · rw [decide_eq_false h1]; simp
    rw [this] at q
    exact s_ret ev_c fun H5 e5 => q H5 ((e13.trans e4).trans e5)
  rw [Bool.or_eq_false_iff] at hf
  have h1 : dot G cs - dot B cs = a := by simpa using hf.1
  have h2 : floorB cs a S = true := by simpa using hf.2
  rw [decide_eq_true h1, h2, Bool.true_and, Bool.true_and] at q
  have hlen := ((floorB_iff hc).mp h2).len
  have e14 := e13.trans e4
  exact s_ret (ev_eqI (ev_ixL (ev_var rfl) (ev_add (ev_ixL (ev_var rfl) ev_m1 (sq_of (e14 _ _ hp)) (topC_at hc.ne)) (ev_var rfl)) (sq_of (e14 _ _ hS)) (atI_int (by omega) (by omega))) (ev_add (ev_sumV (ev_var rfl) (sq_of (e14 _ _ hG))) (ev_sumV (ev_var rfl) (sq_of (e14 _ _ hB))))) fun H5 e5 => q H5 (e14.trans e5)
theorem len__law_says_due (h : sp__law_says_due K CP CN vs H Q E) : vs.length = (["_law_coins_here", "_law_amount", "_law_found"] : List Str).length := by
  obtain ⟨p, x, dx, cs, a, rfl, _⟩ := h
  rfl
/-- isinstance of an own instance -/
theorem ev_isO {σ : L2.St} {te : TE} {x C D dx : Addr} {fs : List (Str × V)} {b : Bool} (h : Ev te σ H (.ref x)) (hx : H x = some (.ins C dx fs)) (cl : Cls K C) (i : IsiT K C) (k : PySem.W.kitOne K (.ref C) (.ref D) = some b) : Ev (tCB (rIsi K) (tCons te (tCons (tC (.ref D)) tNil))) σ H (.bl b) := fun H1 e Q q =>
  h H1 e _ fun H2 e2 => ⟨.ref x, .ref D, .ref C, .ref D, b, rfl, ClsV.own D, .base (.ins (e2 _ _ (e _ _ hx)) cl i.ha i.hn i.htk i.hm), k, q H2 e2⟩
section
variable {σ : L2.St} {te : TE} {x dx lg lb lh : Addr} {G B S : List Int} {part : Int}
theorem is_PA (T : Kls K mg CA CP CN) (h : Ev te σ H (.ref x)) (p : PaidAt CP H x dx lg lb lh G B S) : Ev (tCB (rIsi K) (tCons te (tCons (tC (.ref CA)) tNil))) σ H (.bl true) := ev_isO h p.ob T.clP T.iP T.kPA
theorem is_PP (T : Kls K mg CA CP CN) (h : Ev te σ H (.ref x)) (p : PaidAt CP H x dx lg lb lh G B S) : Ev (tCB (rIsi K) (tCons te (tCons (tC (.ref CP)) tNil))) σ H (.bl true) := ev_isO h p.ob T.clP T.iP T.kPP
theorem is_PN (T : Kls K mg CA CP CN) (h : Ev te σ H (.ref x)) (p : PaidAt CP H x dx lg lb lh G B S) : Ev (tCB (rIsi K) (tCons te (tCons (tC (.ref CN)) tNil))) σ H (.bl false) := ev_isO h p.ob T.clP T.iP T.kPN
theorem is_NA (T : Kls K mg CA CP CN) (h : Ev te σ H (.ref x)) (p : NeverAt CN H x dx part) : Ev (tCB (rIsi K) (tCons te (tCons (tC (.ref CA)) tNil))) σ H (.bl true) := ev_isO h p T.clN T.iN T.kNA
theorem is_NP (T : Kls K mg CA CP CN) (h : Ev te σ H (.ref x)) (p : NeverAt CN H x dx part) : Ev (tCB (rIsi K) (tCons te (tCons (tC (.ref CP)) tNil))) σ H (.bl false) := ev_isO h p T.clN T.iN T.kNP
theorem is_NN (T : Kls K mg CA CP CN) (h : Ev te σ H (.ref x)) (p : NeverAt CN H x dx part) : Ev (tCB (rIsi K) (tCons te (tCons (tC (.ref CN)) tNil))) σ H (.bl true) := ev_isO h p T.clN T.iN T.kNN
/-- answer.shows(coins, amount) -/
theorem ev_shows {ta tb : TE} {p : Addr} {cs : List Int} {a : Int} (h : Ev te σ H (.ref x)) (hP : PaidAt CP H x dx lg lb lh G B S) (h1 : Ev ta σ H (.ref p)) (h2 : Ev tb σ H (.int a)) (hp : Il H p cs) (hc : Coins cs) (ha : 0 ≤ a ∧ a ≤ 5000) (hl : G.length ≤ 30000 ∧ B.length ≤ 30000 ∧ S.length ≤ 30000) :
    Ev (tMeth CP "shows" (sp_Paid_shows K CP) [] E te (tCons ta (tCons tb tNil))) σ H (.bl (showB cs a G B S)) := fun H1 e Q q =>
  h H1 e _ fun H2 e2 => ⟨x, dx, _, rfl, e2 _ _ (e _ _ hP.ob), pf_shows lg lb lh, h1 H2 (e.trans e2) _ fun H3 e3 => h2 H3 ((e.trans e2).trans e3) _ fun H4 e4 =>
    have ex : Ex H H4 := ((e.trans e2).trans e3).trans e4
    ⟨x, dx, lg, lb, lh, p, G, B, S, cs, a, rfl, hP.mono ex, ex _ _ hp, hc, ha, hl, fun H5 e5 => q H5 (((e2.trans e3).trans e4).trans e5)⟩⟩
theorem ev_showsL {tl tb : TE} {cs : List Int} {a : Int} (h : Ev te σ H (.ref x)) (hP : PaidAt CP H x dx lg lb lh G B S) (h1 : EvL tl σ H (cs.map V.int)) (h2 : Ev tb σ H (.int a)) (hc : Coins cs) (ha : 0 ≤ a ∧ a ≤ 5000) (hl : G.length ≤ 30000 ∧ B.length ≤ 30000 ∧ S.length ≤ 30000) :
    Ev (tMeth CP "shows" (sp_Paid_shows K CP) [] E te (tCons tl (tCons tb tNil))) σ H (.bl (showB cs a G B S)) := fun H1 e Q q =>
  h H1 e _ fun H2 e2 => ⟨x, dx, _, rfl, e2 _ _ (e _ _ hP.ob), pf_shows lg lb lh, h1 H2 (e.trans e2) _ fun p H3 _ e3 hp => h2 H3 ((e.trans e2).trans e3) _ fun H4 e4 =>
    have ex : Ex H H4 := ((e.trans e2).trans e3).trans e4
    ⟨x, dx, lg, lb, lh, p, G, B, S, cs, a, rfl, hP.mono ex, e4 _ _ hp, hc, ha, hl, fun H5 e5 => q H5 (((e2.trans e3).trans e4).trans e5)⟩⟩
theorem ev_nshows {ta tb : TE} {p : Addr} {cs : List Int} {a : Int} (h : Ev te σ H (.ref x)) (hN : NeverAt CN H x dx part) (h1 : Ev ta σ H (.ref p)) (h2 : Ev tb σ H (.int a)) (hp : Il H p cs) (hl : cs.length ≤ 1000) :
    Ev (tMeth CN "shows" (sp_Never_shows K CN) [] E te (tCons ta (tCons tb tNil))) σ H (.bl (nevB cs a part)) := fun H1 e Q q =>
  h H1 e _ fun H2 e2 => ⟨x, dx, _, rfl, e2 _ _ (e _ _ hN), nf_shows part, h1 H2 (e.trans e2) _ fun H3 e3 => h2 H3 ((e.trans e2).trans e3) _ fun H4 e4 =>
    have ex : Ex H H4 := ((e.trans e2).trans e3).trans e4
    ⟨x, dx, p, part, cs, a, rfl, ex _ _ hN, ex _ _ hp, hl, fun H5 e5 => q H5 (((e2.trans e3).trans e4).trans e5)⟩⟩
theorem ev_eiL {t u : TE} {v : V} (h : Ev t σ H v) : Ev (tEi t u) σ H v := fun H1 e Q q => .inl (h H1 e Q q)
theorem ev_eiR {t u : TE} {v : V} (h : Ev u σ H v) : Ev (tEi t u) σ H v := fun H1 e Q q => .inr (h H1 e Q q)
end
theorem nev_eq (cs : List Int) (a part : Int) : (decide (1 < part) && (decide (0 < a % part) && goes cs part)) = nevB cs a part := by
  unfold nevB
  by_cases h1 : 1 < part
  · have h0 := Int.emod_nonneg a (show part ≠ 0 by omega)
    rw [decide_eq_true h1, decide_eq_true (show 1 ≤ part by omega), Bool.true_and, Bool.true_and]
    by_cases h2 : a % part = 0
    · simp [h2]
    · rw [decide_eq_true (show 0 < a % part by omega), decide_eq_true h2]
  · rw [decide_eq_false h1, Bool.false_and]
    by_cases h2 : part = 1
    · subst h2
      simp [Int.emod_one]
    · rw [decide_eq_false (show ¬ 1 ≤ part by omega)]; simp
theorem pure__law_says_due (T : Kls K mg CA CP CN) (h : sp__law_says_due K CP CN vs H Q E) : t__law_says_due K CN (endsOf Q) (start ["_law_coins_here", "_law_amount", "_law_found", "_law_worth"] vs) H := by
  obtain ⟨p, x, dx, cs, a, rfl, hp, hc, ha, hcase⟩ := h
  rcases hcase with ⟨lg, lb, lh, G, B, S, hP, hl, q⟩ | ⟨part, hN, q⟩
  · refine q_when (b := false) (et_B (is_PN T (ev_var rfl) hP)) (fun z => nomatch z) fun _ H1 e1 => ?_
    have hP1 := hP.mono e1
    exact s_ret (ev_callV (ea_cons (ev_var rfl) (ea_cons (ev_var rfl) (ea_cons (ev_give T (ev_var rfl) hP1) (ea_cons (ev_back T (ev_var rfl) hP1) (ea_cons (ev_hei T (ev_var rfl) hP1) ea_nil))))) fun H2 e2 Q' q' => ⟨p, lg, lb, lh, cs, G, B, S, a, rfl, e2 _ _ (e1 _ _ hp), e2 _ _ hP1.g, e2 _ _ hP1.b, e2 _ _ hP1.h, hc, ha, hl, q'⟩) fun H2 e2 => q H2 (e1.trans e2)
  · refine q_when (b := true) (et_B (is_NN T (ev_var rfl) hN)) (fun _ H1 e1 => ?_) fun z => nomatch z
    have hN1 : NeverAt CN H1 x dx part := e1 _ _ hN
    refine s_ret (v := .bl (nevB cs a part)) (ev_eq (ev_andV (a := decide (1 < part)) (b := decide (0 < a % part) && goes cs part) (ev_cmp (p := fun i j => decide (j < i)) (ev_part T (ev_var rfl) hN1) ev_c) fun h1 => ?_) (by rw [nev_eq])) fun H2 e2 => q H2 (e1.trans e2)
    have h1' : 1 < part := of_decide_eq_true h1
    exact ev_andV (ev_cmp (p := fun i j => decide (j < i)) (ev_mod (ev_var rfl) (ev_part T (ev_var rfl) hN1) (by omega)) ev_c) fun _ => ev_goes (ev_var rfl) (e1 _ _ hp) (by have := hc.six; omega) (by omega) (fun _ => rfl) (fun _ _ _ => ev_var rfl) (fun _ H2 e2 => ev_part T (ev_var rfl) (e2 _ _ hN1))
/-- paid(coins, amount), called -/
theorem r_paidV {σ : L2.St} {tl ta : TE} {p : Addr} {cs : List Int} {a : Int} (h : Ev tl σ H (.ref p)) (h2 : Ev ta σ H (.int a)) (hp : Il H p cs) (hc : Coins cs) (ha : 0 ≤ a ∧ a ≤ 200) (kN : ¬ gc cs ∣ a → RetN CN (gc cs) H Q) (kP : gc cs ∣ a → ∀ G B S, PaidOk cs (topC cs) a G B S → RetP CP G B S H Q) :
    tCall (sp_paid K CP CN) [] E (tCons tl (tCons ta tNil)) σ H Q :=
  h H (Ex.refl H) _ fun H1 e1 => h2 H1 e1 _ fun H2 e2 => ⟨p, cs, a, rfl, e2 _ _ (e1 _ _ hp), hc, ha,
    fun nd x dx H3 n1 n2 e3 hN => kN nd x dx H3 (fresh_back (e1.trans e2) n1) (fresh_back (e1.trans e2) n2) ((e1.trans e2).trans e3) hN,
    fun d G B S ok x dx lg lb lh H3 n1 n2 n3 n4 n5 d1 d2 d3 e3 hP => kP d G B S ok x dx lg lb lh H3 (fresh_back (e1.trans e2) n1) (fresh_back (e1.trans e2) n2) (fresh_back (e1.trans e2) n3) (fresh_back (e1.trans e2) n4) (fresh_back (e1.trans e2) n5) d1 d2 d3 ((e1.trans e2).trans e3) hP⟩
theorem r_paidL {σ : L2.St} {tl ta : TE} {cs : List Int} {a : Int} (h : EvL tl σ H (cs.map V.int)) (h2 : Ev ta σ H (.int a)) (hc : Coins cs) (ha : 0 ≤ a ∧ a ≤ 200) (kN : ¬ gc cs ∣ a → RetN CN (gc cs) H Q) (kP : gc cs ∣ a → ∀ G B S, PaidOk cs (topC cs) a G B S → RetP CP G B S H Q) :
    tCall (sp_paid K CP CN) [] E (tCons tl (tCons ta tNil)) σ H Q :=
  h H (Ex.refl H) _ fun p H1 _ e1 hp => h2 H1 e1 _ fun H2 e2 => ⟨p, cs, a, rfl, e2 _ _ hp, hc, ha,
    fun nd x dx H3 n1 n2 e3 hN => kN nd x dx H3 (fresh_back (e1.trans e2) n1) (fresh_back (e1.trans e2) n2) ((e1.trans e2).trans e3) hN,
    fun d G B S ok x dx lg lb lh H3 n1 n2 n3 n4 n5 d1 d2 d3 e3 hP => kP d G B S ok x dx lg lb lh H3 (fresh_back (e1.trans e2) n1) (fresh_back (e1.trans e2) n2) (fresh_back (e1.trans e2) n3) (fresh_back (e1.trans e2) n4) (fresh_back (e1.trans e2) n5) d1 d2 d3 ((e1.trans e2).trans e3) hP⟩
/-- what paid tells shows itself -/
theorem _root_.Chg.PaidOk.shows {cs : List Int} {a : Int} {G B S : List Int} (hc : Coins cs) (h : PaidOk cs (topC cs) a G B S) : showB cs a G B S = true := by
  unfold showB
  have h1 : areB G cs = true := by
    unfold areB
    rw [decide_eq_true h.lg, Bool.true_and]
    exact all_map_true fun x hx => decide_eq_true (h.pg x hx)
  have h2 : areB B cs = true := by
    unfold areB
    rw [decide_eq_true h.lb, Bool.true_and]
    exact all_map_true fun x hx => decide_eq_true (h.pb x hx)
  rw [h1, h2, decide_eq_true h.dt, (floorB_iff hc).mpr h.toFloor, decide_eq_true (by rw [h.top, h.sm])]
  rfl
theorem nev_own {cs : List Int} {a : Int} (hc : Coins cs) (nd : ¬ gc cs ∣ a) : nevB cs a (gc cs) = true := by
  have g0 := hc.gpos
  unfold nevB
  rw [decide_eq_true (show 1 ≤ gc cs by omega), decide_eq_true (show a % gc cs ≠ 0 from fun z => nd (Int.dvd_of_emod_eq_zero z)), (goes_iff g0).mpr fun w hw => gc_dvd hw]
  rfl
theorem _root_.Chg.PaidOk.lens {cs : List Int} {a : Int} {G B S : List Int} (hc : Coins cs) (ha : 0 ≤ a ∧ a ≤ 5000) (h : PaidOk cs (topC cs) a G B S) : G.length ≤ 6 ∧ B.length ≤ 6 ∧ S.length ≤ 5060 := by
  have := hc.six
  have := hc.top
  have := h.lg
  have := h.lb
  have := h.len
  omega
end
end Cb

set_option Elab.async false
set_option linter.all false
set_option maxRecDepth 100000
set_option maxHeartbeats 4000000
namespace Cb
open PySem PySem.Spec PyProof.Rows L2 Evl Chg
def sp__law_right (K : PySem.W.Frag) : Sp := fun vs H Q _ => ∃ (p o : Addr) (cs os : List Int) (a : Int), vs = [.ref p, .int a, .ref o] ∧ Il H p cs ∧ Coins cs ∧ (0 ≤ a ∧ a ≤ 200) ∧ Il H o os ∧ os.length ≤ 100 ∧ (∀ x ∈ os, 0 ≤ x ∧ x ≤ 5000) ∧ RetV (.bl true) H Q
def t__law_right (K : PySem.W.Frag) (CA CP CN : Addr) : TS :=
  (tSeq (tAsg (tCB (rListS K) (tCons (tVar 0) tNil)) (gName 3))
  (tSeq (tAsg (tCall (sp_paid K CP CN) [] E0 (tCons (tVar 3) (tCons (tVar 1) tNil))) (gName 4))
  (tSeq (tIfS (tOr (tNot (tB (tCB (rIsi K) (tCons (tVar 4) (tCons (tC (.ref CA)) tNil))))) (tOr (tTest (tOp rEq (tCB (rIsi K) (tCons (tVar 4) (tCons (tC (.ref CP)) tNil))) (tCB (rIsi K) (tCons (tVar 4) (tCons (tC (.ref CN)) tNil))))) (tTest (tOp (rNeD K) (tVar 3) (tVar 0))))) (tRet (tC (.bl false))) tNext)
  (tSeq (tIfS (tTest (tOp rNe (tCB (rIsi K) (tCons (tVar 4) (tCons (tC (.ref CP)) tNil))) (tOp rEq (tOp rModI (tVar 1) (tCall (sp__law_common K) [] E0 (tCons (tVar 0) tNil))) (tC (.int 0))))) (tRet (tC (.bl false))) tNext)
  (tSeq (tIfS (tB (tCB (rIsi K) (tCons (tVar 4) (tCons (tC (.ref CP)) tNil)))) (tSeq (tAsg (tLst (tCons (tFld K (tVar 4) "give") (tCons (tFld K (tVar 4) "back") (tCons (tFld K (tVar 4) "heights") tNil)))) (gName 5))
  (tIfS (tNot (tB (tCB (rAll K) (tCons (tLc (iList K (tVar 5)) (gName 7) tYes (tAndV (tCB (rIsi K) (tCons (tVar 7) (tCons (tC (.ty "list")) tNil))) (tCB (rAll K) (tCons (tLc (iList K (tVar 7)) (gName 6) tYes (tCall (sp__law_whole K) [] E0 (tCons (tVar 6) tNil)) [6]) tNil))) [7]) tNil)))) (tRet (tC (.bl false))) tNext)) (tIfS (tNot (tB (tCall (sp__law_whole K) [] E0 (tCons (tFld K (tVar 4) "part") tNil)))) (tRet (tC (.bl false))) tNext))
  (tSeq (tIfS (tOr (tNot (tB (tCall (sp__law_says_due K CP CN) [] E0 (tCons (tVar 0) (tCons (tVar 1) (tCons (tVar 4) tNil)))))) (tNot (tB (tCall (sp__law_says K) [] E0 (tCons (tEi (tMeth CP "shows" (sp_Paid_shows K CP) [] E0 (tVar 4) (tCons (tVar 0) (tCons (tVar 1) tNil))) (tMeth CN "shows" (sp_Never_shows K CN) [] E0 (tVar 4) (tCons (tVar 0) (tCons (tVar 1) tNil)))) (tCons (tC (.bl true)) tNil)))))) (tRet (tC (.bl false))) tNext)
  (tSeq (tIfS (tB (tCB (rIsi K) (tCons (tVar 4) (tCons (tC (.ref CP)) tNil)))) (tSeq (tAsg (tCall (sp_paid K CP CN) [] E0 (tCons (tVar 3) (tCons (tVar 1) tNil))) (gName 8))
  (tSeq (tFor (iTup K (tTup (tCons (tFld K (tVar 8) "give") (tCons (tFld K (tVar 8) "back") (tCons (tFld K (tVar 8) "heights") tNil))))) (gName 7) (tDrop (tBM K "list" rAppend (tVar 7) (tCons (tC (.int 1)) tNil))))
  (tIfS (tNot (tB (tCall (sp__law_says_due K CP CN) [] E0 (tCons (tVar 0) (tCons (tVar 1) (tCons (tCall (sp_paid K CP CN) [] E0 (tCons (tVar 3) (tCons (tVar 1) tNil))) tNil)))))) (tRet (tC (.bl false))) tNext))) tNext)
  (tRet (tCB (rAll K) (tCons (tLc (iList K (tVar 2)) (gName 9) tYes (tCall (sp__law_says K) [] E0 (tCons (tEi (tMeth CP "shows" (sp_Paid_shows K CP) [] E0 (tVar 4) (tCons (tVar 0) (tCons (tVar 9) tNil))) (tMeth CN "shows" (sp_Never_shows K CN) [] E0 (tVar 4) (tCons (tVar 0) (tCons (tVar 9) tNil)))) (tCons (tCall (sp__law_says_due K CP CN) [] E0 (tCons (tVar 0) (tCons (tVar 9) (tCons (tVar 4) tNil)))) tNil))) [9]) tNil))))))))))
def t_law_k01 (K : PySem.W.Frag) (CP CN : Addr) : TS :=
  (tSeq (tFor (iRng3 (tCons (tC (.int 0)) (tCons (tCB rMax2 (tCons (tC (.int 1)) (tCons (tCB rMin2 (tCons (tC (.int 8)) (tCons (tCB (rLenS K) (tCons (tVar 0) tNil)) tNil))) tNil))) (tCons (tC (.int 4)) tNil)))) (gName 1) (tSeq (tAsg (tCall (sp__law_coins K) [] E0 (tCons (tVar 0) (tCons (tVar 1) (tCons (tC (.int 6)) (tCons (tC (.int 30)) tNil))))) (gName 2))
  (tSeq (tAsg (tCall (sp__law_number K) [] E0 (tCons (tCall (sp__law_cell_at K) [] E0 (tCons (tVar 0) (tCons (tOp rAddI (tVar 1) (tC (.int 1))) tNil))) (tCons (tOp rAddI (tVar 1) (tC (.int 5))) (tCons (tC (.int 201)) tNil)))) (gName 3))
  (tSeq (tIfS (tAnd (tTest (tOp rEq (tVar 1) (tC (.int 4)))) (tNot (tB (tCall (sp__law_right K) [] E0 (tCons (tVar 2) (tCons (tVar 3) (tCons (tLst (tCons (tC (.int 1)) tNil)) tNil))))))) (tRet (tC (.bl false))) tNext)
  (tFor (iTup K (tTup (tCons (tOp rModI (tVar 3) (tC (.int 101))) (tCons (tC (.int 0)) (tCons (tOp rSubI (tOp (rIxL K) (tVar 2) (tUn rNegI (tC (.int 1)))) (tC (.int 1))) tNil))))) (gName 4) (tIfS (tNot (tB (tCall (sp__law_right K) [] E0 (tCons (tVar 2) (tCons (tVar 4) (tCons (tLst (tCons (tVar 3) (tCons (tC (.int 1)) (tCons (tIf (tTest (tOp rLtI (tVar 4) (tC (.int 170)))) (tOp rAddI (tVar 4) (tOp (rIxL K) (tVar 2) (tC (.int 0)))) (tC (.int 5))) tNil)))) tNil)))))) (tRet (tC (.bl false))) tNext))))))
  (tSeq (tPar3 5 6 7 (tCons (tCall (sp_paid K CP CN) [] E0 (tCons (tLst (tCons (tC (.int 1)) (tCons (tC (.int 5)) tNil))) (tCons (tC (.int 4)) tNil))) (tCons (tCall (sp_paid K CP CN) [] E0 (tCons (tLst (tCons (tC (.int 3)) (tCons (tC (.int 5)) tNil))) (tCons (tC (.int 1)) tNil))) (tCons (tLst tNil) tNil))))
  (tSeq (tIfS (tTest (tOp (rNeD K) (tLst (tCons (tFld K (tVar 5) "give") (tCons (tFld K (tVar 5) "back") (tCons (tFld K (tVar 6) "give") (tCons (tFld K (tVar 6) "back") tNil))))) (tLst (tCons (tLst (tCons (tC (.int 0)) (tCons (tC (.int 1)) tNil))) (tCons (tLst (tCons (tC (.int 1)) (tCons (tC (.int 0)) tNil))) (tCons (tLst (tCons (tC (.int 2)) (tCons (tC (.int 0)) tNil))) (tCons (tLst (tCons (tC (.int 0)) (tCons (tC (.int 1)) tNil))) tNil))))))) (tRet (tC (.bl false))) tNext)
  (tSeq (tFor (iTup K (tTup (tCons (tC (.int 2)) (tCons (tC (.int 1)) tNil)))) (gName 8) (tSeq (tAsg (tVar 8) (gSub (tFld K (tVar 5) "give") (tC (.int 1)) rSetL))
  (tDrop (tBM K "list" rAppend (tVar 7) (tCons (tMeth CP "shows" (sp_Paid_shows K CP) [] E0 (tVar 5) (tCons (tLst (tCons (tC (.int 1)) (tCons (tC (.int 5)) tNil))) (tCons (tC (.int 4)) tNil))) tNil)))))
  (tSeq (tFor (iTup K (tTup (tCons (tC (.int 9)) (tCons (tOp (rIxL K) (tFld K (tVar 5) "heights") (tC (.int 0))) tNil)))) (gName 9) (tSeq (tAsg (tVar 9) (gSub (tFld K (tVar 5) "heights") (tC (.int 0)) rSetL))
  (tDrop (tBM K "list" rAppend (tVar 7) (tCons (tMeth CP "shows" (sp_Paid_shows K CP) [] E0 (tVar 5) (tCons (tLst (tCons (tC (.int 1)) (tCons (tC (.int 5)) tNil))) (tCons (tC (.int 4)) tNil))) tNil)))))
  (tSeq (tIfS (tOr (tTest (tOp (rNeD K) (tVar 7) (tOp rRep (tLst (tCons (tC (.bl false)) (tCons (tC (.bl true)) tNil))) (tC (.int 2))))) (tOr (tTest (tOp rNotB (tMeth CP "shows" (sp_Paid_shows K CP) [] E0 (tVar 6) (tCons (tLst (tCons (tC (.int 3)) (tCons (tC (.int 5)) tNil))) (tCons (tC (.int 1)) tNil))) (tC (.bl true)))) (tTest (tOp rNotB (tMeth CP "shows" (sp_Paid_shows K CP) [] E0 (tVar 6) (tCons (tLst (tCons (tC (.int 1)) (tCons (tC (.int 5)) tNil))) (tCons (tC (.int 4)) tNil))) (tC (.bl false)))))) (tRet (tC (.bl false))) tNext)
  (tSeq (tAsg (tLst (tCons (tC (.int 1)) (tCons (tC (.int 5)) tNil))) (gName 2))
  (tSeq (tAsg (tCall (sp_paid K CP CN) [] E0 (tCons (tVar 2) (tCons (tC (.int 4)) tNil))) (gName 5))
  (tSeq (tAsg (tC (.int 3)) (gSub (tVar 2) (tC (.int 0)) rSetL))
  (tSeq (tAsg (tCall (sp_paid K CP CN) [] E0 (tCons (tVar 2) (tCons (tC (.int 1)) tNil))) (gName 10))
  (tSeq (tIfS (tOr (tNot (tB (tCB (rIsi K) (tCons (tVar 10) (tCons (tC (.ref CP)) tNil))))) (tOr (tTest (tOp (rNeD K) (tFld K (tVar 10) "give") (tLst (tCons (tC (.int 2)) (tCons (tC (.int 0)) tNil))))) (tTest (tOp rNotB (tMeth CP "shows" (sp_Paid_shows K CP) [] E0 (tVar 5) (tCons (tVar 2) (tCons (tC (.int 4)) tNil))) (tC (.bl false)))))) (tRet (tC (.bl false))) tNext)
  (tSeq (tAsg (tCall (sp_paid K CP CN) [] E0 (tCons (tLst (tCons (tC (.int 1)) (tCons (tC (.int 5)) tNil))) (tCons (tC (.int 4)) tNil))) (gName 11))
  (tRet (tAndV (tOp (rEqD K) (tTup (tCons (tFld K (tVar 11) "give") (tCons (tFld K (tVar 11) "back") tNil))) (tTup (tCons (tLst (tCons (tC (.int 0)) (tCons (tC (.int 1)) tNil))) (tCons (tLst (tCons (tC (.int 1)) (tCons (tC (.int 0)) tNil))) tNil)))) (tAndV (tOp rEq (tFld K (tCall (sp_paid K CP CN) [] E0 (tCons (tLst (tCons (tC (.int 4)) (tCons (tC (.int 6)) tNil))) (tCons (tC (.int 9)) tNil))) "part") (tC (.int 2))) (tOp (rEqD K) (tFld K (tCall (sp_paid K CP CN) [] E0 (tCons (tLst (tCons (tC (.int 7)) tNil)) (tCons (tC (.int 0)) tNil))) "give") (tLst (tCons (tC (.int 0)) tNil))))))))))))))))))
end Cb

set_option Elab.async false
set_option linter.all false
set_option maxRecDepth 100000
set_option maxHeartbeats 4000000
/-! The law k01: _law_right. -/
namespace Cb
open PySem PySem.Spec PyProof.Rows L2 Evl Chg
section
variable {K : PySem.W.Frag} {mg : Str → Option Value} {CA CP CN : Addr} {vs : List V} {H : Hp} {Q : VK} {E : XK}
theorem len__law_right (h : sp__law_right K vs H Q E) : vs.length = (["_law_coins_here", "_law_amount", "_law_others"] : List Str).length := by
  obtain ⟨p, o, cs, os, a, rfl, _⟩ := h
  rfl
theorem ev_eqB {σ : L2.St} {ta tb : TE} {a b : Bool} (h : Ev ta σ H (.bl a)) (h2 : Ev tb σ H (.bl b)) : Ev (tOp rEq ta tb) σ H (.bl (decide (a = b))) := ev_eq (ev_op h h2 (rv_eq (x := .bl a) (y := .bl b) rfl)) (by cases a <;> cases b <;> rfl)
theorem ev_neB {σ : L2.St} {ta tb : TE} {a b : Bool} (h : Ev ta σ H (.bl a)) (h2 : Ev tb σ H (.bl b)) : Ev (tOp rNe ta tb) σ H (.bl (decide (a ≠ b))) := ev_eq (ev_op h h2 (rv_ne (x := .bl a) (y := .bl b) rfl)) (by cases a <;> cases b <;> rfl)
theorem ev_lcommon {σ : L2.St} {te : TE} {p : Addr} {cs : List Int} (h : Ev te σ H (.ref p)) (hp : Il H p cs) (hc : Coins cs) : Ev (tCall (sp__law_common K) [] E (tCons te tNil)) σ H (.int (gc cs)) :=
  ev_callV (ea_cons h ea_nil) fun H1 e Q q => ⟨p, cs, rfl, e _ _ hp, hc.ne, by have := hc.six; omega, fun w hw => by have := hc.wor w hw; omega, q⟩
theorem ev_sdN {σ : L2.St} {ta tb tc : TE} {p x dx : Addr} {cs : List Int} {a part : Int} (h1 : Ev ta σ H (.ref p)) (h2 : Ev tb σ H (.int a)) (h3 : Ev tc σ H (.ref x)) (hp : Il H p cs) (hc : Coins cs) (ha : 0 ≤ a ∧ a ≤ 5000) (hN : NeverAt CN H x dx part) :
    Ev (tCall (sp__law_says_due K CP CN) [] E (tCons ta (tCons tb (tCons tc tNil)))) σ H (.bl (nevB cs a part)) :=
  ev_callV (ea_cons h1 (ea_cons h2 (ea_cons h3 ea_nil))) fun H1 e Q q => ⟨p, x, dx, cs, a, rfl, e _ _ hp, hc, ha, .inr ⟨part, e _ _ hN, q⟩⟩
theorem ev_sdP {σ : L2.St} {ta tb tc : TE} {p x dx lg lb lh : Addr} {cs G B S : List Int} {a : Int} (h1 : Ev ta σ H (.ref p)) (h2 : Ev tb σ H (.int a)) (h3 : Ev tc σ H (.ref x)) (hp : Il H p cs) (hc : Coins cs) (ha : 0 ≤ a ∧ a ≤ 5000) (hP : PaidAt CP H x dx lg lb lh G B S) (hl : G.length ≤ 15000 ∧ B.length ≤ 15000 ∧ S.length ≤ 30000) :
    Ev (tCall (sp__law_says_due K CP CN) [] E (tCons ta (tCons tb (tCons tc tNil)))) σ H (.bl (showB cs a G B S)) :=
  ev_callV (ea_cons h1 (ea_cons h2 (ea_cons h3 ea_nil))) fun H1 e Q q => ⟨p, x, dx, cs, a, rfl, e _ _ hp, hc, ha, .inl ⟨lg, lb, lh, G, B, S, hP.mono e, hl, q⟩⟩
/-- says_due(coins, amount, paid(handed, amount)), the answer a Paid -/
theorem ev_sdNew {σ : L2.St} {ta tb td te : TE} {p q0 : Addr} {cs : List Int} {a : Int} (h1 : Ev ta σ H (.ref p)) (h2 : Ev tb σ H (.int a)) (h3 : Ev td σ H (.ref q0)) (h4 : Ev te σ H (.int a)) (hp : Il H p cs) (hq : Il H q0 cs) (hc : Coins cs) (ha : 0 ≤ a ∧ a ≤ 200) (hd : gc cs ∣ a) :
    Ev (tCall (sp__law_says_due K CP CN) [] E (tCons ta (tCons tb (tCons (tCall (sp_paid K CP CN) [] E (tCons td (tCons te tNil))) tNil)))) σ H (.bl true) := fun H1 e1 Q q =>
  h1 H1 e1 _ fun H2 e2 => h2 H2 (e1.trans e2) _ fun H3 e3 => by
    have ex : Ex H H3 := (e1.trans e2).trans e3
    refine r_paidV (h3.mono ex) (h4.mono ex) (ex _ _ hq) hc ha (fun z => absurd hd z) fun _ G B S ok x dx lg lb lh H4 n1 n2 n3 n4 n5 d1 d2 d3 e4 hP => ?_
    have l := ok.lens hc (by omega)
    refine ⟨p, x, dx, cs, a, rfl, e4 _ _ (ex _ _ hp), hc, by omega, .inl ⟨lg, lb, lh, G, B, S, hP, by omega, fun H5 e5 => ?_⟩⟩
    rw [ok.shows hc]
    exact q H5 (((e2.trans e3).trans e4).trans e5)
theorem pure__law_right (T : Kls K mg CA CP CN) (h : sp__law_right K vs H Q E) : t__law_right K CA CP CN (endsOf Q) (start ["_law_coins_here", "_law_amount", "_law_others", "_law_handed", "_law_found", "_law_fields", "_law_one", "_law_some", "_law_again", "_law_other"] vs) H := by
  obtain ⟨p, o, cs, os, a, rfl, hp, hc, ha, ho, hol, hob, q⟩ := h
  have g0 := hc.gpos
  have c6 := hc.six
  refine q_asgL (el_list (ev_var rfl) (sq_of hp)) fun lh0 H1 nh e1 hh => ?_
  have hp1 := e1 _ _ hp
  refine r_paidV (ev_var rfl) (ev_var rfl) hh hc ha (fun nd x dx H2 nx ndx e2 hN => ?_) fun d G B S ok x dx lg lb lh H2 nx ndx nlg nlb nlh d1 d2 d3 e2 hP => ?_
  · -- a Never
    have hm : a % gc cs ≠ 0 := fun z => nd (Int.dvd_of_emod_eq_zero z)
    have own := nev_own hc nd
    refine q_when (b := false) (et_is (et_or (et_not (et_B (is_NA T (ev_var rfl) hN))) fun _ => et_or (et_test (ev_eqB (is_NP T (ev_var rfl) hN) (is_NN T (ev_var rfl) hN))) fun _ => et_test (ev_op (ev_var rfl) (ev_var rfl) (rv_neL (sq_of (e2 _ _ hh)) (sq_of (e2 _ _ hp1))))) (by simp)) (fun z => nomatch z) fun _ H3 e3 => ?_
    have hN3 : NeverAt CN H3 x dx (gc cs) := e3 _ _ hN
    have hp3 := e3 _ _ (e2 _ _ hp1)
    refine q_when (b := false) (et_is (et_test (ev_neB (is_NP T (ev_var rfl) hN3) (ev_eqI (ev_mod (ev_var rfl) (ev_lcommon (ev_var rfl) hp3 hc) g0) ev_c))) (by simp [hm])) (fun z => nomatch z) fun _ H4 e4 => ?_
    have hN4 : NeverAt CN H4 x dx (gc cs) := e4 _ _ hN3
    refine q_if (b := false) (et_B (is_NP T (ev_var rfl) hN4)) (fun z => nomatch z) fun _ H5 e5 => ?_
    have hN5 : NeverAt CN H5 x dx (gc cs) := e5 _ _ hN4
    refine s_when (b := false) (D := { nx := _, rt := _, bk := _, ct := _ }) (et_is (et_not (et_B (ev_whole (ev_part T (ev_var rfl) hN5)))) rfl) (fun z => nomatch z) fun _ H6 e6 => ?_
    have hN6 : NeverAt CN H6 x dx (gc cs) := e6 _ _ hN5
    have hp6 := e6 _ _ (e5 _ _ (e4 _ _ hp3))
    refine q_when (b := false) (et_is (et_or (et_not (et_B (ev_sdN (ev_var rfl) (ev_var rfl) (ev_var rfl) hp6 hc (by omega) hN6))) fun _ => et_not (et_B (ev_says (ev_eiR (ev_nshows (ev_var rfl) hN6 (ev_var rfl) (ev_var rfl) hp6 (by omega))) ev_c))) (by rw [own]; rfl)) (fun z => nomatch z) fun _ H7 e7 => ?_
    have hN7 : NeverAt CN H7 x dx (gc cs) := e7 _ _ hN6
    refine q_when (b := false) (et_B (is_NP T (ev_var rfl) hN7)) (fun z => nomatch z) fun _ H8 e8 => ?_
    have hN8 : NeverAt CN H8 x dx (gc cs) := e8 _ _ hN7
    have ex8 : Ex H H8 := e1.trans (e2.trans (e3.trans (e4.trans (e5.trans (e6.trans (e7.trans e8))))))
    refine s_ret (v := .bl true) (ev_eq (ev_allP (fun _ => true) (ev_var rfl) (sq_of (ex8 _ _ ho)) (by omega) (fun _ => rfl) fun w H9 hw e9 => ?_) (by rw [all_map_true fun _ _ => rfl])) fun H9 e9 => q H9 (ex8.trans e9)
    have := hob w hw
    have ex9 := ex8.trans e9
    exact ev_eq (ev_says (ev_eiR (ev_nshows (ev_var rfl) (e9 _ _ hN8) (ev_var rfl) (ev_var rfl) (ex9 _ _ hp) (by omega))) (ev_sdN (ev_var rfl) (ev_var rfl) (ev_var rfl) (ex9 _ _ hp) hc (by omega) (e9 _ _ hN8))) (by rw [decide_eq_true rfl])
  · -- a Paid
    have hm : a % gc cs = 0 := Int.emod_eq_zero_of_dvd d
    have own := ok.shows hc
    have l := ok.lens hc (by omega)
    refine q_when (b := false) (et_is (et_or (et_not (et_B (is_PA T (ev_var rfl) hP))) fun _ => et_or (et_test (ev_eqB (is_PP T (ev_var rfl) hP) (is_PN T (ev_var rfl) hP))) fun _ => et_test (ev_op (ev_var rfl) (ev_var rfl) (rv_neL (sq_of (e2 _ _ hh)) (sq_of (e2 _ _ hp1))))) (by simp)) (fun z => nomatch z) fun _ H3 e3 => ?_
    have hP3 := hP.mono e3
    have hp3 := e3 _ _ (e2 _ _ hp1)
    refine q_when (b := false) (et_is (et_test (ev_neB (is_PP T (ev_var rfl) hP3) (ev_eqI (ev_mod (ev_var rfl) (ev_lcommon (ev_var rfl) hp3 hc) g0) ev_c))) (by simp [hm])) (fun z => nomatch z) fun _ H4 e4 => ?_
    have hP4 := hP3.mono e4
    refine q_if (b := true) (et_B (is_PP T (ev_var rfl) hP4)) (fun _ H5 e5 => ?_) fun z => nomatch z
    have hP5 := hP4.mono e5
    -- the fields
    refine q_asgL (D := { nx := _, rt := _, bk := _, ct := _ }) (xs := [.ref lg, .ref lb, .ref lh]) (el_lst (ea_cons (ev_give T (ev_var rfl) hP5) (ea_cons (ev_back T (ev_var rfl) hP5) (ea_cons (ev_hei T (ev_var rfl) hP5) ea_nil))) (by simp)) fun lf H6 nlf e6 hlf => ?_
    have hP6 := hP5.mono e6
    refine s_when (b := false) (et_is (et_not (et_B (ev_allL (bs := [true, true, true]) (el_eq (el_lcY (fun _ => .bl true) (ev_var rfl) (sq_of hlf) (by simp) (fun _ => rfl) fun y H7 hy e7 => ?_) rfl)))) rfl) (fun z => nomatch z) fun _ H7 e7 => ?_
    · have hP7 := hP6.mono e7
      have each : ∀ (l : Addr) (L : List Int), Il H7 l L → L.length ≤ 30000 → y = .ref l → Ev (tAndV (tCB (rIsi K) (tCons (tVar 7) (tCons (tC (.ty "list")) tNil))) (tCB (rAll K) (tCons (tLc (iList K (tVar 7)) (gName 6) tYes (tCall (sp__law_whole K) [] E0 (tCons (tVar 6) tNil)) [6]) tNil))) [some (.ref p), some (.int a), some (.ref o), some (.ref lh0), some (.ref x), some (.ref lf), none, some y, none, none] H7 (.bl true) := fun l L hl hll ey => by
        subst ey
        refine ev_eq (ev_andV (a := true) (b := true) (ev_isi (T := "list") (ev_var rfl) (fun H8 e8 => .base (.lst (e8 _ _ hl))) (by decide +kernel)) fun _ => ev_eq (ev_allP (fun _ => true) (ev_var rfl) (sq_of hl) (by omega) (fun _ => rfl) fun w H8 hw e8 => ev_whole (ev_var rfl)) (by rw [all_map_true fun _ _ => rfl])) rfl
      rcases List.mem_cons.mp hy with z | hy
      · exact each lg G hP7.g (by omega) z
      rcases List.mem_cons.mp hy with z | hy
      · exact each lb B hP7.b (by omega) z
      · exact each lh S hP7.h (by omega) (by simpa using hy)
    have hP7 := hP6.mono e7
    have hp7 := e7 _ _ (e6 _ _ (e5 _ _ (e4 _ _ hp3)))
    refine q_when (b := false) (et_is (et_or (et_not (et_B (ev_sdP (ev_var rfl) (ev_var rfl) (ev_var rfl) hp7 hc (by omega) hP7 (by omega)))) fun _ => et_not (et_B (ev_says (ev_eiL (ev_shows (ev_var rfl) hP7 (ev_var rfl) (ev_var rfl) hp7 hc (by omega) (by omega))) ev_c))) (by rw [own]; rfl)) (fun z => nomatch z) fun _ H8 e8 => ?_
    have hP8 := hP7.mono e8
    have ex8 : Ex H H8 := e1.trans (e2.trans (e3.trans (e4.trans (e5.trans (e6.trans (e7.trans e8))))))
    have hh8 : Il H8 lh0 cs := e8 _ _ (e7 _ _ (e6 _ _ (e5 _ _ (e4 _ _ (e3 _ _ (e2 _ _ hh))))))
    -- the rest, from any heap that has all of H8
    have fin : ∀ (y5 y6 y7 y8 y9 : Option V) H9, Ex H8 H9 → (tRet (tCB (rAll K) (tCons (tLc (iList K (tVar 2)) (gName 9) tYes (tCall (sp__law_says K) [] E0 (tCons (tEi (tMeth CP "shows" (sp_Paid_shows K CP) [] E0 (tVar 4) (tCons (tVar 0) (tCons (tVar 9) tNil))) (tMeth CN "shows" (sp_Never_shows K CN) [] E0 (tVar 4) (tCons (tVar 0) (tCons (tVar 9) tNil)))) (tCons (tCall (sp__law_says_due K CP CN) [] E0 (tCons (tVar 0) (tCons (tVar 9) (tCons (tVar 4) tNil)))) tNil))) [9]) tNil))) (endsOf Q)
        [some (.ref p), some (.int a), some (.ref o), some (.ref lh0), some (.ref x), y5, y6, y7, y8, y9] H9 := fun y5 y6 y7 y8 y9 H9 e9 => by
      have ex9 := ex8.trans e9
      have hP9 := hP8.mono e9
      refine s_ret (v := .bl true) (ev_eq (ev_allP (fun _ => true) (ev_var rfl) (sq_of (ex9 _ _ ho)) (by omega) (fun _ => rfl) fun w H10 hw e10 => ?_) (by rw [all_map_true fun _ _ => rfl])) fun H10 e10 => q H10 (ex9.trans e10)
      have := hob w hw
      exact ev_eq (ev_says (ev_eiL (ev_shows (ev_var rfl) (hP9.mono e10) (ev_var rfl) (ev_var rfl) ((ex9.trans e10) _ _ hp) hc (by omega) (by omega))) (ev_sdP (ev_var rfl) (ev_var rfl) (ev_var rfl) ((ex9.trans e10) _ _ hp) hc (by omega) (hP9.mono e10) (by omega))) (by rw [decide_eq_true rfl])
    refine q_when (b := true) (et_B (is_PP T (ev_var rfl) hP8)) (fun _ H9 e9 => ?_) fun z => nomatch z
    -- again
    refine r_paidV (ev_var rfl) (ev_var rfl) (e9 _ _ hh8) hc ha (fun z => absurd d z) fun _ G2 B2 S2 ok2 x2 dx2 lg2 lb2 lh2 H10 nx2 ndx2 nlg2 nlb2 nlh2 f1 f2 f3 e10 hP2 => ?_
    have l2 := ok2.lens hc (by omega)
    have n8 : ∀ {l : Addr}, H9 l = none → H8 l = none := fun hl => fresh_back e9 hl
    have hu : EvU (tTup (tCons (tFld K (tVar 8) "give") (tCons (tFld K (tVar 8) "back") (tCons (tFld K (tVar 8) "heights") tNil)))) [some (.ref p), some (.int a), some (.ref o), some (.ref lh0), some (.ref x), some (.ref lf), none, none, some (.ref x2), none] H10 [.ref lg2, .ref lb2, .ref lh2] :=
      eu_tup (ea_cons (ev_give T (ev_var rfl) hP2) (ea_cons (ev_back T (ev_var rfl) hP2) (ea_cons (ev_hei T (ev_var rfl) hP2) ea_nil))) (by simp)
    refine s_forNU (D := { nx := _, rt := _, bk := _, ct := _ }) hu fun tp H11 ntp e11 htp => ?_
    have ex811 : Ex H8 H11 := (e9.trans e10).trans e11
    have ng : tp ≠ lg2 := fun z => by rw [z, hP2.g] at ntp; cases ntp
    have nb : tp ≠ lb2 := fun z => by rw [z, hP2.b] at ntp; cases ntp
    have nh : tp ≠ lh2 := fun z => by rw [z, hP2.h] at ntp; cases ntp
    refine ⟨fun j σ' H' => Ex H8 H' ∧ H' tp = some (.tup [.ref lg2, .ref lb2, .ref lh2]) ∧ (∃ xs, H' lg2 = some (.lst xs) ∧ xs.length ≤ 10000 + j) ∧ (∃ xs, H' lb2 = some (.lst xs) ∧ xs.length ≤ 10000 + j) ∧ (∃ xs, H' lh2 = some (.lst xs) ∧ xs.length ≤ 10000 + j) ∧ ∃ y7 : Option V, σ' = [some (.ref p), some (.int a), some (.ref o), some (.ref lh0), some (.ref x), some (.ref lf), none, y7, some (.ref x2), none],
      ⟨ex811, htp, ⟨_, e11 _ _ hP2.g, by rw [List.length_map]; omega⟩, ⟨_, e11 _ _ hP2.b, by rw [List.length_map]; omega⟩, ⟨_, e11 _ _ hP2.h, by rw [List.length_map]; omega⟩, none, rfl⟩, fun j σ' H' _ hW => st_of hW.2.1, fun j y σ' H' hy hW => ?_, fun σ' H' hW => ?_⟩
    · obtain ⟨exb, ht, ⟨xs1, g1, m1⟩, ⟨xs2, g2, m2⟩, ⟨xs3, g3, m3⟩, y7, rfl⟩ := hW
      have hj : j < 3 := by
        have := (List.getElem?_eq_some_iff.mp hy).1
        simpa using this
      match j, hy with
      | 0, hy =>
        have ey : y = .ref lg2 := (Option.some.inj hy).symm
        subst ey
        refine s_app g1 (ev_var rfl) ev_c (by omega) fun H12 e12 => ⟨(exb.trans e12).mut (n8 nlg2), by rw [upd_ne ng]; exact e12 _ _ ht, ⟨_, upd_same, by simp; omega⟩, ⟨xs2, by rw [upd_ne f1.symm]; exact e12 _ _ g2, by omega⟩, ⟨xs3, by rw [upd_ne f2.symm]; exact e12 _ _ g3, by omega⟩, _, rfl⟩
      | 1, hy =>
        have ey : y = .ref lb2 := (Option.some.inj hy).symm
        subst ey
        refine s_app g2 (ev_var rfl) ev_c (by omega) fun H12 e12 => ⟨(exb.trans e12).mut (n8 nlb2), by rw [upd_ne nb]; exact e12 _ _ ht, ⟨xs1, by rw [upd_ne f1]; exact e12 _ _ g1, by omega⟩, ⟨_, upd_same, by simp; omega⟩, ⟨xs3, by rw [upd_ne f3.symm]; exact e12 _ _ g3, by omega⟩, _, rfl⟩
      | 2, hy =>
        have ey : y = .ref lh2 := (Option.some.inj hy).symm
        subst ey
        refine s_app g3 (ev_var rfl) ev_c (by omega) fun H12 e12 => ⟨(exb.trans e12).mut (n8 nlh2), by rw [upd_ne nh]; exact e12 _ _ ht, ⟨xs1, by rw [upd_ne f2]; exact e12 _ _ g1, by omega⟩, ⟨xs2, by rw [upd_ne f3]; exact e12 _ _ g2, by omega⟩, ⟨_, upd_same, by simp; omega⟩, _, rfl⟩
    · obtain ⟨exb, ht, _, _, _, y7, rfl⟩ := hW
      refine s_when (b := false) (et_is (et_not (et_B (ev_sdNew (ev_var rfl) (ev_var rfl) (ev_var rfl) (ev_var rfl) ((ex8.trans exb) _ _ hp) (exb _ _ hh8) hc ha d))) rfl) (fun z => nomatch z) fun _ H13 e13 => fin _ _ _ _ _ H13 (exb.trans e13)
end
end Cb

set_option Elab.async false
set_option linter.all false
set_option maxRecDepth 100000
set_option maxHeartbeats 4000000
/-! The law k01. -/
namespace Cb
open PySem PySem.Spec PyProof.Rows L2 Evl Chg
def sp_law_k01 (K : PySem.W.Frag) : Sp := fun vs H Q _ => ∃ (p : Addr) (ns : List Int), vs = [.ref p] ∧ SqL K H p (ns.map V.int) ∧ Cells ns ∧ ns.length ≤ 63 ∧ ∀ H', Q (.bl true) H'
/-! ### a few answers on paper -/
theorem list2 {G : List Int} (h : G.length = 2) : ∃ a b, G = [a, b] := by
  match G, h with
  | [a, b], _ => exact ⟨a, b, rfl⟩
theorem ok_1_5_4 {g : Int} {G B S : List Int} (h : PaidOk [1, 5] g 4 G B S) : G = [0, 1] ∧ B = [1, 0] := by
  have f : few [1, 5] 4 = 2 := few2 (-1) 1 (by decide) (by decide) (by omega)
  obtain ⟨a, b, rfl⟩ := list2 h.lg
  obtain ⟨c, d, rfl⟩ := list2 h.lb
  have h1 := h.pg a (by simp)
  have h2 := h.pg b (by simp)
  have h3 := h.pb c (by simp)
  have h4 := h.pb d (by simp)
  have h5 := h.dt
  have h6 := h.sm
  rw [f] at h6
  simp only [dot, List.zipWith_cons_cons, List.zipWith_nil_left, List.sum_cons, List.sum_nil] at h5 h6
  have hb : b = 0 ∨ b = 1 ∨ b = 2 := by omega
  have : a = 0 ∧ b = 1 ∧ c = 1 ∧ d = 0 := by rcases hb with rfl | rfl | rfl <;> omega
  obtain ⟨rfl, rfl, rfl, rfl⟩ := this
  exact ⟨rfl, rfl⟩
theorem ok_3_5_1 {g : Int} {G B S : List Int} (h : PaidOk [3, 5] g 1 G B S) : G = [2, 0] ∧ B = [0, 1] := by
  have f : few [3, 5] 1 = 3 := few2 2 (-1) (by decide) (by decide) (by omega)
  obtain ⟨a, b, rfl⟩ := list2 h.lg
  obtain ⟨c, d, rfl⟩ := list2 h.lb
  have h1 := h.pg a (by simp)
  have h2 := h.pg b (by simp)
  have h3 := h.pb c (by simp)
  have h4 := h.pb d (by simp)
  have h5 := h.dt
  have h6 := h.sm
  rw [f] at h6
  simp only [dot, List.zipWith_cons_cons, List.zipWith_nil_left, List.sum_cons, List.sum_nil] at h5 h6
  have hb : b = 0 ∨ b = 1 ∨ b = 2 ∨ b = 3 := by omega
  have : a = 2 ∧ b = 0 ∧ c = 0 ∧ d = 1 := by rcases hb with rfl | rfl | rfl | rfl <;> omega
  obtain ⟨rfl, rfl, rfl, rfl⟩ := this
  exact ⟨rfl, rfl⟩
theorem ok_7_0 {g : Int} {G B S : List Int} (h : PaidOk [7] g 0 G B S) : G = [0] := by
  match G, h.lg with
  | [a], _ =>
    match B, h.lb with
    | [b], _ =>
      have h1 := h.pg a (by simp)
      have h2 := h.pb b (by simp)
      have h6 := h.sm
      rw [few_zero] at h6
      simp at h6
      have : a = 0 := by omega
      rw [this]
theorem coins1 {a : Int} (h : 1 ≤ a ∧ a ≤ 30) : Coins [a] :=
  ⟨by simp, by simp, by
    intro w hw
    have : w = a := by simpa using hw
    omega, by simp⟩
theorem show_dot {cs : List Int} {a : Int} {G B S : List Int} (h : dot G cs - dot B cs ≠ a) : showB cs a G B S = false := by
  unfold showB
  rw [decide_eq_false h]; simp
theorem show_floor {cs : List Int} {a : Int} {G B S : List Int} (hc : Coins cs) (h : ¬ Floor cs (topC cs) a S) : showB cs a G B S = false := by
  have : floorB cs a S = false := by
    rw [Bool.eq_false_iff]
    exact fun z => h ((floorB_iff hc).mp z)
  unfold showB
  rw [this]; simp
theorem coins15 : Coins [1, 5] := coins2 (by decide)
theorem coins35 : Coins [3, 5] := coins2 (by decide)
theorem coins46 : Coins [4, 6] := coins2 (by decide)
section
variable {K : PySem.W.Frag} {mg : Str → Option Value} {CA CP CN : Addr} {vs : List V} {H : Hp} {Q : VK} {E : XK}
theorem len_law_k01 (h : sp_law_k01 K vs H Q E) : vs.length = (["_law_script"] : List Str).length := by
  obtain ⟨p, ns, rfl, _⟩ := h
  rfl
theorem ev_rightN {σ : L2.St} {ta tb tc : TE} {p : Addr} {cs os : List Int} {a : Int} (h1 : Ev ta σ H (.ref p)) (h2 : Ev tb σ H (.int a)) (h3 : EvL tc σ H (os.map V.int)) (hp : Il H p cs) (hc : Coins cs) (ha : 0 ≤ a ∧ a ≤ 200) (hl : os.length ≤ 100) (ho : ∀ x ∈ os, 0 ≤ x ∧ x ≤ 5000) :
    Ev (tCall (sp__law_right K) [] E (tCons ta (tCons tb (tCons tc tNil)))) σ H (.bl true) := fun H1 e Q q =>
  h1 H1 e _ fun H2 e2 => h2 H2 (e.trans e2) _ fun H3 e3 => h3 H3 ((e.trans e2).trans e3) _ fun o H4 _ e4 h4 => ⟨p, o, cs, os, a, rfl, e4 _ _ (e3 _ _ (e2 _ _ (e _ _ hp))), hc, ha, h4, hl, ho, fun H5 e5 => q H5 (((e2.trans e3).trans e4).trans e5)⟩
/-- a list of two written numbers -/
theorem l2c {σ : L2.St} {a b : Int} : EvL (tLst (tCons (tC (.int a)) (tCons (tC (.int b)) tNil))) σ H ([a, b].map V.int) := el_lst (ea_cons ev_c (ea_cons ev_c ea_nil)) (by simp)
theorem dpAll_bls : ∀ xs : List Bool, DpAll K H (xs.map V.bl) (xs.map PyData.bool)
  | [] => .nil
  | x :: r => .cons (.bl x) (dpAll_bls r)
theorem not_near {S : List Int} {a : Int} (h0 : ent S 5 = 0) (hl : (S.length : Int) = a + 10) (ha : 0 ≤ a) : ¬ Floor [1, 5] (topC [1, 5]) a (S.set 0 9) := fun f => by
  have h1 := f.near 5 (by simp) 0 (by omega) (by rw [List.length_set]; omega)
  have e1 : ent (S.set 0 9) 0 = 9 := ent_set_same (x := 0) (by omega) (by omega)
  have e2 : ent (S.set 0 9) (0 + 5) = ent S 5 := ent_set_ne (x := 0) (y := 5) (by omega) (by omega) (by omega)
  rw [e1, e2, h0] at h1
  omega
/-- all but what stands at S stays -/
def ExB (S : List Addr) (H H' : Hp) : Prop := ∀ y o, y ∉ S → H y = some o → H' y = some o
theorem ExB.refl (S : List Addr) (H : Hp) : ExB S H H := fun _ _ _ h => h
theorem ExB.trans {S : List Addr} {H H1 H2 : Hp} (a : ExB S H H1) (b : ExB S H1 H2) : ExB S H H2 := fun y o n h => b y o n (a y o n h)
theorem ExB.ex {S : List Addr} {H H1 H2 : Hp} (a : ExB S H H1) (b : Ex H1 H2) : ExB S H H2 := fun y o n h => b y o (a y o n h)
theorem ExB.upd {S : List Addr} {H H1 : Hp} {l : Addr} {o : HO} (a : ExB S H H1) (hl : l ∈ S) : ExB S H (L2.upd H1 l o) := fun y o' n h => by
  have ne : y ≠ l := fun z => n (by rw [z]; exact hl)
  rw [upd_ne ne]
  exact a y o' n h
theorem PaidAt.exB {C : Addr} {H H' : Hp} {x dx lg lb lh : Addr} {G B S : List Int} {L : List Addr} (p : PaidAt C H x dx lg lb lh G B S) (e : ExB L H H') (n1 : x ∉ L) (n2 : lg ∉ L) (n3 : lb ∉ L) (n4 : lh ∉ L) : PaidAt C H' x dx lg lb lh G B S := ⟨e _ _ n1 p.ob, e _ _ n2 p.g, e _ _ n3 p.b, e _ _ n4 p.h⟩
theorem rep2 {xs : List V} {ta : TE} {σ : L2.St} (h : EvL ta σ H xs) (hl : xs.length ≤ 1000) : EvL (tOp rRep ta (tC (.int 2))) σ H (xs ++ xs) := fun H1 e Q q =>
  h H1 e _ fun p H2 hp e2 h2 => ⟨p, 2, xs, rfl, rfl, h2, by decide, by decide, sz_of (by show xs.length * 2 ≤ 100000; omega), fun l hl => by
    have er : (List.replicate (2 : Int).toNat xs).flatten = xs ++ xs := by
      show (xs ++ (xs ++ [])) = xs ++ xs
      rw [List.append_nil]
    rw [er]
    exact q l _ (fresh_back e2 hl) (e2.trans (Ex.new hl)) upd_same⟩
theorem ev_isB {ta tb : TE} {σ : L2.St} {a b : Bool} (h1 : Ev ta σ H (.bl a)) (h2 : Ev tb σ H (.bl b)) : Ev (tOp rIsB ta tb) σ H (.bl (decide (a = b))) := ev_op h1 h2 (fun H1 e Q q => ⟨a, b, rfl, rfl, q H1 (Ex.refl H1)⟩)
theorem ev_notB {ta tb : TE} {σ : L2.St} {a b : Bool} (h1 : Ev ta σ H (.bl a)) (h2 : Ev tb σ H (.bl b)) : Ev (tOp rNotB ta tb) σ H (.bl (!decide (a = b))) := ev_op h1 h2 (fun H1 e Q q => ⟨a, b, rfl, rfl, q H1 (Ex.refl H1)⟩)
/-- the part of an answer that is a Never -/
theorem ev_paidPart {tl ta : TE} {σ : L2.St} {cs : List Int} {a : Int} (T : Kls K mg CA CP CN) (h : EvL tl σ H (cs.map V.int)) (h2 : Ev ta σ H (.int a)) (hc : Coins cs) (ha : 0 ≤ a ∧ a ≤ 200) (nd : ¬ gc cs ∣ a) : Ev (tFld K (tCall (sp_paid K CP CN) [] E (tCons tl (tCons ta tNil))) "part") σ H (.int (gc cs)) := fun H1 e Q q =>
  r_paidL (fun H2 e2 => h H2 (e.trans e2)) (fun H2 e2 => h2 H2 (e.trans e2)) hc ha (fun _ x dx H2 n1 n2 e2 hN => ⟨x, CN, dx, _, _, rfl, hN, T.clN, T.nPart, nf_part _, q H2 e2⟩) fun d => absurd d nd
/-- the give of an answer that is a Paid -/
theorem ed_paidGive {tl ta : TE} {σ : L2.St} {cs L : List Int} {a : Int} (T : Kls K mg CA CP CN) (h : EvL tl σ H (cs.map V.int)) (h2 : Ev ta σ H (.int a)) (hc : Coins cs) (ha : 0 ≤ a ∧ a ≤ 200) (d : gc cs ∣ a) (hL : ∀ G B S, PaidOk cs (topC cs) a G B S → G = L) : EvD K (tFld K (tCall (sp_paid K CP CN) [] E (tCons tl (tCons ta tNil))) "give") σ H (.list (L.map PyData.int)) := fun H1 e Q q =>
  r_paidL (fun H2 e2 => h H2 (e.trans e2)) (fun H2 e2 => h2 H2 (e.trans e2)) hc ha (fun z => absurd d z) fun _ G B S ok x dx lg lb lh H2 n1 n2 n3 n4 n5 d1 d2 d3 e2 hP => ⟨x, CP, dx, _, _, rfl, hP.ob, T.clP, T.nGive, pf_give _ _ _, q _ H2 e2 (dp_ints (sq_of ((hL G B S ok) ▸ hP.g)))⟩
theorem pure_law_k01 (T : Kls K mg CA CP CN) (h : sp_law_k01 K vs H Q E) : t_law_k01 K CP CN (endsOf Q) (start ["_law_script", "_law_by", "_law_coins_here", "_law_amount", "_law_some", "_law_one", "_law_two", "_law_tells", "_law_count", "_law_height", "_law_late", "_law_found"] vs) H := by
  obtain ⟨p, ns, rfl, hp, hcl, hlen, q⟩ := h
  have len : (ns.map V.int).length = ns.length := List.length_map ..
  obtain ⟨n, hn, hn2⟩ := rg4 (j := if (if ((ns.map V.int).length : Int) < 8 then ((ns.map V.int).length : Int) else 8) > 1 then (if ((ns.map V.int).length : Int) < 8 then ((ns.map V.int).length : Int) else 8) else 1) (by split <;> (try split) <;> omega)
  refine q_forR3 (ea_cons ev_c (ea_cons (ev_max ev_c (ev_min ev_c (ev_len (ev_var rfl) hp))) (ea_cons ev_c ea_nil))) hn (fun i σ' H' => Ex H H' ∧ ∃ y1 y2 y3 y4 : Option V, σ' = [some (.ref p), y1, y2, y3, y4, none, none, none, none, none, none, none]) (fun H0 e0 => ⟨e0, _, _, _, _, rfl⟩) (fun i σ' H' hi hP => ?_) fun σ' H' hP => ?_
  · obtain ⟨ex, y1, y2, y3, y4, rfl⟩ := hP
    have hb : (0 : Int) ≤ 0 + (i : Int) * 4 ∧ 0 + (i : Int) * 4 ≤ 4 := by omega
    generalize (0 : Int) + (i : Int) * 4 = b at hb
    have hp0 := ex_l ex hp
    refine q_asgCall (ea_cons (ev_var rfl) (ea_cons (ev_var rfl) (ea_cons ev_c (ea_cons ev_c ea_nil)))) fun H1 e1 => ⟨p, ns, b, 6, 30, rfl, ex_l e1 hp0, hcl, by omega, by omega, by omega, fun cs hcs lc H2 nlc e2 hlc => ?_⟩
    have hc := hcs.coins (by omega) (by omega)
    have ht := hc.top
    have hp2 := ex_l (e1.trans e2) hp0
    have na := num_bound (c := cellAt ns (b + 1)) (k := b + 5) (m := 201) (by decide)
    refine q_asg (ev_num (ev_cell (ev_var rfl) (ev_add (ev_var rfl) ev_c) hp2 (by omega)) (ev_add (ev_var rfl) ev_c) ev_c (cell_Bits hcl _) (by omega) (by decide)) fun H3 e3 => ?_
    generalize numV (cellAt ns (b + 1)) (b + 5) 201 = a at na
    have hlc3 := e3 _ _ hlc
    refine q_when (b := false) (et_is (et_and (et_test (ev_eqI (ev_var rfl) ev_c)) fun _ => et_not (et_B (ev_rightN (os := [1]) (ev_var rfl) (ev_var rfl) (el_lst (ea_cons ev_c ea_nil) (by simp)) hlc3 hc (by omega) (by simp) (by simp)))) (by simp)) (fun z => nomatch z) fun _ H4 e4 => ?_
    have hlc4 := e4 _ _ hlc3
    obtain ⟨c0, r, ecs⟩ : ∃ c r, cs = c :: r := by
      cases cs with
      | nil => exact absurd rfl hc.ne
      | cons c r => exact ⟨c, r, rfl⟩
    have c0b := hc.wor c0 (by rw [ecs]; simp)
    have at0 : atI (cs.map V.int) 0 = some (.int c0) := by rw [ecs]; exact atI_nat (j := 0) rfl
    have hu : EvU (tTup (tCons (tOp rModI (tVar 3) (tC (.int 101))) (tCons (tC (.int 0)) (tCons (tOp rSubI (tOp (rIxL K) (tVar 2) (tUn rNegI (tC (.int 1)))) (tC (.int 1))) tNil)))) [some (.ref p), some (.int b), some (.ref lc), some (.int a), y4, none, none, none, none, none, none, none] H4 [.int (a % 101), .int 0, .int (topC cs - 1)] :=
      eu_tup (ea_cons (ev_mod (ev_var rfl) ev_c (by decide)) (ea_cons ev_c (ea_cons (ev_sub (ev_ixL (ev_var rfl) ev_m1 (sq_of hlc4) (topC_at hc.ne)) ev_c) ea_nil))) (by simp)
    have ex4 : Ex H H4 := ex.trans (e1.trans (e2.trans (e3.trans e4)))
    refine s_forNU hu fun tp H5 ntp e5 htp => ⟨fun j σ2 H2' => Ex H5 H2' ∧ ∃ y4 : Option V, σ2 = [some (.ref p), some (.int b), some (.ref lc), some (.int a), y4, none, none, none, none, none, none, none], ⟨Ex.refl _, y4, rfl⟩, fun j σ2 H2' _ hW => st_of (hW.1 _ _ htp), fun j y σ2 H2' hy hW => ?_, fun σ2 H2' hW => ?_⟩
    · obtain ⟨e6, y4, rfl⟩ := hW
      obtain ⟨s, rfl, hs⟩ : ∃ s, y = .int s ∧ 0 ≤ s ∧ s ≤ 200 := by
        match j, hy with
        | 0, hy => exact ⟨a % 101, (Option.some.inj hy).symm, by omega, by omega⟩
        | 1, hy => exact ⟨0, (Option.some.inj hy).symm, by omega, by omega⟩
        | 2, hy => exact ⟨topC cs - 1, (Option.some.inj hy).symm, by omega, by omega⟩
      have hlc6 := e6 _ _ (e5 _ _ hlc4)
      refine s_when (b := false) (et_is (et_not (et_B (ev_rightN (os := [a, 1, if s < 170 then s + c0 else 5]) (ev_var rfl) (ev_var rfl) (el_lst (ea_cons (ev_var rfl) (ea_cons ev_c (ea_cons (ev_if (b := decide (s < 170)) (v := .int (if s < 170 then s + c0 else 5)) (et_test (ev_cmp (p := fun i j => decide (i < j)) (ev_var rfl) ev_c)) (fun hz => ?_) fun hz => ?_) ea_nil))) (by simp)) hlc6 hc (by omega) (by simp) ?_))) rfl) (fun z => nomatch z) fun _ H7 e7 => ⟨e6.trans e7, _, rfl⟩
      · rw [if_pos (of_decide_eq_true hz)]
        exact ev_add (ev_var rfl) (ev_ixL (ev_var rfl) ev_c (sq_of hlc6) at0)
      · rw [if_neg (of_decide_eq_false hz)]
        exact ev_c
      · intro x hx
        rcases List.mem_cons.mp hx with z | hx
        · omega
        rcases List.mem_cons.mp hx with z | hx
        · omega
        · have z : x = if s < 170 then s + c0 else 5 := by simpa using hx
          rw [z]
          split <;> omega
    · obtain ⟨e6, y4, rfl⟩ := hW
      exact ⟨(ex4.trans e5).trans e6, _, _, _, _, rfl⟩
  · obtain ⟨ex, y1, y2, y3, y4, rfl⟩ := hP
    -- one, two, tells
    refine r_paidL l2c ev_c coins15 (by decide) (fun z => absurd (by decide) z) fun _ G1 B1 S1 ok1 x1 dx1 g1 b1 h1 Ha nx1 ndx1 ng1 nb1 nh1 d1 d2 d3 ea hP1 => ?_
    refine r_paidL l2c ev_c coins35 (by decide) (fun z => absurd (by decide) z) fun _ G2 B2 S2 ok2 x2 dx2 g2 b2 h2 Hb nx2 ndx2 ng2 nb2 nh2 f1 f2 f3 eb hP2 => ?_
    refine el_go (el_lst ea_nil (by simp)) fun lt Hc nlt ec hlt => ⟨_, _, _, rfl, ?_⟩
    have sh1 := ok1.shows coins15
    have sh2 := ok2.shows coins35
    have l1 := ok1.lens coins15 (by decide)
    have l2 := ok2.lens coins35 (by decide)
    have S1len := ok1.len
    have S1z := ok1.zero
    obtain ⟨rfl, rfl⟩ := ok_1_5_4 ok1
    obtain ⟨rfl, rfl⟩ := ok_3_5_1 ok2
    have hP1c := hP1.mono (eb.trans ec)
    have hP2c := hP2.mono ec
    have ng2' : g2 ≠ g1 := fun z => by rw [z, hP1.g] at ng2; cases ng2
    have nb2' : b2 ≠ g1 := fun z => by rw [z, hP1.g] at nb2; cases nb2
    have nh2' : h2 ≠ g1 := fun z => by rw [z, hP1.g] at nh2; cases nh2
    have nx2' : x2 ≠ g1 := fun z => by rw [z, hP1.g] at nx2; cases nx2
    have ng2'' : g2 ≠ h1 := fun z => by rw [z, hP1.h] at ng2; cases ng2
    have nb2'' : b2 ≠ h1 := fun z => by rw [z, hP1.h] at nb2; cases nb2
    have nh2'' : h2 ≠ h1 := fun z => by rw [z, hP1.h] at nh2; cases nh2
    have nx2'' : x2 ≠ h1 := fun z => by rw [z, hP1.h] at nx2; cases nx2
    have notlt : ∀ {y : Addr} {o : HO}, Hb y = some o → y ≠ lt := fun hy => ne_of_none hy nlt
    have mx1 : x1 ∉ [g1, h1, lt] := by
      have a1 : x1 ≠ g1 := ne_of hP1.ob hP1.g (by intro z; cases z)
      have a2 : x1 ≠ h1 := ne_of hP1.ob hP1.h (by intro z; cases z)
      have a3 : x1 ≠ lt := notlt (eb _ _ hP1.ob)
      simp [a1, a2, a3]
    have mb1 : b1 ∉ [g1, h1, lt] := by
      have a3 : b1 ≠ lt := notlt (eb _ _ hP1.b)
      simp [d1.symm, d3, a3]
    have mx2 : x2 ∉ [g1, h1, lt] := by simp [nx2', nx2'', notlt hP2.ob]
    have mg2 : g2 ∉ [g1, h1, lt] := by simp [ng2', ng2'', notlt hP2.g]
    have mb2 : b2 ∉ [g1, h1, lt] := by simp [nb2', nb2'', notlt hP2.b]
    have mh2 : h2 ∉ [g1, h1, lt] := by simp [nh2', nh2'', notlt hP2.h]
    have ngl : g1 ≠ lt := notlt (eb _ _ hP1.g)
    have nhl : h1 ≠ lt := notlt (eb _ _ hP1.h)
    -- the four lists
    refine q_when (b := false) (et_is (et_test (ev_neD (d := .list [.list ([0, 1].map .int), .list ([1, 0].map .int), .list ([2, 0].map .int), .list ([0, 1].map .int)]) (e := .list [.list ([0, 1].map .int), .list ([1, 0].map .int), .list ([2, 0].map .int), .list ([0, 1].map .int)])
      (ed_lst (eda_cons (ed_list (ev_give T (ev_var rfl) hP1c) (sq_of hP1c.g)) (eda_cons (ed_list (ev_back T (ev_var rfl) hP1c) (sq_of hP1c.b)) (eda_cons (ed_list (ev_give T (ev_var rfl) hP2c) (sq_of hP2c.g)) (eda_cons (ed_list (ev_back T (ev_var rfl) hP2c) (sq_of hP2c.b)) eda_nil)))) (by simp))
      (ed_lst (eda_cons (ed_new l2c) (eda_cons (ed_new l2c) (eda_cons (ed_new l2c) (eda_cons (ed_new l2c) eda_nil)))) (by simp)) (by decide) (by decide))) (by decide)) (fun z => nomatch z) fun _ Hd ed => ?_
    have bd : ExB [g1, h1, lt] Hc Hd := (ExB.refl _ _).ex ed
    have hP1d := hP1c.mono ed
    -- counts
    have hu1 : EvU (tTup (tCons (tC (.int 2)) (tCons (tC (.int 1)) tNil))) [some (.ref p), y1, y2, y3, y4, some (.ref x1), some (.ref x2), some (.ref lt), none, none, none, none] Hd [.int 2, .int 1] := eu_tup (ea_cons ev_c (ea_cons ev_c ea_nil)) (by simp)
    refine s_forNU (D := { nx := _, rt := _, bk := _, ct := _ }) hu1 fun tp He ntp ee htp => ⟨fun j σ2 H2 => ExB [g1, h1, lt] He H2 ∧ Il H2 g1 (if j = 1 then [0, 2] else [0, 1]) ∧ Il H2 h1 S1 ∧ H2 lt = some (.lst (([false, true].take j).map V.bl)) ∧ ∃ y8 : Option V, σ2 = [some (.ref p), y1, y2, y3, y4, some (.ref x1), some (.ref x2), some (.ref lt), y8, none, none, none],
      ⟨ExB.refl _ _, ee _ _ hP1d.g, ee _ _ hP1d.h, ee _ _ (ed _ _ hlt), none, rfl⟩, fun j σ2 H2 _ hW => ?_, fun j y σ2 H2 hy hW => ?_, fun σ2 H2 hW => ?_⟩
    · have t1 : tp ≠ g1 := fun z => by rw [z, hP1d.g] at ntp; cases ntp
      have t2 : tp ≠ h1 := fun z => by rw [z, hP1d.h] at ntp; cases ntp
      have t3 : tp ≠ lt := fun z => by rw [z, ed _ _ hlt] at ntp; cases ntp
      exact st_of (hW.1 _ _ (by simp [t1, t2, t3]) htp)
    · obtain ⟨xb, hg, hh, ht, y8, rfl⟩ := hW
      have hx1 : H2 x1 = some (.ins CP dx1 (pf g1 b1 h1)) := xb _ _ mx1 (ee _ _ hP1d.ob)
      have hb1 : Il H2 b1 [1, 0] := xb _ _ mb1 (ee _ _ hP1d.b)
      match j, hy with
      | 0, hy =>
        have ey : y = .int 2 := (Option.some.inj hy).symm
        subst ey
        have hPx : PaidAt CP H2 x1 dx1 g1 b1 h1 [0, 1] [1, 0] S1 := ⟨hx1, hg, hb1, hh⟩
        refine q_setL (xs := [0, 1].map V.int) (j := 1) hg (ev_var rfl) (ev_give T (ev_var rfl) hPx) (ev_eq ev_c rfl) (by decide) fun H3 e3 => ?_
        have hPy : PaidAt CP (upd H3 g1 (.lst (([0, 1].map V.int).set 1 (.int 2)))) x1 dx1 g1 b1 h1 [0, 2] [1, 0] S1 := by
          refine ⟨?_, upd_same, ?_, ?_⟩
          · rw [upd_ne (by simp at mx1; exact mx1.1)]; exact e3 _ _ hx1
          · rw [Il, upd_ne d1.symm]; exact e3 _ _ hb1
          · rw [Il, upd_ne d2.symm]; exact e3 _ _ hh
        have hty : upd H3 g1 (.lst (([0, 1].map V.int).set 1 (.int 2))) lt = some (.lst []) := by rw [upd_ne ngl.symm]; exact e3 _ _ ht
        refine s_app hty (ev_var rfl) (ev_showsL (ev_var rfl) hPy l2c ev_c coins15 (by decide) (by simp; omega)) (by decide) fun H4 e4 => ?_
        rw [show_dot (by decide)]
        refine ⟨((xb.ex e3).upd (by simp)).ex e4 |>.upd (by simp), ?_, ?_, upd_same, _, rfl⟩
        · rw [Il, upd_ne ngl]; exact e4 _ _ hPy.g
        · rw [Il, upd_ne nhl]; exact e4 _ _ hPy.h
      | 1, hy =>
        have ey : y = .int 1 := (Option.some.inj hy).symm
        subst ey
        have hPx : PaidAt CP H2 x1 dx1 g1 b1 h1 [0, 2] [1, 0] S1 := ⟨hx1, hg, hb1, hh⟩
        refine q_setL (xs := [0, 2].map V.int) (j := 1) hg (ev_var rfl) (ev_give T (ev_var rfl) hPx) (ev_eq ev_c rfl) (by decide) fun H3 e3 => ?_
        have hPy : PaidAt CP (upd H3 g1 (.lst (([0, 2].map V.int).set 1 (.int 1)))) x1 dx1 g1 b1 h1 [0, 1] [1, 0] S1 := by
          refine ⟨?_, upd_same, ?_, ?_⟩
          · rw [upd_ne (by simp at mx1; exact mx1.1)]; exact e3 _ _ hx1
          · rw [Il, upd_ne d1.symm]; exact e3 _ _ hb1
          · rw [Il, upd_ne d2.symm]; exact e3 _ _ hh
        have hty : upd H3 g1 (.lst (([0, 2].map V.int).set 1 (.int 1))) lt = some (.lst [.bl false]) := by rw [upd_ne ngl.symm]; exact e3 _ _ ht
        refine s_app hty (ev_var rfl) (ev_showsL (ev_var rfl) hPy l2c ev_c coins15 (by decide) (by simp; omega)) (by decide) fun H4 e4 => ?_
        rw [sh1]
        refine ⟨((xb.ex e3).upd (by simp)).ex e4 |>.upd (by simp), ?_, ?_, upd_same, _, rfl⟩
        · rw [Il, upd_ne ngl]; exact e4 _ _ hPy.g
        · rw [Il, upd_ne nhl]; exact e4 _ _ hPy.h
    obtain ⟨xb, hg, hh, ht, y8, rfl⟩ := hW
    have xc : ExB [g1, h1, lt] Hc H2 := (bd.ex ee).trans xb
    have hx1 : H2 x1 = some (.ins CP dx1 (pf g1 b1 h1)) := xb _ _ mx1 (ee _ _ hP1d.ob)
    have hb1 : Il H2 b1 [1, 0] := xb _ _ mb1 (ee _ _ hP1d.b)
    have hP1e : PaidAt CP H2 x1 dx1 g1 b1 h1 [0, 1] [1, 0] S1 := ⟨hx1, hg, hb1, hh⟩
    -- heights
    have S1l : (S1.length : Int) = 14 := S1len
    have S1z' : ent S1 5 = 0 := S1z
    have hu2 : EvU (tTup (tCons (tC (.int 9)) (tCons (tOp (rIxL K) (tFld K (tVar 5) "heights") (tC (.int 0))) tNil))) [some (.ref p), y1, y2, y3, y4, some (.ref x1), some (.ref x2), some (.ref lt), y8, none, none, none] H2 [.int 9, .int (ent S1 0)] := eu_tup (ea_cons ev_c (ea_cons (ev_ixL (ev_hei T (ev_var rfl) hP1e) ev_c (sq_of hh) (atI_int (by omega) (by omega))) ea_nil)) (by simp)
    refine s_forNU (D := { nx := _, rt := _, bk := _, ct := _ }) hu2 fun tp2 Hf ntp2 ef htp2 => ⟨fun j σ2 H3 => ExB [g1, h1, lt] Hf H3 ∧ Il H3 g1 [0, 1] ∧ Il H3 h1 (if j = 1 then S1.set 0 9 else S1) ∧ H3 lt = some (.lst (([false, true, false, true].take (2 + j)).map V.bl)) ∧ ∃ y9 : Option V, σ2 = [some (.ref p), y1, y2, y3, y4, some (.ref x1), some (.ref x2), some (.ref lt), y8, y9, none, none],
      ⟨ExB.refl _ _, ef _ _ hg, ef _ _ hh, ef _ _ ht, none, rfl⟩, fun j σ2 H3 _ hW => ?_, fun j y σ2 H3 hy hW => ?_, fun σ2 H3 hW => ?_⟩
    · have t1 : tp2 ≠ g1 := fun z => by rw [z, hg] at ntp2; cases ntp2
      have t2 : tp2 ≠ h1 := fun z => by rw [z, hh] at ntp2; cases ntp2
      have t3 : tp2 ≠ lt := fun z => by rw [z, ht] at ntp2; cases ntp2
      exact st_of (hW.1 _ _ (by simp [t1, t2, t3]) htp2)
    · obtain ⟨xb2, hg2, hh2, ht2, y9, rfl⟩ := hW
      have hx1' : H3 x1 = some (.ins CP dx1 (pf g1 b1 h1)) := xb2 _ _ mx1 (ef _ _ hx1)
      have hb1' : Il H3 b1 [1, 0] := xb2 _ _ mb1 (ef _ _ hb1)
      match j, hy with
      | 0, hy =>
        have ey : y = .int 9 := (Option.some.inj hy).symm
        subst ey
        have hPx : PaidAt CP H3 x1 dx1 g1 b1 h1 [0, 1] [1, 0] S1 := ⟨hx1', hg2, hb1', hh2⟩
        refine q_setL (xs := S1.map V.int) (j := 0) hh2 (ev_var rfl) (ev_hei T (ev_var rfl) hPx) (ev_eq ev_c rfl) (by rw [List.length_map]; omega) fun H4 e4 => ?_
        have eS : (S1.map V.int).set 0 (.int 9) = (S1.set 0 9).map V.int := by rw [List.map_set]
        rw [eS]
        have hPy : PaidAt CP (upd H4 h1 (.lst ((S1.set 0 9).map V.int))) x1 dx1 g1 b1 h1 [0, 1] [1, 0] (S1.set 0 9) := by
          refine ⟨?_, ?_, ?_, upd_same⟩
          · rw [upd_ne (by simp at mx1; exact mx1.2.1)]; exact e4 _ _ hx1'
          · rw [Il, upd_ne d2]; exact e4 _ _ hg2
          · rw [Il, upd_ne d3]; exact e4 _ _ hb1'
        have hty : upd H4 h1 (.lst ((S1.set 0 9).map V.int)) lt = some (.lst [.bl false, .bl true]) := by rw [upd_ne nhl.symm]; exact e4 _ _ ht2
        refine s_app hty (ev_var rfl) (ev_showsL (ev_var rfl) hPy l2c ev_c coins15 (by decide) (by rw [List.length_set]; simp; omega)) (by decide) fun H5 e5 => ?_
        rw [show_floor coins15 (not_near S1z' (by omega) (by omega))]
        refine ⟨((xb2.ex e4).upd (by simp)).ex e5 |>.upd (by simp), ?_, ?_, upd_same, _, rfl⟩
        · rw [Il, upd_ne ngl]; exact e5 _ _ hPy.g
        · rw [Il, upd_ne nhl]; exact e5 _ _ hPy.h
      | 1, hy =>
        have ey : y = .int (ent S1 0) := (Option.some.inj hy).symm
        subst ey
        have hPx : PaidAt CP H3 x1 dx1 g1 b1 h1 [0, 1] [1, 0] (S1.set 0 9) := ⟨hx1', hg2, hb1', hh2⟩
        refine q_setL (xs := (S1.set 0 9).map V.int) (j := 0) hh2 (ev_var rfl) (ev_hei T (ev_var rfl) hPx) (ev_eq ev_c rfl) (by rw [List.length_map, List.length_set]; omega) fun H4 e4 => ?_
        have eS : ((S1.set 0 9).map V.int).set 0 (.int (ent S1 0)) = S1.map V.int := by
          rw [← List.map_set, List.set_set]
          congr 1
          cases S1 with
          | nil => rfl
          | cons z r => rfl
        rw [eS]
        have hPy : PaidAt CP (upd H4 h1 (.lst (S1.map V.int))) x1 dx1 g1 b1 h1 [0, 1] [1, 0] S1 := by
          refine ⟨?_, ?_, ?_, upd_same⟩
          · rw [upd_ne (by simp at mx1; exact mx1.2.1)]; exact e4 _ _ hx1'
          · rw [Il, upd_ne d2]; exact e4 _ _ hg2
          · rw [Il, upd_ne d3]; exact e4 _ _ hb1'
        have hty : upd H4 h1 (.lst (S1.map V.int)) lt = some (.lst [.bl false, .bl true, .bl false]) := by rw [upd_ne nhl.symm]; exact e4 _ _ ht2
        refine s_app hty (ev_var rfl) (ev_showsL (ev_var rfl) hPy l2c ev_c coins15 (by decide) (by simp; omega)) (by decide) fun H5 e5 => ?_
        rw [sh1]
        refine ⟨((xb2.ex e4).upd (by simp)).ex e5 |>.upd (by simp), ?_, ?_, upd_same, _, rfl⟩
        · rw [Il, upd_ne ngl]; exact e5 _ _ hPy.g
        · rw [Il, upd_ne nhl]; exact e5 _ _ hPy.h
    obtain ⟨xb2, hg2, hh2, ht2, y9, rfl⟩ := hW
    have hP2f : PaidAt CP H3 x2 dx2 g2 b2 h2 [2, 0] [0, 1] S2 := (hP2c.exB xc mx2 mg2 mb2 mh2).mono ef |>.exB xb2 mx2 mg2 mb2 mh2
    refine q_when (b := false) (et_is (et_or (et_test (ev_neD (d := .list ([false, true, false, true].map .bool)) (e := .list ([false, true, false, true].map .bool)) (ed_at (ev_var rfl) (.lst (sq_of ht2) (dpAll_bls _))) (fun H4 e4 Q' q' => rep2 (xs := [.bl false, .bl true]) (el_lst (ea_cons ev_c (ea_cons ev_c ea_nil)) (by simp)) (by simp) H4 e4 _ fun p' H5 _ e5 h5 => q' _ H5 e5 (.lst (sq_of h5) (dpAll_bls [false, true, false, true]))) (by decide) (by decide)))
      fun _ => et_or (et_test (ev_notB (ev_showsL (ev_var rfl) hP2f l2c ev_c coins35 (by decide) (by simp; omega)) ev_c)) fun _ => et_test (ev_notB (ev_showsL (ev_var rfl) hP2f l2c ev_c coins15 (by decide) (by simp; omega)) ev_c)) (by rw [sh2, show_dot (by decide)]; decide)) (fun z => nomatch z) fun _ H4 e4 => ?_
    -- coins changed in place
    refine q_asgL (xs := [1, 5].map V.int) l2c fun lc H5 nlc e5 hlc => ?_
    refine r_paidV (ev_var rfl) ev_c hlc coins15 (by decide) (fun z => absurd (by decide) z) fun _ G3 B3 S3 ok3 x3 dx3 g3 b3 h3 H6 nx3 ndx3 ng3 nb3 nh3 k1 k2 k3 e6 hP3 => ?_
    have l3 := ok3.lens coins15 (by decide)
    obtain ⟨rfl, rfl⟩ := ok_1_5_4 ok3
    refine q_setL (xs := [1, 5].map V.int) (j := 0) (e6 _ _ hlc) ev_c (ev_var rfl) (ev_eq ev_c rfl) (by decide) fun H7 e7 => ?_
    have hlc7 : Il (upd H7 lc (.lst (([1, 5].map V.int).set 0 (.int 3)))) lc [3, 5] := upd_same
    have m1 : x3 ≠ lc := fun z => by rw [z, hlc] at nx3; cases nx3
    have m2 : g3 ≠ lc := fun z => by rw [z, hlc] at ng3; cases ng3
    have m3 : b3 ≠ lc := fun z => by rw [z, hlc] at nb3; cases nb3
    have m4 : h3 ≠ lc := fun z => by rw [z, hlc] at nh3; cases nh3
    have hP37 : PaidAt CP (upd H7 lc (.lst (([1, 5].map V.int).set 0 (.int 3)))) x3 dx3 g3 b3 h3 [0, 1] [1, 0] S3 :=
      ⟨by rw [upd_ne m1]; exact e7 _ _ hP3.ob, by rw [Il, upd_ne m2]; exact e7 _ _ hP3.g, by rw [Il, upd_ne m3]; exact e7 _ _ hP3.b, by rw [Il, upd_ne m4]; exact e7 _ _ hP3.h⟩
    refine r_paidV (ev_var rfl) ev_c hlc7 coins35 (by decide) (fun z => absurd (by decide) z) fun _ G4 B4 S4 ok4 x4 dx4 g4 b4 h4 H8 nx4 ndx4 ng4 nb4 nh4 j1 j2 j3 e8 hP4 => ?_
    obtain ⟨rfl, rfl⟩ := ok_3_5_1 ok4
    have hP38 := hP37.mono e8
    have hlc8 := e8 _ _ hlc7
    refine q_when (b := false) (et_is (et_or (et_not (et_B (is_PP T (ev_var rfl) hP4))) fun _ => et_or (et_test (ev_neD (ed_list (ns := [2, 0]) (ev_give T (ev_var rfl) hP4) (sq_of hP4.g)) (ed_new (ns := [2, 0]) l2c) (by decide) (by decide))) fun _ => et_test (ev_notB (ev_shows (ev_var rfl) hP38 (ev_var rfl) ev_c hlc8 coins35 (by decide) (by simp; omega)) ev_c)) (by rw [show_dot (by decide)]; decide)) (fun z => nomatch z) fun _ H9 e9 => ?_
    -- found
    refine r_paidL l2c ev_c coins15 (by decide) (fun z => absurd (by decide) z) fun _ G5 B5 S5 ok5 x5 dx5 g5 b5 h5 H10 nx5 ndx5 ng5 nb5 nh5 i1 i2 i3 e10 hP5 => ?_
    obtain ⟨rfl, rfl⟩ := ok_1_5_4 ok5
    refine s_ret (v := .bl true) (ev_eq (ev_andV (a := true) (b := true) (ev_eq (ev_eqD (d := .tuple [.list ([0, 1].map .int), .list ([1, 0].map .int)]) (e := .tuple [.list ([0, 1].map .int), .list ([1, 0].map .int)]) (ed_tup (eda_cons (ed_list (ev_give T (ev_var rfl) hP5) (sq_of hP5.g)) (eda_cons (ed_list (ev_back T (ev_var rfl) hP5) (sq_of hP5.b)) eda_nil)) (by simp)) (ed_tup (eda_cons (ed_new l2c) (eda_cons (ed_new l2c) eda_nil)) (by simp)) (by decide) (by decide)) (by decide)) fun _ => ?_) rfl) fun H11 e11 => q H11
    refine ev_eq (ev_andV (a := true) (b := true) (ev_eq (ev_eqI (ev_paidPart T l2c ev_c coins46 (by decide) (by decide)) ev_c) (by decide)) fun _ => ?_) rfl
    exact ev_eq (ev_eqD (d := .list ([0].map .int)) (e := .list ([0].map .int)) (ed_paidGive T (el_lst (ea_cons ev_c ea_nil) (by simp)) ev_c (coins1 (a := 7) (by decide)) (by decide) (by decide) fun G B S ok => ok_7_0 ok) (ed_new (el_lst (ea_cons ev_c ea_nil) (by simp))) (by decide) (by decide)) (by decide)
end
end Cb

set_option Elab.async false
set_option linter.all false
set_option maxRecDepth 100000
set_option maxHeartbeats 4000000
/-! Papers: lists handed over, tuples of three lists, lists of these. -/
namespace Cb
open PySem PySem.Spec PyProof.Rows L2 Evl Chg
theorem rg12 {j : Int} (h : 1 ≤ j ∧ j ≤ 12) : ∃ n : Nat, RgC 0 j 4 n ∧ n ≤ 3 := by
  rcases (by omega : j = 1 ∨ j = 2 ∨ j = 3 ∨ j = 4 ∨ j = 5 ∨ j = 6 ∨ j = 7 ∨ j = 8 ∨ j = 9 ∨ j = 10 ∨ j = 11 ∨ j = 12) with rfl | rfl | rfl | rfl | rfl | rfl | rfl | rfl | rfl | rfl | rfl | rfl
  · exact ⟨1, ⟨by decide, by decide, by decide, by decide⟩, by decide⟩
  · exact ⟨1, ⟨by decide, by decide, by decide, by decide⟩, by decide⟩
  · exact ⟨1, ⟨by decide, by decide, by decide, by decide⟩, by decide⟩
  · exact ⟨1, ⟨by decide, by decide, by decide, by decide⟩, by decide⟩
  · exact ⟨2, ⟨by decide, by decide, by decide, by decide⟩, by decide⟩
  · exact ⟨2, ⟨by decide, by decide, by decide, by decide⟩, by decide⟩
  · exact ⟨2, ⟨by decide, by decide, by decide, by decide⟩, by decide⟩
  · exact ⟨2, ⟨by decide, by decide, by decide, by decide⟩, by decide⟩
  · exact ⟨3, ⟨by decide, by decide, by decide, by decide⟩, by decide⟩
  · exact ⟨3, ⟨by decide, by decide, by decide, by decide⟩, by decide⟩
  · exact ⟨3, ⟨by decide, by decide, by decide, by decide⟩, by decide⟩
  · exact ⟨3, ⟨by decide, by decide, by decide, by decide⟩, by decide⟩
abbrev Tri := List Int × List Int × List Int
/-- a new object that is o -/
def EvN (te : TE) (σ : L2.St) (H : Hp) (o : HO) : Prop := ∀ H1, Ex H H1 → ∀ Q : VK, (∀ p H2, H1 p = none → Ex H1 H2 → H2 p = some o → Q (.ref p) H2) → te σ H1 Q
/-- a list of ints, new or old -/
def EvG (te : TE) (σ : L2.St) (H : Hp) (G : List Int) : Prop := ∀ H1, Ex H H1 → ∀ Q : VK, (∀ p H2, Ex H1 H2 → Il H2 p G → Q (.ref p) H2) → te σ H1 Q
def Pap (H : Hp) (v : V) (t : Tri) : Prop := ∃ tp g b h, v = .ref tp ∧ H tp = some (.tup [.ref g, .ref b, .ref h]) ∧ Il H g t.1 ∧ Il H b t.2.1 ∧ Il H h t.2.2
theorem Pap.mono {H H' : Hp} {v : V} {t : Tri} (e : Ex H H') (h : Pap H v t) : Pap H' v t := by
  obtain ⟨tp, g, b, l, e1, h1, h2, h3, h4⟩ := h
  exact ⟨tp, g, b, l, e1, e _ _ h1, e _ _ h2, e _ _ h3, e _ _ h4⟩
inductive Paps (H : Hp) : List V → List Tri → Prop
  | nil : Paps H [] []
  | cons {v : V} {t : Tri} {vs : List V} {ts : List Tri} (h : Pap H v t) (r : Paps H vs ts) : Paps H (v :: vs) (t :: ts)
theorem Paps.mono {H H' : Hp} {vs : List V} {ts : List Tri} (e : Ex H H') (h : Paps H vs ts) : Paps H' vs ts := by
  induction h with
  | nil => exact .nil
  | cons h _ ih => exact .cons (h.mono e) ih
theorem Paps.append {H : Hp} {vs ws : List V} {ts us : List Tri} (h : Paps H vs ts) (k : Paps H ws us) : Paps H (vs ++ ws) (ts ++ us) := by
  induction h with
  | nil => exact k
  | cons h _ ih => exact .cons h ih
theorem Paps.len {H : Hp} {vs : List V} {ts : List Tri} (h : Paps H vs ts) : vs.length = ts.length := by
  induction h with
  | nil => rfl
  | cons _ _ ih => simp [ih]
theorem Paps.at {H : Hp} {vs : List V} {ts : List Tri} (h : Paps H vs ts) : ∀ {i : Nat} {v : V}, vs[i]? = some v → ∃ t, ts[i]? = some t ∧ Pap H v t := by
  induction h with
  | nil => intro i v hv; simp at hv
  | cons h _ ih =>
    intro i v hv
    cases i with
    | zero => simp at hv; subst hv; exact ⟨_, rfl, h⟩
    | succ n => simp at hv; obtain ⟨t, a, b⟩ := ih hv; exact ⟨t, by simpa using a, b⟩
def EvPap (te : TE) (σ : L2.St) (H : Hp) (t : Tri) : Prop := ∀ H1, Ex H H1 → ∀ Q : VK, (∀ v H2, Ex H1 H2 → Pap H2 v t → Q v H2) → te σ H1 Q
def EvPA (ta : TA) (σ : L2.St) (H : Hp) (ts : List Tri) : Prop := ∀ H1, Ex H H1 → ∀ Q : List V → Hp → Prop, (∀ vs H2, Ex H1 H2 → Paps H2 vs ts → Q vs H2) → ta σ H1 Q
def EvPs (te : TE) (σ : L2.St) (H : Hp) (ts : List Tri) : Prop := ∀ H1, Ex H H1 → ∀ Q : VK, (∀ p vs H2, Ex H1 H2 → H2 p = some (.lst vs) → Paps H2 vs ts → Q (.ref p) H2) → te σ H1 Q
section
variable {K : PySem.W.Frag} {mg : Str → Option Value} {CA CP CN : Addr} {σ : L2.St} {H : Hp} {Q : VK} {E : XK} {ta tb tc te : TE} {D : Ends} {tz tu : TS}
theorem eg_V {p : Addr} {G : List Int} (h : Ev te σ H (.ref p)) (hp : Il H p G) : EvG te σ H G := fun H1 e Q q => h H1 e _ fun H2 e2 => q p H2 e2 (e2 _ _ (e _ _ hp))
theorem eg_L {G : List Int} (h : EvL te σ H (G.map V.int)) : EvG te σ H G := fun H1 e Q q => h H1 e _ fun p H2 _ e2 hp => q p H2 e2 hp
theorem eg_mono {H' : Hp} {G : List Int} (e : Ex H H') (h : EvG te σ H G) : EvG te σ H' G := fun H1 a Q q => h H1 (e.trans a) Q q
theorem eg_cat {A B : List Int} (h1 : EvG ta σ H A) (h2 : EvG tb σ H B) (hl : A.length + B.length ≤ 100000) : EvL (tOp rCat ta tb) σ H ((A ++ B).map V.int) := fun H1 e Q q =>
  h1 H1 e _ fun a H2 e2 ha => h2 H2 (e.trans e2) _ fun b H3 e3 hb => ⟨a, b, A.map V.int, B.map V.int, rfl, rfl, e3 _ _ ha, hb, sz_of (by rw [List.length_map, List.length_map]; exact hl), fun p hp => q p _ (fresh_back (e2.trans e3) hp) ((e2.trans e3).trans (Ex.new hp)) (by rw [upd_same, List.map_append])⟩
theorem pap_tup {G B S : List Int} (h1 : EvG ta σ H G) (h2 : EvG tb σ H B) (h3 : EvG tc σ H S) : EvPap (tTup (tCons ta (tCons tb (tCons tc tNil)))) σ H (G, B, S) := fun H1 e Q q =>
  h1 H1 e _ fun g H2 e2 hg => h2 H2 (e.trans e2) _ fun b H3 e3 hb => h3 H3 ((e.trans e2).trans e3) _ fun s H4 e4 hs => ⟨sz_of (by decide : 3 ≤ 100000), fun p hp =>
    have ne : Ex H4 (upd H4 p (.tup [.ref g, .ref b, .ref s])) := Ex.new hp
    q _ _ (((e2.trans e3).trans e4).trans ne) ⟨p, g, b, s, rfl, upd_same, ne _ _ (e4 _ _ (e3 _ _ hg)), ne _ _ (e4 _ _ hb), ne _ _ hs⟩⟩
theorem pa_nilP : EvPA tNil σ H [] := fun H1 _ Q q => q [] H1 (Ex.refl H1) .nil
theorem pa_consP {tr : TA} {t : Tri} {ts : List Tri} (h : EvPap te σ H t) (hr : EvPA tr σ H ts) : EvPA (tCons te tr) σ H (t :: ts) := fun H1 e Q q =>
  h H1 e _ fun v H2 e2 hv => hr H2 (e.trans e2) _ fun vs H3 e3 hs => q _ H3 (e2.trans e3) (.cons (hv.mono e3) hs)
theorem ps_lstP {tr : TA} {ts : List Tri} (h : EvPA tr σ H ts) (hl : ts.length ≤ 1000) : EvPs (tLst tr) σ H ts := fun H1 e Q q =>
  h H1 e _ fun vs H2 e2 hv => ⟨sz_of (by rw [hv.len]; omega), fun p hp =>
    have ne : Ex H2 (upd H2 p (.lst vs)) := Ex.new hp
    q p vs _ (e2.trans ne) upd_same (hv.mono ne)⟩
theorem ps_catP {t1 t2 : List Tri} (h1 : EvPs ta σ H t1) (h2 : EvPs tb σ H t2) (hl : t1.length + t2.length ≤ 1000) : EvPs (tOp rCat ta tb) σ H (t1 ++ t2) := fun H1 e Q q =>
  h1 H1 e _ fun a vs H2 e2 ha hv => h2 H2 (e.trans e2) _ fun b ws H3 e3 hb hw => ⟨a, b, vs, ws, rfl, rfl, e3 _ _ ha, hb, sz_of (by rw [hv.len, hw.len]; omega), fun p hp =>
    have ne : Ex H3 (upd H3 p (.lst (vs ++ ws))) := Ex.new hp
    q p _ _ ((e2.trans e3).trans ne) upd_same (((hv.mono e3).append hw).mono ne)⟩
theorem ps_varP {p : Addr} {vs : List V} {ts : List Tri} (h : Ev te σ H (.ref p)) (hp : H p = some (.lst vs)) (hv : Paps H vs ts) : EvPs te σ H ts := fun H1 e Q q => h H1 e _ fun H2 e2 => q p vs H2 e2 (e2 _ _ (e _ _ hp)) (hv.mono (e.trans e2))
/-- x = a list of papers -/
theorem q_asgP {i : Nat} {ts : List Tri} (h : EvPs te σ H ts) (k : ∀ p vs H1, Ex H H1 → H1 p = some (.lst vs) → Paps H1 vs ts → tz D (σ.set i (some (.ref p))) H1) : tSeq (tAsg te (gName i)) tz D σ H := h H (Ex.refl H) _ fun p vs H1 e h1 h2 => k p vs H1 e h1 h2
/-- a, b, c = u, v, w by way of a tuple -/
theorem q_asgT3 {ta : TA} {u v w : V} {i j l : Nat} (h : EvA ta σ H [u, v, w]) (k : ∀ H1, Ex H H1 → tz D (((σ.set i (some u)).set j (some v)).set l (some w)) H1) : tSeq (tAsg (tTup ta) (gTup K 3 (gCons (gName i) (gCons (gName j) (gCons (gName l) gNil))))) tz D σ H :=
  (eu_tup h (by simp)) H (Ex.refl H) (fun v H1 => gTup K 3 (gCons (gName i) (gCons (gName j) (gCons (gName l) gNil))) v σ H1 fun σ' H' => tz D σ' H') fun p H1 _ e hp => ⟨p, [u, v, w], rfl, st_of hp, rfl, u, _, rfl, v, _, rfl, w, _, rfl, rfl, k H1 e⟩
/-- [new object for x in xs], what walks them given apart -/
def NewAt (H : Hp) (Dl : Addr) (f : Nat → HO) (ys : List V) : Prop := ∀ k y, ys[k]? = some y → ∃ p, y = .ref p ∧ p ≠ Dl ∧ H p = some (f k)
theorem new_turn {H1 H' : Hp} {Dl : Addr} {f : Nat → HO} {i : Nat} {σ2 : L2.St} (ex : Ex H1 H') (nD : H1 Dl = none) {ys : List V} (hy : H' Dl = some (.lst ys)) (hl : ys.length = i) (hi : i < 50000) (hn : NewAt H' Dl f ys) (he : EvN te σ2 H1 (f i)) :
    te σ2 H' fun y H4 => ∃ acc, H4 Dl = some (.lst acc) ∧ acc.length < sizeLine ∧ (Ex H1 (upd H4 Dl (.lst (acc ++ [y]))) ∧ ∃ zs, (upd H4 Dl (.lst (acc ++ [y]))) Dl = some (.lst zs) ∧ zs.length = i + 1 ∧ NewAt (upd H4 Dl (.lst (acc ++ [y]))) Dl f zs) := by
  refine he H' ex _ fun p H4 np e4 hp => ⟨ys, e4 _ _ hy, sz_lt (by omega), Ex.mut (ex.trans e4) nD, ys ++ [.ref p], upd_same, by simp [hl], fun k y hk => ?_⟩
  have nep : p ≠ Dl := fun z => by rw [z, hy] at np; cases np
  by_cases hki : k < ys.length
  · rw [List.getElem?_append_left hki] at hk
    obtain ⟨q, e1, n1, h1⟩ := hn k y hk
    exact ⟨q, e1, n1, by rw [upd_ne n1]; exact e4 _ _ h1⟩
  · rw [List.getElem?_append_right (by omega)] at hk
    have : k - ys.length = 0 := by
      cases hz : k - ys.length with
      | zero => rfl
      | succ n => rw [hz] at hk; simp at hk
    rw [this] at hk
    have ey : y = .ref p := by simpa using hk.symm
    have ek : k = i := by omega
    subst ek
    exact ⟨p, ey, nep, by rw [upd_ne nep]; exact hp⟩
/-- a list of new objects -/
def EvNs (te : TE) (σ : L2.St) (H : Hp) (n : Nat) (f : Nat → HO) : Prop := ∀ H1, Ex H H1 → ∀ Q : VK, (∀ p ys H2, Ex H1 H2 → H2 p = some (.lst ys) → ys.length = n → (∀ k y, ys[k]? = some y → ∃ a, y = .ref a ∧ H2 a = some (f k)) → Q (.ref p) H2) → te σ H1 Q
theorem en_lcU {xs : List V} {tl : TE} {j : Nat} {vs : List Nat} (f : Nat → HO) (h : EvU tl σ H xs) (hz : xs.length ≤ 40000) (hw : ∀ x, wipe ((wipe σ vs).set j (some x)) vs = wipe σ vs)
    (he : ∀ (i : Nat) (x : V) H1, xs[i]? = some x → Ex H H1 → EvN te ((wipe σ vs).set j (some x)) H1 (f i)) : EvNs (tLc (iTup K tl) (gName j) tYes te vs) σ H xs.length f := fun H0 e Q q => h H0 e _ fun a H1 ha e1 hx => ⟨a, rfl, ⟨xs, st_of hx⟩, fun Dl hD =>
  lc_tup (K := K) (xs := xs) (fun i H' => Ex H1 H' ∧ ∃ ys, H' Dl = some (.lst ys) ∧ ys.length = i ∧ NewAt H' Dl f ys) ⟨Ex.new hD, [], upd_same, rfl, fun k y hk => by simp at hk⟩ (fun i H' _ p => st_of (p.1 a _ hx)) (fun i x H' hi p => by
    obtain ⟨ex, ys, h1, h2, h3⟩ := p
    exact ⟨hw x, new_turn ex hD h1 h2 (by have := (List.getElem?_eq_some_iff.mp hi).1; omega) h3 (he i x H1 hi (e.trans e1))⟩)
    (fun H' ⟨ex, ys, h1, h2, h3⟩ => q Dl ys H' (e1.trans ex) h1 h2 fun k y hk => by obtain ⟨b, e1, _, h4⟩ := h3 k y hk; exact ⟨b, e1, h4⟩)⟩
theorem en_lcL {a : Addr} {xs : List V} {tl : TE} {j : Nat} {vs : List Nat} (f : Nat → HO) (h : Ev tl σ H (.ref a)) (hx : SqL K H a xs) (hz : xs.length ≤ 40000) (hw : ∀ x, wipe ((wipe σ vs).set j (some x)) vs = wipe σ vs)
    (he : ∀ (i : Nat) (x : V) H1, xs[i]? = some x → Ex H H1 → EvN te ((wipe σ vs).set j (some x)) H1 (f i)) : EvNs (tLc (iList K tl) (gName j) tYes te vs) σ H xs.length f := fun H0 e Q q => h H0 e _ fun H1 e1 => ⟨a, rfl, ⟨xs, ex_l (e.trans e1) hx⟩, fun Dl hD =>
  lc_list (K := K) (xs := xs) (fun i H' => Ex H1 H' ∧ ∃ ys, H' Dl = some (.lst ys) ∧ ys.length = i ∧ NewAt H' Dl f ys) ⟨Ex.new hD, [], upd_same, rfl, fun k y hk => by simp at hk⟩ (fun i H' _ p => ex_l ((e.trans e1).trans p.1) hx) (fun i x H' hi p => by
    obtain ⟨ex, ys, h1, h2, h3⟩ := p
    exact ⟨hw x, new_turn ex hD h1 h2 (by have := (List.getElem?_eq_some_iff.mp hi).1; omega) h3 (he i x H1 hi (e.trans e1))⟩)
    (fun H' ⟨ex, ys, h1, h2, h3⟩ => q Dl ys H' (e1.trans ex) h1 h2 fun k y hk => by obtain ⟨b, e1, _, h4⟩ := h3 k y hk; exact ⟨b, e1, h4⟩)⟩
theorem en_of (h : EvN te σ H o) : EvN te σ H o := h
/-- x = Paid(a, b, c) of lists that stand -/
theorem q_asgPd {i : Nat} {a b c : Addr} {G B S : List Int} (h1 : Ev ta σ H (.ref a)) (h2 : Ev tb σ H (.ref b)) (h3 : Ev tc σ H (.ref c)) (ha : Il H a G) (hb : Il H b B) (hc : Il H c S) (k : RetP CP G B S H (fun v H2 => tz D (σ.set i (some v)) H2)) :
    tSeq (tAsg (tMake CP (sp_Paid_init K CP) [] E (tCons ta (tCons tb (tCons tc tNil)))) (gName i)) tz D σ H := r_Paid h1 h2 h3 ha hb hc k
theorem q_forNU {xs : List V} {tl : TE} {g : TG} (h : EvU tl σ H xs) (k : ∀ p H1, H p = none → Ex H H1 → H1 p = some (.tup xs) → ∃ Pv : Nat → L2.St → Hp → Prop, Pv 0 σ H1 ∧ (∀ i σ' H', i ≤ xs.length → Pv i σ' H' → SqT K H' p xs) ∧
    (∀ i x σ' H', xs[i]? = some x → Pv i σ' H' → g x σ' H' fun σ2 H2 => tu { D with nx := Pv (i + 1), ct := Pv (i + 1), bk := tz D } σ2 H2) ∧ ∀ σ' H', Pv xs.length σ' H' → tz D σ' H') : tSeq (tFor (iTup K tl) g tu) tz D σ H := s_forNU (D := { D with nx := tz D }) h k
theorem q_asgN {i n : Nat} {f : Nat → HO} (h : EvNs te σ H n f) (k : ∀ p ys H1, Ex H H1 → H1 p = some (.lst ys) → ys.length = n → (∀ k y, ys[k]? = some y → ∃ a, y = .ref a ∧ H1 a = some (f k)) → tz D (σ.set i (some (.ref p))) H1) : tSeq (tAsg te (gName i)) tz D σ H := h H (Ex.refl H) _ fun p ys H1 e h1 h2 h3 => k p ys H1 e h1 h2 h3
theorem cut_to {xs : List V} {w : Int} (hw : 0 ≤ w) : cutV xs none (some w) = xs.take w.toNat := by
  have e : w = ((w.toNat : Nat) : Int) := by omega
  unfold cutV
  rw [e, HT.sIx_nat, HT.sIx_none, Int.toNat_natCast]
  simp [List.take_eq_take_iff]
theorem eg_tail {p : Addr} {G : List Int} (h : Ev te σ H (.ref p)) (hp : Il H p G) : EvL (tSl (rSlL K) te (tPart (tC (.int 1))) tNoPart) σ H ((G.drop 1).map V.int) := el_eq (el_sl h (eo_some ev_c) eo_none (sq_of hp)) (by rw [cut_from (by decide), List.map_drop]; rfl)
theorem eg_from {p : Addr} {G : List Int} {i : Int} (h : Ev te σ H (.ref p)) (hi : Ev ta σ H (.int i)) (h0 : 0 ≤ i) (hp : Il H p G) : EvL (tSl (rSlL K) te (tPart ta) tNoPart) σ H ((G.drop i.toNat).map V.int) := el_eq (el_sl h (eo_some hi) eo_none (sq_of hp)) (by rw [cut_from h0, List.map_drop])
theorem eg_to {p : Addr} {G : List Int} {i : Int} (h : Ev te σ H (.ref p)) (hi : Ev ta σ H (.int i)) (h0 : 0 ≤ i) (hp : Il H p G) : EvL (tSl (rSlL K) te tNoPart (tPart ta)) σ H ((G.take i.toNat).map V.int) := el_eq (el_sl h eo_none (eo_some hi) (sq_of hp)) (by rw [cut_to h0, List.map_take])
theorem paps_of {H : Hp} : ∀ {vs : List V} {ts : List Tri}, vs.length = ts.length → (∀ (i : Nat) v t, vs[i]? = some v → ts[i]? = some t → Pap H v t) → Paps H vs ts
  | [], [], _, _ => .nil
  | [], _ :: _, h, _ => by simp at h
  | _ :: _, [], h, _ => by simp at h
  | v :: vs, t :: ts, h, k => .cons (k 0 v t rfl rfl) (paps_of (by simpa using h) fun i v' t' h1 h2 => k (i + 1) v' t' (by simpa using h1) (by simpa using h2))
theorem ps_ofN {n : Nat} {f : Nat → HO} {ts : List Tri} (h : EvNs te σ H n f) (hn : n = ts.length) (hf : ∀ (k : Nat) t, ts[k]? = some t → ∃ g b s, f k = .tup [.ref g, .ref b, .ref s] ∧ Il H g t.1 ∧ Il H b t.2.1 ∧ Il H s t.2.2) : EvPs te σ H ts := fun H1 e Q q =>
  h H1 e _ fun p ys H2 e2 hp hl hy => q p ys H2 e2 hp (paps_of (hl.trans hn) fun i v t hv ht => by
    obtain ⟨a, rfl, ha⟩ := hy i v hv
    obtain ⟨g, b, s, ef, h1, h2, h3⟩ := hf i t ht
    rw [ef] at ha
    exact ⟨a, g, b, s, rfl, ha, e2 _ _ (e _ _ h1), e2 _ _ (e _ _ h2), e2 _ _ (e _ _ h3)⟩)
/-- Paid(..) of lists, new or old -/
theorem r_PaidG {G B S : List Int} (h1 : EvG ta σ H G) (h2 : EvG tb σ H B) (h3 : EvG tc σ H S) (k : RetP CP G B S H Q) :
    tMake CP (sp_Paid_init K CP) [] E (tCons ta (tCons tb (tCons tc tNil))) σ H Q :=
  h1 H (Ex.refl H) _ fun a H1 e1 ha => h2 H1 e1 _ fun b H2 e2 hb => h3 H2 (e1.trans e2) _ fun c H3 e3 hc x dx nx ndx ne =>
    have e : Ex H H3 := (e1.trans e2).trans e3
    ⟨x, dx, a, b, c, G, B, S, rfl, upd_same, made_old nx ndx (e3 _ _ (e2 _ _ ha)), made_old nx ndx (e3 _ _ hb), made_old nx ndx hc, fun lg lb lh H4 n1 n2 n3 d1 d2 d3 k4 hP =>
      ⟨rfl, k x dx lg lb lh H4 (fresh_back e nx) (fresh_back e ndx) (fresh_back e (made_free n1)) (fresh_back e (made_free n2)) (fresh_back e (made_free n3)) d1 d2 d3 (e.trans (made_ex nx ndx k4)) hP⟩⟩
/-- Paid(..).shows(coins, amount) -/
theorem ev_newP {tl tn : TE} {G B S cs : List Int} {a : Int} (h1 : EvG ta σ H G) (h2 : EvG tb σ H B) (h3 : EvG tc σ H S) (h4 : EvG tl σ H cs) (h5 : Ev tn σ H (.int a)) (hc : Coins cs) (ha : 0 ≤ a ∧ a ≤ 5000) (hl : G.length ≤ 30000 ∧ B.length ≤ 30000 ∧ S.length ≤ 30000) :
    Ev (tMeth CP "shows" (sp_Paid_shows K CP) [] E (tMake CP (sp_Paid_init K CP) [] E (tCons ta (tCons tb (tCons tc tNil)))) (tCons tl (tCons tn tNil))) σ H (.bl (showB cs a G B S)) := fun H1 e Q q =>
  r_PaidG (eg_mono e h1) (eg_mono e h2) (eg_mono e h3) fun x dx lg lb lh H2 n1 n2 n3 n4 n5 d1 d2 d3 e2 hP => ⟨x, dx, _, rfl, hP.ob, pf_shows lg lb lh, h4 H2 (e.trans e2) _ fun p H3 e3 hp => h5 H3 ((e.trans e2).trans e3) _ fun H4 e4 =>
    ⟨x, dx, lg, lb, lh, p, G, B, S, cs, a, rfl, hP.mono (e3.trans e4), e4 _ _ hp, hc, ha, hl, fun H5 e5 => q H5 (((e2.trans e3).trans e4).trans e5)⟩⟩
/-- papers stay where their own list grows -/
theorem Pap.upd {l : Addr} {v0 : Addr} {r : List V} {o : HO} {v : V} {t : Tri} (h : Pap H v t) (hl : H l = some (.lst (.ref v0 :: r))) : Pap (L2.upd H l o) v t := by
  obtain ⟨tp, g, b, s, rfl, h1, h2, h3, h4⟩ := h
  have n0 : tp ≠ l := ne_of h1 hl (by intro z; cases z)
  have nn : ∀ {y : Addr} {G : List Int}, Il H y G → y ≠ l := fun {y G} hy => ne_of hy hl (by intro z; cases G <;> simp at z)
  exact ⟨tp, g, b, s, rfl, by rw [upd_ne n0]; exact h1, by rw [Il, upd_ne (nn h2)]; exact h2, by rw [Il, upd_ne (nn h3)]; exact h3, by rw [Il, upd_ne (nn h4)]; exact h4⟩
theorem Paps.upd {l : Addr} {v0 : Addr} {r : List V} {o : HO} {vs : List V} {ts : List Tri} (h : Paps H vs ts) (hl : H l = some (.lst (.ref v0 :: r))) : Paps (L2.upd H l o) vs ts := by
  induction h with
  | nil => exact .nil
  | cons h _ ih => exact .cons (h.upd hl) ih
theorem q_appP {l : Addr} {vs : List V} {t : Tri} {ts : List Tri} (ha : Ev ta σ H (.ref l)) (hl : H l = some (.lst vs)) (hv : Paps H vs ts) (h0 : ts ≠ []) (hz : ts.length ≤ 1000) (h : EvPap te σ H t) (k : ∀ ws H1, H1 l = some (.lst ws) → Paps H1 ws (ts ++ [t]) → tz D σ H1) :
    tSeq (tDrop (tBM K "list" rAppend ta (tCons te tNil))) tz D σ H := by
  cases hv with
  | nil => exact absurd rfl h0
  | @cons v t0 vs ts hp hr =>
  obtain ⟨tp, g, b, s, rfl, _⟩ := id hp
  refine ha H (Ex.refl H) _ fun H1 e1 => ⟨Or.inl ⟨rfl, _, sq_of (e1 l _ hl)⟩, h H1 e1 _ fun w H2 e2 hw => ?_⟩
  have hl2 : H2 l = some (.lst (.ref tp :: vs)) := e2 _ _ (e1 _ _ hl)
  have hv2 : Paps H2 (.ref tp :: vs) (t0 :: ts) := (Paps.cons hp hr).mono (e1.trans e2)
  refine ⟨l, _, w, rfl, rfl, hl2, sz_lt (by have := hv2.len; simp at this hz ⊢; omega), k _ _ upd_same ((hv2.upd hl2).append (.cons (hw.upd hl2) .nil))⟩
/-- [value for a, b, c in papers] -/
theorem el_lcP {p : Addr} {ws : List V} {ts : List Tri} {i j l : Nat} {vs : List Nat} (f : Tri → V) (h : Ev ta σ H (.ref p)) (hp : H p = some (.lst ws)) (hv : Paps H ws ts) (hz : ts.length ≤ 40000) (hw : ∀ x y z, wipe ((((wipe σ vs).set i (some x)).set j (some y)).set l (some z)) vs = wipe σ vs)
    (he : ∀ (t : Tri) (g b s : Addr) H1, t ∈ ts → Ex H H1 → Il H1 g t.1 → Il H1 b t.2.1 → Il H1 s t.2.2 → Ev te ((((wipe σ vs).set i (some (.ref g))).set j (some (.ref b))).set l (some (.ref s))) H1 (f t)) :
    EvL (tLc (iList K ta) (gTup K 3 (gCons (gName i) (gCons (gName j) (gCons (gName l) gNil)))) tYes te vs) σ H (ts.map f) := fun H0 e Q q => h H0 e _ fun H1 e1 => ⟨p, rfl, ⟨ws, sq_of (e1 _ _ (e _ _ hp))⟩, fun Dl hD =>
  lc_list (K := K) (xs := ws) (Cw H1 (fun _ => true) (fun k => f (ts.getD k ([], [], []))) Dl) ⟨hD, Ex.new hD, upd_same⟩ (fun n H' _ w => sq_of (w.2.1 _ _ (e1 _ _ (e _ _ hp)))) (fun n x H' hn w => by
    obtain ⟨t, ht, hpap⟩ := (hv.mono (e.trans e1)).at hn
    obtain ⟨tp, g, b, s, rfl, h1, h2, h3, h4⟩ := hpap
    refine ⟨tp, [.ref g, .ref b, .ref s], rfl, st_of (w.2.1 _ _ h1), rfl, _, _, rfl, _, _, rfl, _, _, rfl, rfl, hw _ _ _, cw_turn (t := tYes) w (by have := (List.getElem?_eq_some_iff.mp ht).1; omega) (fun H1 _ Q q => q H1 (Ex.refl H1)) fun _ => ?_⟩
    have : ts.getD n ([], [], []) = t := by rw [List.getD_eq_getElem?_getD, ht]; rfl
    rw [this]
    exact he t g b s H1 (List.mem_of_getElem? ht) (e.trans e1) h2 h3 h4)
    (fun H' w => q Dl H' (fresh_back e1 w.1) (e1.trans w.2.1) (by
      rw [w.2.2, given_all, hv.len, range_map_get ts f ([], [], [])]))⟩
/-- for a, b, c in papers -/
theorem s_forP {p : Addr} {ws : List V} {ts : List Tri} {i j l : Nat} (h : Ev ta σ H (.ref p)) (hp : H p = some (.lst ws)) (hv : Paps H ws ts) (Pv : L2.St → Prop) (h0 : Pv σ)
    (hs : ∀ (t : Tri) (g b s : Addr) σ' H', t ∈ ts → Pv σ' → Ex H H' → Il H' g t.1 → Il H' b t.2.1 → Il H' s t.2.2 → tu { D with nx := fun σ2 H2 => Pv σ2 ∧ Ex H H2, ct := fun σ2 H2 => Pv σ2 ∧ Ex H H2, bk := D.nx } (((σ'.set i (some (.ref g))).set j (some (.ref b))).set l (some (.ref s))) H')
    (hd : ∀ σ' H', Pv σ' → Ex H H' → D.nx σ' H') : tFor (iList K ta) (gTup K 3 (gCons (gName i) (gCons (gName j) (gCons (gName l) gNil)))) tu D σ H :=
  s_forL (K := K) (xs := ws) h (sq_of hp) (fun _ σ' H' => Pv σ' ∧ Ex H H') (fun H1 e1 => ⟨h0, e1⟩) (fun _ σ' H' _ w => sq_of (w.2 _ _ hp)) (fun n x σ' H' hn w => by
    obtain ⟨t, ht, hpap⟩ := (hv.mono w.2).at hn
    obtain ⟨tp, g, b, s, rfl, h1, h2, h3, h4⟩ := hpap
    exact ⟨tp, [.ref g, .ref b, .ref s], rfl, st_of h1, rfl, _, _, rfl, _, _, rfl, _, _, rfl, rfl, hs t g b s σ' H' (List.mem_of_getElem? ht) w.1 w.2 h2 h3 h4⟩) fun σ' H' w => hd σ' H' w.1 w.2
end
end Cb

set_option Elab.async false
set_option linter.all false
set_option maxRecDepth 100000
set_option maxHeartbeats 4000000
/-! Errors: raised, caught, asked. -/
namespace Cb
open PySem PySem.Spec PyProof.Rows L2 Evl
/-- an error's class -/
structure Xc (K : PySem.W.Frag) (mg : Str → Option Value) (x : Str) (C CE : Addr) : Prop where
  g : mg x = some (.ref C)
  x : PySem.W.excIn K C [.type "ValueError", .type "Exception", .type "BaseException", .type "object"] "ValueError.__new__" = true
  k : PySem.W.keepIn K (.ref C) = true
  b : PySem.W.subIn K (.ref C) (.type "BaseException") = some true
  t : PySem.W.typeIn K (.ref C) = some (.type "type")
  s : PySem.W.subIn K (.ref C) (.ref CE) = some true
  e : ExcC K C
/-- the errors: ChangeError, BadCoins, BadAmount, NoWay -/
structure Xcs (K : PySem.W.Frag) (mg : Str → Option Value) (CE CB CM CW : Addr) : Prop where
  gE : mg "ChangeError" = some (.ref CE)
  bE : PySem.W.subIn K (.ref CE) (.type "BaseException") = some true
  dE : PySem.W.hasDictIn K CE = true
  tE : PySem.W.typeIn K (.ref CE) = some (.type "type")
  B : Xc K mg "BadCoins" CB CE
  M : Xc K mg "BadAmount" CM CE
  W : Xc K mg "NoWay" CW CE
  kBB : PySem.W.kitOne K (.ref CB) (.ref CB) = some true
  kBM : PySem.W.kitOne K (.ref CB) (.ref CM) = some false
  kBW : PySem.W.kitOne K (.ref CB) (.ref CW) = some false
  kMB : PySem.W.kitOne K (.ref CM) (.ref CB) = some false
  kMM : PySem.W.kitOne K (.ref CM) (.ref CM) = some true
  kMW : PySem.W.kitOne K (.ref CM) (.ref CW) = some false
  kWB : PySem.W.kitOne K (.ref CW) (.ref CB) = some false
  kWM : PySem.W.kitOne K (.ref CW) (.ref CM) = some false
  kWW : PySem.W.kitOne K (.ref CW) (.ref CW) = some true
abbrev rInt1 : List V → Hp → VK → Prop := fun xs H Q => (∃ i, xs = [.int i] ∧ Q (.int i) H) ∨ ∃ k, xs = [.bl k] ∧ Q (.int (if k then 1 else 0)) H
section
variable {X : Cx}
/-- raise X('..') in a def that may raise -/
def tRaise (E : XK) (C : Addr) : TS := fun _ _ H => E (.ref C) none H
theorem ps_raiseC {C CE : Addr} {W : WX} {E : XK} {x m : Str} {j : Nat} {p p2 p3 pos : Pos} (hc : X.calm = true) (tk : Takes X (fun cls d _ H => E cls d H)) (Y : Xc X.K X.mg x C CE) (hg : Gl X x) (hdb : (x == ("__debug__" : Str)) = false := by decide) :
    PS X (.Raise (some (.Call (.Name x p) [.Constant (.str m) j p2] [] p3)) none pos) (tRaise E C) := ps_raise hc tk (pmk_own PySem.F.excBase_ValueError Y.x Y.g Y.k (raises_own Y.b Y.t) hg hdb)
/-- try .. except c as n -/
def tTryAs (K : PySem.W.Frag) (c : Value) (i : Nat) (tb : WX → TS) (ts : Addr → Value → Option Addr → TS) : TS := fun D σ H => tb (wAs K c i ts (fun _ _ _ _ => False) D) D σ H
/-- the suite, for an error of an own class -/
def tForCls (K : PySem.W.Frag) (f : Addr → TS) : Value → Option Addr → TS := fun cls d Dn σ H => ∃ C, cls = .ref C ∧ d = none ∧ ExcC K C ∧ f C Dn σ H
theorem pss_forCls {b : List Stmt} {f : Addr → TS} {cls : Value} {d : Option Addr} {oe : Obj} (hz : Zc cls d oe) (k : ∀ C, ExcC X.K C → Zc (.ref C) none oe → PSs X b (f C)) : PSs X b (tForCls X.K f cls d) := ⟨fun pins s σ H D I h => by
  obtain ⟨C, rfl, rfl, hC, h⟩ := h
  exact (k C hC hz).run pins s σ H D I h⟩
theorem pass0X {P : Program} {w : World} {X : Cx} : Passes (L2.CX P w) X E0 := fun _ _ _ _ _ _ _ h => by
  obtain ⟨_, _, _, _, _, _, _, _, _, _, _, _, e⟩ := h
  exact e.elim
/-- a def that may raise, called where it doesn't -/
theorem pc_callX {k : Nat} {x : Str} {ps : List Str} {sp : Sp} {e : Expr} {es : List Expr} {t : TA} {p pos : Pos} (C : Cal X.prog X.w X.K X.mg X.base (L2.CX X.prog X.w) k x ps sp) (hr : Room k X.A) (ha : PA X (e :: es) t)
    (hg : Gl X x := by rfl) (hdb : (x == ("__debug__" : Str)) = false := by decide) (he : starEach (e :: es) X.env = (false, eval e X.env) :: starEach es X.env := by rfl) (hpl : (backTo pos (starEach es X.env)).any (·.1) = false := by rfl) :
    PE X (.Call (.Name x p) (e :: es) [] pos) (tCall sp [] E0 t) := by
  obtain ⟨f, fd, F, hm, hk, hb⟩ := C.ex
  exact pe_call F hr hg hm hk hb .nil pass0X ha hdb he hpl
/-- and where it is in a try -/
theorem pc_callS {k : Nat} {x : Str} {ps : List Str} {sp : Sp} {W : WX} {e : Expr} {es : List Expr} {t : TA} {p pos : Pos} (C : Cal X.prog X.w X.K X.mg X.base (L2.CX X.prog X.w) k x ps sp) (hr : Room k X.A) (tk : Takes X W) (ha : PA X (e :: es) t)
    (hg : Gl X x := by rfl) (hdb : (x == ("__debug__" : Str)) = false := by decide) (he : starEach (e :: es) X.env = (false, eval e X.env) :: starEach es X.env := by rfl) (hpl : (backTo pos (starEach es X.env)).any (·.1) = false := by rfl) :
    PE X (.Call (.Name x p) (e :: es) [] pos) (tCallS sp (WE W) t) := by
  obtain ⟨f, fd, F, hm, hk, hb⟩ := C.ex
  exact pe_callS F hr hg hm hk hb (fun σ => passAt tk σ) ha hdb he hpl
end
theorem FnAt.okX {P : Program} {w : World} {K : PySem.W.Frag} {mg : Str → Option Value} {base : Heap} {x : Str} {st : Stmt} {N ps : List Str} {k : Nat} {sp : Sp} {t : XK → TS} (F : FnAt K mg x st ps) (S : FnScope N ps (defScope st)) (len : ∀ vs H Q E, sp vs H Q E → vs.length = ps.length)
    (pure : ∀ vs H Q E, sp vs H Q E → t E { nx := fun _ H' => Q .non H', rt := Q } (start N vs) H)
    (body : ∀ (f : Addr) (cdv : Value) (A : Around) (outer : List Env) (s : Shared) (H : Hp) (E : XK), Room k (A.deeper (envOfC x (defScope st) s.heap.objs.size f cdv)) →
      PSs (cxOf (L2.CX P w) P w K mg base N x (defScope st) f cdv A outer s H E) (defBody st) (t E)) : Cal P w K mg base (L2.CX P w) (k + 1) x ps sp := by
  obtain ⟨f, fd, F, hm, hb⟩ := F.ex
  exact ⟨f, fd, F.okX S len fun cdv A outer s H vs Q E hr h => ⟨t E, body f cdv A outer s H E hr, pure vs H Q E h⟩, hm, F.kp, hb⟩
end Cb

set_option linter.all false
/-! Levels: all places that so many coins come to, in a room. Plain Lean. -/
namespace Chg
/-- seen: all of at most n steps; line: those whose neighbours are not looked at yet -/
structure Lv (cs : List Int) (lo hi : Int) (n : Nat) (S L : List Int) : Prop where
  sound : ∀ x ∈ S, ∃ k, k ≤ n ∧ Walk cs lo hi k 0 x
  all : ∀ (k : Nat) (x : Int), k ≤ n → Walk cs lo hi k 0 x → x ∈ S
  line : ∀ x ∈ L, x ∈ S
  next : ∀ x s, x ∈ S → x ∉ L → Stp cs s → lo ≤ x + s → x + s < hi → x + s ∈ S
  nd : S.Nodup
  rng : ∀ x ∈ S, lo ≤ x ∧ x < hi
theorem Lv.start {cs : List Int} {lo hi : Int} (h : lo ≤ 0 ∧ 0 < hi) : Lv cs lo hi 0 [0] [0] where
  sound := fun x hx => ⟨0, Nat.le_refl _, by have : x = 0 := by simpa using hx
                                             subst this; rfl⟩
  all := fun k x hk hw => by
    have : k = 0 := by omega
    subst this
    have : (0 : Int) = x := hw
    simp [← this]
  line := fun x hx => hx
  next := fun x s h1 h2 => absurd h1 h2
  nd := by simp
  rng := fun x hx => by
    have : x = 0 := by simpa using hx
    omega
/-- within a round: M the new ones, D what was looked at -/
structure Lm (cs : List Int) (lo hi : Int) (n : Nat) (S L : List Int) (D : Int → Int → Prop) (M : List Int) : Prop where
  lv : Lv cs lo hi n S L
  more : ∀ x ∈ M, Walk cs lo hi (n + 1) 0 x ∨ ∃ k, k ≤ n ∧ Walk cs lo hi k 0 x
  done : ∀ x s, D x s → lo ≤ x + s → x + s < hi → x + s ∈ S ++ M
  nd : (S ++ M).Nodup
  rng : ∀ x ∈ S ++ M, lo ≤ x ∧ x < hi
theorem Lv.turn {cs : List Int} {lo hi : Int} {n : Nat} {S L : List Int} (h : Lv cs lo hi n S L) : Lm cs lo hi n S L (fun _ _ => False) [] where
  lv := h
  more := fun x hx => by simp at hx
  done := fun x s hf => hf.elim
  nd := by rw [List.append_nil]; exact h.nd
  rng := by rw [List.append_nil]; exact h.rng
theorem Lm.weak {cs : List Int} {lo hi : Int} {n : Nat} {S L M : List Int} {D D' : Int → Int → Prop} (h : Lm cs lo hi n S L D M) (hD : ∀ x s, D' x s → D x s) : Lm cs lo hi n S L D' M :=
  ⟨h.lv, h.more, fun x s d => h.done x s (hD x s d), h.nd, h.rng⟩
/-- looked at, nothing new -/
theorem Lm.old {cs : List Int} {lo hi : Int} {n : Nat} {S L M : List Int} {D : Int → Int → Prop} {x s : Int} (h : Lm cs lo hi n S L D M) (ho : lo ≤ x + s → x + s < hi → x + s ∈ S ++ M) : Lm cs lo hi n S L (fun x' s' => D x' s' ∨ (x' = x ∧ s' = s)) M :=
  ⟨h.lv, h.more, fun x' s' d h1 h2 => by
    rcases d with d | ⟨rfl, rfl⟩
    · exact h.done x' s' d h1 h2
    · exact ho h1 h2, h.nd, h.rng⟩
/-- looked at, new -/
theorem Lm.new {cs : List Int} {lo hi : Int} {n : Nat} {S L M : List Int} {D : Int → Int → Prop} {x s : Int} (h : Lm cs lo hi n S L D M) (hx : x ∈ L) (hs : Stp cs s) (h1 : lo ≤ x + s) (h2 : x + s < hi) (hn : x + s ∉ S ++ M) :
    Lm cs lo hi n S L (fun x' s' => D x' s' ∨ (x' = x ∧ s' = s)) (M ++ [x + s]) := by
  refine ⟨h.lv, fun y hy => ?_, fun x' s' d a b => ?_, ?_, fun y hy => ?_⟩
  · rcases List.mem_append.mp hy with hy | hy
    · exact h.more y hy
    · have : y = x + s := by simpa using hy
      subst this
      obtain ⟨k, hk, hw⟩ := h.lv.sound x (h.lv.line x hx)
      by_cases e : k = n
      · subst e; exact .inl (hw.snoc hs h1 h2)
      · exact .inr ⟨k + 1, by omega, hw.snoc hs h1 h2⟩
  · rw [← List.append_assoc]
    rcases d with d | ⟨rfl, rfl⟩
    · exact List.mem_append.mpr (.inl (h.done x' s' d a b))
    · exact List.mem_append.mpr (.inr (by simp))
  · rw [← List.append_assoc]
    rw [List.nodup_append]
    exact ⟨h.nd, by simp, fun a ha b hb e => hn (by
      have : b = x + s := by simpa using hb
      rw [← this, ← e]; exact ha)⟩
  · rw [← List.append_assoc] at hy
    rcases List.mem_append.mp hy with hy | hy
    · exact h.rng y hy
    · have : y = x + s := by simpa using hy
      omega
theorem Lm.fin {cs : List Int} {lo hi : Int} {n : Nat} {S L M : List Int} {D : Int → Int → Prop} (h : Lm cs lo hi n S L D M) (hD : ∀ x s, x ∈ L → Stp cs s → D x s) : Lv cs lo hi (n + 1) (S ++ M) M where
  sound := fun x hx => by
    rcases List.mem_append.mp hx with hx | hx
    · obtain ⟨k, hk, hw⟩ := h.lv.sound x hx
      exact ⟨k, by omega, hw⟩
    · rcases h.more x hx with hw | ⟨k, hk, hw⟩
      · exact ⟨n + 1, Nat.le_refl _, hw⟩
      · exact ⟨k, by omega, hw⟩
  all := fun k x hk hw => by
    by_cases e : k ≤ n
    · exact List.mem_append.mpr (.inl (h.lv.all k x e hw))
    · have : k = n + 1 := by omega
      subst this
      obtain ⟨s, hs, h1, h2, hw'⟩ := hw.unsnoc
      have hy : x - s ∈ S := h.lv.all n (x - s) (Nat.le_refl _) hw'
      have ex : x - s + s = x := by omega
      by_cases hl : x - s ∈ L
      · have := h.done (x - s) s (hD _ _ hl hs) (by omega) (by omega)
        rw [ex] at this
        exact this
      · have := h.lv.next (x - s) s hy hl hs (by omega) (by omega)
        rw [ex] at this
        exact List.mem_append.mpr (.inl this)
  line := fun x hx => List.mem_append.mpr (.inr hx)
  next := fun x s hx hl hs h1 h2 => by
    rcases List.mem_append.mp hx with hx | hx
    · by_cases hl2 : x ∈ L
      · exact h.done x s (hD x s hl2 hs) h1 h2
      · exact List.mem_append.mpr (.inl (h.lv.next x s hx hl2 hs h1 h2))
    · exact absurd hx hl
  nd := h.nd
  rng := h.rng
/-- not more of them than places -/
theorem nodup_len {S : List Int} {lo hi : Int} (hn : S.Nodup) (hr : ∀ x ∈ S, lo ≤ x ∧ x < hi) : S.length ≤ (hi - lo).toNat := by
  refine Nat.le_of_not_lt fun h => ?_
  obtain ⟨i, j, h1, h2, h3⟩ := pigeon (hi - lo).toNat (fun i => (S.getD i 0 - lo).toNat) fun i hi' => by
    have hl : i < S.length := by omega
    have := hr (S.getD i 0) (by rw [List.getD_eq_getElem?_getD, List.getElem?_eq_getElem hl]; exact List.getElem_mem hl)
    omega
  have a1 : i < S.length := by omega
  have a2 : j < S.length := by omega
  have e1 : S.getD i 0 = S[i] := by rw [List.getD_eq_getElem?_getD, List.getElem?_eq_getElem a1]; rfl
  have e2 : S.getD j 0 = S[j] := by rw [List.getD_eq_getElem?_getD, List.getElem?_eq_getElem a2]; rfl
  rw [e1, e2] at h3
  have r1 := hr S[i] (List.getElem_mem a1)
  have r2 := hr S[j] (List.getElem_mem a2)
  have : S[i] = S[j] := by omega
  have := (List.getElem_inj hn).mp this
  omega
theorem Lv.len {cs : List Int} {lo hi : Int} {n : Nat} {S L : List Int} (h : Lv cs lo hi n S L) : S.length ≤ (hi - lo).toNat := nodup_len h.nd h.rng
theorem Lm.len {cs : List Int} {lo hi : Int} {n : Nat} {S L M : List Int} {D : Int → Int → Prop} (h : Lm cs lo hi n S L D M) : S.length + M.length ≤ (hi - lo).toNat := by
  have := nodup_len h.nd h.rng
  rwa [List.length_append] at this
/-- at the amount: as many as few says -/
theorem Lv.few_le {cs : List Int} {lo hi a : Int} {n : Nat} {S L : List Int} (h : Lv cs lo hi n S L) (ha : a ∈ S) : few cs a ≤ n := by
  obtain ⟨k, hk, hw⟩ := h.sound a ha
  have := hw.reach
  rw [Int.sub_zero] at this
  have := (Chg.few_le this).1
  omega
theorem Lv.lt_few {cs : List Int} {lo hi a : Int} {n : Nat} {S L : List Int} (h : Lv cs lo hi n S L) (hc : ∀ w ∈ cs, 0 < w ∧ w ≤ 0 - lo ∧ w ≤ hi - 0) (hz : lo ≤ 0 ∧ 0 < hi) (ht : lo ≤ a ∧ a < hi) (hcan : Can cs a) (ha : a ∉ S) : (n : Int) < few cs a := by
  obtain ⟨k, hk, hl⟩ := few_can hcan
  refine Int.lt_of_not_ge fun hle => ha ?_
  refine h.all k a (by omega) ((walk_iff hc hz ht).mpr ?_)
  rw [Int.sub_zero]; exact hl.1
end Chg

set_option Elab.async false
set_option linter.all false
set_option maxRecDepth 100000
set_option maxHeartbeats 4000000
/-! Promises and readings: fewest that may raise, the law's own fewest. -/
namespace Cb
open PySem PySem.Spec PyProof.Rows L2 Evl Chg
def sp__law_fewest (K : PySem.W.Frag) : Sp := fun vs H Q _ => ∃ (p : Addr) (cs : List Int) (a r : Int), vs = [.ref p, .int a, .int r] ∧ Il H p cs ∧ (∀ w ∈ cs, 0 < w ∧ w ≤ r) ∧ cs.length ≤ 1000 ∧ (0 ≤ a ∧ a ≤ 5000) ∧ (0 ≤ r ∧ r ≤ 1000) ∧ gc cs ∣ a ∧ RetV (.int (few cs a)) H Q
def sp_fewest_X (K : PySem.W.Frag) (CW : Addr) : Sp := fun vs H Q E => ∃ (p : Addr) (cs : List Int) (a : Int), vs = [.ref p, .int a] ∧ Il H p cs ∧ Coins cs ∧ 0 ≤ a ∧ (gc cs ∣ a → RetV (.int (few cs a)) H Q) ∧ (¬ gc cs ∣ a → ∀ H', Ex H H' → E (.ref CW) none H')
def t_fewest_X (K : PySem.W.Frag) (CW : Addr) (E : XK) : TS :=
  (tSeq (tDrop (tCall (sp_check_coins K) [] E0 (tCons (tVar 0) tNil)))
  (tSeq (tDrop (tCall (sp_check_amount K) [] E0 (tCons (tVar 1) (tCons (tUn rNegI (tC (.int 1))) tNil))))
  (tSeq (tIfS (tTest (tOp rGtI (tOp rModI (tVar 1) (tCall (sp_common K) [] E0 (tCons (tVar 0) tNil))) (tC (.int 0)))) (tRaise E CW) tNext)
  (tSeq (tAsg (tOp (rIxL K) (tVar 0) (tUn rNegI (tC (.int 1)))) (gName 2))
  (tSeq (tAsg (tCB rMax2 (tCons (tC (.int 0)) (tCons (tOp rDivI (tOp rSubI (tVar 1) (tOp rMulI (tVar 2) (tVar 2))) (tVar 2)) tNil))) (gName 3))
  (tSeq (tAsg (tOp rSubI (tVar 1) (tOp rMulI (tVar 3) (tVar 2))) (gName 4))
  (tRet (tOp rAddI (tVar 3) (tOp (rIxL K) (tCall (sp_heights_of K) [] E0 (tCons (tVar 0) (tCons (tVar 4) tNil))) (tOp rAddI (tVar 2) (tVar 4)))))))))))
def t__law_fewest (K : PySem.W.Frag) : TS :=
  (tSeq (tPar 3 4 (tCons (tLst (tCons (tC (.int 0)) tNil)) (tCons (tC (.int 0)) tNil)))
  (tSeq (tAsg tDNewK (gName 5))
  (tSeq (sDPut (tVar 5) (tC (.int 0)) (tC (.bl true)))
  (tSeq (tWhile (tB (tDNotIn (tVar 1) (tVar 5))) (tSeq (tAsg (tLst tNil) (gName 6))
  (tSeq (tFor (iList K (tVar 3)) (gName 7) (tFor (iList K (tVar 0)) (gName 8) (tFor (iTup K (tTup (tCons (tOp rSubI (tVar 7) (tVar 8)) (tCons (tOp rAddI (tVar 7) (tVar 8)) tNil)))) (gName 9) (tIfS (tAnd (tTest (tChain rLeI rLeI (tUn rNegI (tVar 2)) (tVar 9) (tOp rAddI (tVar 1) (tVar 2)))) (tB (tDNotIn (tVar 9) (tVar 5)))) (tSeq (sDPut (tVar 5) (tVar 9) (tC (.bl true)))
  (tDrop (tBM K "list" rAppend (tVar 6) (tCons (tVar 9) tNil)))) tNext))))
  (tPar 3 4 (tCons (tVar 6) (tCons (tOp rAddI (tVar 4) (tC (.int 1))) tNil))))))
  (tRet (tVar 4))))))
end Cb

set_option Elab.async false
set_option linter.all false
set_option maxRecDepth 100000
set_option maxHeartbeats 4000000
/-! fewest that may raise; the law's own fewest. -/
namespace Cb
open PySem PySem.Spec PyProof.Rows L2 Evl Chg
section
variable {K : PySem.W.Frag} {CW : Addr} {vs : List V} {H : Hp} {Q : VK} {E : XK}
theorem len_fewest_X (h : sp_fewest_X K CW vs H Q E) : vs.length = (["coins", "amount"] : List Str).length := by
  obtain ⟨p, cs, a, rfl, _⟩ := h
  rfl
theorem pure_fewest_X (h : sp_fewest_X K CW vs H Q E) : t_fewest_X K CW E (endsOf Q) (start ["coins", "amount", "great", "more", "left"] vs) H := by
  obtain ⟨p, cs, a, rfl, hp, hc, ha, q, qe⟩ := h
  have gp := hc.gpos
  refine q_drop (ev_callV (ea_cons (ev_var rfl) ea_nil) fun H1 e Q' q' => ⟨p, cs, rfl, e _ _ hp, hc, q'⟩) fun H1 e1 => ?_
  refine q_drop (ev_callV (ea_cons (ev_var rfl) (ea_cons ev_m1 ea_nil)) fun H2 e Q' q' => ⟨a, -1, rfl, ha, fun z => absurd z (by decide), q'⟩) fun H2 e2 => ?_
  have hp2 : Il H2 p cs := e2 _ _ (e1 _ _ hp)
  refine q_when (b := decide (0 < a % gc cs)) (et_test (ev_cmp (p := fun i j => decide (j < i)) (ev_mod (ev_var rfl) (ev_callV (ea_cons (ev_var rfl) ea_nil) fun H3 e Q' q' => ⟨p, cs, rfl, e _ _ hp2, fun w hw => by have := hc.wor w hw; omega, by have := hc.six; omega, q'⟩) gp) ev_c)) (fun hb H3 e3 => ?_) fun hb H3 e3 => ?_
  · exact qe (fun d => by
      have := Int.emod_eq_zero_of_dvd d
      rw [this] at hb
      cases hb) H3 ((e1.trans e2).trans e3)
  · have hd : gc cs ∣ a := by
      have h0 := Int.emod_nonneg a (show gc cs ≠ 0 by omega)
      have := of_decide_eq_false hb
      exact Int.dvd_of_emod_eq_zero (by omega)
    exact fewest_rest (e3 _ _ hp2) hc ha hd fun H4 e4 => q hd H4 (((e1.trans e2).trans e3).trans e4)
theorem ev_fewX {σ : L2.St} {tl ta : TE} {p : Addr} {cs : List Int} {a : Int} (h : Ev tl σ H (.ref p)) (h2 : Ev ta σ H (.int a)) (hp : Il H p cs) (hc : Coins cs) (ha : 0 ≤ a) (hd : gc cs ∣ a) : Ev (tCall (sp_fewest_X K CW) [] E (tCons tl (tCons ta tNil))) σ H (.int (few cs a)) :=
  ev_callV (ea_cons h (ea_cons h2 ea_nil)) fun H1 e Q' q' => ⟨p, cs, a, rfl, e _ _ hp, hc, ha, fun _ => q', fun z => absurd hd z⟩
theorem ev_fewXN {σ : L2.St} {tl ta : TE} {cs : List Int} {a : Int} (h : EvL tl σ H (cs.map V.int)) (h2 : Ev ta σ H (.int a)) (hc : Coins cs) (ha : 0 ≤ a) (hd : gc cs ∣ a) : Ev (tCall (sp_fewest_X K CW) [] E (tCons tl (tCons ta tNil))) σ H (.int (few cs a)) := fun H1 e Q q =>
  h H1 e _ fun p H2 hp e2 h2p => h2 H2 (e.trans e2) _ fun H3 e3 => ⟨p, cs, a, rfl, e3 _ _ h2p, hc, ha, fun _ H4 e4 => q H4 ((e2.trans e3).trans e4), fun z => absurd hd z⟩

/-! ### a dict of seen numbers -/
def kvs (ks : List Int) : List (Key × V) := ks.map fun k => ((.inl k : Key), V.bl true)
theorem valV_kvs (x : Int) : ∀ ks : List Int, valV (kvs ks) (.inl x) = if x ∈ ks then some (.bl true) else none
  | [] => by simp [kvs, valV_nil]
  | k :: r => by
    show valV (((.inl k : Key), V.bl true) :: kvs r) (.inl x) = _
    by_cases e : k = x
    · subst e
      rw [valV_pos rfl, if_pos (by simp)]
    · rw [valV_neg (by simpa using e), valV_kvs x r]
      have : (x ∈ k :: r) ↔ x ∈ r := by
        rw [List.mem_cons]
        exact ⟨fun h => h.resolve_left (fun z => e z.symm), .inr⟩
      by_cases hx : x ∈ r
      · rw [if_pos hx, if_pos (this.mpr hx)]
      · rw [if_neg hx, if_neg (fun z => hx (this.mp z))]
theorem kvs_len (ks : List Int) : (kvs ks).length = ks.length := List.length_map ..
theorem put_kvs {ks : List Int} {x : Int} (h : x ∉ ks) : putK (kvs ks) (.inl x) (.bl true) = kvs (ks ++ [x]) := by
  rw [putK_new _ (by rw [valV_kvs, if_neg h])]
  unfold kvs
  rw [List.map_append]; rfl
variable {σ : L2.St} {ta tb te : TE} {D : Ends} {tz tu : TS}
theorem ev_dni {d : Addr} {x : Int} {ks : List Int} (h1 : Ev ta σ H (.int x)) (h2 : Ev tb σ H (.ref d)) (hd : H d = some (.dK (kvs ks))) : Ev (tDNotIn ta tb) σ H (.bl (!decide (x ∈ ks))) := fun H1 e Q q =>
  h1 H1 e _ fun H2 e2 => h2 H2 (e.trans e2) _ fun H3 e3 => ⟨d, _, rfl, DGet.k (k := .inl x) (e3 _ _ (e2 _ _ (e _ _ hd))), by
    rw [valV_kvs]
    by_cases hx : x ∈ ks
    · rw [if_pos hx]
      have := q H3 (e2.trans e3)
      rw [decide_eq_true hx] at this
      exact this
    · rw [if_neg hx]
      have := q H3 (e2.trans e3)
      rw [decide_eq_false hx] at this
      exact this⟩
theorem q_dput {d : Addr} {x : Int} {ks : List Int} (h1 : Ev ta σ H (.ref d)) (h2 : Ev tb σ H (.int x)) (hd : H d = some (.dK (kvs ks))) (hx : x ∉ ks) (hl : ks.length < 100000) (k : ∀ H1, Ex H H1 → tz D σ (upd H1 d (.dK (kvs (ks ++ [x]))))) : tSeq (sDPut ta tb (tC (.bl true))) tz D σ H :=
  h1 H (Ex.refl H) _ fun H2 e2 => h2 H2 e2 _ fun H3 e3 => ⟨d, _, rfl, DPut.k (k := .inl x) (e3 _ _ (e2 _ _ hd)) (sz_lt (by rw [kvs_len]; exact hl)), by
    rw [put_kvs hx]
    exact k H3 (e2.trans e3)⟩
theorem q_dnew {i : Nat} (k : ∀ d, H d = none → tz D (σ.set i (some (.ref d))) (upd H d (.dK (kvs [])))) : tSeq (tAsg tDNewK (gName i)) tz D σ H := fun d hd => k d hd
theorem q_parL {i j : Nat} {xs : List V} {w : V} (ha : EvL ta σ H xs) (hb : Ev tb σ H w) (k : ∀ l H1, H l = none → Ex H H1 → H1 l = some (.lst xs) → tz D ((σ.set i (some (.ref l))).set j (some w)) H1) : tSeq (tPar i j (tCons ta (tCons tb tNil))) tz D σ H :=
  ha H (Ex.refl H) _ fun l H1 nl e1 hl => hb H1 e1 _ fun H2 e2 => ⟨.ref l, w, rfl, k l H2 nl (e1.trans e2) (e2 _ _ hl)⟩

/-! ### _law_fewest -/
theorem len__law_fewest (h : sp__law_fewest K vs H Q E) : vs.length = (["_law_coins_here", "_law_amount", "_law_room"] : List Str).length := by
  obtain ⟨p, cs, a, r, rfl, _⟩ := h
  rfl
/-- seen at d, the line at l, more at m, over what stood in H0 -/
structure LW (H0 : Hp) (d l m : Addr) (S M L : List Int) (H' : Hp) : Prop where
  ex : Ex H0 H'
  nd : H0 d = none
  nm : H0 m = none
  nlm : l ≠ m
  di : H' d = some (.dK (kvs (S ++ M)))
  mo : Il H' m M
  li : Il H' l L
theorem LW.mono {H0 H' H'' : Hp} {d l m : Addr} {S M L : List Int} (h : LW H0 d l m S M L H') (e : Ex H' H'') : LW H0 d l m S M L H'' := ⟨h.ex.trans e, h.nd, h.nm, h.nlm, e _ _ h.di, e _ _ h.mo, e _ _ h.li⟩
theorem LW.dm {H0 H' : Hp} {d l m : Addr} {S M L : List Int} (h : LW H0 d l m S M L H') : d ≠ m := ne_of h.di h.mo (by intro z; cases z)
theorem LW.dl {H0 H' : Hp} {d l m : Addr} {S M L : List Int} (h : LW H0 d l m S M L H') : d ≠ l := ne_of h.di h.li (by intro z; cases z)
/-- one neighbour -/
theorem lv_step {H0 H' : Hp} {p d l m : Addr} {a r n x s w0 : Int} {y8 : Option V} {nn : Nat} {cs S M L : List Int} {Dn : Int → Int → Prop} (hw : LW H0 d l m S M L H') (hm : Lm cs (-r) (a + r + 1) nn S L Dn M) (hx : x ∈ L) (hs : Stp cs s) (ha : 0 ≤ a ∧ a ≤ 5000) (hr : 0 ≤ r ∧ r ≤ 1000)
    (k : ∀ M' H'', LW H0 d l m S M' L H'' → Lm cs (-r) (a + r + 1) nn S L (fun x' s' => Dn x' s' ∨ (x' = x ∧ s' = s)) M' → (∀ b o, b ≠ d → b ≠ m → H' b = some o → H'' b = some o) → D.nx [some (.ref p), some (.int a), some (.int r), some (.ref l), some (.int n), some (.ref d), some (.ref m), some (.int x), y8, some (.int (x + s))] H'') :
    tIfS (tAnd (tTest (tChain rLeI rLeI (tUn rNegI (tVar 2)) (tVar 9) (tOp rAddI (tVar 1) (tVar 2)))) (tB (tDNotIn (tVar 9) (tVar 5)))) (tSeq (sDPut (tVar 5) (tVar 9) (tC (.bl true))) (tDrop (tBM K "list" rAppend (tVar 6) (tCons (tVar 9) tNil)))) tNext D
      [some (.ref p), some (.int a), some (.int r), some (.ref l), some (.int n), some (.ref d), some (.ref m), some (.int x), y8, some (.int (x + s))] H' := by
  have hlen := hm.len
  have e0 : ((a + r + 1) - (-r)).toNat ≤ 8000 := by omega
  refine s_when (b := (decide (-r ≤ x + s) && decide (x + s ≤ a + r)) && !decide (x + s ∈ S ++ M)) ?_ (fun hb H2 e2 => ?_) fun hb H2 e2 => ?_
  · exact et_and (et_chain (ev_chain (a := decide (-r ≤ x + s)) (b := decide (x + s ≤ a + r)) (ev_neg (ev_var rfl)) (ev_var rfl) rv_I0 (fun _ => ev_add (ev_var rfl) (ev_var rfl)) fun _ => rv_I0)) fun hb => et_B (ev_dni (ev_var rfl) (ev_var rfl) hw.di)
  · rw [Bool.and_eq_true, Bool.and_eq_true, decide_eq_true_eq, decide_eq_true_eq, Bool.not_eq_true', decide_eq_false_iff_not] at hb
    obtain ⟨⟨b0, b1⟩, b2⟩ := hb
    have hw2 := hw.mono e2
    refine q_dput (ev_var rfl) (ev_var rfl) hw2.di b2 (by rw [List.length_append]; omega) fun H3 e3 => ?_
    have hw3 := hw2.mono e3
    have hmo : upd H3 d (.dK (kvs (S ++ M ++ [x + s]))) m = some (.lst (M.map V.int)) := by rw [upd_ne hw3.dm.symm]; exact hw3.mo
    refine s_app hmo (ev_var rfl) (ev_var rfl) (by rw [List.length_map]; omega) fun H4 e4 => ?_
    have e6 : M.map V.int ++ [V.int (x + s)] = (M ++ [x + s]).map V.int := by rw [List.map_append]; rfl
    rw [e6]
    refine k (M ++ [x + s]) _ ⟨?_, hw.nd, hw.nm, hw.nlm, ?_, upd_same, ?_⟩ (hm.new hx hs b0 (by omega) b2) fun b o n1 n2 hb => ?_
    · exact (((hw3.ex.mut hw.nd)).trans e4).mut hw.nm
    · rw [upd_ne hw3.dm, ← List.append_assoc]
      exact e4 _ _ upd_same
    · rw [Il, upd_ne hw.nlm]
      refine e4 _ _ ?_
      rw [upd_ne hw3.dl.symm]
      exact hw3.li
    · rw [upd_ne n2]
      refine e4 _ _ ?_
      rw [upd_ne n1]
      exact e3 _ _ (e2 _ _ hb)
  · refine k M H2 (hw.mono e2) (hm.old fun h1 h2 => ?_) fun b o _ _ hb => e2 _ _ hb
    rw [decide_eq_true h1, decide_eq_true (show x + s ≤ a + r by omega)] at hb
    cases hdec : decide (x + s ∈ S ++ M) with
    | true => exact of_decide_eq_true hdec
    | false => rw [hdec] at hb; cases hb
theorem mem_takeS {xs : List Int} {i : Nat} {w x : Int} (h : xs[i]? = some w) (hx : x ∈ xs.take (i + 1)) : x ∈ xs.take i ∨ x = w := mem_take_succ h hx
theorem pure__law_fewest (h : sp__law_fewest K vs H Q E) : t__law_fewest K (endsOf Q) (start ["_law_coins_here", "_law_amount", "_law_room", "_law_line", "_law_steps", "_law_seen", "_law_more", "_law_here", "_law_worth", "_law_there"] vs) H := by
  obtain ⟨p, cs, a, r, rfl, hp, hc, hcl, ha, hr, hd, q⟩ := h
  have hpos : ∀ w ∈ cs, 0 < w := fun w hw => (hc w hw).1
  have hcan : Can cs a := (can_iff hpos).mpr hd
  obtain ⟨kf, hkf, _⟩ := few_can hcan
  have hwk : ∀ w ∈ cs, 0 < w ∧ w ≤ 0 - (-r) ∧ w ≤ (a + r + 1) - 0 := fun w hw => by have := hc w hw; omega
  refine q_parL (xs := [0].map V.int) (el_lst (ea_cons ev_c ea_nil) (by simp)) ev_c fun l H1 nl e1 hl => ?_
  refine q_dnew fun d nd1 => ?_
  have nd : H d = none := fresh_back e1 nd1
  refine q_dput (ks := []) (ev_var rfl) ev_c upd_same (by simp) (by simp) fun H2 e2 => ?_
  have ex2 : Ex H H2 := (e1.mut nd).trans e2
  have ndl : d ≠ l := fun z => by rw [z, hl] at nd1; cases nd1
  have hl2 : Il (upd H2 d (.dK (kvs ([] ++ [0])))) l [0] := by
    rw [Il, upd_ne ndl.symm]
    refine e2 _ _ ?_
    rw [upd_ne ndl.symm]; exact hl
  refine q_while (fun m σ' H' => ∃ (n : Nat) (S L : List Int) (l : Addr) (y6 y7 y8 y9 : Option V), σ' = [some (.ref p), some (.int a), some (.int r), some (.ref l), some (.int (n : Int)), some (.ref d), y6, y7, y8, y9] ∧ Ex H H' ∧ Lv cs (-r) (a + r + 1) n S L ∧ H' d = some (.dK (kvs S)) ∧ Il H' l L ∧ ((m : Int) + n = few cs a)) kf
    ⟨0, [0], [0], l, none, none, none, none, rfl, ex2.mut nd, Lv.start (by omega), upd_same, hl2, by omega⟩ fun m σ' H' hW => ?_
  obtain ⟨n, S, L, l, y6, y7, y8, y9, rfl, ex, lv, hdi, hli, hmn⟩ := hW
  refine ⟨!decide (a ∈ S), et_B (ev_dni (ev_var rfl) (ev_var rfl) hdi), fun hb H3 e3 => ?_, fun hb H3 e3 => ?_⟩
  · have hna : a ∉ S := by simpa using hb
    have hlt := lv.lt_few hwk (by omega) (by omega) hcan hna
    refine ⟨fun σ2 H2 => ∃ (S' L' : List Int) (l' : Addr) (y6 y7 y8 y9 : Option V), σ2 = [some (.ref p), some (.int a), some (.int r), some (.ref l'), some (.int ((n : Int) + 1)), some (.ref d), y6, y7, y8, y9] ∧ Ex H H2 ∧ Lv cs (-r) (a + r + 1) (n + 1) S' L' ∧ H2 d = some (.dK (kvs S')) ∧ Il H2 l' L', ?_, ?_⟩
    · rintro σ2 H2 ⟨S', L', l', z6, z7, z8, z9, rfl, ex', lv', hd', hl'⟩
      exact ⟨m - 1, by omega, n + 1, S', L', l', z6, z7, z8, z9, by norm_cast, ex', lv', hd', hl', by omega⟩
    -- a round
    refine q_asgL (xs := ([] : List Int).map V.int) (el_lst ea_nil (by simp)) fun mo H4 nmo e4 hmo => ?_
    have exH4 : Ex H H4 := (ex.trans e3).trans e4
    have nmo0 : H mo = none := fresh_back (ex.trans e3) nmo
    have nlm : l ≠ mo := fun z => by rw [← z, e3 _ _ hli] at nmo; cases nmo
    have lw0 : LW H d l mo S [] L H4 := ⟨exH4, nd, nmo0, nlm, by rw [List.append_nil]; exact e4 _ _ (e3 _ _ hdi), hmo, e4 _ _ (e3 _ _ hli)⟩
    refine q_forLn (K := K) (xs := L.map V.int) (ev_var rfl) (sq_of lw0.li) (fun i σ2 H2 => ∃ (M : List Int) (z7 z8 z9 : Option V), σ2 = [some (.ref p), some (.int a), some (.int r), some (.ref l), some (.int (n : Int)), some (.ref d), some (.ref mo), z7, z8, z9] ∧ LW H d l mo S M L H2 ∧ Lm cs (-r) (a + r + 1) n S L (fun x s => x ∈ L.take i ∧ Stp cs s) M)
      (fun H5 e5 => ⟨[], _, _, _, rfl, lw0.mono e5, lv.turn.weak fun x s hx => by simp at hx⟩) (fun i σ2 H2 _ hW => by
        obtain ⟨M, _, _, _, _, hw, _⟩ := hW
        exact sq_of hw.li) (fun i x σ2 H2 hx hW => ?_) fun σ2 H2 hW => ?_
    · obtain ⟨M, z7, z8, z9, rfl, hw, lm⟩ := hW
      obtain ⟨x, hxL, rfl⟩ := get_int hx
      have hxm : x ∈ L := List.mem_of_getElem? hxL
      refine s_forLn (K := K) (D := { nx := _, rt := _, bk := _, ct := _ }) (xs := cs.map V.int) (ev_var rfl) (sq_of (hw.ex _ _ hp)) (fun j σ3 H3 => ∃ (M : List Int) (z8 z9 : Option V), σ3 = [some (.ref p), some (.int a), some (.int r), some (.ref l), some (.int (n : Int)), some (.ref d), some (.ref mo), some (.int x), z8, z9] ∧ LW H d l mo S M L H3 ∧ Lm cs (-r) (a + r + 1) n S L (fun x' s => (x' ∈ L.take i ∧ Stp cs s) ∨ (x' = x ∧ (s ∈ cs.take j ∨ -s ∈ cs.take j))) M)
        (fun H5 e5 => ⟨M, _, _, rfl, hw.mono e5, lm.weak fun x' s hx => by
          rcases hx with hx | ⟨_, hx⟩
          · exact hx
          · simp at hx⟩) (fun j σ3 H3 _ hW => by
          obtain ⟨M, _, _, _, hw, _⟩ := hW
          exact sq_of (hw.ex _ _ hp)) (fun j w σ3 H3 hwj hW => ?_) fun σ3 H3 hW => ?_
      · obtain ⟨M, z8, z9, rfl, hw, lm⟩ := hW
        obtain ⟨w, hwc, rfl⟩ := get_int hwj
        have hwm : w ∈ cs := List.mem_of_getElem? hwc
        have hu : EvU (tTup (tCons (tOp rSubI (tVar 7) (tVar 8)) (tCons (tOp rAddI (tVar 7) (tVar 8)) tNil))) [some (.ref p), some (.int a), some (.int r), some (.ref l), some (.int (n : Int)), some (.ref d), some (.ref mo), some (.int x), some (.int w), z9] H3 [.int (x - w), .int (x + w)] := eu_tup (ea_cons (ev_sub (ev_var rfl) (ev_var rfl)) (ea_cons (ev_add (ev_var rfl) (ev_var rfl)) ea_nil)) (by simp)
        refine s_forNU (D := { nx := _, rt := _, bk := _, ct := _ }) hu fun tp H5 ntp e5 htp => ⟨fun u σ4 H4 => ∃ (M : List Int) (z9 : Option V), σ4 = [some (.ref p), some (.int a), some (.int r), some (.ref l), some (.int (n : Int)), some (.ref d), some (.ref mo), some (.int x), some (.int w), z9] ∧ LW H d l mo S M L H4 ∧ H4 tp = some (.tup [.int (x - w), .int (x + w)]) ∧
          Lm cs (-r) (a + r + 1) n S L (fun x' s => ((x' ∈ L.take i ∧ Stp cs s) ∨ (x' = x ∧ (s ∈ cs.take j ∨ -s ∈ cs.take j))) ∨ (x' = x ∧ ((1 ≤ u ∧ s = -w) ∨ (2 ≤ u ∧ s = w)))) M, ⟨M, _, rfl, hw.mono e5, htp, lm.weak fun x' s hx => ?_⟩, fun u σ4 H4 _ hW => ?_, fun u y σ4 H4 hy hW => ?_, fun σ4 H4 hW => ?_⟩
        · rcases hx with hx | ⟨_, hx⟩
          · exact hx
          · omega
        · obtain ⟨_, _, _, _, ht, _⟩ := hW
          exact st_of ht
        · obtain ⟨M, z9, rfl, hw, ht, lm⟩ := hW
          have tpd : tp ≠ d := ne_of ht hw.di (by intro z; cases z)
          have tpm : tp ≠ mo := ne_of ht hw.mo (by intro z; cases z)
          match u, hy with
          | 0, hy =>
            have ey : y = .int (x + -w) := (Option.some.inj hy).symm.trans (by rw [Int.sub_eq_add_neg])
            subst ey
            refine lv_step (D := { nx := _, rt := _, bk := _, ct := _ }) (w0 := 0) hw lm hxm (Or.inr (by simpa using hwm)) ha hr fun M' H6 hw6 lm6 k6 => ⟨M', _, rfl, hw6, k6 _ _ tpd tpm ht, lm6.weak fun x' s hx => ?_⟩
            rcases hx with hx | ⟨e, hx⟩
            · exact .inl (.inl hx)
            · rcases hx with ⟨_, hx⟩ | ⟨hx, _⟩
              · exact .inr ⟨e, hx⟩
              · omega
          | 1, hy =>
            have ey : y = .int (x + w) := (Option.some.inj hy).symm
            subst ey
            refine lv_step (D := { nx := _, rt := _, bk := _, ct := _ }) (w0 := 0) hw lm hxm (Or.inl hwm) ha hr fun M' H6 hw6 lm6 k6 => ⟨M', _, rfl, hw6, k6 _ _ tpd tpm ht, lm6.weak fun x' s hx => ?_⟩
            rcases hx with hx | ⟨e, hx⟩
            · exact .inl (.inl hx)
            · rcases hx with ⟨_, hx⟩ | ⟨_, hx⟩
              · exact .inl (.inr ⟨e, .inl ⟨by omega, hx⟩⟩)
              · exact .inr ⟨e, hx⟩
        · obtain ⟨M, z9, rfl, hw, ht, lm⟩ := hW
          refine ⟨M, _, _, rfl, hw, lm.weak fun x' s hx => ?_⟩
          rcases hx with hx | ⟨e, hx | hx⟩
          · exact .inl (.inl hx)
          · rcases mem_takeS hwc hx with hx | hx
            · exact .inl (.inr ⟨e, .inl hx⟩)
            · exact .inr ⟨e, .inr ⟨by simp, hx⟩⟩
          · rcases mem_takeS hwc hx with hx | hx
            · exact .inl (.inr ⟨e, .inr hx⟩)
            · exact .inr ⟨e, .inl ⟨by simp, by omega⟩⟩
      · obtain ⟨M, z8, z9, rfl, hw, lm⟩ := hW
        refine ⟨M, _, _, _, rfl, hw, lm.weak fun x' s hx => ?_⟩
        rcases mem_takeS hxL hx.1 with hx1 | hx1
        · exact .inl ⟨hx1, hx.2⟩
        · refine .inr ⟨hx1, ?_⟩
          rw [List.take_of_length_le (by rw [List.length_map]; omega)]
          exact hx.2
    · obtain ⟨M, z7, z8, z9, rfl, hw, lm⟩ := hW
      refine s_par (D := { nx := _, rt := _, bk := _, ct := _ }) (ev_var rfl) (ev_add (ev_var rfl) ev_c) fun H5 e5 => ?_
      have hw5 := hw.mono e5
      exact ⟨S ++ M, M, mo, _, _, _, _, rfl, hw5.ex, lm.fin fun x s hx hs => ⟨by rw [List.take_of_length_le (by rw [List.length_map]; omega)]; exact hx, hs⟩, hw5.di, hw5.mo⟩
  · have hin : a ∈ S := by simpa using hb
    have hle := lv.few_le hin
    have : (n : Int) = few cs a := by omega
    refine s_ret (ev_var rfl) fun H4 e4 => ?_
    rw [this]
    exact q H4 ((ex.trans e3).trans e4)
end
end Cb

set_option Elab.async false
set_option linter.all false
set_option maxRecDepth 100000
set_option maxHeartbeats 4000000
/-! Readings and promises of the law k02. -/
namespace Cb
open PySem PySem.Spec PyProof.Rows L2 Evl Chg
def sp__law_none_k02 (K : PySem.W.Frag) : Sp := fun vs H Q _ => ∃ (p : Addr) (cs : List Int) (a : Int), vs = [.ref p, .int a] ∧ Il H p cs ∧ Coins cs ∧ 0 ≤ a ∧ ¬ gc cs ∣ a ∧ RetV (.bl true) H Q
def sp_law_k02 (K : PySem.W.Frag) : Sp := fun vs H Q _ => ∃ (p : Addr) (ns : List Int), vs = [.ref p] ∧ SqL K H p (ns.map V.int) ∧ Cells ns ∧ ns.length ≤ 63 ∧ ∀ H', Q (.bl true) H'
def t__law_none_k02 (K : PySem.W.Frag) (CE CB CM CW : Addr) : TS :=
  (tSeq (tAsg (tLst tNil) (gName 2))
  (tSeq (tTryAs K (.ref CE) 3 (fun W => (tDrop (tCallS (sp_fewest_X K CW) (WE W) (tCons (tVar 0) (tCons (tVar 1) tNil))))) (fun a => tForCls K fun C => (tAsg (tLst (tCons (tCB (rIsE K C a) (tCons (tVar 3) (tCons (tC (.ref CW)) tNil))) (tCons (tCB (rIsE K C a) (tCons (tVar 3) (tCons (tC (.ref CB)) tNil))) (tCons (tCB (rIsE K C a) (tCons (tVar 3) (tCons (tC (.ref CM)) tNil))) tNil)))) (gName 2))))
  (tRet (tOp (rEqD K) (tVar 2) (tLst (tCons (tC (.bl true)) (tCons (tC (.bl false)) (tCons (tC (.bl false)) tNil))))))))
def t_law_k02 (K : PySem.W.Frag) (CP CN CW : Addr) : TS :=
  (tSeq (tFor (iRng3 (tCons (tC (.int 0)) (tCons (tCB rMax2 (tCons (tC (.int 1)) (tCons (tCB rMin2 (tCons (tC (.int 8)) (tCons (tCB (rLenS K) (tCons (tVar 0) tNil)) tNil))) tNil))) (tCons (tC (.int 4)) tNil)))) (gName 1) (tSeq (tAsg (tCall (sp__law_coins K) [] E0 (tCons (tVar 0) (tCons (tVar 1) (tCons (tC (.int 5)) (tCons (tOp (rIxT K) (tTup (tCons (tC (.int 15)) (tCons (tC (.int 30)) tNil))) (tOp rModI (tOp rDivI (tVar 1) (tC (.int 4))) (tC (.int 2)))) tNil))))) (gName 2))
  (tSeq (tAsg (tCall (sp__law_common K) [] E0 (tCons (tVar 2) tNil)) (gName 3))
  (tFor (iRng1 (tCons (tC (.int 3)) tNil)) (gName 4) (tSeq (tAsg (tCall (sp__law_number K) [] E0 (tCons (tCall (sp__law_cell_at K) [] E0 (tCons (tVar 0) (tCons (tOp rAddI (tVar 1) (tVar 4)) tNil))) (tCons (tOp rAddI (tOp rAddI (tVar 1) (tVar 4)) (tC (.int 6))) (tCons (tC (.int 121)) tNil)))) (gName 5))
  (tSeq (tIfS (tTest (tOp rGtI (tOp rModI (tVar 5) (tVar 3)) (tC (.int 0)))) (tSeq (tIfS (tOr (tNot (tB (tCall (sp__law_none_k02 K) [] E0 (tCons (tVar 2) (tCons (tVar 5) tNil))))) (tNot (tB (tCB (rIsi K) (tCons (tCall (sp_paid K CP CN) [] E0 (tCons (tVar 2) (tCons (tVar 5) tNil))) (tCons (tC (.ref CN)) tNil)))))) (tRet (tC (.bl false))) tNext)
  (tAsg (tOp rSubI (tVar 5) (tOp rModI (tVar 5) (tVar 3))) (gName 5))) tNext)
  (tSeq (tPar 6 7 (tCons (tCall (sp_fewest_X K CW) [] E0 (tCons (tVar 2) (tCons (tVar 5) tNil))) (tCons (tCall (sp__law_fewest K) [] E0 (tCons (tVar 2) (tCons (tVar 5) (tCons (tOp rMulI (tC (.int 3)) (tOp (rIxL K) (tVar 2) (tUn rNegI (tC (.int 1))))) tNil)))) tNil)))
  (tSeq (tAsg (tCall (sp_paid K CP CN) [] E0 (tCons (tVar 2) (tCons (tVar 5) tNil))) (gName 8))
  (tIfS (tOr (tNot (tB (tCall (sp__law_whole K) [] E0 (tCons (tVar 6) tNil)))) (tOr (tTest (tOp rNe (tVar 6) (tVar 7))) (tTest (tOp rNe (tOp rAddI (tCB (rSum K) (tCons (tFld K (tVar 8) "give") tNil)) (tCB (rSum K) (tCons (tFld K (tVar 8) "back") tNil))) (tVar 7))))) (tRet (tC (.bl false))) tNext)))))))))
  (tSeq (tAsg (tLst (tCons (tC (.int 1)) (tCons (tC (.int 5)) tNil))) (gName 2))
  (tSeq (tAsg (tCall (sp_fewest_X K CW) [] E0 (tCons (tVar 2) (tCons (tC (.int 4)) tNil))) (gName 9))
  (tSeq (tAsg (tC (.int 3)) (gSub (tVar 2) (tC (.int 0)) rSetL))
  (tSeq (tIfS (tTest (tOp (rNeD K) (tLst (tCons (tVar 9) (tCons (tCall (sp_fewest_X K CW) [] E0 (tCons (tVar 2) (tCons (tC (.int 4)) tNil))) tNil))) (tLst (tCons (tC (.int 2)) (tCons (tC (.int 4)) tNil))))) (tRet (tC (.bl false))) tNext)
  (tSeq (tIfS (tOr (tTest (tOp rNe (tCall (sp_fewest_X K CW) [] E0 (tCons (tLst (tCons (tC (.int 1)) (tCons (tC (.int 5)) (tCons (tC (.int 10)) (tCons (tC (.int 25)) tNil))))) (tCons (tC (.int 24)) tNil))) (tC (.int 2)))) (tTest (tOp rNe (tCall (sp_fewest_X K CW) [] E0 (tCons (tLst (tCons (tC (.int 3)) (tCons (tC (.int 5)) tNil))) (tCons (tC (.int 1)) tNil))) (tC (.int 3))))) (tRet (tC (.bl false))) tNext)
  (tRet (tAndV (tOp rEq (tCall (sp_fewest_X K CW) [] E0 (tCons (tLst (tCons (tC (.int 1)) tNil)) (tCons (tC (.int 200)) tNil))) (tC (.int 200))) (tOp rEq (tCall (sp_fewest_X K CW) [] E0 (tCons (tLst (tCons (tC (.int 9)) tNil)) (tCons (tC (.int 0)) tNil))) (tC (.int 0)))))))))))
end Cb

set_option Elab.async false
set_option linter.all false
set_option maxRecDepth 100000
set_option maxHeartbeats 4000000
/-! The law k02. -/
namespace Cb
open PySem PySem.Spec PyProof.Rows L2 Evl Chg
theorem few_1_5_10_25 : few [1, 5, 10, 25] 24 = 2 := by
  refine few_of (k := 2) ⟨⟨[25, -1], rfl, ?_, rfl⟩, fun j hj => ?_⟩
  · intro s hs
    simp at hs
    rcases hs with rfl | rfl
    · left; simp
    · right; simp
  · rintro ⟨l, h1, h2, h3⟩
    match l, h1 with
    | [], _ => simp at h3
    | [s], _ =>
      have := h2 s (by simp)
      unfold Stp at this
      simp at this h3
      omega
    | _ :: _ :: _, h1 => simp at h1; omega
section
variable {K : PySem.W.Frag} {mg : Str → Option Value} {CA CP CN CE CB CM CW : Addr} {vs : List V} {H : Hp} {Q : VK} {E : XK}
theorem len__law_none_k02 (h : sp__law_none_k02 K vs H Q E) : vs.length = (["_law_coins_here", "_law_amount"] : List Str).length := by
  obtain ⟨p, cs, a, rfl, _⟩ := h
  rfl
theorem len_law_k02 (h : sp_law_k02 K vs H Q E) : vs.length = (["_law_script"] : List Str).length := by
  obtain ⟨p, ns, rfl, _⟩ := h
  rfl
/-- isinstance(error, class) in the suite -/
theorem ev_isE {σ : L2.St} {te : TE} {a C D' : Addr} {b : Bool} (h : Ev te σ H (.ref a)) (k : PySem.W.kitOne K (.ref C) (.ref D') = some b) : Ev (tCB (rIsE K C a) (tCons te (tCons (tC (.ref D')) tNil))) σ H (.bl b) := fun H1 e Q q =>
  h H1 e _ fun H2 e2 => ⟨.ref D', .ref D', b, rfl, fun u hu => by cases hu; rfl, k, q H2 e2⟩
/-- what NoWay comes to in the clause -/
theorem no_way {σ : L2.St} {D : Ends} {i : Nat} {f : Addr → Addr → TS} (Y : Xcs K mg CE CB CM CW) (k : ∀ a, H a = none → f a CW { nx := fun σ' H' => D.nx (σ'.set i none) H', rt := D.rt, bk := fun σ' H' => D.bk (σ'.set i none) H', ct := fun σ' H' => D.ct (σ'.set i none) H' } (σ.set i (some (.ref a))) H) :
    wAs K (.ref CE) i (fun a => tForCls K (f a)) (fun _ _ _ _ => False) D (.ref CW) none σ H :=
  ⟨true, PySem.W.exm_ref Y.bE Y.dE Y.tE Y.W.s, fun _ a ha => ⟨CW, rfl, rfl, Y.W.e, k a ha⟩, fun z => nomatch z⟩
/-- try: f(..) except c as n: .. -/
theorem q_tryCall {σ : L2.St} {D : Ends} {tz : TS} {sp : Sp} {ta : TA} {c : Value} {i : Nat} {ts : Addr → Value → Option Addr → TS} {vs : List V} (h : EvA ta σ H vs) (k : ∀ H1, Ex H H1 → sp vs H1 (fun _ H2 => tz D σ H2) (fun cls d H' => wAs K c i ts (fun _ _ _ _ => False) { D with nx := tz D } cls d σ H')) :
    tSeq (tTryAs K c i (fun W => tDrop (tCallS sp (WE W) ta)) ts) tz D σ H := h H (Ex.refl H) _ fun H1 e => k H1 e
theorem eq_tff {σ : L2.St} {te : TE} {l : Addr} (h : Ev te σ H (.ref l)) (hl : H l = some (.lst ([true, false, false].map V.bl))) : Ev (tOp (rEqD K) te (tLst (tCons (tC (.bl true)) (tCons (tC (.bl false)) (tCons (tC (.bl false)) tNil))))) σ H (.bl true) :=
  ev_eq (ev_eqD (d := .list ([true, false, false].map .bool)) (e := .list ([true, false, false].map .bool)) (ed_at h (.lst (sq_of hl) (dpAll_bls _))) (ed_lst (eda_cons (ed_bl ev_c) (eda_cons (ed_bl ev_c) (eda_cons (ed_bl ev_c) eda_nil))) (by simp)) (by decide) (by decide)) (by decide)
theorem pure__law_none_k02 (Y : Xcs K mg CE CB CM CW) (h : sp__law_none_k02 K vs H Q E) : t__law_none_k02 K CE CB CM CW (endsOf Q) (start ["_law_coins_here", "_law_amount", "_law_kinds", "error"] vs) H := by
  obtain ⟨p, cs, a, rfl, hp, hc, ha, hd, q⟩ := h
  refine q_asgL (xs := []) (el_lst ea_nil (by simp)) fun l H1 nl e1 hl => ?_
  refine q_tryCall (ea_cons (ev_var rfl) (ea_cons (ev_var rfl) ea_nil)) fun H2 e2 => ⟨p, cs, a, rfl, e2 _ _ (e1 _ _ hp), hc, ha, fun d => absurd d hd, fun _ H3 e3 => no_way Y fun x hx => ?_⟩
  refine s_asgL (xs := [true, false, false].map V.bl) (el_lst (ea_cons (ev_isE (ev_var rfl) Y.kWW) (ea_cons (ev_isE (ev_var rfl) Y.kWB) (ea_cons (ev_isE (ev_var rfl) Y.kWM) ea_nil))) (by simp)) fun l2 H4 nl2 e4 hl2 => ?_
  exact s_ret (eq_tff (ev_var rfl) hl2) fun H5 e5 => q H5 ((((e1.trans e2).trans e3).trans e4).trans e5)
theorem q_whenM {σ : L2.St} {D : Ends} {t : TT} {tu tz : TS} {i : Nat} {b : Bool} {v : V} (h : EvT t σ H b) (h1 : b = true → ∀ H1, Ex H H1 → ∀ N : L2.St → Hp → Prop, (∀ H2, Ex H1 H2 → N (σ.set i (some v)) H2) → tu { D with nx := N } σ H1) (h2 : b = false → σ.set i (some v) = σ)
    (k : ∀ H1, Ex H H1 → tz D (σ.set i (some v)) H1) : tSeq (tIfS t tu tNext) tz D σ H := q_when h (fun hb H1 e1 => h1 hb H1 e1 (tz D) fun H2 e2 => k H2 (e1.trans e2)) fun hb H1 e1 => by
  have := k H1 e1
  rw [h2 hb] at this
  exact this
theorem ev_lawfew {σ : L2.St} {ta tb tc : TE} {p : Addr} {cs : List Int} {a r : Int} (h1 : Ev ta σ H (.ref p)) (h2 : Ev tb σ H (.int a)) (h3 : Ev tc σ H (.int r)) (hp : Il H p cs) (hc : Coins cs) (ha : 0 ≤ a ∧ a ≤ 5000) (hr : topC cs ≤ r ∧ r ≤ 1000) (hd : gc cs ∣ a) : Ev (tCall (sp__law_fewest K) [] E (tCons ta (tCons tb (tCons tc tNil)))) σ H (.int (few cs a)) :=
  ev_callV (ea_cons h1 (ea_cons h2 (ea_cons h3 ea_nil))) fun H1 e Q' q' => ⟨p, cs, a, r, rfl, e _ _ hp, fun w hw => by have := hc.le_top w hw; omega, by have := hc.six; omega, ha, by have := hc.top; omega, hd, q'⟩
theorem ev_paidIsN {tl ta : TE} {σ : L2.St} {p : Addr} {cs : List Int} {a : Int} (T : Kls K mg CA CP CN) (h : Ev tl σ H (.ref p)) (h2 : Ev ta σ H (.int a)) (hp : Il H p cs) (hc : Coins cs) (ha : 0 ≤ a ∧ a ≤ 200) (nd : ¬ gc cs ∣ a) : Ev (tCB (rIsi K) (tCons (tCall (sp_paid K CP CN) [] E (tCons tl (tCons ta tNil))) (tCons (tC (.ref CN)) tNil))) σ H (.bl true) := fun H1 e Q q =>
  r_paidV (fun H2 e2 => h H2 (e.trans e2)) (fun H2 e2 => h2 H2 (e.trans e2)) (e _ _ hp) hc ha (fun _ x dx H2 n1 n2 e2 hN => ⟨.ref x, .ref CN, .ref CN, .ref CN, true, rfl, ClsV.own CN, .base (.ins hN T.clN T.iN.ha T.iN.hn T.iN.htk T.iN.hm), T.kNN, q H2 e2⟩) fun d => absurd d nd
theorem pure_law_k02 (T : Kls K mg CA CP CN) (h : sp_law_k02 K vs H Q E) : t_law_k02 K CP CN CW (endsOf Q) (start ["_law_script", "_law_by", "_law_coins_here", "_law_part", "_law_k", "_law_amount", "_law_found", "_law_due", "_law_told", "_law_first"] vs) H := by
  obtain ⟨p, ns, rfl, hp, hcl, hlen, q⟩ := h
  obtain ⟨n, hn, hn2⟩ := rg4 (j := if (if ((ns.map V.int).length : Int) < 8 then ((ns.map V.int).length : Int) else 8) > 1 then (if ((ns.map V.int).length : Int) < 8 then ((ns.map V.int).length : Int) else 8) else 1) (by split <;> (try split) <;> omega)
  refine q_forR3 (ea_cons ev_c (ea_cons (ev_max ev_c (ev_min ev_c (ev_len (ev_var rfl) hp))) (ea_cons ev_c ea_nil))) hn (fun i σ' H' => Ex H H' ∧ ∃ y1 y2 y3 y4 y5 y6 y7 y8 : Option V, σ' = [some (.ref p), y1, y2, y3, y4, y5, y6, y7, y8, none]) (fun H0 e0 => ⟨e0, _, _, _, _, _, _, _, _, rfl⟩) (fun i σ' H' hi hP => ?_) fun σ' H' hP => ?_
  · obtain ⟨ex, y1, y2, y3, y4, y5, y6, y7, y8, rfl⟩ := hP
    have hb : (0 : Int) ≤ 0 + (i : Int) * 4 ∧ 0 + (i : Int) * 4 ≤ 4 := by omega
    generalize (0 : Int) + (i : Int) * 4 = b at hb
    have hp0 := ex_l ex hp
    obtain ⟨g, hg, hgb⟩ : ∃ g : Int, atI [V.int 15, V.int 30] (b / 4 % 2) = some (.int g) ∧ 3 ≤ g ∧ g ≤ 30 := by
      rcases (by omega : b / 4 % 2 = 0 ∨ b / 4 % 2 = 1) with z | z
      · exact ⟨15, by rw [z]; rfl, by omega, by omega⟩
      · exact ⟨30, by rw [z]; rfl, by omega, by omega⟩
    refine q_asgCall (ea_cons (ev_var rfl) (ea_cons (ev_var rfl) (ea_cons ev_c (ea_cons (ev_ixNU (K := K) (xs := [.int 15, .int 30]) (eu_tup (ea_cons ev_c (ea_cons ev_c ea_nil)) (by simp)) (ev_mod (ev_div (ev_var rfl) ev_c (by decide)) ev_c (by decide)) hg) ea_nil)))) fun H1 e1 => ⟨p, ns, b, 5, g, rfl, ex_l e1 hp0, hcl, by omega, by omega, by omega, fun cs hcs lc H2 nlc e2 hlc => ?_⟩
    have hc := hcs.coins (by omega) (by omega)
    have ht := hc.top
    have g0 := hc.gpos
    have hp2 := ex_l (e1.trans e2) hp0
    refine q_asg (ev_lcommon (ev_var rfl) hlc hc) fun H3 e3 => ?_
    have ex3 : Ex H H3 := ex.trans (e1.trans (e2.trans e3))
    have hlc3 := e3 _ _ hlc
    refine s_forR1 (D := { nx := _, rt := _, bk := _, ct := _ }) (ea_cons ev_c ea_nil) (by decide) (fun j σ2 H2' => Ex H3 H2' ∧ ∃ y4 y5 y6 y7 y8 : Option V, σ2 = [some (.ref p), some (.int b), some (.ref lc), some (.int (gc cs)), y4, y5, y6, y7, y8, none]) (fun H4 e4 => ⟨e4, _, _, _, _, _, rfl⟩) (fun j σ2 H4 hj hW => ?_) fun σ2 H4 hW => ?_
    · obtain ⟨e4, y4, y5, y6, y7, y8, rfl⟩ := hW
      have hp4 := ex_l (ex3.trans e4) hp
      have hlc4 := e4 _ _ hlc3
      have na := num_bound (c := cellAt ns (b + (j : Int))) (k := b + (j : Int) + 6) (m := 121) (by decide)
      refine q_asg (ev_num (ev_cell (ev_var rfl) (ev_add (ev_var rfl) (ev_var rfl)) hp4 (by omega)) (ev_add (ev_add (ev_var rfl) (ev_var rfl)) ev_c) ev_c (cell_Bits hcl _) (by omega) (by decide)) fun H5 e5 => ?_
      generalize numV (cellAt ns (b + (j : Int))) (b + (j : Int) + 6) 121 = a at na
      have hlc5 := e5 _ _ hlc4
      have m0 := Int.emod_nonneg a (show gc cs ≠ 0 by omega)
      have m1 := Int.emod_lt_of_pos a g0
      have hd : gc cs ∣ a - a % gc cs := Int.dvd_self_sub_emod
      have ml : a % gc cs ≤ a := by
        have h1 := Int.mul_ediv_add_emod a (gc cs)
        have h2 : 0 ≤ gc cs * (a / gc cs) := Int.mul_nonneg (by omega) (Int.ediv_nonneg (by omega) (by omega))
        omega
      refine q_whenM (i := 5) (v := .int (a - a % gc cs)) (b := decide (0 < a % gc cs)) (et_test (ev_cmp (p := fun i j => decide (j < i)) (ev_mod (ev_var rfl) (ev_var rfl) g0) ev_c)) (fun hb H6 e6 N hN => ?_) (fun hb => ?_) fun H6 e6 => ?_
      · have hnd : ¬ gc cs ∣ a := fun d => by
          have := Int.emod_eq_zero_of_dvd d
          rw [this] at hb; cases hb
        have hlc6 := e6 _ _ hlc5
        refine q_when (b := false) (et_is (et_or (et_not (et_B (ev_callV (z := .bl true) (ea_cons (ev_var rfl) (ea_cons (ev_var rfl) ea_nil)) fun H7 e7 Q' q' => ⟨lc, cs, a, rfl, e7 _ _ hlc6, hc, na.1, hnd, q'⟩))) fun _ => et_not (et_B (ev_paidIsN T (ev_var rfl) (ev_var rfl) hlc6 hc (by omega) hnd))) rfl) (fun z => nomatch z) fun _ H7 e7 => ?_
        exact s_asg (D := { nx := _, rt := _, bk := _, ct := _ }) (ev_sub (ev_var rfl) (ev_mod (ev_var rfl) (ev_var rfl) g0)) fun H8 e8 => hN H8 (e7.trans e8)
      · have : a % gc cs = 0 := by have := of_decide_eq_false hb; omega
        rw [this, Int.sub_zero]; rfl
      have hlc6 := e6 _ _ hlc5
      have ha' : 0 ≤ a - a % gc cs ∧ a - a % gc cs ≤ 120 := by omega
      generalize a - a % gc cs = a' at hd ha'
      refine q_par (ev_fewX (ev_var rfl) (ev_var rfl) hlc6 hc ha'.1 hd) (ev_lawfew (ev_var rfl) (ev_var rfl) (ev_mul ev_c (ev_ixL (ev_var rfl) ev_m1 (sq_of hlc6) (topC_at hc.ne)) (small_mul (by omega))) hlc6 hc (by omega) (by omega) hd) fun H7 e7 => ?_
      have hlc7 := e7 _ _ hlc6
      refine r_paidV (ev_var rfl) (ev_var rfl) hlc7 hc (by omega) (fun z => absurd hd z) fun _ G B S ok x dx lg lb lh H8 nx ndx ng nb nh d1 d2 d3 e8 hP => ?_
      have hsm := ok.sm
      refine s_when (b := false) (D := { nx := _, rt := _, bk := _, ct := _ }) (et_is (et_or (et_not (et_B (ev_whole (ev_var rfl)))) fun _ => et_or (et_test (ev_neI (ev_var rfl) (ev_var rfl))) fun _ => et_test (ev_neI (ev_add (ev_sumV (ev_give T (ev_var rfl) hP) (sq_of hP.g)) (ev_sumV (ev_back T (ev_var rfl) hP) (sq_of hP.b))) (ev_var rfl))) (by rw [hsm]; simp)) (fun z => nomatch z) fun _ H9 e9 => ⟨e4.trans (e5.trans (e6.trans (e7.trans (e8.trans e9)))), _, _, _, _, _, rfl⟩
    · obtain ⟨e4, y4, y5, y6, y7, y8, rfl⟩ := hW
      exact ⟨ex3.trans e4, _, _, _, _, _, _, _, _, rfl⟩
  obtain ⟨ex, y1, y2, y3, y4, y5, y6, y7, y8, rfl⟩ := hP
  have f1 : few [1, 5] 4 = 2 := few2 (-1) 1 (by decide) (by decide) (by intro x y h; omega)
  have f2 : few [3, 5] 4 = 4 := few2 3 (-1) (by decide) (by decide) (by intro x y h; omega)
  have f3 : few [3, 5] 1 = 3 := few2 2 (-1) (by decide) (by decide) (by intro x y h; omega)
  have f4 : few [1] 200 = 200 := few1 (by decide) (by decide) (by decide)
  refine q_asgL (xs := [1, 5].map V.int) l2c fun lc H1 nlc e1 hlc => ?_
  refine q_asg (ev_fewX (ev_var rfl) ev_c hlc coins15 (by decide) (by decide)) fun H2 e2 => ?_
  refine q_setL (xs := [1, 5].map V.int) (j := 0) (e2 _ _ hlc) ev_c (ev_var rfl) (ev_eq ev_c rfl) (by decide) fun H3 e3 => ?_
  have hlc3 : Il (upd H3 lc (.lst (([1, 5].map V.int).set 0 (.int 3)))) lc [3, 5] := upd_same
  refine q_when (b := false) (et_is (et_test (ev_neD (d := .list ([2, 4].map .int)) (e := .list ([2, 4].map .int)) (ed_lst (eda_cons (ed_int (ev_eq (ev_var rfl) (by rw [f1]))) (eda_cons (ed_int (ev_eq (ev_fewX (ev_var rfl) ev_c hlc3 coins35 (by decide) (by decide)) (by rw [f2]))) eda_nil)) (by simp)) (ed_new l2c) (by decide) (by decide))) (by decide)) (fun z => nomatch z) fun _ H4 e4 => ?_
  refine q_when (b := false) (et_is (et_or (et_test (ev_neI (ev_eq (ev_fewXN (cs := [1, 5, 10, 25]) (el_lst (ea_cons ev_c (ea_cons ev_c (ea_cons ev_c (ea_cons ev_c ea_nil)))) (by simp)) ev_c ⟨by decide, by decide, by decide, by decide⟩ (by decide) (by decide)) (by rw [few_1_5_10_25])) ev_c)) fun _ => et_test (ev_neI (ev_eq (ev_fewXN l2c ev_c coins35 (by decide) (by decide)) (by rw [f3])) ev_c)) (by decide)) (fun z => nomatch z) fun _ H5 e5 => ?_
  refine s_ret (v := .bl true) (ev_eq (ev_andV (a := true) (b := true) (ev_eq (ev_eqI (ev_eq (ev_fewXN (cs := [1]) (el_lst (ea_cons ev_c ea_nil) (by simp)) ev_c (coins1 (by decide)) (by decide) (by decide)) (by rw [f4])) ev_c) (by decide)) fun _ => ev_eq (ev_eqI (ev_eq (ev_fewXN (cs := [9]) (el_lst (ea_cons ev_c ea_nil) (by simp)) ev_c (coins1 (by decide)) (by decide) (by decide)) (by rw [few_zero])) ev_c) (by decide)) rfl) fun H6 e6 => q H6
end
end Cb

set_option linter.all false
/-! How many ways: tables by total and count. Plain Lean. -/
namespace Chg
/-- f lo + f (lo + 1) + .., n of them -/
def rs (lo : Int) : Nat → (Int → Int) → Int
  | 0, _ => 0
  | n + 1, f => rs lo n f + f (lo + n)
theorem rs_front (lo : Int) (f : Int → Int) : ∀ n : Nat, rs lo (n + 1) f = f lo + rs (lo + 1) n f
  | 0 => by simp [rs]
  | n + 1 => by
    show rs lo (n + 1) f + f (lo + ((n + 1 : Nat) : Int)) = f lo + (rs (lo + 1) n f + f (lo + 1 + n))
    rw [rs_front lo f n]
    have : lo + ((n + 1 : Nat) : Int) = lo + 1 + n := by omega
    rw [this]; omega
/-- over all m, -l to l -/
def sm : Nat → (Int → Int) → Int
  | 0, f => f 0
  | l + 1, f => sm l f + (f ((l : Int) + 1) + f (-((l : Int) + 1)))
theorem rs_sm (f : Int → Int) : ∀ l : Nat, rs (-(l : Int)) (2 * l + 1) f = sm l f
  | 0 => by simp [rs, sm]
  | l + 1 => by
    have e : 2 * (l + 1) + 1 = (2 * l + 1 + 1) + 1 := by omega
    rw [e]
    show rs (-((l + 1 : Nat) : Int)) (2 * l + 1 + 1) f + f (-((l + 1 : Nat) : Int) + ((2 * l + 1 + 1 : Nat) : Int)) = _
    rw [rs_front]
    have e1 : (-((l + 1 : Nat) : Int)) + 1 = -(l : Int) := by omega
    have e2 : (-((l + 1 : Nat) : Int)) + ((2 * l + 1 + 1 : Nat) : Int) = (l : Int) + 1 := by omega
    have e3 : (-((l + 1 : Nat) : Int)) = -((l : Int) + 1) := by omega
    rw [e1, e2, rs_sm f l, e3]
    show _ = sm l f + (f ((l : Int) + 1) + f (-((l : Int) + 1)))
    omega
theorem sm_congr {f g : Int → Int} : ∀ {l : Nat}, (∀ m : Int, m.natAbs ≤ l → f m = g m) → sm l f = sm l g
  | 0, h => h 0 (by simp)
  | l + 1, h => by
    show sm l f + _ = sm l g + _
    rw [sm_congr (l := l) fun m hm => h m (by omega), h ((l : Int) + 1) (by omega), h (-((l : Int) + 1)) (by omega)]
theorem sm_zero {f : Int → Int} {l : Nat} (h : ∀ m : Int, m.natAbs ≤ l → f m = 0) : sm l f = 0 := by
  have : ∀ l : Nat, sm l (fun _ => 0) = 0 := fun l => by
    induction l with
    | zero => rfl
    | succ n ih => show sm n _ + (0 + 0) = 0; omega
  rw [sm_congr (g := fun _ => 0) h, this]
/-- how many ways to come to a with l coins, given or back -/
def wys : List Int → Int → Nat → Int
  | [], a, l => if a = 0 ∧ l = 0 then 1 else 0
  | w :: r, a, l => sm l fun m => wys r (a - m * w) (l - m.natAbs)
theorem natAbs_mul_le {m w g : Int} {n : Nat} (hm : m.natAbs ≤ n) (hw : 0 ≤ w ∧ w ≤ g) : (m * w).natAbs ≤ n * g.toNat := by
  rw [Int.natAbs_mul]
  exact Nat.mul_le_mul hm (by omega)
/-- too far -/
theorem wys_far {g : Int} : ∀ {r : List Int} {a : Int} {l : Nat}, (∀ w ∈ r, 0 ≤ w ∧ w ≤ g) → l * g.toNat < a.natAbs → wys r a l = 0
  | [], a, l, _, h => by
    unfold wys
    rw [if_neg]
    rintro ⟨rfl, _⟩
    simp at h
  | w :: r, a, l, hw, h => sm_zero fun m hm => by
    have h1 := hw w (by simp)
    refine wys_far (fun w' hw' => hw w' (by simp [hw'])) ?_
    have h2 : (m * w).natAbs ≤ m.natAbs * g.toNat := natAbs_mul_le (Nat.le_refl _) h1
    have h3 : l * g.toNat = (l - m.natAbs) * g.toNat + m.natAbs * g.toNat := by rw [← Nat.add_mul]; congr 1; omega
    omega
theorem wys_nil_far {a : Int} {l : Nat} (h : a ≠ 0) : wys [] a l = 0 := by
  unfold wys
  rw [if_neg (fun z => h z.1)]

/-! ### tables -/
abbrev Tb := List ((Int × Int) × Int)
def Sm (g : Int × Int → Int) (tb : Tb) : Int := (tb.map fun e => e.2 * g e.1).sum
theorem Sm_cons (g : Int × Int → Int) (e : (Int × Int) × Int) (tb : Tb) : Sm g (e :: tb) = e.2 * g e.1 + Sm g tb := by simp [Sm]
theorem Sm_nil (g : Int × Int → Int) : Sm g [] = 0 := rfl
theorem Sm_append (g : Int × Int → Int) (tb u : Tb) : Sm g (tb ++ u) = Sm g tb + Sm g u := by simp [Sm]
theorem Sm_congr {g g' : Int × Int → Int} : ∀ {tb : Tb}, (∀ e ∈ tb, g e.1 = g' e.1) → Sm g tb = Sm g' tb
  | [], _ => rfl
  | e :: tb, h => by rw [Sm_cons, Sm_cons, h e (by simp), Sm_congr fun e' he' => h e' (by simp [he'])]
def getT : Tb → Int × Int → Int
  | [], _ => 0
  | e :: r, k => if e.1 = k then e.2 else getT r k
def addT : Tb → Int × Int → Int → Tb
  | [], k, n => [(k, n)]
  | e :: r, k, n => if e.1 = k then (e.1, e.2 + n) :: r else e :: addT r k n
theorem Sm_addT (g : Int × Int → Int) (k : Int × Int) (n : Int) : ∀ tb : Tb, Sm g (addT tb k n) = Sm g tb + n * g k
  | [] => by simp [addT, Sm]
  | e :: r => by
    unfold addT
    split
    · rename_i h
      rw [Sm_cons, Sm_cons]
      show (e.2 + n) * g e.1 + Sm g r = _
      rw [h, Int.add_mul]; omega
    · rw [Sm_cons, Sm_cons, Sm_addT g k n r]; omega
def keysT (tb : Tb) : List (Int × Int) := tb.map (·.1)
theorem mem_keys_addT {k k' : Int × Int} {n : Int} : ∀ {tb : Tb}, k' ∈ keysT (addT tb k n) → k' ∈ keysT tb ∨ k' = k
  | [], h => by
    have : k' = k := by simpa [addT, keysT] using h
    exact .inr this
  | e :: r, h => by
    unfold addT at h
    split at h
    · left; simpa [keysT] using h
    · rcases (by simpa [keysT] using h : k' = e.1 ∨ k' ∈ keysT (addT r k n)) with z | z
      · left; simp [keysT, z]
      · rcases mem_keys_addT z with z | z
        · left
          have : k' ∈ keysT r := z
          simp only [keysT, List.map_cons, List.mem_cons]
          exact .inr this
        · exact .inr z
theorem nodup_addT {k : Int × Int} {n : Int} : ∀ {tb : Tb}, (keysT tb).Nodup → (keysT (addT tb k n)).Nodup
  | [], _ => by simp [addT, keysT]
  | e :: r, h => by
    have h' : e.1 ∉ keysT r ∧ (keysT r).Nodup := List.nodup_cons.mp h
    unfold addT
    split
    · exact h
    · rename_i hne
      refine List.nodup_cons.mpr ⟨fun z => ?_, nodup_addT h'.2⟩
      rcases mem_keys_addT z with z | z
      · exact h'.1 z
      · exact hne z
theorem getT_none {k : Int × Int} : ∀ {tb : Tb}, k ∉ keysT tb → getT tb k = 0
  | [], _ => rfl
  | e :: r, h => by
    have h' : k ≠ e.1 ∧ k ∉ keysT r := by simpa [keysT] using h
    unfold getT
    rw [if_neg (fun z => h'.1 z.symm)]
    exact getT_none h'.2
/-- what stands at k -/
theorem Sm_ind {k : Int × Int} : ∀ {tb : Tb}, (keysT tb).Nodup → Sm (fun x => if x = k then 1 else 0) tb = getT tb k
  | [], _ => rfl
  | e :: r, h => by
    have h' : e.1 ∉ keysT r ∧ (keysT r).Nodup := List.nodup_cons.mp h
    have eg : getT (e :: r) k = if e.1 = k then e.2 else getT r k := rfl
    rw [Sm_cons, Sm_ind h'.2, eg]
    by_cases he : e.1 = k
    · rw [if_pos he, if_pos he, getT_none (he ▸ h'.1)]; omega
    · rw [if_neg he, if_neg he]; omega
/-- totals and counts in their box -/
structure TabOk (many : Int) (tb : Tb) : Prop where
  nd : (keysT tb).Nodup
  box : ∀ k ∈ keysT tb, 0 ≤ k.2 ∧ k.2 ≤ many ∧ -(30 * k.2) ≤ k.1 ∧ k.1 ≤ 30 * k.2
theorem TabOk.start {many : Int} (h : 0 ≤ many) : TabOk many [((0, 0), 1)] := ⟨by simp [keysT], fun k hk => by
  have : k = (0, 0) := by simpa [keysT] using hk
  subst this
  simp; exact h⟩
theorem TabOk.nil {many : Int} : TabOk many [] := ⟨by simp [keysT], fun k hk => by simp [keysT] at hk⟩
theorem TabOk.add {many : Int} {tb : Tb} {k : Int × Int} {n : Int} (h : TabOk many tb) (hk : 0 ≤ k.2 ∧ k.2 ≤ many ∧ -(30 * k.2) ≤ k.1 ∧ k.1 ≤ 30 * k.2) : TabOk many (addT tb k n) :=
  ⟨nodup_addT h.nd, fun k' hk' => by
    rcases mem_keys_addT hk' with z | z
    · exact h.box k' z
    · rw [z]; exact hk⟩
theorem TabOk.len {many : Int} {tb : Tb} (h : TabOk many tb) (hm : 0 ≤ many ∧ many ≤ 400) : tb.length ≤ 10000000 := by
  have hl : tb.length = (keysT tb).length := by simp [keysT]
  refine Nat.le_of_not_lt fun hlt => ?_
  have key : ∀ i, i < (keysT tb).length → ((keysT tb).getD i (0, 0)) ∈ keysT tb := fun i hi => by
    rw [List.getD_eq_getElem?_getD, List.getElem?_eq_getElem hi]; exact List.getElem_mem hi
  obtain ⟨i, j, h1, h2, h3⟩ := pigeon 10000000 (fun i => (((keysT tb).getD i (0, 0)).1 + 12000).toNat * 401 + ((keysT tb).getD i (0, 0)).2.toNat) fun i hi => by
    have hb := h.box _ (key i (by omega))
    generalize (keysT tb).getD i (0, 0) = k at hb
    show (k.1 + 12000).toNat * 401 + k.2.toNat < 10000000
    omega
  have bi := h.box _ (key i (by omega))
  have bj := h.box _ (key j (by omega))
  have e1 : (keysT tb).getD i (0, 0) = (keysT tb)[i]'(by omega) := by rw [List.getD_eq_getElem?_getD, List.getElem?_eq_getElem (by omega)]; rfl
  have e2 : (keysT tb).getD j (0, 0) = (keysT tb)[j]'(by omega) := by rw [List.getD_eq_getElem?_getD, List.getElem?_eq_getElem (by omega)]; rfl
  have heq : (keysT tb).getD i (0, 0) = (keysT tb).getD j (0, 0) := by
    generalize (keysT tb).getD i (0, 0) = a at h3 bi
    generalize (keysT tb).getD j (0, 0) = b at h3 bj
    have h3' : (a.1 + 12000).toNat * 401 + a.2.toNat = (b.1 + 12000).toNat * 401 + b.2.toNat := h3
    obtain ⟨a1, a2⟩ := a
    obtain ⟨b1, b2⟩ := b
    dsimp only at h3' bi bj
    have : a1 = b1 := by omega
    have : a2 = b2 := by omega
    subst_vars; rfl
  rw [e1, e2] at heq
  have := (List.getElem_inj h.nd).mp heq
  omega
/-- one coin more -/
def rowS (many w : Int) (g : Int × Int → Int) (k : Int × Int) : Int := sm (many - k.2).toNat fun m => g (k.1 + m * w, k.2 + (m.natAbs : Int))
structure PutOk (many w : Int) (tb tb2 : Tb) : Prop where
  ok : TabOk many tb2
  sum : ∀ g, Sm g tb2 = Sm (rowS many w g) tb
/-- what is left to be counted -/
def lft (rest : List Int) (a many : Int) (k : Int × Int) : Int := wys rest (a - k.1) (many - k.2).toNat
theorem PutOk.lft {many w a : Int} {tb tb2 : Tb} {rest : List Int} (h : PutOk many w tb tb2) : Sm (Chg.lft rest a many) tb2 = Sm (Chg.lft (w :: rest) a many) tb := by
  rw [h.sum]
  refine Sm_congr fun e _ => ?_
  unfold rowS Chg.lft
  show _ = sm _ _
  refine sm_congr fun m _ => ?_
  show wys rest (a - (e.1.1 + m * w)) (many - (e.1.2 + (m.natAbs : Int))).toNat = wys rest (a - e.1.1 - m * w) ((many - e.1.2).toNat - m.natAbs)
  congr 1
  · omega
  · omega
theorem lft_start {cs : List Int} {a many : Int} : Sm (lft cs a many) [((0, 0), 1)] = wys cs a many.toNat := by
  simp [Sm, lft]
theorem lft_end {a many : Int} {tb : Tb} (h : TabOk many tb) : Sm (lft [] a many) tb = getT tb (a, many) := by
  rw [← Sm_ind h.nd]
  refine Sm_congr fun e he => ?_
  have hb := h.box e.1 (List.mem_map.mpr ⟨e, he, rfl⟩)
  unfold lft wys
  by_cases hk : e.1 = (a, many)
  · rw [if_pos hk, if_pos]
    rw [hk]
    exact ⟨by show a - a = 0; omega, by show (many - many).toNat = 0; omega⟩
  · rw [if_neg hk, if_neg]
    rintro ⟨z1, z2⟩
    apply hk
    obtain ⟨⟨t, c⟩, n⟩ := e
    dsimp only at z1 z2 hb
    have : t = a := by omega
    have : c = many := by omega
    subst_vars; rfl
/-! ### not so many coins -/
theorem Walk.app {cs : List Int} {lo hi : Int} : ∀ {i j : Nat} {p q t : Int}, Walk cs lo hi i p q → Walk cs lo hi j q t → Walk cs lo hi (i + j) p t
  | 0, j, p, q, t, h, h' => by
    have : p = q := h
    subst this
    rw [Nat.zero_add]; exact h'
  | i + 1, j, p, q, t, ⟨s, hs, a, b, w⟩, h' => by
    have e : i + 1 + j = (i + j) + 1 := by omega
    rw [e]
    exact ⟨s, hs, a, b, Walk.app w h'⟩
theorem Walk.cut {cs : List Int} {lo hi : Int} : ∀ {i j : Nat} {p t : Int}, lo ≤ p ∧ p < hi → Walk cs lo hi (i + j) p t → ∃ q, Walk cs lo hi i p q ∧ Walk cs lo hi j q t ∧ lo ≤ q ∧ q < hi
  | 0, j, p, t, hp, h => ⟨p, rfl, by rw [Nat.zero_add] at h; exact h, hp⟩
  | i + 1, j, p, t, hp, h => by
    have e : i + 1 + j = (i + j) + 1 := by omega
    rw [e] at h
    obtain ⟨s, hs, a, b, w⟩ := h
    obtain ⟨q, w1, w2, w3⟩ := Walk.cut ⟨a, b⟩ w
    exact ⟨q, ⟨s, hs, a, b, w1⟩, w2, w3⟩
theorem walk_short {cs : List Int} {lo hi p t : Int} {k : Nat} (hp : lo ≤ p ∧ p < hi) (h : Least (fun k => Walk cs lo hi k p t) k) : (k : Int) < hi - lo := by
  refine Int.lt_of_not_ge fun hge => ?_
  have hq : ∀ i : Nat, ∃ q, i ≤ k → Walk cs lo hi i p q ∧ Walk cs lo hi (k - i) q t ∧ lo ≤ q ∧ q < hi := fun i => by
    by_cases hi' : i ≤ k
    · have e : k = i + (k - i) := by omega
      obtain ⟨q, w⟩ := Walk.cut (i := i) (j := k - i) hp (e ▸ h.1)
      exact ⟨q, fun _ => w⟩
    · exact ⟨0, fun z => absurd z hi'⟩
  obtain ⟨i, j, h1, h2, h3⟩ := pigeon (hi - lo).toNat (fun i => (Classical.choose (hq i) - lo).toNat) fun i hi' => by
    have := (Classical.choose_spec (hq i) (by omega)).2.2
    omega
  have s1 := Classical.choose_spec (hq i) (by omega)
  have s2 := Classical.choose_spec (hq j) (by omega)
  have e : Classical.choose (hq i) = Classical.choose (hq j) := by
    have := s1.2.2
    have := s2.2.2
    omega
  rw [e] at s1
  exact h.2 (i + (k - j)) (by omega) (s1.1.app s2.2.1)
theorem few_short {cs : List Int} {g a : Int} (hc : ∀ w ∈ cs, 0 < w ∧ w ≤ g) (hg : 0 < g) (ha : 0 ≤ a) (hd : gc cs ∣ a) : 0 ≤ few cs a ∧ few cs a < a + 2 * g := by
  obtain ⟨k, hk, hl⟩ := few_can ((can_iff fun w hw => (hc w hw).1).mpr hd)
  refine ⟨by omega, ?_⟩
  have hc' : ∀ w ∈ cs, 0 < w ∧ w ≤ 0 - (-g) ∧ w ≤ (a + g) - 0 := fun w hw => by have := hc w hw; omega
  have := walk_short (cs := cs) (lo := -g) (hi := a + g) (p := 0) (t := a) (k := k) (by omega) ⟨(walk_iff hc' (by omega) (by omega)).mpr (by rw [Int.sub_zero]; exact hl.1), fun j hj hw => hl.2 j hj (by
    have := (walk_iff hc' (by omega) (by omega)).mp hw
    rwa [Int.sub_zero] at this)⟩
  omega
theorem reach_far {cs : List Int} {g : Int} (hc : ∀ w ∈ cs, 0 < w ∧ w ≤ g) {k : Nat} {t : Int} (h : Reach cs k t) : t ≤ k * g := by
  obtain ⟨l, h1, h2, h3⟩ := h
  by_cases hl : l = []
  · subst hl
    simp at h1 h3
    subst h1 h3
    simp
  have hg : 0 ≤ g := by
    cases l with
    | nil => exact absurd rfl hl
    | cons s r =>
      rcases h2 s (by simp) with z | z
      · have := hc _ z; omega
      · have := hc _ z; omega
  have := (sum_bound (m := g) hg (l := l) fun s hs => by
    rcases h2 s hs with z | z
    · have := hc _ z; omega
    · have := hc _ z; omega).2
  rw [h1, h3] at this
  exact this
/-- k coins do it, and fewer are too few -/
theorem few_is {cs : List Int} {g t : Int} {k : Nat} (hc : ∀ w ∈ cs, 0 < w ∧ w ≤ g) (h : Reach cs k t) (hf : ((k : Int) - 1) * g < t) : few cs t = k := by
  by_cases hk : k = 0
  · subst hk
    obtain ⟨l, h1, _, h3⟩ := h
    have : l = [] := List.length_eq_zero_iff.mp h1
    subst this
    have : t = 0 := h3.symm
    subst this
    exact few_zero
  refine few_of ⟨h, fun j hj hr => ?_⟩
  have h1 := reach_far hc hr
  have hg : 0 ≤ g := by
    refine Int.not_lt.mp fun hg => ?_
    obtain ⟨l, h1, h2, _⟩ := h
    cases l with
    | nil => simp at h1; omega
    | cons s r =>
      rcases h2 s (by simp) with z | z
      · have := hc _ z; omega
      · have := hc _ z; omega
  have h2 : (j : Int) * g ≤ ((k : Int) - 1) * g := Int.mul_le_mul_of_nonneg_right (by omega) hg
  omega
end Chg

set_option Elab.async false
set_option linter.all false
set_option maxRecDepth 100000
set_option maxHeartbeats 4000000
/-! Promises and readings: put, ways. -/
namespace Cb
open PySem PySem.Spec PyProof.Rows L2 Evl Chg
def tkey (k : Int × Int) : List Key := [.inl k.1, .inl k.2]
def tbl (tb : Tb) : List (List Key × V) := tb.map fun e => (tkey e.1, V.int e.2)
def sp_put (K : PySem.W.Frag) : Sp := fun vs H Q _ => ∃ (d : Addr) (tb : Tb) (w many : Int), vs = [.ref d, .int w, .int many] ∧ H d = some (.dT (tbl tb)) ∧ TabOk many tb ∧ (0 ≤ w ∧ w ≤ 30) ∧ (0 ≤ many ∧ many ≤ 400) ∧
  ∀ tb2, PutOk many w tb tb2 → ∀ d2 H2, H d2 = none → Ex H H2 → H2 d2 = some (.dT (tbl tb2)) → Q (.ref d2) H2
noncomputable def waysV (cs : List Int) (a : Int) : Int := wys cs a (few cs a).toNat
def sp_ways_X (K : PySem.W.Frag) (CW : Addr) : Sp := fun vs H Q E => ∃ (p : Addr) (cs : List Int) (a : Int), vs = [.ref p, .int a] ∧ Il H p cs ∧ Coins cs ∧ (0 ≤ a ∧ a ≤ 200) ∧ (gc cs ∣ a → RetV (.int (waysV cs a)) H Q) ∧ (¬ gc cs ∣ a → ∀ H', Ex H H' → E (.ref CW) none H')
def t_put (K : PySem.W.Frag) : TS :=
  (tSeq (tAsg tDNewT (gName 3))
  (tSeq (tLock (tFor (iKeys (tVar 0)) (gTup K 2 (gCons (gName 4) (gCons (gName 5) gNil))) (tFor (iRng2 (tCons (tOp rSubI (tVar 5) (tVar 2)) (tCons (tOp rAddI (tOp rSubI (tVar 2) (tVar 5)) (tC (.int 1))) tNil))) (gName 6) (tSeq (tAsg (tTup (tCons (tOp rAddI (tVar 4) (tOp rMulI (tVar 6) (tVar 1))) (tCons (tOp rAddI (tVar 5) (tCB rAbsI (tCons (tVar 6) tNil))) tNil))) (gName 7))
  (sDPut (tVar 3) (tVar 7) (tOp rAddI (tDGet2 (tVar 3) (tVar 7) (tC (.int 0))) (tDGet (tVar 0) (tTup (tCons (tVar 4) (tCons (tVar 5) tNil))))))))))
  (tRet (tVar 3))))
def t_ways_X (K : PySem.W.Frag) (CW : Addr) (E : XK) : TS :=
  (tSeq (tDrop (tCall (sp_check_coins K) [] E0 (tCons (tVar 0) tNil)))
  (tSeq (tDrop (tCall (sp_check_amount K) [] E0 (tCons (tVar 1) (tCons (tC (.int 200)) tNil))))
  (tSeq (tIfS (tTest (tOp rGtI (tOp rModI (tVar 1) (tCall (sp_common K) [] E0 (tCons (tVar 0) tNil))) (tC (.int 0)))) (tRaise E CW) tNext)
  (tSeq (tAsg (tOp (rIxL K) (tCall (sp_heights_of K) [] E0 (tCons (tVar 0) (tCons (tVar 1) tNil))) (tOp rAddI (tOp (rIxL K) (tVar 0) (tUn rNegI (tC (.int 1)))) (tVar 1))) (gName 2))
  (tSeq (tAsg tDNewT (gName 3))
  (tSeq (sDPut (tVar 3) (tTup (tCons (tC (.int 0)) (tCons (tC (.int 0)) tNil))) (tC (.int 1)))
  (tSeq (tFor (iList K (tVar 0)) (gName 4) (tAsg (tCall (sp_put K) [] E0 (tCons (tVar 3) (tCons (tVar 4) (tCons (tVar 2) tNil)))) (gName 3)))
  (tRet (tDGet2 (tVar 3) (tTup (tCons (tVar 1) (tCons (tVar 2) tNil))) (tC (.int 0)))))))))))
end Cb

set_option Elab.async false
set_option linter.all false
set_option maxRecDepth 100000
set_option maxHeartbeats 4000000
/-! put, ways. -/
namespace Cb
open PySem PySem.Spec PyProof.Rows L2 Evl Chg
theorem tkey_inj {a b : Int × Int} (h : tkey a = tkey b) : a = b := by
  obtain ⟨a1, a2⟩ := a
  obtain ⟨b1, b2⟩ := b
  simp [tkey] at h
  rw [h.1, h.2]
theorem tkey_map (k : Int × Int) : (tkey k).map kV = [.int k.1, .int k.2] := rfl
theorem val_tbl (k : Int × Int) : ∀ tb : Tb, (valV (tbl tb) (tkey k)).getD (.int 0) = .int (getT tb k)
  | [] => rfl
  | e :: r => by
    show (valV ((tkey e.1, V.int e.2) :: tbl r) (tkey k)).getD (.int 0) = .int (if e.1 = k then e.2 else getT r k)
    by_cases he : e.1 = k
    · rw [valV_pos (show (tkey e.1, V.int e.2).1 = tkey k by rw [he]), if_pos he]; rfl
    · rw [valV_neg (fun z => he (tkey_inj z)), if_neg he]
      exact val_tbl k r
theorem val_at {e : (Int × Int) × Int} : ∀ {tb : Tb} {i : Nat}, (keysT tb).Nodup → tb[i]? = some e → valV (tbl tb) (tkey e.1) = some (.int e.2)
  | [], i, _, h => by simp at h
  | x :: r, 0, _, h => by
    have : x = e := by simpa using h
    subst this
    exact valV_pos rfl
  | x :: r, i + 1, hn, h => by
    have h' : x.1 ∉ keysT r ∧ (keysT r).Nodup := List.nodup_cons.mp hn
    have hr : r[i]? = some e := by simpa using h
    show valV ((tkey x.1, V.int x.2) :: tbl r) (tkey e.1) = _
    rw [valV_neg (fun z => h'.1 (by
      rw [tkey_inj z]
      exact List.mem_map.mpr ⟨e, List.mem_of_getElem? hr, rfl⟩))]
    exact val_at h'.2 hr
theorem any_tbl {k : Int × Int} : ∀ {tb : Tb}, k ∉ keysT tb → ((tbl tb).any fun kv => decide (kv.1 = tkey k)) = false
  | [], _ => rfl
  | e :: r, h => by
    have h' : k ≠ e.1 ∧ k ∉ keysT r := by simpa [keysT] using h
    show (decide (tkey e.1 = tkey k) || ((tbl r).any fun kv => decide (kv.1 = tkey k))) = false
    rw [any_tbl h'.2, decide_eq_false (fun z => h'.1 (tkey_inj z).symm)]; rfl
theorem map_tbl {k : Int × Int} {v : V} : ∀ {tb : Tb}, k ∉ keysT tb → (tbl tb).map (fun kv => if kv.1 = tkey k then (kv.1, v) else kv) = tbl tb
  | [], _ => rfl
  | e :: r, h => by
    have h' : k ≠ e.1 ∧ k ∉ keysT r := by simpa [keysT] using h
    show (if tkey e.1 = tkey k then (tkey e.1, v) else (tkey e.1, V.int e.2)) :: (tbl r).map (fun kv => if kv.1 = tkey k then (kv.1, v) else kv) = (tkey e.1, V.int e.2) :: tbl r
    rw [map_tbl h'.2, if_neg (fun z => h'.1 (tkey_inj z).symm)]
theorem put_tbl {k : Int × Int} {n : Int} : ∀ {tb : Tb}, (keysT tb).Nodup → putK (tbl tb) (tkey k) (.int (getT tb k + n)) = tbl (addT tb k n)
  | [], _ => by simp [putK, tbl, addT, getT]
  | e :: r, h => by
    have h' : e.1 ∉ keysT r ∧ (keysT r).Nodup := List.nodup_cons.mp h
    have et : tbl (e :: r) = (tkey e.1, V.int e.2) :: tbl r := rfl
    have eg : getT (e :: r) k = if e.1 = k then e.2 else getT r k := rfl
    have ea : addT (e :: r) k n = if e.1 = k then (e.1, e.2 + n) :: r else e :: addT r k n := rfl
    by_cases he : e.1 = k
    · rw [eg, ea, if_pos he, if_pos he]
      unfold putK
      rw [et, List.any_cons, decide_eq_true (show (tkey e.1, V.int e.2).1 = tkey k by rw [he]), Bool.true_or, if_pos rfl, List.map_cons, map_tbl (he ▸ h'.1)]
      show (if tkey e.1 = tkey k then (tkey e.1, V.int (e.2 + n)) else (tkey e.1, V.int e.2)) :: tbl r = (tkey e.1, V.int (e.2 + n)) :: tbl r
      rw [if_pos (by rw [he])]
    · rw [eg, ea, if_neg he, if_neg he]
      have ih := put_tbl (k := k) (n := n) h'.2
      have et2 : tbl (e :: addT r k n) = (tkey e.1, V.int e.2) :: tbl (addT r k n) := rfl
      rw [et2, ← ih]
      unfold putK
      rw [et, List.any_cons, decide_eq_false (show ¬ (tkey e.1, V.int e.2).1 = tkey k from fun z => he (tkey_inj z)), Bool.false_or]
      split
      · rw [List.map_cons, if_neg (show ¬ (tkey e.1, V.int e.2).1 = tkey k from fun z => he (tkey_inj z))]
      · rfl
theorem tbl_len (tb : Tb) : (tbl tb).length = tb.length := List.length_map ..
theorem tab_sz {many : Int} {tb : Tb} (h : TabOk many tb) (hm : 0 ≤ many ∧ many ≤ 400) : (tbl tb).length < sizeLine := by
  have := h.len hm
  rw [tbl_len, sizeLine_eq]; omega
section
variable {K : PySem.W.Frag} {CW : Addr} {vs : List V} {H : Hp} {Q : VK} {E : XK} {σ : L2.St} {ta tb te : TE} {D : Ends} {tz tu : TS}
theorem s_forRn {ta : TA} {j : Nat} {lo n : Int} (h : EvA ta σ H [.int lo, .int n]) (hn : -100000 ≤ lo ∧ lo ≤ 100000 ∧ -100000 ≤ n ∧ n ≤ 100000) (Pv : Nat → L2.St → Hp → Prop) (h0 : ∀ H1, Ex H H1 → Pv 0 σ H1)
    (hs : ∀ (i : Nat) σ' H', lo + (i : Int) < n → Pv i σ' H' → tu { D with nx := Pv (i + 1), ct := Pv (i + 1), bk := D.nx } (σ'.set j (some (.int (lo + (i : Int))))) H') (hd : ∀ σ' H', Pv (n - lo).toNat σ' H' → D.nx σ' H') : tFor (iRng2 ta) (gName j) tu D σ H :=
  h H (Ex.refl H) _ fun H1 e => ⟨lo, n, rfl, ⟨by omega, by omega, by omega, by omega⟩, for_range (lo := lo) (n := (n - lo).toNat) Pv (h0 H1 e) (fun i σ' H' hi p => hs i σ' H' (by omega) p) hd⟩
theorem s_asgCall {sp : Sp} {vs : List V} {E : XK} {ta : TA} {i : Nat} (h : EvA ta σ H vs) (k : ∀ H1, Ex H H1 → sp vs H1 (fun v H2 => D.nx (σ.set i (some v)) H2) E) : tAsg (tCall sp [] E ta) (gName i) D σ H :=
  h H (Ex.refl H) _ fun H1 e => by
    rw [List.append_nil]
    exact k H1 e
theorem ev_dget2 {f q : Addr} {t : Tb} {k : Int × Int} (h1 : Ev ta σ H (.ref f)) (h2 : Ev tb σ H (.ref q)) (hf : H f = some (.dT (tbl t))) (hq : H q = some (.tup [.int k.1, .int k.2])) : Ev (tDGet2 ta tb (tC (.int 0))) σ H (.int (getT t k)) := fun H1 e Q kq =>
  h1 H1 e _ fun H2 e2 => ⟨f, rfl, .inr ⟨_, .inl (e2 _ _ (e _ _ hf))⟩, h2 H2 (e.trans e2) _ fun H3 e3 => ⟨_, DGet.t (k := tkey k) (e3 _ _ (e2 _ _ (e _ _ hf))) (e3 _ _ (e2 _ _ (e _ _ hq))), by
    rw [val_tbl]
    exact kq H3 (e2.trans e3)⟩⟩
theorem ev_dget2U {f : Addr} {t : Tb} {k : Int × Int} (h1 : Ev ta σ H (.ref f)) (h2 : EvU tb σ H [.int k.1, .int k.2]) (hf : H f = some (.dT (tbl t))) : Ev (tDGet2 ta tb (tC (.int 0))) σ H (.int (getT t k)) := fun H1 e Q kq =>
  h1 H1 e _ fun H2 e2 => ⟨f, rfl, .inr ⟨_, .inl (e2 _ _ (e _ _ hf))⟩, h2 H2 (e.trans e2) _ fun q H3 _ e3 hq => ⟨_, DGet.t (k := tkey k) (e3 _ _ (e2 _ _ (e _ _ hf))) hq, by
    rw [val_tbl]
    exact kq H3 (e2.trans e3)⟩⟩
theorem ev_dgetF {d : Addr} {t : Tb} {x : (Int × Int) × Int} {o : Obj} (h1 : Ev ta σ H (.ref d)) (h2 : EvU tb σ H [.int x.1.1, .int x.1.2]) (hd : H d = some (.frz o (.dT (tbl t)))) (hv : valV (tbl t) (tkey x.1) = some (.int x.2)) : Ev (tDGet ta tb) σ H (.int x.2) := fun H1 e Q kq =>
  h1 H1 e _ fun H2 e2 => h2 H2 (e.trans e2) _ fun q H3 _ e3 hq => ⟨d, .int x.2, rfl, .inr ⟨_, tkey x.1, q, .inr ⟨o, e3 _ _ (e2 _ _ (e _ _ hd))⟩, rfl, hq, hv.symm⟩, kq H3 (e2.trans e3)⟩
/-- found at f, the table at d locked -/
structure PW (H : Hp) (d f : Addr) (od : Obj) (t t2 : Tb) (H' : Hp) : Prop where
  ex : ∀ y o, y ≠ d → H y = some o → H' y = some o
  nf : H f = none
  fr : H' d = some (.frz od (.dT (tbl t)))
  fo : H' f = some (.dT (tbl t2))
theorem PW.mono {H H' H'' : Hp} {d f : Addr} {od : Obj} {t t2 : Tb} (h : PW H d f od t t2 H') (e : Ex H' H'') : PW H d f od t t2 H'' := ⟨fun y o n hy => e _ _ (h.ex y o n hy), h.nf, e _ _ h.fr, e _ _ h.fo⟩
theorem PW.set {H H' : Hp} {d f : Addr} {od : Obj} {t t2 t3 : Tb} (h : PW H d f od t t2 H') : PW H d f od t t3 (upd H' f (.dT (tbl t3))) :=
  ⟨fun y o n hy => by rw [upd_ne (ne_of_none hy h.nf)]; exact h.ex y o n hy, h.nf, by rw [upd_ne (ne_of h.fr h.fo (by intro z; cases z))]; exact h.fr, upd_same⟩
theorem s_dputT {f q : Addr} {t : Tb} {k : Int × Int} {n : Int} {tv : TE} (h0 : Ev tv σ H (.int (getT t k + n))) (h1 : Ev ta σ H (.ref f)) (h2 : Ev tb σ H (.ref q)) (hf : H f = some (.dT (tbl t))) (hq : H q = some (.tup [.int k.1, .int k.2])) (hn : (keysT t).Nodup) (hl : (tbl t).length < sizeLine)
    (c : ∀ H1, Ex H H1 → D.nx σ (upd H1 f (.dT (tbl (addT t k n))))) : sDPut ta tb tv D σ H :=
  h0 H (Ex.refl H) _ fun H1 e1 => h1 H1 e1 _ fun H2 e2 => h2 H2 (e1.trans e2) _ fun H3 e3 => ⟨f, _, rfl, DPut.t (k := tkey k) (e3 _ _ (e2 _ _ (e1 _ _ hf))) (e3 _ _ (e2 _ _ (e1 _ _ hq))) hl, by
    rw [put_tbl hn]
    exact c H3 ((e1.trans e2).trans e3)⟩
theorem len_put (h : sp_put K vs H Q E) : vs.length = (["table", "worth", "many"] : List Str).length := by
  obtain ⟨d, t, w, many, rfl, _⟩ := h
  rfl
theorem tbl_get {t : Tb} {i : Nat} {k : List Key} {v : V} (h : (tbl t)[i]? = some (k, v)) : ∃ e, t[i]? = some e ∧ k = tkey e.1 ∧ v = .int e.2 := by
  unfold tbl at h
  rw [List.getElem?_map] at h
  cases he : t[i]? with
  | none => rw [he] at h; cases h
  | some e =>
    rw [he] at h
    have := Option.some.inj h
    exact ⟨e, rfl, (congrArg Prod.fst this).symm, (congrArg Prod.snd this).symm⟩
theorem absI_if (m : Int) : (if m < 0 then -m else m) = (m.natAbs : Int) := by split <;> omega
theorem pure_put (h : sp_put K vs H Q E) : t_put K (endsOf Q) (start ["table", "worth", "many", "found", "total", "count", "more", "spot"] vs) H := by
  obtain ⟨d, t, w, many, rfl, hd, tok, hw, hm, q⟩ := h
  intro f nf
  have ndf : d ≠ f := ne_of_none hd nf
  refine ⟨d, .dT (tbl t), by rw [upd_ne ndf]; exact hd, trivial, fun od => ?_⟩
  refine ⟨.ref d, rfl, d, od, rfl, .inr ⟨tbl t, upd_same, ?_⟩⟩
  have pw0 : PW H d f od t [] (upd (upd H f (.dT [])) d (.frz od (.dT (tbl t)))) := ⟨fun y o n hy => by rw [upd_ne n, upd_ne (ne_of_none hy nf)]; exact hy, nf, upd_same, by rw [upd_ne ndf.symm]; exact upd_same⟩
  refine for_it walk_keysT (fun i σ' H' => ∃ (t2 : Tb) (y4 y5 y6 y7 : Option V), σ' = [some (.ref d), some (.int w), some (.int many), some (.ref f), y4, y5, y6, y7] ∧ PW H d f od t t2 H' ∧ TabOk many t2 ∧ ∀ g, Sm g t2 = Sm (rowS many w g) (t.take i))
    ⟨[], none, none, none, none, rfl, pw0, TabOk.nil, fun g => rfl⟩ (fun i σ' H' _ hP => by obtain ⟨_, _, _, _, _, _, hp, _⟩ := hP; exact hp.fr) (fun i x σ' H1 H' hi hP hy => ?_) fun σ' H' hP => ?_
  · obtain ⟨t2, y4, y5, y6, y7, rfl, pw, tok2, hsm⟩ := hP
    obtain ⟨rfl, k, v, qa, hk, rfl, hq⟩ := hy
    obtain ⟨e, he, rfl, rfl⟩ := tbl_get hk
    have hv := val_at tok.nd he
    have hbox := tok.box e.1 (List.mem_map.mpr ⟨e, List.mem_of_getElem? he, rfl⟩)
    obtain ⟨⟨tt, c⟩, n⟩ := e
    dsimp only at hbox
    refine ⟨qa, [.int tt, .int c], rfl, st_of hq, rfl, .int tt, [.int c], rfl, .int c, [], rfl, rfl, ?_⟩
    have hL : ((many - c).toNat : Int) = many - c := by omega
    refine s_forRn (D := { nx := _, rt := _, bk := _, ct := _ }) (ea_cons (ev_sub (ev_var rfl) (ev_var rfl)) (ea_cons (ev_add (ev_sub (ev_var rfl) (ev_var rfl)) ev_c) ea_nil)) (by omega) (fun j σ3 H3 => ∃ (t3 : Tb) (y6 y7 : Option V), σ3 = [some (.ref d), some (.int w), some (.int many), some (.ref f), some (.int tt), some (.int c), y6, y7] ∧ PW H d f od t t3 H3 ∧ TabOk many t3 ∧ ∀ g, Sm g t3 = Sm g t2 + n * rs (c - many) j fun m => g (tt + m * w, c + (m.natAbs : Int)))
      (fun H2 e2 => ⟨t2, y6, y7, rfl, pw.mono e2, tok2, fun g => by simp [rs]⟩) (fun j σ3 H3 hj hP => ?_) fun σ3 H3 hP => ?_
    · obtain ⟨t3, y6, y7, rfl, pw3, tok3, hsm3⟩ := hP
      have hm1 : c - many ≤ c - many + (j : Int) ∧ c - many + (j : Int) ≤ many - c := by omega
      generalize hmd : c - many + (j : Int) = m at hm1
      refine q_asgU (xs := [.int (tt + m * w), .int (c + (m.natAbs : Int))]) (eu_tup (ea_cons (ev_add (ev_var rfl) (ev_mul (ev_var rfl) (ev_var rfl) (small_mul (by omega)))) (ea_cons (ev_eq (ev_add (ev_var rfl) (ev_abs (ev_var rfl))) (by rw [absI_if])) ea_nil)) (by simp)) fun sp H4 nsp e4 hsp => ?_
      have pw4 := pw3.mono e4
      have hbx : 0 ≤ c + (m.natAbs : Int) ∧ c + (m.natAbs : Int) ≤ many ∧ -(30 * (c + (m.natAbs : Int))) ≤ tt + m * w ∧ tt + m * w ≤ 30 * (c + (m.natAbs : Int)) := by
        have h1 : (m * w).natAbs ≤ m.natAbs * (30 : Int).toNat := natAbs_mul_le (Nat.le_refl _) hw
        have h2 : (m * w).natAbs ≤ m.natAbs * 30 := h1
        generalize m * w = z at h2
        omega
      refine s_dputT (D := { nx := _, rt := _, bk := _, ct := _ }) (k := (tt + m * w, c + (m.natAbs : Int))) (n := n) (t := t3) (q := sp) (ev_add (ev_dget2 (ev_var rfl) (ev_var rfl) pw4.fo hsp) (ev_dgetF (x := ((tt, c), n)) (ev_var rfl) (eu_tup (ea_cons (ev_var rfl) (ea_cons (ev_var rfl) ea_nil)) (by simp)) pw4.fr hv)) (ev_var rfl) (ev_var rfl) pw4.fo hsp tok3.nd (tab_sz tok3 hm) fun H5 e5 => ⟨addT t3 (tt + m * w, c + (m.natAbs : Int)) n, _, _, rfl, (pw4.mono e5).set, tok3.add hbx, fun g => ?_⟩
      rw [Sm_addT, hsm3 g]
      show _ = Sm g t2 + n * (rs (c - many) j (fun m => g (tt + m * w, c + (m.natAbs : Int))) + g (tt + (c - many + (j : Int)) * w, c + ((c - many + (j : Int)).natAbs : Int)))
      rw [hmd, Int.mul_add]; omega
    · obtain ⟨t3, y6, y7, rfl, pw3, tok3, hsm3⟩ := hP
      refine ⟨t3, _, _, _, _, rfl, pw3, tok3, fun g => ?_⟩
      rw [hsm3 g, hsm g, List.take_add_one, he]
      show _ = Sm (rowS many w g) (t.take i ++ [((tt, c), n)])
      rw [Sm_append, Sm_cons, Sm_nil]
      have e1 : (many - c + 1 - (c - many)).toNat = 2 * (many - c).toNat + 1 := by omega
      have e2 : c - many = -((many - c).toNat : Int) := by omega
      rw [e1, e2, rs_sm]
      unfold rowS
      simp
  · obtain ⟨t2, y4, y5, y6, y7, rfl, pw, tok2, hsm⟩ := hP
    refine ⟨pw.fr, ?_⟩
    have hf : upd H' d (.dT (tbl t)) f = some (.dT (tbl t2)) := by rw [upd_ne ndf.symm]; exact pw.fo
    have ex : Ex H (upd H' d (.dT (tbl t))) := fun y o hy => by
      by_cases hyd : y = d
      · subst hyd
        rw [hd] at hy
        rw [upd_same]; exact hy
      · rw [upd_ne hyd]; exact pw.ex y o hyd hy
    refine s_ret (ev_var rfl) fun H5 e5 => q t2 ⟨tok2, fun g => ?_⟩ f H5 nf (ex.trans e5) (e5 _ _ hf)
    rw [hsm g, tbl_len, List.take_length]

/-! ### ways -/
theorem len_ways_X (h : sp_ways_X K CW vs H Q E) : vs.length = (["coins", "amount"] : List Str).length := by
  obtain ⟨p, cs, a, rfl, _⟩ := h
  rfl
theorem q_dnewT {i : Nat} (k : ∀ d, H d = none → tz D (σ.set i (some (.ref d))) (upd H d (.dT (tbl [])))) : tSeq (tAsg tDNewT (gName i)) tz D σ H := fun d hd => k d hd
theorem q_dput1 {f : Addr} (h1 : Ev ta σ H (.ref f)) (hf : H f = some (.dT (tbl []))) (c : ∀ H1, Ex H H1 → tz D σ (upd H1 f (.dT (tbl [((0, 0), 1)])))) : tSeq (sDPut ta (tTup (tCons (tC (.int 0)) (tCons (tC (.int 0)) tNil))) (tC (.int 1))) tz D σ H :=
  h1 H (Ex.refl H) _ fun H2 e2 => (eu_tup (vs := [.int 0, .int 0]) (ea_cons ev_c (ea_cons ev_c ea_nil)) (by simp)) H2 (Ex.refl H2) _ fun q H3 _ e3 hq => ⟨f, _, rfl, DPut.t (k := tkey (0, 0)) (e3 _ _ (e2 _ _ hf)) hq (by show 0 < sizeLine; rw [sizeLine_eq]; omega), c H3 (e2.trans e3)⟩
/-- ways behind its checks -/
def t_ways_rest (K : PySem.W.Frag) : TS :=
  (tSeq (tAsg (tOp (rIxL K) (tCall (sp_heights_of K) [] E0 (tCons (tVar 0) (tCons (tVar 1) tNil))) (tOp rAddI (tOp (rIxL K) (tVar 0) (tUn rNegI (tC (.int 1)))) (tVar 1))) (gName 2))
  (tSeq (tAsg tDNewT (gName 3))
  (tSeq (sDPut (tVar 3) (tTup (tCons (tC (.int 0)) (tCons (tC (.int 0)) tNil))) (tC (.int 1)))
  (tSeq (tFor (iList K (tVar 0)) (gName 4) (tAsg (tCall (sp_put K) [] E0 (tCons (tVar 3) (tCons (tVar 4) (tCons (tVar 2) tNil)))) (gName 3)))
  (tRet (tDGet2 (tVar 3) (tTup (tCons (tVar 1) (tCons (tVar 2) tNil))) (tC (.int 0))))))))
theorem ways_rest {p : Addr} {cs : List Int} {a : Int} (hp : Il H p cs) (hc : Coins cs) (ha : 0 ≤ a ∧ a ≤ 200) (hd : gc cs ∣ a) (q : RetV (.int (waysV cs a)) H Q) : t_ways_rest K (endsOf Q) (start ["coins", "amount", "many", "table", "worth"] [.ref p, .int a]) H := by
  have ht := hc.top
  have hfew := few_short hc.le_top (by omega) ha.1 hd
  refine q_asg (v := .int (few cs a)) (ev_eq (ev_ixNL (el_heights (ev_var rfl) (ev_var rfl) hp hc (by omega)) (ev_add (ev_ixL (ev_var rfl) ev_m1 (sq_of hp) (topC_at hc.ne)) (ev_var rfl)) (atI_int (by omega) (by rw [hOf_len hc ha.1]; omega))) (by rw [hOf_at hc ha.1 (by omega) (by omega)])) fun H4 e4 => ?_
  generalize hmy : few cs a = many at hfew
  refine q_dnewT fun f nf => ?_
  have ex4 : Ex H H4 := e4
  have nfH : H f = none := fresh_back ex4 nf
  refine q_dput1 (ev_var rfl) upd_same fun H5 e5 => ?_
  have ex5 : Ex H (upd H5 f (.dT (tbl [((0, 0), 1)]))) := ((ex4.mut nfH).trans e5).mut nfH
  refine q_forLn (K := K) (xs := cs.map V.int) (ev_var rfl) (sq_of (ex5 _ _ hp)) (fun i σ' H' => ∃ (f : Addr) (t : Tb) (y4 : Option V), σ' = [some (.ref p), some (.int a), some (.int many), some (.ref f), y4] ∧ Ex H H' ∧ H' f = some (.dT (tbl t)) ∧ TabOk many t ∧ Sm (lft (cs.drop i) a many) t = wys cs a many.toNat)
    (fun H6 e6 => ⟨f, [((0, 0), 1)], none, rfl, ex5.trans e6, e6 _ _ upd_same, TabOk.start hfew.1, lft_start⟩) (fun i σ' H' _ hP => by obtain ⟨_, _, _, _, ex, _⟩ := hP; exact sq_of (ex _ _ hp)) (fun i x σ' H' hx hP => ?_) fun σ' H' hP => ?_
  · obtain ⟨f, t, y4, rfl, ex, hf, tok, hsm⟩ := hP
    obtain ⟨w, hw, rfl⟩ := get_int hx
    have hwb := hc.wor w (List.mem_of_getElem? hw)
    refine s_asgCall (D := { nx := _, rt := _, bk := _, ct := _ }) (ea_cons (ev_var rfl) (ea_cons (ev_var rfl) (ea_cons (ev_var rfl) ea_nil))) fun H6 e6 => ⟨f, t, w, many, rfl, e6 _ _ hf, tok, by omega, by omega, fun t2 ok2 f2 H7 nf2 e7 hf2 => ?_⟩
    refine ⟨f2, t2, _, rfl, (ex.trans e6).trans e7, hf2, ok2.ok, ?_⟩
    rw [ok2.lft, ← hsm]
    congr 1
    have hi : i < cs.length := (List.getElem?_eq_some_iff.mp hw).1
    rw [List.drop_eq_getElem_cons hi]
    have : cs[i] = w := by
      have := (List.getElem?_eq_some_iff.mp hw).2
      exact this
    rw [this]
  · obtain ⟨f, t, y4, rfl, ex, hf, tok, hsm⟩ := hP
    rw [List.length_map, List.drop_length, lft_end tok] at hsm
    refine s_ret (ev_dget2U (k := (a, many)) (ev_var rfl) (eu_tup (ea_cons (ev_var rfl) (ea_cons (ev_var rfl) ea_nil)) (by simp)) hf) fun H6 e6 => ?_
    have := q H6 (ex.trans e6)
    unfold waysV at this
    rw [hmy, ← hsm] at this
    exact this
theorem pure_ways_X (h : sp_ways_X K CW vs H Q E) : t_ways_X K CW E (endsOf Q) (start ["coins", "amount", "many", "table", "worth"] vs) H := by
  obtain ⟨p, cs, a, rfl, hp, hc, ha, q, qe⟩ := h
  have gp := hc.gpos
  have ht := hc.top
  refine q_drop (ev_checkC (ev_var rfl) hp hc) fun H1 e1 => ?_
  have hp1 := e1 _ _ hp
  refine q_drop (ev_checkA (ev_var rfl) ev_c ha.1 (by omega)) fun H2 e2 => ?_
  have hp2 : Il H2 p cs := e2 _ _ hp1
  refine q_when (b := decide (0 < a % gc cs)) (et_test (ev_cmp (p := fun i j => decide (j < i)) (ev_mod (ev_var rfl) (ev_common (ev_var rfl) hp2 hc) gp) ev_c)) (fun hb H3 e3 => ?_) fun hb H3 e3 => ?_
  · exact qe (fun d => by
      have := Int.emod_eq_zero_of_dvd d
      rw [this] at hb
      cases hb) H3 ((e1.trans e2).trans e3)
  have hd : gc cs ∣ a := by
    have h0 := Int.emod_nonneg a (show gc cs ≠ 0 by omega)
    have := of_decide_eq_false hb
    exact Int.dvd_of_emod_eq_zero (by omega)
  exact ways_rest (e3 _ _ hp2) hc ha hd fun H4 e4 => q hd H4 (((e1.trans e2).trans e3).trans e4)
end
end Cb

set_option linter.all false
set_option maxRecDepth 100000
/-! Some numbers of ways. Plain Lean. -/
namespace Chg
/-- the same as wys, leaving out what is too far -/
def wysP (g : Nat) : List Int → Int → Nat → Int
  | [], a, l => if a = 0 ∧ l = 0 then 1 else 0
  | w :: r, a, l => if l * g < a.natAbs then 0 else sm l fun m => wysP g r (a - m * w) (l - m.natAbs)
theorem wysP_eq {g : Nat} : ∀ {cs : List Int} {a : Int} {l : Nat}, (∀ w ∈ cs, 0 ≤ w ∧ w ≤ (g : Int)) → wysP g cs a l = wys cs a l
  | [], a, l, _ => rfl
  | w :: r, a, l, h => by
    show (if l * g < a.natAbs then 0 else sm l fun m => wysP g r (a - m * w) (l - m.natAbs)) = _
    split
    · rename_i hf
      exact (wys_far (g := (g : Int)) h (by rw [Int.toNat_natCast]; exact hf)).symm
    · show _ = sm l fun m => wys r (a - m * w) (l - m.natAbs)
      exact sm_congr fun m _ => wysP_eq fun w' hw' => h w' (by simp [hw'])
theorem few_two {cs : List Int} {t : Int} (h : Reach cs 2 t) (h0 : t ≠ 0) (h1 : t ∉ cs) (h2 : -t ∉ cs) : few cs t = 2 := by
  refine few_of (k := 2) ⟨h, fun j hj => ?_⟩
  rintro ⟨l, e1, e2, e3⟩
  match l, e1 with
  | [], _ => exact h0 e3.symm
  | [s], _ =>
    have e : s = t := by simpa using e3
    subst e
    rcases e2 s (by simp) with z | z
    · exact h1 z
    · exact h2 z
  | _ :: _ :: _, e1 => simp at e1; omega
theorem reach_two {cs : List Int} {a b : Int} (ha : Stp cs a) (hb : Stp cs b) : Reach cs 2 (a + b) := (reach_step ha).add (reach_step hb)
abbrev c6 : List Int := [1, 2, 3, 4, 5, 6]
theorem c6_ok : ∀ w ∈ c6, 0 < w ∧ w ≤ 6 := by decide
theorem few_c6_7 : few c6 7 = 2 := few_is c6_ok (k := 2) (reach_two (a := 6) (b := 1) (.inl (by decide)) (.inl (by decide))) (by decide)
theorem few_c6_13 : few c6 13 = 3 := few_is c6_ok (k := 3) ((reach_two (a := 6) (b := 6) (.inl (by decide)) (.inl (by decide))).add (reach_step (w := 1) (.inl (by decide)))) (by decide)
theorem few_c6_198 : few c6 198 = 33 := few_is c6_ok (k := 33) (Reach.mul (w := 6) (.inl (by decide)) 33) (by decide)
theorem few_c6_200 : few c6 200 = 34 := few_is c6_ok (k := 34) ((Reach.mul (w := 6) (.inl (by decide)) 33).add (reach_step (w := 2) (.inl (by decide)))) (by decide)
theorem w_c6_7 : wys c6 7 2 = 3 := by rw [← wysP_eq (g := 6) (by decide)]; decide +kernel
theorem w_c6_13 : wys c6 13 3 = 5 := by rw [← wysP_eq (g := 6) (by decide)]; decide +kernel
theorem w_c6_198 : wys c6 198 33 = 1 := by rw [← wysP_eq (g := 6) (by decide)]; decide +kernel
theorem w_c6_200 : wys c6 200 34 = 5 := by rw [← wysP_eq (g := 6) (by decide)]; decide +kernel
theorem w_1_5_4 : wys [1, 5] 4 2 = 1 := by decide +kernel
theorem w_3_5_4 : wys [3, 5] 4 4 = 2 := by decide +kernel
theorem w_2_30_16 : wys [2, 30] 16 8 = 2 := by decide +kernel
theorem w_2_30_196 : wys [2, 30] 196 14 = 2 := by decide +kernel
theorem w_29_30_200 : wys [29, 30] 200 13 = 1 := by decide +kernel
theorem w_1_2_3_4 : wys [1, 2, 3] 4 2 = 2 := by decide +kernel
theorem w_3_0 : wys [3] 0 0 = 1 := by decide +kernel
theorem w_1_4_6_2 : wys [1, 4, 6] 2 2 = 2 := by decide +kernel
theorem w_1_200 : wys [1] 200 200 = 1 := by decide +kernel
theorem few_2_30_16 : few [2, 30] 16 = 8 := few2 8 0 (by decide) (by decide) (by intro x y h; omega)
theorem few_2_30_196 : few [2, 30] 196 = 14 := few2 8 6 (by decide) (by decide) (by intro x y h; omega)
theorem few_29_30_200 : few [29, 30] 200 = 13 := few2 10 (-3) (by decide) (by decide) (by intro x y h; omega)
theorem few_1_2_3_4 : few [1, 2, 3] 4 = 2 := few_is (g := 3) (by decide) (k := 2) (reach_two (a := 3) (b := 1) (.inl (by decide)) (.inl (by decide))) (by decide)
theorem few_1_4_6_2 : few [1, 4, 6] 2 = 2 := few_two (reach_two (a := 1) (b := 1) (.inl (by decide)) (.inl (by decide))) (by decide) (by decide) (by decide)
end Chg

set_option Elab.async false
set_option linter.all false
set_option maxRecDepth 100000
set_option maxHeartbeats 4000000
/-! Lambdas: made, kept, called. -/
namespace Cb
open PySem PySem.Spec PyProof.Rows L2 Evl LamX NdefX
/-- the object at f is the lambda F with the body e -/
def LamO (f : Addr) (F : NF) (e : Expr) : HO := .ext fun h => ∃ (od : Option Addr) (sl : Array (Option Value)) (pm ctv : Value), h.get? f = some (⟨.type "function", od, .func (PySem.W.kla_fn F.name F.qual F.params e F.scope F.cl pm (.ref F.c) ctv), sl⟩ : Obj)
theorem lamO_ne {f : Addr} {F : NF} {e : Expr} (ps : Array Value) : LamO f F e ≠ .tbl ps := fun z => by
  unfold LamO at z
  cases z
theorem lamO_at {P : Program} {w : World} {H : Hp} {h : Heap} {f : Addr} {F : NF} {e : Expr} (hok : HOk P w H h) (q : H f = some (LamO f F e)) : ∃ (od : Option Addr) (sl : Array (Option Value)) (pm ctv : Value), h.get? f = some (⟨.type "function", od, .func (PySem.W.kla_fn F.name F.qual F.params e F.scope F.cl pm (.ref F.c) ctv), sl⟩ : Obj) := by
  obtain ⟨z, _, _⟩ := hok f _ q
  exact z
section
variable {X : Cx} {pins : List (Addr × Obj)} {σ : L2.St} {H : Hp} {s : Shared}
theorem inv_lam {F : NF} {e : Expr} {o : Obj} {t' : Nat} {pm ctv : Value} (I : Inv X pins σ H s) (ho : o = { cls := .type "function", data := .func (PySem.W.kla_fn F.name F.qual F.params e F.scope F.cl pm (.ref F.c) ctv) }) :
    Inv X pins σ (upd H s.heap.objs.size (LamO s.heap.objs.size F e)) { s with heap := s.heap.push o, toks := t' } := by
  subst ho
  refine I.laid (a := s.heap.objs.size) (fun b u e => Heap.get?_push_of_some _ e) (Nat.le_refl _) ?_
  have q : (s.heap.push ({ cls := .type "function", data := .func (PySem.W.kla_fn F.name F.qual F.params e F.scope F.cl pm (.ref F.c) ctv) } : Obj)).get? s.heap.objs.size = some ({ cls := .type "function", data := .func (PySem.W.kla_fn F.name F.qual F.params e F.scope F.cl pm (.ref F.c) ctv) } : Obj) := Heap.get?_push_size _ rfl
  exact ⟨⟨_, _, pm, ctv, q⟩, ⟨_, q⟩, fun h1 h2 ⟨od, sl, p, t, z⟩ st => ⟨od, sl, p, t, st _ z⟩⟩
theorem lam_make3 {T : List (Addr × Str)} {c P : Addr} {params : Arguments} {body : Expr} {scope : Scope} {pos : Pos} {E : Value → Shared → Prop} {Q : Value → Shared → Prop} (I : Inv X pins σ H s) (TB : TabB X.base X.mg c P) (hcode : X.env.code = .ref c)
    (hm : (P, X.env.qual ++ "<lambda>") ∈ T) (hu : ∀ p ∈ T, p.1 = P → p.2 = X.env.qual ++ "<lambda>") (hT : Tabs T H) (hdef : defaultsOf params X.env = ([], [])) (hfree : ∀ y ∈ scope.names, y.2 = .free → ∃ c, X.env.cells.lookup y.1 = some c)
    (h : ∀ (f c' : Addr) (H1 : Hp) (s' : Shared), Inv X pins σ H1 s' → ExtN H H1 → (∀ b, H1 b = Option.none → H b = Option.none) → Tabs T H1 → H f = none → H1 f = some (LamO f ⟨"<lambda>", X.env.qual ++ "<lambda>", params, [], scope, cloFrom X.env.cells scope.names [], c'⟩ body) → H1 c' = some (CodeO c' (X.env.qual ++ "<lambda>")) → Q (.ref f) s') :
    wpAny (model X.prog X.w) X.A (eval (.Lambda params body scope pos) X.env) Q E s := by
  obtain ⟨ps, hP, ht, ha⟩ := hT _ hm
  refine PySem.W.kla_eval hdef ?_
  have bP : s.heap.BuiltinsAt X.mg P := TB.bm.keeps I.bk
  have hP' : s.heap.get? P = some { cls := .none, data := .fields ps } := I.hok P _ hP
  cases hc : codeAmong pos ps.toList with
  | none =>
    refine PySem.W.kla_makeFunction (mg := X.mg) (c := c) (P := P) (ps := ps) (closure_ok hfree) I.ok.glob (I.mod.glob.keeps I.bk) hcode (TB.code.keeps I.bk) hP' ht hc TB.gP bP fun c' ctv h' tk hx hge hlt hrec htb => ?_
    obtain ⟨c2, oc, vs, t, e2, hoc, hd, hv⟩ := hrec
    cases e2
    have nC : H c' = none := I.hok.fresh hge
    have I1 := inv_table (t' := tk) (more := #[rawInt pos.line, rawInt pos.col, .ref c']) (h' := h') I hP (fun b o hb e => hx b o hb e) htb hge ⟨oc, vs, t, hoc, hd, hv⟩
    have hE : ExtN H (upd (upd H P (.tbl (ps ++ #[rawInt pos.line, rawInt pos.col, .ref c']))) c' (CodeO c' (X.env.qual ++ "<lambda>"))) := fun b o e n => by
      rw [upd_ne (ne_of_none e nC), upd_ne (fun z => n ps (Option.some.inj (e.symm.trans (by rw [z]; exact hP))))]
      exact e
    have eL : (ps ++ #[rawInt pos.line, rawInt pos.col, .ref c']).toList = ps.toList ++ [rawInt pos.line, rawInt pos.col, .ref c'] := by simp
    have T1 : Tabs T (upd (upd H P (.tbl (ps ++ #[rawInt pos.line, rawInt pos.col, .ref c']))) c' (CodeO c' (X.env.qual ++ "<lambda>"))) := fun p hp => by
      by_cases hb : p.1 = P
      · rw [hu p hp hb, hb]
        refine ⟨_, by rw [upd_ne (ne_of_none hP nC), upd_same], by rw [eL]; exact PySem.TriplesOk_snoc _ _ _ _ ht, fun p' cv hcv => ?_⟩
        rw [eL] at hcv
        rcases among_app _ ht hcv with z | z
        · obtain ⟨c0, e1, e2⟩ := ha p' cv z
          exact ⟨c0, e1, hE _ _ e2 codeO_ne⟩
        · exact ⟨c', z, upd_same⟩
      · obtain ⟨ps', a1, a2, a3⟩ := hT p hp
        refine ⟨ps', by rw [upd_ne (ne_of_none a1 nC), upd_ne hb]; exact a1, a2, fun p' cv hcv => ?_⟩
        obtain ⟨c0, e1, e2⟩ := a3 p' cv hcv
        exact ⟨c0, e1, hE _ _ e2 codeO_ne⟩
    have nF := I1.hok.fresh (Nat.le_refl _)
    have I2 := inv_lam (F := ⟨"<lambda>", X.env.qual ++ "<lambda>", params, [], scope, cloFrom X.env.cells scope.names [], c'⟩) (e := body) (t' := tk) (pm := (X.mg "__name__").getD .none) (ctv := ctv) I1 rfl
    refine h h'.objs.size c' _ _ I2 (fun b o e n => ?_) (fun b e => upd_none (upd_none (upd_none e))) (T1.ext fun b o e => ?_) (I.hok.fresh (Nat.le_trans hge (Nat.le_of_lt hlt))) upd_same ?_
    · have e1 := hE b o e n
      exact (upd_ne (ne_of_none e1 nF)).trans e1
    · exact (upd_ne (ne_of_none e nF)).trans e
    · exact (upd_ne (Nat.ne_of_lt hlt)).trans upd_same
  | some cv =>
    obtain ⟨c', e, hco⟩ := ha pos cv hc
    subst e
    refine PySem.W.kla_makeFunctionHit (mg := X.mg) (c := c) (P := P) (ps := ps) (closure_ok hfree) I.ok.glob (I.mod.glob.keeps I.bk) hcode (TB.code.keeps I.bk) hP' ht hc bP fun ctv h' tk hx hsz => ?_
    have I1 : Inv X pins σ H { s with heap := h', toks := tk } := I.kept hx
    have nF : H h'.objs.size = none := I1.hok.fresh (Nat.le_refl _)
    have I2 := inv_lam (F := ⟨"<lambda>", X.env.qual ++ "<lambda>", params, [], scope, cloFrom X.env.cells scope.names [], c'⟩) (e := body) (t' := tk) (pm := (X.mg "__name__").getD .none) (ctv := ctv) I1 rfl
    refine h h'.objs.size c' _ _ I2 (fun b o e n => ?_) (fun b e => upd_none e) (hT.ext fun b o e => ?_) nF upd_same ?_
    · exact (upd_ne (ne_of_none e nF)).trans e
    · exact (upd_ne (ne_of_none e nF)).trans e
    · exact (upd_ne (ne_of_none hco nF)).trans hco
end
/-- the reading of a lambda -/
def tLamM (T : List (Addr × Str)) (mk : Addr → NF) (e : Expr) : TE := fun σ H Q => Tabs T H ∧ ∀ (f c' : Addr) (H1 : Hp), ExtN H H1 → (∀ b, H1 b = Option.none → H b = Option.none) → Tabs T H1 → H f = none → H1 f = some (LamO f (mk c') e) → H1 c' = some (CodeO c' (mk c').qual) → Q (.ref f) H1
section
variable {X : Cx}
theorem pe_lam {T : List (Addr × Str)} {c P : Addr} {params : Arguments} {body : Expr} {scope : Scope} {pos : Pos} (TB : TabB X.base X.mg c P) (hcode : X.env.code = .ref c) (hm : (P, X.env.qual ++ "<lambda>") ∈ T) (hu : ∀ p ∈ T, p.1 = P → p.2 = X.env.qual ++ "<lambda>")
    (hfree : ∀ y ∈ scope.names, y.2 = .free → X.env.scope.names.lookup y.1 = some .cell ∨ X.env.scope.names.lookup y.1 = some .free) (hdef : defaultsOf params X.env = ([], []) := by rfl) :
    PE X (.Lambda params body scope pos) (tLamM T (fun c' => ⟨"<lambda>", X.env.qual ++ "<lambda>", params, [], scope, cloFrom X.env.cells scope.names [], c'⟩) body) := by
  refine ⟨fun pins s σ H Q I h => ?_⟩
  obtain ⟨hT, h⟩ := h
  have hfr : ∀ y ∈ scope.names, y.2 = .free → ∃ c, X.env.cells.lookup y.1 = some c := fun y hy e => (hfree y hy e).elim (fun z => I.ok.has _ (.inl z)) fun z => I.ok.has _ (.inr z)
  exact lam_make3 I TB hcode hm hu hT hdef hfr fun f c' H1 s' I1 eN nn T1 f0 f1 c1 => ⟨.ref f, H1, I1, rfl, h f c' H1 eN nn T1 f0 f1 c1⟩
end
/-- the promise of the lambda F at f -/
structure LOk (P : Program) (w : World) (K : PySem.W.Frag) (mg : Str → Option Value) (base : Heap) (CX : CXT) (k : Nat) (f : Addr) (F : NF) (e : Expr) (ps fr : List Str) (sp : List (Option V) → Sp) : Prop where
  len : ∀ ws vs H Q E, sp ws vs H Q E → vs.length = ps.length
  run : ∀ (A : Around) (outer : List Env) (s : Shared) (H : Hp) (us : List Value) (vs : List V) (ws : List (Option V)) (Q : VK) (E : XK), Room k A → Env0 P w K mg base A outer s H → H f = some (LamO f F e) → H F.c = some (CodeO F.c F.qual) →
    CellsAt F.cl fr ws s.heap H → Vals vs us → sp ws vs H Q E → codeAny (model P w) A (.call (.ref f) ⟨us, []⟩) (CR CX outer P w H s Q E) s
section
variable {CX : CXT} {P : Program} {w : World} {K : PySem.W.Frag} {mg : Str → Option Value} {base : Heap} {N ps fr : List Str} {F : NF} {e : Expr} {f : Addr} {k j : Nat} {sp sp' : List (Option V) → Sp}
theorem lok_of (S : NScope N ps fr F.scope) (hb : ∀ (pm ctv : Value) (us : List Value), us.length = ps.length → bindArgs (PySem.W.kla_fn F.name F.qual F.params e F.scope F.cl pm (.ref F.c) ctv) ⟨us, []⟩ = pure (ps.zip us)) (len : ∀ ws vs H Q E, sp ws vs H Q E → vs.length = ps.length)
    (hbody : ∀ (A : Around) (outer : List Env) (s : Shared) (H : Hp) (vs : List V) (ws : List (Option V)) (Q : VK) (E : XK), Room k (A.deeper (envF F f s.heap.objs.size)) → ws.length = fr.length → sp ws vs H Q E →
      ∃ t : TE, PE (ncx CX P w K mg base N F f A outer s H E) e t ∧ t (startF N vs ws) H Q) :
    LOk P w K mg base CX (k + 1) f F e ps fr sp := by
  refine ⟨len, fun A outer s H us vs ws Q E hr e0 hf hc C r hsp => ?_⟩
  have hl := len _ _ _ _ _ hsp
  have lim : s.heap.NoLimit := e0.mod.nolimit.keeps fun b o e => (e0.bs b o e).1
  obtain ⟨od, sl, pm, ctv, ho⟩ := lamO_at e0.hok hf
  refine PySem.W.kla_callFunE hr.depth ho rfl S.co S.gen rfl (codeO_at e0.hok hc) ?_
  rw [hb pm ctv us (by rw [← r.length]; exact hl)]
  refine wpAny_pure (wpAny_newFunctionEnv S.nocell (fun ⟨n, _⟩ hy => S.par n (List.of_mem_zip hy).1) (fun h₁ hns hsb => ⟨lim.fresh _ hsb, ?_⟩) S.kind)
  show codeAny _ _ (.expr e (envF F f s.heap.objs.size)) _ _
  have kp : ∀ b o, s.heap.get? b = some o → h₁.get? b = some o := fun b o e => hsb.extBut b o (Nat.ne_of_lt (Heap.lt_size e)) (Heap.get?_push_of_some _ e)
  obtain ⟨t, ht, hq⟩ := hbody A outer s H vs ws Q E (hr.deeper _) C.len hsp
  have I : Inv (ncx CX P w K mg base N F f A outer s H E) [] (startF N vs ws) H { s with heap := h₁, toks := s.toks + (ps.zip us).length } := inv_startN S hr.hd e0 hl r C hns kp
  refine PySem.W.kla_codeExpr (wpAny_mono (ht.run [] _ (startF N vs ws) H Q I hq) (fun v s' hq => ?_) fun e s' hq => hq)
  obtain ⟨w', H', J', rv, q⟩ := hq
  exact ⟨w', H', J'.os, J'.bare, J'.base, J'.hok, rv, q⟩
end
section
variable {X : Cx} {pins : List (Addr × Obj)} {σ : L2.St} {H : Hp} {s : Shared}
theorem lamAt_of {f : Addr} {F : NF} {e : Expr} (I : Inv X pins σ H s) (q : H f = some (LamO f F e)) : PySem.W.FnAt f s.heap := by
  obtain ⟨od, sl, pm, ctv, ho⟩ := lamO_at I.hok q
  exact ⟨_, od, _, sl, ho⟩
theorem no_cells {h : Heap} {H : Hp} : CellsAt [] [] [] h H := ⟨rfl, fun y c e => by simp at e, fun x y c e => by simp at e, fun i y e => by simp at e⟩
end
section
variable {X : Cx}
/-- a def that may raise, called in one that may raise: what it lets out goes on -/
theorem pc_callP {k : Nat} {x : Str} {ps : List Str} {sp : Sp} {E : XK} {e : Expr} {es : List Expr} {t : TA} {p pos : Pos} (C : Cal X.prog X.w X.K X.mg X.base (L2.CX X.prog X.w) k x ps sp) (hr : Room k X.A) (tk : Takes X (fun cls d _ H => E cls d H)) (ha : PA X (e :: es) t)
    (hg : Gl X x := by rfl) (hdb : (x == ("__debug__" : Str)) = false := by decide) (he : starEach (e :: es) X.env = (false, eval e X.env) :: starEach es X.env := by rfl) (hpl : (backTo pos (starEach es X.env)).any (·.1) = false := by rfl) :
    PE X (.Call (.Name x p) (e :: es) [] pos) (tCall sp [] E t) := by
  obtain ⟨f, fd, F, hm, hk, hb⟩ := C.ex
  exact pe_call F hr hg hm hk hb .nil (passes_call tk fun _ _ _ _ h => h) ha hdb he hpl
end
/-- a lambda without captured names, by its body -/
theorem lam_ok {P : Program} {w : World} {K : PySem.W.Frag} {mg : Str → Option Value} {base : Heap} {N ps : List Str} {F : NF} {e : Expr} {f : Addr} {k : Nat} {sp : Sp} {t : XK → TE} (S : NScope N ps [] F.scope) (hb : ∀ (pm ctv : Value) (us : List Value), us.length = ps.length → bindArgs (PySem.W.kla_fn F.name F.qual F.params e F.scope F.cl pm (.ref F.c) ctv) ⟨us, []⟩ = pure (ps.zip us)) (len : ∀ vs H Q E, sp vs H Q E → vs.length = ps.length)
    (pure : ∀ vs H Q E, sp vs H Q E → t E (startF N vs []) H Q)
    (body : ∀ (A : Around) (outer : List Env) (s : Shared) (H : Hp) (E : XK), Room k (A.deeper (envF F f s.heap.objs.size)) → PE (ncx (L2.CX P w) P w K mg base N F f A outer s H E) e (t E)) : LOk P w K mg base (L2.CX P w) (k + 1) f F e ps [] (fun _ => sp) :=
  lok_of S hb (fun _ => len) fun A outer s H vs ws Q E hr hl h => ⟨t E, body A outer s H E hr, by
    have : ws = [] := List.length_eq_zero_iff.mp hl
    rw [this]; exact pure vs H Q E h⟩
theorem lam_never {P : Program} {w : World} {K : PySem.W.Frag} {mg : Str → Option Value} {base : Heap} {CX : CXT} {ps : List Str} {F : NF} {e : Expr} {f : Addr} {k : Nat} {sp : Sp} (h : ∀ vs H Q E, ¬ sp vs H Q E) : LOk P w K mg base CX k f F e ps [] (fun _ => sp) :=
  ⟨fun ws vs H Q E q => (h _ _ _ _ q).elim, fun A outer s H us vs ws Q E _ _ _ _ _ _ q => (h _ _ _ _ q).elim⟩
/-- ValueError, and that the errors are such -/
structure Xv (K : PySem.W.Frag) (mg : Str → Option Value) (CB CM CW : Addr) : Prop where
  ve : mg "ValueError" = none
  vB : PySem.W.kitOne K (.ref CB) (.type "ValueError") = some true
  vM : PySem.W.kitOne K (.ref CM) (.type "ValueError") = some true
  vW : PySem.W.kitOne K (.ref CW) (.type "ValueError") = some true
/-- f(..), f a name that holds one of several lambdas without captured names -/
def tCallLam (LF : Nat → Addr → NF) (LE : Nat → Expr) (spL : Nat → Sp) (i : Nat) (E : L2.St → XK) (t : TA) : TE := fun σ H Q => ∃ j f c', σ[i]? = some (some (.ref f)) ∧ H f = some (LamO f (LF j c') (LE j)) ∧
  t σ H fun vs H1 => H1 f = some (LamO f (LF j c') (LE j)) ∧ H1 (LF j c').c = some (CodeO (LF j c').c (LF j c').qual) ∧ spL j vs H1 Q (E σ)
section
variable {X : Cx} {CX : CXT} {LF : Nat → Addr → NF} {LE : Nat → Expr} {spL : Nat → Sp} {LP : Nat → List Str} {i j k : Nat} {x : Str} {E : L2.St → XK} {t : TA} {e : Expr} {es : List Expr} {p pos : Pos}
theorem pe_callLam (Fn : ∀ j f c', LOk X.prog X.w X.K X.mg X.base CX k f (LF j c') (LE j) (LP j) [] (fun _ => spL j)) (hcl : ∀ j c', (LF j c').cl = []) (hr : Room k X.A) (hx : ∀ σ, PassesAt CX X σ (E σ)) (hN : X.N[i]? = some x) (hv : Vis X.env.scope x) (ha : PA X (e :: es) t)
    (hd : (x == ("__debug__" : Str)) = false := by decide) (hcd : (x == ("__classdict__" : Str)) = false := by decide)
    (he : starEach (e :: es) X.env = (false, eval e X.env) :: starEach es X.env := by rfl) (hpl : (backTo pos (starEach es X.env)).any (·.1) = false := by rfl) :
    PE X (.Call (.Name x p) (e :: es) [] pos) (tCallLam LF LE spL i E t) := by
  refine ⟨fun pins s σ H Q I h => ?_⟩
  obtain ⟨j, f, c', hs, hf, ht⟩ := h
  refine wpAny_Call_Name_kw (thn ((pe_var (pos := p) hN hv hd hcd).run pins s σ H (fun v H1 => v = .ref f ∧ H1 = H) I ⟨.ref f, hs, rfl, rfl⟩) fun u s1 ⟨v, H1, I1, r1, q1⟩ => ?_)
  obtain ⟨ev, eH⟩ := q1
  subst ev
  rw [eH] at I1
  obtain rfl : u = Value.ref f := r1
  refine PySem.W.callWith_F (first := []) (lamAt_of I1 hf) (thn (ha.run pos pins s1 σ H _ I1 ht) fun us s2 ⟨vs, H2, I2, r, h1, h2, q⟩ => ⟨lamAt_of I2 h1, ?_⟩) he hpl
  show wpAny _ _ (call (.ref f) us) _ _ _
  refine wpAny_call (codeAny_mono ((Fn j f c').run X.A X.stack s2 H2 us vs [] Q (E σ) hr I2.env0 h1 h2 (by rw [hcl]; exact no_cells) r q) fun r s' hq => ?_)
  cases r with
  | error e => exact hx σ pins H2 s2 e s' I2 hq
  | ok fl =>
    cases fl with
    | ret u => exact I2.after hq
    | next => exact False.elim hq
    | brk => exact False.elim hq
    | cont => exact False.elim hq
end
end Cb

set_option Elab.async false
set_option linter.all false
set_option maxRecDepth 100000
set_option maxHeartbeats 400000
/-! str of lists. -/
namespace Cb
open PySem PySem.Spec PyProof.Rows L2 Evl
def rStrD (K : PySem.W.Frag) : List V → Hp → VK → Prop := fun xs H Q => ∃ (p : Addr) (d : PyData), xs = [.ref p] ∧ Dp K H (.ref p) d ∧ d.showable = true ∧ d.hasDict = false ∧ d.depth ≤ 10 ∧ d.shown.length ≤ sizeLine ∧ Q (.str d.shown) H
section
variable {X : Cx}
theorem call_strD (hg : X.A.guards = some []) (hu : X.A.units + 64 < cLine) : CallR X (.type "str") (rStrD X.K) := fun pins s σ H xs us Q I r ⟨p, d, e1, hd, h1, h2, h3, h4, q⟩ => by
  subst e1
  rw [Vals.ref1 r]
  obtain ⟨as, rd⟩ := Dp.reads I d (.ref p) (.ref p) hd rfl
  exact str_of_reads rd h1 (PyData.noDict_hsm h2) hg (by omega) (fun _ _ e => e) (fun h' u tk k => ⟨.str d.shown, H, I.kept k, ⟨u, rfl⟩, q⟩) h4
end
end Cb

set_option Elab.async false
set_option linter.all false
set_option maxRecDepth 100000
set_option maxHeartbeats 4000000
/-! While an error is handled: iterators that come to their end, tuples unpacked. -/
namespace Cb
open PySem PySem.Spec PyProof.Rows L2 Evl HotX
/-- the error with the address x1 stands in h, its context is None -/
def Hx (x1 : Addr) (h : Heap) : Prop := ∃ (o : Obj) (vs : Array Value), h.get? x1 = some o ∧ o.data = .fields vs ∧ vs[2]? = some .none
theorem Hx.keep {x1 : Addr} {h h' : Heap} (q : Hx x1 h) (k : ∀ o, h.get? x1 = some o → h'.get? x1 = some o) : Hx x1 h' := by
  obtain ⟨o, vs, e, d, c⟩ := q
  exact ⟨o, vs, k o e, d, c⟩
section
variable {prog : Program} {w : World} {A : Around} {E : Value → Shared → Prop} {s : Shared} {x1 : Addr}
/-- what ends an iterator -/
theorem stopHot {α : Type} {Q : α → Shared → Prop} (hh : A.handled = some (.ref x1)) (hx : Hx x1 s.heap)
    (hE : ∀ h' e, (∀ b o, s.heap.get? b = some o → h'.get? b = some o) → (∃ o, h'.get? e = some o ∧ o.cls = .type "StopIteration") → E (.ref e) { s with heap := h' }) :
    wpAny (model prog w) A (Builtin.SmallTypes.stopIteration : Sem α) Q E s := by
  unfold Builtin.SmallTypes.stopIteration newExc newTuple
  obtain ⟨o1, vs1, g1, d1, c1⟩ := hx
  refine wpAny_bind (wpAny_bind (wpAny_newObj_type (wpAny_bind (m := firstArgMember _ _) (wpAny_of_eq (a := .none) rfl (wpAny_newObj_type ?_ (by size_fits)))) (by size_fits)))
  refine raiseNew_hot ⟨hh, o1, vs1, Heap.get?_push_of_some _ (Heap.get?_push_of_some _ g1), d1, c1⟩ (Nat.ne_of_lt (Nat.lt_trans (Heap.lt_size g1) (by rw [Heap.size_push]; exact Nat.lt_succ_self _))) (Heap.get?_push_size _ rfl) rfl (by simp; omega) ?_
  exact hE _ _ (fun b o e => (Heap.get?_update_other _ _ (Nat.ne_of_gt (Nat.lt_trans (Heap.lt_size e) (by rw [Heap.size_push]; exact Nat.lt_succ_self _)))).trans (Heap.get?_push_of_some _ (Heap.get?_push_of_some _ e))) ⟨_, Heap.get?_update_self _ (Heap.get?_push_size _ rfl) rfl, rfl⟩
/-- a list's iterator at its end -/
theorem listEndHot {it l : Addr} {i : Nat} {xs : Array Value} {Q : Fin → Shared → Prop} (hh : A.handled = some (.ref x1)) (hx : Hx x1 s.heap) (hne : x1 ≠ it) (hi : s.heap.IsListIter it l i) (hl : s.heap.IsList l xs) (he : xs[i]? = none)
    (hE : ∀ h' e, Heap.ExtBut it s.heap h' → (∃ o, h'.get? e = some o ∧ o.cls = .type "StopIteration") → E (.ref e) { s with heap := h' }) :
    wpAny (model prog w) A (Builtin.«list_iterator.__next__» ⟨[.ref it], []⟩) Q E s := by
  obtain ⟨o, g, c, d⟩ := hi
  obtain ⟨ol, gl, _, nl, dl⟩ := hl
  show wpAny _ _ (field (.ref it) 0 >>= _) _ _ s
  refine wpAny_bind (wpAny_field g d (x := .ref l) rfl ?_)
  show wpAny _ _ (if (Value.ref l == Value.none) = true then _ else _) _ _ s
  rw [if_neg (by intro z; cases z)]
  show wpAny _ _ (field (.ref it) 1 >>= _) _ _ s
  refine wpAny_bind (wpAny_field g d (x := .int i 0) rfl (wpAny_bind (wpAny_seqItems gl dl ?_)))
  simp only [Int.toNat_natCast, he]
  refine wpAny_bind (wpAny_rule (wpAny_bind (wpAny_setField g d (by simp) (stopHot hh (hx.keep fun o' e => (Heap.get?_update_other _ _ hne.symm).trans e) fun h' e k x => ?_))))
  exact hE h' e (fun b o' hb e' => k b o' ((Heap.get?_update_other _ _ (Ne.symm hb)).trans e')) x
theorem nextOfEndHot {it l : Addr} {i : Nat} {xs : Array Value} {Q : Value → Shared → Prop} (hh : A.handled = some (.ref x1)) (hx : Hx x1 s.heap) (hne : x1 ≠ it) (hi : s.heap.IsListIter it l i) (hl : s.heap.IsList l xs) (he : xs[i]? = none)
    (hE : ∀ h' e, Heap.ExtBut it s.heap h' → (∃ o, h'.get? e = some o ∧ o.cls = .type "StopIteration") → E (.ref e) { s with heap := h' }) : wpAny (model prog w) A (Builtin.SmallTypes.nextOf (.ref it)) Q E s := by
  unfold Builtin.SmallTypes.nextOf
  exact wpAny_bind (wpAny_callSpecial?_slot (name := Str.ofString "__next__") hi.typeIs slot_listiter_next (wpAny_call_entry slot_listiter_next hi.typeIs entry_listiter_next (listEndHot (A := A.in1) hh hx hne hi hl he hE) (args_listiter_next _)))
/-- pyNext, by an end that is a StopIteration -/
theorem nextEnd {it : Addr} {T id : String} {b : Builtin} {Q : Option Value → Shared → Prop} (hT : s.TypeIs (.ref it) T) (hs : Slot T (Str.ofString "__next__") id) (hb : entryFor table id = some b) (ha : argsOk id ⟨[.ref it], []⟩)
    (h : wpAny (model prog w) A.in1 (b ⟨[.ref it], []⟩) (fun _ _ => False) (fun e s' => ∃ a o, e = .ref a ∧ s'.heap.get? a = some o ∧ o.cls = .type "StopIteration" ∧ Q none s') s) : wpAny (model prog w) A (pyNext (.ref it)) Q E s := by
  unfold pyNext
  refine wpAny_bind (wpAny_attempt (wpAny_callSpecial?_slot (name := Str.ofString "__next__") hT hs (wpAny_call_entry hs hT hb (wpAny_mono h (fun _ _ z => z.elim) fun e s' z => ?_) ha)))
  obtain ⟨a, o, rfl, g, c, q⟩ := z
  exact wpAny_bind (wpAny_isInstance (T := "StopIteration") (b := true) ⟨o, g, c⟩ isSubtype_stop (wpAny_pure q))
theorem listDoneHot {it l : Addr} {i : Nat} {xs : Array Value} {Q : Option Value → Shared → Prop} (hh : A.handled = some (.ref x1)) (hx : Hx x1 s.heap) (hne : x1 ≠ it) (hi : s.heap.IsListIter it l i) (hl : s.heap.IsList l xs) (he : xs[i]? = none)
    (hQ : ∀ h', Heap.ExtBut it s.heap h' → Q none { s with heap := h' }) : wpAny (model prog w) A (pyNext (.ref it)) Q E s :=
  nextEnd hi.typeIs slot_listiter_next entry_listiter_next (args_listiter_next _) (listEndHot (A := A.in1) hh hx hne hi hl he fun h' e k ⟨o, g, c⟩ => ⟨e, o, rfl, g, c, hQ h' k⟩)
theorem tupEndHot {it l : Addr} {i : Nat} {xs : Array Value} {Q : Fin → Shared → Prop} (hh : A.handled = some (.ref x1)) (hx : Hx x1 s.heap) (hne : x1 ≠ it) (hi : IsTupIter s.heap it l i) (hl : IsTup s.heap l xs) (he : xs[i]? = none)
    (hE : ∀ h' e, Heap.ExtBut it s.heap h' → (∃ o, h'.get? e = some o ∧ o.cls = .type "StopIteration") → E (.ref e) { s with heap := h' }) :
    wpAny (model prog w) A (Builtin.«tuple_iterator.__next__» ⟨[.ref it], []⟩) Q E s := by
  obtain ⟨o, g, c, d⟩ := hi
  obtain ⟨ol, gl, _, nl, dl⟩ := hl
  show wpAny _ _ (field (.ref it) 0 >>= _) _ _ s
  refine wpAny_bind (wpAny_field g d (x := .ref l) rfl ?_)
  show wpAny _ _ (if (Value.ref l == Value.none) = true then _ else _) _ _ s
  rw [if_neg (by intro z; cases z)]
  show wpAny _ _ (field (.ref it) 1 >>= _) _ _ s
  refine wpAny_bind (wpAny_field g d (x := .int i 0) rfl (wpAny_bind (wpAny_seqItems gl dl ?_)))
  simp only [Int.toNat_natCast, he]
  refine wpAny_bind (wpAny_rule (wpAny_bind (wpAny_setField g d (by simp) (stopHot hh (hx.keep fun o' e => (Heap.get?_update_other _ _ hne.symm).trans e) fun h' e k x => ?_))))
  exact hE h' e (fun b o' hb e' => k b o' ((Heap.get?_update_other _ _ (Ne.symm hb)).trans e')) x
theorem tupDoneHot {it l : Addr} {i : Nat} {xs : Array Value} {Q : Option Value → Shared → Prop} (hh : A.handled = some (.ref x1)) (hx : Hx x1 s.heap) (hne : x1 ≠ it) (hi : IsTupIter s.heap it l i) (hl : IsTup s.heap l xs) (he : xs[i]? = none)
    (hQ : ∀ h', Heap.ExtBut it s.heap h' → Q none { s with heap := h' }) : wpAny (model prog w) A (pyNext (.ref it)) Q E s :=
  nextEnd hi.typeIs slot_tupleiter_next entry_tupleiter_next (args_tupleiter_next _) (tupEndHot (A := A.in1) hh hx hne hi hl he fun h' e k ⟨o, g, c⟩ => ⟨e, o, rfl, g, c, hQ h' k⟩)
/-- a tuple's items, unpacked -/
theorem unpackHot {t : Addr} {xs : Array Value} {Q : List Value → Shared → Prop} (hh : A.handled = some (.ref x1)) (hx : Hx x1 s.heap) (ht : IsTup s.heap t xs)
    (hQ : ∀ h', (∀ b o, s.heap.get? b = some o → h'.get? b = some o) → Q xs.toList { s with heap := h' }) : wpAny (model prog w) A (unpackItems (.ref t) xs.size none) Q E s := by
  have n1 : t ≠ s.heap.objs.size := by obtain ⟨o, e, _⟩ := id ht; exact Nat.ne_of_lt (Heap.lt_size e)
  have n2 : x1 ≠ s.heap.objs.size := by obtain ⟨o, _, e, _⟩ := id hx; exact Nat.ne_of_lt (Heap.lt_size e)
  unfold unpackItems notIterableAtAll
  refine wpAny_bind (wpAny_bind (wpAny_specialOf ht.typeIs slot_tuple_iter.lookup (wpAny_pure ?_)))
  simp only [Bool.false_eq_true, if_false]
  refine wpAny_bind (wpAny_holding (iter_tuple ht (wpAny_bind (wpAny_holding (draw_tuple n1 xs.size 0 _ _ ⟨_, Heap.get?_push_size _ rfl, rfl, rfl⟩ (ht.push _) (by omega) fun h1 i1 k1 => ?_)))))
  rw [List.drop_zero, List.take_of_length_le (by simp), if_neg (by simp)]
  refine wpAny_bind (wpAny_holding (tupDoneHot (s := { s with heap := h1 }) hh ((hx.keep fun o e => Heap.get?_push_of_some _ e).keep fun o e => k1.extBut _ _ n2 e) n2 i1 ((ht.push _).extBut k1.extBut n1) (by simp) fun h2 k2 => ?_))
  simp only [Option.isSome_none, Bool.false_eq_true, if_false]
  exact wpAny_pure (hQ h2 fun b o e => have nb : b ≠ s.heap.objs.size := Nat.ne_of_lt (Heap.lt_size e); k2 b o nb (k1.extBut b o nb (Heap.get?_push_of_some _ e)))
theorem assignTupHot {env : Env} {es : List Expr} {k : Nat} {pos : Pos} {t : Addr} {xs : Array Value} {Q : Unit → Shared → Prop} (hh : A.handled = some (.ref x1)) (hx : Hx x1 s.heap) (ht : IsTup s.heap t xs) (hn : (assignEach es env).length = xs.size) (hs : (assignEach es env).findIdx? (·.1) = none)
    (h : ∀ h', (∀ b o, s.heap.get? b = some o → h'.get? b = some o) → wpAny (model prog w) A (assignInOrder ((assignEach es env).map (·.2)) xs.toList) Q E { s with heap := h' }) : wpAny (model prog w) A (assign (.Tuple es k pos) env (.ref t)) Q E s := by
  rw [assign_Tuple]
  unfold unpack
  rw [hn, hs]
  exact wpAny_bind (wpAny_standAt (wpAny_bind (wpAny_holding (unpackHot hh hx ht h))))
/-- zip of two lists, one of them at its end -/
theorem zipEndHot {z TI TO i1 i2 l1 l2 : Addr} {k1 k2 : Nat} {xs ys : Array Value} {a b : Value} {Q : Fin → Shared → Prop} (hh : A.handled = some (.ref x1)) (hx : Hx x1 s.heap) (nz : x1 ≠ z) (nO : x1 ≠ TO) (n1 : x1 ≠ i1) (n2 : x1 ≠ i2) (D : ZipApart z TI TO i1 i2 l1 l2)
    (gz : IsZip s.heap z TI TO .none) (gI : IsPair s.heap TI (.ref i1) (.ref i2)) (gO : IsPair s.heap TO a b) (g1 : s.heap.IsListIter i1 l1 k1) (g2 : s.heap.IsListIter i2 l2 k2) (q1 : s.heap.IsList l1 xs) (q2 : s.heap.IsList l2 ys) (he : xs[k1]? = none ∨ ys[k2]? = none)
    (hE : ∀ h' e, (∀ c o, c ≠ z → c ≠ TO → c ≠ i1 → c ≠ i2 → s.heap.get? c = some o → h'.get? c = some o) → (∃ o, h'.get? e = some o ∧ o.cls = .type "StopIteration") → E (.ref e) { s with heap := h' }) :
    wpAny (model prog w) A (Builtin.«zip.__next__» ⟨[.ref z], []⟩) Q E s := by
  show wpAny _ _ (field (.ref z) 2 >>= _) _ _ _
  refine wpAny_bind (wpAny_field gz rfl (x := .bool false) rfl ?_)
  show wpAny _ _ (field (.ref z) 3 >>= _) _ _ _
  refine wpAny_bind (wpAny_field gz rfl (x := .ref TI) rfl (wpAny_bind (wpAny_seqItems gI rfl ?_)))
  show wpAny _ _ (Builtin.SmallTypes.ownedTupleIsFree (.ref z) >>= _) _ _ _
  unfold Builtin.SmallTypes.ownedTupleIsFree
  refine wpAny_bind (wpAny_bind (wpAny_field gz rfl (x := .none) rfl (wpAny_pure ?_)))
  simp only [if_true]
  refine wpAny_bind (wpAny_rule (wpAny_bind (wpAny_field gz rfl (x := .ref TO) rfl (wpAny_bind (wpAny_setField_rec gz (by simp) fun h₁ z₁ b₁ => wpAny_bind ?_)))))
  replace z₁ : IsZip h₁ z TI TO .ellipsis := z₁
  simp only [List.zipIdx_cons, List.zipIdx_nil, List.forIn_cons, List.forIn_nil]
  refine wpAny_bind (wpAny_bind (wpAny_onRaise ?_))
  show wpAny _ _ (Builtin.SmallTypes.nextOf (.ref i1) >>= _) _ _ _
  have hx₁ : Hx x1 h₁ := hx.keep fun o e => b₁.extBut _ _ nz e
  -- behind the end: the zip's own field is set, then it is told
  have last : ∀ {h₂ : Heap} {e : Addr} {o : Obj}, IsZip h₂ z TI TO .ellipsis → h₂.get? e = some o → o.cls = .type "StopIteration" → (∀ c o, c ≠ z → c ≠ TO → c ≠ i1 → c ≠ i2 → s.heap.get? c = some o → h₂.get? c = some o) →
      wpAny (model prog w) A (setField (.ref z) 0 .none) (fun _ s' => E (.ref e) s') E { s with heap := h₂ } := fun {h₂ e o} z₂ g c k => by
    have ne : e ≠ z := fun q => by
      subst q
      rw [z₂] at g
      cases g
      simp at c
    exact wpAny_setField_rec z₂ (by simp) fun h₃ _ b₃ => hE h₃ e (fun c' o' c1 c2 c3 c4 x => b₃.extBut _ _ c1 (k c' o' c1 c2 c3 c4 x)) ⟨o, b₃.extBut _ _ ne g, c⟩
  cases e1 : xs[k1]? with
  | none =>
    refine wpAny_bind (nextOfEndHot (s := { s with heap := h₁ }) hh hx₁ n1 (g1.extBut b₁.extBut D.i1z) (q1.extBut b₁.extBut D.l1z) e1 fun h₂ e k₂ x => ?_)
    obtain ⟨o, g, c⟩ := x
    exact last (k₂ _ _ D.i1z.symm z₁) g c fun c' o' c1 _ c3 _ x => k₂ _ _ c3 (b₁.extBut _ _ c1 x)
  | some x =>
    have e2 : ys[k2]? = none := he.elim (fun q => by rw [e1] at q; cases q) id
    refine wpAny_bind (wpAny_nextOf_list_item (s := { s with heap := h₁ }) (g1.extBut b₁.extBut D.i1z) (q1.extBut b₁.extBut D.l1z) e1 fun h₂ _ b₂ => wpAny_pure ?_)
    have O₂ : IsPair h₂ TO a b := b₂.extBut _ _ D.TOi1 (b₁.extBut _ _ D.TOz gO)
    refine wpAny_bind (wpAny_seqItems O₂ rfl (wpAny_bind (wpAny_updateSeq_pair O₂ fun h₃ _ b₃ => wpAny_bind (wpAny_letGo (wpAny_pure (wpAny_bind (wpAny_bind (wpAny_onRaise ?_))))))))
    show wpAny _ _ (Builtin.SmallTypes.nextOf (.ref i2) >>= _) _ _ _
    refine wpAny_bind (nextOfEndHot (s := { s with heap := h₃ }) hh (hx₁.keep fun o e => b₃.extBut _ _ nO (b₂.extBut _ _ n1 e)) n2 (((g2.extBut b₁.extBut D.i2z).extBut b₂.extBut D.i12.symm).extBut b₃.extBut D.TOi2.symm)
      (((q2.extBut b₁.extBut D.l2z).extBut b₂.extBut D.l2i1).extBut b₃.extBut D.l2TO) e2 fun h₄ e k₄ x => ?_)
    obtain ⟨o, g, c⟩ := x
    exact last (k₄ _ _ D.i2z.symm (b₃.extBut _ _ D.TOz.symm (b₂.extBut _ _ D.i1z.symm z₁))) g c fun c' o' c1 c2 c3 c4 x => k₄ _ _ c4 (b₃.extBut _ _ c2 (b₂.extBut _ _ c3 (b₁.extBut _ _ c1 x)))
theorem zipDoneHot {z TI TO i1 i2 l1 l2 : Addr} {k1 k2 : Nat} {xs ys : Array Value} {a b : Value} {Q : Option Value → Shared → Prop} (hh : A.handled = some (.ref x1)) (hx : Hx x1 s.heap) (nz : x1 ≠ z) (nO : x1 ≠ TO) (n1 : x1 ≠ i1) (n2 : x1 ≠ i2) (D : ZipApart z TI TO i1 i2 l1 l2)
    (gz : IsZip s.heap z TI TO .none) (gI : IsPair s.heap TI (.ref i1) (.ref i2)) (gO : IsPair s.heap TO a b) (g1 : s.heap.IsListIter i1 l1 k1) (g2 : s.heap.IsListIter i2 l2 k2) (q1 : s.heap.IsList l1 xs) (q2 : s.heap.IsList l2 ys) (he : xs[k1]? = none ∨ ys[k2]? = none)
    (hQ : ∀ h', (∀ c o, c ≠ z → c ≠ TO → c ≠ i1 → c ≠ i2 → s.heap.get? c = some o → h'.get? c = some o) → Q none { s with heap := h' }) : wpAny (model prog w) A (pyNext (.ref z)) Q E s :=
  nextEnd (T := "zip") ⟨_, gz, rfl⟩ F.slot_zip_next F.entry_zip_next (F.args_zip_next_1 _) (zipEndHot (A := A.in1) hh hx nz nO n1 n2 D gz gI gO g1 g2 q1 q2 he fun h' e k ⟨o, g, c⟩ => ⟨e, o, rfl, g, c, hQ h' k⟩)
end
end Cb

set_option Elab.async false
set_option linter.all false
set_option maxRecDepth 100000
set_option maxHeartbeats 4000000
/-! While an error is handled: lists and zip walked, comprehensions, all, any, calls. The error stands in the context's base. -/
namespace Cb
open PySem PySem.Spec PyProof.Rows L2 Evl HotX
/-- an error is handled, and it stands in the base -/
def HotB (X : Cx) : Prop := ∃ x1, X.A.handled = some (.ref x1) ∧ Hx x1 X.base
section
variable {X : Cx} {pins : List (Addr × Obj)} {σ : L2.St} {H : Hp} {s : Shared}
theorem HotB.get (c : HotB X) (I : Inv X pins σ H s) : ∃ x1, X.A.handled = some (.ref x1) ∧ Hx x1 s.heap ∧ ∀ b, FpOk X pins H b → x1 ≠ b := by
  obtain ⟨x1, hh, o, vs, e, d, z⟩ := c
  refine ⟨x1, hh, ⟨o, vs, I.bk _ _ e, d, z⟩, fun b f q => ?_⟩
  subst q
  rcases f.2.2.2.1 with m | m
  · exact I.ok.noex _ _ e m
  · exact absurd (Nat.lt_of_lt_of_le (Heap.lt_size e) (Nat.le_trans I.ok.bsz m)) (Nat.lt_irrefl _)
end
/-- an iterator, walked while an error is handled -/
structure TurnB (P : Program) (w : World) (K : PySem.W.Frag) (tg : Expr) (J : It) (fp : List Addr) (it : Addr) (tn : Nat → Heap → Prop) : Prop where
  obj : ∀ i h, tn i h → ∀ b ∈ fp, ∃ o, h.get? b = some o ∧ ∀ v, o.data ≠ .cell v
  keep : ∀ i h h', tn i h → (∀ b ∈ fp, ∀ o, h.get? b = some o → h'.get? b = some o) → tn i h'
  item : ∀ (X : Cx), X.prog = P → X.w = w → X.K = K → ∀ (i : Nat) (pins : List (Addr × Obj)) (s : Shared) (σ : L2.St) (H : Hp) (E : Value → Shared → Prop), Inv X pins σ H s → (∀ b ∈ fp, FpOk X pins H b) → tn i s.heap → J.go i H →
    wpAny (model P w) X.A (pyNext (.ref it)) (fun r s1 => ∃ u, r = some u ∧ wpAny (model P w) X.A (letOwnedTupleGo tg (.ref it) u) (fun _ s2 => ∃ x H', Inv X pins σ H' s2 ∧ RelV x u ∧ J.yld i H x H' ∧ tn (i + 1) s2.heap ∧ ∀ b ∈ fp, H' b = none) E s1) E s
  done : ∀ (X : Cx), X.prog = P → X.w = w → X.K = K → HotB X → ∀ (i : Nat) (pins : List (Addr × Obj)) (s : Shared) (σ : L2.St) (H : Hp) (E : Value → Shared → Prop), Inv X pins σ H s → (∀ b ∈ fp, FpOk X pins H b) → tn i s.heap → J.stop i H →
    wpAny (model P w) X.A (pyNext (.ref it)) (fun r s1 => r = none ∧ Inv X pins σ H s1) E s
  self : ∀ (A : Around) (i : Nat) (s : Shared) (Q : Value → Shared → Prop) (E : Value → Shared → Prop), tn i s.heap → Q (.ref it) s → wpAny (model P w) A (pyIter (.ref it)) Q E s
theorem turnB_list {P : Program} {w : World} {K : PySem.W.Frag} {tg : Expr} (a it : Addr) : TurnB P w K tg (Itl K a) [it] it (fun i h => h.IsListIter it a i) where
  obj i h st b hb := by
    obtain rfl : b = it := List.mem_singleton.mp hb
    obtain ⟨o, e, _, d⟩ := st
    exact ⟨o, e, fun v z => by rw [d] at z; cases z⟩
  keep i h h' st k := st.at fun o e => k it (List.mem_singleton.mpr rfl) o e
  item X hP hw hK i pins s σ H E I hf st hg := by
    subst hP hw hK
    obtain ⟨xs, x, hq, hx⟩ := hg
    obtain ⟨us, rv, p, _⟩ := I.list hq
    obtain ⟨u, hu, ru⟩ := rv.get hx
    have f := hf it (List.mem_singleton.mpr rfl)
    refine wpAny_pyNext_list_item st p.isList (x := u) (by simpa using hu) fun h' st' sb => ⟨u, rfl, ?_⟩
    obtain ⟨o, e, c, d⟩ := id st'
    exact go_of (s := { s with heap := h' }) e c d (by decide) ⟨x, H, I.turned (t' := s.toks) (fun b o hb e => (sb.2 b hb).trans e) f.1 f.2.1 f.2.2.2.1 f.2.2.2.2.1 f.2.2.2.2.2, ru, ⟨rfl, fun ys hy => by rw [I.list_inj hy hq]; exact hx⟩, st', fun b hb => (hf b hb).1⟩
  done X hP hw hK hc i pins s σ H E I hf st hg := by
    subst hP hw hK
    obtain ⟨xs, hq, hx⟩ := hg
    obtain ⟨us, rv, p, _⟩ := I.list hq
    have f := hf it (List.mem_singleton.mpr rfl)
    obtain ⟨x1, hh, hx1, ne⟩ := hc.get I
    have hl := rv.length
    exact listDoneHot hh hx1 (ne it f) st p.isList (by simp; omega) fun h' k => ⟨rfl, I.turned (t' := s.toks) (fun b o hb e => k b o hb e) f.1 f.2.1 f.2.2.2.1 f.2.2.2.2.1 f.2.2.2.2.2⟩
  self _ _ _ _ _ st h := wpAny_pyIter_listiter st h
theorem mem5 {c z a b d e : Addr} (h : c ∈ [z, a, b, d, e]) : c = z ∨ c = a ∨ c = b ∨ c = d ∨ c = e := by simpa using h
theorem turnB_zip {P : Program} {w : World} {K : PySem.W.Frag} {es : List Expr} {kk : Nat} {tp : Pos} {a b z TI TO i1 i2 : Addr} (D : ZipApart z TI TO i1 i2 a b) :
    TurnB P w K (.Tuple es kk tp) (Itz K a b) [z, TI, TO, i1, i2] z (fun i h => IsZip h z TI TO .none ∧ IsPair h TI (.ref i1) (.ref i2) ∧ (∃ x y, IsPair h TO x y) ∧ h.IsListIter i1 a i ∧ h.IsListIter i2 b i) where
  obj i h st c hc := by
    obtain ⟨gz, gI, ⟨x, y, gO⟩, ⟨o1, e1, _, d1⟩, ⟨o2, e2, _, d2⟩⟩ := st
    rcases mem5 hc with rfl | rfl | rfl | rfl | rfl
    · exact ⟨_, gz, nofun⟩
    · exact ⟨_, gI, nofun⟩
    · exact ⟨_, gO, nofun⟩
    · exact ⟨o1, e1, fun v q => nomatch d1.symm.trans q⟩
    · exact ⟨o2, e2, fun v q => nomatch d2.symm.trans q⟩
  keep i h h' st k := by
    obtain ⟨gz, gI, ⟨x, y, gO⟩, g1, g2⟩ := st
    exact ⟨k z (by simp) _ gz, k TI (by simp) _ gI, ⟨x, y, k TO (by simp) _ gO⟩, g1.at fun o q => k i1 (by simp) o q, g2.at fun o q => k i2 (by simp) o q⟩
  item X hP hw hK i pins s σ H E I hf st hg := by
    subst hP hw hK
    obtain ⟨gz, gI, ⟨x0, y0, gO⟩, g1, g2⟩ := st
    obtain ⟨xs, ys, x, y, qx, qy, hx, hy⟩ := hg
    obtain ⟨us, rv, p, _⟩ := I.list qx
    obtain ⟨us2, rv2, p2, _⟩ := I.list qy
    obtain ⟨u, hu, ru⟩ := rv.get hx
    obtain ⟨u2, hu2, ru2⟩ := rv2.get hy
    have lt : ∀ c ∈ [z, TI, TO, i1, i2], c < s.heap.objs.size := fun c hc => by
      rcases mem5 hc with rfl | rfl | rfl | rfl | rfl
      · exact Heap.lt_size gz
      · exact Heap.lt_size gI
      · exact Heap.lt_size gO
      · exact let ⟨_, e, _⟩ := g1; Heap.lt_size e
      · exact let ⟨_, e, _⟩ := g2; Heap.lt_size e
    refine wpAny_pyNext_zip_item D gz gI gO g1 g2 p.isList p2.isList (x := u) (y := u2) (by simpa using hu) (by simpa using hu2) fun h' z' O' k1 k2 hT _ hk => ⟨_, rfl, wpAny_letOwnedTupleGo_zip (s := { s with heap := h' }) z' fun h2 z2 sb => ?_⟩
    have kp : ∀ c o, c ∉ [z, TI, TO, i1, i2] → s.heap.get? c = some o → h2.get? c = some o := fun c o hc q => by
      simp only [List.mem_cons, List.not_mem_nil, or_false, not_or] at hc
      exact (sb.2 c hc.1).trans (hk c o hc.1 hc.2.2.1 hc.2.2.2.1 hc.2.2.2.2 q)
    have gT : h2.get? s.heap.objs.size = some { cls := .type "tuple", data := .seq #[u, u2] } := (sb.2 _ (Nat.ne_of_gt (lt z (by simp)))).trans hT
    have J := I.turnedNew (t' := s.toks) (ch := [z, TI, TO, i1, i2]) kp hf (Nat.le_refl _) (ob := .tup [x, y]) ⟨by show 2 ≤ sizeLine; decide, [u, u2], .cons ru (.cons ru2 .nil), ⟨_, gT, rfl, _, rfl⟩⟩
    refine ⟨.ref s.heap.objs.size, _, J, rfl, ⟨_, x, y, rfl, I.hok.fresh (Nat.le_refl _), rfl, fun l hl => by rw [I.list_inj hl qx]; exact hx, fun l hl => by rw [I.list_inj hl qy]; exact hy⟩,
      ⟨z2, (sb.2 _ D.TIz).trans (hk _ _ D.TIz D.TITO D.TIi1 D.TIi2 gI), ⟨u, u2, (sb.2 _ D.TOz).trans O'⟩, k1.at fun o q => (sb.2 _ D.i1z).trans q, k2.at fun o q => (sb.2 _ D.i2z).trans q⟩, fun c hc => ?_⟩
    rw [upd_ne (Nat.ne_of_lt (lt c hc))]
    exact (hf c hc).1
  done X hP hw hK hc i pins s σ H E I hf st hg := by
    subst hP hw hK
    obtain ⟨gz, gI, ⟨x0, y0, gO⟩, g1, g2⟩ := st
    obtain ⟨xs, ys, qx, qy, hend⟩ := hg
    obtain ⟨us, rv, p, _⟩ := I.list qx
    obtain ⟨us2, rv2, p2, _⟩ := I.list qy
    have l1 := rv.length
    have l2 := rv2.length
    obtain ⟨x1, hh, hx1, ne⟩ := hc.get I
    exact zipDoneHot hh hx1 (ne _ (hf z (by simp))) (ne _ (hf TO (by simp))) (ne _ (hf i1 (by simp))) (ne _ (hf i2 (by simp))) D gz gI gO g1 g2 p.isList p2.isList (hend.imp (fun q => by simp; omega) fun q => by simp; omega) fun h' k => ⟨rfl, I.turnedL (t' := s.toks) (ch := [z, TI, TO, i1, i2]) (fun c o hb q => by
      simp only [List.mem_cons, List.not_mem_nil, or_false, not_or] at hb
      exact k c o hb.1 hb.2.2.1 hb.2.2.2.1 hb.2.2.2.2 q) hf⟩
  self A i s Q E st h := wpAny_pyIter_zip st.1 h
end Cb

set_option Elab.async false
set_option linter.all false
set_option maxRecDepth 100000
set_option maxHeartbeats 4000000
/-! While an error is handled: loops, comprehensions, all, any, unpacking. -/
namespace Cb
open PySem PySem.Spec PyProof.Rows L2 Evl HotX
/-- an iterable while an error is handled -/
structure PIB (X : Cx) (tg iter : Expr) (wi : TI) : Prop where
  run : ∀ (pins : List (Addr × Obj)) (s : Shared) (σ : L2.St) (H : Hp) (R : It → Hp → Prop), Inv X pins σ H s → wi σ H R →
    wpAny (model X.prog X.w) X.A (eval iter X.env) (fun v s1 => wpAny (model X.prog X.w) X.A (pyIter v) (fun itv s2 => ∃ (it : Addr) (fp : List Addr) (tn : Nat → Heap → Prop) (J : It) (H' : Hp), itv = .ref it ∧ Inv X pins σ H' s2 ∧ TurnB X.prog X.w X.K tg J fp it tn ∧ tn 0 s2.heap ∧ (∀ b ∈ fp, FpOk X pins H' b) ∧ R J H') X.xe s1) X.xe s
section
variable {X : Cx} {tg : Expr}
theorem pib_list {l : Expr} {tl : TE} (hl : PE X l tl) : PIB X tg l (iList X.K tl) := ⟨fun pins s σ H R I h => thn (hl.run pins s σ H _ I h) fun v s1 ⟨x, H1, I1, r1, a, e, ⟨xs, hq⟩, q⟩ => by
  subst e
  cases r1
  obtain ⟨us, rv, p, _⟩ := I1.list hq
  exact wpAny_pyIter_list p.isList ⟨_, [s1.heap.objs.size], _, _, H1, rfl, I1.kept (t' := s1.toks) fun b o e => Heap.get?_push_of_some _ e, turnB_list a _, ⟨_, Heap.get?_push_size _ rfl, rfl, rfl⟩, fun b hb => (List.mem_singleton.mp hb) ▸ I1.fpOk (Nat.le_refl _) (I1.hok.fresh (Nat.le_refl _)), q⟩⟩
theorem pib_zip {e e2 : Expr} {ta : TA} {p pos tp : Pos} {es : List Expr} {kk : Nat} (hg : Gl X "zip") (hm : X.mg "zip" = none) (ha : PA X [e, e2] ta)
    (hs : starEach [e, e2] X.env = (false, eval e X.env) :: starEach [e2] X.env := by rfl) (hpl : (backTo pos (starEach [e2] X.env)).any (·.1) = false := by rfl) :
    PIB X (.Tuple es kk tp) (.Call (.Name "zip" p) [e, e2] [] pos) (iZip X.K ta) := ⟨fun pins s σ H R I h => by
  refine Call_ (ld_blt I hg hm PyProof.Rows.boot_zip (PyProof.Rows.callWith_type1 (thn (ha.run pos pins s σ H _ I h) fun us s1 ⟨vs, H1, I1, r1, a, b, xs, ys, ev, qx, qy, q⟩ => ?_) hs hpl))
  subst ev
  obtain ⟨u1, ur, rfl, rfl, rr⟩ : ∃ u1 ur, us = u1 :: ur ∧ u1 = .ref a ∧ Vals [.ref b] ur := by cases r1 with | cons h t => exact ⟨_, _, rfl, h, t⟩
  obtain rfl : ur = [.ref b] := Vals.ref1 rr
  obtain ⟨_, _, p1, _⟩ := I1.list qx
  obtain ⟨_, _, p2, _⟩ := I1.list qy
  refine call_zip_2 p1.isList p2.isList fun h' gz gI gO g1 g2 _ hk => wpAny_pyIter_zip gz ?_
  refine ⟨_, [s1.heap.objs.size + 4, s1.heap.objs.size + 2, s1.heap.objs.size + 3, s1.heap.objs.size, s1.heap.objs.size + 1], _, _, H1, rfl, I1.kept (t' := s1.toks) hk, turnB_zip (PySem.W.ktu_apart s1.heap.objs.size a b p1.lt p2.lt), ⟨gz, gI, ⟨_, _, gO⟩, g1, g2⟩, fun c hc => ?_, q⟩
  have le : s1.heap.objs.size ≤ c := by rcases mem5 hc with rfl | rfl | rfl | rfl | rfl <;> first | exact Nat.le_add_right _ _ | exact Nat.le_refl _
  exact I1.fpOk le (I1.hok.fresh le)⟩
/-- for over it -/
theorem psb_for {iter : Expr} {body : List Stmt} {wi : TI} {g : TG} {tb : TS} {pos : Pos} (hp : PassesOwn (model X.prog X.w) X.A X.env X.xe) (hc : HotB X) (hi : PIB X tg iter wi) (hg : PG X tg g) (hb : PSs X body tb)
    (hs : ∀ x, foldedSetIterable iter X.env x = pure x := by intro _; rfl) : PS X (.For tg iter body [] pos) (tFor wi g tb) := ⟨fun pins s σ H D I h => by
  refine wpAny_For (thn (hi.run pins s σ H _ I h) fun v s1 h1 => thn h1 fun itv s2 ⟨it, fp, tn, J, H2, e, I2, T, st, f2, W, ⟨m0, w0⟩, turn⟩ => ?_) hs
  subst e
  have ff : ∀ {H' : Hp}, (∀ b ∈ fp, H' b = none) → ∀ b ∈ fp, FpOk X pins H' b := fun hn b hb => ⟨hn b hb, (f2 b hb).2⟩
  refine codeAny_forLoop_any (fun n t => ∃ i σ' H', Inv X pins σ' H' t ∧ tn i t.heap ∧ (∀ b ∈ fp, H' b = none) ∧ W i n σ' H') (fun n t ⟨i, σ', H', J', st', fr', w'⟩ => ?_) m0 ⟨0, σ, H2, I2, st, fun b hb => (f2 b hb).1, w0⟩
  rcases turn i n σ' H' w' with ⟨stop, qn⟩ | ⟨go, N, hN, step⟩
  · exact wpAny_passesOwn hp (thn (T.done X rfl rfl rfl hc i pins t σ' H' X.xe J' (ff fr') st' stop) fun r t4 ⟨hr, J4⟩ => hr ▸ wpAny_execs_nil ⟨σ', H', J4, qn⟩)
  · refine wpAny_passesOwn hp (thn (T.item X rfl rfl rfl i pins t σ' H' X.xe J' (ff fr') st' go) fun r t4 ⟨u, hr, h4⟩ => hr ▸ wpAny_passesOwn hp (thn h4 fun _ t5 ⟨x, H5, J5, r5, y5, st5, fr5⟩ => ?_))
    refine wpAny_passesOwn hp (thn (hg.run _ t5 σ' H5 x u _ (J5.pinned (ff fr5) (T.obj _ _ st5)) r5 (step x H5 y5)) fun _ t6 ⟨σ6, H6, J6, q6⟩ => wpAny_passesOwn hp (thn (hb.run _ t6 σ6 H6 _ J6 q6) fun f t7 q7 => ?_))
    have more : ∀ {σ7 : L2.St} {H7 : Hp}, Inv X (pins ++ pinsAt fp t5.heap) σ7 H7 t7 → N σ7 H7 → ∃ m, m < n ∧ ∃ i σ' H', Inv X pins σ' H' t7 ∧ tn i t7.heap ∧ (∀ b ∈ fp, H' b = none) ∧ W i m σ' H' := fun {σ7 H7} J7 n7 => by
      have held : ∀ b ∈ fp, ∀ o, t5.heap.get? b = some o → t7.heap.get? b = some o ∧ H7 b = none := fun b hb o e =>
        have z := J7.pin (b, o) (List.mem_append_right _ (List.mem_append_right _ (mem_pinsAt hb e)))
        ⟨z.1, z.2.1⟩
      obtain ⟨m', hm, w7⟩ := hN σ7 H7 n7
      exact ⟨m', hm, i + 1, σ7, H7, J7.unpinned, T.keep _ _ _ st5 fun b hb o e => (held b hb o e).1, fun b hb => have ⟨o, e, _⟩ := T.obj _ _ st5 b hb; (held b hb o e).2, w7⟩
    cases f with
    | next => exact let ⟨_, _, J7, n7⟩ := q7; more J7 n7
    | cont => exact let ⟨_, _, J7, n7⟩ := q7; more J7 n7
    | brk => exact let ⟨σ7, H7, J7, z⟩ := q7; ⟨σ7, H7, J7.unpinned, z⟩
    | ret v => exact let ⟨x7, σ7, H7, J7, r7, z⟩ := q7; ⟨x7, σ7, H7, J7.unpinned, r7, z⟩⟩
/-- the turns of a comprehension's block -/
theorem lcb_loop {B : Cx} {fp : List Addr} {it D : Addr} {tn : Nat → Heap → Prop} {J : It} {elt iter : Expr} {ifs : List Expr} {scope : Scope} {pos : Pos} {g : TG} {tt : TT} {te : TE} {σ0 : L2.St} {vs : List Nat} {R : Result → Shared → Prop} {Qe : Hp → Prop} {W : Nat → Nat → Hp → Prop} {m0 : Nat} {H0 : Hp} {s : Shared}
    (hx : B.xe = fun _ _ => False) (hc : HotB B) (T : TurnB B.prog B.w B.K tg J fp it tn) (hg : PG B tg g) (ht : PTs B ifs tt) (he : PE B elt te) (ff : ∀ {σ' : L2.St} {H' : Hp} {s' : Shared}, Inv B [] σ' H' s' → (∀ b ∈ fp, H' b = none) → ∀ b ∈ fp, FpOk B [] H' b)
    (I : Inv B [] (wipe σ0 vs) H0 s) (st : tn 0 s.heap) (fr : ∀ b ∈ fp, H0 b = none) (w0 : W 0 m0 H0)
    (turn : ∀ i m H, W i m H → (J.stop i H ∧ Qe H) ∨ (J.go i H ∧ ∃ Nx : Hp → Prop, (∀ H', Nx H' → ∃ m', m' < m ∧ W (i + 1) m' H') ∧ ∀ x H', J.yld i H x H' → g x (wipe σ0 vs) H' fun σ2 H2 => wipe σ2 vs = wipe σ0 vs ∧ tt σ2 H2 fun b H3 =>
      if b = true then te σ2 H3 fun y H4 => ∃ acc, H4 D = some (.lst acc) ∧ acc.length < sizeLine ∧ Nx (upd H4 D (.lst (acc ++ [y]))) else Nx H3))
    (fin : ∀ H' s', Inv B [] (wipe σ0 vs) H' s' → Qe H' → R (.ok .next) s') : codeAny (model B.prog B.w) B.A (.compLoop (.ListComp elt [⟨tg, iter, ifs, 0⟩] scope pos) 0 (.ref it) (.ref D) B.env) R s := by
  refine compLoop_any (fun n t => ∃ i H', Inv B [] (wipe σ0 vs) H' t ∧ tn i t.heap ∧ (∀ b ∈ fp, H' b = none) ∧ W i n H') (fun n t ⟨i, H', J', st', fr', w'⟩ => ?_) m0 ⟨0, H0, I, st, fr, w0⟩
  have noX : ∀ {α : Type} {m : Sem α} {Q : α → Shared → Prop} {E : Value → Shared → Prop} {t : Shared}, wpAny (model B.prog B.w) B.A m Q B.xe t → wpAny (model B.prog B.w) B.A m Q E t := fun h => wpAny_mono h (fun _ _ q => q) fun _ _ z => by rw [hx] at z; exact z.elim
  rcases turn i n H' w' with ⟨stop, qe⟩ | ⟨go, Nx, hNx, step⟩
  · exact thn (T.done B rfl rfl rfl hc i [] t _ H' _ J' (ff J' fr') st' stop) fun r t4 ⟨hr, J4⟩ => hr ▸ fin H' t4 J4 qe
  · refine thn (T.item B rfl rfl rfl i [] t _ H' _ J' (ff J' fr') st' go) fun r t4 ⟨u, hr, h4⟩ => hr ▸ thn h4 fun _ t5 ⟨x, H5, J5, r5, y5, st5, fr5⟩ => ?_
    refine thn (noX (hg.run _ t5 _ H5 x u _ (J5.pinned (ff J5 fr5) (T.obj _ _ st5)) r5 (step x H5 y5))) fun _ t6 ⟨σ6, H6, J6, hw, q6⟩ => thn (noX (ht.run _ t6 σ6 H6 _ J6 q6)) fun b t7 ⟨H7, J7, q7⟩ => ?_
    have more : ∀ {t' : Shared} {G : Hp}, Inv B ([] ++ pinsAt fp t5.heap) σ6 G t' → Nx G → ∃ m, m < n ∧ ∃ i H', Inv B [] (wipe σ0 vs) H' t' ∧ tn i t'.heap ∧ (∀ b ∈ fp, H' b = none) ∧ W i m H' := fun {t' G} J8 nx => by
      have held : ∀ b ∈ fp, ∀ o, t5.heap.get? b = some o → t'.heap.get? b = some o ∧ G b = none := fun b hb o e =>
        have z := J8.pin (b, o) (List.mem_append_right _ (List.mem_append_right _ (mem_pinsAt hb e)))
        ⟨z.1, z.2.1⟩
      obtain ⟨m', hm, w8⟩ := hNx G nx
      exact ⟨m', hm, i + 1, G, (J8.unpinned (pins := [])).weak (by rw [← hw, wipe_length]) fun j v e => (wipe_some (by rw [← hw] at e; exact e)).1, T.keep _ _ _ st5 fun b hb o e => (held b hb o e).1, fun b hb => have ⟨o, e, _⟩ := T.obj _ _ st5 b hb; (held b hb o e).2, w8⟩
    cases b with
    | false => exact more J7 q7
    | true => exact thn (noX (he.run _ t7 σ6 H7 _ J7 q7)) fun z t8 ⟨y, H8, J8, r8, acc, hD, hz, nx⟩ => app_ok J8 hD hz r8 fun t9 J9 => more J9 nx
/-- [elt for target in iter if ..] -/
theorem peb_lc {elt iter : Expr} {ifs : List Expr} {scope : Scope} {own : List (Str × Nat)} {pos : Pos} {wi : TI} {g : TG} {tt : TT} {te : TE} (hc : HotB X) (hN : X.N.Nodup) (hi : PIB X tg iter wi) (ok : BlkOk X.N X.env.scope scope own)
    (hg : ∀ (s : Shared) (H : Hp) (C : Addr) (cl : List (Str × Addr)) (fp : List Addr), PG (X.blk s H scope (compEnvC scope cl C X.env) fp) tg g) (ht : ∀ (s : Shared) (H : Hp) (C : Addr) (cl : List (Str × Addr)) (fp : List Addr), PTs (X.blk s H scope (compEnvC scope cl C X.env) fp) ifs tt)
    (he : ∀ (s : Shared) (H : Hp) (C : Addr) (cl : List (Str × Addr)) (fp : List Addr), PE (X.blk s H scope (compEnvC scope cl C X.env) fp) elt te) (hs : ∀ x, foldedSetIterable iter X.env x = pure x := by intro _; rfl) :
    PE X (.ListComp elt [⟨tg, iter, ifs, 0⟩] scope pos) (tLc wi g tt te (own.map (·.2))) := ⟨fun pins s σ H Q I h => by
  rw [eval_ListComp]
  refine wpAny_comprehension_free rfl hs (closure_ok fun y hy e => (ok.free y hy e).elim (fun k => I.ok.has _ (.inl k)) fun k => I.ok.has _ (.inr k)) ok.kind (fun y hy e => by rw [ok.uniq y hy, e]) (thn (hi.run pins s σ H _ I h) fun xv s1 hx => thn hx fun itv s2 ⟨it, fp, tn, J, H2, e, I2, T, st, f2, q⟩ => ?_)
  subst e
  refine wpAny_newObj_type (newEnv_comp ?_) (by show 0 ≤ sizeLine; decide)
  have nD : H2 s2.heap.objs.size = none := I2.hok.fresh (Nat.le_refl _)
  obtain ⟨W, ⟨m0, w0⟩, turn⟩ := q _ nD
  -- the new list, then the block
  have I3 : Inv X pins σ (upd H2 s2.heap.objs.size (.lst [])) { s2 with heap := s2.heap.push { cls := .type "list", data := .seq ([] : List Value).toArray } } := I2.laid (t' := s2.toks) (fun b o e => Heap.get?_push_of_some _ e) (Nat.le_refl _) ⟨Nat.zero_le _, [], 0, .nil, Heap.get?_push_size _ rfl⟩
  have old : ∀ b ∈ fp, b < s2.heap.objs.size := fun b hb => have ⟨_, e, _⟩ := T.obj _ _ st b hb; Heap.lt_size e
  have f3 : ∀ b ∈ fp, FpOk X pins (upd H2 s2.heap.objs.size (.lst [])) b ∧ b < (s2.heap.push { cls := .type "list", data := .seq ([] : List Value).toArray }).objs.size := fun b hb =>
    ⟨⟨by rw [upd_ne (Nat.ne_of_lt (old b hb))]; exact (f2 b hb).1, (f2 b hb).2⟩, by rw [Heap.size_push]; exact Nat.lt_succ_of_lt (old b hb)⟩
  have I4 := block_start I3 ok hN f3
  generalize hD : s2.heap.objs.size = D at *
  generalize hh3 : s2.heap.push { cls := .type "list", data := .seq ([] : List Value).toArray } = h3 at *
  have st3 : tn 0 h3 := T.keep _ _ _ st fun b _ o e => by rw [← hh3]; exact Heap.get?_push_of_some _ e
  have st4 : tn 0 (pushCells (h3.push { cls := .type "dict", data := .dict #[] }) scope.names) := T.keep _ _ _ st3 fun b _ o e => pushCells_keeps _ _ _ _ (Heap.get?_push_of_some _ e)
  have loop := lcb_loop (B := X.blk { s2 with heap := h3 } (upd H2 D (.lst [])) scope (compEnvC scope (cellsFrom (h3.objs.size + 1) scope.names (cloFrom X.env.cells scope.names [])) h3.objs.size X.env) fp) (iter := iter) (scope := scope) (pos := pos) (R := compPost (model X.prog X.w) X.A X.xe none (EP X pins σ Q) (.ref D) h3.objs.size)
    rfl hc T (hg _ _ _ _ _) (ht _ _ _ _ _) (he _ _ _ _ _) (fun J' hn b hb => ⟨hn b hb, (J'.ok.exf b hb).1, J'.ok.exfs b hb, .inl hb, fun x c e => (J'.ok.exf b hb).2 x c e, fun p hp => nomatch hp⟩) I4 st4 (fun b hb => (f3 b hb).1.1) w0 turn fun H6 s6 I6 q6 => by
      have I7 : Inv X pins σ H6 s6 := I3.call' (ch := fp) I6.os I6.base I6.hok I6.bare fun b hb => have z := (f3 b hb).1.2; ⟨z.2.2.1, z.1, z.2.2.2.1, z.2.2.2.2⟩
      obtain ⟨m, ns, _⟩ := I6.loc
      have z : FpOk X pins H6 h3.objs.size := I3.fpOk (Nat.le_refl _) I6.free
      exact ⟨m, ns, fun h' sb => ⟨.ref D, H6, I7.turned (t' := s6.toks) (fun b o hb e => (sb.2 b hb).trans e) z.1 z.2.1 z.2.2.2.1 z.2.2.2.2.1 z.2.2.2.2.2, rfl, q6⟩⟩
  exact codeAny_compStart_list loop (T.self X.A 0 _ _ _ st4 loop)⟩
end
end Cb

set_option Elab.async false
set_option linter.all false
set_option maxRecDepth 100000
set_option maxHeartbeats 4000000
/-! While an error is handled: unpacking, all, any, defs and their calls. -/
namespace Cb
open PySem PySem.Spec PyProof.Rows L2 Evl HotX
section
variable {X : Cx}
theorem pgb_tup {es : List Expr} {k : Nat} {t : TGs} {n : Nat} {pos : Pos} (hc : HotB X) (h : PGs X es t) (hn : (assignEach es X.env).length = n := by rfl) (hst : (assignEach es X.env).findIdx? (·.1) = none := by rfl) : PG X (.Tuple es k pos) (gTup X.K n t) := ⟨fun pins s σ H v u Q I r ⟨a, xs, e1, hq, hl, hw⟩ => by
  subst e1
  cases r
  obtain ⟨us, rv, ht, _⟩ := I.tuple hq
  obtain ⟨x1, hh, hx, _⟩ := hc.get I
  exact assignTupHot hh hx ht (by simp [hn, ← hl, rv.length]) hst fun h' kp => h.run pins _ σ H xs _ Q (I.kept (t' := s.toks) kp) (by simpa using rv) hw⟩
/-- a, b = x, y -/
theorem psb_par {i j : Nat} {x y : Str} {a b : Expr} {ta : TA} {px py pt pos : Pos} {kt k2 pt2} (hc : HotB X) (hN : X.N.Nodup) (hi : X.N[i]? = some x) (hj : X.N[j]? = some y) (hij : i ≠ j) (hx : X.env.scope.names.lookup x = some .local) (hy : X.env.scope.names.lookup y = some .local) (ha : PA X [a, b] ta)
    (hw : swappedStores [.Tuple [.Name x px, .Name y py] kt pt] (.Tuple [a, b] k2 pt2) X.env = pure (some [x, y])) (hs : swapsWithSole [.Tuple [.Name x px, .Name y py] kt pt] (.Tuple [a, b] k2 pt2) pos.line X.env = pure false := by rfl) :
    PS X (.Assign [.Tuple [.Name x px, .Name y py] kt pt] (.Tuple [a, b] k2 pt2) pos) (tPar i j ta) := by
  refine ⟨fun pins s σ H D I h => ?_⟩
  rw [exec_Assign_arm]
  refine wpAny_bind (wpAny_standAt ?_)
  rw [hs]
  refine wpAny_bind (wpAny_pure ?_)
  rw [if_neg (by decide)]
  refine wpAny_bind (Tuple_ (thn (ha.run _ pins s σ H _ I h) fun us s1 hus => ?_))
  obtain ⟨vs, H1, I1, r1, v, w, e1, q1⟩ := hus
  subst e1
  obtain ⟨u1, u2, e2, rv, rw'⟩ : ∃ u1 u2, us = [u1, u2] ∧ RelV v u1 ∧ RelV w u2 := by
    cases r1 with | cons p q => cases q with | cons p' q' => cases q'; exact ⟨_, _, rfl, p, p'⟩
  subst e2
  refine wpAny_newObj_type ?_ (by show 2 ≤ sizeLine; decide)
  have I2 : Inv X pins σ H1 { s1 with heap := s1.heap.push { cls := .type "tuple", data := .seq [u1, u2].toArray } } := I1.kept (t' := s1.toks) fun b o e => Heap.get?_push_of_some _ e
  obtain ⟨x1, hh, hx1, _⟩ := hc.get I2
  rw [hw]
  refine wpAny_bind (wpAny_pure ?_)
  show wpAny (model X.prog X.w) X.A (rule "assign.swapped-stores" >>= fun _ => unpackItems (.ref s1.heap.objs.size) 2 none >>= fun items => assignInOrder [fun v => bindName X.env y v, fun v => bindName X.env x v] items.reverse >>= fun _ => pure Flow.next) _ _ _
  refine wpAny_bind (wpAny_rule (wpAny_bind (unpackHot (xs := #[u1, u2]) hh hx1 (IsTup.new s1.heap _) fun h' kp => ?_)))
  have I3 := I2.kept (h' := h') (t' := s1.toks) kp
  show wpAny _ _ (assignInOrder [fun v => bindName X.env y v, fun v => bindName X.env x v] [u2, u1] >>= fun _ => pure Flow.next) _ _ _
  refine wpAny_bind (assignInOrder_cons (wpAny_bindName (store_ok I3 hN hj (.inl hy) rw' (fun s2 I4 => ?_) (.inr hy))))
  refine assignInOrder_cons (wpAny_bindName (store_ok I4 hN hi (.inl hx) rv (fun s3 I5 => assignInOrder_nil (wpAny_pure ?_)) (.inr hx)))
  rw [List.set_comm _ _ (Ne.symm hij)] at I5
  exact ⟨_, H1, I5, q1⟩
/-! ### all, any -/
theorem walkB {prog : Program} {w : World} {A : Around} {x1 : Addr} (hh : A.handled = some (.ref x1)) (it l : Addr) (n1 : l ≠ it) (n2 : x1 ≠ it) (xs : Array Value) :
    Walks prog w A it [it, l, x1] [it] xs.size (fun i v => xs[i]? = some v) (fun i h => h.IsListIter it l i ∧ h.IsList l xs ∧ Hx x1 h) where
  sub b hb := by rw [List.mem_singleton.mp hb]; exact List.mem_cons_self
  frame i h h' st k := ⟨st.1.at fun o e => k it (by simp) o e, st.2.1.at fun o e => k l (by simp) o e, st.2.2.keep fun o e => k x1 (by simp) o e⟩
  item i s Q E hi st hQ := wpAny_pyNext_list_item st.1 st.2.1 (x := xs[i]) (by simp [hi]) fun h' st' sb => hQ _ h' s.toks (by simp [hi]) ⟨st', st.2.1.extBut sb.extBut n1, st.2.2.keep fun o e => sb.extBut _ _ n2 e⟩ fun b o hb e => sb.extBut b o (fun z => hb (List.mem_singleton.mpr z)) e
  done s Q E st hQ := listDoneHot hh st.2.2 n2 st.1 st.2.1 (by simp) fun h' k => hQ h' s.toks fun b o hb e => k b o (fun z => hb (List.mem_singleton.mpr z)) e
  self i s Q E st hQ := wpAny_pyIter_listiter st.1 hQ
theorem crb_any (hc : HotB X) : CallR X (.builtin "any") (rAny X.K) := fun pins s σ H vs us Q I r ⟨a, bs, e1, hs, q⟩ => by
  subst e1
  obtain ⟨its, rv, hl, _⟩ := I.list hs
  obtain ⟨x1, hh, hx1, _⟩ := hc.get I
  rw [Vals.ref1 r]
  refine call_any_walk (iter_any hl.isList fun s₂ e2 st hne => ?_)
  subst e2
  have n1 : x1 ≠ s.heap.objs.size := have ⟨_, _, g, _⟩ := hx1; Nat.ne_of_lt (Heap.lt_size g)
  refine ⟨_, _, _, _, _, _, _, rfl, walkB (A := X.A.in1) hh _ a hne n1 its.toArray, ⟨st.1, st.2, hx1.keep fun o e => Heap.get?_push_of_some _ e⟩, truth_bools rv.bls, fun h' tk hk => ⟨.bl _, H, I.kept fun b o eo => hk b o (fun hm => absurd (List.mem_singleton.mp hm ▸ Heap.lt_size eo) (Nat.lt_irrefl _)) (Heap.get?_push_of_some _ eo), ?_, q⟩⟩
  show Value.bool _ = Value.bool _
  rw [← L2.any_range, rv.bls, List.size_toArray, List.length_map]
theorem crb_all (hc : HotB X) : CallR X (.builtin "all") (rAll X.K) := fun pins s σ H vs us Q I r ⟨a, bs, e1, hs, q⟩ => by
  subst e1
  obtain ⟨its, rv, hl, _⟩ := I.list hs
  obtain ⟨x1, hh, hx1, _⟩ := hc.get I
  rw [Vals.ref1 r]
  refine call_all_walk (iter_any hl.isList fun s₂ e2 st hne => ?_)
  subst e2
  have n1 : x1 ≠ s.heap.objs.size := have ⟨_, _, g, _⟩ := hx1; Nat.ne_of_lt (Heap.lt_size g)
  refine ⟨_, _, _, _, _, _, _, rfl, walkB (A := X.A.in1) hh _ a hne n1 its.toArray, ⟨st.1, st.2, hx1.keep fun o e => Heap.get?_push_of_some _ e⟩, truth_bools rv.bls, fun h' tk hk => ⟨.bl _, H, I.kept fun b o eo => hk b o (fun hm => absurd (List.mem_singleton.mp hm ▸ Heap.lt_size eo) (Nat.lt_irrefl _)) (Heap.get?_push_of_some _ eo), ?_, q⟩⟩
  show Value.bool _ = Value.bool _
  rw [← L2.all_range, rv.bls, List.size_toArray, List.length_map]
end
end Cb

set_option Elab.async false
set_option linter.all false
set_option maxRecDepth 100000
set_option maxHeartbeats 400000
/-! While an error is handled: defs and their calls. -/
namespace Cb
open PySem PySem.Spec PyProof.Rows L2 Evl HotX L2H
/-- a def's promise there -/
structure FnB (P : Program) (w : World) (K : PySem.W.Frag) (mg : Str → Option Value) (base : Heap) (k : Nat) (f : Addr) (fd : FuncData) (ps : List Str) (sp : Sp) : Prop where
  len : ∀ vs H Q E, sp vs H Q E → vs.length = ps.length
  run : ∀ (A : Around) (outer : List Env) (s : Shared) (H : Hp) (args : Args) (us : List Value) (vs : List V) (Q : VK) (E : XK), RoomH k A → (∃ x1, A.handled = some (.ref x1) ∧ Hx x1 base) → Env0 P w K mg base A outer s H → BindsTo s fd args (ps.zip us) → Vals vs us → sp vs H Q E →
    codeAny (model P w) A (.call (.ref f) args) (CR CX0 outer P w H s Q E) s
/-- by its body -/
theorem fnb_of {P : Program} {w : World} {K : PySem.W.Frag} {mg : Str → Option Value} {base : Heap} {x q : Str} {st : Stmt} {f : Addr} {fd : FuncData} {N ps : List Str} {k : Nat} {sp : Sp} {t : TS} (F : Fun K x q st f fd) (S : FnScope N ps (defScope st)) (len : ∀ vs H Q E, sp vs H Q E → vs.length = ps.length)
    (pure : ∀ vs H Q E, sp vs H Q E → t { nx := fun _ H' => Q .non H', rt := Q } (L2.start N vs) H)
    (body : ∀ (f : Addr) (cdv : Value) (A : Around) (outer : List Env) (s : Shared) (H : Hp) (E : XK) (p : Addr × Obj), RoomH k (A.deeper (envOfC q (defScope st) s.heap.objs.size f cdv)) → HotB (cxH CX0 P w K mg base N q (defScope st) f cdv A outer s H E p).nox →
      PSs (cxH CX0 P w K mg base N q (defScope st) f cdv A outer s H E p).nox (defBody st) t) : FnB P w K mg base (k + 1) f fd ps sp := by
  obtain ⟨oc, od, kV, doc, pm, an, cdv, ct, osl, rfl, lk, hcd⟩ := F.ex
  refine ⟨len, fun A outer s H args us vs Q E hr hot e0 hb r hsp => ?_⟩
  have kb : ∀ b o, base.get? b = some o → s.heap.get? b = some o := fun b o e => (e0.bs b o e).1
  have KX : K.In s.heap := e0.mod.kin.keeps kb
  refine codeAny_call_function hr.depth (KX _ _ lk) rfl S.co S.gen rfl (PySem.W.codeRec_of KX hcd) (hb _ _ _ _ (wpAny_newFunctionEnv_cells S.kind (fun y hy => ?_) fun env he s1 x => ?_))
  · rcases S.par y.1 (List.of_mem_zip hy).1 with z | z
    · exact .inl z
    · exact .inr ⟨z, PySem.W.cellsFrom_some _ _ _ (.inl z)⟩
  · subst he
    obtain ⟨x1, hh, o, fs, g, d, c⟩ := hot
    have pin : PinOk outer H s (x1, o) := ⟨kb _ _ g, (e0.bs _ _ g).2, fun hm => (by have z := (e0.funs.mem hm).1; rw [g] at z; cases z), fun v z => (by rw [show o.data = _ from d] at z; cases z)⟩
    have I := inv_startH (CX := CX0) (E := E) S pin e0 (len _ _ _ _ hsp) r x
    have B := (body f cdv A outer s H E (x1, o) (hr.deeper _) ⟨x1, hh, o, fs, g, d, c⟩).nox
    refine ⟨(e0.mod.nolimit.keeps kb).keeps x.toInCall.keep, codeAny_func (wpAny_mono (B.run [] s1 _ H _ I (pure _ _ _ _ hsp)) (fun fl s' hs => ?_) fun e s' z => z)⟩
    cases fl with
    | ret u => exact let ⟨v, _, H', J, rv, z⟩ := hs; ⟨v, H', J.os, J.bare, J.base, J.hok, rv, z⟩
    | next => exact let ⟨_, H', J, z⟩ := hs; ⟨V.non, H', J.os, J.bare, J.base, J.hok, rfl, z⟩
    | brk => exact let ⟨_, _, _, z⟩ := hs; z.elim
    | cont => exact let ⟨_, _, _, z⟩ := hs; z.elim
structure CalB (P : Program) (w : World) (K : PySem.W.Frag) (mg : Str → Option Value) (base : Heap) (k : Nat) (x : Str) (ps : List Str) (sp : Sp) : Prop where
  ex : ∃ (f : Addr) (fd : FuncData), FnB P w K mg base k f fd ps sp ∧ mg x = some (.ref f) ∧ PySem.W.keepIn K (.ref f) = true ∧ Binds K fd ps []
structure CalIB (P : Program) (w : World) (K : PySem.W.Frag) (mg : Str → Option Value) (base : Heap) (k : Nat) (C : Addr) (ps : List Str) (sp : Sp) : Prop where
  ex : ∃ (f : Addr) (fd : FuncData), FnB P w K mg base k f fd ps sp ∧ Mk K C f ∧ Binds K fd ps []
theorem FnAt.okB {P : Program} {w : World} {K : PySem.W.Frag} {mg : Str → Option Value} {base : Heap} {x : Str} {st : Stmt} {N ps : List Str} {k : Nat} {sp : Sp} {t : TS} (F : FnAt K mg x st ps) (S : FnScope N ps (defScope st)) (len : ∀ vs H Q E, sp vs H Q E → vs.length = ps.length)
    (pure : ∀ vs H Q E, sp vs H Q E → t { nx := fun _ H' => Q .non H', rt := Q } (L2.start N vs) H)
    (body : ∀ (f : Addr) (cdv : Value) (A : Around) (outer : List Env) (s : Shared) (H : Hp) (E : XK) (p : Addr × Obj), RoomH k (A.deeper (envOfC x (defScope st) s.heap.objs.size f cdv)) → HotB (cxH CX0 P w K mg base N x (defScope st) f cdv A outer s H E p).nox →
      PSs (cxH CX0 P w K mg base N x (defScope st) f cdv A outer s H E p).nox (defBody st) t) : CalB P w K mg base (k + 1) x ps sp := by
  obtain ⟨f, fd, F, hm, hb⟩ := F.ex
  exact ⟨f, fd, fnb_of F S len pure body, hm, F.kp, hb⟩
section
variable {X : Cx} {k : Nat} {f C : Addr} {fd : FuncData} {x : Str} {ps : List Str} {sp : Sp} {e : Expr} {es : List Expr} {t : TA} {p pos : Pos}
theorem run_fnb {pins : List (Addr × Obj)} {σ : L2.St} {H : Hp} {s : Shared} {Q : VK} {E : XK} {us : List Value} {vs : List V} {base' : Heap} (F : FnB X.prog X.w X.K X.mg base' k f fd ps sp) (hr : RoomH k X.A) (hot : ∃ x1, X.A.handled = some (.ref x1) ∧ Hx x1 base') (e0 : Env0 X.prog X.w X.K X.mg base' X.A X.stack s H) (hb : Binds X.K fd ps [])
    (I : Inv X pins σ H s) (r : Vals vs us) (h : sp vs H Q E) : wpAny (model X.prog X.w) X.A (call (.ref f) us) (EP X pins σ Q) X.xe s := by
  have b := hb s us I.kIn (by rw [List.append_nil, ← r.length]; exact F.len _ _ _ _ h)
  rw [List.append_nil] at b
  refine wpAny_call (codeAny_mono (F.run X.A X.stack s H ⟨us, []⟩ us vs Q E hr hot e0 b r h) fun r s' hq => ?_)
  match r, hq with
  | .ok (.ret u), hq => exact I.after hq
theorem pcb_call (hc : HotB X) (Cl : CalB X.prog X.w X.K X.mg X.base k x ps sp) (hr : RoomH k X.A) (ha : PA X (e :: es) t) (hg : Gl X x := by rfl) (hdb : (x == ("__debug__" : Str)) = false := by decide)
    (he : starEach (e :: es) X.env = (false, eval e X.env) :: starEach es X.env := by rfl) (hpl : (backTo pos (starEach es X.env)).any (·.1) = false := by rfl) : PE X (.Call (.Name x p) (e :: es) [] pos) (tCall sp [] E0 t) := by
  obtain ⟨f, fd, F, hm, hk, hb⟩ := Cl.ex
  refine ⟨fun pins s σ H Q I h => wpAny_Call_Name_kw (ld_glob I hg hm (PySem.W.callWith_K (h₀ := X.base) I.ok.mod.kin hk (thn (ha.run pos pins s σ H _ I h) fun us s1 ⟨vs, H1, I1, r, q⟩ => ⟨I1.kIn, ?_⟩) he hpl) hdb)⟩
  have q' : sp (vs ++ []) H1 Q E0 := q
  rw [List.append_nil] at q'
  exact run_fnb F hr hc I1.env0 hb I1 r q'
theorem roomB_make {A : Around} (r : RoomH (k + 1) A) (C : Addr) (us : List Value) (kw : List (Str × Value)) : RoomH k (A.under (.builtin "type.__call__" ⟨.ref C :: us, kw⟩)) := ⟨by have := r.dp; rw [make_depth]; omega, by have := r.un; rw [make_units]; omega⟩
/-- C(..) -/
theorem pcb_make (hc : HotB X) (Cl : CalIB X.prog X.w X.K X.mg X.base k C ps sp) (hr : RoomH (k + 1) X.A) (hm : X.mg x = some (.ref C)) (ha : PA X (e :: es) t) (hg : Gl X x := by rfl) (hdb : (x == ("__debug__" : Str)) = false := by decide)
    (he : starEach (e :: es) X.env = (false, eval e X.env) :: starEach es X.env := by rfl) (hpl : (backTo pos (starEach es X.env)).any (·.1) = false := by rfl) : PE X (.Call (.Name x p) (e :: es) [] pos) (tMake C sp [] E0 t) := by
  obtain ⟨f, fd, F, M, hb⟩ := Cl.ex
  refine ⟨fun pins s σ H Q I h => wpAny_Call_Name_kw (ld_glob I hg hm (PySem.W.callWith_K (h₀ := X.base) I.ok.mod.kin M.kp (thn (ha.run pos pins s σ H _ I h) fun us s1 ⟨vs, H1, I1, r, q⟩ => ⟨I1.kIn, ?_⟩) he hpl) hdb)⟩
  have q' := q (s1.heap.objs.size + 1) s1.heap.objs.size (I1.hok.fresh (Nat.le_succ _)) (I1.hok.fresh (Nat.le_refl _)) (Nat.ne_of_lt (Nat.lt_succ_self _))
  rw [List.append_nil] at q'
  have I2 := Inv.made (C := C) I1
  have r2 : Vals (V.ref (s1.heap.objs.size + 1) :: vs) (Value.ref (s1.heap.objs.size + 1) :: us) := .cons rfl r
  have b := hb _ (Value.ref (s1.heap.objs.size + 1) :: us) I2.kIn (by rw [List.append_nil, ← r2.length]; exact F.len _ _ _ _ q')
  rw [List.append_nil] at b
  refine wpAny_call (make_map (f := f) I1.kIn M.makes M.init (beq_iff_eq.mp M.fn) (codeAny_mono (F.run _ X.stack _ _ ⟨_, []⟩ _ _ _ E0 (roomB_make hr C us []) hc (I2.env0.make C us []) b r2 q') fun r s' hq => ?_))
  match r, hq with
  | .ok (.ret u), hq =>
    obtain ⟨v, H', I3, rv, ev, q3⟩ := I2.after hq
    subst ev
    exact ⟨rv, ⟨V.ref (s1.heap.objs.size + 1), H', I3, rfl, q3⟩⟩
/-- the base with the handled error -/
theorem hot_base {P : Program} {w : World} {K : PySem.W.Frag} {mg : Str → Option Value} {base : Heap} {A : Around} {outer : List Env} {s : Shared} {H : Hp} {a : Addr} {oe : Obj} {vs : Array Value} (e0 : Env0 P w K mg base A outer s H) (ha : s.heap.get? a = some oe) (hd : oe.data = .fields vs) (h2 : vs[2]? = some .none) (na : H a = none) (nf : a ∉ frs outer) :
    ∃ base', Env0 P w K mg base' A outer s H ∧ Hx a base' := by
  classical
  have key : ∃ G : Heap, (∀ b o, base.get? b = some o → G.get? b = some o) ∧ G.get? a = some oe ∧ (∀ b o, G.get? b = some o → s.heap.get? b = some o ∧ (b = a ∨ base.get? b = some o)) ∧ G.objs.size = s.heap.objs.size := by
    refine ⟨hidT s.heap fun b => if b = a ∨ base.get? b ≠ none then none else some (.lst []), fun b o e => hidT_get (e0.bs b o e).1 (if_pos (.inr (by rw [e]; exact nofun))), hidT_get ha (if_pos (.inl rfl)), fun b o e => ?_, hidT_size _ _⟩
    obtain ⟨e1, e2⟩ := of_hidT e
    refine ⟨e1, ?_⟩
    by_cases hb : b = a ∨ base.get? b ≠ none
    · rcases hb with hb | hb
      · exact .inl hb
      · obtain ⟨o', e'⟩ := Option.ne_none_iff_exists'.mp hb
        have := (e0.bs b o' e').1
        rw [e1] at this
        cases this
        exact .inr e'
    · rw [if_neg hb] at e2
      cases e2
  obtain ⟨G, k1, k2, k3, k4⟩ := key
  have ns : ∀ {b : Addr} {m : Str → Option Value}, base.Ns b m → G.Ns b m := fun h => h.keeps k1
  refine ⟨G, ⟨e0.frames, ⟨e0.mod.kin.keeps k1, ns e0.mod.glob, let ⟨mb, z, y⟩ := e0.mod.blt; ⟨mb, ns z, y⟩, e0.mod.nolimit.keeps k1⟩, fun b o e => ?_, Nat.le_of_eq k4, funFrames_none e0.funs fun L hL => ?_, e0.frf, e0.hok, e0.bare⟩, ⟨oe, vs, k2, hd, h2⟩⟩
  · obtain ⟨e1, z | z⟩ := k3 b o e
    · exact ⟨e1, z ▸ na⟩
    · exact e0.bs b o z
  · cases q : G.get? L with
    | none => rfl
    | some o =>
      obtain ⟨_, z | z⟩ := k3 L o q
      · exact absurd (z ▸ hL) nf
      · rw [(e0.funs.mem hL).1] at z
        cases z
/-- a def called within an except suite -/
theorem pcb_enter {X : Cx} {a : Addr} {oe : Obj} {cls : Value} {d : Option Addr} {pn : List (Addr × Obj)} {k : Nat} {x : Str} {ps : List Str} {sp : Sp} {e : Expr} {es : List Expr} {t : TA} {p pos : Pos} (hz : L2N.Zn cls d oe) (hf : ∃ vs, oe.data = .fields vs) (Cl : ∀ base', CalB X.prog X.w X.K X.mg base' k x ps sp) (hr : RoomH k X.A)
    (ha : PA (X.suite a ((a, oe) :: pn)) (e :: es) t) (hg : Gl X x := by rfl) (hdb : (x == ("__debug__" : Str)) = false := by decide)
    (he : starEach (e :: es) X.env = (false, eval e X.env) :: starEach es X.env := by rfl) (hpl : (backTo pos (starEach es X.env)).any (·.1) = false := by rfl) : PE (X.suite a ((a, oe) :: pn)) (.Call (.Name x p) (e :: es) [] pos) (tCall sp [] E0 t) := by
  obtain ⟨f, fd, _, hm, hk, hb⟩ := (Cl X.base).ex
  refine ⟨fun pins s σ H Q I h => wpAny_Call_Name_kw (ld_glob I hg hm (PySem.W.callWith_K (h₀ := X.base) I.ok.mod.kin hk (thn (ha.run pos pins s σ H _ I h) fun us s1 ⟨vs, H1, I1, r, q⟩ => ⟨I1.kIn, ?_⟩) he hpl) hdb)⟩
  have q' : sp (vs ++ []) H1 Q E0 := q
  rw [List.append_nil] at q'
  obtain ⟨fs, hd⟩ := hf
  have pin := I1.pin (a, oe) (List.mem_append_left _ List.mem_cons_self)
  obtain ⟨B, e0, hx⟩ := hot_base I1.env0 pin.1 hd (hz.2.2 fs hd) pin.2.1 fun hm => (List.mem_cons.mp (I1.stkSub a hm)).elim pin.2.2.1 pin.2.2.2.1
  obtain ⟨f', fd', F, hm', _, hb'⟩ := (Cl B).ex
  obtain rfl : f = f' := by
    have z := hm.symm.trans hm'
    cases z
    rfl
  exact run_fnb (X := X.suite a ((a, oe) :: pn)) F ⟨hr.dp, hr.un⟩ ⟨a, rfl, hx⟩ e0 hb' I1 r q'
end
end Cb

set_option Elab.async false
set_option linter.all false
set_option maxRecDepth 100000
set_option maxHeartbeats 400000
/-! Defs that ask that nothing is being told (str of lists); cells kept in the base; lambdas with captured names. -/
namespace Cb
open PySem PySem.Spec PyProof.Rows L2 Evl LamX NdefX
/-- a def's promise where no text is being made -/
structure FnG (P : Program) (w : World) (K : PySem.W.Frag) (mg : Str → Option Value) (base : Heap) (k : Nat) (f : Addr) (fd : FuncData) (ps : List Str) (sp : Sp) : Prop where
  len : ∀ vs H Q E, sp vs H Q E → vs.length = ps.length
  run : ∀ (A : Around) (outer : List Env) (s : Shared) (H : Hp) (args : Args) (us : List Value) (vs : List V) (Q : VK) (E : XK), Room k A → A.guards = some [] → Env0 P w K mg base A outer s H → BindsTo s fd args (ps.zip us) → Vals vs us → sp vs H Q E →
    codeAny (model P w) A (.call (.ref f) args) (CR CX0 outer P w H s Q E) s
theorem fng_of {P : Program} {w : World} {K : PySem.W.Frag} {mg : Str → Option Value} {base : Heap} {k : Nat} {f : Addr} {name q : Str} {params : Arguments} {body : List Stmt} {scope : Scope} {dV kV doc pm cdv ct oc : Value} {an od : Option Addr} {osl : Array (Option Value)} {N ps : List Str} {sp : Sp}
    (lk : K.lookup f = some ⟨oc, od, .func (PySem.W.fnOf name q params body scope dV kV doc pm an cdv ct), osl⟩) (hcd : PySem.W.codeIn K cdv q = true) (S : FnScope N ps scope) (len : ∀ vs H Q E, sp vs H Q E → vs.length = ps.length)
    (hbody : ∀ (A : Around) (outer : List Env) (s : Shared) (H : Hp) (vs : List V) (Q : VK) (E : XK), Room k (A.deeper (envOfC q scope s.heap.objs.size f cdv)) → A.guards = some [] → sp vs H Q E →
      ∃ t, PSs (cxOf CX0 P w K mg base N q scope f cdv A outer s H E).nox body t ∧ t { nx := fun _ H' => Q .non H', rt := Q } (L2.start N vs) H) :
    FnG P w K mg base (k + 1) f (PySem.W.fnOf name q params body scope dV kV doc pm an cdv ct) ps sp := by
  refine ⟨len, fun A outer s H args us vs Q E hr hg e0 hb r hsp => ?_⟩
  have kb : ∀ b o, base.get? b = some o → s.heap.get? b = some o := fun b o e => (e0.bs b o e).1
  have KX : K.In s.heap := e0.mod.kin.keeps kb
  refine codeAny_call_function hr.depth (KX _ _ lk) rfl S.co S.gen rfl (PySem.W.codeRec_of KX hcd) (hb _ _ _ _ (wpAny_newFunctionEnv_cells S.kind (fun y hy => (S.par y.1 (List.of_mem_zip hy).1).imp id fun z => ⟨z, PySem.W.cellsFrom_some _ _ _ (.inl z)⟩) fun env he s1 x => ?_))
  subst he
  obtain ⟨t, B, ht⟩ := hbody A outer s H vs Q E (hr.deeper _) hg hsp
  have I := inv_start (CX := CX0) (E := E) S hr.hd e0 (len _ _ _ _ hsp) r x
  refine ⟨(e0.mod.nolimit.keeps kb).keeps x.toInCall.keep, codeAny_func (wpAny_mono (B.nox.run [] s1 _ H _ I ht) (fun fl s' hs => ?_) fun e s' z => z)⟩
  cases fl with
  | ret u => exact let ⟨v, _, H', J, rv, z⟩ := hs; ⟨v, H', J.os, J.bare, J.base, J.hok, rv, z⟩
  | next => exact let ⟨_, H', J, z⟩ := hs; ⟨V.non, H', J.os, J.bare, J.base, J.hok, rfl, z⟩
  | brk => exact let ⟨_, _, _, z⟩ := hs; z.elim
  | cont => exact let ⟨_, _, _, z⟩ := hs; z.elim
structure CalG (P : Program) (w : World) (K : PySem.W.Frag) (mg : Str → Option Value) (base : Heap) (k : Nat) (x : Str) (ps : List Str) (sp : Sp) : Prop where
  ex : ∃ (f : Addr) (fd : FuncData), FnG P w K mg base k f fd ps sp ∧ mg x = some (.ref f) ∧ PySem.W.keepIn K (.ref f) = true ∧ Binds K fd ps []
theorem FnAt.okG {P : Program} {w : World} {K : PySem.W.Frag} {mg : Str → Option Value} {base : Heap} {x : Str} {st : Stmt} {N ps : List Str} {k : Nat} {sp : Sp} {t : TS} (F : FnAt K mg x st ps) (S : FnScope N ps (defScope st)) (len : ∀ vs H Q E, sp vs H Q E → vs.length = ps.length)
    (pure : ∀ vs H Q E, sp vs H Q E → t { nx := fun _ H' => Q .non H', rt := Q } (L2.start N vs) H)
    (body : ∀ (f : Addr) (cdv : Value) (A : Around) (outer : List Env) (s : Shared) (H : Hp) (E : XK), Room k (A.deeper (envOfC x (defScope st) s.heap.objs.size f cdv)) → (cxOf CX0 P w K mg base N x (defScope st) f cdv A outer s H E).nox.A.guards = some [] →
      PSs (cxOf CX0 P w K mg base N x (defScope st) f cdv A outer s H E).nox (defBody st) t) : CalG P w K mg base (k + 1) x ps sp := by
  obtain ⟨f, fd, F, hm, hb⟩ := F.ex
  have kp := F.kp
  obtain ⟨oc, od, kV, doc, pm, an, cdv, ct, osl, rfl, lk, hcd⟩ := F.ex
  exact ⟨f, _, fng_of lk hcd S len fun A outer s H vs Q E hr hg h => ⟨t, body f cdv A outer s H E hr hg, pure vs H Q E h⟩, hm, kp, hb⟩
section
variable {X : Cx} {k : Nat} {f : Addr} {fd : FuncData} {x : Str} {ps : List Str} {sp : Sp} {e : Expr} {es : List Expr} {t : TA} {p pos : Pos}
theorem run_fng {pins : List (Addr × Obj)} {σ : L2.St} {H : Hp} {s : Shared} {Q : VK} {E : XK} {us : List Value} {vs : List V} {base' : Heap} (F : FnG X.prog X.w X.K X.mg base' k f fd ps sp) (hr : Room k X.A) (hg : X.A.guards = some []) (e0 : Env0 X.prog X.w X.K X.mg base' X.A X.stack s H) (hb : Binds X.K fd ps [])
    (I : Inv X pins σ H s) (r : Vals vs us) (h : sp vs H Q E) : wpAny (model X.prog X.w) X.A (call (.ref f) us) (EP X pins σ Q) X.xe s := by
  have b := hb s us I.kIn (by rw [List.append_nil, ← r.length]; exact F.len _ _ _ _ h)
  rw [List.append_nil] at b
  refine wpAny_call (codeAny_mono (F.run X.A X.stack s H ⟨us, []⟩ us vs Q E hr hg e0 b r h) fun r s' hq => ?_)
  match r, hq with
  | .ok (.ret u), hq => exact I.after hq
theorem pc_callG (hgd : X.A.guards = some []) (Cl : CalG X.prog X.w X.K X.mg X.base k x ps sp) (hr : Room k X.A) (ha : PA X (e :: es) t) (hg : Gl X x := by rfl) (hdb : (x == ("__debug__" : Str)) = false := by decide)
    (he : starEach (e :: es) X.env = (false, eval e X.env) :: starEach es X.env := by rfl) (hpl : (backTo pos (starEach es X.env)).any (·.1) = false := by rfl) : PE X (.Call (.Name x p) (e :: es) [] pos) (tCall sp [] E0 t) := by
  obtain ⟨f, fd, F, hm, hk, hb⟩ := Cl.ex
  refine ⟨fun pins s σ H Q I h => wpAny_Call_Name_kw (ld_glob I hg hm (PySem.W.callWith_K (h₀ := X.base) I.ok.mod.kin hk (thn (ha.run pos pins s σ H _ I h) fun us s1 ⟨vs, H1, I1, r, q⟩ => ⟨I1.kIn, ?_⟩) he hpl) hdb)⟩
  have q' : sp (vs ++ []) H1 Q E0 := q
  rw [List.append_nil] at q'
  exact run_fng F hr hgd I1.env0 hb I1 r q'
end
/-! ### cells in the base -/
theorem cells_base {X : Cx} {pins : List (Addr × Obj)} {σ : L2.St} {H : Hp} {s : Shared} {cl : List (Str × Addr)} {fr : List Str} {ws : List (Option V)} (C : CellsAt cl fr ws X.base (fun _ => none)) (I : Inv X pins σ H s) : CellsAt cl fr ws s.heap H :=
  have kc : ∀ {c : Addr} {v : Option Value}, X.base.IsCell c v → s.heap.IsCell c v := fun ⟨o, e, d⟩ => ⟨o, I.bk _ _ e, d⟩
  ⟨C.len, fun y c e => let ⟨_, v, z⟩ := C.all y c e; ⟨let ⟨o, e', _⟩ := z; (I.bs _ _ e').2, v, kc z⟩, C.inj, fun i y e => let ⟨c, h1, h2⟩ := C.has i y e; ⟨c, h1, fun v hv => let ⟨u, r, z⟩ := h2 v hv; ⟨u, r, kc z⟩⟩⟩
/-- the base with some objects more -/
theorem more_base {P : Program} {w : World} {K : PySem.W.Frag} {mg : Str → Option Value} {base : Heap} {A : Around} {outer : List Env} {s : Shared} {H : Hp} (M : Addr → Prop) (e0 : Env0 P w K mg base A outer s H) (hM : ∀ a, M a → H a = none ∧ a ∉ frs outer) :
    ∃ base', Env0 P w K mg base' A outer s H ∧ ∀ a o, M a → s.heap.get? a = some o → base'.get? a = some o := by
  classical
  have key : ∃ G : Heap, (∀ b o, base.get? b = some o → G.get? b = some o) ∧ (∀ a o, M a → s.heap.get? a = some o → G.get? a = some o) ∧ (∀ b o, G.get? b = some o → s.heap.get? b = some o ∧ (M b ∨ base.get? b = some o)) ∧ G.objs.size = s.heap.objs.size := by
    refine ⟨hidT s.heap fun b => if M b ∨ base.get? b ≠ none then none else some (.lst []), fun b o e => hidT_get (e0.bs b o e).1 (if_pos (.inr (by rw [e]; exact nofun))), fun a o m e => hidT_get e (if_pos (.inl m)), fun b o e => ?_, hidT_size _ _⟩
    obtain ⟨e1, e2⟩ := of_hidT e
    refine ⟨e1, ?_⟩
    by_cases hb : M b ∨ base.get? b ≠ none
    · rcases hb with hb | hb
      · exact .inl hb
      · obtain ⟨o', e'⟩ := Option.ne_none_iff_exists'.mp hb
        have := (e0.bs b o' e').1
        rw [e1] at this
        cases this
        exact .inr e'
    · rw [if_neg hb] at e2
      cases e2
  obtain ⟨G, k1, k2, k3, k4⟩ := key
  have ns : ∀ {b : Addr} {m : Str → Option Value}, base.Ns b m → G.Ns b m := fun h => h.keeps k1
  refine ⟨G, ⟨e0.frames, ⟨e0.mod.kin.keeps k1, ns e0.mod.glob, let ⟨mb, z, y⟩ := e0.mod.blt; ⟨mb, ns z, y⟩, e0.mod.nolimit.keeps k1⟩, fun b o e => ?_, Nat.le_of_eq k4, funFrames_none e0.funs fun L hL => ?_, e0.frf, e0.hok, e0.bare⟩, k2⟩
  · obtain ⟨e1, z | z⟩ := k3 b o e
    · exact ⟨e1, (hM b z).1⟩
    · exact e0.bs b o z
  · cases q : G.get? L with
    | none => rfl
    | some o =>
      obtain ⟨_, z | z⟩ := k3 L o q
      · exact absurd hL (hM L z).2
      · rw [(e0.funs.mem hL).1] at z
        cases z
end Cb

set_option Elab.async false
set_option linter.all false
set_option maxRecDepth 100000
set_option maxHeartbeats 400000
/-! Lambdas with captured names, called elsewhere; a def called with the caller's cells in the base. -/
namespace Cb
open PySem PySem.Spec PyProof.Rows L2 Evl LamX NdefX
theorem cells_sub {cl : List (Str × Addr)} {names : List (Str × NameKind)} {fr fr' : List Str} {ws : List (Option V)} {js : List Nat} {h : Heap} {H : Hp} (C : CellsAt cl fr ws h H) (hfree : ∀ y ∈ names, y.2 = .free → y.1 ∈ fr) (hfr : ∀ y ∈ fr', (y, NameKind.free) ∈ names) (hjs : js.map (fun j => fr[j]?) = fr'.map some) :
    CellsAt (cloFrom cl names []) fr' (js.map (slotAt ws)) h H := by
  have hf : ∀ y ∈ names, y.2 = .free → ∃ c, cl.lookup y.1 = some c := fun y hy e => by
    obtain ⟨i, hi⟩ := List.mem_iff_getElem?.mp (hfree y hy e)
    obtain ⟨c, hc, _⟩ := C.has i y.1 hi
    exact ⟨c, hc⟩
  refine ⟨?_, fun y c e => C.all y c (clo_cm hf e), fun x y c e1 e2 => C.inj x y c (clo_cm hf e1) (clo_cm hf e2), fun i y e => ?_⟩
  · have q := congrArg List.length hjs
    rw [List.length_map, List.length_map] at q
    rw [List.length_map]
    exact q
  · have e2 : (js.map fun j => fr[j]?)[i]? = some (some y) := by rw [hjs, List.getElem?_map, e]; rfl
    rw [List.getElem?_map] at e2
    cases ej : js[i]? with
    | none => rw [ej] at e2; cases e2
    | some j =>
      rw [ej] at e2
      have hj : fr[j]? = some y := Option.some.inj (show some (fr[j]?) = some (some y) from e2)
      obtain ⟨c, hc, hv⟩ := C.has j y hj
      refine ⟨c, clo_has hf (hfr y (List.mem_of_getElem? e)) hc, fun v ev => hv v ?_⟩
      rw [List.getElem?_map, ej] at ev
      exact slotAt_some (Option.some.inj (show some (slotAt ws j) = some (some v) from ev))
section
variable {X : Cx} {LF : Nat → Addr → NF} {LE : Nat → Expr} {LP FR : Nat → List Str} {WS : Nat → List (Option V)} {spL : Nat → List (Option V) → Sp} {i k : Nat} {x : Str} {t : TA} {e : Expr} {es : List Expr} {p pos : Pos}
/-- f(..), f a name that holds one of several lambdas, what they captured standing in the base -/
theorem pe_callLC (Fn : ∀ j f c', LOk X.prog X.w X.K X.mg X.base CX0 k f (LF j c') (LE j) (LP j) (FR j) (spL j)) (hcl : ∀ j c', CellsAt (LF j c').cl (FR j) (WS j) X.base (fun _ => none)) (hr : Room k X.A) (hN : X.N[i]? = some x) (hv : Vis X.env.scope x) (ha : PA X (e :: es) t)
    (hd : (x == ("__debug__" : Str)) = false := by decide) (hcd : (x == ("__classdict__" : Str)) = false := by decide)
    (he : starEach (e :: es) X.env = (false, eval e X.env) :: starEach es X.env := by rfl) (hpl : (backTo pos (starEach es X.env)).any (·.1) = false := by rfl) :
    PE X (.Call (.Name x p) (e :: es) [] pos) (tCallLam LF LE (fun j => spL j (WS j)) i (fun _ => E0) t) := by
  refine ⟨fun pins s σ H Q I h => ?_⟩
  obtain ⟨j, f, c', hs, hf, ht⟩ := h
  refine wpAny_Call_Name_kw (thn ((pe_var (pos := p) hN hv hd hcd).run pins s σ H (fun v H1 => v = .ref f ∧ H1 = H) I ⟨.ref f, hs, rfl, rfl⟩) fun u s1 hu => ?_)
  obtain ⟨v, H1, I1, r1, ev, eH⟩ := hu
  subst ev
  rw [eH] at I1
  obtain rfl : u = Value.ref f := r1
  refine PySem.W.callWith_F (first := []) (lamAt_of I1 hf) (thn (ha.run pos pins s1 σ H _ I1 ht) fun us s2 ⟨vs, H2, I2, r, h1, h2, q⟩ => ⟨lamAt_of I2 h1, ?_⟩) he hpl
  show wpAny _ _ (call (.ref f) us) _ _ _
  refine wpAny_call (codeAny_mono ((Fn j f c').run X.A X.stack s2 H2 us vs (WS j) Q E0 hr I2.env0 h1 h2 (cells_base (hcl j c') I2) r q) fun r s' hq => ?_)
  match r, hq with
  | .ok (.ret u), hq => exact I2.after hq
/-- x(..), the caller's cells in the base -/
def tCallE (js : List Nat) (sp : List (Option V) → Sp) (t : TA) : TE := fun σ H Q => t σ H fun vs H1 => sp (js.map (slotAt σ)) vs H1 Q E0
theorem pe_enterC {fr : List Str} {js : List Nat} {ps : List Str} {sp : List (Option V) → Sp} (hfn : ∀ y, X.fn y = true) (cp : Caps X X.env.cells fr js) (hgd : X.A.guards = some []) (Cl : ∀ b ws, CellsAt X.env.cells fr ws b (fun _ => none) → CalG X.prog X.w X.K X.mg b k x ps (sp ws)) (hr : Room k X.A)
    (hm' : ∃ f, X.mg x = some (.ref f) ∧ PySem.W.keepIn X.K (.ref f) = true) (ha : PA X (e :: es) t) (hg : Gl X x := by rfl) (hdb : (x == ("__debug__" : Str)) = false := by decide)
    (he : starEach (e :: es) X.env = (false, eval e X.env) :: starEach es X.env := by rfl) (hpl : (backTo pos (starEach es X.env)).any (·.1) = false := by rfl) : PE X (.Call (.Name x p) (e :: es) [] pos) (tCallE js sp t) := by
  obtain ⟨f, hm, hk⟩ := hm'
  refine ⟨fun pins s σ H Q I h => wpAny_Call_Name_kw (ld_glob I hg hm (PySem.W.callWith_K (h₀ := X.base) I.ok.mod.kin hk (thn (ha.run pos pins s σ H _ I h) fun us s1 ⟨vs, H1, I1, r, q⟩ => ⟨I1.kIn, ?_⟩) he hpl) hdb)⟩
  have C := cells_of I1 cp
  obtain ⟨B, e0, hB⟩ := more_base (fun a => ∃ y, X.env.cells.lookup y = some a) I1.env0 fun a ⟨y, ey⟩ => ⟨I1.freeC y a ey, fun hm => by
    rcases List.mem_cons.mp (I1.stkSub a hm) with z | z
    · exact I1.cne y a ey z
    · obtain ⟨_, o, ho, _⟩ := I1.ok.funs.mem z
      exact absurd (Nat.lt_of_lt_of_le (Heap.lt_size ho) (I1.ok.cab y a (hfn y) ey)) (Nat.lt_irrefl _)⟩
  have kc : ∀ {y : Str} {c : Addr} {v : Option Value}, X.env.cells.lookup y = some c → s1.heap.IsCell c v → B.IsCell c v := fun e ⟨o, e', d⟩ => ⟨o, hB _ _ ⟨_, e⟩ e', d⟩
  have CB : CellsAt X.env.cells fr (js.map (slotAt σ)) B (fun _ => none) := ⟨C.len, fun y c e => let ⟨_, v, z⟩ := C.all y c e; ⟨rfl, v, kc e z⟩, C.inj, fun i y e => let ⟨c, h1, h2⟩ := C.has i y e; ⟨c, h1, fun v hv => let ⟨u, r, z⟩ := h2 v hv; ⟨u, r, kc h1 z⟩⟩⟩
  obtain ⟨f', fd', F, hm', _, hb'⟩ := (Cl B _ CB).ex
  obtain rfl : f = f' := by
    have z := hm.symm.trans hm'
    cases z
    rfl
  exact run_fng F hr hgd e0 hb' I1 r q
end
end Cb

set_option Elab.async false
set_option linter.all false
set_option maxRecDepth 100000
set_option maxHeartbeats 400000
/-! The end of a law whose promise asks that nothing is being told. -/
namespace Cb
open PySem PySem.Spec PyProof.Rows L2 Evl LamX NdefX
/-- the law called, its table of code objects at pL, the script at a -/
theorem law_run {P : Program} {w : World} {K : PySem.W.Frag} {mg mb : Str → Option Value} {k : Nat} {fa a cL pL : Addr} {fd : FuncData} {x : Str} {sp : Sp} {s : Shared} {us : List Value} {ns : List Int}
    (KX : K.In s.heap) (hns : s.heap.Ns mainGlobals mg) (hb : s.heap.Ns builtinsNs mb) (hbb : ∀ x : Str, x ≠ "__name__" → mb x = bootBuiltins x) (hlim : s.heap.NoLimit) (hg : s.gens = #[]) (hT : s.heap.get? pL = some { cls := .none, data := .fields #[] }) (nT : K.lookup pL = none) (C : PySem.W.CodeHd s.heap cL pL)
    (hbm : ∃ (bm : Addr) (ob : Obj), mg "__builtins__" = some (.ref bm) ∧ bm ≠ builtinsNs ∧ s.heap.get? bm = some ob ∧ ob.cls = .type "module" ∧ ob.dict = some builtinsNs ∧ ob.data = .plain)
    (ha : s.heap.get? a = some { cls := .type "list", data := .seq us.toArray }) (hi : IntsAre us ns) (hl : ns.length ≤ sizeLine) (hr : Room k callerA) (F : ∀ base : Heap, TabB base mg cL pL → FnG P w K mg base k fa fd [x] sp) (hbind : ∀ (s : Shared) (u : Value), BindsTo s fd ⟨[u], []⟩ [(x, u)])
    (hsp : ∀ H : Hp, H pL = some (.tbl #[]) → SqL K H a (ns.map V.int) → sp [.ref a] H (fun v _ => v = .bl true) fun _ _ _ => False) :
    codeAny (model P w) callerA (.call (.ref fa) ⟨[.ref a], []⟩) (fun r s' => r = .ok (.ret (.bool true)) ∧ OldK s.heap s'.heap ∧ s'.os = s.os ∧ AllBare s'.gens) s := by
  classical
  have rv := vals_ints hi
  have ne : a ≠ pL := fun z => by
    rw [z, hT] at ha
    cases ha
  -- what is tracked: the script, where the head has it not, and the table
  let H : Hp := fun b => if b = a ∧ K.lookup a = none then some (.frz { cls := .type "list", data := .seq us.toArray } (.lst (ns.map V.int))) else if b = pL then some (.tbl #[]) else none
  have hP : H pL = some (.tbl #[]) := (if_neg fun z => ne z.1.symm).trans (if_pos rfl)
  have only : ∀ b, H b ≠ none → (b = a ∧ K.lookup a = none) ∨ b = pL := fun b z => by
    by_cases h1 : b = a ∧ K.lookup a = none
    · exact .inl h1
    · by_cases h2 : b = pL
      · exact .inr h2
      · exact absurd ((if_neg h1).trans (if_neg h2)) z
  have okA : (ns.map V.int).length ≤ sizeLine := by rw [List.length_map]; exact hl
  have hS : SqL K H a (ns.map V.int) := by
    cases hk : K.lookup a with
    | none => exact .inl (.inr ⟨_, if_pos ⟨rfl, hk⟩⟩)
    | some o =>
      have e := KX a o hk
      rw [ha] at e
      cases e
      exact .inr ⟨_, us.toArray, _, hk, rfl, rfl, rfl, by rw [List.size_toArray, hi.length]; exact hl, by simpa using rv⟩
  have hok : HOk P w H s.heap := fun b u z => by
    rcases only b (by rw [z]; exact nofun) with h1 | h1
    · have z' := (if_pos h1).symm.trans z
      cases z'
      rw [h1.1]
      exact ⟨ha, okA, us, _, rv, ha⟩
    · have z' : HO.tbl #[] = u := Option.some.inj (hP.symm.trans (h1 ▸ z))
      rw [← z', h1]
      exact hT
  -- what is not tracked
  have free : ∀ {b : Addr} {o : Obj}, s.heap.get? b = some o → (∀ ws n, o.data ≠ .seq ws n) → o.data ≠ .fields #[] → H b = none := fun {b o} e h1 h2 => by
    cases q : H b with
    | none => rfl
    | some u =>
      rcases only b (by rw [q]; exact nofun) with z | z
      · rw [z.1, ha] at e
        cases e
        exact (h1 _ _ rfl).elim
      · rw [z, hT] at e
        cases e
        exact (h2 rfl).elim
  have nsB : ∀ {b : Addr} {m : Str → Option Value}, s.heap.Ns b m → (hidT s.heap H).Ns b m := fun {b m} ⟨o, es, ep, e, d, r⟩ => ⟨o, es, ep, hidT_get e (free e (fun ws n z => by rw [d] at z; cases z) fun z => by rw [d] at z; cases z), d, r⟩
  have kB : K.In (hidT s.heap H) := fun b o e => hidT_get (KX b o e) (by
    cases q : H b with
    | none => rfl
    | some u =>
      rcases only b (by rw [q]; exact nofun) with z | z
      · rw [z.1, z.2] at e
        cases e
      · rw [z, nT] at e
        cases e)
  have TB : TabB (hidT s.heap H) mg cL pL := by
    refine ⟨?_, ?_, fun z => ?_⟩
    · obtain ⟨o, vs, file, tf, flags, tg, inF, text, tt, e1, r1, r2, r3, r4, r5, r6, r7, r8, hne⟩ := C
      exact ⟨o, vs, file, tf, flags, tg, inF, text, tt, hidT_get e1 (free e1 (fun ws n z => by rw [r2] at z; cases z) fun z => by
        rw [r2] at z
        cases z
        simp at r3), r1, r2, r3, r4, r5, r6, r7, r8, hne⟩
    · obtain ⟨bm, ob, b1, b2, b3, b4, b5, b6⟩ := hbm
      refine ⟨bm, ob, b1, b2, fun q => ?_, fun q => ?_, hidT_get b3 (free b3 (fun ws n z => by rw [b6] at z; cases z) fun z => by rw [b6] at z; cases z), b4, b5, b6⟩
      · obtain ⟨o, es, ep, e, d, _⟩ := hns
        rw [q, e] at b3
        cases b3
        rw [d] at b6
        cases b6
      · rw [q, hT] at b3
        cases b3
        cases b6
    · obtain ⟨o, es, ep, e, d, _⟩ := hns
      rw [z, hT] at e
      cases e
      cases d
  have e0 : Env0 P w K mg (hidT s.heap H) callerA [] s H := ⟨rfl, ⟨kB, nsB hns, ⟨mb, nsB hb, hbb⟩, let ⟨mc, h1, h2⟩ := hlim; ⟨mc, nsB h1, h2⟩⟩, fun b o e => of_hidT e, Nat.le_of_eq (hidT_size _ _), trivial, fun b z => absurd (show b ∈ ([] : List Addr) from z) (by simp), hok, .of_eq hg⟩
  refine codeAny_mono ((F _ TB).run callerA [] s H ⟨[.ref a], []⟩ [.ref a] [.ref a] _ _ hr rfl e0 (hbind s (.ref a)) (.cons rfl .nil) (hsp H hP hS)) fun r s' h => ?_
  match r, h with
  | .ok (.ret u), h =>
    obtain ⟨v, H', os, bare, un, hok', r', q⟩ := h
    have q' : v = .bl true := q
    subst q'
    obtain rfl : u = Value.bool true := r'
    obtain ⟨more, hm⟩ := un.tbls pL #[] hP
    have hm' : s'.heap.get? pL = some { cls := .none, data := .fields (#[] ++ more) } := hok' pL _ hm
    have key : ∀ b o, b ≠ pL → s.heap.get? b = some o → s'.heap.get? b = some o := fun b o nb e => by
      cases q : H b with
      | none => exact un.keep b o e q (fun z => absurd (show b ∈ ([] : List Addr) from z) (by simp)) (by simp)
      | some t =>
        rcases only b (by rw [q]; exact nofun) with z | z
        · have hf : H b = some (.frz { cls := .type "list", data := .seq us.toArray } (.lst (ns.map V.int))) := if_pos z
          have e2 := (hok' b _ (un.frzs b _ _ hf)).1
          rw [z.1, ha] at e
          cases e
          exact e2
        · exact absurd z nb
    refine ⟨rfl, ⟨fun b o e => ?_, fun b o e => ?_⟩, os, bare⟩
    · by_cases hb : b = pL
      · rw [hb] at e ⊢
        rw [hT] at e
        cases e
        exact .inr (.inl ⟨(C.tab hT).isCodeTable, rfl, #[], more, rfl, hm'⟩)
      · exact .inl (key b o hb e)
    · by_cases hb : b = pL
      · rw [hb]
        exact ⟨_, hm'⟩
      · exact ⟨o, key b o hb e⟩
/-- what is known of the law's promise at the head's heap h -/
def LawAtG (l : PySem.W.OpenLaw) (w : World) (K : PySem.W.Frag) (k n : Nat) (x : Str) (mg : Str → Option Value) (fa : Addr) (h : Heap) : Prop :=
  ∃ (fd : FuncData) (cL pL : Addr) (sp : Sp), h.get? pL = some { cls := .none, data := .fields #[] } ∧ K.lookup pL = none ∧ PySem.W.CodeHd h cL pL ∧ (∀ (s : Shared) (u : Value), BindsTo s fd ⟨[u], []⟩ [(x, u)]) ∧
    (∀ (H : Hp) (a : Addr) (ns : List Int), ns.length ≤ n → (∀ z ∈ ns, Builtin.Int.intBits z ≤ 1048576) → H pL = some (.tbl #[]) → SqL K H a (ns.map V.int) → sp [.ref a] H (fun v _ => v = .bl true) fun _ _ _ => False) ∧ ∀ base : Heap, TabB base mg cL pL → FnG l.prog w K mg base k fa fd [x] sp
theorem walk_g {l : PySem.W.OpenLaw} {n k : Nat} {q : Program} {loose : List Str} {XP : (Str → Option Value) → Heap → Prop} {YP : World → Heap → Prop} {d : DefRec} {K : Params → PySem.W.Frag} {x : Str} (hn : l.most = some n) (hn2 : n ≤ sizeLine) (hdf : d.params.defaults = []) (hr : Room k callerA) (hY : ∀ (w : World) (h : Heap), YP w h → (K w.params).In h)
    (F : ∀ (w : World) (mg : Str → Option Value) (fa : Addr) (h : Heap), YP w h → (K w.params).In h → h.Ns mainGlobals mg → mg d.name = some (.ref fa) → LawAtG l w (K w.params) k n x mg fa h) : PySem.W.WalkO q loose XP YP l.row.toRowW d [] (fun f vs => PySem.call f vs) := by
  refine Att.attach_callB hn hdf fun w s₀ s₁ mg mb fa o pm cd doc a vs ns G Y ho hd hcd hmg hobj hints hlen hbits hg => ?_
  obtain ⟨fd, cL, pL, sp, hT, nT, C, hb, hsp, hF⟩ := F w mg fa _ Y (hY w _ Y) G.T.g hmg
  exact law_run (hY w _ Y) G.T.g G.T.b G.T.builtins G.T.nolimit hg hT nT C G.T.bmain hobj hints (Nat.le_trans hlen hn2) hr hF hb fun H hH hS => hsp H a ns hlen hbits hH hS
end Cb

set_option Elab.async false
set_option linter.all false
set_option maxRecDepth 100000
set_option maxHeartbeats 400000
namespace Cb
open PySem PySem.Spec PyProof.Rows L2 Evl LamX NdefX
/-- an expression that is not reached -/
def tNeverE : TE := fun _ _ _ => False
theorem pe_never {X : Cx} {e : Expr} : PE X e tNeverE := ⟨fun _ _ _ _ _ _ h => h.elim⟩
/-- a lambda, by its body -/
theorem lam_okC {P : Program} {w : World} {K : PySem.W.Frag} {mg : Str → Option Value} {base : Heap} {N ps fr : List Str} {F : NF} {e : Expr} {f : Addr} {k : Nat} {sp : List (Option V) → Sp} {t : TE} (S : NScope N ps fr F.scope) (hb : ∀ (pm ctv : Value) (us : List Value), us.length = ps.length → bindArgs (PySem.W.kla_fn F.name F.qual F.params e F.scope F.cl pm (.ref F.c) ctv) ⟨us, []⟩ = pure (ps.zip us)) (len : ∀ ws vs H Q E, sp ws vs H Q E → vs.length = ps.length)
    (pure : ∀ ws vs H Q E, ws.length = fr.length → sp ws vs H Q E → t (startF N vs ws) H Q)
    (body : ∀ (A : Around) (outer : List Env) (s : Shared) (H : Hp) (E : XK), Room k (A.deeper (envF F f s.heap.objs.size)) → PE (ncx CX0 P w K mg base N F f A outer s H E) e t) : LOk P w K mg base CX0 (k + 1) f F e ps fr sp :=
  lok_of S hb len fun A outer s H vs ws Q E hr hl h => ⟨t, body A outer s H E hr, pure ws vs H Q E hl h⟩
end Cb

set_option Elab.async false
set_option linter.all false
set_option maxRecDepth 100000
set_option maxHeartbeats 4000000
/-! Promises and readings of the law k07. -/
namespace Cb
open PySem PySem.Spec PyProof.Rows L2 Evl Chg
def sp_ways_N (K : PySem.W.Frag) : Sp := fun vs H Q _ => ∃ (p : Addr) (cs : List Int) (a : Int), vs = [.ref p, .int a] ∧ Il H p cs ∧ Coins cs ∧ (0 ≤ a ∧ a ≤ 200) ∧ gc cs ∣ a ∧ RetV (.int (waysV cs a)) H Q
def numV7 (c k m : Int) : Int := if 10 ^ 18 ≤ c then (c - 10 ^ 18) / ent numP (k % 5) % m else drawV ((c % 1000003 + 977 * k) * (c % 1000003 + 31 * k + 5)) (k % 9 + 1) 999983 % m
def sp__law_number_7 (K : PySem.W.Frag) : Sp := fun vs H Q _ => ∃ c k m : Int, vs = [.int c, .int k, .int m] ∧ (0 ≤ k ∧ k ≤ 1000) ∧ 0 < m ∧ RetV (.int (numV7 c k m)) H Q
/-- a list that holds one list -/
structure LL (H : Hp) (h row : Addr) (cs : List Int) : Prop where
  o : H h = some (.lst [.ref row])
  i : Il H row cs
def RetLL (cs : List Int) (H : Hp) (Q : VK) : Prop := ∀ h row H2, H h = none → H row = none → Ex H H2 → LL H2 h row cs → Q (.ref h) H2
/-- ints and bools -/
def Fl (x : V) : Prop := (∃ b, x = .bl b) ∨ ∃ i : Int, x = .int i
def sp__law_deep (K : PySem.W.Frag) : Nat → Sp
  | 0 => fun _ _ _ _ => False
  | n + 1 => fun vs H Q _ => (∃ i : Int, vs = [.int i] ∧ RetV (.int i) H Q) ∨ (∃ (p : Addr) (xs : List Int), vs = [.ref p] ∧ 1 ≤ n ∧ Il H p xs ∧ xs.length ≤ 1000 ∧ RetL (xs.map V.int) H Q) ∨ ∃ (p q : Addr) (xs : List Int), vs = [.ref p] ∧ 2 ≤ n ∧ LL H p q xs ∧ xs.length ≤ 1000 ∧ RetLL xs H Q
def sp__law_spoilt (K : PySem.W.Frag) : Nat → Sp
  | 0 => fun _ _ _ _ => False
  | n + 1 => fun vs H Q _ => ∃ v, vs = [v] ∧ ((Fl v ∧ RetV .non H Q) ∨ (∃ (p : Addr) (xs : List V), v = .ref p ∧ 1 ≤ n ∧ H p = some (.lst xs) ∧ xs.length ≤ 1000 ∧ (∀ x ∈ xs, Fl x) ∧ ∀ H2, (∀ y o, y ≠ p → H y = some o → H2 y = some o) → Q .non H2) ∨
      ∃ (p : Addr) (as : List Addr), v = .ref p ∧ 2 ≤ n ∧ H p = some (.lst (as.map V.ref)) ∧ as.length ≤ 1000 ∧ as.Nodup ∧ p ∉ as ∧ (∀ a ∈ as, ∃ G : List Int, Il H a G ∧ G.length ≤ 1000) ∧ ∀ H2, (∀ y o, y ≠ p → y ∉ as → H y = some o → H2 y = some o) → Q .non H2)
def sp__law_put (K : PySem.W.Frag) : Sp := fun vs H Q _ => ∃ (h row o other : Addr) (xs ys : List Int), vs = [.ref h, .ref o] ∧ LL H h row xs ∧ LL H o other ys ∧ row ≠ other ∧ row ≠ o ∧ xs.length ≤ 1000 ∧ ys.length ≤ 1000 ∧ ∀ H2, (∀ y o, y ≠ row → H y = some o → H2 y = some o) → Il H2 row ys → Q .non H2
def sp__law_two (K : PySem.W.Frag) : Sp := fun vs H Q _ => ∃ v, vs = [v] ∧ ∀ t H2, H t = none → Ex H H2 → H2 t = some (.tup [v, v]) → Q (.ref t) H2
/-- lists that were told, all new -/
def Told (H H2 : Hp) (s : Addr) : Prop := H s = none ∧ ((∃ xs, H2 s = some (.lst xs) ∧ xs.length ≤ 100 ∧ ∀ x ∈ xs, Fl x) ∨
  ∃ as : List Addr, H2 s = some (.lst (as.map V.ref)) ∧ as.length ≤ 100 ∧ as.Nodup ∧ s ∉ as ∧ ∀ a ∈ as, H a = none ∧ ∃ G : List Int, Il H2 a G ∧ G.length ≤ 1000)
/-- what a lambda answers: what is fixed, what was told -/
def RetA (fx : List V) (H : Hp) (Q : VK) : Prop := ∀ tp f s H2, Ex H H2 → H2 tp = some (.tup [.ref f, .ref s]) → H2 f = some (.lst fx) → Told H H2 s → Q (.ref tp) H2
def sp__law_paid (K : PySem.W.Frag) (CP CN : Addr) : Sp := fun vs H Q _ => ∃ (p : Addr) (cs : List Int) (a : Int), vs = [.ref p, .int a] ∧ Il H p cs ∧ Coins cs ∧ (0 ≤ a ∧ a ≤ 200) ∧ RetA [.bl (decide (gc cs ∣ a)), .bl true] H Q
/-- the six lambdas -/
def spLam7 (K : PySem.W.Frag) (CP CN : Addr) : Nat → List (Option V) → Sp
  | 0 => fun ws vs H Q _ => ∃ (am : Int) (h row : Addr) (cs : List Int), ws = [some (.int am)] ∧ vs = [.ref h] ∧ LL H h row cs ∧ Coins cs ∧ (0 ≤ am ∧ am ≤ 200) ∧ RetA [.bl (decide (gc cs ∣ am)), .bl true] H Q
  | 1 => fun ws vs H Q _ => ∃ (am : Int) (h row : Addr) (cs : List Int), ws = [some (.int am)] ∧ vs = [.ref h] ∧ LL H h row cs ∧ Coins cs ∧ (0 ≤ am ∧ am ≤ 200) ∧ gc cs ∣ am ∧ RetA [.int (few cs am)] H Q
  | 2 => fun ws vs H Q _ => ∃ (am : Int) (h row : Addr) (cs : List Int), ws = [some (.int am)] ∧ vs = [.ref h] ∧ LL H h row cs ∧ Coins cs ∧ (0 ≤ am ∧ am ≤ 200) ∧ gc cs ∣ am ∧ RetA [.int (waysV cs am)] H Q
  | 3 => fun ws vs H Q _ => ∃ (am : Int) (h row x dx lg lb lh : Addr) (cs G B S : List Int), ws = [some (.int am), some (.ref x)] ∧ vs = [.ref h] ∧ LL H h row cs ∧ Coins cs ∧ (0 ≤ am ∧ am ≤ 200) ∧ PaidAt CP H x dx lg lb lh G B S ∧ (G.length ≤ 30000 ∧ B.length ≤ 30000 ∧ S.length ≤ 30000) ∧ RetA [.bl (showB cs am G B S)] H Q
  | 4 => fun ws vs H Q _ => ∃ (am : Int) (h row : Addr) (cs : List Int), ws = [some (.int am)] ∧ vs = [.ref h] ∧ LL H h row cs ∧ Coins cs ∧ (0 ≤ am ∧ am ≤ 200) ∧ RetA [.bl (nevB cs am 3)] H Q
  | 5 => fun ws vs H Q _ => ∃ (h row : Addr) (cs : List Int), ws = [] ∧ vs = [.ref h] ∧ LL H h row cs ∧ Coins cs ∧ RetA [.bl (decide (gc cs ∣ 7)), .bl true] H Q
  | _ => fun _ _ _ _ _ => False
def FRALL : List Str := ["_law_amount", "_law_here"]
def FR : Nat → List Str
  | 0 => ["_law_amount"]
  | 1 => ["_law_amount"]
  | 2 => ["_law_amount"]
  | 3 => FRALL
  | 4 => ["_law_amount"]
  | _ => []
def IX : Nat → List Nat
  | 0 => [0]
  | 1 => [0]
  | 2 => [0]
  | 3 => [0, 1]
  | 4 => [0]
  | _ => []
def WSJ (j : Nat) (ws : List (Option V)) : List (Option V) := (IX j).map (NdefX.slotAt ws)
def spW7 (K : PySem.W.Frag) (CP CN : Addr) (ws : List (Option V)) (j : Nat) : Sp := spLam7 K CP CN j (WSJ j ws)
/-- lambda j, asked with the coins cs, answers fx -/
def AskOk (spA : Nat → Sp) (j : Nat) (H : Hp) (cs : List Int) (fx : List V) : Prop := ∀ H1, Ex H H1 → ∀ h row, LL H1 h row cs → ∀ Q, RetA fx H1 Q → spA j [.ref h] H1 Q E0
def Sh (fx : List V) : Prop := fx.length ≤ 10 ∧ ∀ x ∈ fx, (∃ b, x = .bl b) ∨ ∃ i : Int, x = .int i ∧ i.natAbs < 10 ^ 12
def sp__law_door_right (K : PySem.W.Frag) (LF : Nat → Addr → NdefX.NF) (LE : Nat → Expr) (spA : Nat → Sp) : Sp := fun vs H Q _ => ∃ (f p o q r c' : Addr) (cs ds : List Int) (j : Nat) (fc fd : List V), vs = [.ref f, .ref p, .ref o] ∧ H f = some (LamO f (LF j c') (LE j)) ∧ H (LF j c').c = some (LamX.CodeO (LF j c').c (LF j c').qual) ∧ LL H p q cs ∧ LL H o r ds ∧ (cs.length ≤ 10 ∧ ds.length ≤ 10) ∧
  AskOk spA j H cs fc ∧ AskOk spA j H ds fd ∧ Sh fc ∧ Sh fd ∧ RetV (.bl true) H Q
def sp__law_doors_right (K : PySem.W.Frag) (LF : Nat → Addr → NdefX.NF) (LE : Nat → Expr) (spA : Nat → Sp) : Sp := fun vs H Q _ => ∃ (l p o q r : Addr) (fs : List Addr) (cs ds : List Int), vs = [.ref l, .ref p, .ref o] ∧ H l = some (.lst (fs.map V.ref)) ∧ fs.length ≤ 10 ∧ LL H p q cs ∧ LL H o r ds ∧ (cs.length ≤ 10 ∧ ds.length ≤ 10) ∧
  (∀ f ∈ fs, ∃ (j : Nat) (c' : Addr) (fc fd : List V), H f = some (LamO f (LF j c') (LE j)) ∧ H (LF j c').c = some (LamX.CodeO (LF j c').c (LF j c').qual) ∧ AskOk spA j H cs fc ∧ AskOk spA j H ds fd ∧ Sh fc ∧ Sh fd) ∧ RetV (.bl true) H Q
def sp_law_k07 (K : PySem.W.Frag) (T : List (Addr × Str)) : Sp := fun vs H Q _ => ∃ (p : Addr) (ns : List Int), vs = [.ref p] ∧ SqL K H p (ns.map V.int) ∧ Cells ns ∧ ns.length ≤ 63 ∧ LamX.Tabs T H ∧ ∀ H', Q (.bl true) H'
def t_lam7_0 (K : PySem.W.Frag) (CP CN : Addr) : TE :=
  (tCall (sp__law_paid K CP CN) [] E0 (tCons (tOp (rIxL K) (tVar 0) (tC (.int 0))) (tCons (tVar 1) tNil)))
def t_lam7_1 (K : PySem.W.Frag) : TE :=
  (tCall (sp__law_two K) [] E0 (tCons (tLst (tCons (tCall (sp_fewest K) [] E0 (tCons (tOp (rIxL K) (tVar 0) (tC (.int 0))) (tCons (tVar 1) tNil))) tNil)) tNil))
def t_lam7_2 (K : PySem.W.Frag) : TE :=
  (tCall (sp__law_two K) [] E0 (tCons (tLst (tCons (tCall (sp_ways_N K) [] E0 (tCons (tOp (rIxL K) (tVar 0) (tC (.int 0))) (tCons (tVar 1) tNil))) tNil)) tNil))
def t_lam7_3 (K : PySem.W.Frag) (CP : Addr) : TE :=
  (tCall (sp__law_two K) [] E0 (tCons (tLst (tCons (tMeth CP "shows" (sp_Paid_shows K CP) [] E0 (tVar 2) (tCons (tOp (rIxL K) (tVar 0) (tC (.int 0))) (tCons (tVar 1) tNil))) tNil)) tNil))
def t_lam7_4 (K : PySem.W.Frag) (CN : Addr) : TE :=
  (tCall (sp__law_two K) [] E0 (tCons (tLst (tCons (tMeth CN "shows" (sp_Never_shows K CN) [] E0 (tMake CN (sp_Never_init K CN) [] E0 (tCons (tC (.int 3)) tNil)) (tCons (tOp (rIxL K) (tVar 0) (tC (.int 0))) (tCons (tVar 1) tNil))) tNil)) tNil))
def t_lam7_5 (K : PySem.W.Frag) (CP CN : Addr) : TE :=
  (tCall (sp__law_paid K CP CN) [] E0 (tCons (tOp (rIxL K) (tVar 0) (tC (.int 0))) (tCons (tC (.int 7)) tNil)))
def t_ways_N (K : PySem.W.Frag) : TS :=
  (tSeq (tDrop (tCall (sp_check_coins K) [] E0 (tCons (tVar 0) tNil)))
  (tSeq (tDrop (tCall (sp_check_amount K) [] E0 (tCons (tVar 1) (tCons (tC (.int 200)) tNil))))
  (tSeq (tIfS (tTest (tOp rGtI (tOp rModI (tVar 1) (tCall (sp_common K) [] E0 (tCons (tVar 0) tNil))) (tC (.int 0)))) tNever tNext)
  (tSeq (tAsg (tOp (rIxL K) (tCall (sp_heights_of K) [] E0 (tCons (tVar 0) (tCons (tVar 1) tNil))) (tOp rAddI (tOp (rIxL K) (tVar 0) (tUn rNegI (tC (.int 1)))) (tVar 1))) (gName 2))
  (tSeq (tAsg tDNewT (gName 3))
  (tSeq (sDPut (tVar 3) (tTup (tCons (tC (.int 0)) (tCons (tC (.int 0)) tNil))) (tC (.int 1)))
  (tSeq (tFor (iList K (tVar 0)) (gName 4) (tAsg (tCall (sp_put K) [] E0 (tCons (tVar 3) (tCons (tVar 4) (tCons (tVar 2) tNil)))) (gName 3)))
  (tRet (tDGet2 (tVar 3) (tTup (tCons (tVar 1) (tCons (tVar 2) tNil))) (tC (.int 0)))))))))))
def t__law_number_7 (K : PySem.W.Frag) : TS :=
  (tSeq (tIfS (tTest (tOp rGeI (tVar 0) (tOp rPowI (tC (.int 10)) (tC (.int 18))))) (tRet (tOp rModI (tOp rDivI (tOp rSubI (tVar 0) (tOp rPowI (tC (.int 10)) (tC (.int 18)))) (tOp (rIxT K) (tTup (tCons (tC (.int 1)) (tCons (tC (.int 7)) (tCons (tC (.int 49)) (tCons (tC (.int 343)) (tCons (tC (.int 2401)) tNil)))))) (tOp rModI (tVar 1) (tC (.int 5))))) (tVar 2))) tNext)
  (tSeq (tAsg (tOp rModI (tVar 0) (tC (.int 1000003))) (gName 3))
  (tRet (tOp rModI (tCall (sp__law_draw K) [] E0 (tCons (tOp rMulI (tOp rAddI (tVar 3) (tOp rMulI (tC (.int 977)) (tVar 1))) (tOp rAddI (tOp rAddI (tVar 3) (tOp rMulI (tC (.int 31)) (tVar 1))) (tC (.int 5)))) (tCons (tOp rAddI (tOp rModI (tVar 1) (tC (.int 9))) (tC (.int 1))) (tCons (tC (.int 999983)) tNil)))) (tVar 2)))))
def t__law_deep (K : PySem.W.Frag) (n : Nat) : TS :=
  (tSeq (tIfS (tB (tCB (rIsi K) (tCons (tVar 0) (tCons (tC (.ty "list")) tNil)))) (tRet (tLc (iList K (tVar 0)) (gName 1) tYes (tCall (sp__law_deep K n) [] E0 (tCons (tVar 1) tNil)) [1])) tNext)
  (tRet (tIf (tB (tCB (rIsi K) (tCons (tVar 0) (tCons (tC (.ty "tuple")) tNil)))) tNeverE (tVar 0))))
def t__law_spoilt (K : PySem.W.Frag) (n : Nat) : TS :=
  (tSeq (tIfS (tB (tCB (rIsiT K) (tCons (tVar 0) (tCons (tTup (tCons (tC (.ty "list")) (tCons (tC (.ty "tuple")) tNil))) tNil)))) (tFor (iList K (tVar 0)) (gName 1) (tDrop (tCall (sp__law_spoilt K n) [] E0 (tCons (tVar 1) tNil)))) tNext)
  (tIfS (tB (tCB (rIsi K) (tCons (tVar 0) (tCons (tC (.ty "list")) tNil)))) (tDrop (tBM K "list" rAppend (tVar 0) (tCons (tTup tNil) tNil))) tNext))
def t__law_put (K : PySem.W.Frag) : TS :=
  (tFor (iZip K (tCons (tVar 0) (tCons (tVar 1) tNil))) (gTup K 2 (gCons (gName 2) (gCons (gName 3) gNil))) (tSeq (tWhile (tTest (tOp (rNeD K) (tVar 2) (tLst tNil))) (tDrop (tBM0 K "list" rPop (tVar 2))))
  (tDrop (tBM K "list" rExtend (tVar 2) (tCons (tCall (sp__law_deep K 3) [] E0 (tCons (tVar 3) tNil)) tNil)))))
def t__law_two (K : PySem.W.Frag) : TS :=
  (tRet (tTup (tCons (tVar 0) (tCons (tVar 0) tNil))))
def t__law_paid (K : PySem.W.Frag) (CP CN : Addr) : TS :=
  (tSeq (tAsg (tCall (sp_paid K CP CN) [] E0 (tCons (tVar 0) (tCons (tVar 1) tNil))) (gName 2))
  (tSeq (tAsg (tIf (tB (tCB (rIsi K) (tCons (tVar 2) (tCons (tC (.ref CP)) tNil)))) (tLst (tCons (tFld K (tVar 2) "give") (tCons (tFld K (tVar 2) "back") (tCons (tFld K (tVar 2) "heights") tNil)))) (tLst tNil)) (gName 3))
  (tRet (tTup (tCons (tLst (tCons (tCB (rIsi K) (tCons (tVar 2) (tCons (tC (.ref CP)) tNil))) (tCons (tEi (tMeth CP "shows" (sp_Paid_shows K CP) [] E0 (tVar 2) (tCons (tCB (rListS K) (tCons (tVar 0) tNil)) (tCons (tVar 1) tNil))) (tMeth CN "shows" (sp_Never_shows K CN) [] E0 (tVar 2) (tCons (tCB (rListS K) (tCons (tVar 0) tNil)) (tCons (tVar 1) tNil)))) tNil))) (tCons (tVar 3) tNil))))))
def t__law_door_right (K : PySem.W.Frag) (LF : Nat → Addr → NdefX.NF) (LE : Nat → Expr) (spA : Nat → Sp) : TS :=
  (tSeq (tAsg (tCall (sp__law_deep K 3) [] E0 (tCons (tVar 1) tNil)) (gName 3))
  (tSeq (tAsg (tCallLam LF LE spA 0 (fun _ => E0) (tCons (tVar 3) tNil)) (gTup K 2 (gCons (gName 4) (gCons (gName 5) gNil))))
  (tSeq (tPar 6 7 (tCons (tCB (rStrD K) (tCons (tVar 4) tNil)) (tCons (tCB (rStrD K) (tCons (tOp (rIxT K) (tCallLam LF LE spA 0 (fun _ => E0) (tCons (tCall (sp__law_deep K 3) [] E0 (tCons (tVar 2) tNil)) tNil)) (tC (.int 0))) tNil)) tNil)))
  (tSeq (tIfS (tTest (tOp (rNeD K) (tVar 3) (tVar 1))) (tRet (tC (.bl false))) tNext)
  (tSeq (tDrop (tCall (sp__law_spoilt K 3) [] E0 (tCons (tVar 5) tNil)))
  (tSeq (tIfS (tOr (tTest (tOp rNe (tCB (rStrD K) (tCons (tOp (rIxT K) (tCallLam LF LE spA 0 (fun _ => E0) (tCons (tVar 3) tNil)) (tC (.int 0))) tNil)) (tVar 6))) (tTest (tOp (rNeD K) (tVar 3) (tVar 1)))) (tRet (tC (.bl false))) tNext)
  (tSeq (tFor (iTup K (tTup (tCons (tTup (tCons (tVar 2) (tCons (tVar 7) tNil))) (tCons (tTup (tCons (tVar 1) (tCons (tVar 6) tNil))) tNil)))) (gTup K 2 (gCons (gName 8) (gCons (gName 9) gNil))) (tSeq (tDrop (tCall (sp__law_put K) [] E0 (tCons (tVar 3) (tCons (tVar 8) tNil))))
  (tIfS (tOr (tTest (tOp rNe (tCB (rStrD K) (tCons (tOp (rIxT K) (tCallLam LF LE spA 0 (fun _ => E0) (tCons (tVar 3) tNil)) (tC (.int 0))) tNil)) (tVar 9))) (tTest (tOp (rNeD K) (tVar 3) (tVar 8)))) (tRet (tC (.bl false))) tNext)))
  (tRet (tC (.bl true))))))))))
def t__law_doors_right (K : PySem.W.Frag) (LF : Nat → Addr → NdefX.NF) (LE : Nat → Expr) (spA : Nat → Sp) : TS :=
  (tRet (tCB (rAll K) (tCons (tLc (iList K (tVar 0)) (gName 3) tYes (tCall (sp__law_door_right K LF LE spA) [] E0 (tCons (tVar 3) (tCons (tVar 1) (tCons (tVar 2) tNil)))) [3]) tNil)))
def t_law_k07 (K : PySem.W.Frag) (CP CN : Addr) (LF : Nat → Addr → NdefX.NF) (LE : Nat → Expr) (T : List (Addr × Str)) : TS :=
  (tSeq (tFor (iRng1 (tCons (tC (.int 2)) tNil)) (gName 1) (tSeq (tAsg (tOp rAddI (tC (.int 7)) (tCall (sp__law_number_7 K) [] E0 (tCons (tCall (sp__law_cell_at K) [] E0 (tCons (tVar 0) (tCons (tVar 1) tNil))) (tCons (tOp rAddI (tVar 1) (tC (.int 1))) (tCons (tC (.int 40)) tNil))))) (gName 2))
  (tSeq (tAsg (tCall (sp_paid K CP CN) [] E0 (tCons (tLst (tCons (tC (.int 1)) (tCons (tC (.int 5)) (tCons (tC (.int 12)) tNil)))) (tCons (tVar 2) tNil))) (gName 3))
  (tSeq (tAsg (tLst (tCons (tLamM T (LF 0) (LE 0)) (tCons (tLamM T (LF 1) (LE 1)) tNil))) (gName 4))
  (tSeq (tAsg (tOp rCat (tVar 4) (tLst (tCons (tLamM T (LF 2) (LE 2)) tNil))) (gName 4))
  (tSeq (tAsg (tOp rCat (tVar 4) (tLst (tCons (tLamM T (LF 3) (LE 3)) tNil))) (gName 4))
  (tSeq (tAsg (tOp rCat (tVar 4) (tLst (tCons (tLamM T (LF 4) (LE 4)) tNil))) (gName 4))
  (tIfS (tNot (tB (tCallE [2, 3] (fun ws => sp__law_doors_right K LF LE (spW7 K CP CN ws)) (tCons (tVar 4) (tCons (tLst (tCons (tLst (tCons (tC (.int 1)) (tCons (tC (.int 5)) (tCons (tC (.int 12)) tNil)))) tNil)) (tCons (tLst (tCons (tLst (tCons (tC (.int 1)) (tCons (tC (.int 4)) (tCons (tC (.int 9)) tNil)))) tNil)) tNil)))))) (tRet (tC (.bl false))) tNext))))))))
  (tRet (tCallE [2, 3] (fun ws => sp__law_door_right K LF LE (spW7 K CP CN ws)) (tCons (tLamM T (LF 5) (LE 5)) (tCons (tLst (tCons (tLst (tCons (tC (.int 4)) (tCons (tC (.int 6)) tNil))) tNil)) (tCons (tLst (tCons (tLst (tCons (tC (.int 3)) (tCons (tC (.int 6)) tNil))) tNil)) tNil))))))
end Cb

set_option Elab.async false
set_option linter.all false
set_option maxRecDepth 100000
set_option maxHeartbeats 1000000
/-! The law k07: copies, what is spoilt, what is put. -/
namespace Cb
open PySem PySem.Spec PyProof.Rows L2 Evl Chg
theorem LL.ex {H H' : Hp} {h row : Addr} {cs : List Int} (e : Ex H H') (l : LL H h row cs) : LL H' h row cs := ⟨e _ _ l.o, e _ _ l.i⟩
theorem LL.ne {H : Hp} {h row : Addr} {cs : List Int} (l : LL H h row cs) : h ≠ row := fun z => by
  have q := l.i
  rw [← z, Il, l.o] at q
  cases cs <;> simp at q
section
variable {K : PySem.W.Frag} {mg : Str → Option Value} {CA CP CN : Addr} {vs : List V} {H : Hp} {Q : VK} {E : XK} {n : Nat}
theorem len_ways_N (h : sp_ways_N K vs H Q E) : vs.length = (["coins", "amount"] : List Str).length := by
  obtain ⟨p, cs, a, rfl, _⟩ := h
  rfl
theorem pure_ways_N (h : sp_ways_N K vs H Q E) : t_ways_N K (endsOf Q) (start ["coins", "amount", "many", "table", "worth"] vs) H := by
  obtain ⟨p, cs, a, rfl, hp, hc, ha, hd, q⟩ := h
  have gp := hc.gpos
  refine q_drop (ev_checkC (ev_var rfl) hp hc) fun H1 e1 => ?_
  refine q_drop (ev_checkA (ev_var rfl) ev_c ha.1 (by omega)) fun H2 e2 => ?_
  have hp2 : Il H2 p cs := e2 _ _ (e1 _ _ hp)
  refine q_when (b := false) (et_is (et_test (ev_cmp (p := fun i j => decide (j < i)) (ev_mod (ev_var rfl) (ev_common (ev_var rfl) hp2 hc) gp) ev_c)) (by rw [Int.emod_eq_zero_of_dvd hd]; rfl)) (fun z => nomatch z) fun _ H3 e3 => ?_
  exact ways_rest (e3 _ _ hp2) hc ha hd fun H4 e4 => q H4 (((e1.trans e2).trans e3).trans e4)
theorem tyI {H : Hp} {i : Int} : ∀ H1, Ex H H1 → TyX K H1 (.int i) (.type "int") := fun H1 _ => .base (.int i)
theorem tyB {H : Hp} {b : Bool} : ∀ H1, Ex H H1 → TyX K H1 (.bl b) (.type "bool") := fun H1 _ => .base (.bl b)
theorem tyL {H : Hp} {p : Addr} {xs : List V} (h : H p = some (.lst xs)) : ∀ H1, Ex H H1 → TyX K H1 (.ref p) (.type "list") := fun H1 e => .base (.lst (e _ _ h))
theorem nev__law_deep (h : sp__law_deep K 0 vs H Q E) : False := h
theorem len__law_deep (h : sp__law_deep K (n + 1) vs H Q E) : vs.length = (["_law_thing"] : List Str).length := by
  rcases h with ⟨i, rfl, _⟩ | ⟨p, xs, rfl, _⟩ | ⟨p, q, xs, rfl, _⟩ <;> rfl
theorem pure__law_deep (h : sp__law_deep K (n + 1) vs H Q E) : t__law_deep K n (endsOf Q) (start ["_law_thing", "_law_one"] vs) H := by
  rcases h with ⟨i, rfl, q⟩ | ⟨p, xs, rfl, hn, hp, hl, q⟩ | ⟨p, r, xs, rfl, hn, hp, hl, q⟩
  · refine q_when (b := false) (et_is (et_B (ev_isi (ev_var rfl) tyI (b := false) (by decide +kernel))) rfl) (fun z => nomatch z) fun _ H1 e1 => ?_
    exact s_ret (ev_if (b := false) (et_B (ev_isi (ev_var rfl) tyI (b := false) (by decide +kernel))) (fun z => nomatch z) fun _ => ev_var rfl) fun H2 e2 => q H2 (e1.trans e2)
  · obtain ⟨m, rfl⟩ : ∃ m, n = m + 1 := ⟨n - 1, by omega⟩
    refine q_when (b := true) (et_B (ev_isi (ev_var rfl) (tyL hp) (b := true) (by decide +kernel))) (fun _ H1 e1 => ?_) fun z => nomatch z
    refine s_retL (D := { nx := _, rt := _, bk := _, ct := _ }) (xs := xs.map V.int) (el_eq (el_lcY (K := K) (fun v => v) (ev_var rfl) (sq_of (e1 _ _ hp)) (by rw [List.length_map]; omega) (fun _ => rfl) fun x H2 hx e2 => ?_) (by simp)) fun p' H2 np e2 hp' => q p' H2 (fresh_back e1 np) (e1.trans e2) hp'
    obtain ⟨i, _, rfl⟩ := List.mem_map.mp hx
    exact ev_callV (ea_cons (ev_var rfl) ea_nil) fun H3 e3 Q' q' => .inl ⟨i, rfl, q'⟩
  · obtain ⟨m, rfl⟩ : ∃ m, n = m + 1 := ⟨n - 1, by omega⟩
    refine q_when (b := true) (et_B (ev_isi (ev_var rfl) (tyL hp.o) (b := true) (by decide +kernel))) (fun _ H1 e1 => ?_) fun z => nomatch z
    have hp1 := hp.ex e1
    refine ⟨.ref p, rfl, p, rfl, ⟨_, sq_of hp1.o⟩, fun Dl hD => ?_⟩
    refine lc_list (K := K) (xs := [.ref r]) (fun i H' => Ex H1 H' ∧ (i = 0 → H' Dl = some (.lst [])) ∧ (i = 1 → ∃ row, H1 row = none ∧ row ≠ Dl ∧ H' Dl = some (.lst [.ref row]) ∧ Il H' row xs)) ⟨Ex.new hD, fun _ => upd_same, fun z => by omega⟩ (fun i H' _ w => sq_of (w.1 _ _ hp1.o)) (fun i x H' hx w => ?_) fun H' w => ?_
    · obtain ⟨ex, h0, _⟩ := w
      have hi : i = 0 := by
        have := (List.getElem?_eq_some_iff.mp hx).1
        simp at this
        exact this
      subst hi
      have hx' : x = .ref r := by simpa using hx.symm
      subst hx'
      refine ⟨rfl, V.ref r, rfl, .inr (.inl ⟨r, xs, rfl, by omega, ex _ _ hp1.i, hl, fun row H2 nr e2 hrow => ?_⟩)⟩
      have hD2 := e2 _ _ (h0 rfl)
      have nD : row ≠ Dl := fun z => by
        rw [z, h0 rfl] at nr
        cases nr
      refine ⟨[], hD2, sz_lt (by simp), Ex.mut (ex.trans e2) hD, fun z => by omega, fun _ => ⟨row, fresh_back ex nr, nD, upd_same, ?_⟩⟩
      rw [Il, upd_ne nD]
      exact hrow
    · obtain ⟨ex, _, h1⟩ := w
      obtain ⟨row, nr, nD, hDl, hrow⟩ := h1 rfl
      exact q Dl row H' (fresh_back e1 hD) (fresh_back e1 nr) (e1.trans ex) ⟨hDl, hrow⟩
/-- isinstance(x, (list, tuple)) -/
theorem ev_isiLT {σ : L2.St} {te : TE} {v : V} {T : String} {b1 b2 : Bool} (h : Ev te σ H v) (ty : ∀ H1, Ex H H1 → TyX K H1 v (.type T)) (h1 : kitB T "list" = some b1) (h2 : kitB T "tuple" = some b2) : Ev (tCB (rIsiT K) (tCons te (tCons (tTup (tCons (tC (.ty "list")) (tCons (tC (.ty "tuple")) tNil))) tNil))) σ H (.bl (b1 || b2)) := fun H1 e Q q =>
  h H1 e _ fun H2 e2 => ⟨sz_of (by decide : 2 ≤ 100000), fun tp ht => ⟨v, tp, [.ty "list", .ty "tuple"], .type T, [.type "list", .type "tuple"], b1 || b2, rfl, upd_same, .cons (ClsV.ty _) (.cons (ClsV.ty _) .nil), ty _ ((e.trans e2).trans (Ex.new ht)), kitAny_cons (kit_ty h1) (fun z => kitAny_cons (kit_ty h2) (fun z2 => by rw [z, z2]; exact kitAny_nil) fun z2 => by rw [z, z2]; rfl) (fun z => by rw [z]; rfl), q _ (e2.trans (Ex.new ht))⟩⟩
/-- f(..) as a statement -/
theorem s_dropCall {σ : L2.St} {D : Ends} {sp : Sp} {ta : TA} {vs : List V} {E : XK} (h : EvA ta σ H vs) (k : ∀ H1, Ex H H1 → sp vs H1 (fun _ H2 => D.nx σ H2) E) : tDrop (tCall sp [] E ta) D σ H := h H (Ex.refl H) _ fun H1 e => by
  rw [List.append_nil]
  exact k H1 e
theorem q_dropCall {σ : L2.St} {D : Ends} {tz : TS} {sp : Sp} {ta : TA} {vs : List V} {E : XK} (h : EvA ta σ H vs) (k : ∀ H1, Ex H H1 → sp vs H1 (fun _ H2 => tz D σ H2) E) : tSeq (tDrop (tCall sp [] E ta)) tz D σ H := s_dropCall (D := { D with nx := tz D }) h k
theorem nev__law_spoilt (h : sp__law_spoilt K 0 vs H Q E) : False := h
theorem len__law_spoilt (h : sp__law_spoilt K (n + 1) vs H Q E) : vs.length = (["_law_found"] : List Str).length := by
  obtain ⟨v, rfl, _⟩ := h
  rfl
theorem pure__law_spoilt (h : sp__law_spoilt K (n + 1) vs H Q E) : t__law_spoilt K n (endsOf Q) (start ["_law_found", "_law_one"] vs) H := by
  obtain ⟨v, rfl, ⟨hv, q⟩ | ⟨p, xs, rfl, hn, hp, hl, hx, q⟩ | ⟨p, as, rfl, hn, hp, hl, nd, np, ha, q⟩⟩ := h
  · obtain ⟨T, hT, k1, k2⟩ : ∃ T, (∀ H1, Ex H H1 → TyX K H1 v (.type T)) ∧ kitB T "list" = some false ∧ kitB T "tuple" = some false := by
      rcases hv with ⟨b, rfl⟩ | ⟨i, rfl⟩
      · exact ⟨"bool", tyB, by decide +kernel, by decide +kernel⟩
      · exact ⟨"int", tyI, by decide +kernel, by decide +kernel⟩
    refine q_when (b := false) (et_is (et_B (ev_isiLT (ev_var rfl) hT k1 k2)) rfl) (fun z => nomatch z) fun _ H1 e1 => ?_
    exact s_when (D := { nx := _, rt := _, bk := _, ct := _ }) (b := false) (et_B (ev_isi (ev_var rfl) (fun H2 e2 => hT H2 (e1.trans e2)) k1)) (fun z => nomatch z) fun _ H2 e2 => q H2 (e1.trans e2)
  · obtain ⟨m, rfl⟩ : ∃ m, n = m + 1 := ⟨n - 1, by omega⟩
    refine q_if (b := true) (et_is (et_B (ev_isiLT (ev_var rfl) (tyL hp) (b1 := true) (b2 := false) (by decide +kernel) (by decide +kernel))) rfl) (fun _ H1 e1 => ?_) fun z => nomatch z
    refine s_forLn (K := K) (D := { nx := _, rt := _, bk := _, ct := _ }) (xs := xs) (ev_var rfl) (sq_of (e1 _ _ hp)) (fun _ σ' H' => Ex H H' ∧ ∃ y : Option V, σ' = [some (.ref p), y]) (fun H2 e2 => ⟨e1.trans e2, _, rfl⟩) (fun i σ' H' _ w => sq_of (w.1 _ _ hp)) (fun i x σ' H' hx' w => ?_) fun σ' H' w => ?_
    · obtain ⟨ex, y, rfl⟩ := w
      exact s_drop (D := { nx := _, rt := _, bk := _, ct := _ }) (ev_callV (z := .non) (ea_cons (ev_var rfl) ea_nil) fun H3 e3 Q' q' => ⟨x, rfl, .inl ⟨hx x (List.mem_of_getElem? hx'), q'⟩⟩) fun H3 e3 => ⟨ex.trans e3, _, rfl⟩
    · obtain ⟨ex, y, rfl⟩ := w
      refine s_if (D := endsOf Q) (b := true) (et_B (ev_isi (ev_var rfl) (tyL (ex _ _ hp)) (b := true) (by decide +kernel))) (fun _ H2 e2 => ?_) fun z => nomatch z
      exact s_appU (D := endsOf Q) (ys := []) ((ex.trans e2) _ _ hp) (ev_var rfl) (eu_tup ea_nil (by simp)) (by omega) fun t H3 nt e3 ht => q _ fun y o ny hy => by
        rw [upd_ne ny]
        exact ((ex.trans e2).trans e3) _ _ hy
  · obtain ⟨m, rfl⟩ : ∃ m, n = m + 1 := ⟨n - 1, by omega⟩
    refine q_if (b := true) (et_is (et_B (ev_isiLT (ev_var rfl) (tyL hp) (b1 := true) (b2 := false) (by decide +kernel) (by decide +kernel))) rfl) (fun _ H1 e1 => ?_) fun z => nomatch z
    refine s_forLn (K := K) (D := { nx := _, rt := _, bk := _, ct := _ }) (xs := as.map V.ref) (ev_var rfl) (sq_of (e1 _ _ hp)) (fun i σ' H' => (∀ y o, y ∉ as → H y = some o → H' y = some o) ∧ (∀ j a, i ≤ j → as[j]? = some a → ∃ G : List Int, Il H' a G ∧ G.length ≤ 1000) ∧ ∃ y : Option V, σ' = [some (.ref p), y])
      (fun H2 e2 => ⟨fun y o _ hy => (e1.trans e2) _ _ hy, fun j a _ hj => (let ⟨G, h1, h2⟩ := ha a (List.mem_of_getElem? hj); ⟨G, (e1.trans e2) _ _ h1, h2⟩), _, rfl⟩) (fun i σ' H' _ w => sq_of (w.1 _ _ np hp)) (fun i x σ' H' hx' w => ?_) fun σ' H' w => ?_
    · obtain ⟨kp, hG, y, rfl⟩ := w
      rw [List.getElem?_map] at hx'
      obtain ⟨a, hai, rfl⟩ := Option.map_eq_some_iff.mp hx'
      obtain ⟨G, g1, g2⟩ := hG i a (Nat.le_refl _) hai
      refine s_dropCall (D := { nx := _, rt := _, bk := _, ct := _ }) (ea_cons (ev_var rfl) ea_nil) fun H2 e2 => ⟨.ref a, rfl, .inr (.inl ⟨a, G.map V.int, rfl, by omega, e2 _ _ g1, by rw [List.length_map]; omega, fun x hx => ?_, fun H3 k3 => ⟨fun y o ny hy => k3 _ _ (fun z => ny (z ▸ List.mem_of_getElem? hai)) (e2 _ _ (kp _ _ ny hy)), fun j b hj hb => ?_, _, rfl⟩⟩)⟩
      · obtain ⟨z, _, rfl⟩ := List.mem_map.mp hx
        exact .inr ⟨z, rfl⟩
      · obtain ⟨G', g3, g4⟩ := hG j b (by omega) hb
        have nb : b ≠ a := fun z => by
          subst z
          have := (List.getElem?_inj (List.getElem?_eq_some_iff.mp hai).1 nd).mp (hai.trans hb.symm)
          omega
        exact ⟨G', k3 _ _ nb (e2 _ _ g3), g4⟩
    · obtain ⟨kp, _, y, rfl⟩ := w
      have hp2 := kp _ _ np hp
      refine s_if (D := endsOf Q) (b := true) (et_B (ev_isi (ev_var rfl) (tyL hp2) (b := true) (by decide +kernel))) (fun _ H2 e2 => ?_) fun z => nomatch z
      exact s_appU (D := endsOf Q) (ys := []) (e2 _ _ hp2) (ev_var rfl) (eu_tup ea_nil (by simp)) (by rw [List.length_map]; omega) fun t H3 nt e3 ht => q _ fun y o ny na hy => by
        rw [upd_ne ny]
        exact (e2.trans e3) _ _ (kp _ _ na hy)
end
end Cb

set_option Elab.async false
set_option linter.all false
set_option maxRecDepth 100000
set_option maxHeartbeats 1000000
/-! The law k07: lists put anew, answers. -/
namespace Cb
open PySem PySem.Spec PyProof.Rows L2 Evl Chg
section
variable {K : PySem.W.Frag} {mg : Str → Option Value} {CA CP CN : Addr} {vs : List V} {H : Hp} {Q : VK} {E : XK} {n : Nat}
theorem s_forZ {σ : L2.St} {D : Ends} {ta : TA} {a b : Addr} {xs ys : List V} {g : TG} {tu : TS} (h : EvA ta σ H [.ref a, .ref b]) (hx : H a = some (.lst xs)) (hy : H b = some (.lst ys)) (hl : xs.length = ys.length) (Pv : Nat → L2.St → Hp → Prop) (h0 : ∀ H1, Ex H H1 → Pv 0 σ H1) (hq : ∀ i σ' H', Pv i σ' H' → SqL K H' a xs ∧ SqL K H' b ys)
    (hs : ∀ (i : Nat) (x y : V) (T : Addr) (σ' : L2.St) (H' : Hp), xs[i]? = some x → ys[i]? = some y → Pv i σ' H' → H' T = none → g (.ref T) σ' (upd H' T (.tup [x, y])) fun σ2 H2 => tu { D with nx := Pv (i + 1), ct := Pv (i + 1), bk := D.nx } σ2 H2) (hd : ∀ σ' H', Pv xs.length σ' H' → D.nx σ' H') : tFor (iZip K ta) g tu D σ H :=
  h H (Ex.refl H) _ fun H1 e1 => ⟨a, b, xs, ys, rfl, sq_of (e1 _ _ hx), sq_of (e1 _ _ hy), RZ.for_zipL hl Pv (h0 H1 e1) hq hs hd⟩
theorem len__law_put (h : sp__law_put K vs H Q E) : vs.length = (["_law_handed", "_law_some"] : List Str).length := by
  obtain ⟨_, _, _, _, _, _, rfl, _⟩ := h
  rfl
theorem pure__law_put (h : sp__law_put K vs H Q E) : t__law_put K (endsOf Q) (start ["_law_handed", "_law_some", "_law_row", "_law_other"] vs) H := by
  obtain ⟨h, row, o, other, xs, ys, rfl, lh, lo, n1, n2, hx, hy, q⟩ := h
  have nh := lh.ne
  refine s_forZ (K := K) (D := endsOf Q) (ea_cons (ev_var rfl) (ea_cons (ev_var rfl) ea_nil)) lh.o lo.o rfl (fun i σ' H' => H' h = some (.lst [.ref row]) ∧ H' o = some (.lst [.ref other]) ∧ (∀ y ob, y ≠ row → H y = some ob → H' y = some ob) ∧ (i = 0 → Il H' row xs ∧ Il H' other ys ∧ ∃ y2 y3 : Option V, σ' = [some (.ref h), some (.ref o), y2, y3]) ∧ (i = 1 → Il H' row ys))
    (fun H1 e1 => ⟨e1 _ _ lh.o, e1 _ _ lo.o, fun y ob _ hy => e1 _ _ hy, fun _ => ⟨e1 _ _ lh.i, e1 _ _ lo.i, _, _, rfl⟩, fun z => by omega⟩) (fun i σ' H' w => ⟨sq_of w.1, sq_of w.2.1⟩) (fun i x y T σ' H' hxi hyi w nT => ?_) fun σ' H' w => q H' w.2.2.1 (w.2.2.2.2 rfl)
  have hi : i = 0 := by
    have := (List.getElem?_eq_some_iff.mp hxi).1
    simp at this
    exact this
  subst hi
  have ex : x = .ref row := by simpa using hxi.symm
  have ey : y = .ref other := by simpa using hyi.symm
  subst ex
  subst ey
  obtain ⟨w1, w2, w3, w4, _⟩ := w
  obtain ⟨r1, r2, y2, y3, rfl⟩ := w4 rfl
  have eT : Ex H' (upd H' T (.tup [.ref row, .ref other])) := Ex.new nT
  refine ⟨T, [.ref row, .ref other], rfl, st_of upd_same, rfl, _, _, rfl, _, _, rfl, rfl, ?_⟩
  have w1' := eT _ _ w1
  have w2' := eT _ _ w2
  have r1' : Il (upd H' T (.tup [.ref row, .ref other])) row xs := eT _ _ r1
  have r2' : Il (upd H' T (.tup [.ref row, .ref other])) other ys := eT _ _ r2
  have w3' : ∀ y ob, y ≠ row → H y = some ob → upd H' T (.tup [.ref row, .ref other]) y = some ob := fun y ob ny hy => eT _ _ (w3 y ob ny hy)
  generalize upd H' T (.tup [.ref row, .ref other]) = H2 at w1' w2' r1' r2' w3'
  refine q_while (D := { nx := _, rt := _, bk := _, ct := _ }) (fun m σ' H3 => σ' = [some (.ref h), some (.ref o), some (.ref row), some (.ref other)] ∧ ∃ zs : List Int, zs.length = m ∧ Il H3 row zs ∧ ∀ y ob, y ≠ row → H2 y = some ob → H3 y = some ob) xs.length ⟨rfl, xs, rfl, r1', fun _ _ _ e => e⟩ fun m σ' H3 w => ?_
  obtain ⟨rfl, zs, hm, hz, kp⟩ := w
  refine ⟨!decide (zs = []), et_test (ev_neN (K := K) (ys := []) (ev_var rfl) (sq_of hz) (el_lst ea_nil (by simp))), fun hb H4 e4 => ?_, fun hb H4 e4 => ?_⟩
  · have hne : zs ≠ [] := by simpa using hb
    have hpos : 0 < zs.length := List.length_pos_iff.mpr hne
    refine ⟨fun σ2 H5 => σ2 = [some (.ref h), some (.ref o), some (.ref row), some (.ref other)] ∧ ∃ zs' : List Int, zs'.length = m - 1 ∧ Il H5 row zs' ∧ ∀ y ob, y ≠ row → H2 y = some ob → H5 y = some ob, fun σ2 H5 w => ⟨m - 1, by omega, w⟩, ?_⟩
    refine ⟨.ref row, rfl, Or.inl ⟨rfl, _, sq_of (e4 _ _ hz)⟩, row, zs.map V.int, .int (zs.getLast hne), rfl, rfl, e4 _ _ hz, ?_, rfl, zs.dropLast, by rw [List.length_dropLast]; omega, ?_, fun y ob ny e => ?_⟩
    · rw [List.length_map, List.getElem?_map, ← List.getLast?_eq_getElem?, List.getLast?_eq_some_getLast hne]
      rfl
    · rw [Il, upd_same, List.map_dropLast]
    · rw [upd_ne ny]
      exact e4 _ _ (kp _ _ ny e)
  · have hne : zs = [] := by simpa using hb
    subst hne
    have ho4 := e4 _ _ (kp _ _ (Ne.symm n1) r2')
    refine ⟨.ref row, rfl, Or.inl ⟨rfl, _, sq_of (e4 _ _ hz)⟩, .ref other, rfl, .inr (.inl ⟨other, ys, rfl, by decide, ho4, hy, fun p' H5 np e5 hp' => ⟨row, p', [], ys.map V.int, rfl, rfl, e5 _ _ (e4 _ _ hz), hp', sz_of (by simp; omega), ?_⟩⟩)⟩
    have kk : ∀ y ob, y ≠ row → H2 y = some ob → upd H5 row (.lst ([] ++ ys.map V.int)) y = some ob := fun y ob ny e => by
      rw [upd_ne ny]
      exact e5 _ _ (e4 _ _ (kp _ _ ny e))
    exact ⟨kk _ _ nh w1', kk _ _ (Ne.symm n2) w2', fun y ob ny e => kk _ _ ny (w3' y ob ny e), fun z => by omega, fun _ => upd_same⟩
theorem len__law_two (h : sp__law_two K vs H Q E) : vs.length = (["_law_found"] : List Str).length := by
  obtain ⟨v, rfl, _⟩ := h
  rfl
theorem pure__law_two (h : sp__law_two K vs H Q E) : t__law_two K (endsOf Q) (start ["_law_found"] vs) H := by
  obtain ⟨v, rfl, q⟩ := h
  exact s_retU (D := endsOf Q) (eu_tup (ea_cons (ev_var rfl) (ea_cons (ev_var rfl) ea_nil)) (by simp)) fun p H1 np e1 hp => q p H1 np e1 hp
end
end Cb

set_option Elab.async false
set_option linter.all false
set_option maxRecDepth 100000
set_option maxHeartbeats 1000000
/-! The law k07: what the doors tell. -/
namespace Cb
open PySem PySem.Spec PyProof.Rows L2 Evl Chg
section
variable {K : PySem.W.Frag} {mg : Str → Option Value} {CA CP CN : Addr} {vs : List V} {H : Hp} {Q : VK} {E : XK} {n : Nat}
theorem el_if {σ : L2.St} {t : TT} {ta tb : TE} {b : Bool} {xs : List V} (h : EvT t σ H b) (h1 : b = true → EvL ta σ H xs) (h2 : b = false → EvL tb σ H xs) : EvL (tIf t ta tb) σ H xs := fun H1 e Q q => h H1 e _ fun H2 e2 => by
  cases b with
  | true => exact h1 rfl H2 (e.trans e2) Q fun p H3 np e3 hp => q p H3 (fresh_back e2 np) (e2.trans e3) hp
  | false => exact h2 rfl H2 (e.trans e2) Q fun p H3 np e3 hp => q p H3 (fresh_back e2 np) (e2.trans e3) hp
theorem r_tup2 {σ : L2.St} {D : Ends} {ta tb : TE} {xs : List V} {v : V} (h1 : EvL ta σ H xs) (h2 : Ev tb σ H v) (k : ∀ tp f H2, Ex H H2 → H2 tp = some (.tup [.ref f, v]) → H2 f = some (.lst xs) → D.rt (.ref tp) H2) : tRet (tTup (tCons ta (tCons tb tNil))) D σ H :=
  h1 H (Ex.refl H) _ fun f H1 nf e1 hf => h2 H1 e1 _ fun H2 e2 => ⟨sz_of (by decide : 2 ≤ 100000), fun tp ht =>
    have ne : Ex H2 (upd H2 tp (.tup [.ref f, v])) := Ex.new ht
    k tp f _ ((e1.trans e2).trans ne) upd_same (ne _ _ (e2 _ _ hf))⟩
theorem nev_of {cs : List Int} {a : Int} (hc : Coins cs) (nd : ¬ gc cs ∣ a) : nevB cs a (gc cs) = true := by
  have gp := hc.gpos
  have h1 : a % gc cs ≠ 0 := fun z => nd (Int.dvd_of_emod_eq_zero z)
  have h2 : goes cs (gc cs) = true := (goes_iff gp).mpr fun w hw => gc_dvd hw
  unfold nevB
  rw [h2, decide_eq_true h1, decide_eq_true (show 1 ≤ gc cs by omega)]
  rfl
theorem ev_nshowsL {σ : L2.St} {te tl tb : TE} {x dx : Addr} {part a : Int} {cs : List Int} (h : Ev te σ H (.ref x)) (hN : NeverAt CN H x dx part) (h1 : EvL tl σ H (cs.map V.int)) (h2 : Ev tb σ H (.int a)) (hl : cs.length ≤ 1000) :
    Ev (tMeth CN "shows" (sp_Never_shows K CN) [] E te (tCons tl (tCons tb tNil))) σ H (.bl (nevB cs a part)) := fun H1 e Q q =>
  h H1 e _ fun H2 e2 => ⟨x, dx, _, rfl, e2 _ _ (e _ _ hN), nf_shows part, h1 H2 (e.trans e2) _ fun p H3 _ e3 hp => h2 H3 ((e.trans e2).trans e3) _ fun H4 e4 =>
    ⟨x, dx, p, part, cs, a, rfl, (((e.trans e2).trans e3).trans e4) _ _ hN, e4 _ _ hp, hl, fun H5 e5 => q H5 (((e2.trans e3).trans e4).trans e5)⟩⟩
theorem len__law_paid (h : sp__law_paid K CP CN vs H Q E) : vs.length = (["_law_coins", "_law_amount"] : List Str).length := by
  obtain ⟨p, cs, a, rfl, _⟩ := h
  rfl
theorem pure__law_paid (T : Kls K mg CA CP CN) (h : sp__law_paid K CP CN vs H Q E) : t__law_paid K CP CN (endsOf Q) (start ["_law_coins", "_law_amount", "_law_found", "_law_some"] vs) H := by
  obtain ⟨p, cs, a, rfl, hp, hc, ha, q⟩ := h
  have h6 := hc.six
  refine q_asgCall (ea_cons (ev_var rfl) (ea_cons (ev_var rfl) ea_nil)) fun H1 e1 => ⟨p, cs, a, rfl, e1 _ _ hp, hc, ha, fun nd x dx H2 n1 n2 e2 hN => ?_, fun d G B S ok x dx lg lb lh H2 n1 n2 n3 n4 n5 d1 d2 d3 e2 hP => ?_⟩
  · refine q_asgL (xs := []) (el_if (b := false) (et_B (is_NP T (ev_var rfl) hN)) (fun z => nomatch z) fun _ => el_lst ea_nil (by simp)) fun l H3 nl e3 hl => ?_
    have ex : Ex H H3 := (e1.trans e2).trans e3
    refine r_tup2 (D := endsOf Q) (xs := [.bl false, .bl true]) (el_lst (ea_cons (is_NP T (ev_var rfl) (e3 _ _ hN)) (ea_cons (ev_eiR (ev_eq (ev_nshowsL (ev_var rfl) (e3 _ _ hN) (el_list (ev_var rfl) (sq_of (ex _ _ hp))) (ev_var rfl) (by omega)) (by rw [nev_of hc nd]))) ea_nil)) (by simp)) (ev_var rfl) fun tp f H4 e4 ht hf => ?_
    have := q tp f l H4 (ex.trans e4) ht (by rw [decide_eq_false nd]; exact hf) ⟨fresh_back (e1.trans e2) nl, .inl ⟨[], e4 _ _ hl, by simp, fun x hx => by simp at hx⟩⟩
    exact this
  · refine q_asgL (xs := [.ref lg, .ref lb, .ref lh]) (el_if (b := true) (et_B (is_PP T (ev_var rfl) hP)) (fun _ => el_lst (ea_cons (ev_give T (ev_var rfl) hP) (ea_cons (ev_back T (ev_var rfl) hP) (ea_cons (ev_hei T (ev_var rfl) hP) ea_nil))) (by simp)) fun z => nomatch z) fun l H3 nl e3 hl => ?_
    have ex : Ex H H3 := (e1.trans e2).trans e3
    have hP3 := hP.mono e3
    have hS : S.length ≤ 300 := by
      have := ok.toFloor.len
      have := hc.top
      omega
    have lG := ok.lg
    have lB := ok.lb
    refine r_tup2 (D := endsOf Q) (xs := [.bl true, .bl true]) (el_lst (ea_cons (is_PP T (ev_var rfl) hP3) (ea_cons (ev_eiL (ev_eq (ev_showsL (ev_var rfl) hP3 (el_list (ev_var rfl) (sq_of (ex _ _ hp))) (ev_var rfl) hc (by omega) (by omega)) (by rw [ok.shows hc]))) ea_nil)) (by simp)) (ev_var rfl) fun tp f H4 e4 ht hf => ?_
    have hP4 := hP3.mono e4
    have nz : ∀ {y : Addr} {o : HO}, H2 y = some o → l ≠ y := fun hy z => by
      rw [z, hy] at nl
      cases nl
    have := q tp f l H4 (ex.trans e4) ht (by rw [decide_eq_true d]; exact hf) ⟨fresh_back (e1.trans e2) nl, .inr ⟨[lg, lb, lh], e4 _ _ hl, by simp, by simp [d1, d2, d3], by
      simp only [List.mem_cons, List.not_mem_nil, or_false, not_or]
      exact ⟨nz hP.g, nz hP.b, nz hP.h⟩, fun a ha => by
        simp only [List.mem_cons, List.not_mem_nil, or_false] at ha
        rcases ha with rfl | rfl | rfl
        · exact ⟨fresh_back e1 n3, G, hP4.g, by omega⟩
        · exact ⟨fresh_back e1 n4, B, hP4.b, by omega⟩
        · exact ⟨fresh_back e1 n5, S, hP4.h, by omega⟩⟩⟩
    exact this
end
end Cb

set_option Elab.async false
set_option linter.all false
set_option maxRecDepth 100000
set_option maxHeartbeats 1000000
/-! The law k07: the lambdas. -/
namespace Cb
open PySem PySem.Spec PyProof.Rows L2 Evl Chg
section
variable {K : PySem.W.Frag} {mg : Str → Option Value} {CA CP CN : Addr} {vs : List V} {H : Hp} {Q : VK} {E : XK} {ws : List (Option V)} {σ : L2.St}
theorem r_two {te : TE} {v : V} (h : Ev te σ H v) (fv : Fl v) (q : RetA [v] H Q) : (tCall (sp__law_two K) [] E0 (tCons (tLst (tCons te tNil)) tNil)) σ H Q :=
  (el_lst (ea_cons h ea_nil) (by simp) : EvL (tLst (tCons te tNil)) σ H [v]) H (Ex.refl H) (fun u H1 => tNil σ H1 fun us H2 => sp__law_two K ((u :: us) ++ []) H2 Q E0) fun f H1 nf e1 hf => ⟨.ref f, rfl, fun t H2 nt e2 ht => q t f f H2 (e1.trans e2) ht (e2 _ _ hf) ⟨nf, .inl ⟨_, e2 _ _ hf, by simp, fun x hx => by
    have : x = v := by simpa using hx
    exact this ▸ fv⟩⟩⟩
theorem ev_row {te : TE} {h row : Addr} {cs : List Int} (ht : Ev te σ H (.ref h)) (l : LL H h row cs) : Ev (tOp (rIxL K) te (tC (.int 0))) σ H (.ref row) := ev_ixL ht ev_c (sq_of l.o) rfl
theorem r_paid7 {ta tb : TE} {p : Addr} {cs : List Int} {a : Int} (h1 : Ev ta σ H (.ref p)) (h2 : Ev tb σ H (.int a)) (hp : Il H p cs) (hc : Coins cs) (ha : 0 ≤ a ∧ a ≤ 200) (q : RetA [.bl (decide (gc cs ∣ a)), .bl true] H Q) : (tCall (sp__law_paid K CP CN) [] E0 (tCons ta (tCons tb tNil))) σ H Q :=
  (ea_cons h1 (ea_cons h2 ea_nil) : EvA (tCons ta (tCons tb tNil)) σ H [.ref p, .int a]) H (Ex.refl H) (fun us H2 => sp__law_paid K CP CN (us ++ []) H2 Q E0) fun H1 e1 => ⟨p, cs, a, rfl, e1 _ _ hp, hc, ha, fun tp f s H2 e2 h1 h2 h3 => q tp f s H2 (e1.trans e2) h1 h2 (by
    obtain ⟨a1, a2⟩ := h3
    refine ⟨fresh_back e1 a1, ?_⟩
    rcases a2 with a2 | ⟨as, b1, b2, b3, b4, b5⟩
    · exact .inl a2
    · exact .inr ⟨as, b1, b2, b3, b4, fun a ha => ⟨fresh_back e1 (b5 a ha).1, (b5 a ha).2⟩⟩)⟩
theorem len_lam7_0 (h : spLam7 K CP CN 0 ws vs H Q E) : vs.length = (["_law_some"] : List Str).length := by
  obtain ⟨_, _, _, _, _, rfl, _⟩ := h
  rfl
theorem len_lam7_1 (h : spLam7 K CP CN 1 ws vs H Q E) : vs.length = (["_law_one"] : List Str).length := by
  obtain ⟨_, _, _, _, _, rfl, _⟩ := h
  rfl
theorem len_lam7_2 (h : spLam7 K CP CN 2 ws vs H Q E) : vs.length = (["_law_some"] : List Str).length := by
  obtain ⟨_, _, _, _, _, rfl, _⟩ := h
  rfl
theorem len_lam7_3 (h : spLam7 K CP CN 3 ws vs H Q E) : vs.length = (["_law_some"] : List Str).length := by
  obtain ⟨_, _, _, _, _, _, _, _, _, _, _, _, _, rfl, _⟩ := h
  rfl
theorem len_lam7_4 (h : spLam7 K CP CN 4 ws vs H Q E) : vs.length = (["_law_some"] : List Str).length := by
  obtain ⟨_, _, _, _, _, rfl, _⟩ := h
  rfl
theorem len_lam7_5 (h : spLam7 K CP CN 5 ws vs H Q E) : vs.length = (["_law_some"] : List Str).length := by
  obtain ⟨_, _, _, _, rfl, _⟩ := h
  rfl
theorem pure_lam7_0 (hl : ws.length = (FR 0).length) (h : spLam7 K CP CN 0 ws vs H Q E) : t_lam7_0 K CP CN (NdefX.startF ["_law_some", "_law_amount"] vs ws) H Q := by
  obtain ⟨am, h, row, cs, rfl, rfl, ll, hc, ha, q⟩ := h
  exact r_paid7 (ev_row (ev_var rfl) ll) (ev_var rfl) ll.i hc ha q
theorem pure_lam7_5 (hl : ws.length = (FR 5).length) (h : spLam7 K CP CN 5 ws vs H Q E) : t_lam7_5 K CP CN (NdefX.startF ["_law_some"] vs ws) H Q := by
  obtain ⟨h, row, cs, rfl, rfl, ll, hc, q⟩ := h
  exact r_paid7 (ev_row (ev_var rfl) ll) ev_c ll.i hc (by decide) q
theorem pure_lam7_1 (hl : ws.length = (FR 1).length) (h : spLam7 K CP CN 1 ws vs H Q E) : t_lam7_1 K (NdefX.startF ["_law_one", "_law_amount"] vs ws) H Q := by
  obtain ⟨am, h, row, cs, rfl, rfl, ll, hc, ha, hd, q⟩ := h
  exact r_two (ev_callV (ea_cons (ev_row (ev_var rfl) ll) (ea_cons (ev_var rfl) ea_nil)) fun H1 e1 Q' q' => ⟨row, cs, am, rfl, e1 _ _ ll.i, hc, ha.1, hd, q'⟩) (.inr ⟨_, rfl⟩) q
theorem pure_lam7_2 (hl : ws.length = (FR 2).length) (h : spLam7 K CP CN 2 ws vs H Q E) : t_lam7_2 K (NdefX.startF ["_law_some", "_law_amount"] vs ws) H Q := by
  obtain ⟨am, h, row, cs, rfl, rfl, ll, hc, ha, hd, q⟩ := h
  exact r_two (ev_callV (ea_cons (ev_row (ev_var rfl) ll) (ea_cons (ev_var rfl) ea_nil)) fun H1 e1 Q' q' => ⟨row, cs, am, rfl, e1 _ _ ll.i, hc, ha, hd, q'⟩) (.inr ⟨_, rfl⟩) q
theorem ev_showsV {te ta tb : TE} {x dx lg lb lh p : Addr} {G B S cs : List Int} {a : Int} (h : Ev te σ H (.ref x)) (hP : PaidAt CP H x dx lg lb lh G B S) (h1 : Ev ta σ H (.ref p)) (h2 : Ev tb σ H (.int a)) (hp : Il H p cs) (hc : Coins cs) (ha : 0 ≤ a ∧ a ≤ 5000) (hl : G.length ≤ 30000 ∧ B.length ≤ 30000 ∧ S.length ≤ 30000) :
    Ev (tMeth CP "shows" (sp_Paid_shows K CP) [] E te (tCons ta (tCons tb tNil))) σ H (.bl (showB cs a G B S)) := fun H1 e Q q =>
  h H1 e _ fun H2 e2 => ⟨x, dx, _, rfl, (hP.mono (e.trans e2)).ob, pf_shows lg lb lh, h1 H2 (e.trans e2) _ fun H3 e3 => h2 H3 ((e.trans e2).trans e3) _ fun H4 e4 =>
    ⟨x, dx, lg, lb, lh, p, G, B, S, cs, a, rfl, hP.mono (((e.trans e2).trans e3).trans e4), (((e.trans e2).trans e3).trans e4) _ _ hp, hc, ha, hl, fun H5 e5 => q H5 (((e2.trans e3).trans e4).trans e5)⟩⟩
theorem pure_lam7_3 (hl : ws.length = (FR 3).length) (h : spLam7 K CP CN 3 ws vs H Q E) : t_lam7_3 K CP (NdefX.startF ["_law_some", "_law_amount", "_law_here"] vs ws) H Q := by
  obtain ⟨am, h, row, x, dx, lg, lb, lh, cs, G, B, S, rfl, rfl, ll, hc, ha, hP, hS, q⟩ := h
  exact r_two (ev_showsV (ev_var rfl) hP (ev_row (ev_var rfl) ll) (ev_var rfl) ll.i hc (by omega) hS) (.inl ⟨_, rfl⟩) q
theorem ev_newN7 {te ta tb : TE} {p : Addr} {cs : List Int} {a part : Int} (h : Ev te σ H (.int part)) (h1 : Ev ta σ H (.ref p)) (h2 : Ev tb σ H (.int a)) (hp : Il H p cs) (hl : cs.length ≤ 1000) :
    Ev (tMeth CN "shows" (sp_Never_shows K CN) [] E (tMake CN (sp_Never_init K CN) [] E (tCons te tNil)) (tCons ta (tCons tb tNil))) σ H (.bl (nevB cs a part)) := fun H1 e Q q =>
  r_Never (fun H2 e2 => h H2 (e.trans e2)) fun x dx H2 n1 n2 e2 hN => ⟨x, dx, _, rfl, hN, nf_shows part, h1 H2 (e.trans e2) _ fun H3 e3 => h2 H3 ((e.trans e2).trans e3) _ fun H4 e4 =>
    ⟨x, dx, p, part, cs, a, rfl, (e3.trans e4) _ _ hN, (((e.trans e2).trans e3).trans e4) _ _ hp, hl, fun H5 e5 => q H5 (((e2.trans e3).trans e4).trans e5)⟩⟩
theorem pure_lam7_4 (hl : ws.length = (FR 4).length) (h : spLam7 K CP CN 4 ws vs H Q E) : t_lam7_4 K CN (NdefX.startF ["_law_some", "_law_amount"] vs ws) H Q := by
  obtain ⟨am, h, row, cs, rfl, rfl, ll, hc, ha, q⟩ := h
  have h6 := hc.six
  exact r_two (ev_newN7 ev_c (ev_row (ev_var rfl) ll) (ev_var rfl) ll.i (by omega)) (.inl ⟨_, rfl⟩) q
end
end Cb

set_option Elab.async false
set_option linter.all false
set_option maxRecDepth 100000
set_option maxHeartbeats 1000000
/-! The law k07: texts of answers, doors. -/
namespace Cb
open PySem PySem.Spec PyProof.Rows L2 Evl Chg
def toD : V → PyData
  | .bl b => .bool b
  | .int i => .int i
  | _ => .none
noncomputable def shL (fx : List V) : Str := (PyData.list (fx.map toD)).shown
def One (x : V) : Prop := (∃ b, x = .bl b) ∨ ∃ i : Int, x = .int i ∧ i.natAbs < 10 ^ 12
theorem log_lt {i : Int} (h : i.natAbs < 10 ^ 12) : i.natAbs.log2 < 40 := by
  by_cases z : i.natAbs = 0
  · rw [z]; decide
  · exact (Nat.log2_lt z).mpr (Nat.lt_trans h (by decide))
theorem flat_ok {K : PySem.W.Frag} {H : Hp} : ∀ fx : List V, (∀ x ∈ fx, One x) → DpAll K H fx (fx.map toD) ∧ PyData.showableAll (fx.map toD) = true ∧ PyData.hasDictAll (fx.map toD) = false ∧ PyData.depthAll (fx.map toD) = 0 ∧ PyData.leavesShortAll 13 (fx.map toD) = true ∧ PyData.weightAll (fx.map toD) ≤ 50 * fx.length
  | [], _ => ⟨.nil, rfl, rfl, rfl, rfl, Nat.le_refl _⟩
  | x :: r, h => by
    obtain ⟨h1, h2, h3, h4, h5, h6⟩ := flat_ok (K := K) (H := H) r fun y hy => h y (List.mem_cons_of_mem _ hy)
    rw [List.map_cons, List.length_cons]
    rcases h x List.mem_cons_self with ⟨b, rfl⟩ | ⟨i, rfl, hi⟩
    · refine ⟨.cons (.bl b) h1, ?_, ?_, ?_, ?_, ?_⟩
      · simp [PyData.showableAll, PyData.showable, toD, h2]
      · simp [PyData.hasDictAll, PyData.hasDict, toD, h3]
      · simp [PyData.depthAll, PyData.depth, toD, h4]
      · simp [PyData.leavesShortAll, PyData.leavesShort, toD, h5]
      · simp only [PyData.weightAll, PyData.weight, toD]
        omega
    · have hl := log_lt hi
      have hs := PyData.shown_int_le hi
      refine ⟨.cons (.int i) h1, ?_, ?_, ?_, ?_, ?_⟩
      · rw [PyData.showableAll, h2]
        show (decide (i.natAbs.log2 < 1920) && true) = true
        rw [decide_eq_true (by omega)]; rfl
      · simp [PyData.hasDictAll, PyData.hasDict, toD, h3]
      · simp [PyData.depthAll, PyData.depth, toD, h4]
      · rw [PyData.leavesShortAll, h5]
        show (decide ((PyData.shown (.int i)).length ≤ 13) && true) = true
        rw [decide_eq_true hs]; rfl
      · simp only [PyData.weightAll, PyData.weight, toD]
        split <;> omega
theorem rs_flat {K : PySem.W.Frag} {H : Hp} {p : Addr} {fx : List V} {Q : VK} (hp : H p = some (.lst fx)) (sh : Sh fx) (q : Q (.str (shL fx)) H) : rStrD K [.ref p] H Q := by
  obtain ⟨h1, h2, h3, h4, h5, h6⟩ := flat_ok (K := K) (H := H) fx sh.2
  have hl := sh.1
  exact ⟨p, .list (fx.map toD), rfl, .lst (sq_of hp) h1, by rw [PyData.showable]; exact h2, by rw [PyData.hasDict]; exact h3, by rw [PyData.depth, h4]; decide, PyData.shown_fits (B := 13) (by decide) (by decide) (by rw [PyData.leavesShort]; exact h5) (by rw [PyData.weight]; omega), q⟩
def dLL (cs : List Int) : PyData := .list [.list (cs.map PyData.int)]
theorem shapedLL (A : List Int) : SeqAt.shaped (dLL A) = true := by
  simp [dLL, SeqAt.shaped, PyData.canLay0, PyData.canLayAll0, PyData.depth, PyData.depthAll, PySem.W.ke_canLayAll0, PySem.W.ke_depthAll]
theorem eqvLL (A : List Int) : PyData.eqv (dLL A) (dLL A) = true := by
  simp [dLL, PyData.eqv, PyData.eqvAll, eqvAll_ints]
section
variable {K : PySem.W.Frag} {mg : Str → Option Value} {CA CP CN : Addr} {vs : List V} {H : Hp} {Q : VK} {E : XK} {σ : L2.St} {LF : Nat → Addr → NdefX.NF} {LE : Nat → Expr} {spA : Nat → Sp} {j : Nat}
theorem dpLL {h row : Addr} {cs : List Int} (l : LL H h row cs) : Dp K H (.ref h) (dLL cs) := .lst (sq_of l.o) (.cons (dp_ints (sq_of l.i)) .nil)
theorem ev_same {ta tb : TE} {h row p q : Addr} {cs : List Int} (h1 : Ev ta σ H (.ref h)) (h2 : Ev tb σ H (.ref p)) (l : LL H h row cs) (m : LL H p q cs) : Ev (tOp (rNeD K) ta tb) σ H (.bl false) :=
  ev_eq (ev_neD (ed_at h1 (dpLL l)) (ed_at h2 (dpLL m)) (shapedLL cs) (shapedLL cs)) (by rw [eqvLL]; rfl)
/-- one argument, a list that holds one list -/
def EvLL (ta : TA) (σ : L2.St) (H : Hp) (cs : List Int) : Prop := ∀ H1, Ex H H1 → ∀ Q : List V → Hp → Prop, (∀ h row H2, Ex H1 H2 → LL H2 h row cs → Q [.ref h] H2) → ta σ H1 Q
theorem ll_var {i : Nat} {h row : Addr} {cs : List Int} (hs : σ[i]? = some (some (.ref h))) (l : LL H h row cs) : EvLL (tCons (tVar i) tNil) σ H cs := fun H1 e Q q => ea_cons (ev_var hs) ea_nil H1 e Q fun H2 e2 => q h row H2 e2 (l.ex (e.trans e2))
theorem ll_deep {i : Nat} {h row : Addr} {cs : List Int} (hs : σ[i]? = some (some (.ref h))) (l : LL H h row cs) (hl : cs.length ≤ 10) : EvLL (tCons (tCall (sp__law_deep K 3) [] E0 (tCons (tVar i) tNil)) tNil) σ H cs := fun H1 e Q q =>
  (ea_cons (ev_var hs) ea_nil : EvA (tCons (tVar i) tNil) σ H [.ref h]) H1 e (fun us H2 => sp__law_deep K 3 (us ++ []) H2 (fun v H3 => Q [v] H3) E0) fun H2 e2 => .inr (.inr ⟨h, row, cs, rfl, by decide, l.ex (e.trans e2), by omega, fun h' row' H3 _ _ e3 l3 => q h' row' H3 (e2.trans e3) l3⟩)
theorem r_ask {ta : TA} {f c' : Addr} {es : List Int} {fx : List V} (hs : σ[0]? = some (some (.ref f))) (hf : H f = some (LamO f (LF j c') (LE j))) (hc : H (LF j c').c = some (LamX.CodeO (LF j c').c (LF j c').qual)) (h : EvLL ta σ H es) (ask : AskOk spA j H es fx) {H1 : Hp} (e : Ex H H1) {Q : VK}
    (q : ∀ tp g s H2 H3, Ex H1 H2 → Ex H2 H3 → H3 tp = some (.tup [.ref g, .ref s]) → H3 g = some (.lst fx) → Told H2 H3 s → Q (.ref tp) H3) : tCallLam LF LE spA 0 (fun _ => E0) ta σ H1 Q :=
  ⟨j, f, c', hs, e _ _ hf, h H1 e _ fun h row H2 e2 ll => ⟨(e.trans e2) _ _ hf, (e.trans e2) _ _ hc, ask H2 (e.trans e2) h row ll _ fun tp g s H3 e3 ht hg told => q tp g s H2 H3 e2 e3 ht hg told⟩⟩
theorem ev_ask {ta : TA} {f c' : Addr} {es : List Int} {fx : List V} (hs : σ[0]? = some (some (.ref f))) (hf : H f = some (LamO f (LF j c') (LE j))) (hc : H (LF j c').c = some (LamX.CodeO (LF j c').c (LF j c').qual)) (h : EvLL ta σ H es) (ask : AskOk spA j H es fx) (sh : Sh fx) :
    Ev (tCB (rStrD K) (tCons (tOp (rIxT K) (tCallLam LF LE spA 0 (fun _ => E0) ta) (tC (.int 0))) tNil)) σ H (.str (shL fx)) := fun H1 e Q q =>
  r_ask (Q := fun v H3 => rIxT K v (.int 0) H3 fun u H4 => rStrD K [u] H4 Q) hs hf hc h ask e fun tp g s H2 H3 e2 e3 ht hg told => ⟨tp, [.ref g, .ref s], 0, .ref g, rfl, rfl, st_of ht, rfl, rs_flat hg sh (q H3 (e2.trans e3))⟩
theorem ev_str {te : TE} {p : Addr} {fx : List V} (h : Ev te σ H (.ref p)) (hp : H p = some (.lst fx)) (sh : Sh fx) : Ev (tCB (rStrD K) (tCons te tNil)) σ H (.str (shL fx)) := fun H1 e Q q =>
  h H1 e (fun u H4 => rStrD K [u] H4 Q) fun H2 e2 => rs_flat ((e.trans e2) _ _ hp) sh (q H2 e2)
theorem et_asked {ta : TE} {tb : TE} {s : Str} (h : Ev ta σ H (.str s)) (h2 : Ev tb σ H (.str s)) : EvT (tTest (tOp rNe ta tb)) σ H false := et_is (et_test (ev_op h h2 (rv_ne (x := .str s) (y := .str s) rfl))) (by simp)
theorem ask_mono {H' : Hp} {es : List Int} {fx : List V} (e : Ex H H') (a : AskOk spA j H es fx) : AskOk spA j H' es fx := fun H1 e1 => a H1 (e.trans e1)
/-- the answer is asked anew -/
theorem et_anew {f c' h row t tr : Addr} {es : List Int} {fx : List V} {ia ib : Nat} (h0 : σ[0]? = some (some (.ref f))) (h3 : σ[3]? = some (some (.ref h))) (h4 : σ[ia]? = some (some (.str (shL fx)))) (h5 : σ[ib]? = some (some (.ref t))) (hf : H f = some (LamO f (LF j c') (LE j))) (hc : H (LF j c').c = some (LamX.CodeO (LF j c').c (LF j c').qual)) (l : LL H h row es) (m : LL H t tr es) (ask : AskOk spA j H es fx) (sh : Sh fx) :
    EvT (tOr (tTest (tOp rNe (tCB (rStrD K) (tCons (tOp (rIxT K) (tCallLam LF LE spA 0 (fun _ => E0) (tCons (tVar 3) tNil)) (tC (.int 0))) tNil)) (tVar ia))) (tTest (tOp (rNeD K) (tVar 3) (tVar ib)))) σ H false :=
  et_is (et_or (et_asked (ev_ask h0 hf hc (ll_var h3 l) ask sh) (ev_var h4)) fun _ => et_test (ev_same (ev_var h3) (ev_var h5) l m)) rfl
/-- put, and asked anew -/
theorem s_door {D : Ends} {H' : Hp} {f c' h row t tr : Addr} {es G : List Int} {fx : List V} (h0 : σ[0]? = some (some (.ref f))) (h3 : σ[3]? = some (some (.ref h))) (h4 : σ[9]? = some (some (.str (shL fx)))) (h5 : σ[8]? = some (some (.ref t))) (hf : H f = some (LamO f (LF j c') (LE j))) (hc : H (LF j c').c = some (LamX.CodeO (LF j c').c (LF j c').qual)) (nr : H row = none) (e : Ex H H') (l : LL H' h row G) (hG : G.length ≤ 1000) (m : LL H t tr es) (he : es.length ≤ 10) (ask : AskOk spA j H es fx) (sh : Sh fx)
    (k : ∀ H2, Ex H H2 → LL H2 h row es → (∀ y o, y ≠ row → H' y = some o → H2 y = some o) → D.nx σ H2) :
    (tSeq (tDrop (tCall (sp__law_put K) [] E0 (tCons (tVar 3) (tCons (tVar 8) tNil))))
      (tIfS (tOr (tTest (tOp rNe (tCB (rStrD K) (tCons (tOp (rIxT K) (tCallLam LF LE spA 0 (fun _ => E0) (tCons (tVar 3) tNil)) (tC (.int 0))) tNil)) (tVar 9))) (tTest (tOp (rNeD K) (tVar 3) (tVar 8)))) (tRet (tC (.bl false))) tNext)) D σ H' := by
  have n1 : row ≠ tr := fun z => by rw [z, m.i] at nr; cases nr
  have n2 : row ≠ t := fun z => by rw [z, m.o] at nr; cases nr
  refine q_dropCall (ea_cons (ev_var h3) (ea_cons (ev_var h5) ea_nil)) fun H1 e1 => ⟨h, row, t, tr, G, es, rfl, l.ex e1, m.ex (e.trans e1), n1, n2, hG, by omega, fun H2 kp hr => ?_⟩
  have ex : Ex H H2 := fun y o hy => kp y o (fun z => by rw [z, nr] at hy; cases hy) ((e.trans e1) _ _ hy)
  have l2 : LL H2 h row es := ⟨kp _ _ l.ne ((l.ex e1).o), hr⟩
  exact s_when (b := false) (et_anew h0 h3 h4 h5 (ex _ _ hf) (ex _ _ hc) l2 (m.ex ex) (ask_mono ex ask) sh) (fun z => nomatch z) fun _ H3 e3 => k H3 (ex.trans e3) (l2.ex e3) fun y o ny hy => e3 _ _ (kp y o ny (e1 _ _ hy))
theorem len__law_door_right (h : sp__law_door_right K LF LE spA vs H Q E) : vs.length = (["_law_ask", "_law_lists", "_law_others"] : List Str).length := by
  obtain ⟨_, _, _, _, _, _, _, _, _, _, _, rfl, _⟩ := h
  rfl
end
end Cb

set_option Elab.async false
set_option linter.all false
set_option maxRecDepth 100000
set_option maxHeartbeats 1000000
/-! The law k07: a door is right. -/
namespace Cb
open PySem PySem.Spec PyProof.Rows L2 Evl Chg
section
variable {K : PySem.W.Frag} {mg : Str → Option Value} {CA CP CN : Addr} {vs : List V} {H : Hp} {Q : VK} {E : XK} {σ : L2.St} {LF : Nat → Addr → NdefX.NF} {LE : Nat → Expr} {spA : Nat → Sp} {j : Nat}
/-- for over a new tuple of two new tuples -/
theorem q_for2 {D : Ends} {tz : TS} {ta tb : TA} {va vb : List V} {g : TG} {tu : TS} (h1 : EvA ta σ H va) (h2 : EvA tb σ H vb) (la : va.length ≤ 100) (lb : vb.length ≤ 100) (k : ∀ t1 t2 p H1, Ex H H1 → H1 t1 = some (.tup va) → H1 t2 = some (.tup vb) → H1 p = some (.tup [.ref t1, .ref t2]) → ∃ Pv : Nat → L2.St → Hp → Prop, Pv 0 σ H1 ∧ (∀ i σ' H', Pv i σ' H' → H' p = some (.tup [.ref t1, .ref t2])) ∧
    (∀ i x σ' H', ([.ref t1, .ref t2] : List V)[i]? = some x → Pv i σ' H' → g x σ' H' fun σ2 H2 => tu { D with nx := Pv (i + 1), ct := Pv (i + 1), bk := tz D } σ2 H2) ∧ ∀ σ' H', Pv 2 σ' H' → tz D σ' H') : tSeq (tFor (iTup K (tTup (tCons (tTup ta) (tCons (tTup tb) tNil)))) g tu) tz D σ H := by
  have nest : ∀ Q : VK, (∀ t1 t2 p H1, Ex H H1 → H1 t1 = some (.tup va) → H1 t2 = some (.tup vb) → H1 p = some (.tup [.ref t1, .ref t2]) → Q (.ref p) H1) → (tTup (tCons (tTup ta) (tCons (tTup tb) tNil))) σ H Q := fun Q q =>
    (eu_tup h1 (by omega)) H (Ex.refl H) (fun u H1 => (tCons (tTup tb) tNil) σ H1 fun us H2 => (u :: us).length ≤ sizeLine ∧ ∀ p, H2 p = none → Q (.ref p) (upd H2 p (.tup (u :: us)))) fun t1 H1 n1 e1 k1 =>
      (eu_tup h2 (by omega)) H1 e1 (fun w H2 => ([.ref t1, w] : List V).length ≤ sizeLine ∧ ∀ p, H2 p = none → Q (.ref p) (upd H2 p (.tup [.ref t1, w]))) fun t2 H2 n2 e2 k2 => ⟨sz_of (by decide : 2 ≤ 100000), fun p hp =>
        have ne : Ex H2 (upd H2 p (.tup [.ref t1, .ref t2])) := Ex.new hp
        q t1 t2 p _ ((e1.trans e2).trans ne) (ne _ _ (e2 _ _ k1)) (ne _ _ k2) upd_same⟩
  generalize tTup (tCons (tTup ta) (tCons (tTup tb) tNil)) = tl at nest ⊢
  exact nest _ fun t1 t2 p H1 e a1 a2 a3 => ⟨p, rfl, ⟨_, st_of a3⟩, by
    obtain ⟨Pv, a, b, c, d⟩ := k t1 t2 p _ e a1 a2 a3
    exact for_tup (D := { D with nx := tz D }) Pv a (fun i σ' H' _ w => st_of (b i σ' H' w)) c d⟩
theorem pure__law_door_right (h : sp__law_door_right K LF LE spA vs H Q E) : (t__law_door_right K LF LE spA) (endsOf Q) (start ["_law_ask", "_law_lists", "_law_others", "_law_handed", "_law_fixed", "_law_told_lists", "_law_text", "_law_due", "_law_some", "_law_again"] vs) H := by
  obtain ⟨f, p, o, q, r, c', cs, ds, j, fc, fd, rfl, hf, hc, lp, lo, hl, askC, askD, shC, shD, ret⟩ := h
  refine q_asgCall (ea_cons (ev_var rfl) ea_nil) fun H1 e1 => .inr (.inr ⟨p, q, cs, rfl, by decide, lp.ex e1, by omega, fun h row H2 nh nr e2 lh => ?_⟩)
  have x2 : Ex H H2 := e1.trans e2
  have nh0 : H h = none := fresh_back e1 nh
  have nr0 : H row = none := fresh_back e1 nr
  refine r_ask (j := j) (c' := c') (σ := [some (.ref f), some (.ref p), some (.ref o), some (.ref h), none, none, none, none, none, none]) (es := cs) (fx := fc) rfl (x2 _ _ hf) (x2 _ _ hc) (ll_var rfl lh) (ask_mono x2 askC) (Ex.refl H2) fun tp g s H3 H4 e3 e4 ht hg told => ⟨tp, _, rfl, st_of ht, rfl, _, _, rfl, _, _, rfl, rfl, ?_⟩
  have x3 : Ex H H3 := x2.trans e3
  have x4 : Ex H H4 := x3.trans e4
  have lh3 := lh.ex e3
  have lh4 := lh3.ex e4
  refine q_par (ev_str (ev_var rfl) hg shC) (ev_ask (j := j) (c' := c') rfl (x4 _ _ hf) (x4 _ _ hc) (ll_deep rfl (lo.ex x4) hl.2) (ask_mono x4 askD) shD) fun H5 e5 => ?_
  have x5 : Ex H H5 := x4.trans e5
  refine q_when (b := false) (et_test (ev_same (ev_var rfl) (ev_var rfl) (lh4.ex e5) (lp.ex x5))) (fun z => nomatch z) fun _ H6 e6 => ?_
  have e46 : Ex H4 H6 := e5.trans e6
  refine q_dropCall (ea_cons (ev_var rfl) ea_nil) fun H7 e7 => ⟨.ref s, rfl, ?_⟩
  have e47 : Ex H4 H7 := e46.trans e7
  obtain ⟨ns, tl⟩ := told
  have rest : ∀ H8, (∀ y ob, H3 y = some ob → H8 y = some ob) → (tSeq (tIfS (tOr (tTest (tOp rNe (tCB (rStrD K) (tCons (tOp (rIxT K) (tCallLam LF LE spA 0 (fun _ => E0) (tCons (tVar 3) tNil)) (tC (.int 0))) tNil)) (tVar 6))) (tTest (tOp (rNeD K) (tVar 3) (tVar 1)))) (tRet (tC (.bl false))) tNext)
  (tSeq (tFor (iTup K (tTup (tCons (tTup (tCons (tVar 2) (tCons (tVar 7) tNil))) (tCons (tTup (tCons (tVar 1) (tCons (tVar 6) tNil))) tNil)))) (gTup K 2 (gCons (gName 8) (gCons (gName 9) gNil))) (tSeq (tDrop (tCall (sp__law_put K) [] E0 (tCons (tVar 3) (tCons (tVar 8) tNil))))
  (tIfS (tOr (tTest (tOp rNe (tCB (rStrD K) (tCons (tOp (rIxT K) (tCallLam LF LE spA 0 (fun _ => E0) (tCons (tVar 3) tNil)) (tC (.int 0))) tNil)) (tVar 9))) (tTest (tOp (rNeD K) (tVar 3) (tVar 8)))) (tRet (tC (.bl false))) tNext)))
  (tRet (tC (.bl true))))) (endsOf Q) [some (.ref f), some (.ref p), some (.ref o), some (.ref h), some (.ref g), some (.ref s), some (.str (shL fc)), some (.str (shL fd)), none, none] H8 := fun H8 kp => by
    have e38 : Ex H3 H8 := kp
    have x8 : Ex H H8 := x3.trans e38
    have lh8 := lh3.ex e38
    refine q_when (b := false) (et_anew (j := j) (c' := c') rfl rfl rfl rfl (x8 _ _ hf) (x8 _ _ hc) lh8 (lp.ex x8) (ask_mono x8 askC) shC) (fun z => nomatch z) fun _ H9 e9 => ?_
    have x9 : Ex H H9 := x8.trans e9
    have lh9 := lh8.ex e9
    refine q_for2 (va := [.ref o, .str (shL fd)]) (vb := [.ref p, .str (shL fc)]) (ea_cons (ev_var rfl) (ea_cons (ev_var rfl) ea_nil)) (ea_cons (ev_var rfl) (ea_cons (ev_var rfl) ea_nil)) (by simp) (by simp) fun t1 t2 pt Ha ea k1 k2 kpt => ?_
    have nrow : ∀ {y : Addr} {l : List V}, Ha y = some (.tup l) → y ≠ row := fun hy z => by
      have := ea _ _ lh9.i
      rw [z, this] at hy
      cases hy
    refine ⟨fun i σ' H' => Ex H H' ∧ (∃ G : List Int, LL H' h row G ∧ G.length ≤ 1000) ∧ H' t1 = some (.tup [.ref o, .str (shL fd)]) ∧ H' t2 = some (.tup [.ref p, .str (shL fc)]) ∧ H' pt = some (.tup [.ref t1, .ref t2]) ∧ ∃ y8 y9 : Option V, σ' = [some (.ref f), some (.ref p), some (.ref o), some (.ref h), some (.ref g), some (.ref s), some (.str (shL fc)), some (.str (shL fd)), y8, y9],
      ⟨x9.trans ea, ⟨cs, lh9.ex ea, by omega⟩, k1, k2, kpt, _, _, rfl⟩, fun i σ' H' w => w.2.2.2.2.1, fun i x σ' H' hx w => ?_, fun σ' H' w => ?_⟩
    · obtain ⟨xw, ⟨G, lG, hG⟩, w1, w2, w3, y8, y9, rfl⟩ := w
      match i, hx with
      | 0, hx =>
        obtain rfl : V.ref t1 = x := by simpa using hx
        refine ⟨t1, _, rfl, st_of w1, rfl, _, _, rfl, _, _, rfl, rfl, ?_⟩
        exact s_door (D := { nx := _, rt := _, bk := _, ct := _ }) (j := j) (c' := c') rfl rfl rfl rfl hf hc nr0 xw lG hG lo hl.2 askD shD fun Hb xb lb kb => ⟨xb, ⟨ds, lb, by omega⟩, kb _ _ (nrow k1) w1, kb _ _ (nrow k2) w2, kb _ _ (nrow kpt) w3, _, _, rfl⟩
      | 1, hx =>
        obtain rfl : V.ref t2 = x := by simpa using hx
        refine ⟨t2, _, rfl, st_of w2, rfl, _, _, rfl, _, _, rfl, rfl, ?_⟩
        exact s_door (D := { nx := _, rt := _, bk := _, ct := _ }) (j := j) (c' := c') rfl rfl rfl rfl hf hc nr0 xw lG hG lp hl.1 askC shC fun Hb xb lb kb => ⟨xb, ⟨cs, lb, by omega⟩, kb _ _ (nrow k1) w1, kb _ _ (nrow k2) w2, kb _ _ (nrow kpt) w3, _, _, rfl⟩
      | i + 2, hx => simp at hx
    · obtain ⟨xw, _, _, _, _, y8, y9, rfl⟩ := w
      exact s_ret ev_c fun Hb eb => ret Hb (xw.trans eb)
  rcases tl with ⟨xs, t1, t2, t3⟩ | ⟨as, t1, t2, t3, t4, t5⟩
  · exact .inr (.inl ⟨s, xs, rfl, by decide, e47 _ _ t1, by omega, t3, fun H8 kp => rest H8 fun y ob hy => kp y ob (fun z => by rw [z, ns] at hy; cases hy) (e47 _ _ (e4 _ _ hy))⟩)
  · refine .inr (.inr ⟨s, as, rfl, by decide, e47 _ _ t1, by omega, t3, t4, fun a ha => ?_, fun H8 kp => rest H8 fun y ob hy => kp y ob (fun z => by rw [z, ns] at hy; cases hy) (fun z => ?_) (e47 _ _ (e4 _ _ hy))⟩)
    · obtain ⟨_, G, g1, g2⟩ := t5 a ha
      exact ⟨G, e47 _ _ g1, g2⟩
    · rw [(t5 y z).1] at hy
      cases hy
theorem len__law_doors_right (h : sp__law_doors_right K LF LE spA vs H Q E) : vs.length = (["_law_asks", "_law_lists", "_law_others"] : List Str).length := by
  obtain ⟨_, _, _, _, _, _, _, _, rfl, _⟩ := h
  rfl
theorem pure__law_doors_right (h : sp__law_doors_right K LF LE spA vs H Q E) : (t__law_doors_right K LF LE spA) (endsOf Q) (start ["_law_asks", "_law_lists", "_law_others", "_law_ask"] vs) H := by
  obtain ⟨l, p, o, q, r, fs, cs, ds, rfl, hl, hn, lp, lo, hd, hf, ret⟩ := h
  refine s_ret (ev_eq (ev_allL (bs := fs.map fun _ => true) (el_eq (el_lcY (K := K) (fun _ => .bl true) (ev_var rfl) (sq_of hl) (by rw [List.length_map]; omega) (fun _ => rfl) fun x H1 hx e1 => ?_) (by rw [List.map_map, List.map_map]; rfl))) (by simp : V.bl _ = V.bl true)) fun H1 e1 => ret H1 e1
  obtain ⟨f, hfm, rfl⟩ := List.mem_map.mp hx
  obtain ⟨j, c', fc, fd, a1, a2, a3, a4, a5, a6⟩ := hf f hfm
  exact ev_callV (ea_cons (ev_var rfl) (ea_cons (ev_var rfl) (ea_cons (ev_var rfl) ea_nil))) fun H2 e2 Q' q' => ⟨f, p, o, q, r, c', cs, ds, j, fc, fd, rfl, (e1.trans e2) _ _ a1, (e1.trans e2) _ _ a2, lp.ex (e1.trans e2), lo.ex (e1.trans e2), hd, ask_mono (e1.trans e2) a3, ask_mono (e1.trans e2) a4, a5, a6, q'⟩
end
end Cb

set_option Elab.async false
set_option linter.all false
set_option maxRecDepth 100000
set_option maxHeartbeats 1000000
/-! The law k07: whole. -/
namespace Cb
open PySem PySem.Spec PyProof.Rows L2 Evl Chg
/-! ### numbers -/
theorem sm_le {f : Int → Int} {B : Int} (h : ∀ m, 0 ≤ f m ∧ f m ≤ B) : ∀ l : Nat, 0 ≤ sm l f ∧ sm l f ≤ (2 * (l : Int) + 1) * B
  | 0 => by
    have := h 0
    show 0 ≤ f 0 ∧ f 0 ≤ _
    simp
    omega
  | l + 1 => by
    have ih := sm_le h l
    have h1 := h ((l : Int) + 1)
    have h2 := h (-((l : Int) + 1))
    have e : (2 * ((l + 1 : Nat) : Int) + 1) * B = (2 * (l : Int) + 1) * B + 2 * B := by
      rw [← Int.add_mul]
      congr 1
    rw [e]
    show 0 ≤ sm l f + (f ((l : Int) + 1) + f (-((l : Int) + 1))) ∧ sm l f + (f ((l : Int) + 1) + f (-((l : Int) + 1))) ≤ _
    omega
theorem wys_le (L : Nat) : ∀ (r : List Int) (a : Int) (l : Nat), l ≤ L → 0 ≤ wys r a l ∧ wys r a l ≤ (2 * (L : Int) + 1) ^ r.length
  | [], a, l, _ => by
    unfold wys
    split <;> simp
  | w :: r, a, l, hl => by
    have h := sm_le (f := fun m => wys r (a - m * w) (l - m.natAbs)) (B := (2 * (L : Int) + 1) ^ r.length) (fun m => wys_le L r _ _ (by omega)) l
    refine ⟨h.1, Int.le_trans h.2 ?_⟩
    rw [List.length_cons, Int.pow_succ, Int.mul_comm ((2 * (L : Int) + 1) ^ r.length)]
    have hp : 0 ≤ (2 * (L : Int) + 1) ^ r.length := Int.le_of_lt (Int.pow_pos (by omega))
    exact Int.mul_le_mul_of_nonneg_right (by omega) hp
theorem few_small {cs : List Int} {a : Int} (hc : Coins cs) (ha : 0 ≤ a ∧ a ≤ 200) (hd : gc cs ∣ a) : 0 ≤ few cs a ∧ few cs a ≤ 260 := by
  have := few_short (g := 30) (fun w hw => (by have := hc.wor w hw; omega)) (by decide) ha.1 hd
  omega
theorem ways_small {cs : List Int} {a : Int} (h3 : cs.length = 3) (hc : Coins cs) (ha : 0 ≤ a ∧ a ≤ 200) (hd : gc cs ∣ a) : (waysV cs a).natAbs < 10 ^ 12 := by
  have h := few_small hc ha hd
  have w := wys_le 260 cs a (few cs a).toNat (by omega)
  rw [h3] at w
  unfold waysV
  have e : (2 * ((260 : Nat) : Int) + 1) ^ 3 = 141420761 := by decide
  rw [e] at w
  omega
theorem num7_bound {c k m : Int} (hm : 0 < m) : 0 ≤ numV7 c k m ∧ numV7 c k m < m := by
  unfold numV7
  split
  · exact ⟨Int.emod_nonneg _ (by omega), Int.emod_lt_of_pos _ hm⟩
  · exact ⟨Int.emod_nonneg _ (by omega), Int.emod_lt_of_pos _ hm⟩
section
variable {K : PySem.W.Frag} {vs : List V} {H : Hp} {Q : VK} {E : XK}
theorem len__law_number_7 (h : sp__law_number_7 K vs H Q E) : vs.length = (["_law_cell", "_law_k", "_law_limit"] : List Str).length := by
  obtain ⟨c, k, m, rfl, _⟩ := h
  rfl
theorem pure__law_number_7 (h : sp__law_number_7 K vs H Q E) : t__law_number_7 K (endsOf Q) (start ["_law_cell", "_law_k", "_law_limit", "_law_small"] vs) H := by
  obtain ⟨c, k, m, rfl, hk, hm, q⟩ := h
  have pw : ∀ {H1 : Hp} {σ : L2.St}, Ev (tOp rPowI (tC (.int 10)) (tC (.int 18))) σ H1 (.int (10 ^ 18)) := ev_pow ev_c ev_c (by decide)
  refine q_when (et_test (ev_cmp (p := fun i j => decide (j ≤ i)) (ev_var rfl) pw)) (fun hc H1 e1 => ?_) fun hc H1 e1 => ?_
  · have hc' : (10 : Int) ^ 18 ≤ c := of_decide_eq_true hc
    have ev : numV7 c k m = (c - 10 ^ 18) / ent numP (k % 5) % m := if_pos hc'
    rw [ev] at q
    have h5 : 0 < ent numP (k % 5) ∧ ent numP (k % 5) < 1073741824 := ent_all (P := fun x => 0 < x ∧ x < 1073741824) (by decide) (by omega) (by show k % 5 < (5 : Nat); omega)
    refine s_ret (ev_mod (ev_div (ev_sub (ev_var rfl) pw) (ev_ixNU (xs := numP.map V.int) (eu_tup (ea_cons ev_c (ea_cons ev_c (ea_cons ev_c (ea_cons ev_c (ea_cons ev_c ea_nil))))) (by decide)) (ev_mod (ev_var rfl) ev_c (by decide)) (atI_int (by omega) (by show k % 5 < (5 : Nat); omega))) h5) (ev_var rfl) hm) fun H2 e2 => q H2 (e1.trans e2)
  · have hc' : ¬ (10 : Int) ^ 18 ≤ c := of_decide_eq_false hc
    have ev : numV7 c k m = drawV ((c % 1000003 + 977 * k) * (c % 1000003 + 31 * k + 5)) (k % 9 + 1) 999983 % m := if_neg hc'
    rw [ev] at q
    refine q_asg (ev_mod (ev_var rfl) ev_c (by decide)) fun H2 e2 => ?_
    have b1 := Int.emod_nonneg c (show (1000003 : Int) ≠ 0 by decide)
    have b2 := Int.emod_lt_of_pos c (show (0 : Int) < 1000003 by decide)
    generalize c % 1000003 = d at b1 b2 q
    have ok : IntMulOk (d + 977 * k) (d + 31 * k + 5) := IntMulOk.of_le (n := 64) (m := 64) (intBits_le_64 (by omega) (by omega)) (intBits_le_64 (by omega) (by omega)) (by decide)
    exact s_ret (ev_mod (ev_callV (z := .int (drawV ((d + 977 * k) * (d + 31 * k + 5)) (k % 9 + 1) 999983)) (ea_cons (ev_mul (ev_add (ev_var rfl) (ev_mul ev_c (ev_var rfl) (small_mul (by omega)))) (ev_add (ev_add (ev_var rfl) (ev_mul ev_c (ev_var rfl) (small_mul (by omega)))) ev_c) ok) (ea_cons (ev_add (ev_mod (ev_var rfl) ev_c (by decide)) ev_c) (ea_cons ev_c ea_nil)))
      fun H2 e2 Q q => ⟨_, _, _, rfl, by omega, by decide, q⟩) (ev_var rfl) hm) fun H3 e3 => q H3 ((e1.trans e2).trans e3)
theorem ev_num7 {σ : L2.St} {tc tk tm : TE} {c k m : Int} (h1 : Ev tc σ H (.int c)) (h2 : Ev tk σ H (.int k)) (h3 : Ev tm σ H (.int m)) (hk : 0 ≤ k ∧ k ≤ 1000) (hm : 0 < m) : Ev (tCall (sp__law_number_7 K) [] E (tCons tc (tCons tk (tCons tm tNil)))) σ H (.int (numV7 c k m)) :=
  ev_callV (ea_cons h1 (ea_cons h2 (ea_cons h3 ea_nil))) fun H1 e1 Q' q' => ⟨c, k, m, rfl, hk, hm, q'⟩
end
/-! ### lambdas -/
def LamAt7 (LF : Nat → Addr → NdefX.NF) (LE : Nat → Expr) (H : Hp) (f : Addr) (j : Nat) : Prop := ∃ c', H f = some (LamO f (LF j c') (LE j)) ∧ H (LF j c').c = some (LamX.CodeO (LF j c').c (LF j c').qual)
theorem exN7 {H H' : Hp} (e : Ex H H') : LamX.ExtN H H' := LamX.ExtN.of e
theorem extL7 {H H' : Hp} {a : Addr} {xs : List V} (e : LamX.ExtN H H') (h : H a = some (.lst xs)) : H' a = some (.lst xs) := e _ _ h (by intro ps z; cases z)
theorem sq_extN {K : PySem.W.Frag} {H H' : Hp} {a : Addr} {xs : List V} (e : LamX.ExtN H H') (h : SqL K H a xs) : SqL K H' a xs := by
  rcases h with (h | ⟨o, h⟩) | h
  · exact .inl (.inl (extL7 e h))
  · exact .inl (.inr ⟨o, e _ _ h (by intro ps z; cases z)⟩)
  · exact .inr h
theorem paid_extN {CP : Addr} {H H' : Hp} {x dx lg lb lh : Addr} {G B S : List Int} (e : LamX.ExtN H H') (h : PaidAt CP H x dx lg lb lh G B S) : PaidAt CP H' x dx lg lb lh G B S :=
  ⟨e _ _ h.ob (by intro ps z; cases z), extL7 e h.g, extL7 e h.b, extL7 e h.h⟩
section
variable {LF : Nat → Addr → NdefX.NF} {LE : Nat → Expr} {K : PySem.W.Frag} {mg : Str → Option Value} {CA CP CN : Addr} {T : List (Addr × Str)} {σ : L2.St} {H : Hp} {Q : VK} {E : XK} {D : Ends} {tz : TS} {vs : List V}
theorem LamAt7.ext {H H' : Hp} {f : Addr} {j : Nat} (h : LamAt7 LF LE H f j) (e : LamX.ExtN H H') : LamAt7 LF LE H' f j := by
  obtain ⟨c', h1, h2⟩ := h
  exact ⟨c', e _ _ h1 lamO_ne, e _ _ h2 LamX.codeO_ne⟩
theorem r_lam7 (hLF : ∀ j c', (LF j c').c = c') {j : Nat} {Q : VK} (hT : LamX.Tabs T H) (k : ∀ f H1, LamX.ExtN H H1 → LamX.Tabs T H1 → LamAt7 LF LE H1 f j → Q (.ref f) H1) : tLamM T (LF j) (LE j) σ H Q :=
  ⟨hT, fun f c' H1 e _ T1 _ hf hc => k f H1 e T1 ⟨c', hf, by rw [hLF]; exact hc⟩⟩
theorem q_lam2' (hLF : ∀ j c', (LF j c').c = c') {i a b : Nat} (hT : LamX.Tabs T H) (k : ∀ f g p H1, LamX.ExtN H H1 → LamX.Tabs T H1 → LamAt7 LF LE H1 f a → LamAt7 LF LE H1 g b → H1 p = some (.lst [.ref f, .ref g]) → tz D (σ.set i (some (.ref p))) H1) :
    tSeq (tAsg (tLst (tCons (tLamM T (LF a) (LE a)) (tCons (tLamM T (LF b) (LE b)) tNil))) (gName i)) tz D σ H :=
  r_lam7 (σ := σ) hLF (Q := fun v H1 => (tCons (tLamM T (LF b) (LE b)) tNil) σ H1 fun vs H2 => (v :: vs).length ≤ sizeLine ∧ ∀ p, H2 p = none → tz D (σ.set i (some (.ref p))) (upd H2 p (.lst (v :: vs)))) hT fun f H1 e1 T1 l1 =>
    r_lam7 (σ := σ) hLF (Q := fun w H2 => ([.ref f, w] : List V).length ≤ sizeLine ∧ ∀ p, H2 p = none → tz D (σ.set i (some (.ref p))) (upd H2 p (.lst [.ref f, w]))) T1 fun g H2 e2 T2 l2 => ⟨sz_of (by simp), fun p hp =>
      k f g p _ ((e1.trans e2).trans (exN7 (Ex.new hp))) (T2.ext (Ex.new hp)) ((l1.ext e2).ext (exN7 (Ex.new hp))) (l2.ext (exN7 (Ex.new hp))) upd_same⟩
theorem q_catLam (hLF : ∀ j c', (LF j c').c = c') {i a : Nat} {p : Addr} {xs : List V} (hs : σ[i]? = some (some (.ref p))) (hp : H p = some (.lst xs)) (hl : xs.length ≤ 100) (hT : LamX.Tabs T H) (k : ∀ f p' H1, LamX.ExtN H H1 → LamX.Tabs T H1 → LamAt7 LF LE H1 f a → H1 p' = some (.lst (xs ++ [.ref f])) → tz D (σ.set i (some (.ref p'))) H1) :
    tSeq (tAsg (tOp rCat (tVar i) (tLst (tCons (tLamM T (LF a) (LE a)) tNil))) (gName i)) tz D σ H :=
  ⟨.ref p, hs, r_lam7 (σ := σ) hLF (Q := fun v H1 => ([v] : List V).length ≤ sizeLine ∧ ∀ b, H1 b = none → rCat (.ref p) (.ref b) (upd H1 b (.lst [v])) fun w H2 => tz D (σ.set i (some w)) H2) hT fun f H1 e1 T1 l1 => ⟨sz_of (by simp), fun b hb =>
    have n1 : Ex H1 (upd H1 b (.lst [.ref f])) := Ex.new hb
    ⟨p, b, xs, [.ref f], rfl, rfl, n1 _ _ (extL7 e1 hp), upd_same, sz_of (by simp; omega), fun p' hp' =>
      have n2 : Ex (upd H1 b (.lst [.ref f])) (upd (upd H1 b (.lst [.ref f])) p' (.lst (xs ++ [.ref f]))) := Ex.new hp'
      k f p' _ (e1.trans (exN7 (n1.trans n2))) (T1.ext (n1.trans n2)) (l1.ext (exN7 (n1.trans n2))) upd_same⟩⟩⟩
/-- [[..]] -/
def EvLR (te : TE) (σ : L2.St) (H : Hp) (cs : List Int) : Prop := ∀ H1, Ex H H1 → ∀ Q : VK, (∀ h row H2, Ex H1 H2 → LL H2 h row cs → Q (.ref h) H2) → te σ H1 Q
theorem lr_lst {tl : TE} {cs : List Int} (h : EvL tl σ H (cs.map V.int)) : EvLR (tLst (tCons tl tNil)) σ H cs := fun H1 e Q q =>
  h H1 e (fun v H2 => ([v] : List V).length ≤ sizeLine ∧ ∀ p, H2 p = none → Q (.ref p) (upd H2 p (.lst [v]))) fun row H2 nr e2 hr => ⟨sz_of (by simp), fun p hp => q p row _ (e2.trans (Ex.new hp)) ⟨upd_same, (Ex.new hp : Ex H2 _) _ _ hr⟩⟩
theorem a_ll {ta tb : TE} {cs ds : List Int} {R : List V → Hp → Prop} (h1 : EvLR ta σ H cs) (h2 : EvLR tb σ H ds) (k : ∀ p q o r H1, Ex H H1 → LL H1 p q cs → LL H1 o r ds → R [.ref p, .ref o] H1) : (tCons ta (tCons tb tNil)) σ H R :=
  h1 H (Ex.refl H) (fun v H1 => (tCons tb tNil) σ H1 fun vs H2 => R (v :: vs) H2) fun p q H1 e1 l1 => h2 H1 e1 (fun v H2 => R [.ref p, v] H2) fun o r H2 e2 l2 => k p q o r H2 (e1.trans e2) (l1.ex e2) l2
theorem sh_bl {b : Bool} : Sh [.bl b] := ⟨by simp, fun x hx => by
  have : x = .bl b := by simpa using hx
  exact .inl ⟨b, this⟩⟩
theorem sh_bl2 {b c : Bool} : Sh [.bl b, .bl c] := ⟨by simp, fun x hx => by
  simp only [List.mem_cons, List.not_mem_nil, or_false] at hx
  rcases hx with h | h <;> exact .inl ⟨_, h⟩⟩
theorem sh_int {i : Int} (h : i.natAbs < 10 ^ 12) : Sh [.int i] := ⟨by simp, fun x hx => by
  have : x = .int i := by simpa using hx
  exact .inr ⟨i, this, h⟩⟩
/-- what lambda j answers with the coins cs -/
noncomputable def fxL (am : Int) (G B S : List Int) (cs : List Int) : Nat → List V
  | 0 => [.bl (decide (gc cs ∣ am)), .bl true]
  | 1 => [.int (few cs am)]
  | 2 => [.int (waysV cs am)]
  | 3 => [.bl (showB cs am G B S)]
  | _ => [.bl (nevB cs am 3)]
theorem sh_fxL {am : Int} {G B S cs : List Int} (h3 : cs.length = 3) (hc : Coins cs) (ha : 0 ≤ am ∧ am ≤ 200) (hd : gc cs ∣ am) : ∀ j, Sh (fxL am G B S cs j)
  | 0 => sh_bl2
  | 1 => sh_int (by have := few_small hc ha hd; omega)
  | 2 => sh_int (ways_small h3 hc ha hd)
  | 3 => sh_bl
  | _ + 4 => sh_bl
theorem ask_fxL {am : Int} {x dx lg lb lh : Addr} {G B S cs : List Int} (hc : Coins cs) (ha : 0 ≤ am ∧ am ≤ 200) (hd : gc cs ∣ am) (hP : PaidAt CP H x dx lg lb lh G B S) (hS : G.length ≤ 30000 ∧ B.length ≤ 30000 ∧ S.length ≤ 30000) : ∀ j, j ≤ 4 → AskOk (spW7 K CP CN [some (.int am), some (.ref x)]) j H cs (fxL am G B S cs j)
  | 0, _ => fun H1 e h row l Q q => ⟨am, h, row, cs, rfl, rfl, l, hc, ha, q⟩
  | 1, _ => fun H1 e h row l Q q => ⟨am, h, row, cs, rfl, rfl, l, hc, ha, hd, q⟩
  | 2, _ => fun H1 e h row l Q q => ⟨am, h, row, cs, rfl, rfl, l, hc, ha, hd, q⟩
  | 3, _ => fun H1 e h row l Q q => ⟨am, h, row, x, dx, lg, lb, lh, cs, G, B, S, rfl, rfl, l, hc, ha, hP.mono e, hS, q⟩
  | 4, _ => fun H1 e h row l Q q => ⟨am, h, row, cs, rfl, rfl, l, hc, ha, q⟩
  | _ + 5, h => absurd h (by omega)
theorem len_law_k07 (h : sp_law_k07 K T vs H Q E) : vs.length = (["_law_script"] : List Str).length := by
  obtain ⟨p, ns, rfl, _⟩ := h
  rfl
theorem pure_law_k07 (hLF : ∀ j c', (LF j c').c = c') (TK : Kls K mg CA CP CN) (h : sp_law_k07 K T vs H Q E) : (t_law_k07 K CP CN LF LE T) (endsOf Q) (start ["_law_script", "_law_by", "_law_amount", "_law_here", "_law_asks"] vs) H := by
  obtain ⟨p, ns, rfl, hp, hn, hl, hT, q⟩ := h
  have c1 : Coins [1, 5, 12] := ⟨by simp, by simp, by intro w hw; simp at hw; omega, by simp⟩
  have c2 : Coins [1, 4, 9] := ⟨by simp, by simp, by intro w hw; simp at hw; omega, by simp⟩
  have c3 : Coins [4, 6] := coins2 (by decide)
  have c4 : Coins [3, 6] := coins2 (by decide)
  refine q_forR1 (ea_cons ev_c ea_nil) (by decide) (fun i σ' H' => SqL K H' p (ns.map V.int) ∧ LamX.Tabs T H' ∧ ∃ y1 y2 y3 y4 : Option V, σ' = [some (.ref p), y1, y2, y3, y4]) (fun H1 e1 => ⟨ex_l e1 hp, hT.ext e1, _, _, _, _, rfl⟩) (fun i σ' H' hi w => ?_) fun σ' H' w => ?_
  · obtain ⟨hp0, hT0, y1, y2, y3, y4, rfl⟩ := w
    have nb : 0 ≤ numV7 (cellAt ns i) ((i : Int) + 1) 40 ∧ numV7 (cellAt ns i) ((i : Int) + 1) 40 < 40 := num7_bound (by decide)
    refine q_asg (ev_add ev_c (ev_num7 (ev_cell (ev_var rfl) (ev_var rfl) hp0 (by omega)) (ev_add (ev_var rfl) ev_c) ev_c (by omega) (by decide))) fun H1 e1 => ?_
    obtain ⟨am, hm, ham⟩ : ∃ am : Int, 7 + numV7 (cellAt ns i) ((i : Int) + 1) 40 = am ∧ (0 ≤ am ∧ am ≤ 200) := ⟨_, rfl, by omega⟩
    rw [hm]
    clear hm nb
    have g1 : gc [1, 5, 12] ∣ am := by rw [show gc [1, 5, 12] = 1 by decide]; exact Int.one_dvd am
    have g2 : gc [1, 4, 9] ∣ am := by rw [show gc [1, 4, 9] = 1 by decide]; exact Int.one_dvd am
    refine r_paidL (cs := [1, 5, 12]) (Q := fun v H2 => tSeq _ _ _ (([some (.ref p), some (.int i), some (.int am), y3, y4] : L2.St).set 3 (some v)) H2) (el_lst (ea_cons ev_c (ea_cons ev_c (ea_cons ev_c ea_nil))) (by simp)) (ev_var rfl) c1 ham (fun z => absurd g1 z) fun _ G B S ok x dx lg lb lh H2 n1 n2 n3 n4 n5 d1 d2 d3 e2 hP => ?_
    have hS : S.length ≤ 300 := by
      have := ok.toFloor.len
      have := c1.top
      omega
    have lG := ok.lg
    have lB := ok.lb
    have hLn : G.length ≤ 30000 ∧ B.length ≤ 30000 ∧ S.length ≤ 30000 := by
      rw [lG, lB]
      simp
      omega
    refine q_lam2' hLF ((hT0.ext e1).ext e2) fun f0 f1 pa H3 x3 T3 l0 l1 ha => ?_
    refine q_catLam hLF (xs := [.ref f0, .ref f1]) rfl ha (by simp) T3 fun f2 pb H4 x4 T4 l2 hb => ?_
    refine q_catLam hLF rfl hb (by simp) T4 fun f3 pc H5 x5 T5 l3 hc => ?_
    refine q_catLam hLF rfl hc (by simp) T5 fun f4 pd H6 x6 T6 l4 hd => ?_
    have x36 : LamX.ExtN H3 H6 := (x4.trans x5).trans x6
    have hP6 := paid_extN (x3.trans x36) hP
    have hp6 : SqL K H6 p (ns.map V.int) := sq_extN (x3.trans x36) (ex_l e2 (ex_l e1 hp0))
    have hd6 : H6 pd = some (.lst ([f0, f1, f2, f3, f4].map V.ref)) := hd
    have lam : ∀ f ∈ [f0, f1, f2, f3, f4], ∃ j, j ≤ 4 ∧ LamAt7 LF LE H6 f j := fun f hf => by
      simp only [List.mem_cons, List.not_mem_nil, or_false] at hf
      rcases hf with rfl | rfl | rfl | rfl | rfl
      · exact ⟨0, by decide, l0.ext x36⟩
      · exact ⟨1, by decide, l1.ext x36⟩
      · exact ⟨2, by decide, l2.ext (x5.trans x6)⟩
      · exact ⟨3, by decide, l3.ext x6⟩
      · exact ⟨4, by decide, l4⟩
    refine s_when (D := { nx := _, rt := _, bk := _, ct := _ }) (b := false) (et_is (et_not (et_B (fun H7 e7 Q' q' => ?_ : Ev _ _ _ (.bl true)))) rfl) (fun z => nomatch z) fun _ H7 e7 => ⟨ex_l e7 hp6, T6.ext e7, _, _, _, _, rfl⟩
    refine ⟨.ref pd, rfl, a_ll (R := fun us H8 => sp__law_doors_right K LF LE (spW7 K CP CN [some (.int am), some (.ref x)]) (.ref pd :: us) H8 Q' E0) (lr_lst (cs := [1, 5, 12]) (el_lst (ea_cons ev_c (ea_cons ev_c (ea_cons ev_c ea_nil))) (by simp))) (lr_lst (cs := [1, 4, 9]) (el_lst (ea_cons ev_c (ea_cons ev_c (ea_cons ev_c ea_nil))) (by simp))) fun p1 q1 p2 q2 H8 e8 m1 m2 => ?_⟩
    have e68 := e7.trans e8
    refine ⟨pd, p1, p2, q1, q2, [f0, f1, f2, f3, f4], [1, 5, 12], [1, 4, 9], rfl, e68 _ _ hd6, by simp, m1, m2, by decide, fun f hf => ?_, fun H9 e9 => q' H9 (e8.trans e9)⟩
    obtain ⟨j, hj, lj⟩ := lam f hf
    obtain ⟨c', a1, a2⟩ := lj.ext (exN7 e68)
    exact ⟨j, c', _, _, a1, a2, ask_fxL c1 ham g1 (hP6.mono e68) hLn j hj, ask_fxL c2 ham g2 (hP6.mono e68) hLn j hj, sh_fxL rfl c1 ham g1 j, sh_fxL rfl c2 ham g2 j⟩
  · obtain ⟨hp0, hT0, y1, y2, y3, y4, rfl⟩ := w
    refine r_lam7 (σ := [some (.ref p), y1, y2, y3, y4]) hLF (j := 5) (Q := fun v H1 => (tCons (tLst (tCons (tLst (tCons (tC (.int 4)) (tCons (tC (.int 6)) tNil))) tNil)) (tCons (tLst (tCons (tLst (tCons (tC (.int 3)) (tCons (tC (.int 6)) tNil))) tNil)) tNil)) [some (.ref p), y1, y2, y3, y4] H1 fun us H2 => sp__law_door_right K LF LE (spW7 K CP CN [y2, y3]) (v :: us) H2 Q E0) hT0 fun f H1 e1 T1 l1 => ?_
    refine a_ll (lr_lst (cs := [4, 6]) l2c) (lr_lst (cs := [3, 6]) l2c) fun p1 q1 p2 q2 H2 e2 m1 m2 => ?_
    obtain ⟨c', a1, a2⟩ := l1.ext (exN7 e2)
    have ask : ∀ {cs : List Int}, Coins cs → AskOk (spW7 K CP CN [y2, y3]) 5 H2 cs [.bl (decide (gc cs ∣ 7)), .bl true] := fun hc H1 e h row l Q q => ⟨h, row, _, rfl, rfl, l, hc, q⟩
    exact ⟨f, p1, p2, q1, q2, c', _, _, 5, _, _, rfl, a1, a2, m1, m2, by decide, ask c3, ask c4, sh_bl2, sh_bl2, fun H3 _ => q H3⟩
end
end Cb

set_option Elab.async false
set_option linter.all false
set_option maxRecDepth 100000
set_option maxHeartbeats 4000000
/-! The row: scopes, terms, the end. -/
namespace Cb
open PySem PySem.Spec PyProof.Rows L2 Evl Chg
def topS (i : Nat) : Stmt := PySem.Challenge.pw_changeback_k07_whole_anew.main.body.getD i (.Pass ⟨0, 0, 0, 0⟩)
section
variable {P : Program} {w : World} {K : PySem.W.Frag} {mg : Str → Option Value} {base : Heap} {CA CP CN CE CB CM CW : Addr}
abbrev s_is_number : Stmt := topS 9
theorem sc_is_number : FnScope ["thing"] ["thing"] (defScope s_is_number) := ⟨rfl, rfl, rfl, by decide +kernel, rfl, by decide +kernel, by decide +kernel⟩
abbrev s_check_coins : Stmt := topS 10
theorem sc_check_coins : FnScope ["coins", "worth", "one", "other"] ["coins"] (defScope s_check_coins) := ⟨rfl, rfl, rfl, by decide +kernel, rfl, by decide +kernel, by decide +kernel⟩
abbrev s_check_amount : Stmt := topS 11
theorem sc_check_amount : FnScope ["amount", "most"] ["amount", "most"] (defScope s_check_amount) := ⟨rfl, rfl, rfl, by decide +kernel, rfl, by decide +kernel, by decide +kernel⟩
abbrev s_common : Stmt := topS 12
theorem sc_common : FnScope ["numbers", "found", "number"] ["numbers"] (defScope s_common) := ⟨rfl, rfl, rfl, by decide +kernel, rfl, by decide +kernel, by decide +kernel⟩
abbrev s_strip : Stmt := topS 13
theorem sc_strip : FnScope ["coins", "amount"] ["coins", "amount"] (defScope s_strip) := ⟨rfl, rfl, rfl, by decide +kernel, rfl, by decide +kernel, by decide +kernel⟩
abbrev s_heights_of : Stmt := topS 14
theorem sc_heights_of : FnScope ["coins", "amount", "places", "found", "turn", "here", "worth", "there"] ["coins", "amount"] (defScope s_heights_of) := ⟨rfl, rfl, rfl, by decide +kernel, rfl, by decide +kernel, by decide +kernel⟩
abbrev s_are_counts : Stmt := topS 17
theorem sc_are_counts : FnScope ["some", "coins", "one"] ["some", "coins"] (defScope s_are_counts) := ⟨rfl, rfl, rfl, by decide +kernel, rfl, by decide +kernel, by decide +kernel⟩
abbrev s_worth_of : Stmt := topS 18
theorem sc_worth_of : FnScope ["counts", "coins", "count", "worth"] ["counts", "coins"] (defScope s_worth_of) := ⟨rfl, rfl, rfl, by decide +kernel, rfl, by decide +kernel, by decide +kernel⟩
abbrev s_is_floor : Stmt := topS 19
theorem sc_is_floor : FnScope ["coins", "amount", "heights", "worth", "one", "other"] ["coins", "amount", "heights"] (defScope s_is_floor) := ⟨rfl, rfl, rfl, by decide +kernel, rfl, by decide +kernel, by decide +kernel⟩
abbrev s_Paid_init : Stmt := inClass (topS 20) 0
theorem sc_Paid_init : FnScope ["self", "give", "back", "heights"] ["self", "give", "back", "heights"] (defScope s_Paid_init) := ⟨rfl, rfl, rfl, by decide +kernel, rfl, by decide +kernel, by decide +kernel⟩
abbrev s_Paid_shows : Stmt := inClass (topS 20) 1
theorem sc_Paid_shows : FnScope ["self", "coins", "amount"] ["self", "coins", "amount"] (defScope s_Paid_shows) := ⟨rfl, rfl, rfl, by decide +kernel, rfl, by decide +kernel, by decide +kernel⟩
abbrev s_Never_init : Stmt := inClass (topS 21) 0
theorem sc_Never_init : FnScope ["self", "part"] ["self", "part"] (defScope s_Never_init) := ⟨rfl, rfl, rfl, by decide +kernel, rfl, by decide +kernel, by decide +kernel⟩
abbrev s_Never_shows : Stmt := inClass (topS 21) 1
theorem sc_Never_shows : FnScope ["self", "coins", "amount", "worth"] ["self", "coins", "amount"] (defScope s_Never_shows) := ⟨rfl, rfl, rfl, by decide +kernel, rfl, by decide +kernel, by decide +kernel⟩
abbrev s_lower : Stmt := topS 24
theorem sc_lower : FnScope ["coins", "heights", "place", "at", "worth", "there"] ["coins", "heights", "place"] (defScope s_lower) := ⟨rfl, rfl, rfl, by decide +kernel, rfl, by decide +kernel, by decide +kernel⟩
abbrev s_led_back : Stmt := topS 23
theorem sc_led_back : FnScope ["coins", "heights", "place", "give", "back", "at", "there"] ["coins", "heights", "place"] (defScope s_led_back) := ⟨rfl, rfl, rfl, by decide +kernel, rfl, by decide +kernel, by decide +kernel⟩
abbrev s_paid : Stmt := topS 25
theorem sc_paid : FnScope ["coins", "amount", "part", "heights", "give", "back", "full", "at", "height"] ["coins", "amount"] (defScope s_paid) := ⟨rfl, rfl, rfl, by decide +kernel, rfl, by decide +kernel, by decide +kernel⟩
abbrev s_fewest : Stmt := topS 26
theorem sc_fewest : FnScope ["coins", "amount", "great", "more", "left"] ["coins", "amount"] (defScope s_fewest) := ⟨rfl, rfl, rfl, by decide +kernel, rfl, by decide +kernel, by decide +kernel⟩
abbrev s_put : Stmt := topS 28
theorem sc_put : FnScope ["table", "worth", "many", "found", "total", "count", "more", "spot"] ["table", "worth", "many"] (defScope s_put) := ⟨rfl, rfl, rfl, by decide +kernel, rfl, by decide +kernel, by decide +kernel⟩
abbrev s_ways : Stmt := topS 29
theorem sc_ways : FnScope ["coins", "amount", "many", "table", "worth"] ["coins", "amount"] (defScope s_ways) := ⟨rfl, rfl, rfl, by decide +kernel, rfl, by decide +kernel, by decide +kernel⟩
abbrev s__law_cell_at : Stmt := topS 31
theorem sc__law_cell_at : FnScope ["_law_script", "_law_k"] ["_law_script", "_law_k"] (defScope s__law_cell_at) := ⟨rfl, rfl, rfl, by decide +kernel, rfl, by decide +kernel, by decide +kernel⟩
abbrev s__law_draw : Stmt := topS 32
theorem sc__law_draw : FnScope ["_law_cell", "_law_k", "_law_most", "_law_primes"] ["_law_cell", "_law_k", "_law_most"] (defScope s__law_draw) := ⟨rfl, rfl, rfl, by decide +kernel, rfl, by decide +kernel, by decide +kernel⟩
abbrev s__law_number : Stmt := topS 33
theorem sc__law_number : FnScope ["_law_cell", "_law_k", "_law_limit", "_law_small"] ["_law_cell", "_law_k", "_law_limit"] (defScope s__law_number) := ⟨rfl, rfl, rfl, by decide +kernel, rfl, by decide +kernel, by decide +kernel⟩
abbrev s__law_deep : Stmt := topS 34
theorem sc__law_deep : FnScope ["_law_thing", "_law_one"] ["_law_thing"] (defScope s__law_deep) := ⟨rfl, rfl, rfl, by decide +kernel, rfl, by decide +kernel, by decide +kernel⟩
abbrev s__law_spoilt : Stmt := topS 35
theorem sc__law_spoilt : FnScope ["_law_found", "_law_one"] ["_law_found"] (defScope s__law_spoilt) := ⟨rfl, rfl, rfl, by decide +kernel, rfl, by decide +kernel, by decide +kernel⟩
abbrev s__law_put : Stmt := topS 36
theorem sc__law_put : FnScope ["_law_handed", "_law_some", "_law_row", "_law_other"] ["_law_handed", "_law_some"] (defScope s__law_put) := ⟨rfl, rfl, rfl, by decide +kernel, rfl, by decide +kernel, by decide +kernel⟩
abbrev s__law_door_right : Stmt := topS 37
theorem sc__law_door_right : FnScope ["_law_ask", "_law_lists", "_law_others", "_law_handed", "_law_fixed", "_law_told_lists", "_law_text", "_law_due", "_law_some", "_law_again"] ["_law_ask", "_law_lists", "_law_others"] (defScope s__law_door_right) := ⟨rfl, rfl, rfl, by decide +kernel, rfl, by decide +kernel, by decide +kernel⟩
abbrev s__law_two : Stmt := topS 38
theorem sc__law_two : FnScope ["_law_found"] ["_law_found"] (defScope s__law_two) := ⟨rfl, rfl, rfl, by decide +kernel, rfl, by decide +kernel, by decide +kernel⟩
abbrev s__law_doors_right : Stmt := topS 39
theorem sc__law_doors_right : FnScope ["_law_asks", "_law_lists", "_law_others", "_law_ask"] ["_law_asks", "_law_lists", "_law_others"] (defScope s__law_doors_right) := ⟨rfl, rfl, rfl, by decide +kernel, rfl, by decide +kernel, by decide +kernel⟩
abbrev s__law_paid : Stmt := topS 40
theorem sc__law_paid : FnScope ["_law_coins", "_law_amount", "_law_found", "_law_some"] ["_law_coins", "_law_amount"] (defScope s__law_paid) := ⟨rfl, rfl, rfl, by decide +kernel, rfl, by decide +kernel, by decide +kernel⟩
abbrev s_law : Stmt := topS 41
theorem sc_law : FnScope ["_law_script", "_law_by", "_law_amount", "_law_here", "_law_asks"] ["_law_script"] (defScope s_law) := ⟨rfl, rfl, rfl, by decide +kernel, rfl, by decide +kernel, by decide +kernel⟩
theorem ok_is_number (B : Blt mg) (F : FnAt K mg "is_number" s_is_number ["thing"]) : Cal P w K mg base CX0 1 "is_number" ["thing"] (sp_is_number K) :=
  F.ok (t := (t_is_number K)) (k := 0)  sc_is_number (fun vs H Q E h => len_is_number h) (fun vs H Q E h => pure_is_number h) (fun f cdv A outer s H E hr => by
    have nd := sc_is_number.nd
    exact (pss_one (ps_ret (pe_and (pe_callB call_isi (by rfl) B.isinstance (by decide +kernel) (pa_cons (pv 0) (pa_cons (pe_bltn (v := .ty "int") (by rfl) B.int (by decide +kernel) rfl) pa_nil))) (pe_one (pe_not (pe_callB call_isi (by rfl) B.isinstance (by decide +kernel) (pa_cons (pv 0) (pa_cons (pe_bltn (v := .ty "bool") (by rfl) B.bool (by decide +kernel) rfl) pa_nil)))))))))
theorem ok_check_coins (B : Blt mg) (M_MOST_COINS : ∃ t, mg "MOST_COINS" = some (.int 6 t)) (M_GREATEST : ∃ t, mg "GREATEST" = some (.int 30 t)) (C_is_number : Cal P w K mg base CX0 1 "is_number" ["thing"] (sp_is_number K)) (F : FnAt K mg "check_coins" s_check_coins ["coins"]) : Cal P w K mg base CX0 2 "check_coins" ["coins"] (sp_check_coins K) :=
  F.ok (t := (t_check_coins K)) (k := 1)  sc_check_coins (fun vs H Q E h => len_check_coins h) (fun vs H Q E h => pure_check_coins h) (fun f cdv A outer s H E hr => by
    have nd := sc_check_coins.nd
    exact (pss_cons (ps_if (PW.pt (pw_or (pt_not (pt_val (pe_callB call_isi (by rfl) B.isinstance (by decide +kernel) (pa_cons (pv 0) (pa_cons (pe_bltn (v := .ty "list") (by rfl) B.list (by decide +kernel) rfl) pa_nil))))) (pw_or1 (pt_not (pt_chain op_le op_le pe_int (pe_callB call_len_seq (by rfl) B.len (by decide +kernel) (pa_cons (pv 0) pa_nil)) (pe_glob (by rfl) M_MOST_COINS.choose_spec ⟨_, rfl⟩)))))) (pss_one ps_never) pss_nil)
      (pss_cons (ps_if (pt_not (pt_val (pe_callB (cr_all rfl) (by rfl) B.all (by decide +kernel) (pa_cons (pe_lc (own := [("worth", 1)]) (g := (gName 1)) (tt := tYes) (by rfl) nd (pi_list (pv 0)) (blkOk_by (N := ["coins", "worth", "one", "other"]) (sc := (defScope s_check_coins)) (by decide +kernel)) (fun _ _ _ _ _ => (pg_name (i := 1) nd rfl (Or.inl rfl))) (fun _ _ _ _ _ => pts_nil) (fun _ _ _ _ _ => (pe_and (pc_call C_is_number (hr.mono (by decide)) (pa_cons (pv 1) pa_nil)) (pe_one (pe_chain op_le op_le pe_int (pv 1) (pe_glob (by rfl) M_GREATEST.choose_spec ⟨_, rfl⟩)))))) pa_nil)))) (pss_one ps_never) pss_nil)
      (pss_one (ps_if (pt_val (pe_callB (cr_any rfl) (by rfl) B.any (by decide +kernel) (pa_cons (pe_lc (own := [("one", 2), ("other", 3)]) (g := (gTup K 2 (gCons (gName 2) (gCons (gName 3) gNil)))) (tt := tYes) (by rfl) nd (pi_zip (by rfl) B.zip (pa_cons (pv 0) (pa_cons (pe_slice sl_list (pv 0) (po_some pe_int) po_none) pa_nil))) (blkOk_by (N := ["coins", "worth", "one", "other"]) (sc := (defScope s_check_coins)) (by decide +kernel)) (fun _ _ _ _ _ => (pg_tup rfl (pgs_cons (pg_name (i := 2) nd rfl (Or.inl rfl)) (pgs_cons (pg_name (i := 3) nd rfl (Or.inl rfl)) pgs_nil)))) (fun _ _ _ _ _ => pts_nil) (fun _ _ _ _ _ => (pe_cmpR op_ge (pv 2) (pv 3) (nomark _)))) pa_nil))) (pss_one ps_never) pss_nil)))))
theorem ok_check_amount (B : Blt mg) (C_is_number : Cal P w K mg base CX0 1 "is_number" ["thing"] (sp_is_number K)) (F : FnAt K mg "check_amount" s_check_amount ["amount", "most"]) : Cal P w K mg base CX0 2 "check_amount" ["amount", "most"] (sp_check_amount K) :=
  F.ok (t := (t_check_amount K)) (k := 1)  sc_check_amount (fun vs H Q E h => len_check_amount h) (fun vs H Q E h => pure_check_amount h) (fun f cdv A outer s H E hr => by
    have nd := sc_check_amount.nd
    exact (pss_one (ps_if (PW.pt (pw_or (pt_not (pt_val (pc_call C_is_number (hr.mono (by decide)) (pa_cons (pv 0) pa_nil)))) (pw_or (pt_cmpR op_lt (pv 0) pe_int (nomark _)) (pw_or1 (pt_chain op_le op_lt pe_int (pv 1) (pv 0)))))) (pss_one ps_never) pss_nil)))
theorem ok_common (B : Blt mg) (F : FnAt K mg "common" s_common ["numbers"]) : Cal P w K mg base CX0 1 "common" ["numbers"] (sp_common K) :=
  F.ok (t := (t_common K)) (k := 0)  sc_common (fun vs H Q E h => len_common h) (fun vs H Q E h => pure_common h) (fun f cdv A outer s H E hr => by
    have nd := sc_common.nd
    exact (pss_cons (ps_set (i := 1) nd rfl (Or.inl rfl) pe_int)
      (pss_cons (ps_for PassesOwn.never rfl (pi_list (pv 0)) (pg_name (i := 2) nd rfl (Or.inl rfl)) (pss_one (ps_while PassesOwn.never (pt_cmpR op_gt (pv 2) pe_int (nomark _)) (pss_one (ps_par (by rfl) nd rfl rfl (by decide) rfl rfl (pa_cons (pv 2) (pa_cons (pe_op op_mod (pv 1) (pv 2)) pa_nil)) (by rfl))))))
      (pss_one (ps_ret (pv 1))))))
theorem ok_strip (B : Blt mg) (F : FnAt K mg "strip" s_strip ["coins", "amount"]) : Cal P w K mg base CX0 1 "strip" ["coins", "amount"] (sp_strip K) :=
  F.ok (t := (t_strip K)) (k := 0)  sc_strip (fun vs H Q E h => len_strip h) (fun vs H Q E h => pure_strip h) (fun f cdv A outer s H E hr => by
    have nd := sc_strip.nd
    exact (pss_one (ps_ret (pe_listRg rfl (by rfl) B.list (prg_2 (by rfl) B.range (pe_un un_neg (pe_ix ix_list (pv 0) (pe_un un_neg pe_int) (fun _ _ => rfl))) (pe_op op_add (pv 1) (pe_ix ix_list (pv 0) (pe_un un_neg pe_int) (fun _ _ => rfl))))))))
theorem ok_heights_of (B : Blt mg) (C_strip : Cal P w K mg base CX0 1 "strip" ["coins", "amount"] (sp_strip K)) (F : FnAt K mg "heights_of" s_heights_of ["coins", "amount"]) : Cal P w K mg base CX0 2 "heights_of" ["coins", "amount"] (sp_heights_of K) :=
  F.ok (t := (t_heights_of K)) (k := 1)  sc_heights_of (fun vs H Q E h => len_heights_of h) (fun vs H Q E h => pure_heights_of h) (fun f cdv A outer s H E hr => by
    have nd := sc_heights_of.nd
    exact (pss_cons (ps_set (i := 2) nd rfl (Or.inl rfl) (pc_call C_strip (hr.mono (by decide)) (pa_cons (pv 0) (pa_cons (pv 1) pa_nil))))
      (pss_cons (ps_set (i := 3) nd rfl (Or.inl rfl) (pe_op op_rep (pe_lst (pa_cons (pe_un un_neg pe_int) pa_nil)) (pe_callB call_len_seq (by rfl) B.len (by decide +kernel) (pa_cons (pv 2) pa_nil))))
      (pss_cons (ps_asg pe_int (pg_sub (pv 3) (pe_ix ix_list (pv 0) (pe_un un_neg pe_int) (fun _ _ => rfl)) set_list))
      (pss_cons (ps_set (i := 4) nd rfl (Or.inl rfl) (pe_lst (pa_cons (pe_ix ix_list (pv 0) (pe_un un_neg pe_int) (fun _ _ => rfl)) pa_nil)))
      (pss_cons (ps_while PassesOwn.never (pt_cmpR (op_neD hr.units) (pv 4) (pe_lst pa_nil) (nomark _)) (pss_cons (ps_set (i := 5) nd rfl (Or.inl rfl) (pe_bm PySem.F.plainAttrs_list PySem.F.slot_list_pop PySem.F.type_list_pop mt_popAt (pv 4) (pa_cons pe_int pa_nil)))
      (pss_one (ps_for PassesOwn.never rfl (pi_list (pv 0)) (pg_name (i := 6) nd rfl (Or.inl rfl)) (pss_one (ps_for PassesOwn.never rfl (pi_tup (pe_tup (pa_cons (pe_op op_sub (pv 5) (pv 6)) (pa_cons (pe_op op_add (pv 5) (pv 6)) pa_nil)))) (pg_name (i := 7) nd rfl (Or.inl rfl)) (pss_one (ps_if (PW.pt (pw_and (pt_chain op_le op_lt pe_int (pv 7) (pe_callB call_len_seq (by rfl) B.len (by decide +kernel) (pa_cons (pv 2) pa_nil))) (pw_and1 (pt_cmpR op_lt (pe_ix ix_list (pv 3) (pv 7) (fun _ _ => rfl)) pe_int (nomark _))))) (pss_cons (ps_asg (pe_op op_add (pe_ix ix_list (pv 3) (pv 5) (fun _ _ => rfl)) pe_int) (pg_sub (pv 3) (pv 7) set_list))
      (pss_one (ps_expr (pe_bm PySem.F.plainAttrs_list PySem.F.slot_list_append PySem.F.type_list_append mt_append (pv 4) (pa_cons (pv 7) pa_nil))))) pss_nil))))))))
      (pss_one (ps_ret (pv 3)))))))))
theorem ok_are_counts (B : Blt mg) (C_is_number : Cal P w K mg base CX0 1 "is_number" ["thing"] (sp_is_number K)) (F : FnAt K mg "are_counts" s_are_counts ["some", "coins"]) : Cal P w K mg base CX0 2 "are_counts" ["some", "coins"] (sp_are_counts K) :=
  F.ok (t := (t_are_counts K)) (k := 1)  sc_are_counts (fun vs H Q E h => len_are_counts h) (fun vs H Q E h => pure_are_counts h) (fun f cdv A outer s H E hr => by
    have nd := sc_are_counts.nd
    exact (pss_one (ps_ret (pe_and (pe_cmpR op_eq (pe_callB call_len_seq (by rfl) B.len (by decide +kernel) (pa_cons (pv 0) pa_nil)) (pe_callB call_len_seq (by rfl) B.len (by decide +kernel) (pa_cons (pv 1) pa_nil)) (nomark _)) (pe_one (pe_callB (cr_all rfl) (by rfl) B.all (by decide +kernel) (pa_cons (pe_lc (own := [("one", 2)]) (g := (gName 2)) (tt := tYes) (by rfl) nd (pi_list (pv 0)) (blkOk_by (N := ["some", "coins", "one"]) (sc := (defScope s_are_counts)) (by decide +kernel)) (fun _ _ _ _ _ => (pg_name (i := 2) nd rfl (Or.inl rfl))) (fun _ _ _ _ _ => pts_nil) (fun _ _ _ _ _ => (pe_and (pc_call C_is_number (hr.mono (by decide)) (pa_cons (pv 2) pa_nil)) (pe_one (pe_cmpR op_ge (pv 2) pe_int (nomark _)))))) pa_nil)))))))
theorem ok_worth_of (B : Blt mg) (F : FnAt K mg "worth_of" s_worth_of ["counts", "coins"]) : Cal P w K mg base CX0 1 "worth_of" ["counts", "coins"] (sp_worth_of K) :=
  F.ok (t := (t_worth_of K)) (k := 0)  sc_worth_of (fun vs H Q E h => len_worth_of h) (fun vs H Q E h => pure_worth_of h) (fun f cdv A outer s H E hr => by
    have nd := sc_worth_of.nd
    exact (pss_one (ps_ret (pe_callB (cr_sum rfl) (by rfl) B.sum (by decide +kernel) (pa_cons (pe_lc (own := [("count", 2), ("worth", 3)]) (g := (gTup K 2 (gCons (gName 2) (gCons (gName 3) gNil)))) (tt := tYes) (by rfl) nd (pi_zip (by rfl) B.zip (pa_cons (pv 0) (pa_cons (pv 1) pa_nil))) (blkOk_by (N := ["counts", "coins", "count", "worth"]) (sc := (defScope s_worth_of)) (by decide +kernel)) (fun _ _ _ _ _ => (pg_tup rfl (pgs_cons (pg_name (i := 2) nd rfl (Or.inl rfl)) (pgs_cons (pg_name (i := 3) nd rfl (Or.inl rfl)) pgs_nil)))) (fun _ _ _ _ _ => pts_nil) (fun _ _ _ _ _ => (pe_op op_mulK (pv 2) (pv 3)))) pa_nil)))))
theorem ok_is_floor (B : Blt mg) (C_strip : Cal P w K mg base CX0 1 "strip" ["coins", "amount"] (sp_strip K)) (F : FnAt K mg "is_floor" s_is_floor ["coins", "amount", "heights"]) : Cal P w K mg base CX0 2 "is_floor" ["coins", "amount", "heights"] (sp_is_floor K) :=
  F.ok (t := (t_is_floor K)) (k := 1)  sc_is_floor (fun vs H Q E h => len_is_floor h) (fun vs H Q E h => pure_is_floor h) (fun f cdv A outer s H E hr => by
    have nd := sc_is_floor.nd
    exact (pss_cons (ps_if (PW.pt (pw_or (pt_cmpR op_ne (pe_callB call_len_seq (by rfl) B.len (by decide +kernel) (pa_cons (pv 2) pa_nil)) (pe_callB call_len_seq (by rfl) B.len (by decide +kernel) (pa_cons (pc_call C_strip (hr.mono (by decide)) (pa_cons (pv 0) (pa_cons (pv 1) pa_nil))) pa_nil)) (nomark _)) (pw_or1 (pt_cmpR op_ne (pe_ix ix_list (pv 2) (pe_ix ix_list (pv 0) (pe_un un_neg pe_int) (fun _ _ => rfl)) (fun _ _ => rfl)) pe_int (nomark _))))) (pss_one (ps_ret pe_bl)) pss_nil)
      (pss_cons (ps_for PassesOwn.never rfl (pi_list (pv 0)) (pg_name (i := 3) nd rfl (Or.inl rfl)) (pss_one (ps_if (pt_val (pe_callB (cr_any rfl) (by rfl) B.any (by decide +kernel) (pa_cons (pe_lc (own := [("one", 4), ("other", 5)]) (g := (gTup K 2 (gCons (gName 4) (gCons (gName 5) gNil)))) (tt := tYes) (by rfl) nd (pi_zip (by rfl) B.zip (pa_cons (pv 2) (pa_cons (pe_slice sl_list (pv 2) (po_some (pv 3)) po_none) pa_nil))) (blkOk_by (N := ["coins", "amount", "heights", "worth", "one", "other"]) (sc := (defScope s_is_floor)) (by decide +kernel)) (fun _ _ _ _ _ => (pg_tup rfl (pgs_cons (pg_name (i := 4) nd rfl (Or.inl rfl)) (pgs_cons (pg_name (i := 5) nd rfl (Or.inl rfl)) pgs_nil)))) (fun _ _ _ _ _ => pts_nil) (fun _ _ _ _ _ => (pe_cmpR op_gt (pe_callB call_abs (by rfl) B.abs (by decide +kernel) (pa_cons (pe_op op_sub (pv 4) (pv 5)) pa_nil)) pe_int (nomark _)))) pa_nil))) (pss_one (ps_ret pe_bl)) pss_nil)))
      (pss_one (ps_ret pe_bl)))))
theorem ok_Paid_init {f0 : Addr} {fd0 : FuncData} (B : Blt mg) (T : Kls K mg CA CP CN) (F : Fun K "__init__" "Paid.__init__" s_Paid_init f0 fd0) (M : Mk K CP f0) (b : Binds K fd0 ["self", "give", "back", "heights"] []) : CalI P w K mg base 1 CP ["self", "give", "back", "heights"] (sp_Paid_init K CP) :=
  ⟨f0, fd0, fun_ok (t := (t_Paid_init K)) (k := 0) F sc_Paid_init (fun vs H Q E h => len_Paid_init h) (fun vs H Q E h => pure_Paid_init T h) (fun f cdv A outer s H E hr => by
    have nd := sc_Paid_init.nd
    exact (pss_cons (ps_fld (pv 0) (pe_callTy call_list_of (by rfl) B.list (by decide +kernel) (pa_cons (pv 1) pa_nil)) rfl)
      (pss_cons (ps_fld (pv 0) (pe_callTy call_list_of (by rfl) B.list (by decide +kernel) (pa_cons (pv 2) pa_nil)) rfl)
      (pss_one (ps_fld (pv 0) (pe_callTy call_list_of (by rfl) B.list (by decide +kernel) (pa_cons (pv 3) pa_nil)) rfl))))), M, b⟩
theorem ok_Paid_shows {f0 : Addr} {fd0 : FuncData} (B : Blt mg) (T : Kls K mg CA CP CN) (C_are_counts : Cal P w K mg base CX0 2 "are_counts" ["some", "coins"] (sp_are_counts K)) (C_worth_of : Cal P w K mg base CX0 1 "worth_of" ["counts", "coins"] (sp_worth_of K)) (C_is_floor : Cal P w K mg base CX0 2 "is_floor" ["coins", "amount", "heights"] (sp_is_floor K)) (F : Fun K "shows" "Paid.shows" s_Paid_shows f0 fd0) (M : Meth K CP "shows" f0) (b : Binds K fd0 ["self", "coins", "amount"] []) : CalM P w K mg base 3 CP "shows" ["self", "coins", "amount"] (sp_Paid_shows K CP) :=
  ⟨f0, fd0, fun_ok (t := (t_Paid_shows K)) (k := 2) F sc_Paid_shows (fun vs H Q E h => len_Paid_shows h) (fun vs H Q E h => pure_Paid_shows T h) (fun f cdv A outer s H E hr => by
    have nd := sc_Paid_shows.nd
    exact (pss_cons (ps_if (PW.pt (pw_or (pt_not (pt_val (pc_call C_are_counts (hr.mono (by decide)) (pa_cons (pe_fld (pv 0) rfl) (pa_cons (pv 1) pa_nil))))) (pw_or1 (pt_not (pt_val (pc_call C_are_counts (hr.mono (by decide)) (pa_cons (pe_fld (pv 0) rfl) (pa_cons (pv 1) pa_nil)))))))) (pss_one (ps_ret pe_bl)) pss_nil)
      (pss_cons (ps_if (pt_cmpR op_ne (pe_op op_sub (pc_call C_worth_of (hr.mono (by decide)) (pa_cons (pe_fld (pv 0) rfl) (pa_cons (pv 1) pa_nil))) (pc_call C_worth_of (hr.mono (by decide)) (pa_cons (pe_fld (pv 0) rfl) (pa_cons (pv 1) pa_nil)))) (pv 2) (nomark _)) (pss_one (ps_ret pe_bl)) pss_nil)
      (pss_cons (ps_if (pt_not (pt_val (pc_call C_is_floor (hr.mono (by decide)) (pa_cons (pv 1) (pa_cons (pv 2) (pa_cons (pe_fld (pv 0) rfl) pa_nil)))))) (pss_one (ps_ret pe_bl)) pss_nil)
      (pss_one (ps_ret (pe_cmpR op_eq (pe_ix ix_list (pe_fld (pv 0) rfl) (pe_op op_add (pe_ix ix_list (pv 1) (pe_un un_neg pe_int) (fun _ _ => rfl)) (pv 2)) (fun _ _ => rfl)) (pe_op op_add (pe_callB (cr_sum rfl) (by rfl) B.sum (by decide +kernel) (pa_cons (pe_fld (pv 0) rfl) pa_nil)) (pe_callB (cr_sum rfl) (by rfl) B.sum (by decide +kernel) (pa_cons (pe_fld (pv 0) rfl) pa_nil))) (nomark _)))))))), M, b⟩
theorem ok_Never_init {f0 : Addr} {fd0 : FuncData} (B : Blt mg) (T : Kls K mg CA CP CN) (F : Fun K "__init__" "Never.__init__" s_Never_init f0 fd0) (M : Mk K CN f0) (b : Binds K fd0 ["self", "part"] []) : CalI P w K mg base 1 CN ["self", "part"] (sp_Never_init K CN) :=
  ⟨f0, fd0, fun_ok (t := (t_Never_init K)) (k := 0) F sc_Never_init (fun vs H Q E h => len_Never_init h) (fun vs H Q E h => pure_Never_init T h) (fun f cdv A outer s H E hr => by
    have nd := sc_Never_init.nd
    exact (pss_one (ps_fld (pv 0) (pv 1) rfl))), M, b⟩
theorem ok_Never_shows {f0 : Addr} {fd0 : FuncData} (B : Blt mg) (T : Kls K mg CA CP CN) (F : Fun K "shows" "Never.shows" s_Never_shows f0 fd0) (M : Meth K CN "shows" f0) (b : Binds K fd0 ["self", "coins", "amount"] []) : CalM P w K mg base 1 CN "shows" ["self", "coins", "amount"] (sp_Never_shows K CN) :=
  ⟨f0, fd0, fun_ok (t := (t_Never_shows K)) (k := 0) F sc_Never_shows (fun vs H Q E h => len_Never_shows h) (fun vs H Q E h => pure_Never_shows T h) (fun f cdv A outer s H E hr => by
    have nd := sc_Never_shows.nd
    exact (pss_cons (ps_if (PW.pt (pw_or (pt_cmpR op_lt (pe_fld (pv 0) rfl) pe_int (nomark _)) (pw_or1 (pt_cmpR op_eq (pe_op op_mod (pv 2) (pe_fld (pv 0) rfl)) pe_int (nomark _))))) (pss_one (ps_ret pe_bl)) pss_nil)
      (pss_one (ps_ret (pe_callB (cr_all rfl) (by rfl) B.all (by decide +kernel) (pa_cons (pe_lc (own := [("worth", 3)]) (g := (gName 3)) (tt := tYes) (by rfl) nd (pi_list (pv 1)) (blkOk_by (N := ["self", "coins", "amount", "worth"]) (sc := (defScope s_Never_shows)) (by decide +kernel)) (fun _ _ _ _ _ => (pg_name (i := 3) nd rfl (Or.inl rfl))) (fun _ _ _ _ _ => pts_nil) (fun _ _ _ _ _ => (pe_cmpR op_eq (pe_op op_mod (pv 3) (pe_fld (pv 0) rfl)) pe_int (nomark _)))) pa_nil)))))), M, b⟩
theorem ok_lower (B : Blt mg) (F : FnAt K mg "lower" s_lower ["coins", "heights", "place"]) : Cal P w K mg base CX0 1 "lower" ["coins", "heights", "place"] (sp_lower K) :=
  F.ok (t := (t_lower K)) (k := 0)  sc_lower (fun vs H Q E h => len_lower h) (fun vs H Q E h => pure_lower h) (fun f cdv A outer s H E hr => by
    have nd := sc_lower.nd
    exact (pss_cons (ps_for PassesOwn.never rfl (pi_enum (by rfl) B.enumerate (pa_cons (pv 0) pa_nil)) (pg_tup rfl (pgs_cons (pg_name (i := 3) nd rfl (Or.inl rfl)) (pgs_cons (pg_name (i := 4) nd rfl (Or.inl rfl)) pgs_nil))) (pss_one (ps_for PassesOwn.never rfl (pi_tup (pe_tup (pa_cons (pe_op op_sub (pv 2) (pv 4)) (pa_cons (pe_op op_add (pv 2) (pv 4)) pa_nil)))) (pg_name (i := 5) nd rfl (Or.inl rfl)) (pss_one (ps_if (PW.pt (pw_and (pt_chain op_le op_lt pe_int (pv 5) (pe_callB call_len_seq (by rfl) B.len (by decide +kernel) (pa_cons (pv 1) pa_nil))) (pw_and1 (pt_cmpR op_eq (pe_ix ix_list (pv 1) (pv 5) (fun _ _ => rfl)) (pe_op op_sub (pe_ix ix_list (pv 1) (pv 2) (fun _ _ => rfl)) pe_int) (nomark _))))) (pss_one (ps_ret (pe_tup (pa_cons (pv 3) (pa_cons (pv 5) pa_nil))))) pss_nil)))))
      (pss_one (ps_ret (pe_tup (pa_cons (pe_un un_neg pe_int) (pa_cons (pe_un un_neg pe_int) pa_nil)))))))
theorem ok_led_back (B : Blt mg) (C_lower : Cal P w K mg base CX0 1 "lower" ["coins", "heights", "place"] (sp_lower K)) (F : FnAt K mg "led_back" s_led_back ["coins", "heights", "place"]) : Cal P w K mg base CX0 2 "led_back" ["coins", "heights", "place"] (sp_led_back K) :=
  F.ok (t := (t_led_back K)) (k := 1)  sc_led_back (fun vs H Q E h => len_led_back h) (fun vs H Q E h => pure_led_back h) (fun f cdv A outer s H E hr => by
    have nd := sc_led_back.nd
    exact (pss_cons (ps_par (by rfl) nd rfl rfl (by decide) rfl rfl (pa_cons (pe_op op_rep (pe_lst (pa_cons pe_int pa_nil)) (pe_callB call_len_seq (by rfl) B.len (by decide +kernel) (pa_cons (pv 0) pa_nil))) (pa_cons (pe_op op_rep (pe_lst (pa_cons pe_int pa_nil)) (pe_callB call_len_seq (by rfl) B.len (by decide +kernel) (pa_cons (pv 0) pa_nil))) pa_nil)) (by rfl))
      (pss_cons (ps_while PassesOwn.never (pt_cmpR op_gt (pe_ix ix_list (pv 1) (pv 2) (fun _ _ => rfl)) pe_int (nomark _)) (pss_cons (ps_asg (pc_call C_lower (hr.mono (by decide)) (pa_cons (pv 0) (pa_cons (pv 1) (pa_cons (pv 2) pa_nil)))) (pg_tup rfl (pgs_cons (pg_name (i := 5) nd rfl (Or.inl rfl)) (pgs_cons (pg_name (i := 6) nd rfl (Or.inl rfl)) pgs_nil))))
      (pss_cons (ps_if (pt_cmpR op_lt (pv 6) (pv 2) (nomark _)) (pss_one (ps_augS (pv 3) (pv 5) get_list pe_int ip_add set_list)) (pss_one (ps_augS (pv 4) (pv 5) get_list pe_int ip_add set_list)))
      (pss_one (ps_set (i := 2) nd rfl (Or.inl rfl) (pv 6))))))
      (pss_one (ps_ret (pe_tup (pa_cons (pv 3) (pa_cons (pv 4) pa_nil))))))))
theorem ok_paid (B : Blt mg) (T : Kls K mg CA CP CN) (M_MOST : ∃ t, mg "MOST" = some (.int 200 t)) (C_check_coins : Cal P w K mg base CX0 2 "check_coins" ["coins"] (sp_check_coins K)) (C_check_amount : Cal P w K mg base CX0 2 "check_amount" ["amount", "most"] (sp_check_amount K)) (C_common : Cal P w K mg base CX0 1 "common" ["numbers"] (sp_common K)) (C_Never_init : CalI P w K mg base 1 CN ["self", "part"] (sp_Never_init K CN)) (C_heights_of : Cal P w K mg base CX0 2 "heights_of" ["coins", "amount"] (sp_heights_of K)) (C_led_back : Cal P w K mg base CX0 2 "led_back" ["coins", "heights", "place"] (sp_led_back K)) (C_Paid_init : CalI P w K mg base 1 CP ["self", "give", "back", "heights"] (sp_Paid_init K CP)) (F : FnAt K mg "paid" s_paid ["coins", "amount"]) : Cal P w K mg base CX0 3 "paid" ["coins", "amount"] (sp_paid K CP CN) :=
  F.ok (t := (t_paid K CP CN)) (k := 2)  sc_paid (fun vs H Q E h => len_paid h) (fun vs H Q E h => pure_paid h) (fun f cdv A outer s H E hr => by
    have nd := sc_paid.nd
    exact (pss_cons (ps_expr (pc_call C_check_coins (hr.mono (by decide)) (pa_cons (pv 0) pa_nil)))
      (pss_cons (ps_expr (pc_call C_check_amount (hr.mono (by decide)) (pa_cons (pv 1) (pa_cons (pe_glob (by rfl) M_MOST.choose_spec ⟨_, rfl⟩) pa_nil))))
      (pss_cons (ps_set (i := 2) nd rfl (Or.inr rfl) (pc_call C_common (hr.mono (by decide)) (pa_cons (pv 0) pa_nil)))
      (pss_cons (ps_if (pt_cmpR op_gt (pe_op op_mod (pv 1) (pv 2)) pe_int (nomark _)) (pss_one (ps_ret (pc_make C_Never_init (hr.mono (by decide)) T.gN (pa_cons (pv 2) pa_nil)))) pss_nil)
      (pss_cons (ps_set (i := 3) nd rfl (Or.inr rfl) (pc_call C_heights_of (hr.mono (by decide)) (pa_cons (pv 0) (pa_cons (pv 1) pa_nil))))
      (pss_cons (ps_asg (pc_call C_led_back (hr.mono (by decide)) (pa_cons (pv 0) (pa_cons (pv 3) (pa_cons (pe_op op_add (pe_ix ix_list (pv 0) (pe_un un_neg pe_int) (fun _ _ => rfl)) (pv 1)) pa_nil)))) (pg_tup rfl (pgs_cons (pg_name (i := 4) nd rfl (Or.inl rfl)) (pgs_cons (pg_name (i := 5) nd rfl (Or.inl rfl)) pgs_nil))))
      (pss_cons (ps_setLc (i := 6) (own := [("at", 7), ("height", 8)]) (g := (gTup K 2 (gCons (gName 7) (gCons (gName 8) gNil)))) (tt := tYes) (by rfl) nd rfl rfl (sw_true rfl rfl rfl (by decide +kernel)) (pi_enum (by rfl) B.enumerate (pa_cons (pv 3) pa_nil)) (blkOk_by (N := ["coins", "amount", "part", "heights", "give", "back", "full", "at", "height"]) (sc := (defScope s_paid)) (by decide +kernel)) (fun _ _ _ _ _ => (pg_tup rfl (pgs_cons (pg_name (i := 7) nd rfl (Or.inl rfl)) (pgs_cons (pg_name (i := 8) nd rfl (Or.inl rfl)) pgs_nil)))) (fun _ _ _ _ _ => pts_nil) (fun _ _ _ _ _ => (pe_ifExp (pt_cmpR op_lt (pv 8) pe_int (nomark _)) (pe_ix ix_list (pv 3) (pe_op op_sub (pv 7) (pe_op op_mod (pe_op op_sub (pv 7) (pe_ix ix_list (pv 0) (pe_un un_neg pe_int) (fun _ _ => rfl))) (pv 2))) (fun _ _ => rfl)) (pv 8))))
      (pss_one (ps_ret (pc_make C_Paid_init (hr.mono (by decide)) T.gP (pa_cons (pv 4) (pa_cons (pv 5) (pa_cons (pv 6) pa_nil))))))))))))))
theorem ok_fewest (B : Blt mg) (C_check_coins : Cal P w K mg base CX0 2 "check_coins" ["coins"] (sp_check_coins K)) (C_check_amount : Cal P w K mg base CX0 2 "check_amount" ["amount", "most"] (sp_check_amount K)) (C_common : Cal P w K mg base CX0 1 "common" ["numbers"] (sp_common K)) (C_heights_of : Cal P w K mg base CX0 2 "heights_of" ["coins", "amount"] (sp_heights_of K)) (F : FnAt K mg "fewest" s_fewest ["coins", "amount"]) : Cal P w K mg base CX0 3 "fewest" ["coins", "amount"] (sp_fewest K) :=
  F.ok (t := (t_fewest K)) (k := 2)  sc_fewest (fun vs H Q E h => len_fewest h) (fun vs H Q E h => pure_fewest h) (fun f cdv A outer s H E hr => by
    have nd := sc_fewest.nd
    exact (pss_cons (ps_expr (pc_call C_check_coins (hr.mono (by decide)) (pa_cons (pv 0) pa_nil)))
      (pss_cons (ps_expr (pc_call C_check_amount (hr.mono (by decide)) (pa_cons (pv 1) (pa_cons (pe_un un_neg pe_int) pa_nil))))
      (pss_cons (ps_if (pt_cmpR op_gt (pe_op op_mod (pv 1) (pc_call C_common (hr.mono (by decide)) (pa_cons (pv 0) pa_nil))) pe_int (nomark _)) (pss_one ps_never) pss_nil)
      (pss_cons (ps_set (i := 2) nd rfl (Or.inl rfl) (pe_ix ix_list (pv 0) (pe_un un_neg pe_int) (fun _ _ => rfl)))
      (pss_cons (ps_set (i := 3) nd rfl (Or.inl rfl) (pe_callB (call_max2 rfl) (by rfl) B.max (by decide +kernel) (pa_cons pe_int (pa_cons (pe_op op_fdiv (pe_op op_sub (pv 1) (pe_op op_mulK (pv 2) (pv 2))) (pv 2)) pa_nil))))
      (pss_cons (ps_set (i := 4) nd rfl (Or.inl rfl) (pe_op op_sub (pv 1) (pe_op op_mulK (pv 3) (pv 2))))
      (pss_one (ps_ret (pe_op op_add (pv 3) (pe_ix ix_list (pc_call C_heights_of (hr.mono (by decide)) (pa_cons (pv 0) (pa_cons (pv 4) pa_nil))) (pe_op op_add (pv 2) (pv 4)) (fun _ _ => rfl))))))))))))
theorem ok_put (B : Blt mg) (F : FnAt K mg "put" s_put ["table", "worth", "many"]) : Cal P w K mg base CX0 1 "put" ["table", "worth", "many"] (sp_put K) :=
  F.ok (t := (t_put K)) (k := 0)  sc_put (fun vs H Q E h => len_put h) (fun vs H Q E h => pure_put h) (fun f cdv A outer s H E hr => by
    have nd := sc_put.nd
    exact (pss_cons (ps_set (i := 3) nd rfl (Or.inl rfl) pe_dnewT)
      (pss_cons (ps_lock (ps_for PassesOwn.never rfl (pi_keys (pv 0)) (pg_tup rfl (pgs_cons (pg_name (i := 4) nd rfl (Or.inl rfl)) (pgs_cons (pg_name (i := 5) nd rfl (Or.inl rfl)) pgs_nil))) (pss_one (ps_for PassesOwn.never rfl (pi_range2 (by rfl) B.range (pa_cons (pe_op op_sub (pv 5) (pv 2)) (pa_cons (pe_op op_add (pe_op op_sub (pv 2) (pv 5)) pe_int) pa_nil))) (pg_name (i := 6) nd rfl (Or.inl rfl)) (pss_cons (ps_set (i := 7) nd rfl (Or.inl rfl) (pe_tup (pa_cons (pe_op op_add (pv 4) (pe_op op_mulK (pv 6) (pv 1))) (pa_cons (pe_op op_add (pv 5) (pe_callB call_abs (by rfl) B.abs (by decide +kernel) (pa_cons (pv 6) pa_nil))) pa_nil))))
      (pss_one (ps_dput (hu_of hr) (pv 3) (pv 7) (pe_op op_add (pe_dget2 (hu_of hr) (pv 3) (pv 7) pe_int ⟨by rfl, by rfl, by rfl, by rfl⟩) (pe_dget (hu_of hr) (pv 0) (pe_tup (pa_cons (pv 4) (pa_cons (pv 5) pa_nil))) (fun _ _ => rfl))) (by rfl))))))))
      (pss_one (ps_ret (pv 3))))))
theorem ok_ways (B : Blt mg) (M_MOST : ∃ t, mg "MOST" = some (.int 200 t)) (C_check_coins : Cal P w K mg base CX0 2 "check_coins" ["coins"] (sp_check_coins K)) (C_check_amount : Cal P w K mg base CX0 2 "check_amount" ["amount", "most"] (sp_check_amount K)) (C_common : Cal P w K mg base CX0 1 "common" ["numbers"] (sp_common K)) (C_heights_of : Cal P w K mg base CX0 2 "heights_of" ["coins", "amount"] (sp_heights_of K)) (C_put : Cal P w K mg base CX0 1 "put" ["table", "worth", "many"] (sp_put K)) (F : FnAt K mg "ways" s_ways ["coins", "amount"]) : Cal P w K mg base CX0 3 "ways" ["coins", "amount"] (sp_ways_N K) :=
  F.ok (t := (t_ways_N K)) (k := 2)  sc_ways (fun vs H Q E h => len_ways_N h) (fun vs H Q E h => pure_ways_N h) (fun f cdv A outer s H E hr => by
    have nd := sc_ways.nd
    exact (pss_cons (ps_expr (pc_call C_check_coins (hr.mono (by decide)) (pa_cons (pv 0) pa_nil)))
      (pss_cons (ps_expr (pc_call C_check_amount (hr.mono (by decide)) (pa_cons (pv 1) (pa_cons (pe_glob (by rfl) M_MOST.choose_spec ⟨_, rfl⟩) pa_nil))))
      (pss_cons (ps_if (pt_cmpR op_gt (pe_op op_mod (pv 1) (pc_call C_common (hr.mono (by decide)) (pa_cons (pv 0) pa_nil))) pe_int (nomark _)) (pss_one ps_never) pss_nil)
      (pss_cons (ps_set (i := 2) nd rfl (Or.inl rfl) (pe_ix ix_list (pc_call C_heights_of (hr.mono (by decide)) (pa_cons (pv 0) (pa_cons (pv 1) pa_nil))) (pe_op op_add (pe_ix ix_list (pv 0) (pe_un un_neg pe_int) (fun _ _ => rfl)) (pv 1)) (fun _ _ => rfl)))
      (pss_cons (ps_set (i := 3) nd rfl (Or.inl rfl) pe_dnewT)
      (pss_cons (ps_dput (hu_of hr) (pv 3) (pe_tup (pa_cons pe_int (pa_cons pe_int pa_nil))) pe_int (by rfl))
      (pss_cons (ps_for PassesOwn.never rfl (pi_list (pv 0)) (pg_name (i := 4) nd rfl (Or.inl rfl)) (pss_one (ps_set (i := 3) nd rfl (Or.inl rfl) (pc_call C_put (hr.mono (by decide)) (pa_cons (pv 3) (pa_cons (pv 4) (pa_cons (pv 2) pa_nil)))))))
      (pss_one (ps_ret (pe_dget2 (hu_of hr) (pv 3) (pe_tup (pa_cons (pv 1) (pa_cons (pv 2) pa_nil))) pe_int ⟨by rfl, by rfl, by rfl, by rfl⟩)))))))))))
theorem ok__law_cell_at (B : Blt mg) (F : FnAt K mg "_law_cell_at" s__law_cell_at ["_law_script", "_law_k"]) : Cal P w K mg base CX0 1 "_law_cell_at" ["_law_script", "_law_k"] (sp__law_cell_at K) :=
  F.ok (t := (t__law_cell_at K)) (k := 0)  sc__law_cell_at (fun vs H Q E h => len__law_cell_at h) (fun vs H Q E h => pure__law_cell_at h) (fun f cdv A outer s H E hr => by
    have nd := sc__law_cell_at.nd
    exact (pss_cons (ps_if (pt_cmpR op_lt (pv 1) (pe_callB call_len_seq (by rfl) B.len (by decide +kernel) (pa_cons (pv 0) pa_nil)) (nomark _)) (pss_one (ps_ret (pe_ix ix_list (pv 0) (pv 1) (fun _ _ => rfl)))) pss_nil)
      (pss_one (ps_ret pe_int))))
theorem ok__law_draw (B : Blt mg) (F : FnAt K mg "_law_draw" s__law_draw ["_law_cell", "_law_k", "_law_most"]) : Cal P w K mg base CX0 1 "_law_draw" ["_law_cell", "_law_k", "_law_most"] (sp__law_draw K) :=
  F.ok (t := (t__law_draw K)) (k := 0)  sc__law_draw (fun vs H Q E h => len__law_draw h) (fun vs H Q E h => pure__law_draw h) (fun f cdv A outer s H E hr => by
    have nd := sc__law_draw.nd
    exact (pss_cons (ps_set (i := 3) nd rfl (Or.inl rfl) (pe_tup (pa_cons pe_int (pa_cons pe_int (pa_cons pe_int (pa_cons pe_int (pa_cons pe_int (pa_cons pe_int (pa_cons pe_int (pa_cons pe_int (pa_cons pe_int (pa_cons pe_int (pa_cons pe_int (pa_cons pe_int (pa_cons pe_int (pa_cons pe_int (pa_cons pe_int (pa_cons pe_int pa_nil))))))))))))))))))
      (pss_one (ps_ret (pe_op op_mod (pe_op op_mod (pe_op op_add (pe_op op_mulK (pv 0) pe_int) (pe_op op_mulK (pv 1) pe_int)) (pe_ix ix_tup (pv 3) (pe_op op_mod (pv 1) pe_int) (fun _ _ => rfl))) (pv 2))))))
theorem ok__law_number (B : Blt mg) (C__law_draw : Cal P w K mg base CX0 1 "_law_draw" ["_law_cell", "_law_k", "_law_most"] (sp__law_draw K)) (F : FnAt K mg "_law_number" s__law_number ["_law_cell", "_law_k", "_law_limit"]) : Cal P w K mg base CX0 2 "_law_number" ["_law_cell", "_law_k", "_law_limit"] (sp__law_number_7 K) :=
  F.ok (t := (t__law_number_7 K)) (k := 1)  sc__law_number (fun vs H Q E h => len__law_number_7 h) (fun vs H Q E h => pure__law_number_7 h) (fun f cdv A outer s H E hr => by
    have nd := sc__law_number.nd
    exact (pss_cons (ps_if (pt_cmpR op_ge (pv 0) (pe_op op_pow pe_int pe_int) (nomark _)) (pss_one (ps_ret (pe_op op_mod (pe_op op_fdiv (pe_op op_sub (pv 0) (pe_op op_pow pe_int pe_int)) (pe_ix ix_tup (pe_tup (pa_cons pe_int (pa_cons pe_int (pa_cons pe_int (pa_cons pe_int (pa_cons pe_int pa_nil)))))) (pe_op op_mod (pv 1) pe_int) (fun _ _ => rfl))) (pv 2)))) pss_nil)
      (pss_cons (ps_set (i := 3) nd rfl (Or.inl rfl) (pe_op op_mod (pv 0) pe_int))
      (pss_one (ps_ret (pe_op op_mod (pc_call C__law_draw (hr.mono (by decide)) (pa_cons (pe_op op_mulK (pe_op op_add (pv 3) (pe_op op_mulK pe_int (pv 1))) (pe_op op_add (pe_op op_add (pv 3) (pe_op op_mulK pe_int (pv 1))) pe_int)) (pa_cons (pe_op op_add (pe_op op_mod (pv 1) pe_int) pe_int) (pa_cons pe_int pa_nil)))) (pv 2)))))))
theorem ok__law_deep_0 (F : FnAt K mg "_law_deep" s__law_deep ["_law_thing"]) : Cal P w K mg base CX0 1 "_law_deep" ["_law_thing"] (sp__law_deep K 0) :=
  F.ok (t := tNever) (k := 0)  sc__law_deep (fun vs H Q E h => (nev__law_deep h).elim) (fun vs H Q E h => (nev__law_deep h).elim) (fun f cdv A outer s H E hr => pss_never)
theorem ok__law_deep_s {n k : Nat} (B : Blt mg) (C__law_deep : Cal P w K mg base CX0 (k + 1) "_law_deep" ["_law_thing"] (sp__law_deep K n)) (F : FnAt K mg "_law_deep" s__law_deep ["_law_thing"]) : Cal P w K mg base CX0 (k + 2) "_law_deep" ["_law_thing"] (sp__law_deep K (n + 1)) :=
  F.ok (t := (t__law_deep K) n) (k := k + 1)  sc__law_deep (fun vs H Q E h => len__law_deep h) (fun vs H Q E h => pure__law_deep h) (fun f cdv A outer s H E hr => by
    have nd := sc__law_deep.nd
    exact (pss_cons (ps_if (pt_val (pe_callB call_isi (by rfl) B.isinstance (by decide +kernel) (pa_cons (pv 0) (pa_cons (pe_bltn (v := .ty "list") (by rfl) B.list (by decide +kernel) rfl) pa_nil)))) (pss_one (ps_ret (pe_lc (own := [("_law_one", 1)]) (g := (gName 1)) (tt := tYes) (by rfl) nd (pi_list (pv 0)) (blkOk_by (N := ["_law_thing", "_law_one"]) (sc := (defScope s__law_deep)) (by decide +kernel)) (fun _ _ _ _ _ => (pg_name (i := 1) nd rfl (Or.inl rfl))) (fun _ _ _ _ _ => pts_nil) (fun _ _ _ _ _ => (pc_call C__law_deep hr (pa_cons (pv 1) pa_nil)))))) pss_nil)
      (pss_one (ps_ret (pe_ifExp (pt_val (pe_callB call_isi (by rfl) B.isinstance (by decide +kernel) (pa_cons (pv 0) (pa_cons (pe_bltn (v := .ty "tuple") (by rfl) B.tuple (by decide +kernel) rfl) pa_nil)))) pe_never (pv 0))))))
theorem ok__law_deep (B : Blt mg) (F : FnAt K mg "_law_deep" s__law_deep ["_law_thing"]) : Cal P w K mg base CX0 4 "_law_deep" ["_law_thing"] (sp__law_deep K 3) := (ok__law_deep_s B (ok__law_deep_s B (ok__law_deep_s B (ok__law_deep_0 F) F) F) F)
theorem ok__law_spoilt_0 (F : FnAt K mg "_law_spoilt" s__law_spoilt ["_law_found"]) : Cal P w K mg base CX0 1 "_law_spoilt" ["_law_found"] (sp__law_spoilt K 0) :=
  F.ok (t := tNever) (k := 0)  sc__law_spoilt (fun vs H Q E h => (nev__law_spoilt h).elim) (fun vs H Q E h => (nev__law_spoilt h).elim) (fun f cdv A outer s H E hr => pss_never)
theorem ok__law_spoilt_s {n k : Nat} (B : Blt mg) (C__law_spoilt : Cal P w K mg base CX0 (k + 1) "_law_spoilt" ["_law_found"] (sp__law_spoilt K n)) (F : FnAt K mg "_law_spoilt" s__law_spoilt ["_law_found"]) : Cal P w K mg base CX0 (k + 2) "_law_spoilt" ["_law_found"] (sp__law_spoilt K (n + 1)) :=
  F.ok (t := (t__law_spoilt K) n) (k := k + 1)  sc__law_spoilt (fun vs H Q E h => len__law_spoilt h) (fun vs H Q E h => pure__law_spoilt h) (fun f cdv A outer s H E hr => by
    have nd := sc__law_spoilt.nd
    exact (pss_cons (ps_if (pt_val (pe_callB call_isiT (by rfl) B.isinstance (by decide +kernel) (pa_cons (pv 0) (pa_cons (pe_tup (pa_cons (pe_bltn (v := .ty "list") (by rfl) B.list (by decide +kernel) rfl) (pa_cons (pe_bltn (v := .ty "tuple") (by rfl) B.tuple (by decide +kernel) rfl) pa_nil))) pa_nil)))) (pss_one (ps_for PassesOwn.never rfl (pi_list (pv 0)) (pg_name (i := 1) nd rfl (Or.inl rfl)) (pss_one (ps_expr (pc_call C__law_spoilt hr (pa_cons (pv 1) pa_nil)))))) pss_nil)
      (pss_one (ps_if (pt_val (pe_callB call_isi (by rfl) B.isinstance (by decide +kernel) (pa_cons (pv 0) (pa_cons (pe_bltn (v := .ty "list") (by rfl) B.list (by decide +kernel) rfl) pa_nil)))) (pss_one (ps_expr (pe_bm PySem.F.plainAttrs_list PySem.F.slot_list_append PySem.F.type_list_append mt_append (pv 0) (pa_cons (pe_tup pa_nil) pa_nil)))) pss_nil))))
theorem ok__law_spoilt (B : Blt mg) (F : FnAt K mg "_law_spoilt" s__law_spoilt ["_law_found"]) : Cal P w K mg base CX0 4 "_law_spoilt" ["_law_found"] (sp__law_spoilt K 3) := (ok__law_spoilt_s B (ok__law_spoilt_s B (ok__law_spoilt_s B (ok__law_spoilt_0 F) F) F) F)
theorem ok__law_put (B : Blt mg) (C__law_deep : Cal P w K mg base CX0 4 "_law_deep" ["_law_thing"] (sp__law_deep K 3)) (F : FnAt K mg "_law_put" s__law_put ["_law_handed", "_law_some"]) : Cal P w K mg base CX0 5 "_law_put" ["_law_handed", "_law_some"] (sp__law_put K) :=
  F.ok (t := (t__law_put K)) (k := 4)  sc__law_put (fun vs H Q E h => len__law_put h) (fun vs H Q E h => pure__law_put h) (fun f cdv A outer s H E hr => by
    have nd := sc__law_put.nd
    exact (pss_one (ps_for PassesOwn.never rfl (pi_zip (by rfl) B.zip (pa_cons (pv 0) (pa_cons (pv 1) pa_nil))) (pg_tup rfl (pgs_cons (pg_name (i := 2) nd rfl (Or.inl rfl)) (pgs_cons (pg_name (i := 3) nd rfl (Or.inl rfl)) pgs_nil))) (pss_cons (ps_while PassesOwn.never (pt_cmpR (op_neD hr.units) (pv 2) (pe_lst pa_nil) (nomark _)) (pss_one (ps_expr (pe_bm0 PySem.F.plainAttrs_list PySem.F.slot_list_pop PySem.F.type_list_pop mt_pop (pv 2)))))
      (pss_one (ps_expr (pe_bm PySem.F.plainAttrs_list PySem.F.slot_list_extend PySem.F.type_list_extend mt_extend (pv 2) (pa_cons (pc_call C__law_deep (hr.mono (by decide)) (pa_cons (pv 3) pa_nil)) pa_nil))))))))
def forBody : Stmt → List Stmt
  | .For _ _ b _ _ => b
  | _ => []
def asgE : Stmt → Expr
  | .Assign _ e _ => e
  | .Return (some e) _ => e
  | _ => .Constant .none 0 ⟨0, 0, 0, 0⟩
def lstE : Expr → List Expr
  | .List es _ => es
  | .BinOp _ _ (.List es _) _ => es
  | .Call _ es _ _ => es
  | e => [e]
def lamOf (st : Stmt) (j : Nat) : Expr := (lstE (asgE st)).getD j (.Constant .none 0 ⟨0, 0, 0, 0⟩)
def lawT (i : Nat) : Stmt := (defBody s_law).getD i (.Pass ⟨0, 0, 0, 0⟩)
def lawB (i : Nat) : Stmt := (forBody (lawT 0)).getD i (.Pass ⟨0, 0, 0, 0⟩)
def lamX : Nat → Expr
  | 0 => lamOf (lawB 2) 0
  | 1 => lamOf (lawB 2) 1
  | 2 => lamOf (lawB 3) 0
  | 3 => lamOf (lawB 4) 0
  | 4 => lamOf (lawB 5) 0
  | _ => lamOf (lawT 1) 0
def lamP : Expr → Arguments
  | .Lambda p _ _ _ => p
  | _ => ⟨[], [], none, [], [], none, []⟩
def lamB : Expr → Expr
  | .Lambda _ b _ _ => b
  | e => e
def lamSc : Expr → Scope
  | .Lambda _ _ s _ => s
  | _ => defScope s_law
def LF (cl : List (Str × Addr)) (j : Nat) (c' : Addr) : NdefX.NF := ⟨"<lambda>", "law.<locals>.<lambda>", lamP (lamX j), [], lamSc (lamX j), cloFrom cl (lamSc (lamX j)).names [], c'⟩
def LE (j : Nat) : Expr := lamB (lamX j)
theorem kin_law : ∀ y ∈ FRALL, (defScope s_law).names.lookup y = some .cell ∨ (defScope s_law).names.lookup y = some .free := fun y hy => .inl (by
  have h : ∀ y ∈ FRALL, (defScope s_law).names.lookup y = some .cell := by decide +kernel
  exact h y hy)
def LP : Nat → List Str
  | 0 => ["_law_some"]
  | 1 => ["_law_one"]
  | 2 => ["_law_some"]
  | 3 => ["_law_some"]
  | 4 => ["_law_some"]
  | _ => ["_law_some"]
theorem lam_0 (B : Blt mg) (C__law_paid : Cal P w K mg base CX0 4 "_law_paid" ["_law_coins", "_law_amount"] (sp__law_paid K CP CN)) (cl : List (Str × Addr)) (f c' : Addr) : LOk P w K mg base CX0 5 f (LF cl 0 c') (LE 0) (LP 0) (FR 0) (spLam7 K CP CN 0) :=
  lam_okC (N := ["_law_some", "_law_amount"]) (ps := ["_law_some"]) (fr := FR 0) (t := t_lam7_0 K CP CN) (k := 4) (show NdefX.NScope _ _ _ (lamSc (lamX 0)) from NdefX.nscope_by (by decide +kernel)) (fun pm ctv us hl => match us, hl with | [_], _ => rfl) (fun ws vs H Q E h => len_lam7_0 h) (fun ws vs H Q E hl h => pure_lam7_0 hl h) (fun A outer s H E hr => (pc_call C__law_paid (hr.mono (by decide)) (pa_cons (pe_ix ix_list (pv 0) pe_int (fun _ _ => rfl)) (pa_cons (pv 1) pa_nil))))
theorem clo_0 {cl : List (Str × Addr)} {b : Heap} {ws : List (Option V)} (C : NdefX.CellsAt cl FRALL ws b (fun _ => none)) (c' : Addr) : NdefX.CellsAt (LF cl 0 c').cl (FR 0) (WSJ 0 ws) b (fun _ => none) :=
  cells_sub (names := (lamSc (lamX 0)).names) (js := IX 0) C (by decide +kernel) (by decide +kernel) (by decide +kernel)
theorem lam_1 (B : Blt mg) (C__law_two : Cal P w K mg base CX0 1 "_law_two" ["_law_found"] (sp__law_two K)) (C_fewest : Cal P w K mg base CX0 3 "fewest" ["coins", "amount"] (sp_fewest K)) (cl : List (Str × Addr)) (f c' : Addr) : LOk P w K mg base CX0 5 f (LF cl 1 c') (LE 1) (LP 1) (FR 1) (spLam7 K CP CN 1) :=
  lam_okC (N := ["_law_one", "_law_amount"]) (ps := ["_law_one"]) (fr := FR 1) (t := t_lam7_1 K) (k := 4) (show NdefX.NScope _ _ _ (lamSc (lamX 1)) from NdefX.nscope_by (by decide +kernel)) (fun pm ctv us hl => match us, hl with | [_], _ => rfl) (fun ws vs H Q E h => len_lam7_1 h) (fun ws vs H Q E hl h => pure_lam7_1 hl h) (fun A outer s H E hr => (pc_call C__law_two (hr.mono (by decide)) (pa_cons (pe_lst (pa_cons (pc_call C_fewest (hr.mono (by decide)) (pa_cons (pe_ix ix_list (pv 0) pe_int (fun _ _ => rfl)) (pa_cons (pv 1) pa_nil))) pa_nil)) pa_nil)))
theorem clo_1 {cl : List (Str × Addr)} {b : Heap} {ws : List (Option V)} (C : NdefX.CellsAt cl FRALL ws b (fun _ => none)) (c' : Addr) : NdefX.CellsAt (LF cl 1 c').cl (FR 1) (WSJ 1 ws) b (fun _ => none) :=
  cells_sub (names := (lamSc (lamX 1)).names) (js := IX 1) C (by decide +kernel) (by decide +kernel) (by decide +kernel)
theorem lam_2 (B : Blt mg) (C__law_two : Cal P w K mg base CX0 1 "_law_two" ["_law_found"] (sp__law_two K)) (C_ways : Cal P w K mg base CX0 3 "ways" ["coins", "amount"] (sp_ways_N K)) (cl : List (Str × Addr)) (f c' : Addr) : LOk P w K mg base CX0 5 f (LF cl 2 c') (LE 2) (LP 2) (FR 2) (spLam7 K CP CN 2) :=
  lam_okC (N := ["_law_some", "_law_amount"]) (ps := ["_law_some"]) (fr := FR 2) (t := t_lam7_2 K) (k := 4) (show NdefX.NScope _ _ _ (lamSc (lamX 2)) from NdefX.nscope_by (by decide +kernel)) (fun pm ctv us hl => match us, hl with | [_], _ => rfl) (fun ws vs H Q E h => len_lam7_2 h) (fun ws vs H Q E hl h => pure_lam7_2 hl h) (fun A outer s H E hr => (pc_call C__law_two (hr.mono (by decide)) (pa_cons (pe_lst (pa_cons (pc_call C_ways (hr.mono (by decide)) (pa_cons (pe_ix ix_list (pv 0) pe_int (fun _ _ => rfl)) (pa_cons (pv 1) pa_nil))) pa_nil)) pa_nil)))
theorem clo_2 {cl : List (Str × Addr)} {b : Heap} {ws : List (Option V)} (C : NdefX.CellsAt cl FRALL ws b (fun _ => none)) (c' : Addr) : NdefX.CellsAt (LF cl 2 c').cl (FR 2) (WSJ 2 ws) b (fun _ => none) :=
  cells_sub (names := (lamSc (lamX 2)).names) (js := IX 2) C (by decide +kernel) (by decide +kernel) (by decide +kernel)
theorem lam_3 (B : Blt mg) (T : Kls K mg CA CP CN) (C__law_two : Cal P w K mg base CX0 1 "_law_two" ["_law_found"] (sp__law_two K)) (C_Paid_shows : CalM P w K mg base 3 CP "shows" ["self", "coins", "amount"] (sp_Paid_shows K CP)) (cl : List (Str × Addr)) (f c' : Addr) : LOk P w K mg base CX0 5 f (LF cl 3 c') (LE 3) (LP 3) (FR 3) (spLam7 K CP CN 3) :=
  lam_okC (N := ["_law_some", "_law_amount", "_law_here"]) (ps := ["_law_some"]) (fr := FR 3) (t := t_lam7_3 K CP) (k := 4) (show NdefX.NScope _ _ _ (lamSc (lamX 3)) from NdefX.nscope_by (by decide +kernel)) (fun pm ctv us hl => match us, hl with | [_], _ => rfl) (fun ws vs H Q E h => len_lam7_3 h) (fun ws vs H Q E hl h => pure_lam7_3 hl h) (fun A outer s H E hr => (pc_call C__law_two (hr.mono (by decide)) (pa_cons (pe_lst (pa_cons (pc_meth (pv 2) T.clP C_Paid_shows (hr.mono (by decide)) (pa_cons (pe_ix ix_list (pv 0) pe_int (fun _ _ => rfl)) (pa_cons (pv 1) pa_nil))) pa_nil)) pa_nil)))
theorem clo_3 {cl : List (Str × Addr)} {b : Heap} {ws : List (Option V)} (C : NdefX.CellsAt cl FRALL ws b (fun _ => none)) (c' : Addr) : NdefX.CellsAt (LF cl 3 c').cl (FR 3) (WSJ 3 ws) b (fun _ => none) :=
  cells_sub (names := (lamSc (lamX 3)).names) (js := IX 3) C (by decide +kernel) (by decide +kernel) (by decide +kernel)
theorem lam_4 (B : Blt mg) (T : Kls K mg CA CP CN) (C__law_two : Cal P w K mg base CX0 1 "_law_two" ["_law_found"] (sp__law_two K)) (C_Never_init : CalI P w K mg base 1 CN ["self", "part"] (sp_Never_init K CN)) (C_Never_shows : CalM P w K mg base 1 CN "shows" ["self", "coins", "amount"] (sp_Never_shows K CN)) (cl : List (Str × Addr)) (f c' : Addr) : LOk P w K mg base CX0 5 f (LF cl 4 c') (LE 4) (LP 4) (FR 4) (spLam7 K CP CN 4) :=
  lam_okC (N := ["_law_some", "_law_amount"]) (ps := ["_law_some"]) (fr := FR 4) (t := t_lam7_4 K CN) (k := 4) (show NdefX.NScope _ _ _ (lamSc (lamX 4)) from NdefX.nscope_by (by decide +kernel)) (fun pm ctv us hl => match us, hl with | [_], _ => rfl) (fun ws vs H Q E h => len_lam7_4 h) (fun ws vs H Q E hl h => pure_lam7_4 hl h) (fun A outer s H E hr => (pc_call C__law_two (hr.mono (by decide)) (pa_cons (pe_lst (pa_cons (pc_meth (pc_make C_Never_init (hr.mono (by decide)) T.gN (pa_cons pe_int pa_nil)) T.clN C_Never_shows (hr.mono (by decide)) (pa_cons (pe_ix ix_list (pv 0) pe_int (fun _ _ => rfl)) (pa_cons (pv 1) pa_nil))) pa_nil)) pa_nil)))
theorem clo_4 {cl : List (Str × Addr)} {b : Heap} {ws : List (Option V)} (C : NdefX.CellsAt cl FRALL ws b (fun _ => none)) (c' : Addr) : NdefX.CellsAt (LF cl 4 c').cl (FR 4) (WSJ 4 ws) b (fun _ => none) :=
  cells_sub (names := (lamSc (lamX 4)).names) (js := IX 4) C (by decide +kernel) (by decide +kernel) (by decide +kernel)
theorem lam_5 (B : Blt mg) (C__law_paid : Cal P w K mg base CX0 4 "_law_paid" ["_law_coins", "_law_amount"] (sp__law_paid K CP CN)) (cl : List (Str × Addr)) (f c' : Addr) : LOk P w K mg base CX0 5 f (LF cl 5 c') (LE 5) (LP 5) (FR 5) (spLam7 K CP CN 5) :=
  lam_okC (N := ["_law_some"]) (ps := ["_law_some"]) (fr := FR 5) (t := t_lam7_5 K CP CN) (k := 4) (show NdefX.NScope _ _ _ (lamSc (lamX 5)) from NdefX.nscope_by (by decide +kernel)) (fun pm ctv us hl => match us, hl with | [_], _ => rfl) (fun ws vs H Q E h => len_lam7_5 h) (fun ws vs H Q E hl h => pure_lam7_5 hl h) (fun A outer s H E hr => (pc_call C__law_paid (hr.mono (by decide)) (pa_cons (pe_ix ix_list (pv 0) pe_int (fun _ _ => rfl)) (pa_cons pe_int pa_nil))))
theorem clo_5 {cl : List (Str × Addr)} {b : Heap} {ws : List (Option V)} (C : NdefX.CellsAt cl FRALL ws b (fun _ => none)) (c' : Addr) : NdefX.CellsAt (LF cl 5 c').cl (FR 5) (WSJ 5 ws) b (fun _ => none) :=
  cells_sub (names := (lamSc (lamX 5)).names) (js := IX 5) C (by decide +kernel) (by decide +kernel) (by decide +kernel)
theorem ok__law_door_right (B : Blt mg) {cl : List (Str × Addr)} {ws : List (Option V)} (LK : ∀ j f c', LOk P w K mg base CX0 5 f (LF cl j c') (LE j) (LP j) (FR j) (spLam7 K CP CN j)) (hcl : ∀ j c', NdefX.CellsAt (LF cl j c').cl (FR j) (WSJ j ws) base (fun _ => none)) (C__law_deep : Cal P w K mg base CX0 4 "_law_deep" ["_law_thing"] (sp__law_deep K 3)) (C__law_spoilt : Cal P w K mg base CX0 4 "_law_spoilt" ["_law_found"] (sp__law_spoilt K 3)) (C__law_put : Cal P w K mg base CX0 5 "_law_put" ["_law_handed", "_law_some"] (sp__law_put K)) (F : FnAt K mg "_law_door_right" s__law_door_right ["_law_ask", "_law_lists", "_law_others"]) : CalG P w K mg base 6 "_law_door_right" ["_law_ask", "_law_lists", "_law_others"] (sp__law_door_right K (LF cl) LE (fun j => spLam7 K CP CN j (WSJ j ws))) :=
  F.okG (t := (t__law_door_right K (LF cl) LE (fun j => spLam7 K CP CN j (WSJ j ws)))) (k := 5)  sc__law_door_right (fun vs H Q E h => len__law_door_right h) (fun vs H Q E h => pure__law_door_right h) (fun f cdv A outer s H E hr hgd => by
    have nd := sc__law_door_right.nd
    exact (pss_cons (ps_set (i := 3) nd rfl (Or.inl rfl) (pc_call C__law_deep (hr.mono (by decide)) (pa_cons (pv 1) pa_nil)))
      (pss_cons (ps_asg (pe_callLC (i := 0) LK hcl (hr.mono (by decide)) rfl (Or.inl rfl) (pa_cons (pv 3) pa_nil)) (pg_tup rfl (pgs_cons (pg_name (i := 4) nd rfl (Or.inl rfl)) (pgs_cons (pg_name (i := 5) nd rfl (Or.inl rfl)) pgs_nil))))
      (pss_cons (ps_par (by rfl) nd rfl rfl (by decide) rfl rfl (pa_cons (pe_callTy (call_strD hgd hr.units) (by rfl) B.str (by decide +kernel) (pa_cons (pv 4) pa_nil)) (pa_cons (pe_callTy (call_strD hgd hr.units) (by rfl) B.str (by decide +kernel) (pa_cons (pe_ix ix_tup (pe_callLC (i := 0) LK hcl (hr.mono (by decide)) rfl (Or.inl rfl) (pa_cons (pc_call C__law_deep (hr.mono (by decide)) (pa_cons (pv 2) pa_nil)) pa_nil)) pe_int (fun _ _ => rfl)) pa_nil)) pa_nil)) (by rfl))
      (pss_cons (ps_if (pt_cmpR (op_neD hr.units) (pv 3) (pv 1) (nomark _)) (pss_one (ps_ret pe_bl)) pss_nil)
      (pss_cons (ps_expr (pc_call C__law_spoilt (hr.mono (by decide)) (pa_cons (pv 5) pa_nil)))
      (pss_cons (ps_if (PW.pt (pw_or (pt_cmpR op_ne (pe_callTy (call_strD hgd hr.units) (by rfl) B.str (by decide +kernel) (pa_cons (pe_ix ix_tup (pe_callLC (i := 0) LK hcl (hr.mono (by decide)) rfl (Or.inl rfl) (pa_cons (pv 3) pa_nil)) pe_int (fun _ _ => rfl)) pa_nil)) (pv 6) (nomark _)) (pw_or1 (pt_cmpR (op_neD hr.units) (pv 3) (pv 1) (nomark _))))) (pss_one (ps_ret pe_bl)) pss_nil)
      (pss_cons (ps_for PassesOwn.never rfl (pi_tup (pe_tup (pa_cons (pe_tup (pa_cons (pv 2) (pa_cons (pv 7) pa_nil))) (pa_cons (pe_tup (pa_cons (pv 1) (pa_cons (pv 6) pa_nil))) pa_nil)))) (pg_tup rfl (pgs_cons (pg_name (i := 8) nd rfl (Or.inl rfl)) (pgs_cons (pg_name (i := 9) nd rfl (Or.inl rfl)) pgs_nil))) (pss_cons (ps_expr (pc_call C__law_put (hr.mono (by decide)) (pa_cons (pv 3) (pa_cons (pv 8) pa_nil))))
      (pss_one (ps_if (PW.pt (pw_or (pt_cmpR op_ne (pe_callTy (call_strD hgd hr.units) (by rfl) B.str (by decide +kernel) (pa_cons (pe_ix ix_tup (pe_callLC (i := 0) LK hcl (hr.mono (by decide)) rfl (Or.inl rfl) (pa_cons (pv 3) pa_nil)) pe_int (fun _ _ => rfl)) pa_nil)) (pv 9) (nomark _)) (pw_or1 (pt_cmpR (op_neD hr.units) (pv 3) (pv 8) (nomark _))))) (pss_one (ps_ret pe_bl)) pss_nil))))
      (pss_one (ps_ret pe_bl))))))))))
theorem ok__law_two (B : Blt mg) (F : FnAt K mg "_law_two" s__law_two ["_law_found"]) : Cal P w K mg base CX0 1 "_law_two" ["_law_found"] (sp__law_two K) :=
  F.ok (t := (t__law_two K)) (k := 0)  sc__law_two (fun vs H Q E h => len__law_two h) (fun vs H Q E h => pure__law_two h) (fun f cdv A outer s H E hr => by
    have nd := sc__law_two.nd
    exact (pss_one (ps_ret (pe_tup (pa_cons (pv 0) (pa_cons (pv 0) pa_nil))))))
theorem ok__law_doors_right (B : Blt mg) {cl : List (Str × Addr)} {ws : List (Option V)} (C__law_door_right : CalG P w K mg base 6 "_law_door_right" ["_law_ask", "_law_lists", "_law_others"] (sp__law_door_right K (LF cl) LE (fun j => spLam7 K CP CN j (WSJ j ws)))) (F : FnAt K mg "_law_doors_right" s__law_doors_right ["_law_asks", "_law_lists", "_law_others"]) : CalG P w K mg base 7 "_law_doors_right" ["_law_asks", "_law_lists", "_law_others"] (sp__law_doors_right K (LF cl) LE (fun j => spLam7 K CP CN j (WSJ j ws))) :=
  F.okG (t := (t__law_doors_right K (LF cl) LE (fun j => spLam7 K CP CN j (WSJ j ws)))) (k := 6)  sc__law_doors_right (fun vs H Q E h => len__law_doors_right h) (fun vs H Q E h => pure__law_doors_right h) (fun f cdv A outer s H E hr hgd => by
    have nd := sc__law_doors_right.nd
    exact (pss_one (ps_ret (pe_callB (cr_all rfl) (by rfl) B.all (by decide +kernel) (pa_cons (pe_lc (own := [("_law_ask", 3)]) (g := (gName 3)) (tt := tYes) (by rfl) nd (pi_list (pv 0)) (blkOk_by (N := ["_law_asks", "_law_lists", "_law_others", "_law_ask"]) (sc := (defScope s__law_doors_right)) (by decide +kernel)) (fun _ _ _ _ _ => (pg_name (i := 3) nd rfl (Or.inl rfl))) (fun _ _ _ _ _ => pts_nil) (fun _ _ _ _ _ => (pc_callG hgd C__law_door_right (hr.mono (by decide)) (pa_cons (pv 3) (pa_cons (pv 1) (pa_cons (pv 2) pa_nil)))))) pa_nil)))))
theorem ok__law_paid (B : Blt mg) (T : Kls K mg CA CP CN) (C_paid : Cal P w K mg base CX0 3 "paid" ["coins", "amount"] (sp_paid K CP CN)) (C_Paid_shows : CalM P w K mg base 3 CP "shows" ["self", "coins", "amount"] (sp_Paid_shows K CP)) (C_Never_shows : CalM P w K mg base 1 CN "shows" ["self", "coins", "amount"] (sp_Never_shows K CN)) (F : FnAt K mg "_law_paid" s__law_paid ["_law_coins", "_law_amount"]) : Cal P w K mg base CX0 4 "_law_paid" ["_law_coins", "_law_amount"] (sp__law_paid K CP CN) :=
  F.ok (t := (t__law_paid K CP CN)) (k := 3)  sc__law_paid (fun vs H Q E h => len__law_paid h) (fun vs H Q E h => pure__law_paid T h) (fun f cdv A outer s H E hr => by
    have nd := sc__law_paid.nd
    exact (pss_cons (ps_set (i := 2) nd rfl (Or.inl rfl) (pc_call C_paid (hr.mono (by decide)) (pa_cons (pv 0) (pa_cons (pv 1) pa_nil))))
      (pss_cons (ps_set (i := 3) nd rfl (Or.inl rfl) (pe_ifExp (pt_val (pe_callB call_isi (by rfl) B.isinstance (by decide +kernel) (pa_cons (pv 2) (pa_cons (pe_glob (by rfl) T.gP rfl) pa_nil)))) (pe_lst (pa_cons (pe_fld (pv 2) rfl) (pa_cons (pe_fld (pv 2) rfl) (pa_cons (pe_fld (pv 2) rfl) pa_nil)))) (pe_lst pa_nil)))
      (pss_one (ps_ret (pe_tup (pa_cons (pe_lst (pa_cons (pe_callB call_isi (by rfl) B.isinstance (by decide +kernel) (pa_cons (pv 2) (pa_cons (pe_glob (by rfl) T.gP rfl) pa_nil))) (pa_cons (pe_ei (pc_meth (pv 2) T.clP C_Paid_shows (hr.mono (by decide)) (pa_cons (pe_callTy call_list_of (by rfl) B.list (by decide +kernel) (pa_cons (pv 0) pa_nil)) (pa_cons (pv 1) pa_nil))) (pc_meth (pv 2) T.clN C_Never_shows (hr.mono (by decide)) (pa_cons (pe_callTy call_list_of (by rfl) B.list (by decide +kernel) (pa_cons (pv 0) pa_nil)) (pa_cons (pv 1) pa_nil)))) pa_nil))) (pa_cons (pv 3) pa_nil))))))))
theorem ok_law {f0 c0 P0 : Addr} {oc kV dc pm ct : Value} {od an : Option Addr} {sl : Array (Option Value)} (B : Blt mg) (T : Kls K mg CA CP CN) (CD__law_doors_right : ∀ (cl : List (Str × Addr)) (b : Heap) (ws : List (Option V)), NdefX.CellsAt cl FRALL ws b (fun _ => none) → CalG P w K mg b 7 "_law_doors_right" ["_law_asks", "_law_lists", "_law_others"] (sp__law_doors_right K (LF cl) LE (fun j => spLam7 K CP CN j (WSJ j ws)))) (HM__law_doors_right : ∃ f, mg "_law_doors_right" = some (.ref f) ∧ PySem.W.keepIn K (.ref f) = true) (CD__law_door_right : ∀ (cl : List (Str × Addr)) (b : Heap) (ws : List (Option V)), NdefX.CellsAt cl FRALL ws b (fun _ => none) → CalG P w K mg b 6 "_law_door_right" ["_law_ask", "_law_lists", "_law_others"] (sp__law_door_right K (LF cl) LE (fun j => spLam7 K CP CN j (WSJ j ws)))) (HM__law_door_right : ∃ f, mg "_law_door_right" = some (.ref f) ∧ PySem.W.keepIn K (.ref f) = true) (C__law_number : Cal P w K mg base CX0 2 "_law_number" ["_law_cell", "_law_k", "_law_limit"] (sp__law_number_7 K)) (C__law_cell_at : Cal P w K mg base CX0 1 "_law_cell_at" ["_law_script", "_law_k"] (sp__law_cell_at K)) (C_paid : Cal P w K mg base CX0 3 "paid" ["coins", "amount"] (sp_paid K CP CN)) (TB : LamX.TabB base mg c0 P0) (lk : K.lookup f0 = some ⟨oc, od, .func (PySem.W.fnOf "law" "law" (defArgs s_law) (defBody s_law) (defScope s_law) .none kV dc pm an (.ref c0) ct), sl⟩) (hcd : PySem.W.codeIn K (.ref c0) "law" = true) : FnG P w K mg base 8 f0 (PySem.W.fnOf "law" "law" (defArgs s_law) (defBody s_law) (defScope s_law) .none kV dc pm an (.ref c0) ct) ["_law_script"] (sp_law_k07 K [(P0, "law.<locals>.<lambda>")]) :=
  fng_of lk hcd sc_law (fun vs H Q E h => len_law_k07 h) fun A outer s H vs Q E hr hgd h => ⟨(t_law_k07 K CP CN (LF (cellsFrom (s.heap.objs.size + 1) (defScope s_law).names [])) LE [(P0, "law.<locals>.<lambda>")]), (by
    have nd := sc_law.nd
    exact (pss_cons (ps_for PassesOwn.never rfl (pi_range1 (by rfl) B.range (pa_cons pe_int pa_nil)) (pg_name (i := 1) nd rfl (Or.inl rfl)) (pss_cons (ps_set (i := 2) nd rfl (Or.inr rfl) (pe_op op_add pe_int (pc_call C__law_number (hr.mono (by decide)) (pa_cons (pc_call C__law_cell_at (hr.mono (by decide)) (pa_cons (pv 0) (pa_cons (pv 1) pa_nil))) (pa_cons (pe_op op_add (pv 1) pe_int) (pa_cons pe_int pa_nil))))))
      (pss_cons (ps_set (i := 3) nd rfl (Or.inr rfl) (pc_call C_paid (hr.mono (by decide)) (pa_cons (pe_lst (pa_cons pe_int (pa_cons pe_int (pa_cons pe_int pa_nil)))) (pa_cons (pv 2) pa_nil))))
      (pss_cons (ps_set (i := 4) nd rfl (Or.inl rfl) (pe_lst (pa_cons (pe_lam TB rfl (List.mem_singleton.mpr rfl) (fun p hp _ => by rw [List.mem_singleton.mp hp]; rfl) (NdefX.ndef_free (sc := defScope s_law) (fr := FR 0) (by decide +kernel))) (pa_cons (pe_lam TB rfl (List.mem_singleton.mpr rfl) (fun p hp _ => by rw [List.mem_singleton.mp hp]; rfl) (NdefX.ndef_free (sc := defScope s_law) (fr := FR 1) (by decide +kernel))) pa_nil))))
      (pss_cons (ps_set (i := 4) nd rfl (Or.inl rfl) (pe_op op_cat (pv 4) (pe_lst (pa_cons (pe_lam TB rfl (List.mem_singleton.mpr rfl) (fun p hp _ => by rw [List.mem_singleton.mp hp]; rfl) (NdefX.ndef_free (sc := defScope s_law) (fr := FR 2) (by decide +kernel))) pa_nil))))
      (pss_cons (ps_set (i := 4) nd rfl (Or.inl rfl) (pe_op op_cat (pv 4) (pe_lst (pa_cons (pe_lam TB rfl (List.mem_singleton.mpr rfl) (fun p hp _ => by rw [List.mem_singleton.mp hp]; rfl) (NdefX.ndef_free (sc := defScope s_law) (fr := FR 3) (by decide +kernel))) pa_nil))))
      (pss_cons (ps_set (i := 4) nd rfl (Or.inl rfl) (pe_op op_cat (pv 4) (pe_lst (pa_cons (pe_lam TB rfl (List.mem_singleton.mpr rfl) (fun p hp _ => by rw [List.mem_singleton.mp hp]; rfl) (NdefX.ndef_free (sc := defScope s_law) (fr := FR 4) (by decide +kernel))) pa_nil))))
      (pss_one (ps_if (pt_not (pt_val (pe_enterC (fr := FRALL) (js := [2, 3]) (fun _ => rfl) ⟨fun _ _ e => e, kin_law, fun _ _ _ e => e, rfl⟩ hgd (CD__law_doors_right _) (hr.mono (by decide)) HM__law_doors_right (pa_cons (pv 4) (pa_cons (pe_lst (pa_cons (pe_lst (pa_cons pe_int (pa_cons pe_int (pa_cons pe_int pa_nil)))) pa_nil)) (pa_cons (pe_lst (pa_cons (pe_lst (pa_cons pe_int (pa_cons pe_int (pa_cons pe_int pa_nil)))) pa_nil)) pa_nil)))))) (pss_one (ps_ret pe_bl)) pss_nil)))))))))
      (pss_one (ps_ret (pe_enterC (fr := FRALL) (js := [2, 3]) (fun _ => rfl) ⟨fun _ _ e => e, kin_law, fun _ _ _ e => e, rfl⟩ hgd (CD__law_door_right _) (hr.mono (by decide)) HM__law_door_right (pa_cons (pe_lam TB rfl (List.mem_singleton.mpr rfl) (fun p hp _ => by rw [List.mem_singleton.mp hp]; rfl) (NdefX.ndef_free (sc := defScope s_law) (fr := FR 5) (by decide +kernel))) (pa_cons (pe_lst (pa_cons (pe_lst (pa_cons pe_int (pa_cons pe_int pa_nil))) pa_nil)) (pa_cons (pe_lst (pa_cons (pe_lst (pa_cons pe_int (pa_cons pe_int pa_nil))) pa_nil)) pa_nil)))))))), pure_law_k07 (fun _ _ => rfl) T h⟩
end
theorem all_mk {l : PySem.W.OpenLaw} {w : World} {K : PySem.W.Frag} {h : Heap} {mg : Str → Option Value} {fa cL pL CA CP CN f0 f1 f2 f3 f4 f5 f6 f7 f8 f9 f10 f11 f12 f13 f14 f15 f16 f17 f18 f19 f20 f21 f22 f23 f24 f25 f26 f27 f28 f29 : Addr} (X : K.In h) (G : h.Ns mainGlobals mg) (hfa : mg "law" = some (.ref fa))
    (hT : h.get? pL = some { cls := .none, data := .fields #[] })
    (gA : PySem.W.nsIn K mainGlobals "Answer" = some (some (.ref CA)))
    (gP : PySem.W.nsIn K mainGlobals "Paid" = some (some (.ref CP)))
    (gN : PySem.W.nsIn K mainGlobals "Never" = some (some (.ref CN)))
    (pgP : PySem.W.plainGet K CP Str.empty = true)
    (hdP : PySem.W.hasDictIn K CP = true)
    (poP : PySem.W.plainOver K CP = true)
    (saP : PySem.W.findIn K (.ref CP) "__setattr__" = some (some (.builtin "object.__setattr__")))
    (mkP : PySem.W.makesIn K CP = true)
    (kcP : PySem.W.keepIn K (.ref CP) = true)
    (icP : PySem.W.findIn K (.ref CP) "__class__" = some (some (.builtin "object.__class__")))
    (ioP : PySem.W.mroIn K CP (.type "object") = some true)
    (pgN : PySem.W.plainGet K CN Str.empty = true)
    (hdN : PySem.W.hasDictIn K CN = true)
    (poN : PySem.W.plainOver K CN = true)
    (saN : PySem.W.findIn K (.ref CN) "__setattr__" = some (some (.builtin "object.__setattr__")))
    (mkN : PySem.W.makesIn K CN = true)
    (kcN : PySem.W.keepIn K (.ref CN) = true)
    (icN : PySem.W.findIn K (.ref CN) "__class__" = some (some (.builtin "object.__class__")))
    (ioN : PySem.W.mroIn K CN (.type "object") = some true)
    (isp : PySem.W.specialIn K (.builtin "object.__class__") "__get__" = some (some (.builtin "getset_descriptor.__get__")))
    (itk : PySem.W.takesIn K (.builtin "object.__class__") = some true)
    (n_give : PySem.W.findIn K (.ref CP) "give" = some none)
    (n_back : PySem.W.findIn K (.ref CP) "back" = some none)
    (n_heights : PySem.W.findIn K (.ref CP) "heights" = some none)
    (n_part : PySem.W.findIn K (.ref CN) "part" = some none)
    (kPA : PySem.W.kitOne K (.ref CP) (.ref CA) = some true)
    (kPP : PySem.W.kitOne K (.ref CP) (.ref CP) = some true)
    (kPN : PySem.W.kitOne K (.ref CP) (.ref CN) = some false)
    (kNA : PySem.W.kitOne K (.ref CN) (.ref CA) = some true)
    (kNP : PySem.W.kitOne K (.ref CN) (.ref CP) = some false)
    (kNN : PySem.W.kitOne K (.ref CN) (.ref CN) = some true)
    {od0 an0 : Option Addr} {sl0 : Array (Option Value)} {oc0 kV0 dc0 pm0 cd0 ct0 : Value}
    (a0 : PySem.W.nsIn K mainGlobals "is_number" = some (some (.ref f0)))
    (l0 : K.lookup f0 = some ⟨oc0, od0, .func (PySem.W.fnOf "is_number" "is_number" (defArgs s_is_number) (defBody s_is_number) (defScope s_is_number) .none kV0 dc0 pm0 an0 cd0 ct0), sl0⟩)
    (c0 : PySem.W.codeIn K cd0 "is_number" = true)
    (k0 : PySem.W.keepIn K (.ref f0) = true)
    {od1 an1 : Option Addr} {sl1 : Array (Option Value)} {oc1 kV1 dc1 pm1 cd1 ct1 : Value}
    (a1 : PySem.W.nsIn K mainGlobals "check_coins" = some (some (.ref f1)))
    (l1 : K.lookup f1 = some ⟨oc1, od1, .func (PySem.W.fnOf "check_coins" "check_coins" (defArgs s_check_coins) (defBody s_check_coins) (defScope s_check_coins) .none kV1 dc1 pm1 an1 cd1 ct1), sl1⟩)
    (c1 : PySem.W.codeIn K cd1 "check_coins" = true)
    (k1 : PySem.W.keepIn K (.ref f1) = true)
    {od2 an2 : Option Addr} {sl2 : Array (Option Value)} {oc2 kV2 dc2 pm2 cd2 ct2 : Value}
    (a2 : PySem.W.nsIn K mainGlobals "check_amount" = some (some (.ref f2)))
    (l2 : K.lookup f2 = some ⟨oc2, od2, .func (PySem.W.fnOf "check_amount" "check_amount" (defArgs s_check_amount) (defBody s_check_amount) (defScope s_check_amount) .none kV2 dc2 pm2 an2 cd2 ct2), sl2⟩)
    (c2 : PySem.W.codeIn K cd2 "check_amount" = true)
    (k2 : PySem.W.keepIn K (.ref f2) = true)
    {od3 an3 : Option Addr} {sl3 : Array (Option Value)} {oc3 kV3 dc3 pm3 cd3 ct3 : Value}
    (a3 : PySem.W.nsIn K mainGlobals "common" = some (some (.ref f3)))
    (l3 : K.lookup f3 = some ⟨oc3, od3, .func (PySem.W.fnOf "common" "common" (defArgs s_common) (defBody s_common) (defScope s_common) .none kV3 dc3 pm3 an3 cd3 ct3), sl3⟩)
    (c3 : PySem.W.codeIn K cd3 "common" = true)
    (k3 : PySem.W.keepIn K (.ref f3) = true)
    {od4 an4 : Option Addr} {sl4 : Array (Option Value)} {oc4 kV4 dc4 pm4 cd4 ct4 : Value}
    (a4 : PySem.W.nsIn K mainGlobals "strip" = some (some (.ref f4)))
    (l4 : K.lookup f4 = some ⟨oc4, od4, .func (PySem.W.fnOf "strip" "strip" (defArgs s_strip) (defBody s_strip) (defScope s_strip) .none kV4 dc4 pm4 an4 cd4 ct4), sl4⟩)
    (c4 : PySem.W.codeIn K cd4 "strip" = true)
    (k4 : PySem.W.keepIn K (.ref f4) = true)
    {od5 an5 : Option Addr} {sl5 : Array (Option Value)} {oc5 kV5 dc5 pm5 cd5 ct5 : Value}
    (a5 : PySem.W.nsIn K mainGlobals "heights_of" = some (some (.ref f5)))
    (l5 : K.lookup f5 = some ⟨oc5, od5, .func (PySem.W.fnOf "heights_of" "heights_of" (defArgs s_heights_of) (defBody s_heights_of) (defScope s_heights_of) .none kV5 dc5 pm5 an5 cd5 ct5), sl5⟩)
    (c5 : PySem.W.codeIn K cd5 "heights_of" = true)
    (k5 : PySem.W.keepIn K (.ref f5) = true)
    {od6 an6 : Option Addr} {sl6 : Array (Option Value)} {oc6 kV6 dc6 pm6 cd6 ct6 : Value}
    (a6 : PySem.W.nsIn K mainGlobals "are_counts" = some (some (.ref f6)))
    (l6 : K.lookup f6 = some ⟨oc6, od6, .func (PySem.W.fnOf "are_counts" "are_counts" (defArgs s_are_counts) (defBody s_are_counts) (defScope s_are_counts) .none kV6 dc6 pm6 an6 cd6 ct6), sl6⟩)
    (c6 : PySem.W.codeIn K cd6 "are_counts" = true)
    (k6 : PySem.W.keepIn K (.ref f6) = true)
    {od7 an7 : Option Addr} {sl7 : Array (Option Value)} {oc7 kV7 dc7 pm7 cd7 ct7 : Value}
    (a7 : PySem.W.nsIn K mainGlobals "worth_of" = some (some (.ref f7)))
    (l7 : K.lookup f7 = some ⟨oc7, od7, .func (PySem.W.fnOf "worth_of" "worth_of" (defArgs s_worth_of) (defBody s_worth_of) (defScope s_worth_of) .none kV7 dc7 pm7 an7 cd7 ct7), sl7⟩)
    (c7 : PySem.W.codeIn K cd7 "worth_of" = true)
    (k7 : PySem.W.keepIn K (.ref f7) = true)
    {od8 an8 : Option Addr} {sl8 : Array (Option Value)} {oc8 kV8 dc8 pm8 cd8 ct8 : Value}
    (a8 : PySem.W.nsIn K mainGlobals "is_floor" = some (some (.ref f8)))
    (l8 : K.lookup f8 = some ⟨oc8, od8, .func (PySem.W.fnOf "is_floor" "is_floor" (defArgs s_is_floor) (defBody s_is_floor) (defScope s_is_floor) .none kV8 dc8 pm8 an8 cd8 ct8), sl8⟩)
    (c8 : PySem.W.codeIn K cd8 "is_floor" = true)
    (k8 : PySem.W.keepIn K (.ref f8) = true)
    {od9 an9 : Option Addr} {sl9 : Array (Option Value)} {oc9 kV9 dc9 pm9 cd9 ct9 : Value}
    (a9 : PySem.W.findIn K (.ref CP) "__init__" = some (some (.ref f9)))
    (i9 : PySem.W.isFn K (.ref f9) = true)
    (l9 : K.lookup f9 = some ⟨oc9, od9, .func (PySem.W.fnOf "__init__" "Paid.__init__" (defArgs s_Paid_init) (defBody s_Paid_init) (defScope s_Paid_init) .none kV9 dc9 pm9 an9 cd9 ct9), sl9⟩)
    (c9 : PySem.W.codeIn K cd9 "Paid.__init__" = true)
    (k9 : PySem.W.keepIn K (.ref f9) = true)
    {od10 an10 : Option Addr} {sl10 : Array (Option Value)} {oc10 kV10 dc10 pm10 cd10 ct10 : Value}
    (a10 : PySem.W.findIn K (.ref CP) "shows" = some (some (.ref f10)))
    (i10 : PySem.W.isFn K (.ref f10) = true)
    (l10 : K.lookup f10 = some ⟨oc10, od10, .func (PySem.W.fnOf "shows" "Paid.shows" (defArgs s_Paid_shows) (defBody s_Paid_shows) (defScope s_Paid_shows) .none kV10 dc10 pm10 an10 cd10 ct10), sl10⟩)
    (c10 : PySem.W.codeIn K cd10 "Paid.shows" = true)
    (k10 : PySem.W.keepIn K (.ref f10) = true)
    {od11 an11 : Option Addr} {sl11 : Array (Option Value)} {oc11 kV11 dc11 pm11 cd11 ct11 : Value}
    (a11 : PySem.W.findIn K (.ref CN) "__init__" = some (some (.ref f11)))
    (i11 : PySem.W.isFn K (.ref f11) = true)
    (l11 : K.lookup f11 = some ⟨oc11, od11, .func (PySem.W.fnOf "__init__" "Never.__init__" (defArgs s_Never_init) (defBody s_Never_init) (defScope s_Never_init) .none kV11 dc11 pm11 an11 cd11 ct11), sl11⟩)
    (c11 : PySem.W.codeIn K cd11 "Never.__init__" = true)
    (k11 : PySem.W.keepIn K (.ref f11) = true)
    {od12 an12 : Option Addr} {sl12 : Array (Option Value)} {oc12 kV12 dc12 pm12 cd12 ct12 : Value}
    (a12 : PySem.W.findIn K (.ref CN) "shows" = some (some (.ref f12)))
    (i12 : PySem.W.isFn K (.ref f12) = true)
    (l12 : K.lookup f12 = some ⟨oc12, od12, .func (PySem.W.fnOf "shows" "Never.shows" (defArgs s_Never_shows) (defBody s_Never_shows) (defScope s_Never_shows) .none kV12 dc12 pm12 an12 cd12 ct12), sl12⟩)
    (c12 : PySem.W.codeIn K cd12 "Never.shows" = true)
    (k12 : PySem.W.keepIn K (.ref f12) = true)
    {od13 an13 : Option Addr} {sl13 : Array (Option Value)} {oc13 kV13 dc13 pm13 cd13 ct13 : Value}
    (a13 : PySem.W.nsIn K mainGlobals "lower" = some (some (.ref f13)))
    (l13 : K.lookup f13 = some ⟨oc13, od13, .func (PySem.W.fnOf "lower" "lower" (defArgs s_lower) (defBody s_lower) (defScope s_lower) .none kV13 dc13 pm13 an13 cd13 ct13), sl13⟩)
    (c13 : PySem.W.codeIn K cd13 "lower" = true)
    (k13 : PySem.W.keepIn K (.ref f13) = true)
    {od14 an14 : Option Addr} {sl14 : Array (Option Value)} {oc14 kV14 dc14 pm14 cd14 ct14 : Value}
    (a14 : PySem.W.nsIn K mainGlobals "led_back" = some (some (.ref f14)))
    (l14 : K.lookup f14 = some ⟨oc14, od14, .func (PySem.W.fnOf "led_back" "led_back" (defArgs s_led_back) (defBody s_led_back) (defScope s_led_back) .none kV14 dc14 pm14 an14 cd14 ct14), sl14⟩)
    (c14 : PySem.W.codeIn K cd14 "led_back" = true)
    (k14 : PySem.W.keepIn K (.ref f14) = true)
    {od15 an15 : Option Addr} {sl15 : Array (Option Value)} {oc15 kV15 dc15 pm15 cd15 ct15 : Value}
    (a15 : PySem.W.nsIn K mainGlobals "paid" = some (some (.ref f15)))
    (l15 : K.lookup f15 = some ⟨oc15, od15, .func (PySem.W.fnOf "paid" "paid" (defArgs s_paid) (defBody s_paid) (defScope s_paid) .none kV15 dc15 pm15 an15 cd15 ct15), sl15⟩)
    (c15 : PySem.W.codeIn K cd15 "paid" = true)
    (k15 : PySem.W.keepIn K (.ref f15) = true)
    {od16 an16 : Option Addr} {sl16 : Array (Option Value)} {oc16 kV16 dc16 pm16 cd16 ct16 : Value}
    (a16 : PySem.W.nsIn K mainGlobals "fewest" = some (some (.ref f16)))
    (l16 : K.lookup f16 = some ⟨oc16, od16, .func (PySem.W.fnOf "fewest" "fewest" (defArgs s_fewest) (defBody s_fewest) (defScope s_fewest) .none kV16 dc16 pm16 an16 cd16 ct16), sl16⟩)
    (c16 : PySem.W.codeIn K cd16 "fewest" = true)
    (k16 : PySem.W.keepIn K (.ref f16) = true)
    {od17 an17 : Option Addr} {sl17 : Array (Option Value)} {oc17 kV17 dc17 pm17 cd17 ct17 : Value}
    (a17 : PySem.W.nsIn K mainGlobals "put" = some (some (.ref f17)))
    (l17 : K.lookup f17 = some ⟨oc17, od17, .func (PySem.W.fnOf "put" "put" (defArgs s_put) (defBody s_put) (defScope s_put) .none kV17 dc17 pm17 an17 cd17 ct17), sl17⟩)
    (c17 : PySem.W.codeIn K cd17 "put" = true)
    (k17 : PySem.W.keepIn K (.ref f17) = true)
    {od18 an18 : Option Addr} {sl18 : Array (Option Value)} {oc18 kV18 dc18 pm18 cd18 ct18 : Value}
    (a18 : PySem.W.nsIn K mainGlobals "ways" = some (some (.ref f18)))
    (l18 : K.lookup f18 = some ⟨oc18, od18, .func (PySem.W.fnOf "ways" "ways" (defArgs s_ways) (defBody s_ways) (defScope s_ways) .none kV18 dc18 pm18 an18 cd18 ct18), sl18⟩)
    (c18 : PySem.W.codeIn K cd18 "ways" = true)
    (k18 : PySem.W.keepIn K (.ref f18) = true)
    {od19 an19 : Option Addr} {sl19 : Array (Option Value)} {oc19 kV19 dc19 pm19 cd19 ct19 : Value}
    (a19 : PySem.W.nsIn K mainGlobals "_law_cell_at" = some (some (.ref f19)))
    (l19 : K.lookup f19 = some ⟨oc19, od19, .func (PySem.W.fnOf "_law_cell_at" "_law_cell_at" (defArgs s__law_cell_at) (defBody s__law_cell_at) (defScope s__law_cell_at) .none kV19 dc19 pm19 an19 cd19 ct19), sl19⟩)
    (c19 : PySem.W.codeIn K cd19 "_law_cell_at" = true)
    (k19 : PySem.W.keepIn K (.ref f19) = true)
    {od20 an20 : Option Addr} {sl20 : Array (Option Value)} {oc20 kV20 dc20 pm20 cd20 ct20 : Value}
    (a20 : PySem.W.nsIn K mainGlobals "_law_draw" = some (some (.ref f20)))
    (l20 : K.lookup f20 = some ⟨oc20, od20, .func (PySem.W.fnOf "_law_draw" "_law_draw" (defArgs s__law_draw) (defBody s__law_draw) (defScope s__law_draw) .none kV20 dc20 pm20 an20 cd20 ct20), sl20⟩)
    (c20 : PySem.W.codeIn K cd20 "_law_draw" = true)
    (k20 : PySem.W.keepIn K (.ref f20) = true)
    {od21 an21 : Option Addr} {sl21 : Array (Option Value)} {oc21 kV21 dc21 pm21 cd21 ct21 : Value}
    (a21 : PySem.W.nsIn K mainGlobals "_law_number" = some (some (.ref f21)))
    (l21 : K.lookup f21 = some ⟨oc21, od21, .func (PySem.W.fnOf "_law_number" "_law_number" (defArgs s__law_number) (defBody s__law_number) (defScope s__law_number) .none kV21 dc21 pm21 an21 cd21 ct21), sl21⟩)
    (c21 : PySem.W.codeIn K cd21 "_law_number" = true)
    (k21 : PySem.W.keepIn K (.ref f21) = true)
    {od22 an22 : Option Addr} {sl22 : Array (Option Value)} {oc22 kV22 dc22 pm22 cd22 ct22 : Value}
    (a22 : PySem.W.nsIn K mainGlobals "_law_deep" = some (some (.ref f22)))
    (l22 : K.lookup f22 = some ⟨oc22, od22, .func (PySem.W.fnOf "_law_deep" "_law_deep" (defArgs s__law_deep) (defBody s__law_deep) (defScope s__law_deep) .none kV22 dc22 pm22 an22 cd22 ct22), sl22⟩)
    (c22 : PySem.W.codeIn K cd22 "_law_deep" = true)
    (k22 : PySem.W.keepIn K (.ref f22) = true)
    {od23 an23 : Option Addr} {sl23 : Array (Option Value)} {oc23 kV23 dc23 pm23 cd23 ct23 : Value}
    (a23 : PySem.W.nsIn K mainGlobals "_law_spoilt" = some (some (.ref f23)))
    (l23 : K.lookup f23 = some ⟨oc23, od23, .func (PySem.W.fnOf "_law_spoilt" "_law_spoilt" (defArgs s__law_spoilt) (defBody s__law_spoilt) (defScope s__law_spoilt) .none kV23 dc23 pm23 an23 cd23 ct23), sl23⟩)
    (c23 : PySem.W.codeIn K cd23 "_law_spoilt" = true)
    (k23 : PySem.W.keepIn K (.ref f23) = true)
    {od24 an24 : Option Addr} {sl24 : Array (Option Value)} {oc24 kV24 dc24 pm24 cd24 ct24 : Value}
    (a24 : PySem.W.nsIn K mainGlobals "_law_put" = some (some (.ref f24)))
    (l24 : K.lookup f24 = some ⟨oc24, od24, .func (PySem.W.fnOf "_law_put" "_law_put" (defArgs s__law_put) (defBody s__law_put) (defScope s__law_put) .none kV24 dc24 pm24 an24 cd24 ct24), sl24⟩)
    (c24 : PySem.W.codeIn K cd24 "_law_put" = true)
    (k24 : PySem.W.keepIn K (.ref f24) = true)
    {od25 an25 : Option Addr} {sl25 : Array (Option Value)} {oc25 kV25 dc25 pm25 cd25 ct25 : Value}
    (a25 : PySem.W.nsIn K mainGlobals "_law_door_right" = some (some (.ref f25)))
    (l25 : K.lookup f25 = some ⟨oc25, od25, .func (PySem.W.fnOf "_law_door_right" "_law_door_right" (defArgs s__law_door_right) (defBody s__law_door_right) (defScope s__law_door_right) .none kV25 dc25 pm25 an25 cd25 ct25), sl25⟩)
    (c25 : PySem.W.codeIn K cd25 "_law_door_right" = true)
    (k25 : PySem.W.keepIn K (.ref f25) = true)
    {od26 an26 : Option Addr} {sl26 : Array (Option Value)} {oc26 kV26 dc26 pm26 cd26 ct26 : Value}
    (a26 : PySem.W.nsIn K mainGlobals "_law_two" = some (some (.ref f26)))
    (l26 : K.lookup f26 = some ⟨oc26, od26, .func (PySem.W.fnOf "_law_two" "_law_two" (defArgs s__law_two) (defBody s__law_two) (defScope s__law_two) .none kV26 dc26 pm26 an26 cd26 ct26), sl26⟩)
    (c26 : PySem.W.codeIn K cd26 "_law_two" = true)
    (k26 : PySem.W.keepIn K (.ref f26) = true)
    {od27 an27 : Option Addr} {sl27 : Array (Option Value)} {oc27 kV27 dc27 pm27 cd27 ct27 : Value}
    (a27 : PySem.W.nsIn K mainGlobals "_law_doors_right" = some (some (.ref f27)))
    (l27 : K.lookup f27 = some ⟨oc27, od27, .func (PySem.W.fnOf "_law_doors_right" "_law_doors_right" (defArgs s__law_doors_right) (defBody s__law_doors_right) (defScope s__law_doors_right) .none kV27 dc27 pm27 an27 cd27 ct27), sl27⟩)
    (c27 : PySem.W.codeIn K cd27 "_law_doors_right" = true)
    (k27 : PySem.W.keepIn K (.ref f27) = true)
    {od28 an28 : Option Addr} {sl28 : Array (Option Value)} {oc28 kV28 dc28 pm28 cd28 ct28 : Value}
    (a28 : PySem.W.nsIn K mainGlobals "_law_paid" = some (some (.ref f28)))
    (l28 : K.lookup f28 = some ⟨oc28, od28, .func (PySem.W.fnOf "_law_paid" "_law_paid" (defArgs s__law_paid) (defBody s__law_paid) (defScope s__law_paid) .none kV28 dc28 pm28 an28 cd28 ct28), sl28⟩)
    (c28 : PySem.W.codeIn K cd28 "_law_paid" = true)
    (k28 : PySem.W.keepIn K (.ref f28) = true)
    {od29 an29 : Option Addr} {sl29 : Array (Option Value)} {oc29 kV29 dc29 pm29 ct29 : Value}
    (a29 : PySem.W.nsIn K mainGlobals "law" = some (some (.ref f29)))
    (l29 : K.lookup f29 = some ⟨oc29, od29, .func (PySem.W.fnOf "law" "law" (defArgs s_law) (defBody s_law) (defScope s_law) .none kV29 dc29 pm29 an29 (.ref cL) ct29), sl29⟩)
    (c29 : PySem.W.codeIn K (.ref cL) "law" = true)
    (k29 : PySem.W.keepIn K (.ref f29) = true)
    (z_isinstance : PySem.W.nsIn K mainGlobals "isinstance" = some none)
    (z_int : PySem.W.nsIn K mainGlobals "int" = some none)
    (z_bool : PySem.W.nsIn K mainGlobals "bool" = some none)
    (z_list : PySem.W.nsIn K mainGlobals "list" = some none)
    (z_len : PySem.W.nsIn K mainGlobals "len" = some none)
    (z_all : PySem.W.nsIn K mainGlobals "all" = some none)
    (z_any : PySem.W.nsIn K mainGlobals "any" = some none)
    (z_zip : PySem.W.nsIn K mainGlobals "zip" = some none)
    (z_range : PySem.W.nsIn K mainGlobals "range" = some none)
    (z_max : PySem.W.nsIn K mainGlobals "max" = some none)
    (z_min : PySem.W.nsIn K mainGlobals "min" = some none)
    (z_abs : PySem.W.nsIn K mainGlobals "abs" = some none)
    (z_sum : PySem.W.nsIn K mainGlobals "sum" = some none)
    (z_enumerate : PySem.W.nsIn K mainGlobals "enumerate" = some none)
    (z_sorted : PySem.W.nsIn K mainGlobals "sorted" = some none)
    (z_set : PySem.W.nsIn K mainGlobals "set" = some none)
    (z_str : PySem.W.nsIn K mainGlobals "str" = some none)
    (z_tuple : PySem.W.nsIn K mainGlobals "tuple" = some none)
    {t_MOST_COINS : Tok}
    (m_MOST_COINS : PySem.W.nsIn K mainGlobals "MOST_COINS" = some (some (.int 6 t_MOST_COINS)))
    {t_GREATEST : Tok}
    (m_GREATEST : PySem.W.nsIn K mainGlobals "GREATEST" = some (some (.int 30 t_GREATEST)))
    {t_MOST : Tok}
    (m_MOST : PySem.W.nsIn K mainGlobals "MOST" = some (some (.int 200 t_MOST)))
    (hh : PySem.W.codeHdIn K cL pL = true)
    (nT : K.lookup pL = none)
    : LawAtG l w K 8 63 "_law_script" mg fa h := by
  have e := hfa.symm.trans (PySem.W.mg_of X G a29)
  cases e
  have B : Blt mg := ⟨PySem.W.mg_none_of X G z_isinstance, PySem.W.mg_none_of X G z_int, PySem.W.mg_none_of X G z_bool, PySem.W.mg_none_of X G z_list, PySem.W.mg_none_of X G z_len, PySem.W.mg_none_of X G z_all, PySem.W.mg_none_of X G z_any, PySem.W.mg_none_of X G z_zip, PySem.W.mg_none_of X G z_range, PySem.W.mg_none_of X G z_max, PySem.W.mg_none_of X G z_min, PySem.W.mg_none_of X G z_abs, PySem.W.mg_none_of X G z_sum, PySem.W.mg_none_of X G z_enumerate, PySem.W.mg_none_of X G z_sorted, PySem.W.mg_none_of X G z_set, PySem.W.mg_none_of X G z_str, PySem.W.mg_none_of X G z_tuple⟩
  have T : Kls K mg CA CP CN := ⟨PySem.W.mg_of X G gA, PySem.W.mg_of X G gP, PySem.W.mg_of X G gN, ⟨pgP, hdP, poP, saP⟩, ⟨pgN, hdN, poN, saN⟩, n_give, n_back, n_heights, n_part, ⟨icP, isp, itk, ioP⟩, ⟨icN, isp, itk, ioN⟩, kPA, kPP, kPN, kNA, kNP, kNN⟩
  have M_MOST_COINS : ∃ t, mg "MOST_COINS" = some (.int 6 t) := ⟨_, PySem.W.mg_of X G m_MOST_COINS⟩
  have M_GREATEST : ∃ t, mg "GREATEST" = some (.int 30 t) := ⟨_, PySem.W.mg_of X G m_GREATEST⟩
  have M_MOST : ∃ t, mg "MOST" = some (.int 200 t) := ⟨_, PySem.W.mg_of X G m_MOST⟩
  refine ⟨PySem.W.fnOf "law" "law" (defArgs s_law) (defBody s_law) (defScope s_law) .none kV29 dc29 pm29 an29 (.ref cL) ct29, cL, pL, sp_law_k07 K [(pL, "law.<locals>.<lambda>")], hT, nT, PySem.W.codeHd_of_K X hh, fun s v => .of_eq rfl, fun H a ns hl hb hTb hS => ⟨a, ns, rfl, hS, hb, hl, fun p hp => by cases List.mem_singleton.mp hp; exact LamX.TabS.nil hTb, fun _ => rfl⟩, fun base TB => ?_⟩
  have F0 := fun_mk (st := s_is_number) l0 c0 k0
  have F1 := fun_mk (st := s_check_coins) l1 c1 k1
  have F2 := fun_mk (st := s_check_amount) l2 c2 k2
  have F3 := fun_mk (st := s_common) l3 c3 k3
  have F4 := fun_mk (st := s_strip) l4 c4 k4
  have F5 := fun_mk (st := s_heights_of) l5 c5 k5
  have F6 := fun_mk (st := s_are_counts) l6 c6 k6
  have F7 := fun_mk (st := s_worth_of) l7 c7 k7
  have F8 := fun_mk (st := s_is_floor) l8 c8 k8
  have F9 := fun_mk (st := s_Paid_init) l9 c9 k9
  have F10 := fun_mk (st := s_Paid_shows) l10 c10 k10
  have F11 := fun_mk (st := s_Never_init) l11 c11 k11
  have F12 := fun_mk (st := s_Never_shows) l12 c12 k12
  have F13 := fun_mk (st := s_lower) l13 c13 k13
  have F14 := fun_mk (st := s_led_back) l14 c14 k14
  have F15 := fun_mk (st := s_paid) l15 c15 k15
  have F16 := fun_mk (st := s_fewest) l16 c16 k16
  have F17 := fun_mk (st := s_put) l17 c17 k17
  have F18 := fun_mk (st := s_ways) l18 c18 k18
  have F19 := fun_mk (st := s__law_cell_at) l19 c19 k19
  have F20 := fun_mk (st := s__law_draw) l20 c20 k20
  have F21 := fun_mk (st := s__law_number) l21 c21 k21
  have F22 := fun_mk (st := s__law_deep) l22 c22 k22
  have F23 := fun_mk (st := s__law_spoilt) l23 c23 k23
  have F24 := fun_mk (st := s__law_put) l24 c24 k24
  have F25 := fun_mk (st := s__law_door_right) l25 c25 k25
  have F26 := fun_mk (st := s__law_two) l26 c26 k26
  have F27 := fun_mk (st := s__law_doors_right) l27 c27 k27
  have F28 := fun_mk (st := s__law_paid) l28 c28 k28
  have CB : ∀ (cl : List (Str × Addr)) (b : Heap) (ws : List (Option V)), NdefX.CellsAt cl FRALL ws b (fun _ => none) → CalG l.prog w K mg b 6 "_law_door_right" ["_law_ask", "_law_lists", "_law_others"] (sp__law_door_right K (LF cl) LE (fun j => spLam7 K CP CN j (WSJ j ws))) ∧ CalG l.prog w K mg b 7 "_law_doors_right" ["_law_asks", "_law_lists", "_law_others"] (sp__law_doors_right K (LF cl) LE (fun j => spLam7 K CP CN j (WSJ j ws))) := fun cl b ws C => by
    have C_is_number := ok_is_number (P := l.prog) (w := w) (base := b) B ⟨f0, _, F0, PySem.W.mg_of X G a0, F0.binds (ps := ["thing"]) fun _ _ _ _ _ _ us hl => match us, hl with | [_], _ => rfl⟩
    have C_check_coins := ok_check_coins (P := l.prog) (w := w) (base := b) B M_MOST_COINS M_GREATEST C_is_number ⟨f1, _, F1, PySem.W.mg_of X G a1, F1.binds (ps := ["coins"]) fun _ _ _ _ _ _ us hl => match us, hl with | [_], _ => rfl⟩
    have C_check_amount := ok_check_amount (P := l.prog) (w := w) (base := b) B C_is_number ⟨f2, _, F2, PySem.W.mg_of X G a2, F2.binds (ps := ["amount", "most"]) fun _ _ _ _ _ _ us hl => match us, hl with | [_, _], _ => rfl⟩
    have C_common := ok_common (P := l.prog) (w := w) (base := b) B ⟨f3, _, F3, PySem.W.mg_of X G a3, F3.binds (ps := ["numbers"]) fun _ _ _ _ _ _ us hl => match us, hl with | [_], _ => rfl⟩
    have C_strip := ok_strip (P := l.prog) (w := w) (base := b) B ⟨f4, _, F4, PySem.W.mg_of X G a4, F4.binds (ps := ["coins", "amount"]) fun _ _ _ _ _ _ us hl => match us, hl with | [_, _], _ => rfl⟩
    have C_heights_of := ok_heights_of (P := l.prog) (w := w) (base := b) B C_strip ⟨f5, _, F5, PySem.W.mg_of X G a5, F5.binds (ps := ["coins", "amount"]) fun _ _ _ _ _ _ us hl => match us, hl with | [_, _], _ => rfl⟩
    have C_are_counts := ok_are_counts (P := l.prog) (w := w) (base := b) B C_is_number ⟨f6, _, F6, PySem.W.mg_of X G a6, F6.binds (ps := ["some", "coins"]) fun _ _ _ _ _ _ us hl => match us, hl with | [_, _], _ => rfl⟩
    have C_worth_of := ok_worth_of (P := l.prog) (w := w) (base := b) B ⟨f7, _, F7, PySem.W.mg_of X G a7, F7.binds (ps := ["counts", "coins"]) fun _ _ _ _ _ _ us hl => match us, hl with | [_, _], _ => rfl⟩
    have C_is_floor := ok_is_floor (P := l.prog) (w := w) (base := b) B C_strip ⟨f8, _, F8, PySem.W.mg_of X G a8, F8.binds (ps := ["coins", "amount", "heights"]) fun _ _ _ _ _ _ us hl => match us, hl with | [_, _, _], _ => rfl⟩
    have C_Paid_init := ok_Paid_init (P := l.prog) (w := w) (base := b) B T F9 ⟨mkP, a9, i9, kcP⟩ (F9.binds (ps := ["self", "give", "back", "heights"]) fun _ _ _ _ _ _ us hl => match us, hl with | [_, _, _, _], _ => rfl)
    have C_Paid_shows := ok_Paid_shows (P := l.prog) (w := w) (base := b) B T C_are_counts C_worth_of C_is_floor F10 ⟨a10, i10, k10⟩ (F10.binds (ps := ["self", "coins", "amount"]) fun _ _ _ _ _ _ us hl => match us, hl with | [_, _, _], _ => rfl)
    have C_Never_init := ok_Never_init (P := l.prog) (w := w) (base := b) B T F11 ⟨mkN, a11, i11, kcN⟩ (F11.binds (ps := ["self", "part"]) fun _ _ _ _ _ _ us hl => match us, hl with | [_, _], _ => rfl)
    have C_Never_shows := ok_Never_shows (P := l.prog) (w := w) (base := b) B T F12 ⟨a12, i12, k12⟩ (F12.binds (ps := ["self", "coins", "amount"]) fun _ _ _ _ _ _ us hl => match us, hl with | [_, _, _], _ => rfl)
    have C_lower := ok_lower (P := l.prog) (w := w) (base := b) B ⟨f13, _, F13, PySem.W.mg_of X G a13, F13.binds (ps := ["coins", "heights", "place"]) fun _ _ _ _ _ _ us hl => match us, hl with | [_, _, _], _ => rfl⟩
    have C_led_back := ok_led_back (P := l.prog) (w := w) (base := b) B C_lower ⟨f14, _, F14, PySem.W.mg_of X G a14, F14.binds (ps := ["coins", "heights", "place"]) fun _ _ _ _ _ _ us hl => match us, hl with | [_, _, _], _ => rfl⟩
    have C_paid := ok_paid (P := l.prog) (w := w) (base := b) B T M_MOST C_check_coins C_check_amount C_common C_Never_init C_heights_of C_led_back C_Paid_init ⟨f15, _, F15, PySem.W.mg_of X G a15, F15.binds (ps := ["coins", "amount"]) fun _ _ _ _ _ _ us hl => match us, hl with | [_, _], _ => rfl⟩
    have C_fewest := ok_fewest (P := l.prog) (w := w) (base := b) B C_check_coins C_check_amount C_common C_heights_of ⟨f16, _, F16, PySem.W.mg_of X G a16, F16.binds (ps := ["coins", "amount"]) fun _ _ _ _ _ _ us hl => match us, hl with | [_, _], _ => rfl⟩
    have C_put := ok_put (P := l.prog) (w := w) (base := b) B ⟨f17, _, F17, PySem.W.mg_of X G a17, F17.binds (ps := ["table", "worth", "many"]) fun _ _ _ _ _ _ us hl => match us, hl with | [_, _, _], _ => rfl⟩
    have C_ways := ok_ways (P := l.prog) (w := w) (base := b) B M_MOST C_check_coins C_check_amount C_common C_heights_of C_put ⟨f18, _, F18, PySem.W.mg_of X G a18, F18.binds (ps := ["coins", "amount"]) fun _ _ _ _ _ _ us hl => match us, hl with | [_, _], _ => rfl⟩
    have C__law_cell_at := ok__law_cell_at (P := l.prog) (w := w) (base := b) B ⟨f19, _, F19, PySem.W.mg_of X G a19, F19.binds (ps := ["_law_script", "_law_k"]) fun _ _ _ _ _ _ us hl => match us, hl with | [_, _], _ => rfl⟩
    have C__law_draw := ok__law_draw (P := l.prog) (w := w) (base := b) B ⟨f20, _, F20, PySem.W.mg_of X G a20, F20.binds (ps := ["_law_cell", "_law_k", "_law_most"]) fun _ _ _ _ _ _ us hl => match us, hl with | [_, _, _], _ => rfl⟩
    have C__law_number := ok__law_number (P := l.prog) (w := w) (base := b) B C__law_draw ⟨f21, _, F21, PySem.W.mg_of X G a21, F21.binds (ps := ["_law_cell", "_law_k", "_law_limit"]) fun _ _ _ _ _ _ us hl => match us, hl with | [_, _, _], _ => rfl⟩
    have C__law_deep := ok__law_deep (P := l.prog) (w := w) (base := b) B ⟨f22, _, F22, PySem.W.mg_of X G a22, F22.binds (ps := ["_law_thing"]) fun _ _ _ _ _ _ us hl => match us, hl with | [_], _ => rfl⟩
    have C__law_spoilt := ok__law_spoilt (P := l.prog) (w := w) (base := b) B ⟨f23, _, F23, PySem.W.mg_of X G a23, F23.binds (ps := ["_law_found"]) fun _ _ _ _ _ _ us hl => match us, hl with | [_], _ => rfl⟩
    have C__law_put := ok__law_put (P := l.prog) (w := w) (base := b) B C__law_deep ⟨f24, _, F24, PySem.W.mg_of X G a24, F24.binds (ps := ["_law_handed", "_law_some"]) fun _ _ _ _ _ _ us hl => match us, hl with | [_, _], _ => rfl⟩
    have C__law_two := ok__law_two (P := l.prog) (w := w) (base := b) B ⟨f26, _, F26, PySem.W.mg_of X G a26, F26.binds (ps := ["_law_found"]) fun _ _ _ _ _ _ us hl => match us, hl with | [_], _ => rfl⟩
    have C__law_paid := ok__law_paid (P := l.prog) (w := w) (base := b) B T C_paid C_Paid_shows C_Never_shows ⟨f28, _, F28, PySem.W.mg_of X G a28, F28.binds (ps := ["_law_coins", "_law_amount"]) fun _ _ _ _ _ _ us hl => match us, hl with | [_, _], _ => rfl⟩
    have LK : ∀ j f c', LOk l.prog w K mg b CX0 5 f (LF cl j c') (LE j) (LP j) (FR j) (spLam7 K CP CN j) := fun j f c' => match j with | 0 => lam_0 B C__law_paid cl f c' | 1 => lam_1 B C__law_two C_fewest cl f c' | 2 => lam_2 B C__law_two C_ways cl f c' | 3 => lam_3 B T C__law_two C_Paid_shows cl f c' | 4 => lam_4 B T C__law_two C_Never_init C_Never_shows cl f c' | 5 => lam_5 B C__law_paid cl f c' | _ + 6 => lam_never fun vs H Q E h => h
    have hcl : ∀ j c', NdefX.CellsAt (LF cl j c').cl (FR j) (WSJ j ws) b (fun _ => none) := fun j c' => match j with | 0 => clo_0 C c' | 1 => clo_1 C c' | 2 => clo_2 C c' | 3 => clo_3 C c' | 4 => clo_4 C c' | 5 => clo_5 C c' | _ + 6 => clo_5 C c'
    have C__law_door_right := ok__law_door_right (P := l.prog) (w := w) (base := b) B LK hcl C__law_deep C__law_spoilt C__law_put ⟨f25, _, F25, PySem.W.mg_of X G a25, F25.binds (ps := ["_law_ask", "_law_lists", "_law_others"]) fun _ _ _ _ _ _ us hl => match us, hl with | [_, _, _], _ => rfl⟩
    have C__law_doors_right := ok__law_doors_right (P := l.prog) (w := w) (base := b) B C__law_door_right ⟨f27, _, F27, PySem.W.mg_of X G a27, F27.binds (ps := ["_law_asks", "_law_lists", "_law_others"]) fun _ _ _ _ _ _ us hl => match us, hl with | [_, _, _], _ => rfl⟩
    exact ⟨C__law_door_right, C__law_doors_right⟩
  have HM__law_door_right : ∃ f, mg "_law_door_right" = some (.ref f) ∧ PySem.W.keepIn K (.ref f) = true := ⟨f25, PySem.W.mg_of X G a25, k25⟩
  have HM__law_doors_right : ∃ f, mg "_law_doors_right" = some (.ref f) ∧ PySem.W.keepIn K (.ref f) = true := ⟨f27, PySem.W.mg_of X G a27, k27⟩
  have C_is_number := ok_is_number (P := l.prog) (w := w) (base := base) B ⟨f0, _, F0, PySem.W.mg_of X G a0, F0.binds (ps := ["thing"]) fun _ _ _ _ _ _ us hl => match us, hl with | [_], _ => rfl⟩
  have C_check_coins := ok_check_coins (P := l.prog) (w := w) (base := base) B M_MOST_COINS M_GREATEST C_is_number ⟨f1, _, F1, PySem.W.mg_of X G a1, F1.binds (ps := ["coins"]) fun _ _ _ _ _ _ us hl => match us, hl with | [_], _ => rfl⟩
  have C_check_amount := ok_check_amount (P := l.prog) (w := w) (base := base) B C_is_number ⟨f2, _, F2, PySem.W.mg_of X G a2, F2.binds (ps := ["amount", "most"]) fun _ _ _ _ _ _ us hl => match us, hl with | [_, _], _ => rfl⟩
  have C_common := ok_common (P := l.prog) (w := w) (base := base) B ⟨f3, _, F3, PySem.W.mg_of X G a3, F3.binds (ps := ["numbers"]) fun _ _ _ _ _ _ us hl => match us, hl with | [_], _ => rfl⟩
  have C_strip := ok_strip (P := l.prog) (w := w) (base := base) B ⟨f4, _, F4, PySem.W.mg_of X G a4, F4.binds (ps := ["coins", "amount"]) fun _ _ _ _ _ _ us hl => match us, hl with | [_, _], _ => rfl⟩
  have C_heights_of := ok_heights_of (P := l.prog) (w := w) (base := base) B C_strip ⟨f5, _, F5, PySem.W.mg_of X G a5, F5.binds (ps := ["coins", "amount"]) fun _ _ _ _ _ _ us hl => match us, hl with | [_, _], _ => rfl⟩
  have C_Paid_init := ok_Paid_init (P := l.prog) (w := w) (base := base) B T F9 ⟨mkP, a9, i9, kcP⟩ (F9.binds (ps := ["self", "give", "back", "heights"]) fun _ _ _ _ _ _ us hl => match us, hl with | [_, _, _, _], _ => rfl)
  have C_Never_init := ok_Never_init (P := l.prog) (w := w) (base := base) B T F11 ⟨mkN, a11, i11, kcN⟩ (F11.binds (ps := ["self", "part"]) fun _ _ _ _ _ _ us hl => match us, hl with | [_, _], _ => rfl)
  have C_lower := ok_lower (P := l.prog) (w := w) (base := base) B ⟨f13, _, F13, PySem.W.mg_of X G a13, F13.binds (ps := ["coins", "heights", "place"]) fun _ _ _ _ _ _ us hl => match us, hl with | [_, _, _], _ => rfl⟩
  have C_led_back := ok_led_back (P := l.prog) (w := w) (base := base) B C_lower ⟨f14, _, F14, PySem.W.mg_of X G a14, F14.binds (ps := ["coins", "heights", "place"]) fun _ _ _ _ _ _ us hl => match us, hl with | [_, _, _], _ => rfl⟩
  have C_paid := ok_paid (P := l.prog) (w := w) (base := base) B T M_MOST C_check_coins C_check_amount C_common C_Never_init C_heights_of C_led_back C_Paid_init ⟨f15, _, F15, PySem.W.mg_of X G a15, F15.binds (ps := ["coins", "amount"]) fun _ _ _ _ _ _ us hl => match us, hl with | [_, _], _ => rfl⟩
  have C__law_cell_at := ok__law_cell_at (P := l.prog) (w := w) (base := base) B ⟨f19, _, F19, PySem.W.mg_of X G a19, F19.binds (ps := ["_law_script", "_law_k"]) fun _ _ _ _ _ _ us hl => match us, hl with | [_, _], _ => rfl⟩
  have C__law_draw := ok__law_draw (P := l.prog) (w := w) (base := base) B ⟨f20, _, F20, PySem.W.mg_of X G a20, F20.binds (ps := ["_law_cell", "_law_k", "_law_most"]) fun _ _ _ _ _ _ us hl => match us, hl with | [_, _, _], _ => rfl⟩
  have C__law_number := ok__law_number (P := l.prog) (w := w) (base := base) B C__law_draw ⟨f21, _, F21, PySem.W.mg_of X G a21, F21.binds (ps := ["_law_cell", "_law_k", "_law_limit"]) fun _ _ _ _ _ _ us hl => match us, hl with | [_, _, _], _ => rfl⟩
  exact ok_law B T (fun cl b ws C => (CB cl b ws C).2) HM__law_doors_right (fun cl b ws C => (CB cl b ws C).1) HM__law_door_right C__law_number C__law_cell_at C_paid TB l29 c29
end Cb
open PySem PySem.W PyProof.Rows
set_option maxRecDepth 100000 in
set_option maxHeartbeats 0 in
theorem PySem.Challenge.cw_changeback_k07_whole_anew_holds : PySem.Challenge.rw_changeback_k07_whole_anew.Holds := by
  w_on; o_law; k_head; (case hw => w_witness2)
  k_fill
  refine Cb.walk_g (l := PySem.Challenge.rw_changeback_k07_whole_anew) (n := 63) (k := 8) (x := "_law_script") rfl (by decide) rfl ⟨rfl, by decide, by decide⟩ (fun w h Y => PySem.W.km_in_of Y) ?F
  case F =>
    intro w mg fa h Y KX G hmg
    refine' Cb.all_mk KX G hmg (PySem.W.km_tabs_of Y _ (List.Mem.head _)) ?gA ?gP ?gN ?pgP ?hdP ?poP ?saP ?mkP ?kcP ?icP ?ioP ?pgN ?hdN ?poN ?saN ?mkN ?kcN ?icN ?ioN ?isp ?itk ?n_give ?n_back ?n_heights ?n_part ?kPA ?kPP ?kPN ?kNA ?kNP ?kNN ?a0 ?l0 ?c0 ?k0 ?a1 ?l1 ?c1 ?k1 ?a2 ?l2 ?c2 ?k2 ?a3 ?l3 ?c3 ?k3 ?a4 ?l4 ?c4 ?k4 ?a5 ?l5 ?c5 ?k5 ?a6 ?l6 ?c6 ?k6 ?a7 ?l7 ?c7 ?k7 ?a8 ?l8 ?c8 ?k8 ?a9 ?i9 ?l9 ?c9 ?k9 ?a10 ?i10 ?l10 ?c10 ?k10 ?a11 ?i11 ?l11 ?c11 ?k11 ?a12 ?i12 ?l12 ?c12 ?k12 ?a13 ?l13 ?c13 ?k13 ?a14 ?l14 ?c14 ?k14 ?a15 ?l15 ?c15 ?k15 ?a16 ?l16 ?c16 ?k16 ?a17 ?l17 ?c17 ?k17 ?a18 ?l18 ?c18 ?k18 ?a19 ?l19 ?c19 ?k19 ?a20 ?l20 ?c20 ?k20 ?a21 ?l21 ?c21 ?k21 ?a22 ?l22 ?c22 ?k22 ?a23 ?l23 ?c23 ?k23 ?a24 ?l24 ?c24 ?k24 ?a25 ?l25 ?c25 ?k25 ?a26 ?l26 ?c26 ?k26 ?a27 ?l27 ?c27 ?k27 ?a28 ?l28 ?c28 ?k28 ?a29 ?l29 ?c29 ?k29 ?z_isinstance ?z_int ?z_bool ?z_list ?z_len ?z_all ?z_any ?z_zip ?z_range ?z_max ?z_min ?z_abs ?z_sum ?z_enumerate ?z_sorted ?z_set ?z_str ?z_tuple ?m_MOST_COINS ?m_GREATEST ?m_MOST ?hh ?nT
    (case gA => k_is); (case gP => k_is); (case gN => k_is); (case pgP => k_is); (case hdP => k_is); (case poP => k_is); (case saP => k_is); (case mkP => k_is)
    (case kcP => k_is); (case icP => k_is); (case ioP => k_is); (case pgN => k_is); (case hdN => k_is); (case poN => k_is); (case saN => k_is); (case mkN => k_is)
    (case kcN => k_is); (case icN => k_is); (case ioN => k_is); (case isp => k_is); (case itk => k_is); (case n_give => k_is); (case n_back => k_is); (case n_heights => k_is)
    (case n_part => k_is); (case kPA => kit_is); (case kPP => kit_is); (case kPN => kit_is); (case kNA => kit_is); (case kNP => kit_is); (case kNN => kit_is); (case a0 => k_is)
    (case l0 => k_is); (case c0 => k_is); (case k0 => k_is); (case a1 => k_is); (case l1 => k_is); (case c1 => k_is); (case k1 => k_is); (case a2 => k_is)
    (case l2 => k_is); (case c2 => k_is); (case k2 => k_is); (case a3 => k_is); (case l3 => k_is); (case c3 => k_is); (case k3 => k_is); (case a4 => k_is)
    (case l4 => k_is); (case c4 => k_is); (case k4 => k_is); (case a5 => k_is); (case l5 => k_is); (case c5 => k_is); (case k5 => k_is); (case a6 => k_is)
    (case l6 => k_is); (case c6 => k_is); (case k6 => k_is); (case a7 => k_is); (case l7 => k_is); (case c7 => k_is); (case k7 => k_is); (case a8 => k_is)
    (case l8 => k_is); (case c8 => k_is); (case k8 => k_is); (case a9 => k_is); (case i9 => k_is); (case l9 => k_is); (case c9 => k_is); (case k9 => k_is)
    (case a10 => k_is); (case i10 => k_is); (case l10 => k_is); (case c10 => k_is); (case k10 => k_is); (case a11 => k_is); (case i11 => k_is); (case l11 => k_is)
    (case c11 => k_is); (case k11 => k_is); (case a12 => k_is); (case i12 => k_is); (case l12 => k_is); (case c12 => k_is); (case k12 => k_is); (case a13 => k_is)
    (case l13 => k_is); (case c13 => k_is); (case k13 => k_is); (case a14 => k_is); (case l14 => k_is); (case c14 => k_is); (case k14 => k_is); (case a15 => k_is)
    (case l15 => k_is); (case c15 => k_is); (case k15 => k_is); (case a16 => k_is); (case l16 => k_is); (case c16 => k_is); (case k16 => k_is); (case a17 => k_is)
    (case l17 => k_is); (case c17 => k_is); (case k17 => k_is); (case a18 => k_is); (case l18 => k_is); (case c18 => k_is); (case k18 => k_is); (case a19 => k_is)
    (case l19 => k_is); (case c19 => k_is); (case k19 => k_is); (case a20 => k_is); (case l20 => k_is); (case c20 => k_is); (case k20 => k_is); (case a21 => k_is)
    (case l21 => k_is); (case c21 => k_is); (case k21 => k_is); (case a22 => k_is); (case l22 => k_is); (case c22 => k_is); (case k22 => k_is); (case a23 => k_is)
    (case l23 => k_is); (case c23 => k_is); (case k23 => k_is); (case a24 => k_is); (case l24 => k_is); (case c24 => k_is); (case k24 => k_is); (case a25 => k_is)
    (case l25 => k_is); (case c25 => k_is); (case k25 => k_is); (case a26 => k_is); (case l26 => k_is); (case c26 => k_is); (case k26 => k_is); (case a27 => k_is)
    (case l27 => k_is); (case c27 => k_is); (case k27 => k_is); (case a28 => k_is); (case l28 => k_is); (case c28 => k_is); (case k28 => k_is); (case a29 => k_is)
    (case l29 => k_is); (case c29 => k_is); (case k29 => k_is); (case z_isinstance => k_is); (case z_int => k_is); (case z_bool => k_is); (case z_list => k_is); (case z_len => k_is)
    (case z_all => k_is); (case z_any => k_is); (case z_zip => k_is); (case z_range => k_is); (case z_max => k_is); (case z_min => k_is); (case z_abs => k_is); (case z_sum => k_is)
    (case z_enumerate => k_is); (case z_sorted => k_is); (case z_set => k_is); (case z_str => k_is); (case z_tuple => k_is); (case m_MOST_COINS => k_is); (case m_GREATEST => k_is); (case m_MOST => k_is)
    (case hh => kernel_rfl); (case nT => kernel_rfl)
