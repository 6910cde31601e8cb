import PyProof.Rows.All
import Wide.All
import OpenK.AllK
import Wide.FinOn
import HandS.ForMost
import HandS.ForExc
import HandS.IsInst
import HandS.Strs
import HandS.Wide
import HandS.EndBits
import HandS.ExcInit
import HandS.ExcSuper
import HandS.ExcField
import HandS.ExcIs
import KE.KSuper
import PyProof.ExcBaseAll.LookupError
import PyProof.Rows.FactsExc_KeyError
import KE.KOpsOwn
import HandS.ClsMeth
import KE.KExcIs
import PyProof.ReprRoads
import PyProof.InstNe
import HandS.Defaults
import HandS.Walk
import KE.KDictKeyed
import KE.KDictDisplayH
import HandS.Spec
import HandS.Deep
import HandS.TupAny
import HandS.TupMul
import HandS.SetFor
import HandS.Star
import PyProof.Rows.FactsB_or
import PyProof.Rows.FactsB_and
import PyProof.FactsInt2
import HandS.OwnEq
import HandS.Property
import HandS.More
import HandS.Style
import HandS.Bytes
import HandS.BytesMake
import HandS.TryMany
import HandS.TryOnly
import HandS.Iter
import KE.GoesMore
import HandS.Dict
import KE.KDictCopyH
import KE.KDictAny
import KE.KDictAnyGet
import KE.KEqDict
import KE.KDictLaw
import HandS.DictComp
import HandS.Zip
import KE.KParD
import HandS.HeadWalk
import KE.KCallOwn
import HandS.RevRange
import HandS.Conv
import HandS.Small
import HandS.SortInts
import HandS.GenList
import HandS.Comp
import HandS.RaiseMore
import PyProof.Rows.StrMeet
import HandS.SuiteRaise
import HandS.RaiseFrom
import HandS.ExcInitHot
import KE.KTryMore
import KE.DataMinKey
import HandS.TupLen
import HandS.ReplaceLit
import PySem.Challenge.RW_trustedpages_k73_texts_refused
set_option Elab.async false
set_option linter.all false
set_option maxRecDepth 100000
set_option maxHeartbeats 4000000
namespace TP
open PySem PySem.Spec PyProof.Rows L2

def rPlus : R2 := fun x y H Q => rI0 (fun i j => .int (i + j)) x y H Q ∨ (∃ i j, x = .str i ∧ y = .str j ∧ i.length + j.length ≤ sizeLine ∧ Q (.str (i ++ j)) H) ∨ rCat x y H Q
def rMinus : R2 := rI0 fun i j => .int (i - j)
def rTimes : R2 := fun x y H Q => rI CMul (fun i j => .int (i * j)) x y H Q ∨ rRep x y H Q
def rRest : R2 := rI (fun _ j => 0 < j) fun i j => .int (i % j)
def rQuot : R2 := rI CDivW fun i j => .int (i / j)
def rPow : R2 := rI CPow fun i j => .int (i ^ j.toNat)
def rLess : R2 := rI0 fun i j => .bl (decide (i < j))
def rMore : R2 := rI0 fun i j => .bl (decide (j < i))
def rGeq : R2 := rI0 fun i j => .bl (decide (j ≤ i))
def rSame (K : PySem.W.Frag) : R2 := fun x y H Q => rEq x y H Q ∨ rEqD K x y H Q
def rUnlike (K : PySem.W.Frag) : R2 := fun x y H Q => rNe x y H Q ∨ rNeD K x y H Q
def rIsNo : R2 := fun x y H Q => y = .non ∧ Q (.bl (decide (x = .non))) H
def rNeg : V → Hp → VK → Prop := rU fun i => .int (-i)
def rLen (K : PySem.W.Frag) : List V → Hp → VK → Prop := fun xs H Q => ∃ x n, xs = [x] ∧ LenV K x H n ∧ Q (.int n) H
def rInt1 : List V → Hp → VK → Prop := fun xs H Q => (∃ i, xs = [.int i] ∧ Q (.int i) H) ∨ ∃ k, xs = [.bl k] ∧ Q (.int (if k then 1 else 0)) H
def rSplit : V → List V → Hp → VK → Prop := fun x xs H Q => ∃ a b, x = .str a ∧ xs = [.str b] ∧ (b.length == 0) = false ∧ a.length + 2 ≤ sizeLine ∧ rNewStrs (Txt.split a b) H Q
def rJoin (K : PySem.W.Frag) : V → List V → Hp → VK → Prop := fun x xs H Q => ∃ a p, ∃ ys : List Str, x = .str a ∧ xs = [.ref p] ∧ (SqL K H p (ys.map V.str) ∨ SqT K H p (ys.map V.str)) ∧
    (ys.map (·.length)).sum + ys.length * a.length ≤ 16777216 ∧ Q (.str (Txt.join a ys)) H
section
variable {X : Cx}
theorem op_plus : OpR X (binaryOp .Add) rPlus := op_add.or (op_add_str.or op_cat)
theorem op_minus : OpR X (binaryOp .Sub) rMinus := op_sub
theorem op_times : OpR X (binaryOp .Mult) rTimes := op_mul.or op_rep
theorem op_rest : OpR X (binaryOp .Mod) rRest := op_mod
theorem op_quot : OpR X (binaryOp .FloorDiv) rQuot := op_fdivW
theorem op_power : OpR X (binaryOp .Pow) rPow := op_pow
theorem op_less : OpR X (compareOp .Lt) rLess := op_lt
theorem op_more : OpR X (compareOp .Gt) rMore := op_gt
theorem op_geq : OpR X (compareOp .GtE) rGeq := op_ge
theorem op_same (hu : X.A.units + 64 < cLine) : OpR X (compareOp .Eq) (rSame X.K) := op_eq.or (op_eqD hu)
theorem op_unlike (hu : X.A.units + 64 < cLine) : OpR X (compareOp .NotEq) (rUnlike X.K) := op_ne.or (op_neD hu)
theorem op_isno : OpR X (compareOp .Is) rIsNo := op_isN
theorem un_minus : UnR X (unaryOp .USub) rNeg := un_neg
theorem cr_len : CallR X (.builtin "len") (rLen X.K) := call_len
theorem cr_int1 : CallR X (.type "int") rInt1 := call_int1
end

structure FunI (K : PySem.W.Frag) (mg : Str → Option Value) (x : Str) (st : Stmt) (ps : List Str) : Prop where
  ex : ∃ (f : Addr) (fd : FuncData), mg x = some (.ref f) ∧ Fun K x x st f fd ∧ Binds K fd ps []
structure FnI (P : Program) (w : World) (K : PySem.W.Frag) (mg : Str → Option Value) (base : Heap) (CX : CXT) (k : Nat) (x : Str) (ps : List Str) (sp : Sp) : Prop where
  ex : ∃ (f : Addr) (fd : FuncData), mg x = some (.ref f) ∧ PySem.W.keepIn K (.ref f) = true ∧ FnOk P w K mg base CX k f fd ps sp ∧ Binds K fd ps []
section
variable {P : Program} {w : World} {K : PySem.W.Frag} {mg : Str → Option Value} {base : Heap}
theorem FunI.ok {x : Str} {st : Stmt} {N ps : List Str} {k : Nat} {sp : Sp} (F : FunI K mg x st ps) (S : FnScope N ps (defScope st)) (len : ∀ vs H Q E, sp vs H Q E → vs.length = ps.length) {t : TS}
    (hd : ∀ (f : Addr) (cdv : Value) (A : Around) (outer : List Env) (s : Shared) (H : Hp) (E : XK), Room k (A.deeper (envOfC x (defScope st) s.heap.objs.size f cdv)) →
      PSs (cxOf CX0 P w K mg base N x (defScope st) f cdv A outer s H E).nox (defBody st) t)
    (hb : ∀ (H : Hp) (vs : List V) (Q : VK) (E : XK), sp vs H Q E → t { nx := fun _ H' => Q .non H', rt := Q } (start N vs) H) : FnI P w K mg base CX0 (k + 1) x ps sp := by
  obtain ⟨f, fd, hm, F, b⟩ := F.ex
  exact ⟨f, fd, hm, F.kp, F.ok S len fun cdv A outer s H vs Q E hr h => ⟨t, hd f cdv A outer s H E hr, hb H vs Q E h⟩, b⟩
end
section
variable {X : Cx} {CX : CXT} {k j : Nat} {ps : List Str} {sp : Sp} {E : XK} {x : Str} {p pos : Pos} {e : Expr} {es : List Expr} {t : TA}
end
theorem pe_globA {X : Cx} {x : Str} {a : Addr} {pos : Pos} (h : X.mg x = some (.ref a)) (hg : Gl X x := by rfl) (hd : (x == ("__debug__" : Str)) = false := by decide) : PE X (.Name x pos) (tC (.ref a)) := pe_glob hg h rfl hd
end TP

namespace TP
open PySem PySem.Spec PyProof.Rows L2
def met {κ : Type} [DecidableEq κ] : List κ → List κ
  | [] => []
  | x :: r => if x ∈ met r then met r else x :: met r
/-- the keys met in the first i ones, in turn -/
def metTo {κ : Type} [DecidableEq κ] (f : Nat → κ) : Nat → List κ
  | 0 => []
  | i + 1 => if f i ∈ metTo f i then metTo f i else f i :: metTo f i
section
variable {κ : Type} [DecidableEq κ]
theorem metTo_len (f : Nat → κ) : ∀ i, (metTo f i).length ≤ i
  | 0 => Nat.le_refl _
  | i + 1 => by
    have ih := metTo_len f i
    unfold metTo
    split
    · omega
    · simp only [List.length_cons]; omega
theorem metTo_mem (f : Nat → κ) (k : κ) : ∀ i, k ∈ metTo f i ↔ ∃ j, j < i ∧ f j = k
  | 0 => by simp [metTo]
  | i + 1 => by
    have ih := metTo_mem f k i
    have step : (∃ j, j < i + 1 ∧ f j = k) ↔ (∃ j, j < i ∧ f j = k) ∨ f i = k := by
      constructor
      · rintro ⟨j, hj, e⟩
        by_cases q : j = i
        · subst q; exact .inr e
        · exact .inl ⟨j, by omega, e⟩
      · rintro (⟨j, hj, e⟩ | e)
        · exact ⟨j, by omega, e⟩
        · exact ⟨i, by omega, e⟩
    rw [step, ← ih]
    show k ∈ (if f i ∈ metTo f i then metTo f i else f i :: metTo f i) ↔ _
    split
    · rename_i h
      constructor
      · exact .inl
      · rintro (q | q)
        · exact q
        · rw [← q]; exact h
    · simp only [List.mem_cons]
      constructor
      · rintro (q | q)
        · exact .inr q.symm
        · exact .inl q
      · rintro (q | q)
        · exact .inr q
        · exact .inl q.symm
theorem metTo_full (f : Nat → κ) : ∀ i, (metTo f i).length = i ↔ ∀ a b, a < b → b < i → f a ≠ f b
  | 0 => by simp [metTo]
  | i + 1 => by
    have ih := metTo_full f i
    have le := metTo_len f i
    have mm := metTo_mem f (f i) i
    show (if f i ∈ metTo f i then metTo f i else f i :: metTo f i).length = i + 1 ↔ _
    split
    · rename_i h
      constructor
      · intro q; omega
      · intro q
        obtain ⟨j, hj, e⟩ := mm.mp h
        exact absurd e (q j i hj (Nat.lt_succ_self _))
    · rename_i h
      constructor
      · intro q a b hab hb
        have q' : (metTo f i).length = i := by simpa using q
        by_cases z : b = i
        · subst z
          exact fun e => h (mm.mpr ⟨a, hab, e⟩)
        · exact ih.mp q' a b hab (by omega)
      · intro q
        have q' := ih.mpr fun a b hab hb => q a b hab (by omega)
        simp only [List.length_cons, q']
theorem metTo_list (xs : List κ) (d : κ) : (metTo (fun i => xs.getD i d) xs.length).length = xs.length ↔ xs.Nodup := by
  rw [metTo_full]
  constructor
  · intro h
    rw [List.nodup_iff_pairwise_ne, List.pairwise_iff_getElem]
    intro i j hi hj hij
    have z := h i j hij hj
    simpa [List.getD, hi, hj] using z
  · intro h a b hab hb e
    rw [List.nodup_iff_pairwise_ne, List.pairwise_iff_getElem] at h
    have ha : a < xs.length := by omega
    exact h a b ha hb hab (by simpa [List.getD, ha, hb] using e)
end
abbrev nset (led : Bool) : Obj := { cls := .type "set", dict := none, data := .set #[] 0 (.fresh 0 0 led) }
section
variable {prog : Program} {w : World} {κ : Type} [DecidableEq κ]
theorem setOf_as {knd : PySem.KeyKind prog w κ} {h : Heap} {a : Addr} {S S' : κ → Bool} {n n' : Nat} (hS : h.SetOf knd a S n) (e : ∀ k, S k = S' k) (en : n = n') : h.SetOf knd a S' n' := by
  obtain rfl : S = S' := funext e
  subst en
  exact hS
section
variable {A : Around} {R : Result → Shared → Prop} {I : Addr} {fp wr : List Addr} {G : Array GenState → Array GenState → Prop} {n : Nat} {P : Nat → Value → Prop} {St : Nat → Shared → Prop}
theorem set_loop (knd : PySem.KeyKind prog w κ) (W : WalksS prog w A.in1 I fp wr G n P St) (a : Addr) (hf : a ∉ fp) (f : Nat → κ) (hval : ∀ i v, P i v → knd.is (f i) v = true ∧ v.scannable = true) (hb : n + 1 < scanBound) :
    ∀ (k i : Nat) (s : Shared), n - i = k → i ≤ n → St i s → s.heap.SetOf knd a (fun z => decide (z ∈ metTo f i)) (metTo f i).length →
      (∀ s', Moved (a :: wr) G s s' → s'.heap.SetOf knd a (fun z => decide (z ∈ metTo f n)) (metTo f n).length → R (.ok (.ret .none)) s') →
      codeAny (model prog w) A (.builtin "set.update.loop" ⟨[.ref a, .ref I], []⟩) R s := by
  have hw : a ∉ wr := fun h => hf (W.sub _ h)
  have sub : ∀ b ∈ wr, b ∈ a :: wr := fun b hb => List.mem_cons_of_mem _ hb
  have stay : ∀ {s s' : Shared} {i : Nat}, Moved wr G s s' → s.heap.SetOf knd a (fun z => decide (z ∈ metTo f i)) (metTo f i).length → s'.heap.SetOf knd a (fun z => decide (z ∈ metTo f i)) (metTo f i).length := fun hm hS => by
    obtain ⟨o, es, ep, t, ho, rest⟩ := hS
    exact ⟨o, es, ep, t, hm.heap a _ hw ho, rest⟩
  intro k
  induction k with
  | zero =>
    intro i s hk hi hst hS hR
    obtain rfl : i = n := by omega
    refine codeAny_builtin F.entry_set_update_loop ?_
    rw [Around.under_plainId F.plain_set_update_loop _]
    refine wpAny_bind (m := pyNext (.ref I)) (W.done s _ _ hst fun s' hm => ?_)
    exact wpAny_pure (hR s' (hm.mono sub) (stay hm hS))
  | succ k ih =>
    intro i s hk hi hst hS hR
    have hlt : i < n := by omega
    refine codeAny_builtin F.entry_set_update_loop ?_
    rw [Around.under_plainId F.plain_set_update_loop _]
    refine wpAny_bind (m := pyNext (.ref I)) (W.item i s _ _ hlt hst fun v s' hP hst' hm => ?_)
    obtain ⟨hv, hsc⟩ := hval i v hP
    have hS' := stay hm hS
    refine wpAny_bind (m := holding [v] (setAdd a v)) (wpAny_holding ?_)
    unfold setAdd
    refine wpAny_holding (wpAny_bind (knd.pyHash (k := f i) hv ?_))
    have room : (metTo f i).length + 1 < scanBound := by have := metTo_len f i; omega
    refine wpAny_setAddHashed_of (knd := knd) (s := { s' with toks := s'.toks + 1 }) hv hsc hS' room fun h' hsb hS2 => ?_
    have hSi : h'.SetOf knd a (fun z => decide (z ∈ metTo f (i + 1))) (metTo f (i + 1)).length := by
      refine setOf_as hS2 (fun z => ?_) ?_
      · rw [← Bool.decide_or]
        refine decide_eq_decide.mpr ?_
        show _ ↔ z ∈ (if f i ∈ metTo f i then metTo f i else f i :: metTo f i)
        split
        · rename_i q
          constructor
          · rintro (h | h)
            · exact h
            · rw [h]; exact q
          · exact .inl
        · rw [List.mem_cons]
          exact Or.comm
      · show _ = (if f i ∈ metTo f i then metTo f i else f i :: metTo f i).length
        by_cases q : f i ∈ metTo f i
        · simp [q]
        · simp [q]
    refine wpAny_pure ⟨plainId_quiet F.plain_set_update_loop _, ih (i + 1) _ (by omega) hlt (W.frame _ s' _ _ hst' (Nat.le_succ _) fun b hb o e => ?_) hSi fun s'' hm'' hS'' => ?_⟩
    · rw [hsb.2 b (fun h : b = a => hf (h ▸ hb))]; exact e
    · refine hR s'' (Moved.trans W.gtrans ((hm.mono sub).then_heap (Nat.le_succ _) fun b o hb e => ?_) hm'') hS''
      rw [hsb.2 b (fun h : b = a => hb (h ▸ List.mem_cons_self))]; exact e
end
section
variable {A : Around} {E : Value → Shared → Prop} {s : Shared}
/-- set(xs) -/
theorem call_set_keys (knd : PySem.KeyKind prog w κ) {l : Addr} {items : Array Value} {Q : Value → Shared → Prop} (f : Nat → κ)
    (hh : A.handled = none) (hl : s.heap.IsList l items) (hi : ∀ (i : Nat) v, items[i]? = some v → knd.is (f i) v = true ∧ v.scannable = true) (hb : items.size + 1 < scanBound)
    (h : ∀ (h' : Heap) (tk : Nat), h'.SetOf knd s.heap.objs.size (fun z => decide (z ∈ metTo f items.size)) (metTo f items.size).length →
      (∀ b o, b < s.heap.objs.size → s.heap.get? b = some o → h'.get? b = some o) → Q (.ref s.heap.objs.size) { s with heap := h', toks := tk }) :
    wpAny (model prog w) A (call (.type "set") [.ref l]) Q E s := by
  obtain ⟨c, tl, hmro⟩ := PySem.F.called_set.mro
  have hmade := PySem.F.called_set.made
  have hsub := PySem.F.called_set.sub
  refine wpAny_call (codeAny_of_tree ?_)
  refine wpAny_pure ⟨Code.quiet_builtin _ (by decide +kernel), codeAny_builtin PySem.F.entry_type_call ?_⟩
  rw [Around.under_plain (weight_type_call_type "set" [.ref l] []) rfl]
  have h1 := PySem.F.called_set.notType
  have h2 := PySem.F.called_set.canCreate
  have hct := PySem.F.typeCall_set_1 (.ref l)
  repeat (any_goals (first | assumption | wp_step))
  refine codeAny_mono (code_set_new_1 (.ref l) (E := E) (Q₁ := fun obj s₁ => ∃ led : Bool, obj = .ref s.heap.objs.size ∧ s₁ = { s with heap := s.heap.push (nset led) }) fun led => ⟨led, rfl, rfl⟩) fun r s₁ hr => ?_
  cases r with
  | error e => exact hr
  | ok fl =>
    cases fl with
    | ret obj =>
      obtain ⟨led, rfl, rfl⟩ := hr
      have hS : (s.heap.push (nset led)).get? s.heap.objs.size = some (nset led) := Heap.get?_push_size _ rfl
      have hT : Shared.TypeIs { s with heap := s.heap.push (nset led) } (.ref s.heap.objs.size) "set" := ⟨_, hS, rfl⟩
      have hli := PySem.F.called_set.init.lookup
      have hbi := PySem.F.called_set.init.bind (.ref s.heap.objs.size)
      repeat (any_goals (first | assumption | wp_step))
      refine codeAny_mono (codeAny_call_builtin (R := wants (fun r s₂ => r = .none ∧ ∃ h' tk, s₂ = { s with heap := h', toks := tk } ∧ h'.SetOf knd s.heap.objs.size (fun z => decide (z ∈ metTo f items.size)) (metTo f items.size).length ∧
          (∀ b o, b < s.heap.objs.size → s.heap.get? b = some o → h'.get? b = some o)) E) PySem.F.called_set.init.plain PySem.F.entry_set_init (check_set_init_1 hT ?_)) fun r₂ s₂ hr₂ => ?_
      · obtain ⟨⟨ocls, odict, odata, oslots⟩, hol, hcl, nl, hdl⟩ := hl
        simp only at hcl hdl
        subst hcl hdl
        have hol' : (s.heap.push (nset led)).get? l = some { cls := .type "list", dict := odict, data := .seq items nl, slots := oslots } := Heap.get?_push_of_some _ hol
        have hsls := PySem.F.sub_list_set
        have hslf := PySem.F.sub_list_frozenset
        have hne : (Value.type "list" == Value.type "dict") = false := by decide
        have hl1 : (s.heap.push (nset led)).IsList l items := ⟨_, hol', rfl, nl, rfl⟩
        unfold Builtin.«set.__init__» noKeywords Builtin.Frozenset.updateFrom
        generalize hPI : pyIter = PI
        wp_walk
        subst hPI
        refine wpAny_pyIter_list hl1 (wpAny_bind (wpAny_runValue ?_))
        have hlS : l < s.heap.objs.size := Heap.lt_size hol
        have hh3 : A.in1.in1.in1.handled = none := by simp [hh]
        have sz : (s.heap.push (nset led)).objs.size = s.heap.objs.size + 1 := Heap.size_push _ _
        have hneI : l ≠ (s.heap.push (nset led)).objs.size := by rw [sz]; exact Nat.ne_of_lt (Nat.lt_succ_of_lt hlS)
        have hSf : s.heap.objs.size ∉ [(s.heap.push (nset led)).objs.size, l] := by
          rw [sz]
          intro q
          rcases List.mem_cons.mp q with q | q
          · exact absurd q (Nat.ne_of_lt (Nat.lt_succ_self _))
          · exact absurd (List.mem_singleton.mp q) (Nat.ne_of_gt hlS)
        refine set_loop knd ((Walks.list hh3 _ l hneI items).toS) s.heap.objs.size hSf f hi hb (items.size - 0) 0 _ (by omega) (Nat.zero_le _) ⟨⟨_, Heap.get?_push_size _ rfl, rfl, rfl⟩, (hl1.push _)⟩ ?hS0 ?hR
        case hS0 =>
          refine setOf_as ((setObjOf_fresh (knd := knd) led).setOf (Heap.get?_push_of_some _ hS) (by unfold scanBound; omega)) (fun z => ?_) rfl
          simp [metTo]
        case hR =>
          intro s' hm hS'
          obtain ⟨h', g', d', tk', os'⟩ := s'
          obtain rfl : g' = s.gens := hm.gens
          obtain rfl : d' = s.drawn := hm.drawn
          obtain rfl : os' = s.os := hm.os
          refine wpAny_pure (wpAny_pure ⟨rfl, h', tk', rfl, hS', fun b o hb e => ?_⟩)
          refine hm.heap b o (fun q => ?_) (Heap.get?_push_of_some _ (Heap.get?_push_of_some _ e))
          rcases List.mem_cons.mp q with q | q
          · exact absurd q (Nat.ne_of_lt hb)
          · have q' := List.mem_singleton.mp q
            rw [sz] at q'
            exact absurd q' (Nat.ne_of_lt (Nat.lt_succ_of_lt hb))
      · cases r₂ with
        | error e => exact hr₂
        | ok fl₂ =>
          cases fl₂ with
          | ret r =>
            obtain ⟨rfl, h', tk, rfl, hS', hk'⟩ := hr₂
            repeat (any_goals (first | assumption | wp_step))
            exact h _ _ hS' hk'
          | _ => exact hr₂.elim
    | _ => exact hr.elim
end
end
/-- len(set(xs)), xs a list of texts -/
theorem strAt : ∀ {xs : List Str} {us : List Value}, Vals (xs.map V.str) us → ∀ (i : Nat) v, us[i]? = some v → ∃ t, v = .str (xs.getD i Str.empty) t
  | [], _, .nil, i, v, h => by simp at h
  | x :: xs, _, .cons r t, 0, v, h => by
    obtain ⟨k, rfl⟩ := r
    obtain rfl := Option.some.inj h
    exact ⟨k, rfl⟩
  | x :: xs, _, .cons r t, i + 1, v, h => strAt t i v h
def tLenSetS (K : PySem.W.Frag) (ta : TE) : TE := fun σ H Q => ta σ H fun x H1 => ∃ l, ∃ xs : List Str, x = .ref l ∧ SqL K H1 l (xs.map V.str) ∧ xs.length ≤ 1000 ∧ ∀ n : Nat, (n = xs.length ↔ xs.Nodup) → Q (.int n) H1
theorem pe_lenSetS {X : Cx} {a : Expr} {ta : TE} {p p2 q pos : Pos} (hc : X.calm = true) (hg : Gl X "len") (hm : X.mg "len" = none) (hg2 : Gl X "set") (hm2 : X.mg "set" = none) (ha : PE X a ta)
    (na : starEach [a] X.env = (false, eval a X.env) :: starEach [] X.env := by rfl) : PE X (.Call (.Name "len" p) [.Call (.Name "set" p2) [a] [] q] [] pos) (tLenSetS X.K ta) := by
  refine ⟨fun pins s σ H Q I h => ?_⟩
  refine Call_ (ld_blt I hg hm boot_len (callWith_builtin1 (args_cons ?_ rfl) rfl rfl))
  refine Call_ (ld_blt I hg2 hm2 boot_set (callWith_type1 (args_cons (thn (ha.run pins s σ H _ I h) fun v s1 ⟨x, H1, I1, r1, q1⟩ => args_nil ?_) na) na rfl))
  obtain ⟨l, xs, rfl, hq, h1, q1⟩ := q1
  cases r1
  obtain ⟨its, r, pl, hz⟩ := I1.list hq
  have hl : its.toArray.size = xs.length := by rw [List.size_toArray, ← r.length, List.length_map]
  refine call_set_keys (PySem.strKind X.prog X.w) (fun i => xs.getD i Str.empty) (I1.ok.hd hc) pl.isList (fun i v hv => ?_) (by rw [hl]; unfold scanBound; omega) fun h' tk hS hk => args_nil ?_
  · obtain ⟨t, rfl⟩ := strAt r i v (by simpa using hv)
    exact ⟨strKind_is _ _ _ _, rfl⟩
  · rw [hl] at hS
    have hN := metTo_list xs Str.empty
    have hle := metTo_len (fun i => xs.getD i Str.empty) xs.length
    obtain ⟨o, es, ep, t, ho, hex, hd, _, _, _, hf, hn⟩ := hS
    have I2 : Inv X pins σ H1 { s1 with heap := h', toks := tk } := I1.kept fun b o e => hk b o (Heap.lt_size e) e
    exact call_len_set ho hex hd hf (by rw [hn]; omega) ⟨.int _, H1, I2.tok _, ⟨_, by rw [hn]⟩, q1 _ hN⟩
end TP

namespace TP
open PySem PySem.Spec PyProof.Rows L2
section
variable {σ : L2.St} {H : Hp} {Q : VK} {QB : Bool → Hp → Prop} {QA : List V → Hp → Prop} {D : Ends} {ta tb te to : TE} {tt tu : TT} {tl tr : TA} {ts us : TS} {x y v : V} {i j : Int} {K : PySem.W.Frag}
end
theorem Same.new {H : Hp} {p : Addr} {o : HO} (h : H p = none) : Same H (upd H p o) := fun a u e => by
  rw [upd_ne (ne_of_none e h)]; exact e
theorem Same.none {H H' : Hp} (e : Same H H') {l : Addr} (h : H' l = Option.none) : H l = Option.none := e.free h
theorem Same.sqT {K : PySem.W.Frag} {H H' : Hp} {a : Addr} {xs : List V} (e : Same H H') (h : SqT K H a xs) : SqT K H' a xs := by
  rcases h with (h | ⟨o, h⟩) | h
  · exact .inl (.inl (e _ _ h))
  · exact .inl (.inr ⟨o, e _ _ h⟩)
  · exact .inr h
section
variable {σ : L2.St} {H : Hp} {Q : VK} {D : Ends} {te : TE} {tt : TT} {tl : TA} {tb : TS} {g : TG} {wi : TI} {vs : List Nat} {K : PySem.W.Frag} {R : It → Hp → Prop} {i j : Int}
end
section
variable {σ : L2.St} {H : Hp} {Q : VK} {D : Addr} {te : TE} {tt : TT} {g : TG} {vs : List Nat} {K : PySem.W.Frag} {a : Addr}
theorem take_snoc {α : Type} {l : List α} {i : Nat} {x : α} (h : l[i]? = some x) : l.take (i + 1) = l.take i ++ [x] := by
  rw [List.take_succ, h]; rfl
end
end TP

namespace TP
open PySem PySem.Spec PyProof.Rows L2
def okV : V → Bool
  | .non => true
  | .bl _ => true
  | .int _ => true
  | .str x => PyData.canLay0 (.str x)
  | _ => false
def dV : V → PyData
  | .bl b => .bool b
  | .int i => .int i
  | .str x => .str x
  | _ => .none
section
variable {K : PySem.W.Frag} {H : Hp} {Q : VK}
end
end TP

namespace TP
open PySem PySem.Spec PyProof.Rows L2
abbrev vin : Value := .builtin "ValueError.__init__"
abbrev vw (x : Addr) : Obj := { cls := .type "method-wrapper", dict := none, data := .fields #[vin, .ref x], slots := #[] }
abbrev supO (D x C : Addr) : Obj := { cls := .type "super", dict := none, data := .fields #[.ref D, .ref x, .ref C], slots := #[] }
theorem v_type : typeOf vin = pure (.type "wrapper_descriptor") := by show builtinType _ = _; rw [builtinType_eq_fast]; kernel_rfl
theorem v_nac : (kfb_private% "nameAndClass") vin = (pure (("__init__" : Str), Value.type "ValueError") : Sem (Str × Value)) := by kernel_rfl
section
variable {P : Program} {w : World} {M : Model} {A : Around} {E : Value → Shared → Prop} {h : Heap} {g : Array GenState} {d : Drawn} {t : Nat} {os : OsState}
theorem v_bound {x C : Addr} {R : Fin → Shared → Prop} (hin : W.Looks M h (isInstance (.ref x) (.type "ValueError")) true) (hq : R (.done (.ret (.ref h.objs.size))) ⟨h.push (vw x), g, d, t, os⟩) :
    wpAny M A (Builtin.«wrapper_descriptor.__get__» ⟨[vin, .ref x, .ref C], []⟩) R E ⟨h, g, d, t, os⟩ := by
  unfold Builtin.«wrapper_descriptor.__get__»
  refine wpAny_bind (wpAny_of_eq (a := (vin, some (.ref x), some (.ref C))) (by first | rfl | kernel_rfl) ?_)
  refine wpAny_bind (m := (kfb_private% "checkInstance") vin (.ref x)) ?_
  refine wpAny_bind (m := (kfb_private% "nameAndClass") vin) (wpAny_of_eq v_nac ?_)
  refine wpAny_bind (m := isInstance (.ref x) (.type "ValueError")) (hin.at (W.KFB.if_not rfl (wpAny_pure ?_)))
  exact wpAny_bind (wpAny_newObj_type (wpAny_pure hq))
theorem v_ga {so D x C : Addr} {l₀ l : List Value} {K : W.Frag} {tk : Tok} {Q : Fin → Shared → Prop} (hso : h.get? so = some (supO D x C)) (hno : W.Looks (model P w) h (opaqueClassAbove (.ref C)) none)
    (hC : W.Looks (model P w) h (mroOf (.ref C)) l₀) (hl : (l₀.dropWhile (· != .ref D)).drop 1 = l) (X : K.In h) (hf : W.alongIn K "__init__" l = some (some vin)) (hxC : x ≠ C) (hin : W.Looks (model P w) h (isInstance (.ref x) (.type "ValueError")) true)
    (hq : Q (.done (.ret (.ref h.objs.size))) ⟨h.push (vw x), g, d, t, os⟩) : wpAny (model P w) A (Builtin.«super.__getattribute__» ⟨[.ref so, .str "__init__" tk], []⟩) Q E ⟨h, g, d, t, os⟩ := by
  have lk := ESX.slot_wd.lookup
  have ne : (Value.ref x == Value.ref C) = false := by simp [hxC]
  have nc : (("__init__" : Str) == ("__class__" : Str)) = false := by decide
  have ty := v_type
  have tI : Shared.TypeIs ⟨h, g, d, t, os⟩ vin "wrapper_descriptor" := v_type
  have dt : (supO D x C).data = .fields #[.ref D, .ref x, .ref C] := rfl
  have a0 : (#[.ref D, .ref x, .ref C] : Array Value)[0]? = some (.ref D) := rfl
  have a1 : (#[.ref D, .ref x, .ref C] : Array Value)[1]? = some (.ref x) := rfl
  have a2 : (#[.ref D, .ref x, .ref C] : Array Value)[2]? = some (.ref C) := rfl
  unfold Builtin.«super.__getattribute__»
  repeat (first
    | (with_reducible refine wpAny_field hso dt a0 ?_) | (with_reducible refine wpAny_field hso dt a1 ?_) | (with_reducible refine wpAny_field hso dt a2 ?_) | (with_reducible refine ks_wpAny_notOpaque hno ?_)
    | (with_reducible refine W.Looks.at hC ?_; rw [hl]) | (refine ks_forIn_along X (fun _ _ => rfl) rfl ?_ hf) | (with_reducible refine wpAny_call_entry ESX.slot_wd tI ESX.entry_wd ?_ (ESX.args_wd _ _ _)) | (with_reducible refine v_bound hin ?_)
    | (with_reducible refine ⟨_, rfl, ?_⟩) | (simp only [nc, ne, Bool.or_false, Bool.false_eq_true, if_false]) | wp_step | dsimp only)
  all_goals exact hq
theorem v_method {so D x C : Addr} {l₀ l : List Value} {K : W.Frag} {pl : Sem Bool} {Q : Value × List Value → Shared → Prop} (hso : h.get? so = some (supO D x C)) (hno : W.Looks (model P w) h (opaqueClassAbove (.ref C)) none)
    (hC : W.Looks (model P w) h (mroOf (.ref C)) l₀) (hl : (l₀.dropWhile (· != .ref D)).drop 1 = l) (X : K.In h) (hf : W.alongIn K "__init__" l = some (some vin)) (hxC : x ≠ C) (hin : W.Looks (model P w) h (isInstance (.ref x) (.type "ValueError")) true)
    (hq : Q (.ref h.objs.size, []) ⟨h.push (vw x), g, d, t + 1, os⟩) : wpAny (model P w) A (getMethod (.ref so) "__init__" pl) Q E ⟨h, g, d, t, os⟩ := by
  have lk := F.ks_slot_super_ga.lookup
  have can := F.ks_canon_super_ga
  have hT : ∀ t', (⟨h, g, d, t', os⟩ : Shared).TypeIs (.ref so) "super" := fun _ => ⟨_, hso, rfl⟩
  unfold getMethod
  refine wpAny_bind (wpAny_specialOf (hT _) lk ?_)
  refine W.KFB.if_so can ?_
  unfold getAttr getAttrBy
  refine wpAny_bind (wpAny_bind (wpAny_mkText (wpAny_holding (wpAny_bind (wpAny_typeOf (hT _) (wpAny_bind (wpAny_of_eq lk ?_)))))))
  show wpAny _ _ (getAttrByItsOwn (.ref so) (.str "__init__" t) (.type "super") (.builtin "super.__getattribute__") true false) _ _ _
  unfold getAttrByItsOwn hookBefore callGetattribute boundAndCalled
  refine wpAny_bind (wpAny_of_eq (show (if onTheHeap (.type "super") then typeLookup (.type "super") "__getattr__" else pure none) = pure none from rfl) ?_)
  refine wpAny_bind (wpAny_attempt (wpAny_holding (wpAny_bind (m := bindSpecial (.builtin "super.__getattribute__") (.ref so)) (wpAny_of_eq (F.ks_slot_super_ga.bind _) ?_))))
  refine wpAny_mono (Q := fun v s' => v = .ref h.objs.size ∧ s' = ⟨h.push (vw x), g, d, t + 1, os⟩) (E := fun _ _ => False) (wpAny_call_entry F.ks_slot_super_ga (hT _) F.ks_entry_super_ga (v_ga hso hno hC hl X hf hxC hin ⟨_, rfl, rfl, rfl⟩) (F.ks_gaArgs_super _ _)) (fun v s' hv => ?_) fun _ _ z => z.elim
  obtain ⟨rfl, rfl⟩ := hv
  exact wpAny_pure (wpAny_pure hq)
end
section
variable {P : Program} {w : World} {M : Model} {A : Around} {E : Value → Shared → Prop} {s : Shared}
theorem v_with {pos : Pos} {u x : Addr} {args : List (Bool × Sem Value)} {Q : Value → Shared → Prop} (hp : args.any (·.1) = false)
    (h : wpAny M A (evalArgs (.ref u) true args []) (fun a s₁ => s₁.heap.get? u = some (vw x) ∧ wpAny M A (call (.ref u) ([] ++ a.pos) a.kw) Q E s₁) E s) : wpAny M A (callWith pos (.ref u) [] args []) Q E s := by
  unfold callWith
  refine wpAny_bind (wpAny_holding (wpAny_mono h (fun a s₁ h₁ => wpAny_bind (wpAny_standAt ?_)) fun _ _ z => z))
  obtain ⟨ho, hc⟩ := h₁
  simp only [hp, List.any_nil, Bool.or_false]
  refine wpAny_bind (m := keeperOf (.ref u)) ?_
  unfold keeperOf
  refine wpAny_bind (wpAny_load ho ?_)
  have e1 : (Value.type "method-wrapper" != Value.type "method") = true := by decide
  have e2 : (Value.type "method-wrapper" == Value.type "builtin_function_or_method" || Value.type "method-wrapper" == Value.type "method-wrapper") = true := by decide
  simp only [vw, e1, e2, if_true]
  exact wpAny_pure (wpAny_bind (wpAny_mono hc (fun r s₂ hr => wpAny_bind (wpAny_holding (wpAny_point (wpAny_pure hr)))) fun _ _ z => z))
end
section
variable {P : Program} {w : World} {A : Around} {E : Value → Shared → Prop} {h : Heap} {g : Array GenState} {d : Drawn} {t : Nat} {os : OsState}
variable {nm q : Str} {C N : Addr} {bs bm : List Value} {hdct : Bool} {sn : List Str} {sub : List Value} {ab : Bool} {col : Option Bool} {dd : Option Addr} {k0 k1 k2 k3 k5 : Option Value}
theorem v_call {u e t0 : Addr} {rest : List Value} {Q : Value → Shared → Prop} (hC : h.get? C = some (excClassObj nm q C N bs bm hdct sn sub ab col dd k0 k1 k2 k3 k5 "ValueError.__new__")) (he : h.get? e = some (HandSPX.excO C t0)) (hu : h.get? u = some (vw e)) (hr : rest.length ≤ sizeLine)
    (hq : ∀ h' t1, (∀ b o, b ≠ e → h.get? b = some o → h'.get? b = some o) → h'.get? e = some (HandSPX.excO C t1) → Q .none ⟨h', g, d, t, os⟩) : wpAny (model P w) A (call (.ref u) rest) Q E ⟨h, g, d, t, os⟩ := by
  have FB := F.excBase_ValueError
  refine wpAny_call (codeAny_of_tree ?_)
  show wpAny _ A.in1 (callAny (.ref u) ⟨rest, []⟩) _ _ _
  simp only [callAny]
  refine wpAny_bind (wpAny_load hu ?_)
  have e3 : (Value.type "method-wrapper" == Value.type "method" || Value.type "method-wrapper" == Value.type "builtin_function_or_method" || Value.type "method-wrapper" == Value.type "method-wrapper") = true := by decide
  simp only [vw, e3, if_true]
  refine W.KFB.if_so (by decide) (wpAny_bind (ESX.check_bound FB hC he rfl (wpAny_bind (wpAny_pure (wpAny_pure ?_)))))
  refine ⟨Code.quiet_builtin _ (by decide +kernel), codeAny_builtin FB.initEntry ?_⟩
  rw [Around.under_plainId FB.init.plain _]
  wp_walk
  refine hq _ h.objs.size (fun b o hb ho => ?_) ?_
  · rw [Heap.get?_update_other _ _ (Ne.symm hb)]
    exact Heap.get?_push_of_some _ ho
  · rw [Heap.get?_update_self _ (Heap.get?_push_of_some _ he) rfl]
    rfl
end
end TP

namespace TP
open PySem PySem.Spec PyProof.Rows L2
def iniBody (fld txt : Str) (n3 : Nat) (p0 p1 p2 p3 p4 p5 q0 q1 q2 q3 : Pos) : List Stmt :=
  [.Expr (.Call (.Attribute (.Call (.Name "super" p0) [] [] p1) "__init__" p2) [.Constant (.str txt) n3 p3] [] p4) p5, .Assign [.Attribute (.Name "self" q0) fld q1] (.Name fld q2) q3]
def iniScope (fld : Str) : Scope := { kind := .function, names := [(PySem.Str.ofString "self", .local), (fld, .local), (PySem.Str.ofString "__class__", .free), (PySem.Str.ofString "super", .globalImplicit)], isGenerator := false, isCoroutine := false, more := [] }
theorem meth_eq {o : Expr} {name : Str} {apos pos : Pos} {args : List Expr} {env : Env} (hf : methodCallForm (args.length + 0) (backTo pos (starEach args env)) [] = true) (hl : (apos.endLine == pos.line) = true) :
    eval (.Call (.Attribute o name apos) args [] pos) env = (do
      let ov ← attributeBase o name env (eval o env)
      standAt apos.atName
      let (f, first) ← holding [ov] (getMethod ov name (do return (← importBound o env).getD true))
      callWith pos f first (backTo pos (starEach args env)) []) := by
  have e : ∀ ov, methodCall o name apos pos env ov (args.length + 0) (backTo pos (starEach args env)) [] = (do
      let (f, first) ← holding [ov] (getMethod ov name (do return (← importBound o env).getD true))
      callWith pos f first (backTo pos (starEach args env)) []) := fun ov => by
    unfold methodCall calleeOf methodCallPos
    rw [hf]
    simp [hl]
  show (attributeBase o name env (eval o env) >>= fun ov => standAt apos.atName >>= fun _ => methodCall o name apos pos env ov (args.length + 0) (backTo pos (starEach args env)) []) = _
  simp only [e]
/-- what the written part says of an error's class at C and of its __init__ at fI -/
structure IniTxt (P : Program) (K : PySem.W.Frag) (mg : Str → Option Value) (C fI : Addr) (fld qual : Str) (fd : FuncData) : Prop where
  oex : OexC K C
  no : PySem.W.findIn K (.ref C) fld = some none
  sup : mg "super" = none
  opq : PySem.W.nsIn K cStatics "thirdparty.any" = some none
  along : PySem.W.ks_superIn K C C "__init__" = some (some vin)
  mine : PySem.W.mroIn K C (.ref C) = some true
  isV : PySem.W.mroIn K C (.type "ValueError") = some true
  top : (P.main.scope.names.lookup ("super" : Str)).isSome = false
  code : ∃ (oc : Value) (od : Option Addr) (params : Arguments) (kV doc pm : Value) (an : Option Addr) (cda : Addr) (ct : Value) (cc : Addr) (osl : Array (Option Value)) (ar : Arg) (ccl : Value) (cdd : Option Addr) (vs : Array Value) (ccs : Array (Option Value)) (file : Str) (tf : Tok) (cl : Value) (cld : Option Addr) (csl : Array (Option Value))
      (txt : Str) (n3 : Nat) (p0 p1 p2 p3 p4 p5 q0 q1 q2 q3 : Pos),
    fd = PySem.W.ksFn "__init__" qual params (iniBody fld txt n3 p0 p1 p2 p3 p4 p5 q0 q1 q2 q3) (iniScope fld) .none kV doc pm an (.ref cda) ct cc ∧ K.lookup fI = some ⟨oc, od, .func fd, osl⟩ ∧ PySem.W.codeIn K (.ref cda) qual = true ∧
    (params.posonlyargs ++ params.args).head? = some ar ∧ ar.arg = "self" ∧ K.lookup cda = some ⟨ccl, cdd, .fields vs, ccs⟩ ∧ vs[2]? = some (.str file tf) ∧ ((P.main.file : Str) == file) = true ∧ K.lookup cc = some ⟨cl, cld, .cell (some (.ref C)), csl⟩ ∧
    (iniScope fld).names.lookup ("super" : Str) = some .globalImplicit ∧ (iniScope fld).names.lookup ("__class__" : Str) = some .free ∧ (iniScope fld).names.lookup ("self" : Str) = some .local ∧ (iniScope fld).names.lookup fld = some .local ∧ (fld == ("__debug__" : Str)) = false ∧ (fld ≠ "self") ∧ (p2.endLine == p4.line) = true
def sp_exi (C : Addr) (fld : Str) : Sp := fun vs H Q _ => ∃ (a : Addr) (v : V), vs = [.ref a, v] ∧ H a = some (exo a C none) ∧ ∀ dx, H dx = none → dx ≠ a → Q .non (upd (upd H dx (exd dx [(fld, v)])) a (exo a C (some dx)))
theorem exc_init_ok {P : Program} {w : World} {K : PySem.W.Frag} {mg : Str → Option Value} {base : Heap} {C fI : Addr} {fld qual : Str} {fd : FuncData} (T : IniTxt P K mg C fI fld qual fd) : FnOk P w K mg base CX0 2 fI fd ["self", fld] (sp_exi C fld) := by
  obtain ⟨oc, od, params, kV, doc, pm, an, cda, ct, cc, osl, ar, ccl, cdd, vs0, ccs, file, tf, cl, cld, csl, txt, n3, p0, p1, p2, p3, p4, p5, q0, q1, q2, q3, rfl, hlk, hcd, hpar, harg, hcode, hvs, hfile, hcell, ssup, scls, sself, sfld, hdb, hne, hln⟩ := T.code
  have sk : (iniScope fld).kind = .function := rfl
  have snoc : ∀ x ∈ (iniScope fld).names, x.2 ≠ .cell := fun x hx => by
    simp only [iniScope, List.mem_cons, List.not_mem_nil, or_false] at hx
    rcases hx with rfl | rfl | rfl | rfl <;> (intro z; cases z)
  refine ⟨fun vs H Q E h => by obtain ⟨a, v, rfl, _⟩ := h; rfl, fun A outer s H args us vs Q E hr e0 hb hv hsp => ?_⟩
  obtain ⟨a, v, rfl, ha, k⟩ := hsp
  obtain ⟨u, rfl, ru⟩ : ∃ u, us = [.ref a, u] ∧ RelV v u := by
    cases hv with
    | cons r1 r2 =>
      cases r2 with
      | cons r3 r4 =>
        cases r4
        cases r1
        exact ⟨_, rfl, r3⟩
  have KX : K.In s.heap := e0.mod.kin.keeps fun b o e => (e0.bs b o e).1
  have lim : s.heap.NoLimit := e0.mod.nolimit.keeps fun b o e => (e0.bs b o e).1
  obtain ⟨t1, hoa⟩ := exo_at e0.hok ha
  obtain ⟨nm, q, N, bs, bm, sn, sub, ab, col, dd, k0, k1, k2, k3, k5, hC, hbm⟩ := T.oex.cls
  have hcl : PySem.W.clsIn K C = some { name := nm, bases := bs, mro := .ref C :: bm, ns := N, qualname := q, hasDict := true, slotNames := sn, subclasses := sub, abstract := ab, collection := col, hasDel := false } := by unfold PySem.W.clsIn; rw [hC]
  have hal : PySem.W.alongIn K "__init__" bm = some (some vin) := by
    have z := T.along
    unfold PySem.W.ks_superIn at z
    rw [hcl, Option.bind_some, ESX.drop_own] at z
    exact z
  obtain ⟨mb, hmb, hmb2⟩ := e0.mod.blt
  refine ks_codeAny_call_defAt (binds := [("self", .ref a), (fld, u)]) hr.depth (KX _ _ hlk) rfl lim (PySem.W.codeRec_of KX hcd) rfl hb snoc (fun y hy => ?_) (fun h₁ hns hk₁ => ?_) rfl rfl rfl
  · rcases List.mem_cons.mp hy with rfl | hy
    · exact sself
    · rw [List.mem_singleton.mp hy]; exact sfld
  have X₁ : K.In h₁ := KX.keeps hk₁
  have hbk : ∀ b o, base.get? b = some o → h₁.get? b = some o := fun b o e => hk₁ b o (e0.bs b o e).1
  have hx₁ := hk₁ _ _ hoa
  have I₁ : PySem.W.InstAt h₁ a (HandSPX.excO C t1) C none := ⟨hx₁, rfl, rfl, trivial⟩
  have hself : (List.reverse [(("self" : Str), Value.ref a), (fld, u)]).lookup ("self" : Str) = some (.ref a) := by
    have e : (("self" : Str) == fld) = false := by simpa using fun z : ("self" : Str) = fld => hne z.symm
    simp [List.lookup, e]
  have hfld : (List.reverse [(("self" : Str), Value.ref a), (fld, u)]).lookup fld = some u := by simp [List.lookup]
  obtain ⟨oD, hD1, hD2⟩ : ∃ oD, h₁.get? C = some oD ∧ oD.data = .cls { name := nm, bases := bs, mro := .ref C :: bm, ns := N, qualname := q, hasDict := true, slotNames := sn, subclasses := sub, abstract := ab, collection := col, hasDel := false } := ⟨_, X₁ _ _ hC, rfl⟩
  obtain ⟨hp, g, d, tk, os⟩ := s
  -- super().__init__('..')
  refine ks_wpAt_execs_cons (ks_wpAt_Expr_any (ks_wpAt_MethodCall ?_ (meth_eq rfl hln)) rfl rfl)
  refine ks_wpAt_super_base ssup scls (by decide) rfl (X₁ _ _ hlk) rfl hpar rfl (X₁ _ _ hcode) rfl hvs hfile T.top ?_
  refine PySem.W.ks_loadName_global sk ssup (Calls.loadGlobal_builtin (e0.mod.glob.keeps hbk) T.sup (hmb.keeps hbk) ((hmb2 "super" (by decide)).trans (by decide +kernel)) ⟨rfl, ?_⟩)
  refine wpAny_loadName_free sk scls rfl ⟨_, X₁ _ _ hcell, rfl⟩ ?_
  rw [harg]
  refine wpAny_loadName_local sk sself hns hself ?_
  refine ks_wpAny_isType_cls hD1 hD2 ⟨rfl, ?_⟩
  refine ks_wpAny_call_super hD1 hD2 hx₁ rfl (fun c e => by cases e) (PySem.W.looks_mroIn X₁ T.mine) (fun h₂ hso k₂ => ?_)
  have X₂ : K.In h₂ := X₁.keeps k₂
  have I₂ : PySem.W.InstAt h₂ a (HandSPX.excO C t1) C none := ⟨k₂ _ _ hx₁, rfl, rfl, trivial⟩
  have hmr : PySem.W.Looks (model P w) h₂ (mroOf (.ref C)) (.ref C :: bm) := (PySem.W.looks_clsIn X₂ hcl).andThen .now
  refine v_method hso (PySem.W.looks_opaque X₂ T.opq) hmr (ESX.drop_own C bm) X₂ hal (PySem.W.ks_ne X₂ I₂ hcl) (I₂.type.andThen (PySem.W.looks_mroIn X₂ T.isV)) ?_
  refine v_with (x := a) rfl (Calls.evalArgs_plain (Calls.spliced_cons (Calls.Constant_str (k := n3) (pos := p3) (Calls.spliced_nil ⟨Heap.get?_push_size _ rfl, ?_⟩))))
  have k₃ : ∀ b o, h₂.get? b = some o → (h₂.push (vw a)).get? b = some o := fun b o e => Heap.get?_push_of_some _ e
  refine v_call (X₂.keeps k₃ _ _ hC) (k₃ _ _ (k₂ _ _ hx₁)) (Heap.get?_push_size _ rfl) (by show 1 ≤ sizeLine; decide) (fun h₄ t4 k₄ hx₄ => ?_)
  -- self.f = f
  have keep4 : ∀ b o, b ≠ a → h₁.get? b = some o → h₄.get? b = some o := fun b o n e => k₄ b o n (k₃ _ _ (k₂ _ _ e))
  have nLa : hp.objs.size ≠ a := Nat.ne_of_gt (Heap.lt_size hoa)
  have X₄ : K.In h₄ := fun b o e => keep4 b o (fun z => by
    have q1 := X₁ _ _ e
    rw [z, hx₁] at q1
    have := e0.hok
    have hb := (e0.mod.kin _ _ e)
    rw [z] at hb
    have := (e0.bs _ _ hb).2
    rw [ha] at this
    cases this) (X₁ _ _ e)
  have hns4 : h₄.Ns hp.objs.size (fun y => (List.reverse [(("self" : Str), Value.ref a), (fld, u)]).lookup y) := by
    obtain ⟨o, es, ep, ho, rest⟩ := hns
    exact ⟨o, es, ep, keep4 _ _ nLa ho, rest⟩
  refine wpAt_of_wpAny (wpAny_execs_cons (plainObj_wpAny_Assign_Attribute (wpAny_Name (wpAny_loadName_local sk sfld hns4 hfld (wpAny_Name (wpAny_loadName_local sk sself hns4 hself ?_) (by decide))) hdb)))
  refine PySem.W.set_plain X₄ (ox := HandSPX.excO C t4) (od := none) ⟨hx₄, rfl, rfl, trivial⟩ T.oex.sa ?_
  refine HandSPX.exc_osa X₄ hx₄ hcl (show HandSPX.refsVE (.ref C :: bm) = true from hbm) rfl T.no (fun h₅ tk₅ dx k₅ dn dne hx₅ hn₅ => ?_)
  have z : hp.objs.size < h₁.objs.size := hns.lt
  have big : hp.objs.size ≤ dx := by
    obtain ⟨o, es, ep, ho, rest⟩ := hns4
    exact Nat.le_of_lt (Nat.lt_of_lt_of_le (Heap.lt_size ho) dn)
  refine wpAny_execs_nil ?_
  have hnd : H dx = none := e0.hok.fresh big
  have keep5 : ∀ b o, b ≠ a → hp.get? b = some o → h₅.get? b = some o := fun b o n e => k₅ b o n (keep4 b o n (hk₁ _ _ e))
  have nd : ∀ {b : Addr} {o : Obj}, hp.get? b = some o → b ≠ dx := fun {b o} q => Nat.ne_of_lt (Nat.lt_of_lt_of_le (Heap.lt_size q) big)
  have na : ∀ {b : Addr}, H b = none → b ≠ a := fun {b} n z => by
    rw [z, ha] at n
    cases n
  have U : Un (frs outer) [] H (upd (upd H dx (exd dx [(fld, v)])) a (exo a C (some dx))) hp h₅ := {
    keep := fun b o q n _ _ => keep5 b o (na n) q
    slot := fun b o q n _ _ => ⟨o.slots, keep5 b o (na n) q⟩
    free := fun b o q n _ => by rw [upd_ne (na n), upd_ne (nd q)]; exact n
    there := fun b o q _ => by
      by_cases e : b = a
      · exact ⟨_, by rw [e]; exact hx₅⟩
      · exact ⟨o, keep5 b o e q⟩
    tups := fun b xs q => by rw [upd_ne (at_ne ha q exo_tup), upd_ne (ne_of_none q hnd)]; exact q
    frzs := fun b o y q => by rw [upd_ne (at_ne ha q exo_frz), upd_ne (ne_of_none q hnd)]; exact q
    tbls := fun b ps q => ⟨#[], by rw [upd_ne (at_ne ha q exo_tbl), upd_ne (ne_of_none q hnd), q]; simp⟩ }
  refine ⟨.non, _, rfl, e0.bare, U, fun b o q => ?_, rfl, k dx hnd dne⟩
  by_cases e1 : b = a
  · subst e1
    rw [upd_same] at q
    cases q
    exact exo_ok hx₅
  · rw [upd_ne e1] at q
    by_cases e2 : b = dx
    · subst e2
      rw [upd_same] at q
      cases q
      exact exd_ok hn₅ (relO_put (fs := []) ru fun _ => True.intro)
    · rw [upd_ne e2] at q
      refine (e0.hok b o q).stay (fun c y hc z => keep5 c y ?_ z) (fun c hc => ?_) (fun c xs hc => ?_)
      · rcases hc with hc | hc
        · rw [hc]; exact e1
        · exact at_ne ha hc exo_own
      · rw [upd_ne (at_ne ha hc exo_own), upd_ne (ne_of_none hc hnd)]; exact hc
      · rw [upd_ne (at_ne ha hc exo_tup), upd_ne (ne_of_none hc hnd)]; exact hc
end TP

namespace TP
open PySem PySem.Spec PyProof.Rows L2
abbrev keTail : List Value := [.type "KeyError", .type "LookupError", .type "Exception", .type "BaseException", .type "object"]
/-- what the written part says of such a class -/
structure OexK (K : PySem.W.Frag) (C : Addr) : Prop where
  cls : ∃ nm q N bs bm sn sub ab col dd k0 k1 k2 k3 k5, K.lookup C = some (excClassObj nm q C N bs bm true sn sub ab col dd k0 k1 k2 k3 k5 "LookupError.__new__") ∧ bm = keTail
  sa : PySem.W.findIn K (.ref C) "__setattr__" = some (some (.builtin "object.__setattr__"))
  exC : PySem.W.subIn K (.ref C) (.type "BaseException") = some true
  tyC : PySem.W.typeIn K (.ref C) = some (.type "type")
  kC : PySem.W.keepIn K (.ref C) = true
theorem ke_pass (self : Value) {C : Addr} : refuseLoop self "__setattr__" (.ref C :: keTail) = pure () := by rw [refuseLoop_ref]; kernel_rfl
section
open Builtin Builtin.ObjectAttr PySem.HandSPX
variable {prog : Program} {w : World} {A : Around} {R : Result → Shared → Prop} {hp : Heap} {g : Array GenState} {d : Drawn} {t : Nat} {os : OsState}
theorem exc_osaK {K : W.Frag} {name : Str} {tk : Tok} {v : Value} {x C : Addr} {fv : Array Value} {cd : ClassData}
    (X : K.In hp) (hx : hp.get? x = some { cls := .ref C, data := .fields fv }) (hcd : W.clsIn K C = some cd) (hm : cd.mro = .ref C :: keTail) (hh : cd.hasDict = true) (ha : W.findIn K (.ref C) name = some none)
    (hq : ∀ h' tk' dx, (∀ b o, b ≠ x → hp.get? b = some o → h'.get? b = some o) → hp.objs.size ≤ dx → dx ≠ x → h'.get? x = some { cls := .ref C, dict := some dx, data := .fields fv } →
      h'.Ns1 dx (fun y => if y = name then some v else none) → R (.ok (.ret .none)) ⟨h', g, d, tk', os⟩) :
    codeAny (model prog w) A (.call (.builtin "object.__setattr__") ⟨[.ref x, .str name tk, v], []⟩) R ⟨hp, g, d, t, os⟩ := by
  have I : W.InstAt hp x { cls := .ref C, data := .fields fv } C none := ⟨hx, rfl, rfl, trivial⟩
  have SF := F.store_object
  have hxs : x ≠ hp.objs.size := Nat.ne_of_lt (Heap.lt_size hx)
  have sub : W.Looks (model prog w) hp (isInstance (.ref x) (.type "object")) true := I.type.andThen (W.looks_mroIn X (by unfold W.mroIn; rw [hcd, Option.bind_some, hm]; rfl))
  refine codeAny_call_builtin SF.slot.plain SF.entry (@W.check_slot (model prog w) _ _ ⟨hp, g, d, t, os⟩ "object.__setattr__" "object" "__setattr__" (.ref x) [.str name tk, v] [] _ SF.kind SF.split sub (SF.args (.ref x) (.str name tk) v) ?_)
  have hmr : W.Looks (model prog w) hp (mroOf (.ref C)) cd.mro := (W.looks_clsIn X hcd).andThen .now
  have L3 : W.Looks (model prog w) hp (storeTaker? none) none := .now
  have hcls : W.Looks (model prog w) hp (classData C) cd := W.looks_clsIn X hcd
  rw [W.osa_eq, refuse_eq]
  refine wpAny_bind (wpAny_bind (I.type.at (wpAny_bind (hmr.at ?_))))
  rw [hm, ke_pass]
  refine wpAny_pure (wpAny_bind (I.type.at (wpAny_bind ((W.looks_findIn X ha).at (wpAny_bind (L3.at ?_))))))
  show wpAny _ _ (storeInOwnDict (.ref x) (.ref C) (.str name tk) name v false) _ _ _
  obtain ⟨nm, bs, mro, ns, qn, hd, sn, sb, ab, col, del⟩ := cd
  dsimp only at hh
  subst hh
  unfold storeInOwnDict ownDictForStores
  repeat (first | with_reducible refine store_in_new ?_ ?_ | with_reducible refine wpAny_loadPart_at hx ?_ | with_reducible refine hcls.at ?_ | wp_step)
  · exact ⟨_, #[], _, (Heap.get?_update_ne _ _ _ _ hxs.symm).trans (Heap.get?_push_at rfl rfl), rfl, fun e he => absurd he (by simp), fun _ => rfl⟩
  · intro h' tk' hn' hs
    have hx₁ : (hp.push { cls := .type "dict", data := .dict #[] }).get? x = some { cls := .ref C, data := .fields fv } := Heap.get?_push_of_some _ hx
    refine hq h' tk' hp.objs.size (fun b o hb ho => ?_) (Nat.le_refl _) hxs.symm ?_ hn'
    · exact (hs.2 b (Nat.ne_of_lt (Heap.lt_size ho))).trans ((Heap.get?_update_ne _ _ _ _ hb).trans (Heap.get?_push_of_some _ ho))
    · exact (hs.2 x hxs).trans (Heap.get?_update_self _ hx₁ rfl)
end
section
open PySem.HandSPX
variable {prog : Program} {w : World} {M : Model} {A : Around} {E : Value → Shared → Prop} {R : Result → Shared → Prop} {h : Heap} {g : Array GenState} {d : Drawn} {t : Nat} {os : OsState}
variable {nm q : Str} {C N : Addr} {bs bm : List Value} {hdct : Bool} {sn : List Str} {sub : List Value} {ab : Bool} {col : Option Bool} {dd : Option Addr} {k0 k1 k2 k3 k5 : Option Value}
theorem kx_check {e : Addr} {oe : Obj} {rest : List Value} {Q : Unit → Shared → Prop}
    (hC : h.get? C = some (excClassObj nm q C N bs bm hdct sn sub ab col dd k0 k1 k2 k3 k5 "LookupError.__new__")) (he : h.get? e = some oe) (hcls : oe.cls = .ref C) (hq : Q () ⟨h, g, d, t, os⟩) :
    wpAny M A (checkBoundCall "KeyError.__init__" ⟨.ref e :: rest, []⟩) Q E ⟨h, g, d, t, os⟩ := by
  have hshort := excClass_KeyError.notStar
  simp only [checkBoundCall, excClass_KeyError.initKind, excClass_KeyError.initSig]
  repeat (first | (with_reducible refine wpAny_loadPart_at he ?_; rw [hcls]) | with_reducible refine wpAny_loadPart_at hC ?_ | wp_step)
  refine wpAny_onRaise ?_
  rw [show ∀ (a b : String) (n : Nat), Bind.check ⟨.positional, "*", "KeyError", .self, [⟨"args", .varPos, false⟩]⟩ a b n (List.map (fun x => x.fst) ({ pos := Value.ref e :: rest } : Args).kw) = pure () from
    fun a b n => check_star_args _ _ _ _ _ _]
  exact wpAny_pure hq
theorem kx_checkNew {rest : List Value} {Q : Unit → Shared → Prop} (hbm : bm = keTail)
    (hC : h.get? C = some (excClassObj nm q C N bs bm hdct sn sub ab col dd k0 k1 k2 k3 k5 "LookupError.__new__")) (hq : Q () ⟨h, g, d, t, os⟩) : wpAny M A (checkBuiltinCall "LookupError.__new__" ⟨.ref C :: rest, []⟩) Q E ⟨h, g, d, t, os⟩ := by
  have FB := F.excBase_LookupError
  have hcont : (Value.ref C :: bm).contains (.type "LookupError") = true := by rw [hbm]; rfl
  have hstar := FB.noStar
  simp only [checkBuiltinCall, FB.newKind, FB.newSplit, FB.newRow]
  repeat (first | refine wpAny_loadPart_at hC ?_ | (refine wpAny_isSubtype_exc hC ?_; rw [hcont]) | refine wpAny_staticBase_exc hC ?_ | refine wpAny_madeBy_exc hC ?_ | simp only [bne_self_eq_false, Bool.false_eq_true, if_false] | wp_step)
  exact hq
theorem kx_new {rest : List Value} (hbm : bm = keTail)
    (hC : h.get? C = some (excClassObj nm q C N bs bm hdct sn sub ab col dd k0 k1 k2 k3 k5 "LookupError.__new__"))
    (hq : R (.ok (.ret (.ref (h.objs.size + 1)))) ⟨(h.push { cls := .type "tuple", data := .seq rest.toArray }).push
      { cls := .ref C, data := .fields #[.ref h.objs.size, .none, .none, .none, .bool false, .none] }, g, d, t, os⟩) (hrest : rest.length ≤ sizeLine) :
    codeAny (model prog w) A (.builtin "LookupError.__new__" ⟨.ref C :: rest, []⟩) R ⟨h, g, d, t, os⟩ := by
  have FB := F.excBase_LookupError
  have hends := FB.ends
  have hcB : (Value.ref C :: bm).contains (.type "LookupError") = true := by rw [hbm]; rfl
  have hcA : (Value.ref C :: bm).contains (.type "AttributeError") = false := by rw [hbm]; rfl
  have hcN : (Value.ref C :: bm).contains (.type "NameError") = false := by rw [hbm]; rfl
  refine codeAny_builtinAt FB.entry ?_
  unfold Builtin.«BaseException.__new__»
  refine PySem.wpAt_bind ?_
  show PySem.wpAt _ _ _ (stack >>= _) _ _ _
  refine PySem.wpAt_bind (PySem.wpAt_stack fun p below => PySem.wpAt_of_wpAny ?_)
  wp_walk
  refine PySem.wpAt_of_wpAny ?_
  rw [FB.owner]
  repeat (first | with_reducible refine wpAny_madeHere_exc FB.canon hC ?_ | with_reducible refine wpAny_loadPart_at hC ?_ | (with_reducible refine wpAny_isSubtype_exc hC ?_; first | rw [hcB] | rw [hcA] | rw [hcN]) | wp_step)
  show R _ _
  rw [Heap.size_push]
  exact hq
theorem kx_typeCall {rest : List Value} {fI : Addr} {Q : Fin → Shared → Prop} (hbm : bm = keTail)
    (hC : h.get? C = some (excClassObj nm q C N bs bm hdct sn sub ab col dd k0 k1 k2 k3 k5 "LookupError.__new__"))
    (hi : W.Looks (model prog w) h (typeLookup (.ref C) "__init__") (some (.ref fI))) (hb : ∀ self, W.Looks (model prog w) h (bindSpecial (.ref fI) self) (.ref fI, [self])) (hrest : rest.length ≤ sizeLine)
    (hq : codeAny (model prog w) A (.call (.ref fI) ⟨.ref (h.objs.size + 1) :: rest, []⟩)
      (fun r s' => match r with | .ok (.ret v) => v = .none ∧ Q (.done (.ret (.ref (h.objs.size + 1)))) s' | .ok _ => False | .error e => E e s')
      ⟨(h.push (W.kdv_tup rest)).push (excO C h.objs.size), g, d, t, os⟩) :
    wpAny (model prog w) A (Builtin.«type.__call__» ⟨.ref C :: rest, []⟩) Q E ⟨h, g, d, t, os⟩ := by
  repeat (first | with_reducible refine wpAny_loadPart_at hC ?_ | with_reducible refine wpAny_madeBy_exc hC ?_ | wp_step)
  refine codeAny_call_builtin_code (Code.quiet_builtin _ F.excBase_LookupError.quiet) (kx_checkNew hbm hC ?_)
  refine kx_new hbm hC ?_ hrest
  show wpAny _ _ _ _ _ _
  have k : ∀ b o, h.get? b = some o → ((h.push (W.kdv_tup rest)).push (excO C h.objs.size)).get? b = some o := fun b o e => Heap.get?_push_of_some _ (Heap.get?_push_of_some _ e)
  have hC₁ := k _ _ hC
  have hget : ((h.push (W.kdv_tup rest)).push (excO C h.objs.size)).get? (h.objs.size + 1) = some (excO C h.objs.size) := by heap_get
  have hcC : (Value.ref C :: bm).contains (.ref C) = true := by simp
  have i1 := hi.keeps k
  have b1 := (hb (.ref (h.objs.size + 1))).keeps k
  unfold isInstance
  repeat (first | with_reducible refine wpAny_loadPart_at hget ?_ | (with_reducible refine wpAny_isSubtype_exc hC₁ ?_; rw [hcC]) | wp_step)
  show wpAny _ _ (typeLookup (.ref C) _) _ _ _
  refine i1.at ?_
  refine wpAny_holding (wpAny_bind (b1.at ?_))
  refine wpAny_bind (wpAny_call (codeAny_mono hq fun r s' z => ?_))
  rcases r with e | (v | _ | _ | _) <;> first | exact z | exact z.elim | skip
  obtain ⟨rfl, z⟩ := z
  first
    | exact wpAny_pure (wpAny_pure z)
    | (wp_walk; exact z)
theorem kx_own {rest : List Value} {fI : Addr} (hbm : bm = keTail)
    (hC : h.get? C = some (excClassObj nm q C N bs bm hdct sn sub ab col dd k0 k1 k2 k3 k5 "LookupError.__new__"))
    (hi : W.Looks (model prog w) h (typeLookup (.ref C) "__init__") (some (.ref fI))) (hb : ∀ self, W.Looks (model prog w) h (bindSpecial (.ref fI) self) (.ref fI, [self])) (hrest : rest.length ≤ sizeLine)
    (hq : codeAny (model prog w) (A.under (.builtin "type.__call__" ⟨.ref C :: rest, []⟩)) (.call (.ref fI) ⟨.ref (h.objs.size + 1) :: rest, []⟩) (W.InitBack (h.objs.size + 1) R)
      ⟨(h.push (W.kdv_tup rest)).push (excO C h.objs.size), g, d, t, os⟩) :
    codeAny (model prog w) A (.call (.ref C) ⟨rest, []⟩) R ⟨h, g, d, t, os⟩ := by
  have f1 := tc_lookup
  have f2 := tc_bind (.ref C)
  have hTy : (⟨h, g, d, t, os⟩ : Shared).TypeIs (.ref C) "type" := ⟨_, hC, rfl⟩
  refine codeAny_of_tree ?_
  show wpAny _ _ (callAny (.ref C) _) _ _ _
  repeat (any_goals (first | assumption | with_reducible refine wpAny_loadPart_at hC ?_ | wp_step))
  refine ⟨rfl, ?_⟩
  refine codeAny_call_builtin_at (Code.quiet_builtin _ (by decide +kernel)) entry_typeCall (wpAny_check_type_call_sub hC (kx_typeCall hbm hC hi hb hrest ?_))
  refine codeAny_mono hq fun r s' z => ?_
  rcases r with e | (v | _ | _ | _) <;> exact z
end
abbrev kin_ : Value := .builtin "KeyError.__init__"
abbrev kw_ (x : Addr) : Obj := { cls := .type "method-wrapper", dict := none, data := .fields #[kin_, .ref x], slots := #[] }
abbrev supK (D x C : Addr) : Obj := { cls := .type "super", dict := none, data := .fields #[.ref D, .ref x, .ref C], slots := #[] }
theorem kx_type : typeOf kin_ = pure (.type "wrapper_descriptor") := by show builtinType _ = _; rw [builtinType_eq_fast]; kernel_rfl
theorem kx_nac : (kfb_private% "nameAndClass") kin_ = (pure (("__init__" : Str), Value.type "KeyError") : Sem (Str × Value)) := by kernel_rfl
section
variable {P : Program} {w : World} {M : Model} {A : Around} {E : Value → Shared → Prop} {h : Heap} {g : Array GenState} {d : Drawn} {t : Nat} {os : OsState}
theorem kx_bound {x C : Addr} {R : Fin → Shared → Prop} (hin : W.Looks M h (isInstance (.ref x) (.type "KeyError")) true) (hq : R (.done (.ret (.ref h.objs.size))) ⟨h.push (kw_ x), g, d, t, os⟩) :
    wpAny M A (Builtin.«wrapper_descriptor.__get__» ⟨[kin_, .ref x, .ref C], []⟩) R E ⟨h, g, d, t, os⟩ := by
  unfold Builtin.«wrapper_descriptor.__get__»
  refine wpAny_bind (wpAny_of_eq (a := (kin_, some (.ref x), some (.ref C))) (by first | rfl | kernel_rfl) ?_)
  refine wpAny_bind (m := (kfb_private% "checkInstance") kin_ (.ref x)) ?_
  refine wpAny_bind (m := (kfb_private% "nameAndClass") kin_) (wpAny_of_eq kx_nac ?_)
  refine wpAny_bind (m := isInstance (.ref x) (.type "KeyError")) (hin.at (W.KFB.if_not rfl (wpAny_pure ?_)))
  exact wpAny_bind (wpAny_newObj_type (wpAny_pure hq))
theorem kx_ga {so D x C : Addr} {l₀ l : List Value} {K : W.Frag} {tk : Tok} {Q : Fin → Shared → Prop} (hso : h.get? so = some (supK D x C)) (hno : W.Looks (model P w) h (opaqueClassAbove (.ref C)) none)
    (hC : W.Looks (model P w) h (mroOf (.ref C)) l₀) (hl : (l₀.dropWhile (· != .ref D)).drop 1 = l) (X : K.In h) (hf : W.alongIn K "__init__" l = some (some kin_)) (hxC : x ≠ C) (hin : W.Looks (model P w) h (isInstance (.ref x) (.type "KeyError")) true)
    (hq : Q (.done (.ret (.ref h.objs.size))) ⟨h.push (kw_ x), g, d, t, os⟩) : wpAny (model P w) A (Builtin.«super.__getattribute__» ⟨[.ref so, .str "__init__" tk], []⟩) Q E ⟨h, g, d, t, os⟩ := by
  have lk := ESX.slot_wd.lookup
  have ne : (Value.ref x == Value.ref C) = false := by simp [hxC]
  have nc : (("__init__" : Str) == ("__class__" : Str)) = false := by decide
  have ty := kx_type
  have tI : Shared.TypeIs ⟨h, g, d, t, os⟩ kin_ "wrapper_descriptor" := kx_type
  have dt : (supK D x C).data = .fields #[.ref D, .ref x, .ref C] := rfl
  have a0 : (#[.ref D, .ref x, .ref C] : Array Value)[0]? = some (.ref D) := rfl
  have a1 : (#[.ref D, .ref x, .ref C] : Array Value)[1]? = some (.ref x) := rfl
  have a2 : (#[.ref D, .ref x, .ref C] : Array Value)[2]? = some (.ref C) := rfl
  unfold Builtin.«super.__getattribute__»
  repeat (first
    | (with_reducible refine wpAny_field hso dt a0 ?_) | (with_reducible refine wpAny_field hso dt a1 ?_) | (with_reducible refine wpAny_field hso dt a2 ?_) | (with_reducible refine ks_wpAny_notOpaque hno ?_)
    | (with_reducible refine W.Looks.at hC ?_; rw [hl]) | (refine ks_forIn_along X (fun _ _ => rfl) rfl ?_ hf) | (with_reducible refine wpAny_call_entry ESX.slot_wd tI ESX.entry_wd ?_ (ESX.args_wd _ _ _)) | (with_reducible refine kx_bound hin ?_)
    | (with_reducible refine ⟨_, rfl, ?_⟩) | (simp only [nc, ne, Bool.or_false, Bool.false_eq_true, if_false]) | wp_step | dsimp only)
  all_goals exact hq
theorem kx_method {so D x C : Addr} {l₀ l : List Value} {K : W.Frag} {pl : Sem Bool} {Q : Value × List Value → Shared → Prop} (hso : h.get? so = some (supK D x C)) (hno : W.Looks (model P w) h (opaqueClassAbove (.ref C)) none)
    (hC : W.Looks (model P w) h (mroOf (.ref C)) l₀) (hl : (l₀.dropWhile (· != .ref D)).drop 1 = l) (X : K.In h) (hf : W.alongIn K "__init__" l = some (some kin_)) (hxC : x ≠ C) (hin : W.Looks (model P w) h (isInstance (.ref x) (.type "KeyError")) true)
    (hq : Q (.ref h.objs.size, []) ⟨h.push (kw_ x), g, d, t + 1, os⟩) : wpAny (model P w) A (getMethod (.ref so) "__init__" pl) Q E ⟨h, g, d, t, os⟩ := by
  have lk := F.ks_slot_super_ga.lookup
  have can := F.ks_canon_super_ga
  have hT : ∀ t', (⟨h, g, d, t', os⟩ : Shared).TypeIs (.ref so) "super" := fun _ => ⟨_, hso, rfl⟩
  unfold getMethod
  refine wpAny_bind (wpAny_specialOf (hT _) lk ?_)
  refine W.KFB.if_so can ?_
  unfold getAttr getAttrBy
  refine wpAny_bind (wpAny_bind (wpAny_mkText (wpAny_holding (wpAny_bind (wpAny_typeOf (hT _) (wpAny_bind (wpAny_of_eq lk ?_)))))))
  show wpAny _ _ (getAttrByItsOwn (.ref so) (.str "__init__" t) (.type "super") (.builtin "super.__getattribute__") true false) _ _ _
  unfold getAttrByItsOwn hookBefore callGetattribute boundAndCalled
  refine wpAny_bind (wpAny_of_eq (show (if onTheHeap (.type "super") then typeLookup (.type "super") "__getattr__" else pure none) = pure none from rfl) ?_)
  refine wpAny_bind (wpAny_attempt (wpAny_holding (wpAny_bind (m := bindSpecial (.builtin "super.__getattribute__") (.ref so)) (wpAny_of_eq (F.ks_slot_super_ga.bind _) ?_))))
  refine wpAny_mono (Q := fun v s' => v = .ref h.objs.size ∧ s' = ⟨h.push (kw_ x), g, d, t + 1, os⟩) (E := fun _ _ => False) (wpAny_call_entry F.ks_slot_super_ga (hT _) F.ks_entry_super_ga (kx_ga hso hno hC hl X hf hxC hin ⟨_, rfl, rfl, rfl⟩) (F.ks_gaArgs_super _ _)) (fun v s' hv => ?_) fun _ _ z => z.elim
  obtain ⟨rfl, rfl⟩ := hv
  exact wpAny_pure (wpAny_pure hq)
end
section
variable {P : Program} {w : World} {M : Model} {A : Around} {E : Value → Shared → Prop} {s : Shared}
theorem kx_with {pos : Pos} {u x : Addr} {args : List (Bool × Sem Value)} {Q : Value → Shared → Prop} (hp : args.any (·.1) = false)
    (h : wpAny M A (evalArgs (.ref u) true args []) (fun a s₁ => s₁.heap.get? u = some (kw_ x) ∧ wpAny M A (call (.ref u) ([] ++ a.pos) a.kw) Q E s₁) E s) : wpAny M A (callWith pos (.ref u) [] args []) Q E s := by
  unfold callWith
  refine wpAny_bind (wpAny_holding (wpAny_mono h (fun a s₁ h₁ => wpAny_bind (wpAny_standAt ?_)) fun _ _ z => z))
  obtain ⟨ho, hc⟩ := h₁
  simp only [hp, List.any_nil, Bool.or_false]
  refine wpAny_bind (m := keeperOf (.ref u)) ?_
  unfold keeperOf
  refine wpAny_bind (wpAny_load ho ?_)
  have e1 : (Value.type "method-wrapper" != Value.type "method") = true := by decide
  have e2 : (Value.type "method-wrapper" == Value.type "builtin_function_or_method" || Value.type "method-wrapper" == Value.type "method-wrapper") = true := by decide
  simp only [kw_, e1, e2, if_true]
  exact wpAny_pure (wpAny_bind (wpAny_mono hc (fun r s₂ hr => wpAny_bind (wpAny_holding (wpAny_point (wpAny_pure hr)))) fun _ _ z => z))
end
section
variable {P : Program} {w : World} {A : Around} {E : Value → Shared → Prop} {h : Heap} {g : Array GenState} {d : Drawn} {t : Nat} {os : OsState}
variable {nm q : Str} {C N : Addr} {bs bm : List Value} {hdct : Bool} {sn : List Str} {sub : List Value} {ab : Bool} {col : Option Bool} {dd : Option Addr} {k0 k1 k2 k3 k5 : Option Value}
theorem kx_call {u e t0 : Addr} {rest : List Value} {Q : Value → Shared → Prop} (hC : h.get? C = some (excClassObj nm q C N bs bm hdct sn sub ab col dd k0 k1 k2 k3 k5 "LookupError.__new__")) (he : h.get? e = some (HandSPX.excO C t0)) (hu : h.get? u = some (kw_ e)) (hr : rest.length ≤ sizeLine)
    (hq : ∀ h' t1, (∀ b o, b ≠ e → h.get? b = some o → h'.get? b = some o) → h'.get? e = some (HandSPX.excO C t1) → Q .none ⟨h', g, d, t, os⟩) : wpAny (model P w) A (call (.ref u) rest) Q E ⟨h, g, d, t, os⟩ := by
  have FB := excClass_KeyError
  refine wpAny_call (codeAny_of_tree ?_)
  show wpAny _ A.in1 (callAny (.ref u) ⟨rest, []⟩) _ _ _
  simp only [callAny]
  refine wpAny_bind (wpAny_load hu ?_)
  have e3 : (Value.type "method-wrapper" == Value.type "method" || Value.type "method-wrapper" == Value.type "builtin_function_or_method" || Value.type "method-wrapper" == Value.type "method-wrapper") = true := by decide
  simp only [kw_, e3, if_true]
  refine W.KFB.if_so (by decide) (wpAny_bind (kx_check hC he rfl (wpAny_bind (wpAny_pure (wpAny_pure ?_)))))
  refine ⟨Code.quiet_builtin _ (by decide +kernel), codeAny_builtin FB.initEntry ?_⟩
  rw [Around.under_plainId FB.init.plain _]
  wp_walk
  refine hq _ h.objs.size (fun b o hb ho => ?_) ?_
  · rw [Heap.get?_update_other _ _ (Ne.symm hb)]
    exact Heap.get?_push_of_some _ ho
  · rw [Heap.get?_update_self _ (Heap.get?_push_of_some _ he) rfl]
    rfl
end
/-- what the written part says of an error's class at C and of its __init__ at fI -/
structure IniTxtK (P : Program) (K : PySem.W.Frag) (mg : Str → Option Value) (C fI : Addr) (fld qual : Str) (fd : FuncData) : Prop where
  oex : OexK K C
  no : PySem.W.findIn K (.ref C) fld = some none
  sup : mg "super" = none
  opq : PySem.W.nsIn K cStatics "thirdparty.any" = some none
  along : PySem.W.ks_superIn K C C "__init__" = some (some kin_)
  mine : PySem.W.mroIn K C (.ref C) = some true
  isV : PySem.W.mroIn K C (.type "KeyError") = some true
  top : (P.main.scope.names.lookup ("super" : Str)).isSome = false
  code : ∃ (oc : Value) (od : Option Addr) (params : Arguments) (kV doc pm : Value) (an : Option Addr) (cda : Addr) (ct : Value) (cc : Addr) (osl : Array (Option Value)) (ar : Arg) (ccl : Value) (cdd : Option Addr) (vs : Array Value) (ccs : Array (Option Value)) (file : Str) (tf : Tok) (cl : Value) (cld : Option Addr) (csl : Array (Option Value))
      (txt : Str) (n3 : Nat) (p0 p1 p2 p3 p4 p5 q0 q1 q2 q3 : Pos),
    fd = PySem.W.ksFn "__init__" qual params (iniBody fld txt n3 p0 p1 p2 p3 p4 p5 q0 q1 q2 q3) (iniScope fld) .none kV doc pm an (.ref cda) ct cc ∧ K.lookup fI = some ⟨oc, od, .func fd, osl⟩ ∧ PySem.W.codeIn K (.ref cda) qual = true ∧
    (params.posonlyargs ++ params.args).head? = some ar ∧ ar.arg = "self" ∧ K.lookup cda = some ⟨ccl, cdd, .fields vs, ccs⟩ ∧ vs[2]? = some (.str file tf) ∧ ((P.main.file : Str) == file) = true ∧ K.lookup cc = some ⟨cl, cld, .cell (some (.ref C)), csl⟩ ∧
    (iniScope fld).names.lookup ("super" : Str) = some .globalImplicit ∧ (iniScope fld).names.lookup ("__class__" : Str) = some .free ∧ (iniScope fld).names.lookup ("self" : Str) = some .local ∧ (iniScope fld).names.lookup fld = some .local ∧ (fld == ("__debug__" : Str)) = false ∧ (fld ≠ "self") ∧ (p2.endLine == p4.line) = true
theorem exc_init_okK {P : Program} {w : World} {K : PySem.W.Frag} {mg : Str → Option Value} {base : Heap} {C fI : Addr} {fld qual : Str} {fd : FuncData} (T : IniTxtK P K mg C fI fld qual fd) : FnOk P w K mg base CX0 2 fI fd ["self", fld] (sp_exi C fld) := by
  obtain ⟨oc, od, params, kV, doc, pm, an, cda, ct, cc, osl, ar, ccl, cdd, vs0, ccs, file, tf, cl, cld, csl, txt, n3, p0, p1, p2, p3, p4, p5, q0, q1, q2, q3, rfl, hlk, hcd, hpar, harg, hcode, hvs, hfile, hcell, ssup, scls, sself, sfld, hdb, hne, hln⟩ := T.code
  have sk : (iniScope fld).kind = .function := rfl
  have snoc : ∀ x ∈ (iniScope fld).names, x.2 ≠ .cell := fun x hx => by
    simp only [iniScope, List.mem_cons, List.not_mem_nil, or_false] at hx
    rcases hx with rfl | rfl | rfl | rfl <;> (intro z; cases z)
  refine ⟨fun vs H Q E h => by obtain ⟨a, v, rfl, _⟩ := h; rfl, fun A outer s H args us vs Q E hr e0 hb hv hsp => ?_⟩
  obtain ⟨a, v, rfl, ha, k⟩ := hsp
  obtain ⟨u, rfl, ru⟩ : ∃ u, us = [.ref a, u] ∧ RelV v u := by
    cases hv with
    | cons r1 r2 =>
      cases r2 with
      | cons r3 r4 =>
        cases r4
        cases r1
        exact ⟨_, rfl, r3⟩
  have KX : K.In s.heap := e0.mod.kin.keeps fun b o e => (e0.bs b o e).1
  have lim : s.heap.NoLimit := e0.mod.nolimit.keeps fun b o e => (e0.bs b o e).1
  obtain ⟨t1, hoa⟩ := exo_at e0.hok ha
  obtain ⟨nm, q, N, bs, bm, sn, sub, ab, col, dd, k0, k1, k2, k3, k5, hC, hbm⟩ := T.oex.cls
  have hcl : PySem.W.clsIn K C = some { name := nm, bases := bs, mro := .ref C :: bm, ns := N, qualname := q, hasDict := true, slotNames := sn, subclasses := sub, abstract := ab, collection := col, hasDel := false } := by unfold PySem.W.clsIn; rw [hC]
  have hal : PySem.W.alongIn K "__init__" bm = some (some kin_) := by
    have z := T.along
    unfold PySem.W.ks_superIn at z
    rw [hcl, Option.bind_some, ESX.drop_own] at z
    exact z
  obtain ⟨mb, hmb, hmb2⟩ := e0.mod.blt
  refine ks_codeAny_call_defAt (binds := [("self", .ref a), (fld, u)]) hr.depth (KX _ _ hlk) rfl lim (PySem.W.codeRec_of KX hcd) rfl hb snoc (fun y hy => ?_) (fun h₁ hns hk₁ => ?_) rfl rfl rfl
  · rcases List.mem_cons.mp hy with rfl | hy
    · exact sself
    · rw [List.mem_singleton.mp hy]; exact sfld
  have X₁ : K.In h₁ := KX.keeps hk₁
  have hbk : ∀ b o, base.get? b = some o → h₁.get? b = some o := fun b o e => hk₁ b o (e0.bs b o e).1
  have hx₁ := hk₁ _ _ hoa
  have I₁ : PySem.W.InstAt h₁ a (HandSPX.excO C t1) C none := ⟨hx₁, rfl, rfl, trivial⟩
  have hself : (List.reverse [(("self" : Str), Value.ref a), (fld, u)]).lookup ("self" : Str) = some (.ref a) := by
    have e : (("self" : Str) == fld) = false := by simpa using fun z : ("self" : Str) = fld => hne z.symm
    simp [List.lookup, e]
  have hfld : (List.reverse [(("self" : Str), Value.ref a), (fld, u)]).lookup fld = some u := by simp [List.lookup]
  obtain ⟨oD, hD1, hD2⟩ : ∃ oD, h₁.get? C = some oD ∧ oD.data = .cls { name := nm, bases := bs, mro := .ref C :: bm, ns := N, qualname := q, hasDict := true, slotNames := sn, subclasses := sub, abstract := ab, collection := col, hasDel := false } := ⟨_, X₁ _ _ hC, rfl⟩
  obtain ⟨hp, g, d, tk, os⟩ := s
  -- super().__init__('..')
  refine ks_wpAt_execs_cons (ks_wpAt_Expr_any (ks_wpAt_MethodCall ?_ (meth_eq rfl hln)) rfl rfl)
  refine ks_wpAt_super_base ssup scls (by decide) rfl (X₁ _ _ hlk) rfl hpar rfl (X₁ _ _ hcode) rfl hvs hfile T.top ?_
  refine PySem.W.ks_loadName_global sk ssup (Calls.loadGlobal_builtin (e0.mod.glob.keeps hbk) T.sup (hmb.keeps hbk) ((hmb2 "super" (by decide)).trans (by decide +kernel)) ⟨rfl, ?_⟩)
  refine wpAny_loadName_free sk scls rfl ⟨_, X₁ _ _ hcell, rfl⟩ ?_
  rw [harg]
  refine wpAny_loadName_local sk sself hns hself ?_
  refine ks_wpAny_isType_cls hD1 hD2 ⟨rfl, ?_⟩
  refine ks_wpAny_call_super hD1 hD2 hx₁ rfl (fun c e => by cases e) (PySem.W.looks_mroIn X₁ T.mine) (fun h₂ hso k₂ => ?_)
  have X₂ : K.In h₂ := X₁.keeps k₂
  have I₂ : PySem.W.InstAt h₂ a (HandSPX.excO C t1) C none := ⟨k₂ _ _ hx₁, rfl, rfl, trivial⟩
  have hmr : PySem.W.Looks (model P w) h₂ (mroOf (.ref C)) (.ref C :: bm) := (PySem.W.looks_clsIn X₂ hcl).andThen .now
  refine kx_method hso (PySem.W.looks_opaque X₂ T.opq) hmr (ESX.drop_own C bm) X₂ hal (PySem.W.ks_ne X₂ I₂ hcl) (I₂.type.andThen (PySem.W.looks_mroIn X₂ T.isV)) ?_
  refine kx_with (x := a) rfl (Calls.evalArgs_plain (Calls.spliced_cons (Calls.Constant_str (k := n3) (pos := p3) (Calls.spliced_nil ⟨Heap.get?_push_size _ rfl, ?_⟩))))
  have k₃ : ∀ b o, h₂.get? b = some o → (h₂.push (kw_ a)).get? b = some o := fun b o e => Heap.get?_push_of_some _ e
  refine kx_call (X₂.keeps k₃ _ _ hC) (k₃ _ _ (k₂ _ _ hx₁)) (Heap.get?_push_size _ rfl) (by show 1 ≤ sizeLine; decide) (fun h₄ t4 k₄ hx₄ => ?_)
  -- self.f = f
  have keep4 : ∀ b o, b ≠ a → h₁.get? b = some o → h₄.get? b = some o := fun b o n e => k₄ b o n (k₃ _ _ (k₂ _ _ e))
  have nLa : hp.objs.size ≠ a := Nat.ne_of_gt (Heap.lt_size hoa)
  have X₄ : K.In h₄ := fun b o e => keep4 b o (fun z => by
    have q1 := X₁ _ _ e
    rw [z, hx₁] at q1
    have := e0.hok
    have hb := (e0.mod.kin _ _ e)
    rw [z] at hb
    have := (e0.bs _ _ hb).2
    rw [ha] at this
    cases this) (X₁ _ _ e)
  have hns4 : h₄.Ns hp.objs.size (fun y => (List.reverse [(("self" : Str), Value.ref a), (fld, u)]).lookup y) := by
    obtain ⟨o, es, ep, ho, rest⟩ := hns
    exact ⟨o, es, ep, keep4 _ _ nLa ho, rest⟩
  refine wpAt_of_wpAny (wpAny_execs_cons (plainObj_wpAny_Assign_Attribute (wpAny_Name (wpAny_loadName_local sk sfld hns4 hfld (wpAny_Name (wpAny_loadName_local sk sself hns4 hself ?_) (by decide))) hdb)))
  refine PySem.W.set_plain X₄ (ox := HandSPX.excO C t4) (od := none) ⟨hx₄, rfl, rfl, trivial⟩ T.oex.sa ?_
  refine exc_osaK X₄ hx₄ hcl (by rw [hbm]) rfl T.no (fun h₅ tk₅ dx k₅ dn dne hx₅ hn₅ => ?_)
  have z : hp.objs.size < h₁.objs.size := hns.lt
  have big : hp.objs.size ≤ dx := by
    obtain ⟨o, es, ep, ho, rest⟩ := hns4
    exact Nat.le_of_lt (Nat.lt_of_lt_of_le (Heap.lt_size ho) dn)
  refine wpAny_execs_nil ?_
  have hnd : H dx = none := e0.hok.fresh big
  have keep5 : ∀ b o, b ≠ a → hp.get? b = some o → h₅.get? b = some o := fun b o n e => k₅ b o n (keep4 b o n (hk₁ _ _ e))
  have nd : ∀ {b : Addr} {o : Obj}, hp.get? b = some o → b ≠ dx := fun {b o} q => Nat.ne_of_lt (Nat.lt_of_lt_of_le (Heap.lt_size q) big)
  have na : ∀ {b : Addr}, H b = none → b ≠ a := fun {b} n z => by
    rw [z, ha] at n
    cases n
  have U : Un (frs outer) [] H (upd (upd H dx (exd dx [(fld, v)])) a (exo a C (some dx))) hp h₅ := {
    keep := fun b o q n _ _ => keep5 b o (na n) q
    slot := fun b o q n _ _ => ⟨o.slots, keep5 b o (na n) q⟩
    free := fun b o q n _ => by rw [upd_ne (na n), upd_ne (nd q)]; exact n
    there := fun b o q _ => by
      by_cases e : b = a
      · exact ⟨_, by rw [e]; exact hx₅⟩
      · exact ⟨o, keep5 b o e q⟩
    tups := fun b xs q => by rw [upd_ne (at_ne ha q exo_tup), upd_ne (ne_of_none q hnd)]; exact q
    frzs := fun b o y q => by rw [upd_ne (at_ne ha q exo_frz), upd_ne (ne_of_none q hnd)]; exact q
    tbls := fun b ps q => ⟨#[], by rw [upd_ne (at_ne ha q exo_tbl), upd_ne (ne_of_none q hnd), q]; simp⟩ }
  refine ⟨.non, _, rfl, e0.bare, U, fun b o q => ?_, rfl, k dx hnd dne⟩
  by_cases e1 : b = a
  · subst e1
    rw [upd_same] at q
    cases q
    exact exo_ok hx₅
  · rw [upd_ne e1] at q
    by_cases e2 : b = dx
    · subst e2
      rw [upd_same] at q
      cases q
      exact exd_ok hn₅ (relO_put (fs := []) ru fun _ => True.intro)
    · rw [upd_ne e2] at q
      refine (e0.hok b o q).stay (fun c y hc z => keep5 c y ?_ z) (fun c hc => ?_) (fun c xs hc => ?_)
      · rcases hc with hc | hc
        · rw [hc]; exact e1
        · exact at_ne ha hc exo_own
      · rw [upd_ne (at_ne ha hc exo_own), upd_ne (ne_of_none hc hnd)]; exact hc
      · rw [upd_ne (at_ne ha hc exo_tup), upd_ne (ne_of_none hc hnd)]; exact hc
section
variable {X : Cx} {e : Expr} {es : List Expr} {ta : TA} {p pos : Pos}
theorem pmk_oexK {CX : CXT} {x : Str} {C fI : Addr} {k : Nat} {fd : FuncData} {ps : List Str} {sp : Sp} {ds : List Value} {dvs : List V} (T : OexK X.K C) (iC : PySem.W.findIn X.K (.ref C) "__init__" = some (some (.ref fI))) (tI : PySem.W.typeIn X.K (.ref fI) = some (.type "function"))
    (F1 : FnOk X.prog X.w X.K X.mg X.base CX k fI fd ps sp) (hr : L2.Room (k + 1) X.A) (hb : Binds X.K fd ps ds) (hd : Vals dvs ds) (hx : Passes CX X (fun _ _ _ => False)) (hg : Gl X x) (hm : X.mg x = some (.ref C)) (ha : PA X (e :: es) ta)
    (hdb : (x == ("__debug__" : Str)) = false := by decide) (he : starEach (e :: es) X.env = (false, eval e X.env) :: starEach es X.env := by rfl) (hpl : (backTo pos (starEach es X.env)).any (·.1) = false := by rfl) :
    PMk X (.Call (.Name x p) (e :: es) [] pos) (tMkO C sp dvs ta) := by
  intro pins s σ H Q I h
  obtain ⟨nm, q, N, bs, bm, sn, sub, ab, col, dd, k0, k1, k2, k3, k5, hC, hbm⟩ := T.cls
  refine wpAny_Call_Name_kw (ld_glob I hg hm ?_ hdb)
  refine PySem.W.callWith_K (h₀ := X.base) I.ok.mod.kin T.kC (thn (ha.run pos pins s σ H _ I h) fun us s1 ⟨vs, H1, I1, r1, hz, q1⟩ => ⟨I1.kIn, ?_⟩) he hpl
  show wpAny _ _ (call (.ref C) us) _ _ _
  obtain ⟨hp, g, dr, tk, os⟩ := s1
  have hsz : hp.objs.size ≤ hp.objs.size + 1 := Nat.le_succ _
  have hn : H1 (hp.objs.size + 1) = none := I1.hok.fresh hsz
  have hq := q1 (hp.objs.size + 1) hn
  have kk : ∀ b o, hp.get? b = some o → ((hp.push (PySem.W.kdv_tup us)).push (PySem.HandSPX.excO C hp.objs.size)).get? b = some o := fun b o e => Heap.get?_push_of_some _ (Heap.get?_push_of_some _ e)
  have hget : ((hp.push (PySem.W.kdv_tup us)).push (PySem.HandSPX.excO C hp.objs.size)).get? (hp.objs.size + 1) = some (PySem.HandSPX.excO C hp.objs.size) := by heap_get
  have I2 : Inv X pins σ (upd H1 (hp.objs.size + 1) (exo (hp.objs.size + 1) C none)) ⟨(hp.push (PySem.W.kdv_tup us)).push (PySem.HandSPX.excO C hp.objs.size), g, dr, tk, os⟩ :=
    I1.laid (t' := tk) (a := hp.objs.size + 1) (o := exo (hp.objs.size + 1) C none) (h' := (hp.push (PySem.W.kdv_tup us)).push (PySem.HandSPX.excO C hp.objs.size)) kk hsz (exo_ok hget)
  have r2 : Vals (V.ref (hp.objs.size + 1) :: (vs ++ dvs)) (Value.ref (hp.objs.size + 1) :: (us ++ ds)) := .cons rfl (r1.append hd)
  have hl : (Value.ref (hp.objs.size + 1) :: us ++ ds).length = ps.length := by
    have e := r2.length
    rw [F1.len _ _ _ _ hq] at e
    exact e.symm
  have hus : us.length ≤ sizeLine := by
    rw [← Paired.length r1, sizeLine_eq]
    omega
  refine wpAny_call (kx_own hbm (I1.kIn _ _ hC) (PySem.W.looks_findIn I1.kIn iC) (fun self => PySem.W.bind_fn I1.kIn self tI) hus
    (codeAny_mono (F1.run _ X.stack _ _ ⟨Value.ref (hp.objs.size + 1) :: us, []⟩ (Value.ref (hp.objs.size + 1) :: (us ++ ds)) _ _ (fun _ _ _ => False) (hr.make C us []) (I2.env0.make C us []) (hb _ (Value.ref (hp.objs.size + 1) :: us) I2.kIn hl) r2 hq) fun r s' hq' => ?_))
  cases r with
  | error er => exact hx pins σ _ _ er s' I2 hq'
  | ok fl =>
    cases fl with
    | ret u =>
      obtain ⟨v, H2, os2, bare2, un2, hok2, rv, ev, d, fs, ea, ed, hd1, q2⟩ := hq'
      subst ev
      obtain ⟨h2, g2, d2, t2, os'⟩ := s'
      exact ⟨rv, mk_end (raises_own T.exC T.tyC) I1 hsz kk un2 hok2 os2 bare2 ea ed hd1 q2⟩
    | next => exact False.elim hq'
    | brk => exact False.elim hq'
    | cont => exact False.elim hq'
end
end TP

namespace TP
open PySem PySem.Spec PyProof.Rows L2
structure MunI (K : PySem.W.Frag) (C : Addr) (m qual : Str) (st : Stmt) (ps : List Str) : Prop where
  ex : ∃ (f : Addr) (fd : FuncData), Meth K C m f ∧ Fun K m qual st f fd ∧ Binds K fd ps [] ∧ PySem.W.fnIn K f = true
structure MthI (P : Program) (w : World) (K : PySem.W.Frag) (mg : Str → Option Value) (base : Heap) (CX : CXT) (k : Nat) (C : Addr) (m : Str) (ps : List Str) (sp : Sp) : Prop where
  ex : ∃ (f : Addr) (fd : FuncData), Meth K C m f ∧ FnOk P w K mg base CX k f fd ps sp ∧ Binds K fd ps [] ∧ PySem.W.fnIn K f = true
section
variable {P : Program} {w : World} {K : PySem.W.Frag} {mg : Str → Option Value} {base : Heap} {C : Addr}
theorem MunI.ok {m qual : Str} {st : Stmt} {N ps : List Str} {k : Nat} {sp : Sp} (F : MunI K C m qual st ps) (S : FnScope N ps (defScope st)) (len : ∀ vs H Q E, sp vs H Q E → vs.length = ps.length) {t : TS}
    (hd : ∀ (f : Addr) (cdv : Value) (A : Around) (outer : List Env) (s : Shared) (H : Hp) (E : XK), Room k (A.deeper (envOfC qual (defScope st) s.heap.objs.size f cdv)) → PSs (cxOf CX0 P w K mg base N qual (defScope st) f cdv A outer s H E).nox (defBody st) t)
    (hb : ∀ (H : Hp) (vs : List V) (Q : VK) (E : XK), sp vs H Q E → t { nx := fun _ H' => Q .non H', rt := Q } (start N vs) H) : MthI P w K mg base CX0 (k + 1) C m ps sp := by
  obtain ⟨f, fd, hm, F, b, fi⟩ := F.ex
  exact ⟨f, fd, hm, F.ok S len fun cdv A outer s H vs Q E hr h => ⟨t, hd f cdv A outer s H E hr, hb H vs Q E h⟩, b, fi⟩
/-- .. one that may raise -/
theorem MunI.okX {m qual : Str} {st : Stmt} {N ps : List Str} {k : Nat} {sp : Sp} (F : MunI K C m qual st ps) (S : FnScope N ps (defScope st)) (len : ∀ vs H Q E, sp vs H Q E → vs.length = ps.length) {t : XK → TS}
    (hd : ∀ (f : Addr) (cdv : Value) (A : Around) (outer : List Env) (s : Shared) (H : Hp) (E : XK), Room k (A.deeper (envOfC qual (defScope st) s.heap.objs.size f cdv)) → PSs (cxOf (L2.CX P w) P w K mg base N qual (defScope st) f cdv A outer s H E) (defBody st) (t E))
    (hb : ∀ (H : Hp) (vs : List V) (Q : VK) (E : XK), sp vs H Q E → t E { nx := fun _ H' => Q .non H', rt := Q } (start N vs) H) : MthI P w K mg base (L2.CX P w) (k + 1) C m ps sp := by
  obtain ⟨f, fd, hm, F, b, fi⟩ := F.ex
  exact ⟨f, fd, hm, F.okX S len fun cdv A outer s H vs Q E hr h => ⟨t E, hd f cdv A outer s H E hr, hb H vs Q E h⟩, b, fi⟩
theorem FunI.okX {x : Str} {st : Stmt} {N ps : List Str} {k : Nat} {sp : Sp} (F : FunI K mg x st ps) (S : FnScope N ps (defScope st)) (len : ∀ vs H Q E, sp vs H Q E → vs.length = ps.length) {t : XK → TS}
    (hd : ∀ (f : Addr) (cdv : Value) (A : Around) (outer : List Env) (s : Shared) (H : Hp) (E : XK), Room k (A.deeper (envOfC x (defScope st) s.heap.objs.size f cdv)) → PSs (cxOf (L2.CX P w) P w K mg base N x (defScope st) f cdv A outer s H E) (defBody st) (t E))
    (hb : ∀ (H : Hp) (vs : List V) (Q : VK) (E : XK), sp vs H Q E → t E { nx := fun _ H' => Q .non H', rt := Q } (start N vs) H) : FnI P w K mg base (L2.CX P w) (k + 1) x ps sp := by
  obtain ⟨f, fd, hm, F, b⟩ := F.ex
  exact ⟨f, fd, hm, F.kp, F.okX S len fun cdv A outer s H vs Q E hr h => ⟨t E, hd f cdv A outer s H E hr, hb H vs Q E h⟩, b⟩
end
section
variable {X : Cx} {CX : CXT} {k j : Nat} {C : Addr} {ps : List Str} {sp : Sp} {E : XK} {m : Str} {pos apos : Pos} {o e : Expr} {es : List Expr} {ta : TE} {t : TA}
end
section
variable {X : Cx} {CX : CXT} {k j : Nat} {C : Addr} {ps : List Str} {sp : Sp} {E : XK} {pins : List (Addr × Obj)} {σ : L2.St} {H : Hp} {s : Shared}
end
end TP

namespace TP
open PySem PySem.Spec PyProof.Rows L2
structure Room (k : Nat) (A : Around) : Prop extends L2.Room k A where
  gd : A.guards = some []
section
variable {j k : Nat} {A : Around}
theorem Room.mono (r : Room k A) (h : j ≤ k) : Room j A := ⟨r.toRoom.mono h, r.gd⟩
theorem Room.deeper (r : Room (k + 1) A) (env : Env) : Room k (A.deeper env) := ⟨r.toRoom.deeper env, r.gd⟩
theorem Room.in1 (r : Room (k + 1) A) : Room k A.in1 := ⟨r.toRoom.in1, r.gd⟩
theorem Room.make (r : Room (k + 1) A) (C : Addr) (us : List Value) (kw : List (Str × Value)) : Room k (A.under (.builtin "type.__call__" ⟨.ref C :: us, kw⟩)) :=
  ⟨r.toRoom.make C us kw, by
    have e : (Code.builtin "type.__call__" ⟨.ref C :: us, kw⟩).guards = [] := by
      first | rfl | simp [Code.guards, Code.isGuard, guardIds] | decide
    show pushGuards (Code.builtin "type.__call__" ⟨.ref C :: us, kw⟩).guards A.guards = some []
    rw [e, r.gd]; rfl⟩
end
/-- what a def keeps, wherever there is room -/
structure FnOk (P : Program) (w : World) (K : PySem.W.Frag) (mg : Str → Option Value) (base : Heap) (CX : CXT) (k : Nat) (f : Addr) (fd : FuncData) (ps : List Str) (sp : Sp) : Prop where
  len : ∀ vs H Q E, sp vs H Q E → vs.length = ps.length
  run : ∀ (A : Around) (outer : List Env) (s : Shared) (H : Hp) (args : Args) (us : List Value) (vs : List V) (Q : VK) (E : XK), Room k A → Env0 P w K mg base A outer s H → BindsTo s fd args (ps.zip us) → Vals vs us → sp vs H Q E →
    codeAny (model P w) A (.call (.ref f) args) (CR CX outer P w H s Q E) s
section
variable {P : Program} {w : World} {K : PySem.W.Frag} {mg : Str → Option Value} {base : Heap} {CX : CXT} {j k : Nat} {f : Addr} {fd : FuncData} {ps : List Str} {sp : Sp}
theorem FnOk.mono (F : FnOk P w K mg base CX j f fd ps sp) (h : j ≤ k) : FnOk P w K mg base CX k f fd ps sp :=
  ⟨F.len, fun A outer s H args us vs Q E hr => F.run A outer s H args us vs Q E (hr.mono h)⟩
/-- a def of the text, by its body -/
theorem fn_body {name qual : Str} {params : Arguments} {body : List Stmt} {scope : Scope} {dV kV doc pm cdv ct oc : Value} {an od : Option Addr} {osl : Array (Option Value)} {N : List Str}
    (lk : K.lookup f = some ⟨oc, od, .func (PySem.W.fnOf name qual params body scope dV kV doc pm an cdv ct), osl⟩) (hcd : PySem.W.codeIn K cdv qual = true) (S : FnScope N ps scope)
    (len : ∀ vs H Q E, sp vs H Q E → vs.length = ps.length)
    (hbody : ∀ (A : Around) (outer : List Env) (s : Shared) (H : Hp) (vs : List V) (Q : VK) (E : XK), Room k (A.deeper (envOfC qual scope s.heap.objs.size f cdv)) → sp vs H Q E →
      ∃ t, PSs (cxOf CX P w K mg base N qual scope f cdv A outer s H E) body t ∧ t { nx := fun _ H' => Q .non H', rt := Q } (start N vs) H) :
    FnOk P w K mg base CX (k + 1) f (PySem.W.fnOf name qual params body scope dV kV doc pm an cdv ct) ps sp where
  len := len
  run := by
    intro A outer s H args us vs Q E hr e0 hb r hsp
    have keep : ∀ b o, base.get? b = some o → s.heap.get? b = some o := fun b o e => (e0.bs b o e).1
    have KX : K.In s.heap := e0.mod.kin.keeps keep
    refine codeAny_call_function hr.depth (KX _ _ lk) rfl S.co S.gen rfl (PySem.W.codeRec_of KX hcd) (hb _ _ _ _ (wpAny_newFunctionEnv_cells S.kind (fun y hy => ?_) fun env he s1 x => ?_))
    · exact (S.par y.1 (List.of_mem_zip hy).1).imp id fun q => ⟨q, PySem.W.cellsFrom_some _ _ _ (.inl q)⟩
    · subst he
      obtain ⟨t, ht, hq⟩ := hbody A outer s H vs Q E (hr.deeper _) hsp
      refine ⟨(e0.mod.nolimit.keeps keep).keeps x.toInCall.keep, codeAny_func (wpAny_mono (ht.run [] s1 (start N vs) H _ (inv_start S hr.hd e0 (len _ _ _ _ hsp) r x) hq) (fun fl s' hs => ?_) fun e s' hs => hs)⟩
      cases fl with
      | ret u => exact let ⟨v, _, H', J, rv, q⟩ := hs; ⟨v, H', J.os, J.bare, J.base, J.hok, rv, q⟩
      | next => exact let ⟨_, H', J, q⟩ := hs; ⟨V.non, H', J.os, J.bare, J.base, J.hok, rfl, q⟩
      | brk => exact let ⟨_, _, _, q⟩ := hs; q.elim
      | cont => exact let ⟨_, _, _, q⟩ := hs; q.elim
theorem okG {x qual : Str} {st : Stmt} {N : List Str} (F : Fun K x qual st f fd) (S : FnScope N ps (defScope st)) (len : ∀ vs H Q E, sp vs H Q E → vs.length = ps.length)
    (hbody : ∀ (cdv : Value) (A : Around) (outer : List Env) (s : Shared) (H : Hp) (vs : List V) (Q : VK) (E : XK), Room k (A.deeper (envOfC qual (defScope st) s.heap.objs.size f cdv)) → sp vs H Q E →
      ∃ t, PSs (cxOf (L2.CX P w) P w K mg base N qual (defScope st) f cdv A outer s H E) (defBody st) t ∧ t { nx := fun _ H' => Q .non H', rt := Q } (start N vs) H) : FnOk P w K mg base (L2.CX P w) (k + 1) f fd ps sp := by
  obtain ⟨oc, od, kV, doc, pm, an, cdv, ct, osl, rfl, lk, hcd⟩ := F.ex
  exact fn_body lk hcd S len fun A outer s H vs Q E hr hsp => hbody cdv A outer s H vs Q E hr hsp
end
section
variable {X : Cx} {CX : CXT} {k : Nat} {f : Addr} {fd : FuncData} {ps : List Str} {sp : Sp} {E : L2.St → XK}
theorem run_fnS {pins : List (Addr × Obj)} {σ : L2.St} {H : Hp} {s : Shared} {Q : VK} {us : List Value} {vs : List V} (F : FnOk X.prog X.w X.K X.mg X.base CX k f fd ps sp) (hr : Room k X.A) (hb : Binds X.K fd ps []) (hx : PassesAt CX X σ (E σ))
    (I : Inv X pins σ H s) (r : Vals vs us) (h : sp vs H Q (E σ)) : wpAny (model X.prog X.w) X.A (call (.ref f) us) (EP X pins σ Q) X.xe s := by
  have b := hb s us I.kIn (by rw [List.append_nil, ← r.length]; exact F.len _ _ _ _ h)
  rw [List.append_nil] at b
  refine wpAny_call (codeAny_mono (F.run X.A X.stack s H ⟨us, []⟩ us vs Q (E σ) hr I.env0 b r h) fun r s' hq => ?_)
  match r, hq with
  | .error e, hq => exact hx pins H s e s' I hq
  | .ok (.ret u), hq => exact I.after hq
  | .ok .next, hq | .ok .brk, hq | .ok .cont, hq => exact False.elim hq
end
end TP

namespace TP
open PySem PySem.Spec PyProof.Rows L2
theorem top_call {P : Program} {w : World} {K : PySem.W.Frag} {mg mb : Str → Option Value} {CX : CXT} {k : Nat} {fa a : Addr} {fd : FuncData} {x : Str} {sp : Sp} {s : Shared} {vs : List Value} {ns : List Int}
    (KX : K.In s.heap) (hns : s.heap.Ns mainGlobals mg) (hb : s.heap.Ns builtinsNs mb) (hbb : ∀ x : Str, x ≠ "__name__" → mb x = bootBuiltins x) (hlim : s.heap.NoLimit) (hg : s.gens = #[])
    (ha : s.heap.get? a = some { cls := .type "list", data := .seq vs.toArray }) (hi : IntsAre vs ns) (hl : ns.length ≤ sizeLine) (hr : Room k callerA)
    (F : ∀ base : Heap, K.In base → base.Ns mainGlobals mg → FnOk P w K mg base CX k fa fd [x] sp) (hbind : ∀ (s : Shared) (u : Value), BindsTo s fd ⟨[u], []⟩ [(x, u)])
    (hsp : ∀ H : Hp, Only H → SqL K H a (ns.map V.int) → sp [.ref a] H (fun v _ => v = .bl true) fun _ _ _ => False)
    (hCX : ∀ H e s', CX [] H s (fun _ _ _ => False) e s' → False) :
    codeAny (model P w) callerA (.call (.ref fa) ⟨[.ref a], []⟩) (fun r s' => r = .ok (.ret (.bool true)) ∧ OldK s.heap s'.heap ∧ s'.os = s.os ∧ AllBare s'.gens) s := by
  have nofs : ∀ b : Addr, b ∉ frs [] := fun b z => absurd (show b ∈ ([] : List Addr) from z) (by simp)
  have main : ∀ H : Hp, Only H → SqL K H a (ns.map V.int) → HOk P w H s.heap → (∀ b, H b ≠ none → b = a ∧ K.lookup a = none) →
      codeAny (model P w) callerA (.call (.ref fa) ⟨[.ref a], []⟩) (fun r s' => r = .ok (.ret (.bool true)) ∧ OldK s.heap s'.heap ∧ s'.os = s.os ∧ AllBare s'.gens) s := fun H hO hS hok hA => by
    have none_of : ∀ {b : Addr}, (b = a → K.lookup a = none → False) → H b = none := fun {b} h => by
      cases q : H b with
      | none => rfl
      | some u => exact (h (hA b (by rw [q]; exact fun z => nomatch z)).1 (hA b (by rw [q]; exact fun z => nomatch z)).2).elim
    have ns_of : ∀ {b : Addr} {m : Str → Option Value}, s.heap.Ns b m → (hidT s.heap H).Ns b m := fun {b m} ⟨o, es, ep, e, d, r⟩ => ⟨o, es, ep, hidT_get e (none_of fun eb _ => by
      subst eb
      rw [ha] at e
      cases e
      exact nomatch (show Data.seq vs.toArray _ = Data.dict es ep from d)), d, r⟩
    have kin : K.In (hidT s.heap H) := fun b o e => hidT_get (KX b o e) (none_of fun eb z => by subst eb; rw [z] at e; exact nomatch e)
    have md : Mod K mg (hidT s.heap H) := ⟨kin, ns_of hns, ⟨mb, ns_of hb, hbb⟩, let ⟨mc, h1, h2⟩ := hlim; ⟨mc, ns_of h1, h2⟩⟩
    refine codeAny_mono ((F _ kin (ns_of hns)).run callerA [] s H ⟨[.ref a], []⟩ [.ref a] [.ref a] _ _ hr ⟨rfl, md, fun b o e => of_hidT e, Nat.le_of_eq (hidT_size _ _), trivial, fun b hb => absurd hb (nofs b), hok, .of_eq hg⟩ (hbind s (.ref a)) (.cons rfl .nil) (hsp H hO hS)) fun r s' h => ?_
    match r, h with
    | .error e, h => exact (hCX H e s' h).elim
    | .ok .next, h | .ok .brk, h | .ok .cont, h => exact False.elim h
    | .ok (.ret u), ⟨v, H', os, bare, un, hok', r', q⟩ =>
      obtain rfl : v = V.bl true := q
      obtain rfl : u = Value.bool true := r'
      refine ⟨rfl, OldK.of_keep fun b o e => ?_, os, bare⟩
      rcases hO b with z | ⟨ob, xs, z⟩
      · exact un.keep b o e z (nofs b) (by simp)
      · have e1 := (hok b _ z).1
        rw [e] at e1
        cases e1
        exact (hok' b _ (un.frzs b _ _ z)).1
  have lenV := hi.length
  cases hk : K.lookup a with
  | some o =>
    have e := KX a o hk
    rw [ha] at e
    cases e
    exact main (fun _ => none) (fun _ => .inl rfl) (.inr ⟨_, vs.toArray, _, hk, rfl, rfl, rfl, by rw [List.size_toArray, lenV]; exact hl, by simpa using vals_ints hi⟩) (fun b u z => nomatch (show (none : Option HO) = some u from z)) fun b z => absurd rfl z
  | none =>
    refine main (fun b => if b = a then some (.frz { cls := .type "list", data := .seq vs.toArray } (.lst (ns.map V.int))) else none) (fun b => ?_) (.inl (.inr ⟨{ cls := .type "list", data := .seq vs.toArray }, if_pos rfl⟩)) (fun b u z => ?_) (fun b z => ?_)
    · by_cases hb : b = a
      · exact .inr ⟨_, _, if_pos hb⟩
      · exact .inl (if_neg hb)
    · by_cases hb : b = a
      · subst hb
        cases (if_pos rfl).symm.trans z
        exact ⟨ha, by rw [List.length_map]; exact hl, vs, _, vals_ints hi, ha⟩
      · exact nomatch (if_neg hb).symm.trans z
    · by_cases hb : b = a
      · exact ⟨hb, hk⟩
      · exact absurd (if_neg hb) z
theorem walk_top {l : PySem.W.OpenLaw} {n k : Nat} {q : Program} {loose : List Str} {XP : (Str → Option Value) → Heap → Prop} {YP : World → Heap → Prop} {d : DefRec} {K : Params → PySem.W.Frag} {CX : World → CXT} {sp : World → Sp} {x : Str}
    (hn : l.most = some n) (hn2 : n ≤ sizeLine) (hdf : d.params.defaults = []) (hr : Room k callerA) (hY : ∀ (w : World) (h : Heap), YP w h → (K w.params).In h)
    (F : ∀ (w : World) (mg : Str → Option Value) (fa : Addr) (h : Heap), (K w.params).In h → h.Ns mainGlobals mg → mg d.name = some (.ref fa) →
      ∃ fd : FuncData, (∀ (s : Shared) (u : Value), BindsTo s fd ⟨[u], []⟩ [(x, u)]) ∧ ∀ base : Heap, (K w.params).In base → base.Ns mainGlobals mg → FnOk l.prog w (K w.params) mg base (CX w) k fa fd [x] (sp w))
    (hsp : ∀ (w : World) (H : Hp) (a : Addr) (ns : List Int), ns.length ≤ n → Only H → SqL (K w.params) H a (ns.map V.int) → sp w [.ref a] H (fun v _ => v = .bl true) fun _ _ _ => False)
    (hCX : ∀ (w : World) (H : Hp) (s : Shared) (e : Value) (s' : Shared), CX w [] H s (fun _ _ _ => False) e s' → False) :
    PySem.W.WalkO q loose XP YP l.row.toRowW d [] (fun f vs => PySem.call f vs) := by
  refine Att.attach_call hn hdf fun w s₀ s₁ mg mb fa o pm cd doc a vs ns G Y ho hd hcd hmg hobj hints hlen hg => ?_
  obtain ⟨fd, hb, hF⟩ := F w mg fa _ (hY w _ Y) G.T.g hmg
  exact top_call (hY w _ Y) G.T.g G.T.b G.T.builtins G.T.nolimit hg hobj hints (Nat.le_trans hlen hn2) hr hF hb (fun H hO hS => hsp w H a ns hlen hO hS) fun H e s' => hCX w H s₁ e s'
end TP

namespace TP
open PySem PySem.Spec PyProof.Rows L2
abbrev noW : WX := fun _ _ _ _ => False
/-- what leaves a def -/
abbrev wOut (E : XK) : WX := fun cls d _ H => E cls d H
structure FnZ (P : Program) (w : World) (K : PySem.W.Frag) (mg : Str → Option Value) (base : Heap) (k : Nat) (x : Str) (ps : List Str) (sp : Sp) : Prop where
  ex : ∃ (f : Addr) (fd : FuncData), mg x = some (.ref f) ∧ PySem.W.keepIn K (.ref f) = true ∧ FnOk P w K mg base (L2.CX P w) k f fd ps sp ∧ Binds K fd ps []
structure MthZ (P : Program) (w : World) (K : PySem.W.Frag) (mg : Str → Option Value) (base : Heap) (k : Nat) (C : Addr) (m : Str) (ps : List Str) (sp : Sp) : Prop where
  ex : ∃ (f : Addr) (fd : FuncData), Meth K C m f ∧ FnOk P w K mg base (L2.CX P w) k f fd ps sp ∧ Binds K fd ps [] ∧ PySem.W.fnIn K f = true
/-- C.m, m a staticmethod -/
structure StaZ (P : Program) (w : World) (K : PySem.W.Frag) (mg : Str → Option Value) (base : Heap) (k : Nat) (C : Addr) (m : Str) (ps : List Str) (sp : Sp) : Prop where
  ex : ∃ (p f : Addr) (fd : FuncData) (mc : Value), ClX.CRead K C mc ∧ PySem.W.findCls K (.ref C) mc m = some (.get (.builtin "staticmethod.__get__") (.ref p) .none (.ref C)) ∧ (∃ rest, PySem.W.recIn K p "staticmethod" = some (.ref f :: rest)) ∧ PySem.W.keepIn K (.ref f) = true ∧
    FnOk P w K mg base (L2.CX P w) k f fd ps sp ∧ Binds K fd ps []
section
variable {P : Program} {w : World} {K : PySem.W.Frag} {mg : Str → Option Value} {base : Heap} {C : Addr}
theorem FunI.okZ {x : Str} {st : Stmt} {N ps : List Str} {k : Nat} {sp : Sp} (F : FunI K mg x st ps) (S : FnScope N ps (defScope st)) (len : ∀ vs H Q E, sp vs H Q E → vs.length = ps.length) {t : XK → TS}
    (hd : ∀ (f : Addr) (cdv : Value) (A : Around) (outer : List Env) (s : Shared) (H : Hp) (E : XK), Room k (A.deeper (envOfC x (defScope st) s.heap.objs.size f cdv)) → PSs (cxOf (L2.CX P w) P w K mg base N x (defScope st) f cdv A outer s H E) (defBody st) (t E))
    (hb : ∀ (H : Hp) (vs : List V) (Q : VK) (E : XK), sp vs H Q E → t E { nx := fun _ H' => Q .non H', rt := Q } (start N vs) H) : FnZ P w K mg base (k + 1) x ps sp := by
  obtain ⟨f, fd, hm, F, b⟩ := F.ex
  exact ⟨f, fd, hm, F.kp, okG F S len fun cdv A outer s H vs Q E hr h => ⟨t E, hd f cdv A outer s H E hr, hb H vs Q E h⟩, b⟩
theorem MunI.okZ {m qual : Str} {st : Stmt} {N ps : List Str} {k : Nat} {sp : Sp} (F : MunI K C m qual st ps) (S : FnScope N ps (defScope st)) (len : ∀ vs H Q E, sp vs H Q E → vs.length = ps.length) {t : XK → TS}
    (hd : ∀ (f : Addr) (cdv : Value) (A : Around) (outer : List Env) (s : Shared) (H : Hp) (E : XK), Room k (A.deeper (envOfC qual (defScope st) s.heap.objs.size f cdv)) → PSs (cxOf (L2.CX P w) P w K mg base N qual (defScope st) f cdv A outer s H E) (defBody st) (t E))
    (hb : ∀ (H : Hp) (vs : List V) (Q : VK) (E : XK), sp vs H Q E → t E { nx := fun _ H' => Q .non H', rt := Q } (start N vs) H) : MthZ P w K mg base (k + 1) C m ps sp := by
  obtain ⟨f, fd, hm, F, b, fi⟩ := F.ex
  exact ⟨f, fd, hm, okG F S len fun cdv A outer s H vs Q E hr h => ⟨t E, hd f cdv A outer s H E hr, hb H vs Q E h⟩, b, fi⟩
end
def tCallZ (sp : Sp) (W : WX) (t : TA) : TE := fun σ H Q => t σ H fun vs H1 => sp vs H1 Q (WE W σ)
section
variable {X : Cx} {k j : Nat} {C : Addr} {ps : List Str} {sp : Sp} {W : WX} {x m : Str} {p pos apos : Pos} {o e : Expr} {es : List Expr} {ta : TE} {t : TA}
theorem pe_callZ (I : FnZ X.prog X.w X.K X.mg X.base k x ps sp) (hr : Room j X.A) (hk : k ≤ j) (tk : Takes X W) (ha : PA X (e :: es) t) (hg : Gl X x := by rfl)
    (hdb : (x == ("__debug__" : Str)) = false := by decide) (he : starEach (e :: es) X.env = (false, eval e X.env) :: starEach es X.env := by rfl) (hpl : (backTo pos (starEach es X.env)).any (·.1) = false := by rfl) :
    PE X (.Call (.Name x p) (e :: es) [] pos) (tCallZ sp W t) := by
  obtain ⟨f, fd, hm, kp, F, b⟩ := I.ex
  refine ⟨fun pins s σ H Q I h => ?_⟩
  refine wpAny_Call_Name_kw (ld_glob I hg hm ?_ hdb)
  refine PySem.W.callWith_K (h₀ := X.base) I.ok.mod.kin kp (thn (ha.run pos pins s σ H _ I h) fun us s1 ⟨vs, H1, I1, r, q⟩ => ⟨I1.kIn, ?_⟩) he hpl
  exact run_fnS (E := WE W) F (hr.mono hk) b (passAt tk σ) I1 r q
theorem pe_callZ0 (I : FnZ X.prog X.w X.K X.mg X.base k x ps sp) (hr : Room j X.A) (hk : k ≤ j) (tk : Takes X W) (hg : Gl X x := by rfl) (hdb : (x == ("__debug__" : Str)) = false := by decide) :
    PE X (.Call (.Name x p) [] [] pos) (tCallZ sp W tNil) := by
  obtain ⟨f, fd, hm, kp, F, b⟩ := I.ex
  refine ⟨fun pins s σ H Q I h => ?_⟩
  refine wpAny_Call_Name_kw (ld_glob I hg hm ?_ hdb)
  exact PySem.W.callWith_K0 I.kIn kp (run_fnS (E := WE W) (us := []) F (hr.mono hk) b (passAt tk σ) I .nil h)
end
end TP

namespace TP
open PySem PySem.Spec PyProof.Rows L2
/-- an own error class, as it stands: its name x, its class C, its one field -/
structure ErrI (P : Program) (K : PySem.W.Frag) (mg : Str → Option Value) (x : Str) (C : Addr) (fld : Str) : Prop where
  at_ : mg x = some (.ref C)
  xf : XfC K C
  is_ : ExcC K C
  no : PySem.W.findIn K (.ref C) fld = some none
  ex : ∃ (fI : Addr) (fd : FuncData) (qual : Str), IniTxt P K mg C fI fld qual fd ∧ PySem.W.findIn K (.ref C) "__init__" = some (some (.ref fI)) ∧ PySem.W.typeIn K (.ref fI) = some (.type "function") ∧ Binds K fd ["self", fld] []
/-- raise x(e) -/
def tRaise (C : Addr) (fld : Str) (W : WX) (ta : TA) : TS := fun _ σ H => ta σ H fun vs H1 => ∃ v, vs = [v] ∧ ∀ d, H1 d = none → W (.ref C) (some d) σ (upd H1 d (.xd [(fld, v)]))
theorem del_eq {H1 : Hp} {a dx : Addr} {o1 o2 o3 o : HO} (na : H1 a = none) (ne : dx ≠ a) : upd (del (upd (upd (upd H1 a o1) dx o2) a o3) a) dx o = upd H1 dx o := by
  funext b
  by_cases e1 : b = dx
  · subst e1; rw [upd_same, upd_same]
  · rw [upd_ne e1, upd_ne e1]
    by_cases e2 : b = a
    · subst e2; rw [del_same, na]
    · rw [del_ne e2, upd_ne e2, upd_ne e1, upd_ne e2]
/-- a reading of arguments, with what is known behind it weakened -/
def tWeak (ta : TA) : TA := fun σ H Q => ∃ Q', ta σ H Q' ∧ ∀ vs H', Q' vs H' → Q vs H'
theorem pa_weak {X : Cx} {es : List Expr} {ta : TA} (h : PA X es ta) : PA X es (tWeak ta) :=
  ⟨fun pos pins s σ H Q I ⟨Q', q, k⟩ => thn (h.run pos pins s σ H Q' I q) fun us s1 ⟨vs, H1, I1, r, q1⟩ => ⟨vs, H1, I1, r, k _ _ q1⟩⟩
section
variable {X : Cx} {W : WX} {x fld : Str} {C : Addr} {j : Nat} {e : Expr} {ta : TA} {p p1 pos : Pos}
theorem ps_raiseZ (hc : X.calm = true) (tk : Takes X W) (T : ErrI X.prog X.K X.mg x C fld) (hr : Room j X.A) (hk : 3 ≤ j) (ha : PA X [e] ta) (hg : Gl X x := by rfl)
    (hdb : (x == ("__debug__" : Str)) = false := by decide) (he : starEach [e] X.env = (false, eval e X.env) :: starEach [] X.env := by rfl) (hpl : (backTo p1 (starEach [] X.env)).any (·.1) = false := by rfl) :
    PS X (.Raise (some (.Call (.Name x p) [e] [] p1)) none pos) (tRaise C fld W ta) := by
  obtain ⟨fI, fd, qual, T1, iC, tI, b⟩ := T.ex
  have Z := ps_raise (pos := pos) hc tk (pmk_oex (p := p) (pos := p1) T1.oex iC tI (exc_init_ok (w := X.w) (base := X.base) T1) (hr.mono hk).toRoom b .nil (fun _ _ _ _ _ _ _ h => h.elim) hg T.at_ (pa_weak ha) hdb he hpl)
  refine ⟨fun pins s σ H D I h => Z.run pins s σ H D I ?_⟩
  refine (?_ : tMkO C (sp_exi C fld) [] (tWeak ta) σ H fun cls d H' => W cls d σ H')
  exact ⟨_, h, fun vs H1 ⟨v, ev, q⟩ => by
    subst ev
    refine ⟨by show 1 ≤ 1000; decide, fun a na => ⟨a, v, rfl, upd_same, fun dx nd ne => ⟨rfl, dx, [(fld, v)], upd_same, by rw [upd_ne ne, upd_same], ?_, ?_⟩⟩⟩
    · rw [upd_ne ne] at nd; exact nd
    · rw [del_eq na ne]
      rw [upd_ne ne] at nd
      exact q dx nd⟩
end
end TP

namespace TP
open PySem PySem.Spec PyProof.Rows L2
/-- an own error class over KeyError, as it stands -/
structure ErrK (P : Program) (K : PySem.W.Frag) (mg : Str → Option Value) (x : Str) (C : Addr) (fld : Str) : Prop where
  at_ : mg x = some (.ref C)
  xf : XfC K C
  is_ : ExcC K C
  no : PySem.W.findIn K (.ref C) fld = some none
  ex : ∃ (fI : Addr) (fd : FuncData) (qual : Str), IniTxtK P K mg C fI fld qual fd ∧ PySem.W.findIn K (.ref C) "__init__" = some (some (.ref fI)) ∧ PySem.W.typeIn K (.ref fI) = some (.type "function") ∧ Binds K fd ["self", fld] []
section
variable {X : Cx} {W : WX} {x fld : Str} {C : Addr} {j : Nat} {e : Expr} {ta : TA} {p p1 pos : Pos}
end
end TP

namespace TP
open PySem PySem.Spec PySem.Calls PyProof.Rows
open L2
section
variable {X : Cx} {a b e : Expr} {ta tb : TE} {pos : Pos}
end
end TP

namespace TP
open PySem PySem.Spec PyProof.Rows L2
/-- what an own class says of itself -/
structure OwnC (K : PySem.W.Frag) (C : Addr) : Prop where
  cls : Cls K C
  ca : PySem.W.findIn K (.ref C) "__class__" = some (some (.builtin "object.__class__"))
  cg : PySem.W.specialIn K (.builtin "object.__class__") "__get__" = some (some (.builtin "getset_descriptor.__get__"))
  ct : PySem.W.takesIn K (.builtin "object.__class__") = some true
  cm : PySem.W.mroIn K C (.type "object") = some true
  first : PySem.W.selfFirst K C = true
  nseq : PySem.W.noSeq K C = true
  ne : PySem.W.findIn K (.ref C) "__ne__" = some (some (.builtin "object.__ne__"))
theorem OwnC.ty {K : PySem.W.Frag} {C a dx : Addr} {H : Hp} {fs : List (Str × V)} (T : OwnC K C) (h : H a = some (.ins C dx fs)) : TyX K H (.ref a) (.ref C) := .base (.ins h T.cls T.ca T.cg T.ct T.cm)
theorem OwnC.self {K : PySem.W.Frag} {C : Addr} : PySem.W.notFirst K C (.ref C) = true := by unfold PySem.W.notFirst; rw [beq_self_eq_true]; rfl
section
variable {X : Cx} {k j : Nat} {C : Addr} {ps : List Str} {sp : Sp} {W : WX}
/-- what int and C say of an operator with own methods on both sides -/
structure MixC (K : PySem.W.Frag) (C : Addr) (m rm : Str) : Prop where
  r : ∃ g : Addr, PySem.W.findIn K (.ref C) rm = some (some (.ref g))
  fo : ∃ v, PySem.W.findIn K (.type "int") m = some v
  ro : ∃ v, PySem.W.findIn K (.type "int") rm = some v
  sub : PySem.W.subIn K (.type "int") (.ref C) = some false
end
/-- isinstance(e, c), e the error that the suite holds -/
def rIsX (K : PySem.W.Frag) (a : Addr) (cls : Value) (d : Option Addr) : List V → Hp → VK → Prop := fun xs H Q => ∃ (D dd : Addr) (fs : List (Str × V)) (c : V) (cv : Value) (b : Bool), cls = .ref D ∧ ExcC K D ∧ d = some dd ∧ H dd = some (.xd fs) ∧ xs = [.ref a, c] ∧ ClsV c cv ∧ PySem.W.kitOne K (.ref D) cv = some b ∧ Q (.bl b) H
theorem call_isX {X : Cx} {a : Addr} {oe : Obj} {cls : Value} {d : Option Addr} {pn : List (Addr × Obj)} (hz : Zc cls d oe) (hf : ∃ vs, oe.data = .fields vs) : CallR (X.suite a ((a, oe) :: pn)) (.builtin "isinstance") (rIsX X.K a cls d) := by
  intro pins s σ H xs us Q I r h
  obtain ⟨D, dd, fs, c, cv, b, ec, C, ed, hd, rfl, hcv, e, q⟩ := h
  subst ec
  subst ed
  obtain ⟨u1, u2, rfl, rx, rt⟩ := vals2 r
  cases rx
  have ec := hcv.eq rt
  subst ec
  obtain ⟨hget, _⟩ := I.pin (a, oe) (List.mem_append.mpr (.inl List.mem_cons_self))
  obtain ⟨vs, hv⟩ := hf
  obtain ⟨mA, hns, _⟩ := (show ObjOk X.prog X.w H s.heap dd (.xd fs) from I.hok dd _ hd)
  obtain ⟨od, ho, _⟩ := lookIn_ns hns
  have J : PySem.W.InstAt s.heap a oe D (some od) := ⟨hget, hz.1, by unfold PySem.W.notCls; rw [hv] <;> rfl, by rw [hz.2]; exact ho⟩
  obtain ⟨cd, hc, _⟩ := PySem.W.any_some C.hd
  exact PySem.W.kia_one (PySem.W.kitx_exc (by rw [hc]; rfl) C.hg C.hk C.hs C.ha C.hn C.ht C.hm) I.kIn J e (fun z => nomatch z) fun tk => ⟨.bl b, H, I.kept (t' := tk) fun _ _ z => z, rfl, q⟩
end TP

namespace TP
open PySem PySem.Spec PyProof.Rows L2
structure MakZ (P : Program) (w : World) (K : PySem.W.Frag) (mg : Str → Option Value) (base : Heap) (k : Nat) (x : Str) (C : Addr) (ps : List Str) (sp : Sp) (ds : List Value) : Prop where
  ex : ∃ (f : Addr) (fd : FuncData), mg x = some (.ref C) ∧ Mk K C f ∧ FnOk P w K mg base (L2.CX P w) k f fd ps sp ∧ Binds K fd ps ds
/-- .. as it stands -/
structure MakI (K : PySem.W.Frag) (mg : Str → Option Value) (x : Str) (C : Addr) (m qual : Str) (st : Stmt) (ps : List Str) (ds : List Value) : Prop where
  ex : ∃ (f : Addr) (fd : FuncData), mg x = some (.ref C) ∧ Mk K C f ∧ (Fun K m qual st f fd ∨ ∃ dvs kws, FunD K m qual (defArgs st) (defBody st) (defScope st) dvs kws f fd) ∧ Binds K fd ps ds
section
variable {P : Program} {w : World} {K : PySem.W.Frag} {mg : Str → Option Value} {base : Heap} {C : Addr}
theorem okGD {CX : CXT} {x qual : Str} {params : Arguments} {body : List Stmt} {scope : Scope} {dvs : List V} {kws : List (Str × V)} {f : Addr} {fd : FuncData} {N ps : List Str} {k : Nat} {sp : Sp} (F : FunD K x qual params body scope dvs kws f fd) (S : FnScope N ps scope) (len : ∀ vs H Q E, sp vs H Q E → vs.length = ps.length)
    (hbody : ∀ (cdv : Value) (A : Around) (outer : List Env) (s : Shared) (H : Hp) (vs : List V) (Q : VK) (E : XK), Room k (A.deeper (envOfC qual scope s.heap.objs.size f cdv)) → sp vs H Q E →
      ∃ t, PSs (cxOf CX P w K mg base N qual scope f cdv A outer s H E) body t ∧ t { nx := fun _ H' => Q .non H', rt := Q } (start N vs) H) : FnOk P w K mg base CX (k + 1) f fd ps sp := by
  obtain ⟨oc, od, dV, kV, doc, pm, an, cdv, ct, osl, rfl, lk, hcd, _, _⟩ := F.ex
  exact fn_body lk hcd S len fun A outer s H vs Q E hr hsp => hbody cdv A outer s H vs Q E hr hsp
theorem MakI.okZ {x m qual : Str} {st : Stmt} {N ps : List Str} {ds : List Value} {k : Nat} {sp : Sp} (F : MakI K mg x C m qual st ps ds) (S : FnScope N ps (defScope st)) (len : ∀ vs H Q E, sp vs H Q E → vs.length = ps.length) {t : XK → TS}
    (hd : ∀ (f : Addr) (cdv : Value) (A : Around) (outer : List Env) (s : Shared) (H : Hp) (E : XK), Room k (A.deeper (envOfC qual (defScope st) s.heap.objs.size f cdv)) → PSs (cxOf (L2.CX P w) P w K mg base N qual (defScope st) f cdv A outer s H E) (defBody st) (t E))
    (hb : ∀ (H : Hp) (vs : List V) (Q : VK) (E : XK), sp vs H Q E → t E { nx := fun _ H' => Q .non H', rt := Q } (start N vs) H) : MakZ P w K mg base (k + 1) x C ps sp ds := by
  obtain ⟨f, fd, at_, M, F, b⟩ := F.ex
  refine ⟨f, fd, at_, M, ?_, b⟩
  rcases F with F | ⟨dvs, kws, F⟩
  · exact okG F S len fun cdv A outer s H vs Q E hr h => ⟨t E, hd f cdv A outer s H E hr, hb H vs Q E h⟩
  · exact okGD F S len fun cdv A outer s H vs Q E hr h => ⟨t E, hd f cdv A outer s H E hr, hb H vs Q E h⟩
end
section
variable {X : Cx} {k j : Nat} {C : Addr} {ps : List Str} {sp : Sp} {W : WX} {x : Str} {p pos : Pos} {e : Expr} {es : List Expr} {t : TA} {ds : List Value} {dvs : List V}
end
end TP

namespace TP
open PySem PySem.Spec PyProof.Rows L2
/-- o.f = v -/
def tSetF (C : Addr) (f : Str) (ta tv : TE) : TS := fun D σ H => tv σ H fun y H1 => ta σ H1 fun x H2 => ∃ a dx fs, x = .ref a ∧ H2 a = some (.ins C dx fs) ∧ fs.length < 1000 ∧ D.nx σ (upd H2 a (.ins C dx (putF f y fs)))
section
variable {X : Cx} {o e value : Expr} {f : Str} {pos pos' : Pos} {ta tv : TE} {C : Addr}
theorem ps_setF (c : Cls X.K C) (n : NoAttr X.K C f) (ha : PE X o ta) (hv : PE X value tv) (hs : swapsWith value (some (.Attribute o f pos')) pos.line X.env = pure false := by rfl) : PS X (.Assign [.Attribute o f pos'] value pos) (tSetF C f ta tv) := by
  refine ⟨fun pins s σ H D I h => ?_⟩
  refine plainObj_wpAny_Assign_Attribute (thn (hv.run pins s σ H _ I h) fun u s1 ⟨y, H1, I1, ry, q⟩ => thn (ha.run pins s1 σ H1 _ I1 q) fun ov s2 ⟨x, H2, I2, rx, a, dx, fs, ex, ea, l, q2⟩ => ?_) hs
  subst ex
  cases rx
  exact setattr_ok I2 ea c n l ry fun s3 I3 => ⟨σ, _, I3, q2⟩
end
/-- try: .. except x as n: .. -/
def tTry (tb : WX → TS) (w : Ends → WX) : TS := fun D σ H => tb (w D) D σ H
end TP

namespace TP
open PySem PySem.Spec PyProof.Rows L2
section
variable {σ : L2.St} {H : Hp} {Q : VK} {QB : Bool → Hp → Prop} {QA : List V → Hp → Prop} {D : Ends} {ta tb te to ti : TE} {tl : TA} {ts us : TS} {x y v : V} {i j : Int} {K : PySem.W.Frag} {C : Addr} {sp : Sp} {W : WX}
theorem at_get {f : Str} {a dx : Addr} {fs : List (Str × V)} {P : V → Prop} (h : H a = some (.ins C dx fs)) (l : fs.lookup f = some v) (q : P v) : ∃ b dx fs v, V.ref a = .ref b ∧ H b = some (.ins C dx fs) ∧ fs.lookup f = some v ∧ P v := ⟨a, dx, fs, v, rfl, h, l, q⟩
end
def kinds : List String := ["NoneType", "bool", "int", "str", "list", "tuple", "bytes", "dict"]
/-- v is of the built-in kind t -/
def Kd (K : PySem.W.Frag) (H : Hp) (v : V) (t : String) : Prop := TyX K H v (.type t) ∧ t ∈ kinds
def isK (t T : String) : Bool := t == T || (t == "bool" && T == "int")
theorem kit_ty2 {K : PySem.W.Frag} {t T : String} {r : Bool} (h : PySem.W.kitOne [] (.type t) (.type T) = some r) : PySem.W.kitOne K (.type t) (.type T) = some r := by
  exact h
section
variable {K : PySem.W.Frag} {H : Hp}
end
def askedK : List String := ["int", "bool", "str", "list", "tuple", "bytes"]
theorem kit_all : ∀ t ∈ kinds, ∀ T ∈ askedK, PySem.W.kitOne [] (.type t) (.type T) = some (isK t T) := by decide +kernel
theorem Kd.same {K : PySem.W.Frag} {H H' : Hp} {v : V} {t : String} (h : Kd K H v t) (e : Same H H') : Kd K H' v t := by
  obtain ⟨h, m⟩ := h
  refine ⟨?_, m⟩
  cases h with
  | base b =>
    generalize hg : Value.type t = tt at b
    cases b with
    | non => cases hg; exact .base .non
    | bl x => cases hg; exact .base (.bl x)
    | int i => cases hg; exact .base (.int i)
    | str x => cases hg; exact .base (.str x)
    | flt x => cases hg; exact .base (.flt x)
    | lst h => cases hg; exact .base (.lst (e _ _ h))
    | frz h => cases hg; exact .base (.frz (e _ _ h))
    | tup h => cases hg; exact .base (.tup (e _ _ h))
    | dK h => cases hg; exact .base (.dK (e _ _ h))
    | dT h => cases hg; exact .base (.dT (e _ _ h))
    | ins => cases hg
  | byt b => exact .byt b
  | set h => exact .set (e _ _ h)
  | kList a c => exact .kList a c
  | kTuple a c => exact .kTuple a c
  | kDict a c => exact .kDict a c
  | fTuple h => exact .fTuple (e _ _ h)
  | fDict h => exact .fDict (e _ _ h)
def YP (ps : List (V × V)) : Nat → Hp → V → Hp → Prop := fun i H v H' => ∃ T x y, v = .ref T ∧ H T = none ∧ H' = upd H T (.tup [x, y]) ∧ ps[i]? = some (x, y)
section
variable {K : PySem.W.Frag} {a b : Addr} {xs ys : List V}
end
section
variable {σ : L2.St} {H : Hp} {Q : VK} {Dn : Addr} {te : TE} {tt : TT} {vs : List Nat} {K : PySem.W.Frag} {D : Ends} {tb : TS} {n1 n2 : Nat}
end
end TP

namespace TP
open PySem PySem.Spec PyProof.Rows L2
abbrev NL := List (NestedKey × Addr × V)
def NdRel (p : NestedKey × Addr × V) (q : NestedKey × Addr × Value) : Prop := p.1 = q.1 ∧ p.2.1 = q.2.1 ∧ RelV p.2.2 q.2.2
def entN (w : World) (x : NestedKey × Addr × Value) : DictEntry := ⟨x.1.hash w, .ref x.2.1, x.2.2⟩
/-- at a stands a dict: its keys, where their tuples stand, and its values -/
def NdOk (w : World) (a : Addr) (L : NL) (h : Heap) : Prop := L.length ≤ sizeLine ∧ (a == sysModules) = false ∧ ∃ xs : List (NestedKey × Addr × Value), Paired NdRel L xs ∧
  ∃ o es ep, h.get? a = some o ∧ o.ExactDict ∧ o.data = .dict es ep ∧ es.toList = xs.map (entN w) ∧ (xs.map (·.1)).Nodup
def NdO (w : World) (a : Addr) (L : NL) : HO := .ext (NdOk w a L)
mutual
/-- the value v, in H, is the key k -/
inductive NkV (K : PySem.W.Frag) (H : Hp) : NestedKey → V → Prop
  | non : NkV K H .none .non
  | bl (b : Bool) (i : Int) : i = (if b = true then 1 else 0) → NkV K H (.num i) (.bl b)
  | int (i : Int) : NkV K H (.num i) (.int i)
  | str (x : Str) : NkV K H (.text x) (.str x)
  | tup {a : Addr} {xs : List V} {ks : List NestedKey} : SqT K H a xs → NkAll K H ks xs → NkV K H (.tup ks) (.ref a)
inductive NkAll (K : PySem.W.Frag) (H : Hp) : List NestedKey → List V → Prop
  | nil : NkAll K H [] []
  | cons {k : NestedKey} {v : V} {ks : List NestedKey} {vs : List V} : NkV K H k v → NkAll K H ks vs → NkAll K H (k :: ks) (v :: vs)
end
section
variable {P : Program} {w : World} {K : PySem.W.Frag} {H : Hp} {h : Heap} (ok : HOk P w H h) (KX : K.In h)
include ok KX
mutual
theorem nk_is : ∀ (k : NestedKey) (v : V) (u : Value), NkV K H k v → RelV v u → NestedIs h k u
  | .none, v, u, x, r => by
    cases x
    cases (show u = Value.none from r)
    exact .none
  | .num i, v, u, x, r => by
    cases x with
    | bl b i e => cases (show u = Value.bool b from r); exact .bool e
    | int i => obtain ⟨t, rfl⟩ := r; exact .int i t
  | .text z, v, u, x, r => by
    cases x
    obtain ⟨t, rfl⟩ := r
    exact .text z t
  | .tup ks, v, u, x, r => by
    cases x with
    | @tup a xs _ hs ha =>
      cases (show u = Value.ref a from r)
      obtain ⟨its, o, n, rv, e, c, d⟩ := sqT_at ok KX hs
      exact .tup e c d (by simpa using nks_is ks xs its ha rv)
theorem nks_is : ∀ (ks : List NestedKey) (vs : List V) (us : List Value), NkAll K H ks vs → Vals vs us → NestedAll h ks us
  | [], vs, us, x, r => by cases x; cases r; exact .nil
  | k :: ks, vs, us, x, r => by
    cases x with
    | @cons _ v _ vs h1 h2 =>
      cases r with
      | cons r1 r2 => exact .cons (nk_is k v _ h1 r1) (nks_is ks vs _ h2 r2)
end
end
section
variable {P : Program} {w : World} {K : PySem.W.Frag} {H : Hp} {h : Heap} {a : Addr} {L : NL}
end
section
variable {X : Cx} {pins : List (Addr × Obj)} {σ : L2.St} {H : Hp} {s : Shared} {a : Addr} {y v : V} {u r : Value} {o : Option V} {A : Around} {E : Value → Shared → Prop} {pos : Pos}
end
section
variable {X : Cx}
end
end TP
namespace TP
open PySem PySem.Spec PyProof.Rows L2
section
variable {X : Cx} {o i e f value : Expr} {pos pos' apos cpos : Pos} {td ty tv tx : TE}
end
end TP

namespace MR
open PySem PySem.Spec PyProof.Rows L2 TP
inductive D where
  | non | bl (b : Bool) | int (i : Int) | str (x : Str) | byt (b : Array UInt8) | ty (n : String) | cls (c : Nat)
  | tup (ds : List D) | lst (ds : List D) | dic (ks : List Key) (ds : List D) | obj (c : Nat) (ns : List Str) (ds : List D) | ref (n : Nat) | scr (is : List Int) | fdc (ks : List Key) (ds : List D) | ndc (ks ds : List D) | fnc (ks ds : List D)
  deriving Inhabited
abbrev Sto := List (Option D)
/-- where the classes stand, and the world -/
structure Gm where
  f : Nat → Addr
  wd : World
instance : CoeFun Gm fun _ => Nat → Addr := ⟨Gm.f⟩
mutual
/-- a thing as a key of a dict -/
def nkD : D → NestedKey
  | .bl b => .num (if b = true then 1 else 0)
  | .int i => .num i
  | .str x => .text x
  | .tup ds => .tup (nksD ds)
  | _ => .none
def nksD : List D → List NestedKey
  | [] => []
  | d :: ds => nkD d :: nksD ds
end
def plnD : Nat → D → Bool
  | _, .non => true
  | _, .bl _ => true
  | _, .int _ => true
  | _, .str _ => true
  | n + 1, .tup ds => ds.all (plnD n)
  | _, _ => false
def keyD : D → Bool
  | .tup ds => plnD 8 (.tup ds)
  | _ => false
/-- a name's place: unset; a value; a thing of one's own that may be changed -/
inductive Slot where
  | no | val (d : D) | own (b : Bool) (d : D) | exn (c : Nat) (ns : List Str) (ds : List D)
  deriving Inhabited
abbrev Env := List Slot
section
variable (K : PySem.W.Frag) (Γ : Gm) (ρ : List Addr) (R : Hp)
mutual
def RepC : D → V → Prop
  | .non, v => v = .non
  | .bl b, v => v = .bl b
  | .int i, v => v = .int i
  | .str x, v => v = .str x
  | .byt b, v => v = .byt b
  | .ty n, v => v = .ty n
  | .cls c, v => v = .ref (Γ c)
  | .ref n, v => ∃ a, ρ[n]? = some a ∧ v = .ref a
  | .tup ds, v => ∃ a vs, v = .ref a ∧ SqT K R a vs ∧ vs.length ≤ sizeLine ∧ RepsC ds vs
  | .lst ds, v => ∃ a vs, v = .ref a ∧ R a = some (.lst vs) ∧ vs.length ≤ sizeLine ∧ RepsC ds vs
  | .scr is, v => ∃ a, v = .ref a ∧ SqL K R a (is.map V.int) ∧ is.length ≤ sizeLine
  | .dic ks ds, v => ∃ a vs, v = .ref a ∧ Rd R a (.dK (ks.zip vs)) ∧ ks.length = vs.length ∧ RepsC ds vs
  | .fdc ks ds, v => ∃ a o vs, v = .ref a ∧ R a = some (.frz o (.dK (ks.zip vs))) ∧ ks.length = vs.length ∧ ks.length ≤ sizeLine ∧ RepsC ds vs
  | .ndc ks ds, v => ∃ a, ∃ L : NL, v = .ref a ∧ R a = some (NdO Γ.wd a L) ∧ L.map (·.1) = nksD ks ∧ RepsC ks (L.map fun p => .ref p.2.1) ∧ RepsC ds (L.map (·.2.2)) ∧ ks.all keyD = true
  | .fnc ks ds, v => ∃ a ob, ∃ L : NL, v = .ref a ∧ R a = some (.frz ob (NdO Γ.wd a L)) ∧ L.map (·.1) = nksD ks ∧ RepsC ks (L.map fun p => .ref p.2.1) ∧ RepsC ds (L.map (·.2.2)) ∧ ks.all keyD = true
  | .obj c ns ds, v => ∃ a dx vs, v = .ref a ∧ R a = some (.ins (Γ c) dx (ns.zip vs)) ∧ ns.length = vs.length ∧ RepsC ds vs
def RepsC : List D → List V → Prop
  | [], vs => vs = []
  | d :: ds, vs => ∃ v ws, vs = v :: ws ∧ RepC d v ∧ RepsC ds ws
end
end
/-- R: what stands and never changes; ρ: where the store's things lie; S: the store; H: the heap -/
structure Wd where
  R : Hp
  ρ : List Addr
  S : Sto
  H : Hp
section
variable (K : PySem.W.Frag) (Γ : Gm)
abbrev Rep (w : Wd) (d : D) (v : V) : Prop := RepC K Γ w.ρ w.R d v
abbrev Reps (w : Wd) (ds : List D) (vs : List V) : Prop := RepsC K Γ w.ρ w.R ds vs
/-- the thing at a is, in H, d: changeable at its top -/
def At (w : Wd) (d : D) (a : Addr) : Prop := match d with
  | .lst ds => ∃ vs, w.H a = some (.lst vs) ∧ vs.length ≤ sizeLine ∧ Reps K Γ w ds vs
  | .dic ks ds => ∃ vs, w.H a = some (.dK (ks.zip vs)) ∧ ks.length = vs.length ∧ Reps K Γ w ds vs
  | .obj c ns ds => ∃ dx vs, w.H a = some (.ins (Γ c) dx (ns.zip vs)) ∧ ns.length = vs.length ∧ Reps K Γ w ds vs
  | .ndc ks ds => ∃ L : NL, w.H a = some (NdO Γ.wd a L) ∧ L.map (·.1) = nksD ks ∧ Reps K Γ w ks (L.map fun p => .ref p.2.1) ∧ Reps K Γ w ds (L.map (·.2.2)) ∧ ks.all keyD = true
  | _ => False
def Live (w : Wd) (a : Addr) : Prop := ∃ (n : Nat) (d : D), w.S[n]? = some (some d) ∧ w.ρ[n]? = some a
structure Ok (w : Wd) : Prop where
  same : Same w.R w.H
  len : w.S.length = w.ρ.length
  cell : ∀ (n : Nat) (d : D), w.S[n]? = some (some d) → ∃ a, w.ρ[n]? = some a ∧ w.R a = none ∧ At K Γ w d a
  inj : ∀ (n m : Nat) (d e : D) (a : Addr), w.S[n]? = some (some d) → w.S[m]? = some (some e) → w.ρ[n]? = some a → w.ρ[m]? = some a → n = m
end
structure Ev (w w' : Wd) : Prop where
  rr : Same w.R w'.R
  pre : w.ρ <+: w'.ρ
  keep : ∀ a o, w.H a = some o → ¬ Live w a → w'.H a = some o
  dom : ∀ a, w'.H a = none → w.H a = none
  newR : ∀ a, w'.R a ≠ none → w.R a = none → w.H a = none ∨ Live w a
  newL : ∀ a, Live w' a → Live w a ∨ w.H a = none
theorem Ev.refl (w : Wd) : Ev w w := ⟨fun _ _ e => e, List.prefix_rfl, fun _ _ e _ => e, fun _ e => e, fun _ h e => absurd e h, fun _ h => .inl h⟩
theorem Ev.trans {w w' w'' : Wd} (h : Ev w w') (g : Ev w' w'') : Ev w w'' where
  rr := h.rr.trans g.rr
  pre := h.pre.trans g.pre
  keep := fun a o e n => g.keep a o (h.keep a o e n) fun l => by
    rcases h.newL a l with l | l
    · exact n l
    · rw [e] at l; cases l
  dom := fun a e => h.dom a (g.dom a e)
  newR := fun a r e => by
    by_cases q : w'.R a = none
    · rcases g.newR a r q with z | z
      · exact .inl (h.dom a z)
      · rcases h.newL a z with z | z
        · exact .inr z
        · exact .inl z
    · exact h.newR a q e
  newL := fun a l => by
    rcases g.newL a l with z | z
    · exact h.newL a z
    · exact .inr (h.dom a z)
section
variable {K : PySem.W.Frag} {Γ : Gm} {ρ ρ' : List Addr} {R R' : Hp}
theorem sqL_mono {a : Addr} {xs : List V} (s : Same R R') (h : SqL K R a xs) : SqL K R' a xs := s.seq h
theorem sqT_mono {a : Addr} {xs : List V} (s : Same R R') (h : SqT K R a xs) : SqT K R' a xs := Same.sqT s h
mutual
theorem repC_mono (s : Same R R') (p : ρ <+: ρ') : ∀ (d : D) (v : V), RepC K Γ ρ R d v → RepC K Γ ρ' R' d v
  | .non, _, h => h
  | .bl _, _, h => h
  | .int _, _, h => h
  | .str _, _, h => h
  | .byt _, _, h => h
  | .ty _, _, h => h
  | .cls _, _, h => h
  | .ref n, v, h => by
    obtain ⟨a, h1, h2⟩ := (show ∃ a, ρ[n]? = some a ∧ v = .ref a by simpa only [RepC] using h)
    obtain ⟨t, rfl⟩ := p
    simp only [RepC]
    exact ⟨a, by rw [List.getElem?_append_left (List.getElem?_eq_some_iff.mp h1).1]; exact h1, h2⟩
  | .tup ds, v, h => by
    simp only [RepC] at h ⊢
    obtain ⟨a, vs, h1, h2, h3, h4⟩ := h
    exact ⟨a, vs, h1, sqT_mono s h2, h3, repsC_mono s p ds vs h4⟩
  | .lst ds, v, h => by
    simp only [RepC] at h ⊢
    obtain ⟨a, vs, h1, h2, h3, h4⟩ := h
    exact ⟨a, vs, h1, s _ _ h2, h3, repsC_mono s p ds vs h4⟩
  | .scr is, v, h => by
    simp only [RepC] at h ⊢
    obtain ⟨a, h1, h2, h3⟩ := h
    exact ⟨a, h1, sqL_mono s h2, h3⟩
  | .dic ks ds, v, h => by
    simp only [RepC] at h ⊢
    obtain ⟨a, vs, h1, h2, h3, h4⟩ := h
    refine ⟨a, vs, h1, ?_, h3, repsC_mono s p ds vs h4⟩
    rcases h2 with h2 | ⟨o, h2⟩
    · exact .inl (s _ _ h2)
    · exact .inr ⟨o, s _ _ h2⟩
  | .fdc ks ds, v, h => by
    simp only [RepC] at h ⊢
    obtain ⟨a, o, vs, h1, h2, h3, h5, h4⟩ := h
    exact ⟨a, o, vs, h1, s _ _ h2, h3, h5, repsC_mono s p ds vs h4⟩
  | .ndc ks ds, v, h => by
    simp only [RepC] at h ⊢
    obtain ⟨a, L, h1, h2, h3, h4, h5, h6⟩ := h
    exact ⟨a, L, h1, s _ _ h2, h3, repsC_mono s p ks _ h4, repsC_mono s p ds _ h5, h6⟩
  | .fnc ks ds, v, h => by
    simp only [RepC] at h ⊢
    obtain ⟨a, ob, L, h1, h2, h3, h4, h5, h6⟩ := h
    exact ⟨a, ob, L, h1, s _ _ h2, h3, repsC_mono s p ks _ h4, repsC_mono s p ds _ h5, h6⟩
  | .obj c ns ds, v, h => by
    simp only [RepC] at h ⊢
    obtain ⟨a, dx, vs, h1, h2, h3, h4⟩ := h
    exact ⟨a, dx, vs, h1, s _ _ h2, h3, repsC_mono s p ds vs h4⟩
theorem repsC_mono (s : Same R R') (p : ρ <+: ρ') : ∀ (ds : List D) (vs : List V), RepsC K Γ ρ R ds vs → RepsC K Γ ρ' R' ds vs
  | [], _, h => h
  | d :: ds, vs, h => by
    simp only [RepsC] at h ⊢
    obtain ⟨v, ws, h1, h2, h3⟩ := h
    exact ⟨v, ws, h1, repC_mono s p d v h2, repsC_mono s p ds ws h3⟩
end
theorem reps_len : ∀ {ds : List D} {vs : List V}, RepsC K Γ ρ R ds vs → ds.length = vs.length
  | [], vs, h => by simp only [RepsC] at h; subst h; rfl
  | d :: ds, vs, h => by
    simp only [RepsC] at h
    obtain ⟨v, ws, rfl, _, h3⟩ := h
    rw [List.length_cons, List.length_cons, reps_len h3]
theorem reps_get : ∀ {ds : List D} {vs : List V} {i : Nat} {d : D}, RepsC K Γ ρ R ds vs → ds[i]? = some d → ∃ v, vs[i]? = some v ∧ RepC K Γ ρ R d v
  | [], _, i, d, _, e => by simp at e
  | d' :: ds, vs, i, d, h, e => by
    simp only [RepsC] at h
    obtain ⟨v, ws, rfl, h2, h3⟩ := h
    cases i with
    | zero => simp at e; subst e; exact ⟨v, rfl, h2⟩
    | succ i =>
      obtain ⟨u, h4, h5⟩ := reps_get (i := i) h3 (by simpa using e)
      exact ⟨u, by simpa using h4, h5⟩
theorem reps_get' : ∀ {ds : List D} {vs : List V} {i : Nat} {v : V}, RepsC K Γ ρ R ds vs → vs[i]? = some v → ∃ d, ds[i]? = some d ∧ RepC K Γ ρ R d v := fun {ds vs i v} h e => by
  have hl := reps_len h
  have hi : i < vs.length := (List.getElem?_eq_some_iff.mp e).1
  obtain ⟨d, hd⟩ : ∃ d, ds[i]? = some d := ⟨_, List.getElem?_eq_getElem (by omega)⟩
  obtain ⟨u, h1, h2⟩ := reps_get h hd
  rw [e] at h1
  cases h1
  exact ⟨d, hd, h2⟩
theorem reps_nil : RepsC K Γ ρ R [] [] := rfl
theorem reps_cons {d : D} {v : V} {ds : List D} {vs : List V} (h : RepC K Γ ρ R d v) (t : RepsC K Γ ρ R ds vs) : RepsC K Γ ρ R (d :: ds) (v :: vs) := by
  simp only [RepsC]; exact ⟨v, vs, rfl, h, t⟩
theorem reps_inv {d : D} {ds : List D} {vs : List V} (h : RepsC K Γ ρ R (d :: ds) vs) : ∃ v ws, vs = v :: ws ∧ RepC K Γ ρ R d v ∧ RepsC K Γ ρ R ds ws := by
  simpa only [RepsC] using h
theorem reps_app : ∀ {ds es : List D} {vs us : List V}, RepsC K Γ ρ R ds vs → RepsC K Γ ρ R es us → RepsC K Γ ρ R (ds ++ es) (vs ++ us)
  | [], es, vs, us, h, g => by simp only [RepsC] at h; subst h; exact g
  | d :: ds, es, vs, us, h, g => by
    obtain ⟨v, ws, rfl, h2, h3⟩ := reps_inv h
    exact reps_cons h2 (reps_app h3 g)
theorem reps_take : ∀ {ds : List D} {vs : List V} (n : Nat), RepsC K Γ ρ R ds vs → RepsC K Γ ρ R (ds.take n) (vs.take n)
  | _, _, 0, _ => by simp; exact reps_nil
  | [], vs, n + 1, h => by simp only [RepsC] at h; subst h; exact reps_nil
  | d :: ds, vs, n + 1, h => by
    obtain ⟨v, ws, rfl, h2, h3⟩ := reps_inv h
    exact reps_cons h2 (reps_take n h3)
theorem reps_drop : ∀ {ds : List D} {vs : List V} (n : Nat), RepsC K Γ ρ R ds vs → RepsC K Γ ρ R (ds.drop n) (vs.drop n)
  | _, _, 0, h => h
  | [], vs, n + 1, h => by simp only [RepsC] at h; subst h; exact reps_nil
  | d :: ds, vs, n + 1, h => by
    obtain ⟨v, ws, rfl, h2, h3⟩ := reps_inv h
    exact reps_drop n h3
theorem reps_set : ∀ {ds : List D} {vs : List V} {d : D} {v : V} (n : Nat), RepsC K Γ ρ R ds vs → RepC K Γ ρ R d v → RepsC K Γ ρ R (ds.set n d) (vs.set n v)
  | [], vs, d, v, n, h, _ => by simp only [RepsC] at h; subst h; cases n <;> exact reps_nil
  | d' :: ds, vs, d, v, n, h, g => by
    obtain ⟨u, ws, rfl, h2, h3⟩ := reps_inv h
    cases n with
    | zero => exact reps_cons g h3
    | succ n => exact reps_cons h2 (reps_set n h3 g)
end
section
variable {K : PySem.W.Frag} {Γ : Gm} {w w' w0 : Wd}
theorem Rep.ev {d : D} {v : V} (h : Rep K Γ w d v) (e : Ev w w') : Rep K Γ w' d v := repC_mono e.rr e.pre d v h
theorem Reps.ev {d : List D} {v : List V} (h : Reps K Γ w d v) (e : Ev w w') : Reps K Γ w' d v := repsC_mono e.rr e.pre d v h
/-- a changeable thing that nobody else knows; w0: the entry's world -/
structure OwnAt (K : PySem.W.Frag) (Γ : Gm) (w0 w : Wd) (d : D) (a : Addr) : Prop where
  new : w0.H a = none
  r : w.R a = none
  nl : ¬ Live w a
  at_ : At K Γ w d a
theorem at_some {d : D} {a : Addr} (h : At K Γ w d a) : ∃ o, w.H a = some o := by
  unfold At at h
  split at h
  · obtain ⟨_, h, _⟩ := h; exact ⟨_, h⟩
  · obtain ⟨_, h, _⟩ := h; exact ⟨_, h⟩
  · obtain ⟨_, _, h, _⟩ := h; exact ⟨_, h⟩
  · obtain ⟨_, h, _⟩ := h; exact ⟨_, h⟩
  · exact False.elim h
theorem at_mv {d : D} {a : Addr} (h : At K Γ w d a) (hh : ∀ o, w.H a = some o → w'.H a = some o) (rr : Same w.R w'.R) (pp : w.ρ <+: w'.ρ) : At K Γ w' d a := by
  cases d with
  | lst ds => obtain ⟨vs, h1, h2, h3⟩ := h; exact ⟨vs, hh _ h1, h2, repsC_mono rr pp _ _ h3⟩
  | dic ks ds => obtain ⟨vs, h1, h2, h3⟩ := h; exact ⟨vs, hh _ h1, h2, repsC_mono rr pp _ _ h3⟩
  | obj c ns ds => obtain ⟨dx, vs, h1, h2, h3⟩ := h; exact ⟨dx, vs, hh _ h1, h2, repsC_mono rr pp _ _ h3⟩
  | ndc ks ds => obtain ⟨L, h1, h2, h3, h4, h5⟩ := h; exact ⟨L, hh _ h1, h2, repsC_mono rr pp _ _ h3, repsC_mono rr pp _ _ h4, h5⟩
  | _ => exact False.elim h
theorem OwnAt.ev {d : D} {a : Addr} (h : OwnAt K Γ w0 w d a) (e : Ev w w') : OwnAt K Γ w0 w' d a := by
  obtain ⟨o, ho⟩ := (at_some h.at_)
  refine ⟨h.new, ?_, fun l => ?_, at_mv h.at_ (fun o ho => e.keep _ _ ho h.nl) e.rr e.pre⟩
  · by_cases q : w'.R a = none
    · exact q
    · rcases e.newR a q h.r with z | z
      · rw [ho] at z; cases z
      · exact absurd z h.nl
  · rcases e.newL a l with z | z
    · exact h.nl z
    · rw [ho] at z; cases z
/-- the error that is handled: where, its class, its dict -/
structure XT where
  a : Addr
  cls : Value
  d : Option Addr
  s : Addr
/-- the dict of an error: its fields, or none at all where the error has no field -/
def XD (K : PySem.W.Frag) (Γ : Gm) (w : Wd) (d : Option Addr) (ns : List Str) (ds : List D) : Prop :=
  (∃ dd vs, d = some dd ∧ w.R dd = some (.xd (ns.zip vs)) ∧ ns.length = vs.length ∧ Reps K Γ w ds vs) ∨ (d = none ∧ ns = [] ∧ ds = [])
theorem XD.ev {d : Option Addr} {ns : List Str} {ds : List D} (h : XD K Γ w d ns ds) (e : Ev w w') : XD K Γ w' d ns ds := by
  rcases h with ⟨dd, vs, h3, h4, h5, h6⟩ | h
  · exact .inl ⟨dd, vs, h3, e.rr _ _ h4, h5, Reps.ev h6 e⟩
  · exact .inr h
def SlotOk (K : PySem.W.Frag) (Γ : Gm) (xa : XT) (w0 w : Wd) (x : Option V) : Slot → Prop
  | .no => True
  | .val d => ∃ v, x = some v ∧ Rep K Γ w d v
  | .own b d => ∃ a, x = some (.ref a) ∧ OwnAt K Γ w0 w d a ∧ (b = true → a = xa.s)
  | .exn c ns ds => x = some (.ref xa.a) ∧ xa.cls = .ref (Γ c) ∧ XD K Γ w xa.d ns ds
theorem SlotOk.ev {xa : XT} {x : Option V} {s : Slot} (h : SlotOk K Γ xa w0 w x s) (e : Ev w w') : SlotOk K Γ xa w0 w' x s := by
  cases s with
  | no => trivial
  | val d => obtain ⟨v, h1, h2⟩ := h; exact ⟨v, h1, Rep.ev h2 e⟩
  | own b d => obtain ⟨a, h1, h2, h3⟩ := h; exact ⟨a, h1, h2.ev e, h3⟩
  | exn c ns ds => obtain ⟨h1, h2, h3⟩ := h; exact ⟨h1, h2, h3.ev e⟩
structure EnvOk (K : PySem.W.Frag) (Γ : Gm) (xa : XT) (w0 w : Wd) (σ : L2.St) (δ : Env) : Prop where
  len : δ.length = σ.length
  ok : ∀ (i : Nat) (x : Option V) (s : Slot), σ[i]? = some x → δ[i]? = some s → SlotOk K Γ xa w0 w x s
  sep : ∀ (i j : Nat) (b c : Bool) (d e : D) (a : Addr), δ[i]? = some (.own b d) → δ[j]? = some (.own c e) → σ[i]? = some (some (.ref a)) → σ[j]? = some (some (.ref a)) → i = j
theorem EnvOk.ev {xa : XT} {σ : L2.St} {δ : Env} (h : EnvOk K Γ xa w0 w σ δ) (e : Ev w w') : EnvOk K Γ xa w0 w' σ δ :=
  ⟨h.len, fun i x s h1 h2 => (h.ok i x s h1 h2).ev e, h.sep⟩
theorem EnvOk.get {xa : XT} {σ : L2.St} {δ : Env} {i : Nat} {s : Slot} (h : EnvOk K Γ xa w0 w σ δ) (hd : δ[i]? = some s) : ∃ x, σ[i]? = some x ∧ SlotOk K Γ xa w0 w x s := by
  have hi := (List.getElem?_eq_some_iff.mp hd).1
  have := h.len
  have e : σ[i]? = some σ[i] := List.getElem?_eq_getElem (by omega)
  exact ⟨_, e, h.ok i _ s e hd⟩
theorem EnvOk.val {xa : XT} {σ : L2.St} {δ : Env} {i : Nat} {d : D} (h : EnvOk K Γ xa w0 w σ δ) (hd : δ[i]? = some (.val d)) : ∃ v, σ[i]? = some (some v) ∧ Rep K Γ w d v := by
  obtain ⟨x, e, v, rfl, r⟩ := h.get hd
  exact ⟨v, e, r⟩
theorem EnvOk.own {xa : XT} {σ : L2.St} {δ : Env} {i : Nat} {b : Bool} {d : D} (h : EnvOk K Γ xa w0 w σ δ) (hd : δ[i]? = some (.own b d)) : ∃ a, σ[i]? = some (some (.ref a)) ∧ OwnAt K Γ w0 w d a := by
  obtain ⟨x, e, v, rfl, r, _⟩ := h.get hd
  exact ⟨v, e, r⟩
/-- a place is set to a value -/
theorem EnvOk.set {xa : XT} {σ : L2.St} {δ : Env} {i : Nat} {d : D} {v : V} (h : EnvOk K Γ xa w0 w σ δ) (r : Rep K Γ w d v) : EnvOk K Γ xa w0 w (σ.set i (some v)) (δ.set i (.val d)) := by
  refine ⟨by rw [List.length_set, List.length_set, h.len], fun j x s h1 h2 => ?_, fun j k b c d' e a h1 h2 h3 h4 => ?_⟩
  · rw [List.getElem?_set] at h1 h2
    by_cases q : i = j
    · rw [if_pos q] at h1 h2
      split at h1 <;> cases h1
      split at h2 <;> cases h2
      exact ⟨v, rfl, r⟩
    · rw [if_neg q] at h1 h2
      exact h.ok j x s h1 h2
  · rw [List.getElem?_set] at h1 h2 h3 h4
    by_cases q : i = j
    · rw [if_pos q] at h1; split at h1 <;> cases h1
    · by_cases q2 : i = k
      · rw [if_pos q2] at h2; split at h2 <;> cases h2
      · rw [if_neg q] at h1 h3
        rw [if_neg q2] at h2 h4
        exact h.sep j k b c d' e a h1 h2 h3 h4
/-- .. to a new thing of one's own -/
theorem EnvOk.setOwn {xa : XT} {σ : L2.St} {δ : Env} {i : Nat} {d : D} {a : Addr} (h : EnvOk K Γ xa w0 w σ δ) (r : OwnAt K Γ w0 w d a) (new : ∀ (j : Nat) (f : Bool) (e : D) (b : Addr), δ[j]? = some (Slot.own f e) → σ[j]? = some (some (V.ref b)) → b ≠ a) : EnvOk K Γ xa w0 w (σ.set i (some (.ref a))) (δ.set i (.own false d)) := by
  refine ⟨by rw [List.length_set, List.length_set, h.len], fun j x s h1 h2 => ?_, fun j k c c' d' e b h1 h2 h3 h4 => ?_⟩
  · rw [List.getElem?_set] at h1 h2
    by_cases q : i = j
    · rw [if_pos q] at h1 h2
      split at h1 <;> cases h1
      split at h2 <;> cases h2
      exact ⟨a, rfl, r, fun z => by cases z⟩
    · rw [if_neg q] at h1 h2
      exact h.ok j x s h1 h2
  · rw [List.getElem?_set] at h1 h2 h3 h4
    by_cases q : i = j
    · by_cases q2 : i = k
      · exact q.symm.trans q2
      · rw [if_pos q] at h3
        split at h3 <;> cases h3
        rw [if_neg q2] at h2 h4
        exact absurd rfl (new k _ e a h2 h4)
    · by_cases q2 : i = k
      · rw [if_pos q2] at h4
        split at h4 <;> cases h4
        rw [if_neg q] at h1 h3
        exact absurd rfl (new j _ d' a h1 h3)
      · rw [if_neg q] at h1 h3
        rw [if_neg q2] at h2 h4
        exact h.sep j k c c' d' e b h1 h2 h3 h4
end
end MR

namespace MR
open PySem PySem.Spec PyProof.Rows L2 TP
section
variable {K : PySem.W.Frag} {Γ : Gm} {w w' w0 : Wd}
theorem live_ne {a p : Addr} (h : Ok K Γ w) (l : Live w a) (hp : w.H p = none) : a ≠ p := by
  obtain ⟨n, d, h1, h2⟩ := l
  obtain ⟨b, h3, _, h4⟩ := h.cell n d h1
  rw [h2] at h3
  cases h3
  obtain ⟨o, ho⟩ := at_some h4
  exact ne_of_none ho hp
theorem r_none {p : Addr} (h : Ok K Γ w) (hp : w.H p = none) : w.R p = none := h.same.free hp
theorem not_live {p : Addr} (h : Ok K Γ w) (hp : w.H p = none) : ¬ Live w p := fun l => live_ne h l hp rfl
theorem live_r {a : Addr} (h : Ok K Γ w) (l : Live w a) : w.R a = none := by
  obtain ⟨n, d, h1, h2⟩ := l
  obtain ⟨b, h3, h4, _⟩ := h.cell n d h1
  rw [h2] at h3
  cases h3
  exact h4
/-- H and R are changed away from the live things -/
theorem ok_mv {R' H' : Hp} (h : Ok K Γ w) (s : Same R' H') (rr : Same w.R R') (hl : ∀ a, Live w a → R' a = none ∧ H' a = w.H a) : Ok K Γ { w with R := R', H := H' } := by
  refine ⟨s, h.len, fun n d e => ?_, h.inj⟩
  obtain ⟨a, h1, h2, h3⟩ := h.cell n d e
  obtain ⟨q1, q2⟩ := hl a ⟨n, d, e, h1⟩
  exact ⟨a, h1, q1, at_mv (w' := { w with R := R', H := H' }) h3 (fun o ho => by show H' a = _; rw [q2]; exact ho) rr List.prefix_rfl⟩
/-- a new thing that never changes -/
def wFrz (w : Wd) (p : Addr) (o : HO) : Wd := { w with R := upd w.R p o, H := upd w.H p o }
theorem ok_frz {p : Addr} {o : HO} (h : Ok K Γ w) (hp : w.H p = none) : Ok K Γ (wFrz w p o) := by
  refine ok_mv h (fun b u e => ?_) (Same.new (r_none h hp)) fun a l => ?_
  · by_cases q : b = p
    · subst q; rw [upd_same] at e ⊢; exact e
    · rw [upd_ne q] at e ⊢; exact h.same _ _ e
  · have ne := live_ne h l hp
    exact ⟨by rw [upd_ne ne]; exact live_r h l, by rw [upd_ne ne]⟩
theorem ev_frz {p : Addr} {o : HO} (h : Ok K Γ w) (hp : w.H p = none) : Ev w (wFrz w p o) where
  rr := Same.new (r_none h hp)
  pre := List.prefix_rfl
  keep := fun a u e _ => by show upd w.H p o a = _; rw [upd_ne (ne_of_none e hp)]; exact e
  dom := fun a e => by
    by_cases q : a = p
    · subst q; exact hp
    · have e' : upd w.H p o a = none := e
      rw [upd_ne q] at e'; exact e'
  newR := fun a r e => by
    by_cases q : a = p
    · subst q; exact .inl hp
    · exact absurd (show upd w.R p o a = none by rw [upd_ne q]; exact e) r
  newL := fun a l => .inl l
/-- a new thing of one's own; one's own is changed -/
def wPut (w : Wd) (p : Addr) (o : HO) : Wd := { w with H := upd w.H p o }
theorem ok_put {p : Addr} {o : HO} (h : Ok K Γ w) (r : w.R p = none) (nl : ¬ Live w p) : Ok K Γ (wPut w p o) := by
  refine ok_mv h (fun b u e => ?_) (fun _ _ e => e) fun a l => ?_
  · rw [upd_ne (fun z => by rw [z, r] at e; cases e)]; exact h.same _ _ e
  · exact ⟨live_r h l, upd_ne fun z => nl (z ▸ l)⟩
theorem ev_put {p : Addr} {o : HO} (e0 : Ev w0 w) (hp : w0.H p = none) : Ev w0 (wPut w p o) where
  rr := e0.rr
  pre := e0.pre
  keep := fun a u e n => by show upd w.H p o a = _; rw [upd_ne (ne_of_none e hp)]; exact e0.keep a u e n
  dom := fun a e => by
    by_cases q : a = p
    · subst q; exact hp
    · have e' : upd w.H p o a = none := e
      rw [upd_ne q] at e'; exact e0.dom a e'
  newR := e0.newR
  newL := e0.newL
/-- one's own is never changed any more -/
def wFix (w : Wd) (p : Addr) (o : HO) : Wd := { w with R := upd w.R p o }
theorem ok_fix {p : Addr} {o : HO} (h : Ok K Γ w) (r : w.R p = none) (nl : ¬ Live w p) (ho : w.H p = some o) : Ok K Γ (wFix w p o) := by
  refine ok_mv h (fun b u e => ?_) (Same.new r) fun a l => ?_
  · by_cases q : b = p
    · subst q; rw [upd_same] at e; cases e; exact ho
    · rw [upd_ne q] at e; exact h.same _ _ e
  · have ne : a ≠ p := fun z => nl (z ▸ l)
    exact ⟨by rw [upd_ne ne]; exact live_r h l, rfl⟩
theorem ev_fix {p : Addr} {o : HO} (e0 : Ev w0 w) (r : w.R p = none) (hp : w0.H p = none) : Ev w0 (wFix w p o) where
  rr := e0.rr.trans (Same.new r)
  pre := e0.pre
  keep := e0.keep
  dom := e0.dom
  newR := fun a r e => by
    by_cases q : a = p
    · subst q; exact .inl hp
    · refine e0.newR a (fun z => r ?_) e
      show upd w.R p o a = none
      rw [upd_ne q]; exact z
  newL := e0.newL
/-- a thing of the store is changed -/
def wCel (w : Wd) (n : Nat) (a : Addr) (o : HO) (d : Option D) : Wd := { w with H := upd w.H a o, S := w.S.set n d }
theorem ok_cel {n : Nat} {a : Addr} {o : HO} {d d0 : D} (h : Ok K Γ w) (hn : w.S[n]? = some (some d0)) (ha : w.ρ[n]? = some a) (at_ : At K Γ (wCel w n a o (some d)) d a) : Ok K Γ (wCel w n a o (some d)) := by
  have ra := live_r h ⟨n, d0, hn, ha⟩
  have get : ∀ (m : Nat) (e : D), (w.S.set n (some d))[m]? = some (some e) → (m = n ∧ e = d) ∨ (m ≠ n ∧ w.S[m]? = some (some e)) := fun m e q => by
    rw [List.getElem?_set] at q
    by_cases z : n = m
    · rw [if_pos z] at q; split at q <;> cases q; exact .inl ⟨z.symm, rfl⟩
    · rw [if_neg z] at q; exact .inr ⟨fun y => z y.symm, q⟩
  have ex : ∀ m e, (w.S.set n (some d))[m]? = some (some e) → ∃ e', w.S[m]? = some (some e') := fun m e q => by
    rcases get m e q with ⟨rfl, _⟩ | ⟨_, q⟩
    · exact ⟨_, hn⟩
    · exact ⟨_, q⟩
  refine ⟨fun b u e => ?_, by show (w.S.set n _).length = _; rw [List.length_set]; exact h.len, fun m e q => ?_, fun m k e f b q1 q2 q3 q4 => ?_⟩
  · show upd w.H a o b = _
    have ne : b ≠ a := fun z => by
      have e' : w.R b = some u := e
      rw [z, ra] at e'; cases e'
    rw [upd_ne ne]; exact h.same _ _ e
  · rcases get m e q with ⟨rfl, rfl⟩ | ⟨ne, q⟩
    · exact ⟨a, ha, ra, at_⟩
    · obtain ⟨b, h1, h2, h3⟩ := h.cell m e q
      have nb : b ≠ a := fun z => ne (h.inj m n e d0 a q hn (z ▸ h1) ha)
      exact ⟨b, h1, h2, at_mv (w' := wCel w n a o (some d)) h3 (fun u hu => by show upd w.H a o b = _; rw [upd_ne nb]; exact hu) (fun _ _ e => e) List.prefix_rfl⟩
  · obtain ⟨e', h1⟩ := ex m e q1
    obtain ⟨f', h2⟩ := ex k f q2
    exact h.inj m k e' f' b h1 h2 q3 q4
theorem live_cel {n : Nat} {a b : Addr} {o : HO} {d : Option D} {d0 : D} (hn : w.S[n]? = some (some d0)) (ha : w.ρ[n]? = some a) (l : Live (wCel w n a o d) b) : Live w b := by
  obtain ⟨m, e, h1, h2⟩ := l
  have h1' : (w.S.set n d)[m]? = some (some e) := h1
  rw [List.getElem?_set] at h1'
  by_cases z : n = m
  · subst z; exact ⟨n, d0, hn, h2⟩
  · rw [if_neg z] at h1'; exact ⟨m, e, h1', h2⟩
theorem ev_cel {n : Nat} {a : Addr} {o : HO} {d : Option D} {d0 : D} (h : Ok K Γ w) (hn : w.S[n]? = some (some d0)) (ha : w.ρ[n]? = some a) : Ev w (wCel w n a o d) where
  rr := fun _ _ e => e
  pre := List.prefix_rfl
  keep := fun b u e nl => by
    show upd w.H a o b = _
    have ne : b ≠ a := fun z => nl (z.symm ▸ ⟨n, d0, hn, ha⟩)
    rw [upd_ne ne]; exact e
  dom := fun b e => by
    by_cases q : b = a
    · have e' : upd w.H a o b = none := e
      rw [q, upd_same] at e'; cases e'
    · have e' : upd w.H a o b = none := e
      rw [upd_ne q] at e'; exact e'
  newR := fun b r e => absurd e r
  newL := fun b l => .inl (live_cel hn ha l)
/-- one's own goes into the store -/
def wAdd (w : Wd) (a : Addr) (d : D) : Wd := { w with ρ := w.ρ ++ [a], S := w.S ++ [some d] }
theorem ok_add {a : Addr} {d : D} (h : Ok K Γ w) (r : w.R a = none) (nl : ¬ Live w a) (at_ : At K Γ w d a) : Ok K Γ (wAdd w a d) := by
  have get : ∀ (m : Nat) (e : D) (b : Addr), (w.S ++ [some d])[m]? = some (some e) → (w.ρ ++ [a])[m]? = some b → (m = w.S.length ∧ e = d ∧ b = a) ∨ (m < w.S.length ∧ w.S[m]? = some (some e) ∧ w.ρ[m]? = some b) := fun m e b q1 q2 => by
    rcases Nat.lt_trichotomy m w.S.length with z | z | z
    · refine .inr ⟨z, ?_, ?_⟩
      · rwa [List.getElem?_append_left z] at q1
      · rwa [List.getElem?_append_left (by rw [← h.len]; exact z)] at q2
    · refine .inl ⟨z, ?_, ?_⟩
      · subst z; simp at q1; exact q1.symm
      · subst z; rw [h.len] at q2; simp at q2; exact q2.symm
    · rw [List.getElem?_eq_none_iff.mpr (by simp; omega)] at q1; cases q1
  have pp : w.ρ <+: w.ρ ++ [a] := List.prefix_append _ _
  refine ⟨h.same, by simp [wAdd, h.len], fun m e q => ?_, fun m k e f b q1 q2 q3 q4 => ?_⟩
  · have hm : m < w.ρ.length + 1 := by
      have := (List.getElem?_eq_some_iff.mp q).1
      simp [wAdd, h.len] at this; exact this
    obtain ⟨b, hb⟩ : ∃ b, (w.ρ ++ [a])[m]? = some b := ⟨_, List.getElem?_eq_getElem (by simpa using hm)⟩
    rcases get m e b q hb with ⟨_, rfl, rfl⟩ | ⟨_, q1, q2⟩
    · exact ⟨b, hb, r, at_mv (w' := wAdd w b e) at_ (fun _ z => z) (fun _ _ z => z) pp⟩
    · obtain ⟨b', h1, h2, h3⟩ := h.cell m e q1
      rw [q2] at h1
      cases h1
      exact ⟨b, hb, h2, at_mv (w' := wAdd w a d) h3 (fun _ z => z) (fun _ _ z => z) pp⟩
  · rcases get m e b q1 q3 with ⟨z1, _, z2⟩ | ⟨z1, z2, z3⟩ <;> rcases get k f b q2 q4 with ⟨y1, _, y2⟩ | ⟨y1, y2, y3⟩
    · rw [z1, y1]
    · exact absurd ⟨k, f, y2, z2 ▸ y3⟩ nl
    · exact absurd ⟨m, e, z2, y2 ▸ z3⟩ nl
    · exact h.inj m k e f b z2 y2 z3 y3
theorem ev_add {a : Addr} {d : D} (h : Ok K Γ w) (e0 : Ev w0 w) (new : w0.H a = none) : Ev w0 (wAdd w a d) where
  rr := e0.rr
  pre := e0.pre.trans (List.prefix_append _ _)
  keep := e0.keep
  dom := e0.dom
  newR := e0.newR
  newL := fun b l => by
    obtain ⟨m, e, h1, h2⟩ := l
    have h1' : (w.S ++ [some d])[m]? = some (some e) := h1
    have h2' : (w.ρ ++ [a])[m]? = some b := h2
    rcases Nat.lt_or_ge m w.S.length with z | z
    · rw [List.getElem?_append_left z] at h1'
      rw [List.getElem?_append_left (by rw [← h.len]; exact z)] at h2'
      exact e0.newL b ⟨m, e, h1', h2'⟩
    · have : m = w.S.length := by
        have := (List.getElem?_eq_some_iff.mp h1').1
        simp at this; omega
      rw [this, h.len] at h2'
      simp at h2'
      subst h2'
      exact .inr new
end
/-- nothing that stands is lost -/
structure Gr (w w' : Wd) : Prop where
  rr : Same w.R w'.R
  pre : w.ρ <+: w'.ρ
theorem Gr.refl (w : Wd) : Gr w w := ⟨fun _ _ e => e, List.prefix_rfl⟩
theorem Gr.trans {w w' w'' : Wd} (h : Gr w w') (g : Gr w' w'') : Gr w w'' := ⟨h.rr.trans g.rr, h.pre.trans g.pre⟩
theorem Ev.gr {w w' : Wd} (h : Ev w w') : Gr w w' := ⟨h.rr, h.pre⟩
theorem Rep.gr {K : PySem.W.Frag} {Γ : Gm} {w w' : Wd} {d : D} {v : V} (h : Rep K Γ w d v) (e : Gr w w') : Rep K Γ w' d v := repC_mono e.rr e.pre d v h
theorem Reps.gr {K : PySem.W.Frag} {Γ : Gm} {w w' : Wd} {d : List D} {v : List V} (h : Reps K Γ w d v) (e : Gr w w') : Reps K Γ w' d v := repsC_mono e.rr e.pre d v h
inductive Out (α : Type) where
  | ok (a : α) (S : Sto) | ex (c : Nat) (ns : List Str) (ds : List D) (S : Sto) | bad
def bnd {α β : Type} (o : Out α) (f : α → Sto → Out β) : Out β := match o with
  | .ok a S => f a S
  | .ex c ns ds S => .ex c ns ds S
  | .bad => .bad
/-- an error must not come -/
def noX {α : Type} (o : Out α) : Out α := match o with
  | .ok a S => .ok a S
  | _ => .bad
abbrev XP := Wd → Nat → List Str → List D → Prop
section
variable (K : PySem.W.Frag) (Γ : Gm)
def Post {α : Type} (o : Out α) (w : Wd) (ok : α → Wd → Prop) (ex : XP) : Prop := match o with
  | .ok a S => ∀ w', w'.S = S → Ok K Γ w' → Ev w w' → ok a w'
  | .ex c ns ds S => ∀ w', w'.S = S → Ok K Γ w' → Ev w w' → ex w' c ns ds
  | .bad => False
def XW (W : WX) (σ : L2.St) : XP := fun w c ns ds => ∀ d, XD K Γ w d ns ds → W (.ref (Γ c)) d σ w.H
/-- v may be read as d now: it never changes, or it is one's own -/
def Pk (w : Wd) (d : D) (v : V) : Prop := Rep K Γ w d v ∨ ∃ w0 a, v = .ref a ∧ OwnAt K Γ w0 w d a
end
section
variable {K : PySem.W.Frag} {Γ : Gm} {w w' w0 : Wd}
theorem Post.ev {α : Type} {o : Out α} {ok : α → Wd → Prop} {ex : XP} (h : Post K Γ o w ok ex) (e : Ev w w') : Post K Γ o w' ok ex := by
  cases o with
  | ok a S => exact fun w1 hs ho he => h w1 hs ho (e.trans he)
  | ex c ns ds S => exact fun w1 hs ho he => h w1 hs ho (e.trans he)
  | bad => exact h
theorem Post.mono {α : Type} {o : Out α} {ok ok' : α → Wd → Prop} {ex ex' : XP} (h : Post K Γ o w ok ex) (f : ∀ a w', Ok K Γ w' → Ev w w' → ok a w' → ok' a w') (g : ∀ w' c ns ds, Ok K Γ w' → Ev w w' → ex w' c ns ds → ex' w' c ns ds) : Post K Γ o w ok' ex' := by
  cases o with
  | ok a S => exact fun w1 hs ho he => f a w1 ho he (h w1 hs ho he)
  | ex c ns ds S => exact fun w1 hs ho he => g w1 c ns ds ho he (h w1 hs ho he)
  | bad => exact h
theorem Post.then {α β : Type} {o : Out α} {f : α → Sto → Out β} {ok : β → Wd → Prop} {ok' : α → Wd → Prop} {ex : XP} (h : Post K Γ (bnd o f) w ok ex) (g : ∀ a w', Ok K Γ w' → Ev w w' → Post K Γ (f a w'.S) w' ok ex → ok' a w') : Post K Γ o w ok' ex := by
  cases o with
  | ok a S => exact fun w1 hs ho he => g a w1 ho he (by subst hs; exact Post.ev h he)
  | ex c ns ds S => exact h
  | bad => exact h
theorem Post.now {α : Type} {a : α} {ok : α → Wd → Prop} {ex : XP} (h : Post K Γ (.ok a w.S) w ok ex) (o : Ok K Γ w) : ok a w := h w rfl o (Ev.refl w)
theorem Post.at {α : Type} {a : α} {S : Sto} {ok : α → Wd → Prop} {ex : XP} (h : Post K Γ (.ok a S) w ok ex) (hs : w'.S = S) (o : Ok K Γ w') (e : Ev w w') : ok a w' := h w' hs o e
theorem Post.noX {α : Type} {o : Out α} {ok : α → Wd → Prop} {ex ex' : XP} (h : Post K Γ (MR.noX o) w ok ex) : Post K Γ o w ok ex' := by
  cases o with
  | ok a S => exact h
  | ex c ns ds S => exact False.elim h
  | bad => exact False.elim h
theorem Pk.ev {d : D} {v : V} (h : Pk K Γ w d v) (e : Ev w w') : Pk K Γ w' d v := by
  rcases h with h | ⟨w0, a, h1, h2⟩
  · exact .inl (Rep.ev h e)
  · exact .inr ⟨w0, a, h1, h2.ev e⟩
end
abbrev ME := Env → Sto → Out D
abbrev MA := Env → Sto → Out (List D)
abbrev MT := Env → Sto → Out Bool
inductive Fl where
  | nx (δ : Env) | rt (d : D) | bk (δ : Env) | ct (δ : Env) | ex (c : Nat) (ns : List Str) (ds : List D) (δ : Env)
abbrev MS := Env → Sto → Out Fl
abbrev MG := D → Env → Option Env
abbrev MGs := List D → Env → Option Env
section
variable (K : PySem.W.Frag) (Γ : Gm) (xa : XT)
structure SimE (W : WX) (te : TE) (me : ME) : Prop where
  run : ∀ (w0 w : Wd) (σ : L2.St) (δ : Env) (Q : VK), Ok K Γ w → Ev w0 w → EnvOk K Γ xa w0 w σ δ → Post K Γ (me δ w.S) w (fun d w' => ∀ v, Rep K Γ w' d v → Q v w'.H) (XW K Γ W σ) → te σ w.H Q
/-- only read -/
structure SimP (W : WX) (te : TE) (me : ME) : Prop where
  run : ∀ (w0 w : Wd) (σ : L2.St) (δ : Env) (Q : VK), Ok K Γ w → Ev w0 w → EnvOk K Γ xa w0 w σ δ → Post K Γ (me δ w.S) w (fun d w' => ∀ v, Pk K Γ w' d v → Q v w'.H) (XW K Γ W σ) → te σ w.H Q
/-- a new thing of one's own -/
structure SimF (W : WX) (te : TE) (me : ME) : Prop where
  run : ∀ (w0 w : Wd) (σ : L2.St) (δ : Env) (Q : VK), Ok K Γ w → Ev w0 w → EnvOk K Γ xa w0 w σ δ → Post K Γ (me δ w.S) w (fun d w' => ∀ a, OwnAt K Γ w w' d a → Q (.ref a) w'.H) (XW K Γ W σ) → te σ w.H Q
structure SimT (W : WX) (tt : TT) (mt : MT) : Prop where
  run : ∀ (w0 w : Wd) (σ : L2.St) (δ : Env) (Q : Bool → Hp → Prop), Ok K Γ w → Ev w0 w → EnvOk K Γ xa w0 w σ δ → Post K Γ (mt δ w.S) w (fun b w' => Q b w'.H) (XW K Γ W σ) → tt σ w.H Q
structure SimA (W : WX) (n : Nat) (ta : TA) (ma : MA) : Prop where
  len : ∀ (δ : Env) (S : Sto) (ds : List D) (S' : Sto), ma δ S = .ok ds S' → ds.length = n
  run : ∀ (w0 w : Wd) (σ : L2.St) (δ : Env) (Q : List V → Hp → Prop), Ok K Γ w → Ev w0 w → EnvOk K Γ xa w0 w σ δ → Post K Γ (ma δ w.S) w (fun ds w' => ∀ vs, Reps K Γ w' ds vs → Q vs w'.H) (XW K Γ W σ) → ta σ w.H Q
inductive Pks (w : Wd) : List D → List V → Prop
  | nil : Pks w [] []
  | cons {d : D} {v : V} {ds : List D} {vs : List V} (h : Pk K Γ w d v) (t : Pks w ds vs) : Pks w (d :: ds) (v :: vs)
structure SimPA (W : WX) (ta : TA) (ma : MA) : Prop where
  run : ∀ (w0 w : Wd) (σ : L2.St) (δ : Env) (Q : List V → Hp → Prop), Ok K Γ w → Ev w0 w → EnvOk K Γ xa w0 w σ δ → Post K Γ (ma δ w.S) w (fun ds w' => ∀ vs, Pks K Γ w' ds vs → Q vs w'.H) (XW K Γ W σ) → ta σ w.H Q
def PostS (W : WX) (o : Out Fl) (w0 w : Wd) (Dn : Ends) : Prop := match o with
  | .ok (.nx δ) S => ∀ w' σ, w'.S = S → Ok K Γ w' → Ev w0 w' → Gr w w' → EnvOk K Γ xa w0 w' σ δ → Dn.nx σ w'.H
  | .ok (.rt d) S => ∀ w' v, w'.S = S → Ok K Γ w' → Ev w0 w' → Gr w w' → Rep K Γ w' d v → Dn.rt v w'.H
  | .ok (.bk δ) S => ∀ w' σ, w'.S = S → Ok K Γ w' → Ev w0 w' → Gr w w' → EnvOk K Γ xa w0 w' σ δ → Dn.bk σ w'.H
  | .ok (.ct δ) S => ∀ w' σ, w'.S = S → Ok K Γ w' → Ev w0 w' → Gr w w' → EnvOk K Γ xa w0 w' σ δ → Dn.ct σ w'.H
  | .ok (.ex c ns ds δ) S => ∀ w' σ, w'.S = S → Ok K Γ w' → Ev w0 w' → Gr w w' → EnvOk K Γ xa w0 w' σ δ → XW K Γ W σ w' c ns ds
  | .ex _ _ _ _ => False
  | .bad => False
structure SimS (W : WX) (ts : TS) (ms : MS) : Prop where
  run : ∀ (w0 w : Wd) (σ : L2.St) (δ : Env) (Dn : Ends), Ok K Γ w → Ev w0 w → EnvOk K Γ xa w0 w σ δ → PostS K Γ xa W (ms δ w.S) w0 w Dn → ts Dn σ w.H
/-- a target of names takes a value; it sets the slots vs alone -/
structure SimN (vs : List Nat) (tg : TG) (mg : D → Env → Option Env) : Prop where
  run : ∀ (w0 w : Wd) (σ : L2.St) (δ : Env) (d : D) (v : V) (Q : L2.St → Hp → Prop), Ok K Γ w → EnvOk K Γ xa w0 w σ δ → Rep K Γ w d v →
    (match mg d δ with | some δ' => ∀ σ', EnvOk K Γ xa w0 w σ' δ' → σ'.length = σ.length → (∀ i, i ∉ vs → σ'[i]? = σ[i]?) → Q σ' w.H | none => False) → tg v σ w.H Q
structure SimNs (vs : List Nat) (tg : TGs) (mg : List D → Env → Option Env) : Prop where
  run : ∀ (w0 w : Wd) (σ : L2.St) (δ : Env) (d : List D) (v : List V) (Q : L2.St → Hp → Prop), Ok K Γ w → EnvOk K Γ xa w0 w σ δ → Reps K Γ w d v →
    (match mg d δ with | some δ' => ∀ σ', EnvOk K Γ xa w0 w σ' δ' → σ'.length = σ.length → (∀ i, i ∉ vs → σ'[i]? = σ[i]?) → Q σ' w.H | none => False) → tg v σ w.H Q
end
end MR

namespace MR
open PySem PySem.Spec PyProof.Rows L2 TP
section
variable {K : PySem.W.Frag} {Γ : Gm} {xa : XT} {W : WX} {te ta tb : TE} {me ma mb : ME} {w w' w0 : Wd}
theorem SimE.p (h : SimE K Γ xa W te me) : SimP K Γ xa W te me := ⟨fun w0 w σ δ Q o e n p => h.run w0 w σ δ Q o e n (p.mono (fun d w' _ _ q v r => q v (.inl r)) fun _ _ _ _ _ _ x => x)⟩
theorem own_rep {d : D} {a : Addr} (o : Ok K Γ w') (e : Ev w w') (h : OwnAt K Γ w w' d a) : ∃ w2, w2.S = w'.S ∧ w2.H = w'.H ∧ Ok K Γ w2 ∧ Ev w w2 ∧ Gr w' w2 ∧ Rep K Γ w2 d (.ref a) ∧ w2.ρ = w'.ρ ∧ ∀ b, b ≠ a → w2.R b = w'.R b := by
  have at_ := h.at_
  have fin : ∀ {u : HO}, w'.H a = some u → Ok K Γ (wFix w' a u) ∧ Ev w (wFix w' a u) ∧ Gr w' (wFix w' a u) := fun {u} hu =>
    ⟨ok_fix o h.r h.nl hu, ev_fix e h.r h.new, ⟨Same.new h.r, List.prefix_rfl⟩⟩
  cases d with
  | lst ds =>
    obtain ⟨vs, h1, h2, h3⟩ := at_
    obtain ⟨o2, e2, g2⟩ := fin h1
    refine ⟨wFix w' a (.lst vs), rfl, rfl, o2, e2, g2, ?_, rfl, fun b nb => upd_ne nb⟩
    simp only [Rep, RepC]
    exact ⟨a, vs, rfl, upd_same, h2, Reps.gr h3 g2⟩
  | dic ks ds =>
    obtain ⟨vs, h1, h2, h3⟩ := at_
    obtain ⟨o2, e2, g2⟩ := fin h1
    refine ⟨wFix w' a (.dK (ks.zip vs)), rfl, rfl, o2, e2, g2, ?_, rfl, fun b nb => upd_ne nb⟩
    simp only [Rep, RepC]
    exact ⟨a, vs, rfl, .inl upd_same, h2, Reps.gr h3 g2⟩
  | obj c ns ds =>
    obtain ⟨dx, vs, h1, h2, h3⟩ := at_
    obtain ⟨o2, e2, g2⟩ := fin h1
    refine ⟨wFix w' a (.ins (Γ c) dx (ns.zip vs)), rfl, rfl, o2, e2, g2, ?_, rfl, fun b nb => upd_ne nb⟩
    simp only [Rep, RepC]
    exact ⟨a, dx, vs, rfl, upd_same, h2, Reps.gr h3 g2⟩
  | ndc ks ds =>
    obtain ⟨L, h1, h2, h3, h4, h5⟩ := at_
    obtain ⟨o2, e2, g2⟩ := fin h1
    refine ⟨wFix w' a (NdO Γ.wd a L), rfl, rfl, o2, e2, g2, ?_, rfl, fun b nb => upd_ne nb⟩
    simp only [Rep, RepC]
    exact ⟨a, L, rfl, upd_same, h2, Reps.gr h3 g2, Reps.gr h4 g2, h5⟩
  | _ => exact False.elim at_
theorem SimF.e (h : SimF K Γ xa W te me) : SimE K Γ xa W te me := ⟨fun w0 w σ δ Q o e n p => h.run w0 w σ δ Q o e n (by
  cases z : me δ w.S with
  | bad => rw [z] at p; exact p
  | ex c ns ds S => rw [z] at p; exact p
  | ok d S =>
    rw [z] at p
    intro w1 hs o1 e1 a oa
    obtain ⟨w2, s2, hh, o2, e2, _, r2, _⟩ := own_rep o1 e1 oa
    have := p w2 (s2.trans hs) o2 e2 _ r2
    rw [hh] at this
    exact this)⟩
theorem SimF.p (h : SimF K Γ xa W te me) : SimP K Γ xa W te me := h.e.p
def mC (d : D) : ME := fun _ S => .ok d S
theorem sim_c {d : D} {v : V} (h : ∀ w, Rep K Γ w d v) : SimE K Γ xa W (tC v) (mC d) := ⟨fun w0 w σ δ Q o e n p => Post.now p o _ (h w)⟩
theorem sim_non : SimE K Γ xa W (tC .non) (mC .non) := sim_c fun _ => rfl
theorem sim_bl {b : Bool} : SimE K Γ xa W (tC (.bl b)) (mC (.bl b)) := sim_c fun _ => rfl
theorem sim_int {i : Int} : SimE K Γ xa W (tC (.int i)) (mC (.int i)) := sim_c fun _ => rfl
theorem sim_str {x : Str} : SimE K Γ xa W (tC (.str x)) (mC (.str x)) := sim_c fun _ => rfl
theorem sim_ty {n : String} : SimE K Γ xa W (tC (.ty n)) (mC (.ty n)) := sim_c fun _ => rfl
theorem sim_cls {c : Nat} {a : Addr} (h : Γ c = a) : SimE K Γ xa W (tC (.ref a)) (mC (.cls c)) := sim_c fun _ => by simp only [Rep, RepC]; rw [h]
def mVar (i : Nat) : ME := fun δ S => match δ[i]? with
  | some (.val d) => .ok d S
  | _ => .bad
theorem sim_var {i : Nat} : SimE K Γ xa W (tVar i) (mVar i) := ⟨fun w0 w σ δ Q o e n p => by
  unfold mVar at p
  split at p
  · rename_i d hd
    obtain ⟨v, h1, h2⟩ := n.val hd
    exact ⟨v, h1, Post.now p o v h2⟩
  · exact False.elim p⟩
def mPeek (i : Nat) : ME := fun δ S => match δ[i]? with
  | some (.val d) => .ok d S
  | some (.own _ d) => .ok d S
  | _ => .bad
theorem sim_peek {i : Nat} : SimP K Γ xa W (tVar i) (mPeek i) := ⟨fun w0 w σ δ Q o e n p => by
  unfold mPeek at p
  split at p
  · rename_i d hd
    obtain ⟨v, h1, h2⟩ := n.val hd
    exact ⟨v, h1, Post.now p o v (.inl h2)⟩
  · rename_i b d hd
    obtain ⟨a, h1, h2⟩ := n.own hd
    exact ⟨_, h1, Post.now p o _ (.inr ⟨w0, a, rfl, h2⟩)⟩
  · exact False.elim p⟩
structure OpM (K : PySem.W.Frag) (Γ : Gm) (r : R2) (op : D → D → Sto → Out D) : Prop where
  run : ∀ (w : Wd) (d e : D) (x y : V) (Q : VK) (ex : XP), Ok K Γ w → Pk K Γ w d x → Pk K Γ w e y → Post K Γ (op d e w.S) w (fun z w' => ∀ v, Rep K Γ w' z v → Q v w'.H) ex → r x y w.H Q
def mOp (op : D → D → Sto → Out D) (ma mb : ME) : ME := fun δ S => bnd (ma δ S) fun x S => bnd (mb δ S) fun y S => op x y S
theorem sim_op {r : R2} {op : D → D → Sto → Out D} (ho : OpM K Γ r op) (ha : SimP K Γ xa W ta ma) (hb : SimP K Γ xa W tb mb) : SimE K Γ xa W (tOp r ta tb) (mOp op ma mb) := ⟨fun w0 w σ δ Q o e n p =>
  ha.run w0 w σ δ _ o e n (p.then fun x w1 o1 e1 p1 v r1 => hb.run w0 w1 σ δ _ o1 (e.trans e1) (n.ev e1) (p1.then fun y w2 o2 e2 p2 u r2 => ho.run w2 _ _ _ _ _ _ o2 (r1.ev e2) r2 p2))⟩
/-- .. whose result is a new thing of one's own -/
structure OpF (K : PySem.W.Frag) (Γ : Gm) (r : R2) (op : D → D → Sto → Out D) : Prop where
  run : ∀ (w : Wd) (d e : D) (x y : V) (Q : VK) (ex : XP), Ok K Γ w → Pk K Γ w d x → Pk K Γ w e y → Post K Γ (op d e w.S) w (fun z w' => ∀ a, OwnAt K Γ w w' z a → Q (.ref a) w'.H) ex → r x y w.H Q
theorem own_back {w1 : Wd} {d : D} {a : Addr} (e : Ev w w1) (h : OwnAt K Γ w1 w' d a) : OwnAt K Γ w w' d a := ⟨e.dom a h.new, h.r, h.nl, h.at_⟩
structure UnM (K : PySem.W.Frag) (Γ : Gm) (r : V → Hp → VK → Prop) (op : D → Sto → Out D) : Prop where
  run : ∀ (w : Wd) (d : D) (x : V) (Q : VK) (ex : XP), Ok K Γ w → Pk K Γ w d x → Post K Γ (op d w.S) w (fun z w' => ∀ v, Rep K Γ w' z v → Q v w'.H) ex → r x w.H Q
def mUn (op : D → Sto → Out D) (ma : ME) : ME := fun δ S => bnd (ma δ S) op
theorem sim_un {r : V → Hp → VK → Prop} {op : D → Sto → Out D} (ho : UnM K Γ r op) (ha : SimP K Γ xa W ta ma) : SimE K Γ xa W (tUn r ta) (mUn op ma) := ⟨fun w0 w σ δ Q o e n p =>
  ha.run w0 w σ δ _ o e n (p.then fun x w1 o1 e1 p1 v r1 => ho.run w1 _ _ _ _ o1 r1 p1)⟩
def mTest (me : ME) : MT := fun δ S => bnd (me δ S) fun d S => match d with
  | .bl b => .ok b S
  | _ => .bad
theorem rep_bl {b : Bool} {v : V} (h : Rep K Γ w (.bl b) v) : v = .bl b := by simpa only [Rep, RepC] using h
theorem rep_int {i : Int} {v : V} (h : Rep K Γ w (.int i) v) : v = .int i := by simpa only [Rep, RepC] using h
theorem rep_str {x : Str} {v : V} (h : Rep K Γ w (.str x) v) : v = .str x := by simpa only [Rep, RepC] using h
theorem rep_non {v : V} (h : Rep K Γ w .non v) : v = .non := by simpa only [Rep, RepC] using h
theorem pk_bl {b : Bool} {v : V} (h : Pk K Γ w (.bl b) v) : v = .bl b := by
  rcases h with h | ⟨_, _, _, h⟩
  · exact rep_bl h
  · exact False.elim h.at_
theorem pk_int {i : Int} {v : V} (h : Pk K Γ w (.int i) v) : v = .int i := by
  rcases h with h | ⟨_, _, _, h⟩
  · exact rep_int h
  · exact False.elim h.at_
theorem pk_str {x : Str} {v : V} (h : Pk K Γ w (.str x) v) : v = .str x := by
  rcases h with h | ⟨_, _, _, h⟩
  · exact rep_str h
  · exact False.elim h.at_
theorem pk_non {v : V} (h : Pk K Γ w .non v) : v = .non := by
  rcases h with h | ⟨_, _, _, h⟩
  · exact rep_non h
  · exact False.elim h.at_
theorem sim_test (h : SimE K Γ xa W te me) : SimT K Γ xa W (tTest te) (mTest me) := ⟨fun w0 w σ δ Q o e n p =>
  h.run w0 w σ δ _ o e n (p.then fun d w1 o1 e1 p1 v r1 => by
    split at p1
    · exact ⟨_, rep_bl r1, Post.now p1 o1⟩
    · exact False.elim p1)⟩
theorem sim_B (h : SimE K Γ xa W te me) : SimT K Γ xa W (tB te) (mTest me) := ⟨fun w0 w σ δ Q o e n p =>
  h.run w0 w σ δ _ o e n (p.then fun d w1 o1 e1 p1 v r1 => by
    split at p1
    · exact ⟨_, rep_bl r1, Post.now p1 o1⟩
    · exact False.elim p1)⟩
/-- how a thing is read: its items -/
def listOf (S : Sto) (d : D) : Option (List D) := match d with
  | .lst ds => some ds
  | .scr is => some (is.map D.int)
  | .ref n => match S[n]? with
    | some (some (.lst ds)) => some ds
    | _ => none
  | _ => none
theorem reps_ints {ρ : List Addr} {R : Hp} : ∀ {is : List Int}, RepsC K Γ ρ R (is.map D.int) (is.map V.int)
  | [] => reps_nil
  | i :: is => reps_cons (by simp only [RepC]) reps_ints
theorem listOf_ok {d : D} {v : V} {ds : List D} (o : Ok K Γ w) (h : Pk K Γ w d v) (e : listOf w.S d = some ds) : ∃ a vs, v = .ref a ∧ SqL K w.H a vs ∧ vs.length ≤ sizeLine ∧ Reps K Γ w ds vs := by
  unfold listOf at e
  split at e
  · cases e
    rcases h with h | ⟨_, a, rfl, h⟩
    · simp only [Rep, RepC] at h
      obtain ⟨a, vs, h1, h2, h3, h4⟩ := h
      exact ⟨a, vs, h1, SqL.of (o.same _ _ h2), h3, h4⟩
    · obtain ⟨vs, h1, h2, h3⟩ := h.at_
      exact ⟨a, vs, rfl, SqL.of h1, h2, h3⟩
  · cases e
    rcases h with h | ⟨_, a, rfl, h⟩
    · simp only [Rep, RepC] at h
      obtain ⟨a, h1, h2, h3⟩ := h
      exact ⟨a, _, h1, sqL_mono o.same h2, by rw [List.length_map]; exact h3, reps_ints⟩
    · exact False.elim h.at_
  · split at e
    · rename_i n ds' q
      cases e
      rcases h with h | ⟨_, a, rfl, h⟩
      · simp only [Rep, RepC] at h
        obtain ⟨a, h1, h2⟩ := h
        obtain ⟨b, h3, _, vs, h4, h5, h6⟩ := o.cell _ _ q
        rw [h1] at h3
        cases h3
        exact ⟨a, vs, h2, SqL.of h4, h5, h6⟩
      · exact False.elim h.at_
    · cases e
  · cases e
def tupOf (d : D) : Option (List D) := match d with
  | .tup ds => some ds
  | _ => none
theorem tupOf_ok {d : D} {v : V} {ds : List D} (o : Ok K Γ w) (h : Pk K Γ w d v) (e : tupOf d = some ds) : ∃ a vs, v = .ref a ∧ SqT K w.H a vs ∧ vs.length ≤ sizeLine ∧ Reps K Γ w ds vs := by
  unfold tupOf at e
  split at e
  · cases e
    rcases h with h | ⟨_, a, rfl, h⟩
    · simp only [Rep, RepC] at h
      obtain ⟨a, vs, h1, h2, h3, h4⟩ := h
      exact ⟨a, vs, h1, sqT_mono o.same h2, h3, h4⟩
    · exact False.elim h.at_
  · cases e
def dicOf (S : Sto) (d : D) : Option (List Key × List D) := match d with
  | .dic ks ds => some (ks, ds)
  | .fdc ks ds => some (ks, ds)
  | .ref n => match S[n]? with
    | some (some (.dic ks ds)) => some (ks, ds)
    | _ => none
  | _ => none
def objOf (S : Sto) (d : D) : Option (Nat × List Str × List D) := match d with
  | .obj c ns ds => some (c, ns, ds)
  | .ref n => match S[n]? with
    | some (some (.obj c ns ds)) => some (c, ns, ds)
    | _ => none
  | _ => none
theorem objOf_ok {d : D} {v : V} {c : Nat} {ns : List Str} {ds : List D} (o : Ok K Γ w) (h : Pk K Γ w d v) (e : objOf w.S d = some (c, ns, ds)) : ∃ a dx vs, v = .ref a ∧ w.H a = some (.ins (Γ c) dx (ns.zip vs)) ∧ ns.length = vs.length ∧ Reps K Γ w ds vs := by
  unfold objOf at e
  split at e
  · cases e
    rcases h with h | ⟨_, a, rfl, h⟩
    · simp only [Rep, RepC] at h
      obtain ⟨a, dx, vs, h1, h2, h3, h4⟩ := h
      exact ⟨a, dx, vs, h1, o.same _ _ h2, h3, h4⟩
    · obtain ⟨dx, vs, h1, h2, h3⟩ := h.at_
      exact ⟨a, dx, vs, rfl, h1, h2, h3⟩
  · split at e
    · rename_i n c' ns' ds' q
      cases e
      rcases h with h | ⟨_, a, rfl, h⟩
      · simp only [Rep, RepC] at h
        obtain ⟨a, h1, h2⟩ := h
        obtain ⟨b, h3, _, dx, vs, h4, h5, h6⟩ := o.cell _ _ q
        rw [h1] at h3
        cases h3
        exact ⟨a, dx, vs, h2, h4, h5, h6⟩
      · exact False.elim h.at_
    · cases e
  · cases e
def truD (S : Sto) (d : D) : Option Bool := match d with
  | .non => some false
  | .bl b => some b
  | .int i => some (i != 0)
  | d => match listOf S d with
    | some ds => some (!ds.isEmpty)
    | none => match tupOf d with
      | some ds => some (!ds.isEmpty)
      | none => none
def mTru (me : ME) : MT := fun δ S => bnd (me δ S) fun d S => match truD S d with
  | some b => .ok b S
  | none => .bad
variable {t u : TT} {mt mu : MT}
def mYes : MT := fun _ S => .ok true S
theorem sim_yes : SimT K Γ xa W tYes mYes := ⟨fun w0 w σ δ Q o e n p => Post.now p o⟩
def mAnd (mt mu : MT) : MT := fun δ S => bnd (mt δ S) fun b S => if b then mu δ S else .ok false S
def mOr (mt mu : MT) : MT := fun δ S => bnd (mt δ S) fun b S => if b then .ok true S else mu δ S
theorem sim_or (h : SimT K Γ xa W t mt) (g : SimT K Γ xa W u mu) : SimT K Γ xa W (tOr t u) (mOr mt mu) := ⟨fun w0 w σ δ Q o e n p =>
  h.run w0 w σ δ _ o e n (p.then fun b w1 o1 e1 p1 => by
    cases b
    · rw [if_neg (by simp)]; exact g.run w0 w1 σ δ _ o1 (e.trans e1) (n.ev e1) p1
    · rw [if_pos rfl]; exact Post.now p1 o1)⟩
def mNot (mt : MT) : MT := fun δ S => bnd (mt δ S) fun b S => .ok (!b) S
theorem sim_not (h : SimT K Γ xa W t mt) : SimT K Γ xa W (tNot t) (mNot mt) := ⟨fun w0 w σ δ Q o e n p =>
  h.run w0 w σ δ _ o e n (p.then fun b w1 o1 e1 p1 => Post.now p1 o1)⟩
def mAndV (ma mb : ME) : ME := fun δ S => bnd (ma δ S) fun d S => match d with
  | .bl b => if b then mb δ S else .ok (.bl false) S
  | _ => .bad
theorem sim_andV (h : SimE K Γ xa W ta ma) (g : SimE K Γ xa W tb mb) : SimE K Γ xa W (tAndV ta tb) (mAndV ma mb) := ⟨fun w0 w σ δ Q o e n p =>
  h.run w0 w σ δ _ o e n (p.then fun d w1 o1 e1 p1 v r1 => by
    split at p1
    · rename_i b
      refine ⟨b, rep_bl r1, ?_⟩
      cases b
      · rw [if_neg (by simp)]; exact Post.now p1 o1 _ rfl
      · rw [if_pos rfl]; exact g.run w0 w1 σ δ _ o1 (e.trans e1) (n.ev e1) p1
    · exact False.elim p1)⟩
def mOrV (ma mb : ME) : ME := fun δ S => bnd (ma δ S) fun d S => match d with
  | .bl b => if b then .ok (.bl true) S else mb δ S
  | _ => .bad
theorem sim_orV (h : SimE K Γ xa W ta ma) (g : SimE K Γ xa W tb mb) : SimE K Γ xa W (tOrV ta tb) (mOrV ma mb) := ⟨fun w0 w σ δ Q o e n p =>
  h.run w0 w σ δ _ o e n (p.then fun d w1 o1 e1 p1 v r1 => by
    split at p1
    · rename_i b
      refine ⟨b, rep_bl r1, ?_⟩
      cases b
      · rw [if_neg (by simp)]; exact g.run w0 w1 σ δ _ o1 (e.trans e1) (n.ev e1) p1
      · rw [if_pos rfl]; exact Post.now p1 o1 _ rfl
    · exact False.elim p1)⟩
def mNotV (ma : ME) : ME := fun δ S => bnd (ma δ S) fun d S => match d with
  | .bl b => .ok (.bl (!b)) S
  | _ => .bad
def mIf (mt : MT) (ma mb : ME) : ME := fun δ S => bnd (mt δ S) fun b S => if b then ma δ S else mb δ S
theorem sim_if (h : SimT K Γ xa W t mt) (f : SimE K Γ xa W ta ma) (g : SimE K Γ xa W tb mb) : SimE K Γ xa W (tIf t ta tb) (mIf mt ma mb) := ⟨fun w0 w σ δ Q o e n p =>
  h.run w0 w σ δ _ o e n (p.then fun b w1 o1 e1 p1 => by
    cases b
    · rw [if_neg (by simp)]; exact g.run w0 w1 σ δ _ o1 (e.trans e1) (n.ev e1) p1
    · rw [if_pos rfl]; exact f.run w0 w1 σ δ _ o1 (e.trans e1) (n.ev e1) p1)⟩
def mChain (op op' : D → D → Sto → Out D) (ma mb mc : ME) : ME := fun δ S => bnd (ma δ S) fun x S => bnd (mb δ S) fun y S => bnd (op x y S) fun z S => match z with
  | .bl k => if k then bnd (mc δ S) fun u S => op' y u S else .ok (.bl false) S
  | _ => .bad
variable {tl : TA} {ml : MA} {n : Nat}
def mNil : MA := fun _ S => .ok [] S
def mCons (me : ME) (ml : MA) : MA := fun δ S => bnd (me δ S) fun x S => bnd (ml δ S) fun xs S => .ok (x :: xs) S
theorem bnd_ok {α β : Type} {o : Out α} {f : α → Sto → Out β} {b : β} {S : Sto} (h : bnd o f = .ok b S) : ∃ a S1, o = .ok a S1 ∧ f a S1 = .ok b S := by
  cases o with
  | ok a S1 => exact ⟨a, S1, rfl, h⟩
  | ex => cases h
  | bad => cases h
theorem sim_nil : SimA K Γ xa W 0 tNil mNil := ⟨fun δ S ds S' h => by cases h; rfl, fun w0 w σ δ Q o e n p => Post.now p o [] reps_nil⟩
theorem sim_cons (h : SimE K Γ xa W te me) (g : SimA K Γ xa W n tl ml) : SimA K Γ xa W (n + 1) (tCons te tl) (mCons me ml) := by
  refine ⟨fun δ S ds S' h => ?_, fun w0 w σ δ Q o e nn p => ?_⟩
  · obtain ⟨a, S1, h1, h2⟩ := bnd_ok h
    obtain ⟨b, S2, h3, h4⟩ := bnd_ok h2
    cases h4
    rw [List.length_cons, g.len _ _ _ _ h3]
  · exact h.run w0 w σ δ _ o e nn (p.then fun x w1 o1 e1 p1 v r1 => g.run w0 w1 σ δ _ o1 (e.trans e1) (nn.ev e1) (p1.then fun xs w2 o2 e2 p2 vs rs => Post.now p2 o2 _ (reps_cons (Rep.ev r1 e2) rs)))
theorem sim_pnil : SimPA K Γ xa W tNil mNil := ⟨fun w0 w σ δ Q o e n p => Post.now p o [] .nil⟩
theorem Pks.ev {ds : List D} {vs : List V} (h : Pks K Γ w ds vs) (e : Ev w w') : Pks K Γ w' ds vs := by
  induction h with
  | nil => exact .nil
  | cons h _ ih => exact .cons (h.ev e) ih
theorem sim_pcons (h : SimP K Γ xa W te me) (g : SimPA K Γ xa W tl ml) : SimPA K Γ xa W (tCons te tl) (mCons me ml) := ⟨fun w0 w σ δ Q o e nn p =>
  h.run w0 w σ δ _ o e nn (p.then fun x w1 o1 e1 p1 v r1 => g.run w0 w1 σ δ _ o1 (e.trans e1) (nn.ev e1) (p1.then fun xs w2 o2 e2 p2 vs rs => Post.now p2 o2 _ (.cons (r1.ev e2) rs)))⟩
def mTup (ml : MA) : ME := fun δ S => bnd (ml δ S) fun ds S => .ok (.tup ds) S
theorem post_len {ok : List D → Wd → Prop} {ex : XP} {o : Out (List D)} (h : Post K Γ o w ok ex) : Post K Γ o w (fun ds w' => (∃ S, o = .ok ds S) ∧ ok ds w') ex := by
  cases o with
  | ok a S => exact fun w1 hs ho he => ⟨⟨S, rfl⟩, h w1 hs ho he⟩
  | ex c ns ds S => exact h
  | bad => exact h
theorem sim_tup (g : SimA K Γ xa W n tl ml) (hn : n ≤ 1000 := by decide) : SimE K Γ xa W (tTup tl) (mTup ml) := ⟨fun w0 w σ δ Q o e nn p =>
  g.run w0 w σ δ _ o e nn ((post_len (p.then (ok' := fun ds w1 => Ok K Γ w1 ∧ Post K Γ (.ok (D.tup ds) w1.S) w1 (fun d w' => ∀ v, Rep K Γ w' d v → Q v w'.H) (XW K Γ W σ)) fun ds w1 o1 e1 p1 => ⟨o1, p1⟩)).mono (fun ds w1 o1 e1 q vs rs => by
    obtain ⟨⟨S, hS⟩, _, p1⟩ := q
    have hl : vs.length ≤ sizeLine := by
      rw [← reps_len rs, g.len _ _ _ _ hS]
      exact Nat.le_trans hn (by decide)
    refine ⟨hl, fun pp hp => ?_⟩
    have ev := ev_frz (o := .tup vs) o1 hp
    refine p1.at (w' := wFrz w1 pp (.tup vs)) rfl (ok_frz o1 hp) ev _ ?_
    simp only [Rep, RepC]
    exact ⟨pp, vs, rfl, SqT.of upd_same, hl, Reps.ev rs ev⟩) fun _ _ _ _ _ _ x => x)⟩
def mLst (ml : MA) : ME := fun δ S => bnd (ml δ S) fun ds S => .ok (.lst ds) S
theorem own_new {p : Addr} {o : HO} {d : D} (h : Ok K Γ w) (hp : w.H p = none) (at_ : At K Γ (wPut w p o) d p) : OwnAt K Γ w (wPut w p o) d p := ⟨hp, (r_none h hp : w.R p = none), fun l => not_live h hp l, at_⟩
theorem sim_lst (g : SimA K Γ xa W n tl ml) (hn : n ≤ 1000 := by decide) : SimF K Γ xa W (tLst tl) (mLst ml) := ⟨fun w0 w σ δ Q o e nn p =>
  g.run w0 w σ δ _ o e nn ((post_len (p.then (ok' := fun ds w1 => Post K Γ (.ok (D.lst ds) w1.S) w1 (fun d w' => ∀ a, OwnAt K Γ w w' d a → Q (.ref a) w'.H) (XW K Γ W σ)) fun ds w1 o1 e1 p1 => p1)).mono (fun ds w1 o1 e1 q vs rs => by
    obtain ⟨⟨S, hS⟩, p1⟩ := q
    have hl : vs.length ≤ sizeLine := by
      rw [← reps_len rs, g.len _ _ _ _ hS]
      exact Nat.le_trans hn (by decide)
    refine ⟨hl, fun pp hp => ?_⟩
    have ev := ev_put (o := .lst vs) (Ev.refl w1) hp
    exact p1.at (w' := wPut w1 pp (.lst vs)) rfl (ok_put o1 (r_none o1 hp) (not_live o1 hp)) ev _ (own_back e1 (own_new o1 hp ⟨vs, upd_same, hl, Reps.ev rs ev⟩))) fun _ _ _ _ _ _ x => x)⟩
end
end MR

namespace MR
open PySem PySem.Spec PyProof.Rows L2 TP
def bndS {α : Type} (o : Out α) (δ : Env) (f : α → Sto → Out Fl) : Out Fl := match o with
  | .ok a S => f a S
  | .ex c ns ds S => .ok (.ex c ns ds δ) S
  | .bad => .bad
section
variable {K : PySem.W.Frag} {Γ : Gm} {xa : XT} {W : WX} {te ta tb : TE} {me ma mb : ME} {w w' w0 w1 : Wd} {t u : TT} {mt mu : MT} {ts us : TS} {ms mus : MS} {Dn : Ends}
theorem PostS.gr {o : Out Fl} (h : PostS K Γ xa W o w0 w Dn) (g : Gr w w') : PostS K Γ xa W o w0 w' Dn := by
  cases o with
  | ok f S => cases f <;> exact fun w1 σ hs ho he hg => h w1 σ hs ho he (g.trans hg)
  | ex => exact h
  | bad => exact h
theorem PostS.then {α : Type} {o : Out α} {δ : Env} {σ : L2.St} {f : α → Sto → Out Fl} {ok : α → Wd → Prop} (h : PostS K Γ xa W (bndS o δ f) w0 w Dn) (e : Ev w0 w) (n : EnvOk K Γ xa w0 w σ δ)
    (g : ∀ a w', Ok K Γ w' → Ev w w' → PostS K Γ xa W (f a w'.S) w0 w' Dn → ok a w') : Post K Γ o w ok (XW K Γ W σ) := by
  cases o with
  | ok a S => exact fun w1 hs ho he => g a w1 ho he (by subst hs; exact PostS.gr h he.gr)
  | ex c ns ds S => exact fun w1 hs ho he => h w1 σ hs ho (e.trans he) he.gr (n.ev he)
  | bad => exact h
theorem PostS.nx {δ : Env} {σ : L2.St} (h : PostS K Γ xa W (.ok (.nx δ) w.S) w0 w Dn) (o : Ok K Γ w) (e : Ev w0 w) (n : EnvOk K Γ xa w0 w σ δ) : Dn.nx σ w.H := h w σ rfl o e (Gr.refl w) n
theorem PostS.rt {d : D} {v : V} (h : PostS K Γ xa W (.ok (.rt d) w.S) w0 w Dn) (o : Ok K Γ w) (e : Ev w0 w) (n : Rep K Γ w d v) : Dn.rt v w.H := h w v rfl o e (Gr.refl w) n
def mNext : MS := fun δ S => .ok (.nx δ) S
theorem sim_next : SimS K Γ xa W tNext mNext := ⟨fun w0 w σ δ Dn o e n p => p.nx o e n⟩
/-- on from what a statement left -/
def onNx (o : Out Fl) (f : Env → Sto → Out Fl) : Out Fl := match o with
  | .ok (.nx δ) S => f δ S
  | o => o
def mSeq (ms mus : MS) : MS := fun δ S => onNx (ms δ S) mus
theorem sim_seq (h : SimS K Γ xa W ts ms) (g : SimS K Γ xa W us mus) : SimS K Γ xa W (tSeq ts us) (mSeq ms mus) := ⟨fun w0 w σ δ Dn o e n p => by
  refine h.run w0 w σ δ _ o e n ?_
  unfold mSeq onNx at p
  cases z : ms δ w.S with
  | ok f S =>
    rw [z] at p
    cases f with
    | nx δ' => exact fun w1 σ1 hs ho he hg hn => g.run w0 w1 σ1 δ' Dn ho he hn (by subst hs; exact PostS.gr p hg)
    | rt d => exact p
    | bk d => exact p
    | ct d => exact p
    | ex => exact p
  | ex => rw [z] at p; exact p
  | bad => rw [z] at p; exact p⟩
variable {vs : List Nat} {tg : TG} {mg : MG}
def onG (o : Option Env) (S : Sto) : Out Fl := match o with
  | some δ => .ok (.nx δ) S
  | none => .bad
def mAsg (me : ME) (mg : MG) : MS := fun δ S => bndS (me δ S) δ fun d S => onG (mg d δ) S
theorem sim_asg (h : SimE K Γ xa W te me) (g : SimN K Γ xa vs tg mg) : SimS K Γ xa W (tAsg te tg) (mAsg me mg) := ⟨fun w0 w σ δ Dn o e n p =>
  h.run w0 w σ δ _ o e n (p.then e n fun d w1 o1 e1 p1 v r1 => g.run w0 w1 σ δ d v _ o1 (n.ev e1) r1 (by
    cases z : mg d δ with
    | some δ' => rw [z] at p1; exact fun σ2 hn _ _ => p1.nx o1 (e.trans e1) hn
    | none => rw [z] at p1; exact p1))⟩
def mGName (i : Nat) : MG := fun d δ => some (δ.set i (.val d))
theorem sim_gname {i : Nat} : SimN K Γ xa [i] (gName i) (mGName i) := ⟨fun w0 w σ δ d v Q o n r p =>
  p _ (n.set r) (by rw [List.length_set]) fun j hj => by
    rw [List.getElem?_set, if_neg (fun z => hj (by rw [z]; exact List.mem_singleton_self _))]⟩
def mGNil : MGs := fun ds δ => match ds with
  | [] => some δ
  | _ => none
def mGCons (g : MG) (gs : MGs) : MGs := fun ds δ => match ds with
  | d :: r => (g d δ).bind fun δ => gs r δ
  | _ => none
theorem sim_gnil : SimNs K Γ xa [] gNil mGNil := ⟨fun w0 w σ δ ds v Q o n r p => by
  cases ds with
  | nil => simp only [Reps, RepsC] at r; exact ⟨r, p σ n rfl fun _ _ => rfl⟩
  | cons d ds => exact False.elim p⟩
theorem sim_gcons {us : List Nat} {tgs : TGs} {mgs : MGs} (h : SimN K Γ xa vs tg mg) (g : SimNs K Γ xa us tgs mgs) : SimNs K Γ xa (vs ++ us) (gCons tg tgs) (mGCons mg mgs) := ⟨fun w0 w σ δ ds v Q o n r p => by
  cases ds with
  | nil => exact False.elim p
  | cons d ds =>
    obtain ⟨v1, ws, rfl, r1, r2⟩ := reps_inv r
    refine ⟨v1, ws, rfl, h.run w0 w σ δ d v1 _ o n r1 ?_⟩
    have p' : (match (mg d δ).bind fun δ => mgs ds δ with | some δ' => ∀ σ', EnvOk K Γ xa w0 w σ' δ' → σ'.length = σ.length → (∀ i, i ∉ vs ++ us → σ'[i]? = σ[i]?) → Q σ' w.H | none => False) := p
    cases z : mg d δ with
    | some δ' =>
      rw [z] at p'
      intro σ1 hn hl hk
      refine g.run w0 w σ1 δ' ds ws _ o hn r2 ?_
      have p2 : (match mgs ds δ' with | some δ' => ∀ σ', EnvOk K Γ xa w0 w σ' δ' → σ'.length = σ.length → (∀ i, i ∉ vs ++ us → σ'[i]? = σ[i]?) → Q σ' w.H | none => False) := p'
      cases z2 : mgs ds δ' with
      | some δ2 =>
        rw [z2] at p2
        exact fun σ2 hn2 hl2 hk2 => p2 σ2 hn2 (hl2.trans hl) fun i hi => by
          rw [List.mem_append] at hi
          rw [hk2 i (fun z => hi (.inr z)), hk i (fun z => hi (.inl z))]
      | none => rw [z2] at p2; exact p2
    | none => rw [z] at p'; exact p'⟩
def mGTup (n : Nat) (g : MGs) : MG := fun d δ => match d with
  | .tup ds => if ds.length = n then g ds δ else none
  | _ => none
theorem sim_gtup' {n : Nat} {tgs : TGs} {mgs : MGs} (h : SimNs K Γ xa vs tgs mgs) : SimN K Γ xa vs (gTup K n tgs) (mGTup n mgs) := ⟨fun w0 w σ δ d v Q o nn r p => by
  unfold mGTup at p
  cases d with
  | tup ds =>
    simp only [Rep, RepC] at r
    obtain ⟨a, xs, h1, h2, _, h4⟩ := r
    dsimp only at p
    by_cases z : ds.length = n
    · rw [if_pos z] at p
      exact ⟨a, xs, h1, sqT_mono o.same h2, by rw [← reps_len h4]; exact z, h.run w0 w σ δ ds xs Q o nn h4 p⟩
    · rw [if_neg z] at p; exact False.elim p
  | _ => exact False.elim p⟩
/-- x = a new thing, kept as one's own -/
def mAsgO (me : ME) (i : Nat) : MS := fun δ S => bndS (me δ S) δ fun d S => .ok (.nx (δ.set i (.own false d))) S
theorem sim_asgO {i : Nat} (h : SimF K Γ xa W te me) : SimS K Γ xa W (tAsg te (gName i)) (mAsgO me i) := ⟨fun w0 w σ δ Dn o e n p =>
  h.run w0 w σ δ _ o e n (p.then e n fun d w1 o1 e1 p1 a oa => p1.nx o1 (e.trans e1) ((n.ev e1).setOwn (own_back e oa) fun j f e' b h1 h2 => by
    have h3 := n.own h1
    obtain ⟨b', h4, h5⟩ := h3
    rw [h2] at h4
    cases h4
    obtain ⟨u, hu⟩ := at_some h5.at_
    exact ne_of_none hu oa.new))⟩
/-- x = a new thing, put into the store -/
def mAsgC (me : ME) (i : Nat) : MS := fun δ S => bndS (me δ S) δ fun d S => .ok (.nx (δ.set i (.val (.ref S.length)))) (S ++ [some d])
theorem rep_ref {a : Addr} {d : D} (o : Ok K Γ w) : Rep K Γ (wAdd w a d) (.ref w.S.length) (.ref a) := by
  simp only [Rep, RepC]
  exact ⟨a, by rw [o.len]; simp [wAdd], rfl⟩
theorem sim_asgC {i : Nat} (h : SimF K Γ xa W te me) : SimS K Γ xa W (tAsg te (gName i)) (mAsgC me i) := ⟨fun w0 w σ δ Dn o e n p =>
  h.run w0 w σ δ _ o e n (p.then e n fun d w1 o1 e1 p1 a oa => by
    have e2 := ev_add (d := d) o1 e1 oa.new
    exact p1 (wAdd w1 a d) _ rfl (ok_add o1 oa.r oa.nl oa.at_) (e.trans e2) ⟨fun _ _ z => z, List.prefix_append _ _⟩ ((n.ev e2).set (rep_ref o1)))⟩
def mRet (me : ME) : MS := fun δ S => bndS (me δ S) δ fun d S => .ok (.rt d) S
theorem sim_ret (h : SimE K Γ xa W te me) : SimS K Γ xa W (tRet te) (mRet me) := ⟨fun w0 w σ δ Dn o e n p =>
  h.run w0 w σ δ _ o e n (p.then e n fun d w1 o1 e1 p1 v r1 => p1.rt o1 (e.trans e1) r1)⟩
def mDrop (me : ME) : MS := fun δ S => bndS (me δ S) δ fun _ S => .ok (.nx δ) S
theorem sim_drop (h : SimE K Γ xa W te me) : SimS K Γ xa W (tDrop te) (mDrop me) := ⟨fun w0 w σ δ Dn o e n p =>
  h.run w0 w σ δ _ o e n (p.then e n fun d w1 o1 e1 p1 v r1 => p1.nx o1 (e.trans e1) (n.ev e1))⟩
def mIfS (mt : MT) (ms mus : MS) : MS := fun δ S => bndS (mt δ S) δ fun b S => if b then ms δ S else mus δ S
theorem sim_ifS (h : SimT K Γ xa W t mt) (f : SimS K Γ xa W ts ms) (g : SimS K Γ xa W us mus) : SimS K Γ xa W (tIfS t ts us) (mIfS mt ms mus) := ⟨fun w0 w σ δ Dn o e n p =>
  h.run w0 w σ δ _ o e n (p.then e n fun b w1 o1 e1 p1 => by
    cases b
    · rw [if_neg (by simp)]; exact g.run w0 w1 σ δ _ o1 (e.trans e1) (n.ev e1) p1
    · rw [if_pos rfl]; exact f.run w0 w1 σ δ _ o1 (e.trans e1) (n.ev e1) p1)⟩
/-- one's own is given away: it never changes from here on (nothing is done) -/
def mFix (i : Nat) (ms : MS) : MS := fun δ S => match δ[i]? with
  | some (.own _ d) => ms (δ.set i (.val d)) S
  | _ => ms δ S
theorem sim_fix {i : Nat} (h : SimS K Γ xa W ts ms) : SimS K Γ xa W ts (mFix i ms) := ⟨fun w0 w σ δ Dn o e n p => by
  unfold mFix at p
  split at p
  · rename_i fb d hd
    obtain ⟨a, h1, oa⟩ := n.own hd
    obtain ⟨w2, s2, hh, o2, e2, g2, r2, hρ, hR⟩ := own_rep (w := w0) o e oa
    have n2 : EnvOk K Γ xa w0 w2 σ (δ.set i (.val d)) := by
      have hi := (List.getElem?_eq_some_iff.mp hd).1
      have evw : ∀ {s : Slot} {x : Option V} {j : Nat}, j ≠ i → σ[j]? = some x → δ[j]? = some s → SlotOk K Γ xa w0 w2 x s := fun {s x j} ne hx hs => by
        have q := n.ok j x s hx hs
        cases s with
        | no => trivial
        | val d' => obtain ⟨v, q1, q2⟩ := q; exact ⟨v, q1, Rep.gr q2 g2⟩
        | own fb' d' =>
          obtain ⟨b, q1, q2, q3⟩ := q
          have nb : b ≠ a := fun z => ne (n.sep j i fb' fb d' d a hs hd (by rw [hx, q1, z]) h1)
          refine ⟨b, q1, ⟨q2.new, by rw [hR b nb]; exact q2.r, fun l => q2.nl ?_, at_mv q2.at_ (fun u hu => by rw [hh]; exact hu) g2.rr g2.pre⟩, q3⟩
          obtain ⟨m, x, l1, l2⟩ := l
          exact ⟨m, x, by rw [← s2]; exact l1, by rw [← hρ]; exact l2⟩
        | exn c ns ds => obtain ⟨h1, h2, h3⟩ := q; exact ⟨h1, h2, h3.imp (fun ⟨dd, vs, h3, h4, h5, h6⟩ => ⟨dd, vs, h3, g2.rr _ _ h4, h5, Reps.gr h6 g2⟩) id⟩
      refine ⟨by rw [List.length_set]; exact n.len, fun j x s hx hs => ?_, fun j k fa fb d' e' b q1 q2 q3 q4 => ?_⟩
      · rw [List.getElem?_set] at hs
        by_cases q : i = j
        · subst q
          rw [if_pos rfl, if_pos hi] at hs
          cases hs
          rw [h1] at hx
          cases hx
          exact ⟨_, rfl, r2⟩
        · rw [if_neg q] at hs
          exact evw (fun z => q z.symm) hx hs
      · rw [List.getElem?_set] at q1 q2
        by_cases z1 : i = j
        · rw [if_pos z1] at q1; split at q1 <;> cases q1
        · by_cases z2 : i = k
          · rw [if_pos z2] at q2; split at q2 <;> cases q2
          · rw [if_neg z1] at q1
            rw [if_neg z2] at q2
            exact n.sep j k fa fb d' e' b q1 q2 q3 q4
    have := h.run w0 w2 σ _ Dn o2 e2 n2 (by rw [s2]; exact PostS.gr p g2)
    rw [hh] at this
    exact this
  · exact h.run w0 w σ δ Dn o e n p⟩
end
end MR

namespace MR
open PySem PySem.Spec PyProof.Rows L2 TP
structure Items (K : PySem.W.Frag) (Γ : Gm) (rel : Wd → Wd → Prop) (w : Wd) (J : It) (ds : List D) : Prop where
  len : ds.length ≤ sizeLine
  go : ∀ w1 i, Ok K Γ w1 → rel w w1 → i < ds.length → J.go i w1.H
  yld : ∀ w1 i x H', Ok K Γ w1 → rel w w1 → i < ds.length → J.yld i w1.H x H' → ∃ w2 d, w2.H = H' ∧ w2.S = w1.S ∧ Ok K Γ w2 ∧ Ev w1 w2 ∧ ds[i]? = some d ∧ Rep K Γ w2 d x
  stop : ∀ w1, Ok K Γ w1 → rel w w1 → J.stop ds.length w1.H
structure SimI (K : PySem.W.Frag) (Γ : Gm) (xa : XT) (rel : Wd → Wd → Prop) (W : WX) (wi : TI) (mi : MA) : Prop where
  run : ∀ (w0 w : Wd) (σ : L2.St) (δ : Env) (R : It → Hp → Prop), Ok K Γ w → Ev w0 w → EnvOk K Γ xa w0 w σ δ → Post K Γ (mi δ w.S) w (fun ds w' => ∀ J, Items K Γ rel w' J ds → R J w'.H) (XW K Γ W σ) → wi σ w.H R
section
variable {K : PySem.W.Frag} {Γ : Gm} {xa : XT} {W : WX} {te ta tb : TE} {me ma mb : ME} {w w' w0 w1 : Wd} {t u : TT} {mt mu : MT} {ts us : TS} {ms mus : MS} {Dn : Ends} {tl : TA} {ml : MA} {wi : TI} {mi : MA}
theorem Items.ev {J : It} {ds : List D} (h : Items K Γ Gr w J ds) : Items K Γ Ev w J ds := ⟨h.len, fun w1 i o e => h.go w1 i o e.gr, fun w1 i x H' o e => h.yld w1 i x H' o e.gr, fun w1 o e => h.stop w1 o e.gr⟩
theorem SimI.ev (h : SimI K Γ xa Gr W wi mi) : SimI K Γ xa Ev W wi mi := ⟨fun w0 w σ δ R o e n p => h.run w0 w σ δ R o e n (p.mono (fun ds w' _ _ q J it => q J it.ev) fun _ _ _ _ _ _ x => x)⟩
/-- what a list's walk yields is what any reading of the list tells: it suffices to have one reading -/
theorem items_list {rel : Wd → Wd → Prop} {a : Addr} {vs : List V} {ds : List D} (hl : vs.length ≤ sizeLine) (h : ∀ w1, Ok K Γ w1 → rel w w1 → SqL K w1.H a vs ∧ Reps K Γ w1 ds vs) (hw : rel w w) (o : Ok K Γ w) : Items K Γ rel w (Itl K a) ds := by
  have el : ds.length = vs.length := reps_len (h w o hw).2
  refine ⟨by omega, fun w1 i o1 e1 hi => ?_, fun w1 i x H' o1 e1 hi y => ?_, fun w1 o1 e1 => ⟨vs, (h w1 o1 e1).1, by omega⟩⟩
  · exact ⟨vs, _, (h w1 o1 e1).1, List.getElem?_eq_getElem (by omega)⟩
  · obtain ⟨rfl, y⟩ := y
    obtain ⟨h1, h2⟩ := h w1 o1 e1
    obtain ⟨d, hd, hr⟩ := reps_get' h2 (y vs h1)
    exact ⟨w1, d, rfl, rfl, o1, Ev.refl w1, hd, hr⟩
def mIList (me : ME) : MA := fun δ S => bnd (me δ S) fun d S => match d with
  | .lst ds => .ok ds S
  | .scr is => .ok (is.map D.int) S
  | _ => .bad
theorem sim_ilist (h : SimE K Γ xa W te me) : SimI K Γ xa Gr W (iList K te) (mIList me) := ⟨fun w0 w σ δ R o e n p =>
  h.run w0 w σ δ _ o e n (p.then fun d w1 o1 e1 p1 v r1 => by
    split at p1
    · simp only [Rep, RepC] at r1
      obtain ⟨a, vs, h1, h2, h3, h4⟩ := r1
      exact ⟨a, h1, ⟨vs, SqL.of (o1.same _ _ h2)⟩, Post.now p1 o1 _ (items_list h3 (fun w2 o2 g2 => ⟨SqL.of (o2.same _ _ (g2.rr _ _ h2)), Reps.gr h4 g2⟩) (Gr.refl _) o1)⟩
    · simp only [Rep, RepC] at r1
      obtain ⟨a, h1, h2, h3⟩ := r1
      exact ⟨a, h1, ⟨_, sqL_mono o1.same h2⟩, Post.now p1 o1 _ (items_list (by rw [List.length_map]; exact h3) (fun w2 o2 g2 => ⟨sqL_mono o2.same (sqL_mono g2.rr h2), reps_ints⟩) (Gr.refl _) o1)⟩
    · exact False.elim p1)⟩
def mITup (me : ME) : MA := fun δ S => bnd (me δ S) fun d S => match d with
  | .tup ds => .ok ds S
  | _ => .bad
theorem items_tup {rel : Wd → Wd → Prop} {a : Addr} {vs : List V} {ds : List D} (hl : vs.length ≤ sizeLine) (h : ∀ w1, Ok K Γ w1 → rel w w1 → SqT K w1.H a vs ∧ Reps K Γ w1 ds vs) (hw : rel w w) (o : Ok K Γ w) : Items K Γ rel w (Itt K a) ds := by
  have el : ds.length = vs.length := reps_len (h w o hw).2
  refine ⟨by omega, fun w1 i o1 e1 hi => ?_, fun w1 i x H' o1 e1 hi y => ?_, fun w1 o1 e1 => ⟨vs, (h w1 o1 e1).1, by omega⟩⟩
  · exact ⟨vs, _, (h w1 o1 e1).1, List.getElem?_eq_getElem (by omega)⟩
  · obtain ⟨rfl, y⟩ := y
    obtain ⟨h1, h2⟩ := h w1 o1 e1
    obtain ⟨d, hd, hr⟩ := reps_get' h2 (y vs h1)
    exact ⟨w1, d, rfl, rfl, o1, Ev.refl w1, hd, hr⟩
theorem sim_itup (h : SimE K Γ xa W te me) : SimI K Γ xa Gr W (iTup K te) (mITup me) := ⟨fun w0 w σ δ R o e n p =>
  h.run w0 w σ δ _ o e n (p.then fun d w1 o1 e1 p1 v r1 => by
    split at p1
    · simp only [Rep, RepC] at r1
      obtain ⟨a, vs, h1, h2, h3, h4⟩ := r1
      exact ⟨a, h1, ⟨vs, sqT_mono o1.same h2⟩, Post.now p1 o1 _ (items_tup h3 (fun w2 o2 g2 => ⟨sqT_mono o2.same (sqT_mono g2.rr h2), Reps.gr h4 g2⟩) (Gr.refl _) o1)⟩
    · exact False.elim p1)⟩
/-- lo, lo + 1, .. -/
def rngD (lo : Int) (n : Nat) : List D := (List.range n).map fun k : Nat => D.int (lo + k)
theorem items_rng {rel : Wd → Wd → Prop} {lo : Int} {n : Nat} (hn : n ≤ sizeLine) : Items K Γ rel w (Itr lo n) (rngD lo n) := by
  have el : (rngD lo n).length = n := by simp [rngD]
  refine ⟨by rw [el]; exact hn, fun w1 i o1 e1 hi => by rw [el] at hi; exact hi, fun w1 i x H' o1 e1 hi y => ?_, fun w1 o1 e1 => by rw [el]; exact Nat.le_refl _⟩
  obtain ⟨rfl, rfl⟩ := y
  rw [el] at hi
  exact ⟨w1, .int (lo + i), rfl, rfl, o1, Ev.refl w1, by simp [rngD, hi], by simp only [Rep, RepC]⟩
def mIRng1 (ml : MA) : MA := fun δ S => bnd (ml δ S) fun ds S => match ds with
  | [.int j] => if j ≤ 16777216 ∧ -16777216 ≤ j then .ok (rngD 0 j.toNat) S else .bad
  | _ => .bad
theorem reps1 {d : D} {vs : List V} (h : Reps K Γ w [d] vs) : ∃ v, vs = [v] ∧ Rep K Γ w d v := by
  obtain ⟨v, ws, rfl, r, r2⟩ := reps_inv h
  simp only [RepsC] at r2
  subst r2
  exact ⟨v, rfl, r⟩
theorem reps2 {d e : D} {vs : List V} (h : Reps K Γ w [d, e] vs) : ∃ v u, vs = [v, u] ∧ Rep K Γ w d v ∧ Rep K Γ w e u := by
  obtain ⟨v, ws, rfl, r, r2⟩ := reps_inv h
  obtain ⟨u, rfl, q⟩ := reps1 r2
  exact ⟨v, u, rfl, r, q⟩
theorem sim_irng1 {n : Nat} (h : SimA K Γ xa W n tl ml) : SimI K Γ xa Gr W (iRng1 tl) (mIRng1 ml) := ⟨fun w0 w σ δ R o e n p =>
  h.run w0 w σ δ _ o e n (p.then fun ds w1 o1 e1 p1 vs r1 => by
    split at p1
    · rename_i j
      obtain ⟨v, rfl, r⟩ := reps1 r1
      rw [rep_int r]
      split at p1
      · rename_i hj
        exact ⟨j, rfl, by omega, by omega, Post.now p1 o1 _ (items_rng (by show j.toNat ≤ 2 ^ 24; omega))⟩
      · exact False.elim p1
    · exact False.elim p1)⟩
def mIRng2 (ml : MA) : MA := fun δ S => bnd (ml δ S) fun ds S => match ds with
  | [.int i, .int j] => if (j ≤ 16777216 ∧ -16777216 ≤ j) ∧ (i ≤ 16777216 ∧ -16777216 ≤ i) ∧ j - i ≤ 16777216 then .ok (rngD i (j - i).toNat) S else .bad
  | _ => .bad
/-- (0, x0), (1, x1), .. -/
def enumD (ds : List D) : List D := ds.mapIdx fun i d => D.tup [.int (i : Nat), d]
def mIEnum (ml : MA) : MA := fun δ S => bnd (ml δ S) fun ds S => match ds with
  | [.lst ds] => .ok (enumD ds) S
  | _ => .bad
theorem items_pairs {rel : Wd → Wd → Prop} {J : It} {ps : List (D × D)} {n : Nat} (hn : ps.length = n) (hl : n ≤ sizeLine)
    (go : ∀ w1 i, Ok K Γ w1 → rel w w1 → i < n → J.go i w1.H) (stop : ∀ w1, Ok K Γ w1 → rel w w1 → J.stop n w1.H)
    (y : ∀ w1 i v H', Ok K Γ w1 → rel w w1 → i < n → J.yld i w1.H v H' → ∃ T x y d e, v = .ref T ∧ w1.H T = none ∧ H' = upd w1.H T (.tup [x, y]) ∧ ps[i]? = some (d, e) ∧ Rep K Γ w1 d x ∧ Rep K Γ w1 e y) :
    Items K Γ rel w J (ps.map fun p => D.tup [p.1, p.2]) := by
  refine ⟨by rw [List.length_map, hn]; exact hl, fun w1 i o1 e1 hi => go w1 i o1 e1 (by rw [List.length_map, hn] at hi; exact hi), fun w1 i v H' o1 e1 hi yy => ?_, fun w1 o1 e1 => by rw [List.length_map, hn]; exact stop w1 o1 e1⟩
  rw [List.length_map, hn] at hi
  obtain ⟨T, x, y', d, e, rfl, hT, rfl, hp, rx, ry⟩ := y w1 i v H' o1 e1 hi yy
  have ev := ev_frz (o := .tup [x, y']) o1 hT
  refine ⟨wFrz w1 T (.tup [x, y']), .tup [d, e], rfl, rfl, ok_frz o1 hT, ev, by rw [List.getElem?_map, hp]; rfl, ?_⟩
  simp only [Rep, RepC]
  exact ⟨T, [x, y'], rfl, SqT.of upd_same, by show 2 ≤ sizeLine; decide, reps_cons (Rep.ev rx ev) (reps_cons (Rep.ev ry ev) reps_nil)⟩
theorem enumD_eq (ds : List D) : enumD ds = (ds.mapIdx fun i d => (D.int (i : Nat), d)).map fun p => D.tup [p.1, p.2] := by
  unfold enumD
  refine List.ext_getElem? fun i => ?_
  rw [List.getElem?_map, List.getElem?_mapIdx, List.getElem?_mapIdx]
  cases ds[i]? <;> rfl
theorem items_enum {rel : Wd → Wd → Prop} {a : Addr} {vs : List V} {ds : List D} (hl : vs.length ≤ sizeLine) (h : ∀ w1, Ok K Γ w1 → rel w w1 → SqL K w1.H a vs ∧ Reps K Γ w1 ds vs) (hw : rel w w) (o : Ok K Γ w) : Items K Γ rel w (Ite K a) (enumD ds) := by
  have el : ds.length = vs.length := reps_len (h w o hw).2
  rw [enumD_eq]
  refine items_pairs (n := ds.length) (by rw [List.length_mapIdx]) (by omega) (fun w1 i o1 e1 hi => ?_) (fun w1 o1 e1 => ⟨vs, (h w1 o1 e1).1, by omega⟩) fun w1 i v H' o1 e1 hi y => ?_
  · exact ⟨vs, _, (h w1 o1 e1).1, List.getElem?_eq_getElem (by omega)⟩
  · obtain ⟨T, x, rfl, hT, rfl, y⟩ := y
    obtain ⟨h1, h2⟩ := h w1 o1 e1
    obtain ⟨d, hd, hr⟩ := reps_get' h2 (y vs h1)
    exact ⟨T, _, x, .int (i : Nat), d, rfl, hT, rfl, by rw [List.getElem?_mapIdx, hd]; rfl, by simp only [Rep, RepC], hr⟩
theorem sim_ienum {n : Nat} (h : SimA K Γ xa W n tl ml) : SimI K Γ xa Gr W (iEnum K tl) (mIEnum ml) := ⟨fun w0 w σ δ R o e n p =>
  h.run w0 w σ δ _ o e n (p.then fun ds w1 o1 e1 p1 vs r1 => by
    split at p1
    · obtain ⟨v, rfl, r⟩ := reps1 r1
      simp only [Rep, RepC] at r
      obtain ⟨a, vs, rfl, h2, h3, h4⟩ := r
      exact ⟨a, vs, rfl, SqL.of (o1.same _ _ h2), Post.now p1 o1 _ (items_enum h3 (fun w2 o2 g2 => ⟨SqL.of (o2.same _ _ (g2.rr _ _ h2)), Reps.gr h4 g2⟩) (Gr.refl _) o1)⟩
    · exact False.elim p1)⟩
def zipD (ds es : List D) : List D := (ds.zip es).map fun p => D.tup [p.1, p.2]
variable {vs : List Nat} {tg : TG} {mg : MG}
def mLoop (mg : MG) (ms : MS) : List D → Env → Sto → Out Fl
  | [], δ, S => .ok (.nx δ) S
  | d :: ds, δ, S => match mg d δ with
    | none => .bad
    | some δ1 => match ms δ1 S with
      | .ok (.nx δ2) S2 => mLoop mg ms ds δ2 S2
      | .ok (.ct δ2) S2 => mLoop mg ms ds δ2 S2
      | .ok (.bk δ2) S2 => .ok (.nx δ2) S2
      | o => o
def mFor (mi : MA) (mg : MG) (ms : MS) : MS := fun δ S => bndS (mi δ S) δ fun ds S => mLoop mg ms ds δ S
theorem sim_for (hi : SimI K Γ xa Gr W wi mi) (hg : SimN K Γ xa vs tg mg) (hb : SimS K Γ xa W ts ms) : SimS K Γ xa W (tFor wi tg ts) (mFor mi mg ms) := ⟨fun w0 w σ δ Dn o e n p =>
  hi.run w0 w σ δ _ o e n (p.then e n fun ds w1 o1 e1 p1 J it => by
    refine ⟨fun i m σ H => m = ds.length - i ∧ i ≤ ds.length ∧ ∃ w' δ', w'.H = H ∧ Ok K Γ w' ∧ Ev w0 w' ∧ Gr w1 w' ∧ EnvOk K Γ xa w0 w' σ δ' ∧ PostS K Γ xa W (mLoop mg ms (ds.drop i) δ' w'.S) w0 w' Dn,
      ⟨_, rfl, Nat.zero_le _, w1, δ, rfl, o1, e.trans e1, Gr.refl _, n.ev e1, p1⟩, ?_⟩
    rintro i m σ' H ⟨rfl, hi, w', δ', rfl, o', e', g', n', p'⟩
    rcases Nat.lt_or_ge i ds.length with hlt | hge
    · refine .inr ⟨it.go w' i o' g' hlt, _, fun _ _ h => h, fun x H' y => ?_⟩
      obtain ⟨w2, d, rfl, hs2, o2, e2, hd, rx⟩ := it.yld w' i x H' o' g' hlt y
      have hdr : ds.drop i = d :: ds.drop (i + 1) := by
        rw [List.drop_eq_getElem_cons hlt]
        congr 1
        exact Option.some.inj ((List.getElem?_eq_getElem hlt).symm.trans hd)
      rw [hdr] at p'
      unfold mLoop at p'
      refine hg.run w0 w2 σ' δ' d x _ o2 (n'.ev e2) rx ?_
      cases zg : mg d δ' with
      | none => rw [zg] at p'; exact p'
      | some δ1 =>
        rw [zg] at p'
        intro σ1 n1 _ _
        refine hb.run w0 w2 σ1 δ1 _ o2 (e'.trans e2) n1 ?_
        have p2 := PostS.gr p' e2.gr
        rw [← hs2] at p2
        dsimp only at p2
        have m1 : ds.length - (i + 1) < ds.length - i := by omega
        have on : ∀ δ2 S2, PostS K Γ xa W (mLoop mg ms (ds.drop (i + 1)) δ2 S2) w0 w2 Dn → ∀ w3 σ3, w3.S = S2 → Ok K Γ w3 → Ev w0 w3 → Gr w2 w3 → EnvOk K Γ xa w0 w3 σ3 δ2 →
            ∃ m', m' < ds.length - i ∧ (m' = ds.length - (i + 1) ∧ i + 1 ≤ ds.length ∧ ∃ w' δ', w'.H = w3.H ∧ Ok K Γ w' ∧ Ev w0 w' ∧ Gr w1 w' ∧ EnvOk K Γ xa w0 w' σ3 δ' ∧ PostS K Γ xa W (mLoop mg ms (ds.drop (i + 1)) δ' w'.S) w0 w' Dn) :=
          fun δ2 S2 pp w3 σ3 hs ho he hgr hn => ⟨_, m1, rfl, hlt, w3, δ2, rfl, ho, he, g'.trans (e2.gr.trans hgr), hn, by rw [hs]; exact PostS.gr pp hgr⟩
        cases zm : ms δ1 w2.S with
        | ok f S2 =>
          rw [zm] at p2
          cases f with
          | nx δ2 => exact on δ2 S2 p2
          | ct δ2 => exact on δ2 S2 p2
          | bk δ2 => exact p2
          | rt d2 => exact p2
          | ex => exact p2
        | ex => rw [zm] at p2; exact p2
        | bad => rw [zm] at p2; exact p2
    · have hi' : i = ds.length := by omega
      subst hi'
      refine .inl ⟨it.stop w' o' g', ?_⟩
      rw [List.drop_length] at p'
      exact p'.nx o' e' n')⟩
def mwipe (δ : Env) : List Nat → Env
  | [] => δ
  | v :: vs => (mwipe δ vs).set v .no
theorem EnvOk.setNo {σ : L2.St} {δ : Env} {i : Nat} {x : Option V} (h : EnvOk K Γ xa w0 w σ δ) : EnvOk K Γ xa w0 w (σ.set i x) (δ.set i .no) := by
  refine ⟨by rw [List.length_set, List.length_set, h.len], fun j x s h1 h2 => ?_, fun j k b c d' e a h1 h2 h3 h4 => ?_⟩
  · rw [List.getElem?_set] at h1 h2
    by_cases q : i = j
    · rw [if_pos q] at h2
      split at h2 <;> cases h2
      trivial
    · rw [if_neg q] at h1 h2
      exact h.ok j x s h1 h2
  · rw [List.getElem?_set] at h1 h2 h3 h4
    by_cases q : i = j
    · rw [if_pos q] at h1; split at h1 <;> cases h1
    · by_cases q2 : i = k
      · rw [if_pos q2] at h2; split at h2 <;> cases h2
      · rw [if_neg q] at h1 h3
        rw [if_neg q2] at h2 h4
        exact h.sep j k b c d' e a h1 h2 h3 h4
theorem EnvOk.wipe {σ : L2.St} {δ : Env} (h : EnvOk K Γ xa w0 w σ δ) : ∀ vs : List Nat, EnvOk K Γ xa w0 w (wipe σ vs) (mwipe δ vs)
  | [] => h
  | v :: vs => (EnvOk.wipe h vs).setNo
theorem wipe_get {σ : L2.St} : ∀ (vs : List Nat) (i : Nat), (wipe σ vs)[i]? = if i ∈ vs then (if i < σ.length then some none else none) else σ[i]?
  | [], i => by simp [wipe]
  | v :: vs, i => by
    unfold wipe
    rw [List.getElem?_set, wipe_length, wipe_get vs i]
    by_cases q : v = i
    · subst q
      rw [if_pos rfl, if_pos List.mem_cons_self]
    · rw [if_neg q]
      by_cases z : i ∈ vs
      · rw [if_pos z, if_pos (List.mem_cons_of_mem _ z)]
      · rw [if_neg z, if_neg (fun y => by rcases List.mem_cons.mp y with y | y; exact q y.symm; exact z y)]
theorem wipe_same {σ σ' : L2.St} {us vs : List Nat} (hl : σ'.length = σ.length) (h : ∀ i, i ∉ us → σ'[i]? = σ[i]?) (hu : ∀ i ∈ us, i ∈ vs) : wipe σ' vs = wipe σ vs := by
  refine List.ext_getElem? fun i => ?_
  rw [wipe_get, wipe_get, hl]
  by_cases z : i ∈ vs
  · rw [if_pos z, if_pos z]
  · rw [if_neg z, if_neg z, h i fun y => z (hu i y)]
theorem wipe_wipe {σ : L2.St} (vs : List Nat) : wipe (wipe σ vs) vs = wipe σ vs := by
  refine List.ext_getElem? fun i => ?_
  rw [wipe_get, wipe_get, wipe_length]
  by_cases z : i ∈ vs
  · rw [if_pos z, if_pos z]
  · rw [if_neg z, if_neg z]
def mLcL (mg : MG) (mt : MT) (me : ME) (δ : Env) : List D → Sto → Out (List D)
  | [], S => .ok [] S
  | d :: ds, S => match mg d δ with
    | none => .bad
    | some δ1 => bnd (noX (mt δ1 S)) fun b S => if b then bnd (noX (me δ1 S)) fun y S => bnd (mLcL mg mt me δ ds S) fun ys S => .ok (y :: ys) S else mLcL mg mt me δ ds S
def mLc (mi : MA) (mg : MG) (mt : MT) (me : ME) (vs : List Nat) : ME := fun δ S => bnd (mi δ S) fun ds S => bnd (mLcL mg mt me (mwipe δ vs) ds S) fun ys S => .ok (.lst ys) S
theorem bnd_assoc {α β γ : Type} (o : Out α) (f : α → Sto → Out β) (g : β → Sto → Out γ) : bnd (bnd o f) g = bnd o fun a S => bnd (f a S) g := by cases o <;> rfl
theorem Post.thenE {α β : Type} {o : Out α} {f : α → Sto → Out β} {ok : β → Wd → Prop} {ok' : α → Wd → Prop} {ex : XP} (h : Post K Γ (bnd o f) w ok ex) (g : ∀ a w', o = .ok a w'.S → Ok K Γ w' → Ev w w' → Post K Γ (f a w'.S) w' ok ex → ok' a w') : Post K Γ o w ok' ex := by
  cases o with
  | ok a S => exact fun w1 hs ho he => g a w1 (by rw [hs]) ho he (by subst hs; exact Post.ev h he)
  | ex c ns ds S => exact h
  | bad => exact h
theorem sim_lc {us : List Nat} (hi : SimI K Γ xa Ev W wi mi) (hg : SimN K Γ xa us tg mg) (ht : SimT K Γ xa noW t mt) (he : SimE K Γ xa noW te me) (hu : ∀ i ∈ us, i ∈ vs := by decide) : SimF K Γ xa W (tLc wi tg t te vs) (mLc mi mg mt me vs) := ⟨fun w0 w σ δ Q o e n p =>
  hi.run w0 w σ δ _ o e n (p.then fun ds w1 o1 e1 p1 J it Dd hD => by
    let okF : D → Wd → Prop := fun d w' => ∀ a, OwnAt K Γ w w' d a → Q (.ref a) w'.H
    refine ⟨fun i m H => m = ds.length - i ∧ i ≤ ds.length ∧ ∃ w' acc, w'.H = H ∧ Ok K Γ w' ∧ Ev w1 w' ∧ OwnAt K Γ w1 w' (.lst acc) Dd ∧ acc.length ≤ i ∧
        Post K Γ (bnd (mLcL mg mt me (mwipe δ vs) (ds.drop i) w'.S) fun ys S => .ok (D.lst (acc ++ ys)) S) w1 okF (XW K Γ W σ), ⟨_, rfl, Nat.zero_le _, wPut w1 Dd (.lst []), [], rfl, ok_put o1 (r_none o1 hD) (not_live o1 hD), ev_put (Ev.refl _) hD, own_new o1 hD ⟨[], upd_same, by decide, reps_nil⟩, Nat.le_refl _, p1⟩, ?_⟩
    rintro i m H ⟨rfl, hi, w', acc, rfl, o', e', oa, hacc, p'⟩
    rcases Nat.lt_or_ge i ds.length with hlt | hge
    · refine .inr ⟨it.go w' i o' e' hlt, _, fun _ h => h, fun x H' y => ?_⟩
      obtain ⟨w2, d, rfl, hs2, o2, e2, hd, rx⟩ := it.yld w' i x H' o' e' hlt y
      have hdr : ds.drop i = d :: ds.drop (i + 1) := by
        rw [List.drop_eq_getElem_cons hlt]
        congr 1
        exact Option.some.inj ((List.getElem?_eq_getElem hlt).symm.trans hd)
      rw [hdr] at p'
      unfold mLcL at p'
      have n2 : EnvOk K Γ xa w0 w2 (wipe σ vs) (mwipe δ vs) := (((n.ev e1).ev e').ev e2).wipe vs
      have ev02 : Ev w0 w2 := ((e.trans e1).trans e').trans e2
      refine hg.run w0 w2 _ _ d x _ o2 n2 rx ?_
      cases zg : mg d (mwipe δ vs) with
      | none => rw [zg] at p'; exact p'
      | some δ1 =>
        rw [zg] at p'
        dsimp only at p'
        rw [← hs2, bnd_assoc] at p'
        intro σ1 n1 hl1 hk1
        refine ⟨(wipe_same hl1 hk1 hu).trans (wipe_wipe vs), ?_⟩
        refine ht.run w0 w2 σ1 δ1 _ o2 ev02 n1 (Post.noX ((Post.ev p' (e'.trans e2)).thenE fun b w3 q3 o3 e3 p3 => ?_))
        have oa3 := (oa.ev e2).ev e3
        have m1 : ds.length - (i + 1) < ds.length - i := by omega
        rw [q3] at p'
        cases b with
        | false =>
          rw [if_neg (by simp)]
          exact ⟨_, m1, rfl, hlt, w3, acc, rfl, o3, (e'.trans e2).trans e3, oa3, by omega, p'⟩
        | true =>
          rw [if_pos rfl]
          have p3' : Post K Γ (bnd (bnd (noX (me δ1 w3.S)) fun y S => bnd (mLcL mg mt me (mwipe δ vs) (ds.drop (i + 1)) S) fun ys S => .ok (y :: ys) S) fun ys S => .ok (D.lst (acc ++ ys)) S) w1 okF (XW K Γ W σ) := p'
          rw [bnd_assoc] at p3'
          refine he.run w0 w3 σ1 δ1 _ o3 (ev02.trans e3) (n1.ev e3) (Post.noX ((Post.ev p3' ((e'.trans e2).trans e3)).thenE fun yd w4 q4 o4 e4 p4 v r4 => ?_))
          rw [q4] at p3'
          have oa4 := oa3.ev e4
          obtain ⟨va, h1, h2, h3⟩ := oa4.at_
          have hal := reps_len h3
          have hlen : va.length < sizeLine := by have := it.len; omega
          refine ⟨va, h1, hlen, _, m1, rfl, hlt, wPut w4 Dd (.lst (va ++ [v])), acc ++ [yd], rfl, ok_put o4 oa4.r oa4.nl, ?_, ?_, by rw [List.length_append]; simp; omega, ?_⟩
          · exact ev_put (((e'.trans e2).trans e3).trans e4) oa4.new
          · exact ⟨oa4.new, oa4.r, oa4.nl, va ++ [v], upd_same, by rw [List.length_append]; simp; omega, reps_app h3 (reps_cons r4 reps_nil)⟩
          · have p5 : Post K Γ (bnd (bnd (mLcL mg mt me (mwipe δ vs) (ds.drop (i + 1)) w4.S) fun ys S => .ok (yd :: ys) S) fun ys S => .ok (D.lst (acc ++ ys)) S) w1 okF (XW K Γ W σ) := p3'
            rw [bnd_assoc] at p5
            have e6 : (fun (ys : List D) (S : Sto) => bnd (.ok (yd :: ys) S) fun ys S => Out.ok (D.lst (acc ++ ys)) S) = fun ys S => Out.ok (D.lst ((acc ++ [yd]) ++ ys)) S := by
              funext ys S
              show Out.ok (D.lst (acc ++ (yd :: ys))) S = _
              rw [List.append_assoc]; rfl
            rw [e6] at p5
            exact p5
    · have hi' : i = ds.length := by omega
      subst hi'
      refine .inl ⟨it.stop w' o' e', ?_⟩
      rw [List.drop_length] at p'
      have p2 : Post K Γ (.ok (D.lst (acc ++ [])) w'.S) w1 okF (XW K Γ W σ) := p'
      rw [List.append_nil] at p2
      exact p2.at rfl o' e' _ (own_back e1 oa))⟩
end
end MR

namespace MR
open PySem PySem.Spec PyProof.Rows L2 TP
section
variable {K : PySem.W.Frag} {Γ : Gm} {xa : XT} {W : WX} {te ta tb to ti tv : TE} {me ma mb mo mk mv : ME} {w w' w0 w1 : Wd} {t u : TT} {mt mu : MT} {ts us : TS} {ms mus : MS} {Dn : Ends} {tl : TA} {ml : MA} {n : Nat}
theorem own_put {d d' : D} {a : Addr} {o : HO} (h : OwnAt K Γ w0 w d a) (at_ : At K Γ (wPut w a o) d' a) : OwnAt K Γ w0 (wPut w a o) d' a := ⟨h.new, h.r, h.nl, at_⟩
theorem EnvOk.put {σ : L2.St} {δ : Env} {i : Nat} {fb : Bool} {d d' : D} {a : Addr} {o : HO} (h : EnvOk K Γ xa w0 w σ δ) (hd : δ[i]? = some (.own fb d)) (hs : σ[i]? = some (some (.ref a))) (oa : OwnAt K Γ w0 w d a) (at_ : At K Γ (wPut w a o) d' a) : EnvOk K Γ xa w0 (wPut w a o) σ (δ.set i (.own fb d')) := by
  have hi := (List.getElem?_eq_some_iff.mp hd).1
  refine ⟨by rw [List.length_set]; exact h.len, fun j x s hx hs' => ?_, fun j k fa fc e f b q1 q2 q3 q4 => ?_⟩
  · rw [List.getElem?_set] at hs'
    by_cases q : i = j
    · subst q
      rw [if_pos rfl, if_pos hi] at hs'
      cases hs'
      rw [hs] at hx
      cases hx
      refine ⟨a, rfl, own_put oa at_, ?_⟩
      obtain ⟨x, hx', a', q1, _, q3⟩ := h.get hd
      rw [hs] at hx'
      cases hx'
      cases q1
      exact q3
    · rw [if_neg q] at hs'
      have z := h.ok j x s hx hs'
      cases s with
      | no => trivial
      | val e => exact z
      | own fe e =>
        obtain ⟨b, q1, q2, q3⟩ := z
        have nb : b ≠ a := fun y => q (h.sep i j fb fe d e a hd hs' hs (by rw [hx, q1, y]))
        refine ⟨b, q1, ⟨q2.new, q2.r, q2.nl, ?_⟩, q3⟩
        exact at_mv (w' := wPut w a o) q2.at_ (fun u hu => by show upd w.H a o b = _; rw [upd_ne nb]; exact hu) (fun _ _ e => e) List.prefix_rfl
      | exn => exact z
  · have own : ∀ (m : Nat) (fg : Bool) (g : D), (δ.set i (Slot.own fb d'))[m]? = some (Slot.own fg g) → ∃ fg' g', δ[m]? = some (Slot.own fg' g') := fun m fg g q => by
      rw [List.getElem?_set] at q
      by_cases z : i = m
      · subst z; exact ⟨fb, d, hd⟩
      · rw [if_neg z] at q; exact ⟨fg, g, q⟩
    obtain ⟨fe, e', z1⟩ := own j fa e q1
    obtain ⟨ff, f', z2⟩ := own k fc f q2
    exact h.sep j k fe ff e' f' b z1 z2 q3 q4
/-- x.append(e) -/
def mAppend (i : Nat) (me : ME) : MS := fun δ S => match δ[i]? with
  | some (.own fb (.lst ds)) => bndS (me δ S) δ fun d S => if ds.length < 16777216 then .ok (.nx (δ.set i (.own fb (.lst (ds ++ [d]))))) S else .bad
  | _ => .bad
theorem tyV_list {H : Hp} {a : Addr} {xs : List V} (h : SqL K H a xs) : tyV K "list" (.ref a) H := .inl ⟨rfl, xs, h⟩
theorem sim_append {i : Nat} (h : SimE K Γ xa W te me) : SimS K Γ xa W (tDrop (tBM K "list" rAppend (tVar i) (tCons te tNil))) (mAppend i me) := ⟨fun w0 w σ δ Dn o e n p => by
  unfold mAppend at p
  split at p
  · rename_i fb ds hd
    obtain ⟨a, hx, oa0⟩ := n.own hd
    obtain ⟨vs0, h20, _, _⟩ := oa0.at_
    refine ⟨_, hx, tyV_list (SqL.of h20), ?_⟩
    refine h.run w0 w σ δ _ o e n (p.then e n fun d w1 o1 e1 p1 v r1 => ?_)
    show rAppend (.ref a) [v] w1.H fun _ H1 => Dn.nx σ H1
    have oa := oa0.ev e1
    obtain ⟨vs, h2, h3, h4⟩ := oa.at_
    split at p1
    · rename_i hl
      have hl' : vs.length < sizeLine := by rw [← reps_len h4]; exact hl
      refine ⟨a, vs, v, rfl, rfl, h2, hl', ?_⟩
      have at' : At K Γ (wPut w1 a (.lst (vs ++ [v]))) (.lst (ds ++ [d])) a := ⟨vs ++ [v], upd_same, by rw [List.length_append]; simp; omega, reps_app h4 (reps_cons r1 reps_nil)⟩
      exact p1 (wPut w1 a (.lst (vs ++ [v]))) σ rfl (ok_put o1 oa.r oa.nl) (ev_put (e.trans e1) oa.new) ⟨fun _ _ z => z, List.prefix_rfl⟩ ((n.ev e1).put hd hx oa at')
    · exact False.elim p1
  · exact False.elim p⟩
/-- x[k] = e -/
def mSetI (i : Nat) (me mk : ME) : MS := fun δ S => match δ[i]? with
  | some (.own fb (.lst ds)) => bndS (me δ S) δ fun d S => bndS (mk δ S) δ fun k S => match k with
    | .int k => match ixN ds.length k with
      | some j => .ok (.nx (δ.set i (.own fb (.lst (ds.set j d))))) S
      | none => .bad
    | _ => .bad
  | _ => .bad
theorem cel_at {m : Nat} {d : D} {v : V} (o : Ok K Γ w) (h : w.S[m]? = some (some d)) (r : Rep K Γ w (.ref m) v) : ∃ a, v = .ref a ∧ w.ρ[m]? = some a ∧ At K Γ w d a := by
  simp only [Rep, RepC] at r
  obtain ⟨a, h1, h2⟩ := r
  obtain ⟨b, h3, _, h4⟩ := o.cell m d h
  rw [h1] at h3
  cases h3
  exact ⟨a, h2, h1, h4⟩
/-- o[k] = e, o a list in the store -/
def mSetC (me mo mk : ME) : MS := fun δ S => bndS (me δ S) δ fun d S => bndS (mo δ S) δ fun x S => bndS (mk δ S) δ fun k S => match x, k with
  | .ref m, .int k => match S[m]? with
    | some (some (.lst ds)) => match ixN ds.length k with
      | some j => .ok (.nx δ) (S.set m (some (.lst (ds.set j d))))
      | none => .bad
    | _ => .bad
  | _, _ => .bad
theorem sim_setC (h : SimE K Γ xa W te me) (ho : SimE K Γ xa W to mo) (g : SimE K Γ xa W ti mk) : SimS K Γ xa W (tAsg te (gSub to ti rSetL)) (mSetC me mo mk) := ⟨fun w0 w σ δ Dn o e n p => by
  refine h.run w0 w σ δ _ o e n (p.then e n fun d w1 o1 e1 p1 v r1 => ?_)
  refine ho.run w0 w1 σ δ _ o1 (e.trans e1) (n.ev e1) (p1.then (e.trans e1) (n.ev e1) fun x w2 o2 e2 p2 u r2 => ?_)
  have e12 := e1.trans e2
  refine g.run w0 w2 σ δ _ o2 (e.trans e12) (n.ev e12) (p2.then (e.trans e12) (n.ev e12) fun k w3 o3 e3 p3 z r3 => ?_)
  have e13 := e12.trans e3
  split at p3
  · rename_i m kk
    split at p3
    · rename_i ds hm
      obtain ⟨a, rfl, ha, vs, h2, h3, h4⟩ := cel_at o3 hm (Rep.ev r2 e3)
      split at p3
      · rename_i j hj
        rw [rep_int r3]
        refine ⟨a, vs, kk, j, rfl, rfl, h2, by rw [← reps_len h4]; exact hj, ?_⟩
        have r1' : Rep K Γ w3 d v := Rep.ev r1 (e2.trans e3)
        have at' : At K Γ (wCel w3 m a (.lst (vs.set j v)) (some (.lst (ds.set j d)))) (.lst (ds.set j d)) a := ⟨vs.set j v, upd_same, by rw [List.length_set]; exact h3, reps_set j h4 r1'⟩
        have ev := ev_cel (o := .lst (vs.set j v)) (d := some (.lst (ds.set j d))) o3 hm ha
        exact p3 _ σ rfl (ok_cel o3 hm ha at') ((e.trans e13).trans ev) ev.gr ((n.ev e13).ev ev)
      · exact False.elim p3
    · exact False.elim p3
  · exact False.elim p3⟩
theorem lookup_zip {f : Str} : ∀ {ns : List Str} {ds : List D} {vs : List V} {d : D}, Reps K Γ w ds vs → (ns.zip ds).lookup f = some d → ∃ v, (ns.zip vs).lookup f = some v ∧ Rep K Γ w d v
  | [], ds, vs, d, _, e => by simp at e
  | m :: ns, [], vs, d, _, e => by simp at e
  | m :: ns, d' :: ds, vs, d, r, e => by
    obtain ⟨v, ws, rfl, r1, r2⟩ := reps_inv r
    rw [List.zip_cons_cons, List.lookup_cons] at e ⊢
    cases q : f == m with
    | true => rw [q] at e; cases e; exact ⟨v, rfl, r1⟩
    | false => rw [q] at e; exact lookup_zip r2 e
def mGetF (c : Nat) (f : Str) (ma : ME) : ME := fun δ S => bnd (ma δ S) fun d S => match objOf S d with
  | some (c', ns, ds) => if c' = c then match (ns.zip ds).lookup f with
      | some x => .ok x S
      | none => .bad
    else .bad
  | none => .bad
def putN (f : Str) : List Str → List Str
  | [] => [f]
  | g :: r => if g = f then g :: r else g :: putN f r
def putX {α : Type} (f : Str) (y : α) : List Str → List α → List α
  | [], _ => [y]
  | g :: r, x :: xs => if g = f then y :: xs else x :: putX f y r xs
  | _ :: _, [] => []
theorem putF_zip {f : Str} {y : V} : ∀ {ns : List Str} {vs : List V}, ns.length = vs.length → putF f y (ns.zip vs) = (putN f ns).zip (putX f y ns vs) ∧ (putN f ns).length = (putX f y ns vs).length
  | [], [], _ => ⟨rfl, rfl⟩
  | g :: ns, x :: vs, h => by
    have ih := putF_zip (f := f) (y := y) (ns := ns) (vs := vs) (by simpa using h)
    rw [List.zip_cons_cons]
    unfold putF putN putX
    by_cases q : g = f
    · rw [if_pos q, if_pos q, if_pos q]
      exact ⟨rfl, by simpa using h⟩
    · rw [if_neg q, if_neg q, if_neg q]
      exact ⟨by rw [List.zip_cons_cons, ih.1], by rw [List.length_cons, List.length_cons, ih.2]⟩
theorem putX_reps {f : Str} {d : D} {v : V} (rv : Rep K Γ w d v) : ∀ {ns : List Str} {ds : List D} {vs : List V}, ns.length = vs.length → Reps K Γ w ds vs → Reps K Γ w (putX f d ns ds) (putX f v ns vs)
  | [], [], [], _, _ => reps_cons rv reps_nil
  | [], d' :: ds, [], _, r => by obtain ⟨_, _, q, _⟩ := reps_inv r; cases q
  | g :: ns, ds, x :: vs, h, r => by
    cases ds with
    | nil => simp only [Reps, RepsC] at r; cases r
    | cons d' ds =>
      obtain ⟨_, _, q, r1, r2⟩ := reps_inv r
      cases q
      unfold putX
      by_cases z : g = f
      · rw [if_pos z, if_pos z]; exact reps_cons rv r2
      · rw [if_neg z, if_neg z]; exact reps_cons r1 (putX_reps rv (by simpa using h) r2)
/-- self.f = e, while self is being made -/
def mSetFO (i c : Nat) (f : Str) (mv : ME) : MS := fun δ S => match δ[i]? with
  | some (.own fb (.obj c' ns ds)) => bndS (mv δ S) δ fun d S => if c' = c ∧ ns.length < 1000 then .ok (.nx (δ.set i (.own fb (.obj c (putN f ns) (putX f d ns ds))))) S else .bad
  | _ => .bad
theorem sim_setFO {i c : Nat} {C : Addr} {f : Str} (hc : Γ c = C) (h : SimE K Γ xa W tv mv) : SimS K Γ xa W (tSetF C f (tVar i) tv) (mSetFO i c f mv) := ⟨fun w0 w σ δ Dn o e n p => by
  unfold mSetFO at p
  split at p
  · rename_i fb c' ns ds hd
    obtain ⟨a, hx, oa0⟩ := n.own hd
    refine h.run w0 w σ δ _ o e n (p.then e n fun d w1 o1 e1 p1 v r1 => ?_)
    refine ⟨_, hx, ?_⟩
    have oa := oa0.ev e1
    obtain ⟨dx, vs, h2, h3, h4⟩ := oa.at_
    split at p1
    · rename_i z
      obtain ⟨rfl, hl⟩ := z
      rw [hc] at h2
      refine ⟨a, dx, _, rfl, h2, by rw [List.length_zip]; omega, ?_⟩
      obtain ⟨z1, z2⟩ := putF_zip (f := f) (y := v) h3
      have at' : At K Γ (wPut w1 a (.ins C dx (putF f v (ns.zip vs)))) (.obj c' (putN f ns) (putX f d ns ds)) a := ⟨dx, putX f v ns vs, by rw [hc, ← z1]; exact upd_same, z2, putX_reps (w := wPut w1 a (.ins C dx (putF f v (ns.zip vs)))) r1 h3 h4⟩
      exact p1 (wPut w1 a (.ins C dx (putF f v (ns.zip vs)))) σ rfl (ok_put o1 oa.r oa.nl) (ev_put (e.trans e1) oa.new) ⟨fun _ _ z => z, List.prefix_rfl⟩ ((n.ev e1).put hd hx oa at')
    · exact False.elim p1
  · exact False.elim p⟩
end
end MR

namespace MR
open PySem PySem.Spec PyProof.Rows L2 TP
abbrev MF := List D → Sto → Out D
section
variable (K : PySem.W.Frag) (Γ : Gm)
/-- an error as it leaves a def -/
def XE' (E : XK) : XP := fun w c ns ds => ∀ d, XD K Γ w d ns ds → E (.ref (Γ c)) d w.H
/-- the promise of a def whose mirror is m, of n parameters -/
def spM (n : Nat) (m : MF) : Sp := fun vs H Q E => ∃ (w : Wd) (ds : List D), w.H = H ∧ Ok K Γ w ∧ Reps K Γ w ds vs ∧ ds.length = n ∧ Post K Γ (m ds w.S) w (fun d w' => ∀ v, Rep K Γ w' d v → Q v w'.H) (XE' K Γ E)
abbrev MI := List D → Sto → Out (List Str × List D)
/-- the promise of an __init__ of a class whose things never change once they are made; n: without self -/
def spI (c n : Nat) (m : MI) : Sp := fun vs H Q E => ∃ (x : Addr) (us : List V) (w0 w : Wd) (ds : List D), vs = .ref x :: us ∧ w.H = H ∧ Ok K Γ w ∧ Ev w0 w ∧ OwnAt K Γ w0 w (.obj c [] []) x ∧ Reps K Γ w ds us ∧ ds.length = n ∧
  match m ds w.S with
  | .ok p S => ∀ w', w'.S = S → Ok K Γ w' → Ev w0 w' → Gr w w' → OwnAt K Γ w0 w' (.obj c p.1 p.2) x → Q .non w'.H
  | .ex c' ns ds S => ∀ w', w'.S = S → Ok K Γ w' → Ev w0 w' → Gr w w' → XE' K Γ E w' c' ns ds
  | .bad => False
end
section
variable {K : PySem.W.Frag} {Γ : Gm} {xa : XT} {W : WX} {te ta tb to ti tv : TE} {me ma mb mo mk mv : ME} {w w' w0 w1 : Wd} {t u : TT} {mt mu : MT} {ts us : TS} {ms mus : MS} {Dn : Ends} {tl : TA} {ml : MA} {n : Nat} {m : MF}
theorem spM_len {vs : List V} {H : Hp} {Q : VK} {E : XK} (h : spM K Γ n m vs H Q E) : vs.length = n := by
  obtain ⟨w, ds, _, _, h3, h4, _⟩ := h
  rw [← reps_len h3]; exact h4
def mCall (n : Nat) (m : MF) (ml : MA) : ME := fun δ S => bnd (ml δ S) fun ds S => m ds S
theorem sim_call (h : SimA K Γ xa W n tl ml) : SimE K Γ xa W (tCallZ (spM K Γ n m) W tl) (mCall n m ml) := ⟨fun w0 w σ δ Q o e nn p =>
  h.run w0 w σ δ _ o e nn ((post_len (p.then (ok' := fun ds w1 => Ok K Γ w1 ∧ Post K Γ (m ds w1.S) w1 (fun d w' => ∀ v, Rep K Γ w' d v → Q v w'.H) (XW K Γ W σ)) fun ds w1 o1 e1 p1 => ⟨o1, p1⟩)).mono (fun ds w1 o1 e1 q vs rs => by
    obtain ⟨⟨S, hS⟩, _, p1⟩ := q
    exact ⟨w1, ds, rfl, o1, rs, h.len _ _ _ _ hS, p1⟩) fun _ _ _ _ _ _ x => x)⟩
/-- an argument list whose length is not written -/
structure SimAs (K : PySem.W.Frag) (Γ : Gm) (xa : XT) (W : WX) (ta : TA) (ma : MA) : Prop where
  run : ∀ (w0 w : Wd) (σ : L2.St) (δ : Env) (Q : List V → Hp → Prop), Ok K Γ w → Ev w0 w → EnvOk K Γ xa w0 w σ δ → Post K Γ (ma δ w.S) w (fun ds w' => ∀ vs, Reps K Γ w' ds vs → Q vs w'.H) (XW K Γ W σ) → ta σ w.H Q
/-- o.m(..) -/
def mMeth (c : Nat) (f : Str) (n : Nat) (m : MF) (ma : ME) (ml : MA) : ME := fun δ S => bnd (ma δ S) fun d S => match objOf S d with
  | some (c', ns, ds) => if c' = c ∧ (ns.zip ds).lookup f = none then bnd (ml δ S) fun as S => m (d :: as) S else .bad
  | none => .bad
/-- C(..): a thing that never changes once it is made -/
def mNew (c : Nat) (m : MI) (ml : MA) (dds : List D) : ME := fun δ S => bnd (ml δ S) fun ds S => bnd (m (ds ++ dds) S) fun p S => .ok (.obj c p.1 p.2) S
def mRaise (c : Nat) (f : Str) (ml : MA) : MS := fun δ S => bndS (ml δ S) δ fun ds S => .ok (.ex c [f] ds δ) S
theorem sim_raise {c : Nat} {C : Addr} {f : Str} (hc : Γ c = C) (h : SimA K Γ xa W 1 tl ml) : SimS K Γ xa W (tRaise C f W tl) (mRaise c f ml) := ⟨fun w0 w σ δ Dn o e n p =>
  h.run w0 w σ δ _ o e n ((post_len (p.then e n (ok := fun ds w1 => PostS K Γ xa W (.ok (.ex c [f] ds δ) w1.S) w0 w1 Dn) fun ds w1 o1 e1 p1 => p1)).mono (fun ds w1 o1 e1 q vs rs => by
    obtain ⟨⟨S, hS⟩, p1⟩ := q
    have hl := h.len _ _ _ _ hS
    match ds, hl with
    | [d], _ =>
      obtain ⟨v, rfl, r⟩ := reps1 rs
      refine ⟨v, rfl, fun dd hdd => ?_⟩
      have ev := ev_frz (o := .xd [(f, v)]) o1 hdd
      have := p1 (wFrz w1 dd (.xd [(f, v)])) σ rfl (ok_frz o1 hdd) ((e.trans e1).trans ev) ev.gr (((n.ev e1).ev ev)) (some dd) (.inl ⟨dd, [v], rfl, upd_same, rfl, reps_cons (Rep.ev r ev) reps_nil⟩)
      rw [hc] at this
      exact this) fun _ _ _ _ _ _ x => x)⟩
def unX (δ : Env) : Env := δ.map fun s => match s with
  | .exn _ _ _ => .no
  | s => s
theorem EnvOk.unX {xb : XT} {σ : L2.St} {δ : Env} (h : EnvOk K Γ xa w0 w σ δ) (hs : xa.s = xb.s) : EnvOk K Γ xb w0 w σ (MR.unX δ) := by
  have get : ∀ {j : Nat} {s : Slot}, (MR.unX δ)[j]? = some s → ∃ s', δ[j]? = some s' ∧ s = (match s' with | .exn _ _ _ => .no | s => s) := fun {j s} q => by
    unfold MR.unX at q
    rw [List.getElem?_map] at q
    cases z : δ[j]? with
    | none => rw [z] at q; cases q
    | some s' => rw [z] at q; exact ⟨s', rfl, (Option.some.inj q).symm⟩
  refine ⟨by unfold MR.unX; rw [List.length_map]; exact h.len, fun j x s hx hs' => ?_, fun j k fa fb d e a q1 q2 q3 q4 => ?_⟩
  · obtain ⟨s', q1, q2⟩ := get hs'
    have z := h.ok j x s' hx q1
    cases s' with
    | no => rw [q2]; trivial
    | val d => rw [q2]; exact z
    | own b d => rw [q2]; obtain ⟨a, y1, y2, y3⟩ := z; exact ⟨a, y1, y2, fun y => (y3 y).trans hs⟩
    | exn => rw [q2]; trivial
  · obtain ⟨s1, z1, y1⟩ := get q1
    obtain ⟨s2, z2, y2⟩ := get q2
    cases s1 <;> cases y1
    cases s2 <;> cases y2
    exact h.sep j k _ _ _ _ a z1 z2 q3 q4
theorem EnvOk.setX {σ : L2.St} {δ : Env} {i : Nat} {c : Nat} {ns : List Str} {ds : List D} {x : Option V} (h : EnvOk K Γ xa w0 w σ δ) (r : SlotOk K Γ xa w0 w x (.exn c ns ds)) : EnvOk K Γ xa w0 w (σ.set i x) (δ.set i (.exn c ns ds)) := by
  refine ⟨by rw [List.length_set, List.length_set, h.len], fun j y s h1 h2 => ?_, fun j k b c d' e a h1 h2 h3 h4 => ?_⟩
  · rw [List.getElem?_set] at h1 h2
    by_cases q : i = j
    · rw [if_pos q] at h1 h2
      split at h1 <;> cases h1
      split at h2 <;> cases h2
      exact r
    · rw [if_neg q] at h1 h2
      exact h.ok j y s h1 h2
  · rw [List.getElem?_set] at h1 h2 h3 h4
    by_cases q : i = j
    · rw [if_pos q] at h1; split at h1 <;> cases h1
    · by_cases q2 : i = k
      · rw [if_pos q2] at h2; split at h2 <;> cases h2
      · rw [if_neg q] at h1 h3
        rw [if_neg q2] at h2 h4
        exact h.sep j k b c d' e a h1 h2 h3 h4
/-- behind a suite, its name is unset -/
def offX (i : Nat) (o : Out Fl) : Out Fl := match o with
  | .ok (.nx δ) S => .ok (.nx (unX (δ.set i .no))) S
  | .ok (.rt d) S => .ok (.rt d) S
  | .ok (.bk δ) S => .ok (.bk (unX (δ.set i .no))) S
  | .ok (.ct δ) S => .ok (.ct (unX (δ.set i .no))) S
  | _ => .bad
/-- try: ms except .. as (slot i): tab tells which classes are caught; mh the suite -/
def mTry (ms : MS) (tab : List (Nat × Bool)) (i : Nat) (mh : MS) : MS := fun δ S => match ms δ S with
  | .ok (.ex c ns ds δ1) S1 => match tab.lookup c with
    | some true => offX i (mh ((unX δ1).set i (.exn c ns ds)) S1)
    | some false => .ok (.ex c ns ds δ1) S1
    | none => .bad
  | o => o
theorem lookup_mem {tab : List (Nat × Bool)} {c : Nat} {b : Bool} (h : tab.lookup c = some b) : (c, b) ∈ tab := by
  induction tab with
  | nil => cases h
  | cons p r ih =>
    obtain ⟨k, x⟩ := p
    rw [List.lookup_cons] at h
    cases q : c == k with
    | true => rw [q] at h; cases h; rw [beq_iff_eq.mp q]; exact List.mem_cons_self
    | false => rw [q] at h; exact List.mem_cons_of_mem _ (ih h)
theorem sim_try {tbody : WX → TS} {i : Nat} {C : Value} {tsu : Addr → Value → Option Addr → TS} {tab : List (Nat × Bool)} {mh : MS} (hb : ∀ W1, SimS K Γ xa W1 (tbody W1) ms) (hs : ∀ a cls d, SimS K Γ ⟨a, cls, d, xa.s⟩ noW (tsu a cls d) mh)
    (ht : ∀ p ∈ tab, PySem.W.exmOne K (.ref (Γ p.1)) C = some p.2) : SimS K Γ xa W (tTry tbody fun D => wAs K C i tsu W D) (mTry ms tab i mh) := ⟨fun w0 w σ δ Dn o e n p => by
  show tbody (wAs K C i tsu W Dn) Dn σ w.H
  refine (hb _).run w0 w σ δ _ o e n ?_
  unfold mTry at p
  cases z : ms δ w.S with
  | ex => rw [z] at p; exact p
  | bad => rw [z] at p; exact p
  | ok f S =>
    rw [z] at p
    cases f with
    | nx δ' => exact p
    | rt d => exact p
    | bk δ' => exact p
    | ct δ' => exact p
    | ex c ns ds δ1 =>
      intro w' σ' hs' ho he hg hn dx hx
      dsimp only at p
      cases q : tab.lookup c with
      | none => rw [q] at p; exact False.elim p
      | some b =>
        rw [q] at p
        refine ⟨b, ht (c, b) (lookup_mem q), fun hbt a ha => ?_, fun hbf => ?_⟩
        · subst hbt
          have hn2 : EnvOk K Γ ⟨a, .ref (Γ c), dx, xa.s⟩ w0 w' (σ'.set i (some (.ref a))) ((unX δ1).set i (.exn c ns ds)) := EnvOk.setX (EnvOk.unX (xb := ⟨a, .ref (Γ c), dx, xa.s⟩) hn rfl) ⟨rfl, rfl, hx⟩
          refine (hs a (.ref (Γ c)) dx).run w0 w' _ _ _ ho he hn2 ?_
          have p2 : PostS K Γ xa W (offX i (mh ((unX δ1).set i (.exn c ns ds)) S)) w0 w' Dn := PostS.gr p hg
          rw [← hs'] at p2
          cases y : mh ((unX δ1).set i (.exn c ns ds)) w'.S with
          | ex => rw [y] at p2; exact p2
          | bad => rw [y] at p2; exact p2
          | ok f2 S2 =>
            rw [y] at p2
            cases f2 with
            | nx δ2 => exact fun w3 σ3 h1 h2 h3 h4 h5 => p2 w3 _ h1 h2 h3 h4 (h5.setNo.unX rfl)
            | bk δ2 => exact fun w3 σ3 h1 h2 h3 h4 h5 => p2 w3 _ h1 h2 h3 h4 (h5.setNo.unX rfl)
            | ct δ2 => exact fun w3 σ3 h1 h2 h3 h4 h5 => p2 w3 _ h1 h2 h3 h4 (h5.setNo.unX rfl)
            | rt d2 => exact fun w3 v3 h1 h2 h3 h4 h5 => p2 w3 v3 h1 h2 h3 h4 h5
            | ex => exact False.elim p2
        · subst hbf
          exact p w' σ' hs' ho he hg hn dx hx⟩
/-- e.f, e the error that is handled -/
def mXf (i c : Nat) (f : Str) : ME := fun δ S => match δ[i]? with
  | some (.exn c' ns ds) => if c' = c then match (ns.zip ds).lookup f with
      | some x => .ok x S
      | none => .bad
    else .bad
  | _ => .bad
theorem sim_xf {i c : Nat} {C : Addr} {f : Str} (hc : Γ c = C) : SimE K Γ xa W (tXf xa.a xa.cls xa.d C f (tVar i)) (mXf i c f) := ⟨fun w0 w σ δ Q o e n p => by
  unfold mXf at p
  split at p
  · rename_i c' ns ds hd
    obtain ⟨x, hx, rfl, h2, hX⟩ := n.get hd
    split at p
    · rename_i z
      split at p
      · rename_i y l
        obtain ⟨dd, vs, h3, h4, h5, h6⟩ : ∃ dd vs, xa.d = some dd ∧ w.R dd = some (.xd (ns.zip vs)) ∧ ns.length = vs.length ∧ Reps K Γ w ds vs := by
          rcases hX with h | ⟨_, e, _⟩
          · exact h
          · subst e; cases l
        obtain ⟨u, l2, r2⟩ := lookup_zip h6 l
        exact ⟨_, hx, rfl, by rw [h2, z, hc], dd, _, u, h3, o.same _ _ h4, l2, Post.now p o u r2⟩
      · exact False.elim p
    · exact False.elim p
  · exact False.elim p⟩
def fin (o : Out Fl) : Out D := match o with
  | .ok (.nx _) S => .ok .non S
  | .ok (.rt d) S => .ok d S
  | .ok (.ex c ns ds _) S => .ex c ns ds S
  | _ => .bad
def startD (N : Nat) (ds : List D) : Env := ds.map Slot.val ++ List.replicate (N - ds.length) .no
def mRun (N : Nat) (ms : MS) : MF := fun ds S => fin (ms (startD N ds) S)
theorem startD_ok {N : List Str} {ds : List D} {vs : List V} (r : Reps K Γ w ds vs) : EnvOk K Γ xa w0 w (start N vs) (startD N.length ds) := by
  have hl := reps_len r
  refine ⟨by simp [L2.start, startD, hl], fun i x s h1 h2 => ?_, fun i j b c d e a h1 _ _ _ => ?_⟩
  · unfold L2.start at h1
    unfold startD at h2
    rcases Nat.lt_or_ge i ds.length with q | q
    · rw [List.getElem?_append_left (by rw [List.length_map]; omega), List.getElem?_map] at h1
      rw [List.getElem?_append_left (by rw [List.length_map]; exact q), List.getElem?_map] at h2
      cases z : ds[i]? with
      | none => rw [z] at h2; cases h2
      | some d =>
        rw [z] at h2
        cases h2
        obtain ⟨v, hv, rv⟩ := reps_get r z
        rw [hv] at h1
        cases h1
        exact ⟨v, rfl, rv⟩
    · rw [List.getElem?_append_right (by rw [List.length_map]; exact q)] at h2
      rw [List.getElem?_replicate] at h2
      split at h2 <;> cases h2
      trivial
  · unfold startD at h1
    rcases Nat.lt_or_ge i ds.length with q | q
    · rw [List.getElem?_append_left (by rw [List.length_map]; exact q), List.getElem?_map] at h1
      cases z : ds[i]? with
      | none => rw [z] at h1; cases h1
      | some d => rw [z] at h1; cases h1
    · rw [List.getElem?_append_right (by rw [List.length_map]; exact q), List.getElem?_replicate] at h1
      split at h1 <;> cases h1
theorem spM_run {N : List Str} {ts : TS} {E : XK} {vs : List V} {H : Hp} {Q : VK} (hb : SimS K Γ xa (wOut E) ts ms) (h : spM K Γ n (mRun N.length ms) vs H Q E) : ts { nx := fun _ H' => Q .non H', rt := Q } (start N vs) H := by
  obtain ⟨w, ds, rfl, o, r, hn, p⟩ := h
  refine hb.run w w _ _ _ o (Ev.refl w) (startD_ok r) ?_
  unfold mRun fin at p
  cases z : ms (startD N.length ds) w.S with
  | ex => rw [z] at p; exact False.elim p
  | bad => rw [z] at p; exact False.elim p
  | ok f S =>
    rw [z] at p
    cases f with
    | nx δ => exact fun w' σ hs ho he hg hn => p w' hs ho he _ rfl
    | rt d => exact fun w' v hs ho he hg rv => p w' hs ho he v rv
    | bk => exact False.elim p
    | ct => exact False.elim p
    | ex c ns es δ => exact fun w' σ hs ho he hg hn dx hx => p w' hs ho he dx hx
def finI (c : Nat) (o : Out Fl) : Out (List Str × List D) := match o with
  | .ok (.nx δ) S => match δ with
    | .own true (.obj c' ns ds) :: _ => if c' = c then .ok (ns, ds) S else .bad
    | _ => .bad
  | .ok (.ex c ns ds _) S => .ex c ns ds S
  | _ => .bad
/-- an __init__ by its own road -/
def mRunI (N c : Nat) (ms : MS) : MI := fun ds S => finI c (ms (.own true (.obj c [] []) :: startD (N - 1) ds) S)
theorem EnvOk.consOwn {σ : L2.St} {δ : Env} {d : D} {a : Addr} (h : EnvOk K Γ xa w0 w σ δ) (r : OwnAt K Γ w0 w d a) (ha : a = xa.s) (no : ∀ (j : Nat) (f : Bool) (e : D), δ[j]? ≠ some (Slot.own f e)) : EnvOk K Γ xa w0 w (some (V.ref a) :: σ) (Slot.own true d :: δ) := by
  refine ⟨by rw [List.length_cons, List.length_cons, h.len], fun i x s h1 h2 => ?_, fun i j fb fc e f b h1 h2 _ _ => ?_⟩
  · cases i with
    | zero => cases h1; cases h2; exact ⟨a, rfl, r, fun _ => ha⟩
    | succ i => exact h.ok i x s (by simpa using h1) (by simpa using h2)
  · cases i with
    | zero =>
      cases j with
      | zero => rfl
      | succ j => exact absurd (by simpa using h2) (no j fc f)
    | succ i => exact absurd (by simpa using h1) (no i fb e)
theorem startD_no {N : Nat} {ds : List D} (j : Nat) (f : Bool) (e : D) : (startD N ds)[j]? ≠ some (Slot.own f e) := fun h1 => by
  unfold startD at h1
  rcases Nat.lt_or_ge j ds.length with q | q
  · rw [List.getElem?_append_left (by rw [List.length_map]; exact q), List.getElem?_map] at h1
    cases z : ds[j]? with
    | none => rw [z] at h1; cases h1
    | some d => rw [z] at h1; cases h1
  · rw [List.getElem?_append_right (by rw [List.length_map]; exact q), List.getElem?_replicate] at h1
    split at h1 <;> cases h1
theorem spI_run {N : List Str} {x0 : Str} {c : Nat} {ts : TS} {E : XK} {vs : List V} {H : Hp} {Q : VK} (hb : ∀ xa, SimS K Γ xa (wOut E) ts ms) (h : spI K Γ c n (mRunI (x0 :: N).length c ms) vs H Q E) : ts { nx := fun _ H' => Q .non H', rt := Q } (L2.start (x0 :: N) vs) H := by
  obtain ⟨x, us, w0, w, ds, rfl, rfl, o, e, oa, r, hn, p⟩ := h
  have es : L2.start (x0 :: N) (V.ref x :: us) = some (V.ref x) :: L2.start N us := by
    unfold L2.start
    rw [List.map_cons, List.length_cons, List.length_cons, Nat.add_sub_add_right]
    rfl
  rw [es]
  refine (hb ⟨0, .none, none, x⟩).run w0 w _ (.own true (.obj c [] []) :: startD N.length ds) _ o e ((startD_ok r).consOwn oa rfl startD_no) ?_
  unfold mRunI finI at p
  rw [show (x0 :: N).length - 1 = N.length from rfl] at p
  cases z : ms (.own true (.obj c [] []) :: startD N.length ds) w.S with
  | ex => rw [z] at p; exact False.elim p
  | bad => rw [z] at p; exact False.elim p
  | ok f S =>
    rw [z] at p
    cases f with
    | nx δ =>
      intro w' σ hs ho he hg hn
      dsimp only at p
      match δ, hn, p with
      | Slot.own true (.obj c' ns es) :: δr, hn, p =>
        dsimp only at p
        by_cases zc : c' = c
        · rw [if_pos zc] at p
          subst zc
          obtain ⟨y, h1, a, rfl, h2, h3⟩ := hn.get (i := 0) (s := .own true (.obj c' ns es)) rfl
          have ea : a = x := h3 rfl
          subst ea
          exact p w' hs ho he hg h2
        · rw [if_neg zc] at p; exact False.elim p
    | rt d => exact False.elim p
    | bk => exact False.elim p
    | ct => exact False.elim p
    | ex c ns es δ => exact fun w' σ hs ho he hg hn dx hx => p w' hs ho he hg dx hx
end
end MR

namespace MR
open PySem PySem.Spec PyProof.Rows L2 TP
section
variable {K : PySem.W.Frag} {Γ : Gm} {w w' : Wd}
def opI (C : Int → Int → Bool) (f : Int → Int → D) : D → D → Sto → Out D := fun d e S => match d, e with
  | .int i, .int j => if C i j then .ok (f i j) S else .bad
  | _, _ => .bad
def dv : D → V
  | .int i => .int i
  | .bl b => .bl b
  | _ => .non
def sc : D → Bool
  | .int _ => true
  | .bl _ => true
  | .non => true
  | _ => false
theorem rep_dv {d : D} (h : sc d = true) : Rep K Γ w d (dv d) := by cases d <;> first | (simp only [Rep, RepC, dv]; done) | (exact absurd h (by simp [sc]))
theorem om_int {C : Int → Int → Bool} {Cp : Int → Int → Prop} {f : Int → Int → D} {g : Int → Int → V} (hC : ∀ i j, C i j = true → Cp i j) (hf : ∀ i j, sc (f i j) = true ∧ dv (f i j) = g i j) : OpM K Γ (rI Cp g) (opI C f) := ⟨fun w d e x y Q ex o hx hy p => by
  unfold opI at p
  split at p
  · rename_i i j
    split at p
    · rename_i c
      refine ⟨i, j, pk_int hx, pk_int hy, hC i j c, ?_⟩
      rw [← (hf i j).2]
      exact Post.now p o _ (rep_dv (hf i j).1)
    · exact False.elim p
  · exact False.elim p⟩
theorem om_int0 {f : Int → Int → D} {g : Int → Int → V} (hf : ∀ i j, sc (f i j) = true ∧ dv (f i j) = g i j) : OpM K Γ (rI0 g) (opI (fun _ _ => true) f) := ⟨fun w d e x y Q ex o hx hy p => by
  obtain ⟨i, j, h1, h2, _, q⟩ := (om_int (Cp := fun _ _ => True) (fun _ _ _ => trivial) hf).run w d e x y Q ex o hx hy p
  exact ⟨i, j, h1, h2, q⟩⟩
abbrev opMinus := opI (fun _ _ => true) fun i j => .int (i - j)
abbrev opRest := opI (fun _ j => decide (0 < j)) fun i j => .int (i % j)
abbrev opQuot := opI (fun _ j => decide (0 < j) && decide (j < 18446744073709551616)) fun i j => .int (i / j)
abbrev opPow := opI (fun i j => decide (0 ≤ j) && decide (j ≤ 1000) && decide (-1000 ≤ i) && decide (i ≤ 1000)) fun i j => .int (i ^ j.toNat)
abbrev opLess := opI (fun _ _ => true) fun i j => .bl (decide (i < j))
abbrev opLeq := opI (fun _ _ => true) fun i j => .bl (decide (i ≤ j))
abbrev opMore := opI (fun _ _ => true) fun i j => .bl (decide (j < i))
abbrev opGeq := opI (fun _ _ => true) fun i j => .bl (decide (j ≤ i))
theorem om_minus : OpM K Γ rMinus opMinus := om_int0 fun _ _ => ⟨rfl, rfl⟩
theorem om_rest : OpM K Γ rRest opRest := om_int (fun _ _ h => of_decide_eq_true h) fun _ _ => ⟨rfl, rfl⟩
theorem om_quot : OpM K Γ rQuot opQuot := om_int (fun i j h => by
  rw [Bool.and_eq_true] at h
  exact wide_div (b := 64) (of_decide_eq_true h.1) (by have := of_decide_eq_true h.2; have := of_decide_eq_true h.1; omega) (by decide) (by decide)) fun _ _ => ⟨rfl, rfl⟩
theorem om_pow : OpM K Γ rPow opPow := om_int (fun i j h => by
  simp only [Bool.and_eq_true, decide_eq_true_eq] at h
  exact ⟨by omega, by omega, by omega⟩) fun _ _ => ⟨rfl, rfl⟩
theorem om_less : OpM K Γ rLess opLess := om_int0 fun _ _ => ⟨rfl, rfl⟩
theorem om_more : OpM K Γ rMore opMore := om_int0 fun _ _ => ⟨rfl, rfl⟩
theorem om_geq : OpM K Γ rGeq opGeq := om_int0 fun _ _ => ⟨rfl, rfl⟩
def unNeg : D → Sto → Out D := fun d S => match d with
  | .int i => .ok (.int (-i)) S
  | _ => .bad
theorem um_neg : UnM K Γ rNeg unNeg := ⟨fun w d x Q ex o hx p => by
  unfold unNeg at p
  split at p
  · exact ⟨_, pk_int hx, Post.now p o _ (by simp only [Rep, RepC])⟩
  · exact False.elim p⟩
/-- a new list of one's own, then given away -/
theorem OpF.m {r : R2} {op : D → D → Sto → Out D} (h : OpF K Γ r op) : OpM K Γ r op := ⟨fun w d e x y Q ex o hx hy p => h.run w d e x y Q ex o hx hy (by
  cases z : op d e w.S with
  | bad => rw [z] at p; exact p
  | ex c ns ds S => rw [z] at p; exact p
  | ok d' S =>
    rw [z] at p
    intro w1 hs o1 e1 a oa
    obtain ⟨w2, s2, hh, o2, e2, _, r2, _⟩ := own_rep o1 e1 oa
    have := p w2 (s2.trans hs) o2 e2 _ r2
    rw [hh] at this
    exact this)⟩
/-- a list that is no part of the module's text or the script -/
def lst1 (S : Sto) (d : D) : Option (List D) := match d with
  | .lst ds => some ds
  | .ref n => match S[n]? with
    | some (some (.lst ds)) => some ds
    | _ => none
  | _ => none
theorem lst1_ok {d : D} {v : V} {ds : List D} (o : Ok K Γ w) (h : Pk K Γ w d v) (e : lst1 w.S d = some ds) : ∃ a vs, v = .ref a ∧ w.H a = some (.lst vs) ∧ vs.length ≤ sizeLine ∧ Reps K Γ w ds vs := by
  unfold lst1 at e
  split at e
  · cases e
    rcases h with h | ⟨_, a, rfl, h⟩
    · simp only [Rep, RepC] at h
      obtain ⟨a, vs, h1, h2, h3, h4⟩ := h
      exact ⟨a, vs, h1, o.same _ _ h2, h3, h4⟩
    · obtain ⟨vs, h1, h2, h3⟩ := h.at_
      exact ⟨a, vs, rfl, h1, h2, h3⟩
  · split at e
    · rename_i n ds' q
      cases e
      rcases h with h | ⟨_, a, rfl, h⟩
      · simp only [Rep, RepC] at h
        obtain ⟨a, h1, h2⟩ := h
        obtain ⟨b, h3, _, vs, h4, h5, h6⟩ := o.cell _ _ q
        rw [h1] at h3
        cases h3
        exact ⟨a, vs, h2, h4, h5, h6⟩
      · exact False.elim h.at_
    · cases e
  · cases e
theorem new_lst {ds : List D} {vs : List V} {p : Addr} {ok : D → Wd → Prop} {ex : XP} (o : Ok K Γ w) (r : Reps K Γ w ds vs) (hl : vs.length ≤ sizeLine) (hp : w.H p = none) (h : Post K Γ (.ok (.lst ds) w.S) w ok ex) : ok (.lst ds) (wPut w p (.lst vs)) ∧ OwnAt K Γ w (wPut w p (.lst vs)) (.lst ds) p := by
  have ev := ev_put (o := .lst vs) (Ev.refl w) hp
  exact ⟨h.at (w' := wPut w p (.lst vs)) rfl (ok_put o (r_none o hp) (not_live o hp)) ev, own_new o hp ⟨vs, upd_same, hl, Reps.ev r ev⟩⟩
def opCat : D → D → Sto → Out D := fun d e S => match lst1 S d, lst1 S e with
  | some xs, some ys => if xs.length + ys.length ≤ 16777216 then .ok (.lst (xs ++ ys)) S else .bad
  | _, _ => .bad
theorem of_cat : OpF K Γ rPlus opCat := ⟨fun w d e x y Q ex o hx hy p => by
  unfold opCat at p
  split at p
  · rename_i xs ys h1 h2
    split at p
    · rename_i hl
      obtain ⟨a, vs, rfl, a1, a2, a3⟩ := lst1_ok o hx h1
      obtain ⟨b, us, rfl, b1, b2, b3⟩ := lst1_ok o hy h2
      have hl' : vs.length + us.length ≤ sizeLine := by rw [← reps_len a3, ← reps_len b3]; exact hl
      refine .inr (.inr ⟨a, b, vs, us, rfl, rfl, a1, b1, hl', fun q hq => ?_⟩)
      obtain ⟨k1, k2⟩ := new_lst o (reps_app a3 b3) (by rw [List.length_append]; exact hl') hq p
      exact k1 _ k2
    · exact False.elim p
  · exact False.elim p⟩
def opPlus : D → D → Sto → Out D := fun d e S => match d, e with
  | .int i, .int j => .ok (.int (i + j)) S
  | .str a, .str b => if a.length + b.length ≤ 16777216 then .ok (.str (a ++ b)) S else .bad
  | d, e => opCat d e S
theorem om_plus : OpM K Γ rPlus opPlus := ⟨fun w d e x y Q ex o hx hy p => by
  unfold opPlus at p
  split at p
  · exact .inl ⟨_, _, pk_int hx, pk_int hy, Post.now p o _ (by simp only [Rep, RepC])⟩
  · split at p
    · rename_i hl
      exact .inr (.inl ⟨_, _, pk_str hx, pk_str hy, hl, Post.now p o _ (by simp only [Rep, RepC])⟩)
    · exact False.elim p
  · exact of_cat.m.run w d e x y Q ex o hx hy p⟩
def opRep : D → D → Sto → Out D := fun d e S => match lst1 S d, e with
  | some xs, .int k => if k ≤ 16777216 ∧ -16777216 ≤ k ∧ xs.length * k.toNat ≤ 16777216 then .ok (.lst (List.replicate k.toNat xs).flatten) S else .bad
  | _, _ => .bad
theorem reps_rep {ρ : List Addr} {R : Hp} {ds : List D} {vs : List V} (h : RepsC K Γ ρ R ds vs) : ∀ n : Nat, RepsC K Γ ρ R (List.replicate n ds).flatten (List.replicate n vs).flatten
  | 0 => reps_nil
  | n + 1 => by
    rw [List.replicate_succ, List.replicate_succ, List.flatten_cons, List.flatten_cons]
    exact reps_app h (reps_rep h n)
theorem of_rep : OpF K Γ rTimes opRep := ⟨fun w d e x y Q ex o hx hy p => by
  unfold opRep at p
  split at p
  · rename_i xs k h1
    split at p
    · rename_i hl
      obtain ⟨a, vs, rfl, a1, a2, a3⟩ := lst1_ok o hx h1
      have hl' : vs.length * k.toNat ≤ sizeLine := by rw [← reps_len a3]; exact hl.2.2
      refine .inr ⟨a, k, vs, rfl, pk_int hy, a1, by omega, by omega, hl', fun q hq => ?_⟩
      obtain ⟨k1, k2⟩ := new_lst o (reps_rep a3 k.toNat) (by rw [List.length_flatten]; simp; rw [Nat.mul_comm]; exact hl') hq p
      exact k1 _ k2
    · exact False.elim p
  · exact False.elim p⟩
def mulOk (i j : Int) : Bool := (decide (-18446744073709551616 < i) && decide (i < 18446744073709551616)) || (decide (-18446744073709551616 < j) && decide (j < 18446744073709551616))
def opTimes : D → D → Sto → Out D := fun d e S => match d, e with
  | .int i, .int j => if mulOk i j then .ok (.int (i * j)) S else .bad
  | d, e => opRep d e S
theorem om_times : OpM K Γ rTimes opTimes := ⟨fun w d e x y Q ex o hx hy p => by
  unfold opTimes at p
  split at p
  · split at p
    · rename_i i j c
      refine .inl ⟨_, _, pk_int hx, pk_int hy, ?_, Post.now p o _ (by simp only [Rep, RepC])⟩
      unfold mulOk at c
      simp only [Bool.or_eq_true, Bool.and_eq_true, decide_eq_true_eq] at c
      rcases c with c | c
      · exact .inl ⟨by omega, by omega⟩
      · exact .inr ⟨by omega, by omega⟩
    · exact False.elim p
  · exact of_rep.m.run w d e x y Q ex o hx hy p⟩
theorem rep_tup {ds : List D} {a : Addr} {vs : List V} (h : SqT K w.R a vs) (hl : vs.length ≤ sizeLine) (r : Reps K Γ w ds vs) : Rep K Γ w (.tup ds) (.ref a) := by
  simp only [Rep, RepC]
  exact ⟨a, vs, rfl, h, hl, r⟩
theorem new_tup {ds : List D} {vs : List V} {p : Addr} {ok : D → Wd → Prop} {ex : XP} (o : Ok K Γ w) (r : Reps K Γ w ds vs) (hl : vs.length ≤ sizeLine) (hp : w.H p = none) (h : Post K Γ (.ok (.tup ds) w.S) w ok ex) : ok (.tup ds) (wFrz w p (.tup vs)) ∧ Rep K Γ (wFrz w p (.tup vs)) (.tup ds) (.ref p) := by
  have ev := ev_frz (o := .tup vs) o hp
  exact ⟨h.at (w' := wFrz w p (.tup vs)) rfl (ok_frz o hp) ev, rep_tup (SqT.of upd_same) hl (Reps.ev r ev)⟩
theorem pk_tup {ds : List D} {v : V} (h : Pk K Γ w (.tup ds) v) : ∃ a vs, v = .ref a ∧ SqT K w.R a vs ∧ vs.length ≤ sizeLine ∧ Reps K Γ w ds vs := by
  rcases h with h | ⟨_, _, _, h⟩
  · simpa only [Rep, RepC] using h
  · exact False.elim h.at_
def opIx : D → D → Sto → Out D := fun d e S => match e with
  | .int i => match listOf S d with
    | some ds => match atI ds i with
      | some x => .ok x S
      | none => .bad
    | none => match tupOf d with
      | some ds => match atI ds i with
        | some x => .ok x S
        | none => .bad
      | none => .bad
  | _ => .bad
theorem atI_reps {ds : List D} {vs : List V} {i : Int} {d : D} (r : Reps K Γ w ds vs) (h : atI ds i = some d) : ∃ v, atI vs i = some v ∧ Rep K Γ w d v := by
  unfold atI at h ⊢
  rw [← reps_len r]
  cases z : ixN ds.length i with
  | none => rw [z] at h; cases h
  | some j =>
    rw [z] at h
    exact reps_get r h
theorem om_ix : OpM K Γ (rIx K) opIx := ⟨fun w d e x y Q ex o hx hy p => by
  unfold opIx at p
  split at p
  · rename_i i
    split at p
    · rename_i ds h1
      obtain ⟨a, vs, rfl, a1, a2, a3⟩ := listOf_ok o hx h1
      split at p
      · rename_i z hz
        obtain ⟨v, v1, v2⟩ := atI_reps a3 hz
        exact .inl ⟨a, vs, i, v, rfl, pk_int hy, a1, v1, Post.now p o _ v2⟩
      · exact False.elim p
    · split at p
      · rename_i ds h1
        obtain ⟨a, vs, rfl, a1, a2, a3⟩ := tupOf_ok o hx h1
        split at p
        · rename_i z hz
          obtain ⟨v, v1, v2⟩ := atI_reps a3 hz
          exact .inr (.inl ⟨a, vs, i, v, rfl, pk_int hy, a1, v1, Post.now p o _ v2⟩)
        · exact False.elim p
      · exact False.elim p
  · exact False.elim p⟩
def isNon : D → Bool
  | .non => true
  | _ => false
def opIs : D → D → Sto → Out D := fun d e S => match e with
  | .non => .ok (.bl (isNon d)) S
  | _ => .bad
def opIsnt : D → D → Sto → Out D := fun d e S => match e with
  | .non => .ok (.bl (!isNon d)) S
  | _ => .bad
theorem isNon_ok {d : D} {v : V} (h : Pk K Γ w d v) : decide (v = .non) = isNon d := by
  rcases h with h | ⟨_, a, rfl, h⟩
  · cases d <;> simp only [Rep, RepC] at h
    case non => subst h; rfl
    case bl b => subst h; rfl
    case int i => subst h; rfl
    case str i => subst h; rfl
    case byt i => subst h; rfl
    case ty i => subst h; rfl
    case cls i => subst h; rfl
    case tup ds => obtain ⟨a, vs, rfl, _⟩ := h; rfl
    case lst ds => obtain ⟨a, vs, rfl, _⟩ := h; rfl
    case dic ks ds => obtain ⟨a, vs, rfl, _⟩ := h; rfl
    case fdc ks ds => obtain ⟨a, _, _, rfl, _⟩ := h; rfl
    case ndc ks ds => obtain ⟨a, L, rfl, _⟩ := h; rfl
    case fnc ks ds => obtain ⟨a, _, L, rfl, _⟩ := h; rfl
    case obj c ns ds => obtain ⟨a, dx, vs, rfl, _⟩ := h; rfl
    case ref n => obtain ⟨a, _, rfl⟩ := h; rfl
    case scr n => obtain ⟨a, rfl, _⟩ := h; rfl
  · cases d <;> first | rfl | exact False.elim h.at_
theorem om_is : OpM K Γ rIsNo opIs := ⟨fun w d e x y Q ex o hx hy p => by
  unfold opIs at p
  split at p
  · exact ⟨pk_non hy, by rw [isNon_ok hx]; exact Post.now p o _ (by simp only [Rep, RepC])⟩
  · exact False.elim p⟩
mutual
def toPy : D → PyData
  | .bl b => .bool b
  | .int i => .int i
  | .str x => .str x
  | .tup ds => .tuple (toPys ds)
  | .lst ds => .list (toPys ds)
  | _ => .none
def toPys : List D → List PyData
  | [] => []
  | d :: ds => toPy d :: toPys ds
end
/-- data of at most n stages -/
def okN (n : Nat) (d : D) : Bool := match d with
  | .non => true
  | .bl _ => true
  | .int _ => true
  | .str x => PyData.canLay0 (.str x)
  | .tup ds => match n with
    | 0 => false
    | m + 1 => ds.all (okN m)
  | .lst ds => match n with
    | 0 => false
    | m + 1 => ds.all (okN m)
  | _ => false
termination_by structural n
theorem dp_of : ∀ (n : Nat) (d : D) (v : V), okN n d = true → Ok K Γ w → Rep K Γ w d v → Dp K w.H v (toPy d)
  | n, .non, v, _, _, r => by rw [rep_non r]; exact .non
  | n, .bl b, v, _, _, r => by rw [rep_bl r]; simp only [toPy]; exact .bl b
  | n, .int i, v, _, _, r => by rw [rep_int r]; simp only [toPy]; exact .int i
  | n, .str x, v, _, _, r => by rw [rep_str r]; simp only [toPy]; exact .str x
  | n + 1, .tup ds, v, h, o, r => by
    simp only [Rep, RepC] at r
    obtain ⟨a, vs, rfl, h2, _, h4⟩ := r
    have go : ∀ (ds : List D) (vs : List V), ds.all (okN n) = true → Reps K Γ w ds vs → DpAll K w.H vs (toPys ds) := fun ds => by
      induction ds with
      | nil => intro vs _ r; simp only [Reps, RepsC] at r; subst r; simp only [toPys]; exact .nil
      | cons d ds ih =>
        intro vs h r
        obtain ⟨v, ws, rfl, r1, r2⟩ := reps_inv r
        rw [List.all_cons, Bool.and_eq_true] at h
        simp only [toPys]
        exact .cons (dp_of n d v h.1 o r1) (ih ws h.2 r2)
    simp only [toPy]
    unfold okN at h
    exact .tup (sqT_mono o.same h2) (go ds vs h h4)
  | n + 1, .lst ds, v, h, o, r => by
    simp only [Rep, RepC] at r
    obtain ⟨a, vs, rfl, h2, _, h4⟩ := r
    have go : ∀ (ds : List D) (vs : List V), ds.all (okN n) = true → Reps K Γ w ds vs → DpAll K w.H vs (toPys ds) := fun ds => by
      induction ds with
      | nil => intro vs _ r; simp only [Reps, RepsC] at r; subst r; simp only [toPys]; exact .nil
      | cons d ds ih =>
        intro vs h r
        obtain ⟨v, ws, rfl, r1, r2⟩ := reps_inv r
        rw [List.all_cons, Bool.and_eq_true] at h
        simp only [toPys]
        exact .cons (dp_of n d v h.1 o r1) (ih ws h.2 r2)
    simp only [toPy]
    unfold okN at h
    exact .lst (SqL.of (o.same _ _ h2)) (go ds vs h h4)
  | n, .byt _, _, h, _, _ => by unfold okN at h; cases h
  | n, .ty _, _, h, _, _ => by unfold okN at h; cases h
  | n, .cls _, _, h, _, _ => by unfold okN at h; cases h
  | n, .ref _, _, h, _, _ => by unfold okN at h; cases h
  | n, .scr _, _, h, _, _ => by unfold okN at h; cases h
  | n, .dic _ _, _, h, _, _ => by unfold okN at h; cases h
  | n, .fdc _ _, _, h, _, _ => by unfold okN at h; cases h
  | n, .ndc _ _, _, h, _, _ => by unfold okN at h; cases h
  | n, .fnc _ _, _, h, _, _ => by unfold okN at h; cases h
  | n, .obj _ _ _, _, h, _, _ => by unfold okN at h; cases h
  | 0, .tup _, _, h, _, _ => by unfold okN at h; cases h
  | 0, .lst _, _, h, _, _ => by unfold okN at h; cases h
theorem dpall_of {n : Nat} (o : Ok K Γ w) : ∀ (ds : List D) (vs : List V), ds.all (okN n) = true → Reps K Γ w ds vs → DpAll K w.H vs (toPys ds)
  | [], vs, _, r => by simp only [Reps, RepsC] at r; subst r; simp only [toPys]; exact .nil
  | d :: ds, vs, h, r => by
    obtain ⟨v, ws, rfl, r1, r2⟩ := reps_inv r
    rw [List.all_cons, Bool.and_eq_true] at h
    simp only [toPys]
    exact .cons (dp_of n d v h.1 o r1) (dpall_of o ds ws h.2 r2)
/-- .. of one's own, too, and of the store -/
theorem dp_pk {n : Nat} {d : D} {v : V} (h : okN (n + 1) d = true) (o : Ok K Γ w) (r : Pk K Γ w d v) : Dp K w.H v (toPy d) := by
  rcases r with r | ⟨_, a, rfl, oa⟩
  · exact dp_of _ d v h o r
  · cases d with
    | lst ds =>
      obtain ⟨vs, h1, _, h3⟩ := oa.at_
      simp only [toPy]
      unfold okN at h
      exact .lst (SqL.of h1) (dpall_of (n := n) o ds vs h h3)
    | dic ks ds => unfold okN at h; cases h
    | obj c ns ds => unfold okN at h; cases h
    | ndc ks ds => unfold okN at h; cases h
    | fnc ks ds => unfold okN at h; cases h
    | _ => exact False.elim oa.at_
theorem shaped_of : ∀ (n : Nat) (d : D), okN n d = true → (toPy d).canLay0 = true ∧ (toPy d).depth ≤ n
  | n, .non, _ => by simp [toPy, PyData.canLay0, PyData.depth]
  | n, .bl b, _ => by simp [toPy, PyData.canLay0, PyData.depth]
  | n, .int i, _ => by simp [toPy, PyData.canLay0, PyData.depth]
  | n, .str x, h => by unfold okN at h; simp only [toPy, PyData.depth]; exact ⟨h, Nat.zero_le _⟩
  | n + 1, .tup ds, h => by
    have go : ∀ ds : List D, ds.all (okN n) = true → PyData.canLayAll0 (toPys ds) = true ∧ PyData.depthAll (toPys ds) ≤ n := fun ds => by
      induction ds with
      | nil => intro _; simp [toPys, PyData.canLayAll0, PyData.depthAll]
      | cons d ds ih =>
        intro h
        rw [List.all_cons, Bool.and_eq_true] at h
        have h1 := shaped_of n d h.1
        have h2 := ih h.2
        simp only [toPys, PyData.canLayAll0, PyData.depthAll, h1.1, h2.1]
        exact ⟨rfl, by omega⟩
    unfold okN at h
    have g := go ds h
    simp only [toPy, PyData.canLay0, PyData.depth]
    exact ⟨g.1, by omega⟩
  | n + 1, .lst ds, h => by
    have go : ∀ ds : List D, ds.all (okN n) = true → PyData.canLayAll0 (toPys ds) = true ∧ PyData.depthAll (toPys ds) ≤ n := fun ds => by
      induction ds with
      | nil => intro _; simp [toPys, PyData.canLayAll0, PyData.depthAll]
      | cons d ds ih =>
        intro h
        rw [List.all_cons, Bool.and_eq_true] at h
        have h1 := shaped_of n d h.1
        have h2 := ih h.2
        simp only [toPys, PyData.canLayAll0, PyData.depthAll, h1.1, h2.1]
        exact ⟨rfl, by omega⟩
    unfold okN at h
    have g := go ds h
    simp only [toPy, PyData.canLay0, PyData.depth]
    exact ⟨g.1, by omega⟩
  | n, .byt _, h => by unfold okN at h; cases h
  | n, .ty _, h => by unfold okN at h; cases h
  | n, .cls _, h => by unfold okN at h; cases h
  | n, .ref _, h => by unfold okN at h; cases h
  | n, .scr _, h => by unfold okN at h; cases h
  | n, .dic _ _, h => by unfold okN at h; cases h
  | n, .fdc _ _, h => by unfold okN at h; cases h
  | n, .ndc _ _, h => by unfold okN at h; cases h
  | n, .fnc _ _, h => by unfold okN at h; cases h
  | n, .obj _ _ _, h => by unfold okN at h; cases h
  | 0, .tup _, h => by unfold okN at h; cases h
  | 0, .lst _, h => by unfold okN at h; cases h
theorem shaped_okN {n : Nat} {d : D} (h : okN n d = true) (hn : n ≤ 64) : SeqAt.shaped (toPy d) = true := by
  obtain ⟨h1, h2⟩ := shaped_of n d h
  unfold SeqAt.shaped
  rw [h1, decide_eq_true (by omega)]
  rfl
def eqD (d e : D) : Bool := PyData.eqv (toPy d) (toPy e)
def opEq (neg : Bool) : D → D → Sto → Out D := fun d e S => match d, e with
  | .int i, .int j => .ok (.bl (xor neg (decide (i = j)))) S
  | .str i, .str j => .ok (.bl (xor neg (decide (i = j)))) S
  | .byt i, .byt j => .ok (.bl (xor neg (decide (i = j)))) S
  | .bl i, .bl j => .ok (.bl (xor neg (i == j))) S
  | d, e => if okN 9 d && okN 9 e then .ok (.bl (xor neg (eqD d e))) S else .bad
theorem pk_byt {x : Array UInt8} {v : V} (h : Pk K Γ w (.byt x) v) : v = .byt x := by
  rcases h with h | ⟨_, _, _, h⟩
  · simpa only [Rep, RepC] using h
  · exact False.elim h.at_
theorem om_eq : OpM K Γ (rSame K) (opEq false) := ⟨fun w d e x y Q ex o hx hy p => by
  unfold opEq at p
  split at p
  · rename_i i j
    rw [pk_int hx, pk_int hy]
    refine .inl ⟨rfl, ?_⟩
    have e : decide (V.int i = V.int j) = decide (i = j) := decide_eq_decide.mpr ⟨fun h => V.int.inj h, fun h => congrArg _ h⟩
    rw [e]
    have := Post.now p o (.bl (decide (i = j))) (by simp only [Rep, RepC, Bool.false_xor])
    exact this
  · rename_i i j
    rw [pk_str hx, pk_str hy]
    refine .inl ⟨rfl, ?_⟩
    have e : decide (V.str i = V.str j) = decide (i = j) := decide_eq_decide.mpr ⟨fun h => V.str.inj h, fun h => congrArg _ h⟩
    rw [e]
    exact Post.now p o (.bl (decide (i = j))) (by simp only [Rep, RepC, Bool.false_xor])
  · rename_i i j
    rw [pk_byt hx, pk_byt hy]
    refine .inl ⟨rfl, ?_⟩
    have e : decide (V.byt i = V.byt j) = decide (i = j) := decide_eq_decide.mpr ⟨fun h => V.byt.inj h, fun h => congrArg _ h⟩
    rw [e]
    exact Post.now p o (.bl (decide (i = j))) (by simp only [Rep, RepC, Bool.false_xor])
  · rename_i i j
    rw [pk_bl hx, pk_bl hy]
    refine .inl ⟨rfl, ?_⟩
    have e : decide (V.bl i = V.bl j) = (i == j) := by cases i <;> cases j <;> decide
    rw [e]
    exact Post.now p o (.bl (i == j)) (by simp only [Rep, RepC, Bool.false_xor])
  · split at p
    · rename_i h
      rw [Bool.and_eq_true] at h
      exact .inr ⟨_, _, dp_pk h.1 o hx, dp_pk h.2 o hy, shaped_okN h.1 (by decide), shaped_okN h.2 (by decide), Post.now p o (.bl (eqD d e)) (by simp only [Rep, RepC, Bool.false_xor])⟩
    · exact False.elim p⟩
theorem om_ne : OpM K Γ (rUnlike K) (opEq true) := ⟨fun w d e x y Q ex o hx hy p => by
  unfold opEq at p
  split at p
  · rename_i i j
    rw [pk_int hx, pk_int hy]
    refine .inl ⟨rfl, ?_⟩
    have e : decide (V.int i = V.int j) = decide (i = j) := decide_eq_decide.mpr ⟨fun h => V.int.inj h, fun h => congrArg _ h⟩
    rw [e]
    exact Post.now p o (.bl (!decide (i = j))) (by simp only [Rep, RepC, Bool.true_xor])
  · rename_i i j
    rw [pk_str hx, pk_str hy]
    refine .inl ⟨rfl, ?_⟩
    have e : decide (V.str i = V.str j) = decide (i = j) := decide_eq_decide.mpr ⟨fun h => V.str.inj h, fun h => congrArg _ h⟩
    rw [e]
    exact Post.now p o (.bl (!decide (i = j))) (by simp only [Rep, RepC, Bool.true_xor])
  · rename_i i j
    rw [pk_byt hx, pk_byt hy]
    refine .inl ⟨rfl, ?_⟩
    have e : decide (V.byt i = V.byt j) = decide (i = j) := decide_eq_decide.mpr ⟨fun h => V.byt.inj h, fun h => congrArg _ h⟩
    rw [e]
    exact Post.now p o (.bl (!decide (i = j))) (by simp only [Rep, RepC, Bool.true_xor])
  · rename_i i j
    rw [pk_bl hx, pk_bl hy]
    refine .inl ⟨rfl, ?_⟩
    have e : decide (V.bl i = V.bl j) = (i == j) := by cases i <;> cases j <;> decide
    rw [e]
    exact Post.now p o (.bl (!(i == j))) (by simp only [Rep, RepC, Bool.true_xor])
  · split at p
    · rename_i h
      rw [Bool.and_eq_true] at h
      exact .inr ⟨_, _, dp_pk h.1 o hx, dp_pk h.2 o hy, shaped_okN h.1 (by decide), shaped_okN h.2 (by decide), Post.now p o (.bl (!eqD d e)) (by simp only [Rep, RepC, Bool.true_xor])⟩
    · exact False.elim p⟩
def flatD : D → Bool
  | .non => true
  | .bl _ => true
  | .int _ => true
  | .str _ => true
  | _ => false
/-- == of flat things -/
def eqF : D → D → Bool
  | .non, .non => true
  | .bl a, .bl b => a == b
  | .bl a, .int b => (if a then 1 else 0) == b
  | .int a, .bl b => a == (if b then 1 else 0)
  | .int a, .int b => a == b
  | .str a, .str b => a == b
  | _, _ => false
theorem flat_rep {d : D} {v : V} (h : flatD d = true) (r : Rep K Γ w d v) : flatV v = true := by
  cases d <;> first | (exact Bool.noConfusion (show false = true from h)) | skip
  · rw [rep_non r]; rfl
  · rw [rep_bl r]; rfl
  · rw [rep_int r]; rfl
  · rw [rep_str r]; rfl
theorem eqF_rep {d e : D} {v u : V} (h : flatD d = true) (g : flatD e = true) (r : Rep K Γ w d v) (q : Rep K Γ w e u) : eqV v u = eqF d e := by
  cases d <;> first | (exact Bool.noConfusion (show false = true from h)) | skip
  all_goals (cases e <;> first | (exact Bool.noConfusion (show false = true from g)) | skip)
  all_goals (simp only [Rep, RepC] at r q; subst r; subst q; rfl)
theorem flats_reps : ∀ {ds : List D} {vs : List V}, ds.all flatD = true → Reps K Γ w ds vs → vs.all flatV = true
  | [], vs, _, r => by simp only [Reps, RepsC] at r; subst r; rfl
  | d :: ds, vs, h, r => by
    obtain ⟨v, ws, rfl, r1, r2⟩ := reps_inv r
    rw [List.all_cons, Bool.and_eq_true] at h ⊢
    exact ⟨flat_rep h.1 r1, flats_reps h.2 r2⟩
theorem in_reps {x : D} {u : V} (hx : flatD x = true) (rx : Rep K Γ w x u) : ∀ {ds : List D} {vs : List V}, ds.all flatD = true → Reps K Γ w ds vs → inV u vs = ds.any fun d => eqF d x
  | [], vs, _, r => by simp only [Reps, RepsC] at r; subst r; rfl
  | d :: ds, vs, h, r => by
    obtain ⟨v, ws, rfl, r1, r2⟩ := reps_inv r
    rw [List.all_cons, Bool.and_eq_true] at h
    have ih := in_reps hx rx h.2 r2
    unfold inV at ih ⊢
    rw [List.any_cons, List.any_cons, ih, eqF_rep h.1 hx r1 rx]
def seqOf (S : Sto) (d : D) : Option (List D) := match listOf S d with
  | some ds => some ds
  | none => tupOf d
theorem seqOf_ok {d : D} {v : V} {ds : List D} (o : Ok K Γ w) (h : Pk K Γ w d v) (e : seqOf w.S d = some ds) : ∃ a vs, v = .ref a ∧ (SqL K w.H a vs ∨ SqT K w.H a vs) ∧ vs.length ≤ sizeLine ∧ Reps K Γ w ds vs := by
  unfold seqOf at e
  split at e
  · rename_i q
    cases e
    obtain ⟨a, vs, h1, h2, h3, h4⟩ := listOf_ok o h q
    exact ⟨a, vs, h1, .inl h2, h3, h4⟩
  · obtain ⟨a, vs, h1, h2, h3, h4⟩ := tupOf_ok o h e
    exact ⟨a, vs, h1, .inr h2, h3, h4⟩
def opIn (neg : Bool) : D → D → Sto → Out D := fun x d S => match seqOf S d with
  | some ds => if flatD x && ds.all flatD then .ok (.bl (xor neg (ds.any fun d => eqF d x))) S else .bad
  | none => .bad
theorem pk_flat {d : D} {v : V} (h : flatD d = true) (r : Pk K Γ w d v) : Rep K Γ w d v := by
  rcases r with r | ⟨_, _, _, oa⟩
  · exact r
  · have := oa.at_
    cases d <;> first | exact False.elim this | (exact Bool.noConfusion (show false = true from h))
theorem om_in {neg : Bool} : OpM K Γ (rIn K neg) (opIn neg) := ⟨fun w d e x y Q ex o hx hy p => by
  unfold opIn at p
  split at p
  · rename_i ds h1
    split at p
    · rename_i h
      rw [Bool.and_eq_true] at h
      obtain ⟨a, vs, rfl, a1, a2, a3⟩ := seqOf_ok o hy h1
      have rx := pk_flat h.1 hx
      refine ⟨a, vs, rfl, a1, flat_rep h.1 rx, flats_reps h.2 a3, ?_⟩
      rw [in_reps h.1 rx h.2 a3]
      refine Post.now p o _ ?_
      simp only [Rep, RepC]
      cases neg <;> simp
    · exact False.elim p
  · exact False.elim p⟩
end
end MR

namespace MR
open PySem PySem.Spec PyProof.Rows L2 TP
section
variable {K : PySem.W.Frag} {Γ : Gm} {xa : XT} {W : WX} {te ta tb to ti tv : TE} {me ma mb mo mk mv : ME} {w w' w0 w1 : Wd} {tl : TA} {ml : MA} {n : Nat}
structure CallM (K : PySem.W.Frag) (Γ : Gm) (r : List V → Hp → VK → Prop) (f : MF) : Prop where
  run : ∀ (w : Wd) (ds : List D) (vs : List V) (Q : VK) (ex : XP), Ok K Γ w → Pks K Γ w ds vs → Post K Γ (f ds w.S) w (fun z w' => ∀ v, Rep K Γ w' z v → Q v w'.H) ex → r vs w.H Q
structure CallF (K : PySem.W.Frag) (Γ : Gm) (r : List V → Hp → VK → Prop) (f : MF) : Prop where
  run : ∀ (w : Wd) (ds : List D) (vs : List V) (Q : VK) (ex : XP), Ok K Γ w → Pks K Γ w ds vs → Post K Γ (f ds w.S) w (fun z w' => ∀ a, OwnAt K Γ w w' z a → Q (.ref a) w'.H) ex → r vs w.H Q
def mCB (f : MF) (ml : MA) : ME := fun δ S => bnd (ml δ S) f
theorem sim_cb {r : List V → Hp → VK → Prop} {f : MF} (h : CallM K Γ r f) (ha : SimPA K Γ xa W tl ml) : SimE K Γ xa W (tCB r tl) (mCB f ml) := ⟨fun w0 w σ δ Q o e n p =>
  ha.run w0 w σ δ _ o e n (p.then fun ds w1 o1 e1 p1 vs r1 => h.run w1 ds vs Q _ o1 r1 p1)⟩
theorem pks1 {d : D} {vs : List V} (h : Pks K Γ w [d] vs) : ∃ v, vs = [v] ∧ Pk K Γ w d v := by
  cases h with
  | cons h t => cases t; exact ⟨_, rfl, h⟩
theorem pks2 {d e : D} {vs : List V} (h : Pks K Γ w [d, e] vs) : ∃ v u, vs = [v, u] ∧ Pk K Γ w d v ∧ Pk K Γ w e u := by
  cases h with
  | cons h t => obtain ⟨u, rfl, q⟩ := pks1 t; exact ⟨_, u, rfl, h, q⟩
def fLen : MF := fun ds S => match ds with
  | [.str x] => if x.length ≤ 16777216 then .ok (.int x.length) S else .bad
  | [.byt x] => if x.size ≤ 16777216 then .ok (.int x.size) S else .bad
  | [d] => match seqOf S d with
    | some xs => .ok (.int xs.length) S
    | none => .bad
  | _ => .bad
theorem cm_len : CallM K Γ (TP.rLen K) fLen := ⟨fun w ds vs Q ex o r p => by
  unfold fLen at p
  split at p
  · obtain ⟨v, rfl, r1⟩ := pks1 r
    rw [pk_str r1]
    split at p
    · rename_i hl
      exact ⟨_, _, rfl, ⟨hl, rfl⟩, Post.now p o _ (by simp only [Rep, RepC])⟩
    · exact False.elim p
  · obtain ⟨v, rfl, r1⟩ := pks1 r
    rw [pk_byt r1]
    split at p
    · rename_i hl
      exact ⟨_, _, rfl, ⟨hl, rfl⟩, Post.now p o _ (by simp only [Rep, RepC])⟩
    · exact False.elim p
  · obtain ⟨v, rfl, r1⟩ := pks1 r
    split at p
    · rename_i xs h1
      obtain ⟨a, vs, rfl, a1, a2, a3⟩ := seqOf_ok o r1 h1
      rw [reps_len a3] at p
      refine ⟨_, vs.length, rfl, ?_, Post.now p o _ (by simp only [Rep, RepC])⟩
      rcases a1 with a1 | a1
      · exact .inl ⟨vs, a1, rfl⟩
      · exact .inr ⟨vs, a1, rfl⟩
    · exact False.elim p
  · exact False.elim p⟩
def fInt : MF := fun ds S => match ds with
  | [.int i] => .ok (.int i) S
  | [.bl b] => .ok (.int (if b then 1 else 0)) S
  | _ => .bad
theorem cm_int : CallM K Γ rInt1 fInt := ⟨fun w ds vs Q ex o r p => by
  unfold fInt at p
  split at p
  · obtain ⟨v, rfl, r1⟩ := pks1 r
    exact .inl ⟨_, by rw [pk_int r1], Post.now p o _ (by simp only [Rep, RepC])⟩
  · obtain ⟨v, rfl, r1⟩ := pks1 r
    exact .inr ⟨_, by rw [pk_bl r1], Post.now p o _ (by simp only [Rep, RepC])⟩
  · exact False.elim p⟩
def fTuple : MF := fun ds S => match ds with
  | [.tup xs] => .ok (.tup xs) S
  | [d] => match listOf S d with
    | some xs => .ok (.tup xs) S
    | none => .bad
  | _ => .bad
def blsOf : List D → Option (List Bool)
  | [] => some []
  | .bl b :: r => (blsOf r).map (b :: ·)
  | _ => none
theorem bls_reps : ∀ {ds : List D} {bs : List Bool} {vs : List V}, blsOf ds = some bs → Reps K Γ w ds vs → vs = bs.map V.bl
  | [], bs, vs, h, r => by cases h; simp only [Reps, RepsC] at r; exact r
  | .bl b :: ds, bs, vs, h, r => by
    obtain ⟨v, ws, rfl, r1, r2⟩ := reps_inv r
    unfold blsOf at h
    cases z : blsOf ds with
    | none => rw [z] at h; cases h
    | some cs =>
      rw [z] at h
      cases h
      rw [rep_bl r1, bls_reps z r2]
      rfl
  | .non :: _, _, _, h, _ => by cases h
  | .int _ :: _, _, _, h, _ => by cases h
  | .str _ :: _, _, _, h, _ => by cases h
  | .byt _ :: _, _, _, h, _ => by cases h
  | .ty _ :: _, _, _, h, _ => by cases h
  | .cls _ :: _, _, _, h, _ => by cases h
  | .tup _ :: _, _, _, h, _ => by cases h
  | .lst _ :: _, _, _, h, _ => by cases h
  | .dic _ _ :: _, _, _, h, _ => by cases h
  | .fdc _ _ :: _, _, _, h, _ => by cases h
  | .ndc _ _ :: _, _, _, h, _ => by cases h
  | .fnc _ _ :: _, _, _, h, _ => by cases h
  | .obj _ _ _ :: _, _, _, h, _ => by cases h
  | .ref _ :: _, _, _, h, _ => by cases h
  | .scr _ :: _, _, _, h, _ => by cases h
def fAll : MF := fun ds S => match ds with
  | [d] => match (listOf S d).bind blsOf with
    | some bs => .ok (.bl (bs.all id)) S
    | none => .bad
  | _ => .bad
theorem bls_list {d : D} {v : V} {bs : List Bool} (o : Ok K Γ w) (r : Pk K Γ w d v) (h : (listOf w.S d).bind blsOf = some bs) : ∃ a, v = .ref a ∧ SqL K w.H a (bs.map V.bl) := by
  cases z : listOf w.S d with
  | none => rw [z] at h; cases h
  | some xs =>
    rw [z] at h
    obtain ⟨a, vs, rfl, a1, a2, a3⟩ := listOf_ok o r z
    rw [bls_reps h a3] at a1
    exact ⟨a, rfl, a1⟩
theorem cm_all : CallM K Γ (rAll K) fAll := ⟨fun w ds vs Q ex o r p => by
  unfold fAll at p
  split at p
  · obtain ⟨v, rfl, r1⟩ := pks1 r
    split at p
    · rename_i bs h
      obtain ⟨a, rfl, h1⟩ := bls_list o r1 h
      exact ⟨a, bs, rfl, h1, Post.now p o _ (by simp only [Rep, RepC])⟩
    · exact False.elim p
  · exact False.elim p⟩
inductive Kn where
  | t (n : String) | c (n : Nat)
def kindD (S : Sto) (d : D) : Option Kn := match d with
  | .non => some (.t "NoneType")
  | .bl _ => some (.t "bool")
  | .int _ => some (.t "int")
  | .str _ => some (.t "str")
  | .byt _ => some (.t "bytes")
  | .lst _ => some (.t "list")
  | .scr _ => some (.t "list")
  | .tup _ => some (.t "tuple")
  | .obj c _ _ => some (.c c)
  | .ref n => match S[n]? with
    | some (some (.lst _)) => some (.t "list")
    | some (some (.obj c _ _)) => some (.c c)
    | _ => none
  | _ => none
/-- what is known of the own classes below N -/
structure ClsF (K : PySem.W.Frag) (Γ : Gm) (N : Nat) : Prop where
  own : ∀ c, c < N → OwnC K (Γ c)
  kk : ∀ c c', c < N → c' < N → PySem.W.kitOne K (.ref (Γ c)) (.ref (Γ c')) = some (c == c')
  kt : ∀ c, c < N → ∀ T ∈ askedK, PySem.W.kitOne K (.ref (Γ c)) (.type T) = some false
  tk : ∀ c, c < N → ∀ t ∈ kinds, PySem.W.kitOne K (.type t) (.ref (Γ c)) = some false
def fIsi (N : Nat) : MF := fun ds S => match ds with
  | [d, .ty T] => if askedK.contains T then match kindD S d with
      | some (.t t) => .ok (.bl (isK t T)) S
      | some (.c c) => if c < N then .ok (.bl false) S else .bad
      | none => .bad
    else .bad
  | [d, .cls c'] => if c' < N then match kindD S d with
      | some (.t t) => .ok (.bl false) S
      | some (.c c) => if c < N then .ok (.bl (c == c')) S else .bad
      | none => .bad
    else .bad
  | _ => .bad
theorem tyL {H : Hp} {a : Addr} {vs : List V} (h : SqL K H a vs) : TyX K H (.ref a) (.type "list") := by
  rcases h with (h | ⟨o, h⟩) | ⟨o, its, n, h1, h2, h3, h4, _⟩
  · exact .base (.lst h)
  · exact .base (.frz h)
  · exact .kList h1 h2
theorem tyT {H : Hp} {a : Addr} {vs : List V} (h : SqT K H a vs) : TyX K H (.ref a) (.type "tuple") := by
  rcases h with (h | ⟨o, h⟩) | ⟨o, its, n, h1, h2, _⟩
  · exact .base (.tup h)
  · exact .fTuple h
  · exact .kTuple h1 h2
def knV (Γ : Gm) : Kn → Value
  | .t n => .type n
  | .c c => .ref (Γ c)
theorem kind_ok {N : Nat} {d : D} {v : V} {k : Kn} (F : ClsF K Γ N) (o : Ok K Γ w) (r : Pk K Γ w d v) (h : kindD w.S d = some k) (hk : ∀ c, k = .c c → c < N) : TyX K w.H v (knV Γ k) ∧ ∀ t, k = .t t → t ∈ kinds := by
  unfold kindD at h
  split at h
  · cases h; rw [pk_non r]; exact ⟨.base .non, fun t e => by cases e; decide⟩
  · cases h; rw [pk_bl r]; exact ⟨.base (.bl _), fun t e => by cases e; decide⟩
  · cases h; rw [pk_int r]; exact ⟨.base (.int _), fun t e => by cases e; decide⟩
  · cases h; rw [pk_str r]; exact ⟨.base (.str _), fun t e => by cases e; decide⟩
  · cases h; rw [pk_byt r]; exact ⟨.byt _, fun t e => by cases e; decide⟩
  · cases h
    obtain ⟨a, vs, rfl, h1, _, _⟩ := listOf_ok (ds := _) o r rfl
    exact ⟨tyL h1, fun t e => by cases e; decide⟩
  · cases h
    obtain ⟨a, vs, rfl, h1, _, _⟩ := listOf_ok (ds := _) o r rfl
    exact ⟨tyL h1, fun t e => by cases e; decide⟩
  · cases h
    obtain ⟨a, vs, rfl, h1, _, _⟩ := pk_tup r
    exact ⟨tyT (sqT_mono o.same h1), fun t e => by cases e; decide⟩
  · cases h
    obtain ⟨a, dx, vs, rfl, h1, _, _⟩ := objOf_ok o r rfl
    exact ⟨(F.own _ (hk _ rfl)).ty h1, fun t e => by cases e⟩
  · rename_i n
    split at h
    · rename_i q
      cases h
      obtain ⟨a, vs, rfl, h1, _, _⟩ := listOf_ok (ds := _) o r (by unfold listOf; dsimp only; rw [q])
      exact ⟨tyL h1, fun t e => by cases e; decide⟩
    · rename_i q
      cases h
      obtain ⟨a, dx, vs, rfl, h1, _, _⟩ := objOf_ok o r (by unfold objOf; dsimp only; rw [q])
      exact ⟨(F.own _ (hk _ rfl)).ty h1, fun t e => by cases e⟩
    · cases h
  · cases h
theorem cm_isi {N : Nat} (F : ClsF K Γ N) : CallM K Γ (rIsi K) (fIsi N) := ⟨fun w ds vs Q ex o r p => by
  have fin : ∀ {b : Bool}, Post K Γ (.ok (D.bl b) w.S) w (fun z w' => ∀ v, Rep K Γ w' z v → Q v w'.H) ex → Q (.bl b) w.H := fun p => Post.now p o _ (by simp only [Rep, RepC])
  unfold fIsi at p
  split at p
  · rename_i d T
    obtain ⟨v, u, rfl, r1, r2⟩ := pks2 r
    have eu : u = .ty T := by
      rcases r2 with r2 | ⟨_, _, _, r2⟩
      · simpa only [Rep, RepC] using r2
      · exact False.elim r2.at_
    subst eu
    split at p
    · rename_i hT
      have hT' : T ∈ askedK := List.contains_iff_mem.mp hT
      split at p
      · rename_i t q
        obtain ⟨h1, h2⟩ := kind_ok F o r1 q (fun c e => by cases e)
        exact ⟨v, _, _, _, _, rfl, .ty T, h1, kit_ty2 (kit_all t (h2 t rfl) T hT'), fin p⟩
      · rename_i c q
        split at p
        · rename_i hc
          obtain ⟨h1, h2⟩ := kind_ok F o r1 q (fun c' e => by cases e; exact hc)
          exact ⟨v, _, _, _, _, rfl, .ty T, h1, F.kt c hc T hT', fin p⟩
        · exact False.elim p
      · exact False.elim p
    · exact False.elim p
  · rename_i d c'
    obtain ⟨v, u, rfl, r1, r2⟩ := pks2 r
    have eu : u = .ref (Γ c') := by
      rcases r2 with r2 | ⟨_, _, _, r2⟩
      · simpa only [Rep, RepC] using r2
      · exact False.elim r2.at_
    subst eu
    split at p
    · rename_i hc'
      split at p
      · rename_i t q
        obtain ⟨h1, h2⟩ := kind_ok F o r1 q (fun c e => by cases e)
        exact ⟨v, _, _, _, _, rfl, .own _, h1, F.tk c' hc' t (h2 t rfl), fin p⟩
      · rename_i c q
        split at p
        · rename_i hc
          obtain ⟨h1, h2⟩ := kind_ok F o r1 q (fun c' e => by cases e; exact hc)
          exact ⟨v, _, _, _, _, rfl, .own _, h1, F.kk c c' hc hc', fin p⟩
        · exact False.elim p
      · exact False.elim p
    · exact False.elim p
  · exact False.elim p⟩
abbrev MO := Env → Sto → Out (Option Int)
structure SimO (K : PySem.W.Frag) (Γ : Gm) (xa : XT) (W : WX) (t : L2.St → Hp → (Option Int → Hp → Prop) → Prop) (m : MO) : Prop where
  run : ∀ (w0 w : Wd) (σ : L2.St) (δ : Env) (Q : Option Int → Hp → Prop), Ok K Γ w → Ev w0 w → EnvOk K Γ xa w0 w σ δ → Post K Γ (m δ w.S) w (fun b w' => Q b w'.H) (XW K Γ W σ) → t σ w.H Q
def mNoPart : MO := fun _ S => .ok none S
theorem sim_nopart : SimO K Γ xa W tNoPart mNoPart := ⟨fun w0 w σ δ Q o e n p => Post.now p o⟩
def mPart (me : ME) : MO := fun δ S => bnd (me δ S) fun d S => match d with
  | .int i => .ok (some i) S
  | _ => .bad
theorem sim_part (h : SimE K Γ xa W te me) : SimO K Γ xa W (tPart te) (mPart me) := ⟨fun w0 w σ δ Q o e n p =>
  h.run w0 w σ δ _ o e n (p.then fun d w1 o1 e1 p1 v r1 => by
    split at p1
    · exact ⟨_, rep_int r1, Post.now p1 o1⟩
    · exact False.elim p1)⟩
def cutD (xs : List D) (lo hi : Option Int) : List D := (xs.drop (HT.sIx xs.length 0 lo)).take (HT.sIx xs.length xs.length hi - HT.sIx xs.length 0 lo)
theorem cut_reps {xs : List D} {vs : List V} {lo hi : Option Int} (r : Reps K Γ w xs vs) : Reps K Γ w (cutD xs lo hi) (cutV vs lo hi) := by
  unfold cutD cutV
  rw [reps_len r]
  exact reps_take _ (reps_drop _ r)
variable {tlo thi : L2.St → Hp → (Option Int → Hp → Prop) → Prop} {mlo mhi : MO}
def mSl (f : D → Option Int → Option Int → Sto → Out D) (me : ME) (mlo mhi : MO) : ME := fun δ S => bnd (me δ S) fun d S => bnd (mlo δ S) fun l S => bnd (mhi δ S) fun h S => f d l h S
structure SlM (K : PySem.W.Frag) (Γ : Gm) (r : V → Option Int → Option Int → Hp → VK → Prop) (f : D → Option Int → Option Int → Sto → Out D) : Prop where
  run : ∀ (w : Wd) (d : D) (v : V) (l h : Option Int) (Q : VK) (ex : XP), Ok K Γ w → Pk K Γ w d v → Post K Γ (f d l h w.S) w (fun z w' => ∀ v, Rep K Γ w' z v → Q v w'.H) ex → r v l h w.H Q
structure SlF (K : PySem.W.Frag) (Γ : Gm) (r : V → Option Int → Option Int → Hp → VK → Prop) (f : D → Option Int → Option Int → Sto → Out D) : Prop where
  run : ∀ (w : Wd) (d : D) (v : V) (l h : Option Int) (Q : VK) (ex : XP), Ok K Γ w → Pk K Γ w d v → Post K Γ (f d l h w.S) w (fun z w' => ∀ a, OwnAt K Γ w w' z a → Q (.ref a) w'.H) ex → r v l h w.H Q
theorem sim_slF {r : V → Option Int → Option Int → Hp → VK → Prop} {f : D → Option Int → Option Int → Sto → Out D} (hf : SlF K Γ r f) (h : SimP K Γ xa W te me) (hl : SimO K Γ xa W tlo mlo) (hh : SimO K Γ xa W thi mhi) : SimF K Γ xa W (tSl r te tlo thi) (mSl f me mlo mhi) := ⟨fun w0 w σ δ Q o e n p =>
  h.run w0 w σ δ _ o e n (p.then fun d w1 o1 e1 p1 v r1 => hl.run w0 w1 σ δ _ o1 (e.trans e1) (n.ev e1) (p1.then fun l w2 o2 e2 p2 => hh.run w0 w2 σ δ _ o2 ((e.trans e1).trans e2) ((n.ev e1).ev e2) (p2.then fun h w3 o3 e3 p3 => hf.run w3 d v l h Q _ o3 (r1.ev (e2.trans e3)) (p3.mono (fun z w4 _ _ q a oa => q a (own_back ((e1.trans e2).trans e3) oa)) fun _ _ _ _ _ _ x => x))))⟩
def slL : D → Option Int → Option Int → Sto → Out D := fun d l h S => match listOf S d with
  | some xs => .ok (.lst (cutD xs l h)) S
  | none => .bad
theorem cutV_len {vs : List V} {l h : Option Int} (hl : vs.length ≤ sizeLine) : (cutV vs l h).length ≤ sizeLine := Nat.le_trans (cutV_length vs l h) hl
theorem sf_list : SlF K Γ (rSlL K) slL := ⟨fun w d v l h Q ex o r p => by
  unfold slL at p
  split at p
  · rename_i xs h1
    obtain ⟨a, vs, rfl, a1, a2, a3⟩ := listOf_ok o r h1
    refine ⟨a, vs, rfl, a1, fun q hq => ?_⟩
    obtain ⟨k1, k2⟩ := new_lst o (cut_reps (lo := l) (hi := h) a3) (cutV_len a2) hq p
    exact k1 _ k2
  · exact False.elim p⟩
theorem reps_strs {ρ : List Addr} {R : Hp} : ∀ {xs : List Str}, RepsC K Γ ρ R (xs.map D.str) (xs.map V.str)
  | [] => reps_nil
  | i :: is => reps_cons (by simp only [RepC]) reps_strs
def mM1 (op : D → D → Sto → Out D) (mo me : ME) : ME := fun δ S => bnd (mo δ S) fun x S => match x with
  | .str _ => bnd (me δ S) fun y S => op x y S
  | _ => .bad
structure M1F (K : PySem.W.Frag) (Γ : Gm) (r : V → List V → Hp → VK → Prop) (op : D → D → Sto → Out D) : Prop where
  run : ∀ (w : Wd) (d e : D) (x y : V) (Q : VK) (ex : XP), Ok K Γ w → Rep K Γ w d x → Pk K Γ w e y → Post K Γ (op d e w.S) w (fun z w' => ∀ a, OwnAt K Γ w w' z a → Q (.ref a) w'.H) ex → r x [y] w.H Q
structure M1M (K : PySem.W.Frag) (Γ : Gm) (r : V → List V → Hp → VK → Prop) (op : D → D → Sto → Out D) : Prop where
  run : ∀ (w : Wd) (d e : D) (x y : V) (Q : VK) (ex : XP), Ok K Γ w → Rep K Γ w d x → Pk K Γ w e y → Post K Γ (op d e w.S) w (fun z w' => ∀ v, Rep K Γ w' z v → Q v w'.H) ex → r x [y] w.H Q
theorem sim_m1F {r : V → List V → Hp → VK → Prop} {op : D → D → Sto → Out D} (hf : M1F K Γ r op) (ho : SimE K Γ xa W to mo) (h : SimP K Γ xa W te me) : SimF K Γ xa W (tM1 r to te) (mM1 op mo me) := ⟨fun w0 w σ δ Q o e n p =>
  ho.run w0 w σ δ _ o e n (p.then fun x w1 o1 e1 p1 v r1 => by
    split at p1
    · exact ⟨⟨_, rep_str r1⟩, h.run w0 w1 σ δ _ o1 (e.trans e1) (n.ev e1) (p1.then fun y w2 o2 e2 p2 u r2 => hf.run w2 _ _ _ _ _ _ o2 (Rep.ev r1 e2) r2 (p2.mono (fun z w4 _ _ q a oa => q a (own_back (e1.trans e2) oa)) fun _ _ _ _ _ _ x => x))⟩
    · exact False.elim p1)⟩
theorem sim_m1 {r : V → List V → Hp → VK → Prop} {op : D → D → Sto → Out D} (hf : M1M K Γ r op) (ho : SimE K Γ xa W to mo) (h : SimP K Γ xa W te me) : SimE K Γ xa W (tM1 r to te) (mM1 op mo me) := ⟨fun w0 w σ δ Q o e n p =>
  ho.run w0 w σ δ _ o e n (p.then fun x w1 o1 e1 p1 v r1 => by
    split at p1
    · exact ⟨⟨_, rep_str r1⟩, h.run w0 w1 σ δ _ o1 (e.trans e1) (n.ev e1) (p1.then fun y w2 o2 e2 p2 u r2 => hf.run w2 _ _ _ _ _ _ o2 (Rep.ev r1 e2) r2 p2)⟩
    · exact False.elim p1)⟩
def opSplit : D → D → Sto → Out D := fun d e S => match d, e with
  | .str a, .str b => if (b.length == 0) = false ∧ a.length + 2 ≤ 16777216 then .ok (.lst ((Txt.split a b).map D.str)) S else .bad
  | _, _ => .bad
theorem split_le' (a b : Str) (h : a.length + 2 ≤ sizeLine) : (Txt.split a b).length ≤ sizeLine := by
  have := PyProof.Rows.split_le a b
  omega
theorem mf_split : M1F K Γ rSplit opSplit := ⟨fun w d e x y Q ex o hx hy p => by
  unfold opSplit at p
  split at p
  · rename_i a b
    split at p
    · rename_i h
      refine ⟨a, b, rep_str hx, by rw [pk_str hy], h.1, h.2, fun q hq => ?_⟩
      obtain ⟨k1, k2⟩ := new_lst o (reps_strs (xs := Txt.split a b)) (by rw [List.length_map]; exact split_le' a b h.2) hq p
      exact k1 _ k2
    · exact False.elim p
  · exact False.elim p⟩
def strsOf : List D → Option (List Str)
  | [] => some []
  | .str b :: r => (strsOf r).map (b :: ·)
  | _ => none
theorem strs_eq : ∀ {ds : List D} {bs : List Str}, strsOf ds = some bs → ds = bs.map D.str
  | [], bs, h => by cases h; rfl
  | .str b :: ds, bs, h => by
    unfold strsOf at h
    cases z : strsOf ds with
    | none => rw [z] at h; cases h
    | some cs => rw [z] at h; cases h; rw [strs_eq z]; rfl
  | .non :: _, _, h => by cases h
  | .bl _ :: _, _, h => by cases h
  | .int _ :: _, _, h => by cases h
  | .byt _ :: _, _, h => by cases h
  | .ty _ :: _, _, h => by cases h
  | .cls _ :: _, _, h => by cases h
  | .tup _ :: _, _, h => by cases h
  | .lst _ :: _, _, h => by cases h
  | .dic _ _ :: _, _, h => by cases h
  | .fdc _ _ :: _, _, h => by cases h
  | .ndc _ _ :: _, _, h => by cases h
  | .fnc _ _ :: _, _, h => by cases h
  | .obj _ _ _ :: _, _, h => by cases h
  | .ref _ :: _, _, h => by cases h
  | .scr _ :: _, _, h => by cases h
theorem reps_strs_eq : ∀ {xs : List Str} {vs : List V}, Reps K Γ w (xs.map D.str) vs → vs = xs.map V.str
  | [], vs, r => by simp only [List.map_nil, Reps, RepsC] at r; exact r
  | x :: xs, vs, r => by
    obtain ⟨v, ws, rfl, r1, r2⟩ := reps_inv r
    rw [rep_str r1, reps_strs_eq r2]
    rfl
def opJoin : D → D → Sto → Out D := fun d e S => match d, (seqOf S e).bind strsOf with
  | .str a, some ys => if (ys.map (·.length)).sum + ys.length * a.length ≤ 16777216 then .ok (.str (Txt.join a ys)) S else .bad
  | _, _ => .bad
theorem mm_join : M1M K Γ (rJoin K) opJoin := ⟨fun w d e x y Q ex o hx hy p => by
  unfold opJoin at p
  split at p
  · rename_i a ys h
    split at p
    · rename_i hl
      cases z : seqOf w.S e with
      | none => rw [z] at h; cases h
      | some ds =>
        rw [z] at h
        obtain ⟨b, vs, rfl, b1, b2, b3⟩ := seqOf_ok o hy z
        rw [strs_eq h] at b3
        rw [reps_strs_eq b3] at b1
        exact ⟨a, b, ys, rep_str hx, rfl, b1, hl, Post.now p o _ (by simp only [Rep, RepC])⟩
    · exact False.elim p
  · exact False.elim p⟩
def idxD (x : D) : List D → Option Nat
  | [] => none
  | d :: ds => if eqF d x then some 0 else (idxD x ds).map (· + 1)
def mIndex (mo me : ME) : ME := fun δ S => bnd (mo δ S) fun d S => if (listOf S d).isSome = true then bnd (me δ S) fun y S => match listOf S d with
    | some ds => if flatD y && ds.all flatD then match idxD y ds with
      | some j => .ok (.int (j : Nat)) S
      | none => .bad
      else .bad
    | none => .bad
  else .bad
theorem idx_reps {x : D} {u : V} (hx : flatD x = true) (rx : Rep K Γ w x u) : ∀ {ds : List D} {vs : List V} {j : Nat}, ds.all flatD = true → Reps K Γ w ds vs → idxD x ds = some j → ∃ z, vs[j]? = some z ∧ eqV z u = true ∧ ∀ (m : Nat) (z' : V), m < j → vs[m]? = some z' → eqV z' u = false
  | [], vs, j, _, _, e => by cases e
  | d :: ds, vs, j, h, r, e => by
    obtain ⟨v, ws, rfl, r1, r2⟩ := reps_inv r
    rw [List.all_cons, Bool.and_eq_true] at h
    unfold idxD at e
    have q := eqF_rep h.1 hx r1 rx
    by_cases z : eqF d x = true
    · rw [if_pos z] at e
      cases e
      exact ⟨v, rfl, by rw [q, z], fun m z' hm => absurd hm (Nat.not_lt_zero _)⟩
    · rw [if_neg z] at e
      cases y : idxD x ds with
      | none => rw [y] at e; cases e
      | some k =>
        rw [y] at e
        cases e
        obtain ⟨z', h1, h2, h3⟩ := idx_reps hx rx h.2 r2 y
        refine ⟨z', by simpa using h1, h2, fun m u' hm hu => ?_⟩
        cases m with
        | zero => simp at hu; subst hu; rw [q]; simpa using z
        | succ m => exact h3 m u' (Nat.lt_of_succ_lt_succ hm) (by simpa using hu)
theorem sim_index (ho : SimP K Γ xa W to mo) (h : SimE K Γ xa W te me) : SimE K Γ xa W (tBM K "list" (rIndex K) to (tCons te tNil)) (mIndex mo me) := ⟨fun w0 w σ δ Q o e n p =>
  ho.run w0 w σ δ _ o e n (p.then fun x w1 o1 e1 p1 v r1 => by
    split at p1
    · rename_i hs
      cases hz : listOf w1.S x with
      | none => rw [hz] at hs; cases hs
      | some ds0 =>
      obtain ⟨a, vs, rfl, a1, a2, a3⟩ := listOf_ok o1 r1 hz
      refine ⟨tyV_list a1, ?_⟩
      refine h.run w0 w1 σ δ _ o1 (e.trans e1) (n.ev e1) (p1.then fun y w2 o2 e2 p2 u r2 => ?_)
      show rIndex K (.ref a) [u] w2.H Q
      split at p2
      · rename_i ds hd
        split at p2
        · rename_i hf
          rw [Bool.and_eq_true] at hf
          split at p2
          · rename_i j hj
            obtain ⟨b, us, eb, b1, b2, b3⟩ := listOf_ok o2 (r1.ev e2) hd
            cases eb
            obtain ⟨z, z1, z2, z3⟩ := idx_reps hf.1 r2 hf.2 b3 hj
            exact ⟨a, us, u, j, z, rfl, rfl, b1, flat_rep hf.1 r2, flats_reps hf.2 b3, z1, z2, z3, Post.now p2 o2 _ (by simp only [Rep, RepC])⟩
          · exact False.elim p2
        · exact False.elim p2
      · exact False.elim p2
    · exact False.elim p1)⟩
/-- a new thing is put into the store at once -/
def mCell (me : ME) : ME := fun δ S => bnd (me δ S) fun d S => .ok (.ref S.length) (S ++ [some d])
theorem sim_cell (h : SimF K Γ xa W te me) : SimE K Γ xa W te (mCell me) := ⟨fun w0 w σ δ Q o e n p =>
  h.run w0 w σ δ _ o e n (p.thenE fun d w1 q o1 e1 _ a oa => by
    have p' : Post K Γ (bnd (me δ w.S) fun d S => .ok (.ref S.length) (S ++ [some d])) w (fun d w' => ∀ v, Rep K Γ w' d v → Q v w'.H) (XW K Γ W σ) := p
    rw [q] at p'
    exact p' (wAdd w1 a d) rfl (ok_add o1 oa.r oa.nl oa.at_) (ev_add o1 e1 oa.new) _ (rep_ref o1))⟩
end
end MR

namespace MR
open PySem PySem.Spec PyProof.Rows L2 TP
section
variable {K : PySem.W.Frag} {Γ : Gm} {xa : XT} {W : WX} {te ta tb to ti tv : TE} {me ma mb mo mk mv : ME} {w w' w0 w1 : Wd} {tl : TA} {ml : MA} {n N c : Nat} {C : Addr} {m : MF} {Dn : Ends}
/-- .. and how they stand to the built-in ones when compared -/
structure ClsG (K : PySem.W.Frag) (Γ : Gm) (N : Nat) : Prop extends ClsF K Γ N where
  nt : ∀ c, c < N → ∀ t ∈ kinds, PySem.W.notFirst K (Γ c) (.type t) = true
  nc : ∀ c c', c < N → c' < N → PySem.W.notFirst K (Γ c) (.ref (Γ c')) = true
def isObj (S : Sto) (c : Nat) (d : D) : Bool := match objOf S d with
  | some (c', _, _) => c' == c
  | none => false
def negB (neg : Bool) (d : D) (S : Sto) : Out D := match d with
  | .bl b => .ok (.bl (xor neg b)) S
  | _ => .bad
/-- x == y, x <= y .. by an own method of x -/
def mCmpO (N c : Nat) (neg : Bool) (m : MF) (ma mb : ME) : ME := fun δ S => bnd (ma δ S) fun x S => bnd (mb δ S) fun y S => if isObj S c x && decide (c < N) then match kindD S y with
    | some (.t _) => bnd (m [x, y] S) (negB neg)
    | some (.c c') => if c' < N then bnd (m [x, y] S) (negB neg) else .bad
    | none => .bad
  else .bad
/-- x | y .. by an own method, both of the class -/
def mBinO (c : Nat) (m : MF) (ma mb : ME) : ME := fun δ S => bnd (ma δ S) fun x S => bnd (mb δ S) fun y S => if isObj S c x && isObj S c y then m [x, y] S else .bad
/-- .. the second one an int -/
def mBinI (c : Nat) (m : MF) (ma mb : ME) : ME := fun δ S => bnd (ma δ S) fun x S => bnd (mb δ S) fun y S => match y with
  | .int _ => if isObj S c x then m [x, y] S else .bad
  | _ => .bad
/-- v in o -/
def mInZ (c : Nat) (neg : Bool) (m : MF) (ma mb : ME) : ME := fun δ S => bnd (ma δ S) fun x S => bnd (mb δ S) fun y S => if isObj S c y then bnd (m [y, x] S) (negB neg) else .bad
/-- len(o) -/
def mLenZ (c : Nat) (m : MF) (ml : MA) : ME := fun δ S => bnd (ml δ S) fun ds S => match ds with
  | [x] => if isObj S c x then bnd (m [x] S) fun r S => match r with
      | .int k => if 0 ≤ k ∧ k < 9223372036854775808 then .ok (.int k) S else .bad
      | _ => .bad
    else .bad
  | _ => .bad
/-- i += e -/
def mAug (i : Nat) (f : Int → Int → Int) (me : ME) : MS := fun δ S => match δ[i]? with
  | some (.val (.int x)) => bndS (me δ S) δ fun y S => match y with
    | .int y => .ok (.nx (δ.set i (.val (.int (f x y))))) S
    | _ => .bad
  | _ => .bad
end
end MR

namespace MR
open PySem PySem.Spec PyProof.Rows L2 TP
section
variable {K : PySem.W.Frag} {Γ : Gm} {xa : XT} {W : WX}
/-- isinstance(e, T), e the error that is handled -/
structure IsxF (K : PySem.W.Frag) (Γ : Gm) (tab : List (Nat × Bool)) (cv : V) (cu : Value) : Prop where
  cls : ClsV cv cu
  ok : ∀ p ∈ tab, ExcC K (Γ p.1) ∧ PySem.W.kitOne K (.ref (Γ p.1)) cu = some p.2
def mIsX (i : Nat) (tab : List (Nat × Bool)) : ME := fun δ S => match δ[i]? with
  | some (.exn c (_ :: _) _) => match tab.lookup c with
    | some b => .ok (.bl b) S
    | none => .bad
  | _ => .bad
theorem sim_isX {i : Nat} {tab : List (Nat × Bool)} {cv : V} {cu : Value} (F : IsxF K Γ tab cv cu) : SimE K Γ xa W (tCB (rIsX K xa.a xa.cls xa.d) (tCons (tVar i) (tCons (tC cv) tNil))) (mIsX i tab) := ⟨fun w0 w σ δ Q o e n p => by
  unfold mIsX at p
  split at p
  · rename_i c n1 ns ds hd
    obtain ⟨x, hx, rfl, h2, hX⟩ := n.get hd
    obtain ⟨dd, vs, h3, h4, h5, h6⟩ : ∃ dd vs, xa.d = some dd ∧ w.R dd = some (.xd ((n1 :: ns).zip vs)) ∧ (n1 :: ns).length = vs.length ∧ Reps K Γ w ds vs := by
      rcases hX with h | ⟨_, e, _⟩
      · exact h
      · cases e
    split at p
    · rename_i b hb
      obtain ⟨k1, k2⟩ := F.ok (c, b) (lookup_mem hb)
      exact ⟨_, hx, Γ c, dd, _, cv, cu, b, h2, k1, h3, o.same _ _ h4, rfl, F.cls, k2, Post.now p o _ (by simp only [Rep, RepC])⟩
    · exact False.elim p
  · exact False.elim p⟩
end
theorem all_some {α : Type} {f : α → Option Bool} {l : List α} {b : Bool} (h : (l.all fun x => f x == some b) = true) : ∀ x ∈ l, f x = some b := fun x hx => by
  have := List.all_eq_true.mp h x hx
  simpa using this
theorem all_true {α : Type} {f : α → Bool} {l : List α} (h : l.all f = true) : ∀ x ∈ l, f x = true := List.all_eq_true.mp h
/-- the world at the law's entry -/
theorem law_in {K : PySem.W.Frag} {Γ : Gm} {m : MF} {a : Addr} {ns : List Int} {H : Hp} {Q : VK} {E : XK} (hS : SqL K H a (ns.map V.int)) (hl : ns.length ≤ 63) (hm : ∃ S, m [.scr ns] [] = .ok (.bl true) S) (q : ∀ H', Q (.bl true) H') : spM K Γ 1 m [.ref a] H Q E := by
  obtain ⟨S, hm⟩ := hm
  refine ⟨⟨H, [], [], H⟩, [.scr ns], rfl, ⟨fun _ _ e => e, rfl, fun n d e => by simp at e, fun n m d e a h => by simp at h⟩, reps_cons ?_ reps_nil, rfl, ?_⟩
  · simp only [RepC]
    exact ⟨a, rfl, hS, Nat.le_trans hl (by decide)⟩
  · show Post K Γ (m [.scr ns] []) _ _ _
    rw [hm]
    intro w' _ _ _ v r
    rw [rep_bl r]
    exact q _
end MR

namespace TP
open PySem PySem.Spec PyProof.Rows L2
section
variable {prog : Program} {w : World} {A : Around} {E : Value → Shared → Prop} {s : Shared}
end
end TP

namespace TP
open PySem PySem.Spec PyProof.Rows L2
section
variable {X : Cx}
end
end TP

namespace MR
open PySem PySem.Spec PyProof.Rows L2 TP
def insU (x : Int) : List Int → List Int
  | [] => [x]
  | y :: ys => if x < y then x :: y :: ys else if x = y then y :: ys else y :: insU x ys
def sortU : List Int → List Int
  | [] => []
  | x :: xs => insU x (sortU xs)
def intsOf : List D → Option (List Int)
  | [] => some []
  | .int b :: r => (intsOf r).map (b :: ·)
  | _ => none
section
variable {K : PySem.W.Frag} {Γ : Gm} {xa : XT} {W : WX} {te : TE} {me : ME} {w w0 : Wd} {tl : TA} {ml : MA} {n : Nat}
def mSortSet (me : ME) : ME := fun δ S => bnd (me δ S) fun d S => match (listOf S d).bind intsOf with
  | some ns => if ns.length < 63 then .ok (.lst ((sortU ns).map D.int)) S else .bad
  | none => .bad
theorem SimA.s (h : SimA K Γ xa W n tl ml) : SimAs K Γ xa W tl ml := ⟨h.run⟩
def mStar (me : ME) (ml : MA) : MA := fun δ S => bnd (me δ S) fun d S => match d with
  | .tup xs => bnd (ml δ S) fun ys S => .ok (xs ++ ys) S
  | .lst xs => bnd (ml δ S) fun ys S => .ok (xs ++ ys) S
  | _ => .bad
end
end MR

namespace TP
open PySem PySem.Spec PyProof.Rows L2
/-- what a def keeps over all that is given in a row, wherever there is room -/
def FnR (P : Program) (w : World) (K : PySem.W.Frag) (mg : Str → Option Value) (base : Heap) (CX : CXT) (k : Nat) (f : Addr) (sp : Sp) : Prop :=
  ∀ (A : Around) (outer : List Env) (s : Shared) (H : Hp) (us : List Value) (vs : List V) (Q : VK) (E : XK), Room k A → Env0 P w K mg base A outer s H → Vals vs us → sp vs H Q E → codeAny (model P w) A (.call (.ref f) ⟨us, []⟩) (CR CX outer P w H s Q E) s
/-- x(..), x an own class, by a promise over all that is given in a row -/
structure MakV (P : Program) (w : World) (K : PySem.W.Frag) (mg : Str → Option Value) (base : Heap) (k : Nat) (x : Str) (C : Addr) (sp : Sp) : Prop where
  ex : ∃ f : Addr, mg x = some (.ref C) ∧ Mk K C f ∧ FnR P w K mg base (L2.CX P w) k f sp
/-- what a def with a star parameter asks of the row: k ahead, the rest in a tuple -/
def spV (k : Nat) (sp : Sp) : Sp := fun vs H Q E => ∃ ws rest, vs = ws ++ rest ∧ ws.length = k ∧ rest.length ≤ sizeLine ∧ ∀ p, H p = none → sp (ws ++ [V.ref p]) (upd H p (.tup rest)) Q E
section
variable {X : Cx} {k j : Nat} {C : Addr} {sp : Sp} {W : WX} {x : Str} {p p' pos : Pos} {e : Expr} {es : List Expr} {t : TA} {te : TE}
end
/-- .. as it stands: a def with a star parameter behind k others -/
structure StrI (K : PySem.W.Frag) (mg : Str → Option Value) (x : Str) (C : Addr) (qual : Str) (st : Stmt) (ps : List Str) (pv : Str) : Prop where
  ex : ∃ (f : Addr) (oc : Value) (od an : Option Addr) (osl : Array (Option Value)) (dV kV doc pm cdv ct : Value), mg x = some (.ref C) ∧ Mk K C f ∧
    K.lookup f = some ⟨oc, od, .func (PySem.W.fnOf "__init__" qual (defArgs st) (defBody st) (defScope st) dV kV doc pm an cdv ct), osl⟩ ∧ PySem.W.codeIn K cdv qual = true ∧
    ∀ us rest : List Value, us.length = ps.length → bindArgs (PySem.W.fnOf "__init__" qual (defArgs st) (defBody st) (defScope st) dV kV doc pm an cdv ct) ⟨us ++ rest, []⟩ = (newTuple rest >>= fun t => pure (ps.zip us ++ [(pv, t)]))
/-- a def with a star parameter: the rest of the row is a new tuple -/
theorem fn_starG {CX : CXT} {P : Program} {w : World} {K : PySem.W.Frag} {mg : Str → Option Value} {base : Heap} {k : Nat} {f : Addr} {name qual pv : Str} {params : Arguments} {body : List Stmt} {scope : Scope} {dV kV doc pm cdv ct oc : Value} {an od : Option Addr} {osl : Array (Option Value)} {N ps : List Str} {sp : Sp}
    (lk : K.lookup f = some ⟨oc, od, .func (PySem.W.fnOf name qual params body scope dV kV doc pm an cdv ct), osl⟩) (hcd : PySem.W.codeIn K cdv qual = true) (S : FnScope N (ps ++ [pv]) scope) (hCX : StX.CXUp CX)
    (hb : ∀ us rest : List Value, us.length = ps.length → bindArgs (PySem.W.fnOf name qual params body scope dV kV doc pm an cdv ct) ⟨us ++ rest, []⟩ = (newTuple rest >>= fun t => pure (ps.zip us ++ [(pv, t)])))
    (hbody : ∀ (A : Around) (outer : List Env) (s : Shared) (H : Hp) (vs : List V) (Q : VK) (E : XK), Room k (A.deeper (envOfC qual scope s.heap.objs.size f cdv)) → sp vs H Q E →
      ∃ t, PSs (cxOf CX P w K mg base N qual scope f cdv A outer s H E) body t ∧ t { nx := fun _ H' => Q .non H', rt := Q } (L2.start N vs) H) : FnR P w K mg base CX (k + 1) f (spV ps.length sp) := by
  rintro A outer s H us vs Q E hr e0 r ⟨ws, rest, rfl, hl, hz, hq⟩
  obtain ⟨u1, u2, rfl, r1, r2⟩ := StX.vals_split r
  have l1 : ps.length = u1.length := by rw [← hl]; exact r1.length
  have free : H s.heap.objs.size = none := e0.hok.fresh (Nat.le_refl _)
  refine StX.run_bnd lk hcd S hr.toRoom e0 (G := fun xs H2 => ∃ p, H p = none ∧ xs = ws ++ [V.ref p] ∧ H2 = upd H p (.tup rest)) (fun A' Ex Q' h => ?_) ?_
  · have new : ObjOk P w (upd H s.heap.objs.size (.tup rest)) (s.heap.push ({ cls := .type "tuple", data := .seq u2.toArray } : Obj)) s.heap.objs.size (.tup rest) := ⟨hz, u2, r2, ⟨_, Heap.get?_push_size _ rfl, rfl, _, rfl⟩⟩
    have un := StX.un_laid (fs := frs outer) (s := s) (o := ({ cls := .type "tuple", data := .seq u2.toArray } : Obj)) (u := .tup rest) free
    have z := h _ _ (ws ++ [V.ref s.heap.objs.size]) (u1 ++ [Value.ref s.heap.objs.size]) (StX.env0_laid e0 new) un rfl (fun e s' => hCX outer s H _ _ E e s' un (fun b o q => Heap.get?_push_of_some _ q) rfl) (r1.append (.cons rfl .nil)) (by rw [List.length_append, List.length_append, hl] <;> rfl) ⟨_, free, rfl, rfl⟩
    rw [List.zip_append l1] at z
    rw [hb u1 u2 l1.symm]
    exact wpAny_bind (wpAny_newTuple (wpAny_pure z) (by rw [← r2.length]; exact hz))
  · rintro s2 H2 xs ⟨p, hp, rfl, rfl⟩ hr'
    exact hbody A outer s2 _ _ Q E ⟨hr', hr.gd⟩ (hq p hp)
theorem StrI.okZ {P : Program} {w : World} {K : PySem.W.Frag} {mg : Str → Option Value} {base : Heap} {C : Addr} {x qual pv : Str} {st : Stmt} {N ps : List Str} {k : Nat} {sp : Sp} (F : StrI K mg x C qual st ps pv) (S : FnScope N (ps ++ [pv]) (defScope st)) {t : XK → TS}
    (hd : ∀ (f : Addr) (cdv : Value) (A : Around) (outer : List Env) (s : Shared) (H : Hp) (E : XK), Room k (A.deeper (envOfC qual (defScope st) s.heap.objs.size f cdv)) → PSs (cxOf (L2.CX P w) P w K mg base N qual (defScope st) f cdv A outer s H E) (defBody st) (t E))
    (hb : ∀ (H : Hp) (vs : List V) (Q : VK) (E : XK), sp vs H Q E → t E { nx := fun _ H' => Q .non H', rt := Q } (L2.start N vs) H) : MakV P w K mg base (k + 1) x C (spV ps.length sp) := by
  obtain ⟨f, oc, od, an, osl, dV, kV, doc, pm, cdv, ct, hm, M, lk, hcd, hbd⟩ := F.ex
  exact ⟨f, hm, M, fn_starG lk hcd S StX.cxUp hbd fun A outer s H vs Q E hr h => ⟨t E, hd f cdv A outer s H E hr, hb H vs Q E h⟩⟩
end TP

namespace TP
open PySem PySem.Spec PyProof.Rows L2
section
variable {prog : Program} {w : World} {A : Around} {E : Value → Shared → Prop} {s : Shared} {K : PySem.W.Frag} {x C L f f0 dx : Addr} {h₀ : Heap} {m : Str → Option Value} {od : Option Obj} {nm : String}
open PySem.W in
end
/-- what int and C say of an operator that int declines -/
structure MixR (K : PySem.W.Frag) (C : Addr) (m : Str) : Prop where
  l : ∃ g : Addr, PySem.W.findIn K (.ref C) m = some (some (.ref g))
  sub : PySem.W.subIn K (.ref C) (.type "int") = some false
/-- .. and int -/
structure IntOp (nm : String) : Prop where
  ex : ∃ (id n : String) (g : Int → Int → Sem Fin) (b : Builtin), Slot "int" (PySem.dunder nm) id ∧ fillsNumberSlot (.type "int") nm = pure true ∧ entryFor table id = some b ∧ b = Builtin.Int.intBinary n g ∧ ∀ a b, argsOk id ⟨[a, b], []⟩
section
variable {X : Cx} {k j : Nat} {C : Addr} {ps : List Str} {sp : Sp} {W : WX}
end
end TP

namespace TP
open PySem PySem.Spec PyProof.Rows L2
/-- a staticmethod m of C, as it stands -/
structure StaI (K : PySem.W.Frag) (C : Addr) (m qual : Str) (st : Stmt) (ps : List Str) : Prop where
  ex : ∃ (p f : Addr) (fd : FuncData) (mc : Value), ClX.CRead K C mc ∧ PySem.W.findCls K (.ref C) mc m = some (.get (.builtin "staticmethod.__get__") (.ref p) .none (.ref C)) ∧ (∃ rest, PySem.W.recIn K p "staticmethod" = some (.ref f :: rest)) ∧ Fun K m qual st f fd ∧ Binds K fd ps []
theorem StaI.okZ {P : Program} {w : World} {K : PySem.W.Frag} {mg : Str → Option Value} {base : Heap} {C : Addr} {m qual : Str} {st : Stmt} {N ps : List Str} {k : Nat} {sp : Sp} (F : StaI K C m qual st ps) (S : FnScope N ps (defScope st)) (len : ∀ vs H Q E, sp vs H Q E → vs.length = ps.length) {t : XK → TS}
    (hd : ∀ (f : Addr) (cdv : Value) (A : Around) (outer : List Env) (s : Shared) (H : Hp) (E : XK), Room k (A.deeper (envOfC qual (defScope st) s.heap.objs.size f cdv)) → PSs (cxOf (L2.CX P w) P w K mg base N qual (defScope st) f cdv A outer s H E) (defBody st) (t E))
    (hb : ∀ (H : Hp) (vs : List V) (Q : VK) (E : XK), sp vs H Q E → t E { nx := fun _ H' => Q .non H', rt := Q } (start N vs) H) : StaZ P w K mg base (k + 1) C m ps sp := by
  obtain ⟨p, f, fd, mc, h1, h2, h3, F, b⟩ := F.ex
  exact ⟨p, f, fd, mc, h1, h2, h3, F.kp, okG F S len fun cdv A outer s H vs Q E hr h => ⟨t E, hd f cdv A outer s H E hr, hb H vs Q E h⟩, b⟩
end TP

namespace MR
open PySem PySem.Spec PyProof.Rows L2 TP
section
variable {K : PySem.W.Frag} {Γ : Gm} {xa : XT} {W : WX} {w w0 : Wd} {tl : TA} {ml : MA} {n c : Nat} {C : Addr} {m : MI}
/-- C(..), whose __init__ has k parameters and a star one -/
def mNewV (c k : Nat) (m : MI) (ml : MA) : ME := fun δ S => bnd (ml δ S) fun ds S => if k ≤ ds.length ∧ ds.length ≤ 16777216 then bnd (m (ds.take k ++ [.tup (ds.drop k)]) S) fun p S => .ok (.obj c p.1 p.2) S else .bad
end
end MR

namespace MR
open PySem PySem.Spec PyProof.Rows L2 TP
section
variable {K : PySem.W.Frag} {Γ : Gm} {xa : XT} {W : WX} {ta tb : TE} {ma mb : ME} {m : MF} {c : Nat} {C : Addr}
/-- i op o, i an int -/
def mBinR (c : Nat) (m : MF) (ma mb : ME) : ME := fun δ S => bnd (ma δ S) fun x S => bnd (mb δ S) fun y S => match x with
  | .int _ => if isObj S c y then m [y, x] S else .bad
  | _ => .bad
end
end MR

namespace TP
open PySem PySem.Spec PyProof.Rows L2
section
variable {X : Cx} {k j : Nat} {C : Addr} {ps : List Str} {sp : Sp} {W : WX}
end
end TP

namespace MR
open PySem PySem.Spec PyProof.Rows L2 TP
section
variable {K : PySem.W.Frag} {Γ : Gm} {xa : XT} {W : WX} {ta tb : TE} {ma mb : ME} {m : MF} {c : Nat} {C : Addr}
/-- all of these are equal, two by two, and nothing is changed by the asking -/
def EqAll (c : Nat) (m : MF) (S : Sto) (xs ys : List D) : Prop := xs.length = ys.length ∧ ∀ p ∈ xs.zip ys, isObj S c p.1 = true ∧ isObj S c p.2 = true ∧ m [p.1, p.2] S = .ok (.bl true) S
open Classical in
/-- x == y, two lists of own things that are equal -/
noncomputable def mEqL (c : Nat) (m : MF) (ma mb : ME) : ME := fun δ S => bnd (ma δ S) fun x S => bnd (mb δ S) fun y S => match x, y with
  | .lst xs, .lst ys => if EqAll c m S xs ys then .ok (.bl true) S else .bad
  | _, _ => .bad
end
end MR

namespace TP
open PySem PySem.Spec PyProof.Rows L2
/-- C.f, a property that raises nothing -/
structure PrpZ (P : Program) (w : World) (K : PySem.W.Frag) (mg : Str → Option Value) (base : Heap) (k : Nat) (C : Addr) (f : Str) (ps : List Str) (sp : Sp) : Prop where
  ex : ∃ (p g : Addr) (fd : FuncData), PropOf K C f p g ∧ L2.FnOk P w K mg base (L2.CX P w) k g fd ps sp ∧ Binds K fd ps []
section
variable {X : Cx} {k j : Nat} {C : Addr} {f : Str} {ps : List Str} {sp : Sp} {e : Expr} {pos : Pos} {ta : TE}
end
/-- where a parameter's value comes from -/
inductive Src where
  | pos (i : Nat)
  | kw (i : Nat)
  | dfl (i : Nat)
def pick {α : Type} (us ws ds : List α) : Src → Option α
  | .pos i => us[i]?
  | .kw i => ws[i]?
  | .dfl i => ds[i]?
def arr {α : Type} (src : List Src) (us ws ds : List α) : List α := src.filterMap (pick us ws ds)
theorem vals_get {vs : List V} {us : List Value} (h : Vals vs us) (i : Nat) : (vs[i]? = none ∧ us[i]? = none) ∨ ∃ v u, vs[i]? = some v ∧ us[i]? = some u ∧ RelV v u := by
  induction h generalizing i with
  | nil => exact .inl ⟨by simp, by simp⟩
  | cons r t ih =>
    cases i with
    | zero => exact .inr ⟨_, _, rfl, rfl, r⟩
    | succ i => simpa using ih i
theorem arr_vals {src : List Src} {vs zs dv : List V} {us ws ds : List Value} (h1 : Vals vs us) (h2 : Vals zs ws) (h3 : Vals dv ds) : Vals (arr src vs zs dv) (arr src us ws ds) := by
  induction src with
  | nil => exact .nil
  | cons s src ih =>
    have key : (pick vs zs dv s = none ∧ pick us ws ds s = none) ∨ ∃ v u, pick vs zs dv s = some v ∧ pick us ws ds s = some u ∧ RelV v u := by
      cases s with
      | pos i => exact vals_get h1 i
      | kw i => exact vals_get h2 i
      | dfl i => exact vals_get h3 i
    unfold arr at ih ⊢
    rcases key with ⟨e1, e2⟩ | ⟨v, u, e1, e2, r⟩
    · rw [List.filterMap_cons_none e1, List.filterMap_cons_none e2]; exact ih
    · rw [List.filterMap_cons_some e1, List.filterMap_cons_some e2]; exact .cons r ih
/-- x(..), n given in a row (without self), ks by name -/
structure MakK (P : Program) (w : World) (K : PySem.W.Frag) (mg : Str → Option Value) (base : Heap) (k : Nat) (x : Str) (C : Addr) (n : Nat) (ks : List Str) (src : List Src) (dvs : List V) (ps : List Str) (sp : Sp) : Prop where
  ex : ∃ (f : Addr) (fd : FuncData) (its : List Value), mg x = some (.ref C) ∧ Mk K C f ∧ FnOk P w K mg base (L2.CX P w) k f fd ps sp ∧ Vals dvs its ∧
    ∀ (s : Shared) (v : Value) (us ws : List Value), K.In s.heap → us.length = n → ws.length = ks.length → BindsTo s fd ⟨v :: us, ks.zip ws⟩ (ps.zip (v :: arr src us ws its))
section
variable {X : Cx} {k j n : Nat} {C : Addr} {sp : Sp} {W : WX} {x : Str} {p pos : Pos} {e : Expr} {es : List Expr} {kws : List Keyword} {t tkw : TA} {ks ps : List Str} {src : List Src} {dvs : List V}
end
end TP

namespace TP
open PySem PySem.Spec PyProof.Rows L2
/-- .. as it stands -/
structure MkKI (K : PySem.W.Frag) (mg : Str → Option Value) (x : Str) (C : Addr) (m qual : Str) (st : Stmt) (n : Nat) (ks : List Str) (src : List Src) (dvs : List V) (ps : List Str) : Prop where
  ex : ∃ (f : Addr) (fd : FuncData) (its : List Value), mg x = some (.ref C) ∧ Mk K C f ∧ (∃ dvs kws, FunD K m qual (defArgs st) (defBody st) (defScope st) dvs kws f fd) ∧ Vals dvs its ∧
    ∀ (s : Shared) (v : Value) (us ws : List Value), K.In s.heap → us.length = n → ws.length = ks.length → BindsTo s fd ⟨v :: us, ks.zip ws⟩ (ps.zip (v :: arr src us ws its))
/-- a property as it stands -/
structure PrpI (K : PySem.W.Frag) (C : Addr) (f qual : Str) (st : Stmt) (ps : List Str) : Prop where
  ex : ∃ (p g : Addr) (fd : FuncData), PropOf K C f p g ∧ Fun K f qual st g fd ∧ Binds K fd ps []
section
variable {P : Program} {w : World} {K : PySem.W.Frag} {mg : Str → Option Value} {base : Heap} {C : Addr}
theorem MkKI.okZ {x m qual : Str} {st : Stmt} {n : Nat} {ks : List Str} {src : List Src} {dvs : List V} {N ps : List Str} {k : Nat} {sp : Sp} (F : MkKI K mg x C m qual st n ks src dvs ps) (S : FnScope N ps (defScope st)) (len : ∀ vs H Q E, sp vs H Q E → vs.length = ps.length) {t : XK → TS}
    (hd : ∀ (f : Addr) (cdv : Value) (A : Around) (outer : List Env) (s : Shared) (H : Hp) (E : XK), Room k (A.deeper (envOfC qual (defScope st) s.heap.objs.size f cdv)) → PSs (cxOf (L2.CX P w) P w K mg base N qual (defScope st) f cdv A outer s H E) (defBody st) (t E))
    (hb : ∀ (H : Hp) (vs : List V) (Q : VK) (E : XK), sp vs H Q E → t E { nx := fun _ H' => Q .non H', rt := Q } (start N vs) H) : MakK P w K mg base (k + 1) x C n ks src dvs ps sp := by
  obtain ⟨f, fd, its, at_, M, ⟨dv', kws, F⟩, hv, b⟩ := F.ex
  exact ⟨f, fd, its, at_, M, okGD F S len fun cdv A outer s H vs Q E hr h => ⟨t E, hd f cdv A outer s H E hr, hb H vs Q E h⟩, hv, b⟩
theorem PrpI.okZ {f qual : Str} {st : Stmt} {N ps : List Str} {k : Nat} {sp : Sp} (F : PrpI K C f qual st ps) (S : FnScope N ps (defScope st)) (len : ∀ vs H Q E, sp vs H Q E → vs.length = ps.length) {t : XK → TS}
    (hd : ∀ (f : Addr) (cdv : Value) (A : Around) (outer : List Env) (s : Shared) (H : Hp) (E : XK), L2.Room k (A.deeper (envOfC qual (defScope st) s.heap.objs.size f cdv)) → PSs (cxOf (L2.CX P w) P w K mg base N qual (defScope st) f cdv A outer s H E) (defBody st) (t E))
    (hb : ∀ (H : Hp) (vs : List V) (Q : VK) (E : XK), sp vs H Q E → t E { nx := fun _ H' => Q .non H', rt := Q } (start N vs) H) : PrpZ P w K mg base (k + 1) C f ps sp := by
  obtain ⟨p, g, fd, hp, F, b⟩ := F.ex
  exact ⟨p, g, fd, hp, F.okX S len fun cdv A outer s H vs Q E hr h => ⟨t E, hd g cdv A outer s H E hr, hb H vs Q E h⟩, b⟩
end
end TP

namespace MR
open PySem PySem.Spec PyProof.Rows L2 TP
section
variable {K : PySem.W.Frag} {Γ : Gm} {xa : XT} {W : WX} {te : TE} {me : ME} {m : MF} {c : Nat} {C : Addr} {tl tk : TA} {ml mk : MA} {n1 n2 : Nat}
theorem reps_pick {w : Wd} : ∀ {ds : List D} {vs : List V}, Reps K Γ w ds vs → ∀ i : Nat, (ds[i]? = none ∧ vs[i]? = none) ∨ ∃ d v, ds[i]? = some d ∧ vs[i]? = some v ∧ Rep K Γ w d v
  | [], vs, h, i => by
    obtain rfl : vs = [] := h
    exact .inl ⟨by simp, by simp⟩
  | d :: ds, vs, h, i => by
    obtain ⟨v, ws, rfl, r, t⟩ := reps_inv h
    cases i with
    | zero => exact .inr ⟨d, v, rfl, rfl, r⟩
    | succ i => simpa using reps_pick t i
theorem arr_reps {w : Wd} {src : List Src} {ds es fs : List D} {vs zs dv : List V} (h1 : Reps K Γ w ds vs) (h2 : Reps K Γ w es zs) (h3 : Reps K Γ w fs dv) : Reps K Γ w (arr src ds es fs) (arr src vs zs dv) := by
  induction src with
  | nil => exact reps_nil
  | cons s src ih =>
    have key : (pick ds es fs s = none ∧ pick vs zs dv s = none) ∨ ∃ d v, pick ds es fs s = some d ∧ pick vs zs dv s = some v ∧ Rep K Γ w d v := by
      cases s with
      | pos i => exact reps_pick h1 i
      | kw i => exact reps_pick h2 i
      | dfl i => exact reps_pick h3 i
    unfold arr at ih ⊢
    rcases key with ⟨e1, e2⟩ | ⟨v, u, e1, e2, r⟩
    · rw [List.filterMap_cons_none e1, List.filterMap_cons_none e2]; exact ih
    · rw [List.filterMap_cons_some e1, List.filterMap_cons_some e2]; exact reps_cons r ih
end
end MR

namespace MR
open PySem PySem.Spec L2 TP
variable {K : PySem.W.Frag} {Γ : Gm} {w w0 w1 w' : Wd} {xa : XT} {W : WX} {te ta : TE} {me ma : ME} {tl : TA} {ml : MA} {n : Nat} {m : MF}
end MR

namespace TP
open PySem PySem.Spec PyProof.Rows L2
end TP
namespace MR
open PySem PySem.Spec L2 TP
variable {K : PySem.W.Frag} {Γ : Gm} {w w0 w1 w' : Wd} {xa : XT} {W : WX} {te tk : TE} {me mk : ME}
end MR

namespace TP
open PySem PySem.Spec PyProof.Rows L2
end TP
namespace MR
open PySem PySem.Spec L2 TP
variable {K : PySem.W.Frag} {Γ : Gm} {w w0 w1 w' : Wd} {xa : XT} {W : WX} {te tk : TE} {me mk : ME}
end MR

namespace MR
open PySem PySem.Spec L2 TP
variable {K : PySem.W.Frag} {Γ : Gm} {w w0 w1 w' : Wd} {xa : XT} {W : WX} {te tk : TE} {me mk : ME}
def deS (S : Sto) (d : D) : D := match d with
  | .ref n => match S[n]? with
    | some (some (.lst ds)) => .lst ds
    | _ => .ref n
  | d => d
theorem dp_deS {d : D} {v : V} (o : Ok K Γ w) (h : okN 9 (deS w.S d) = true) (r : Pk K Γ w d v) : Dp K w.H v (toPy (deS w.S d)) := by
  cases d with
  | ref n =>
    unfold deS at h ⊢
    dsimp only at h ⊢
    split at h
    · rename_i ds hs
      rcases r with r | ⟨_, a, rfl, oa⟩
      · obtain ⟨a, h1, h2⟩ := (show ∃ a, w.ρ[n]? = some a ∧ v = .ref a by simpa only [Rep, RepC] using r)
        subst h2
        obtain ⟨b, e1, _, vs, e2, _, e3⟩ := o.cell n _ hs
        rw [h1] at e1
        cases e1
        simp only [toPy]
        unfold okN at h
        exact .lst (SqL.of e2) (dpall_of (n := 8) o ds vs h e3)
      · exact False.elim oa.at_
    · unfold okN at h; cases h
  | _ => exact dp_pk (n := 8) h o r
theorem shp {d : D} (h : okN 9 d = true) : SeqAt.shaped (toPy d) = true := by
  have s := shaped_of 9 d h
  unfold SeqAt.shaped
  rw [s.1, decide_eq_true (Nat.le_trans s.2 (by decide))]; rfl
end MR

namespace MR
open PySem PySem.Spec L2 TP
abbrev Nxt := Nat → Sto → Option (Option D)
abbrev MN := Env → Sto → Out Nxt
structure ItemsD (K : PySem.W.Frag) (Γ : Gm) (w : Wd) (J : It) (nx : Nxt) : Prop where
  lim : ∀ w1 i d, Ok K Γ w1 → Gr w w1 → nx i w1.S = some (some d) → i < sizeLine
  go : ∀ w1 i d, Ok K Γ w1 → Gr w w1 → nx i w1.S = some (some d) → J.go i w1.H
  yld : ∀ w1 i d x H', Ok K Γ w1 → Gr w w1 → nx i w1.S = some (some d) → J.yld i w1.H x H' → ∃ w2, w2.H = H' ∧ w2.S = w1.S ∧ Ok K Γ w2 ∧ Ev w1 w2 ∧ Rep K Γ w2 d x
  stop : ∀ w1 i, Ok K Γ w1 → Gr w w1 → nx i w1.S = some none → J.stop i w1.H
structure SimDI (K : PySem.W.Frag) (Γ : Gm) (xa : XT) (W : WX) (wi : TI) (mi : MN) : Prop where
  run : ∀ (w0 w : Wd) (σ : L2.St) (δ : Env) (R : It → Hp → Prop), Ok K Γ w → Ev w0 w → EnvOk K Γ xa w0 w σ δ → Post K Γ (mi δ w.S) w (fun nx w' => ∀ J, ItemsD K Γ w' J nx → R J w'.H) (XW K Γ W σ) → wi σ w.H R
section
variable {K : PySem.W.Frag} {Γ : Gm} {xa : XT} {W : WX} {te : TE} {me : ME} {w w' w0 w1 : Wd} {t : TT} {mt : MT} {ts : TS} {ms : MS} {Dn : Ends} {tl : TA} {ml : MA} {wi : TI} {mi : MN} {tg : TG} {mg : MG} {vs : List Nat}
def lstAt (S : Sto) (n : Nat) : Option (List D) := match S[n]? with
  | some (some (.lst ds)) => some ds
  | _ => none
theorem lstAt_some {S : Sto} {n : Nat} {ds : List D} (h : lstAt S n = some ds) : S[n]? = some (some (.lst ds)) := by
  unfold lstAt at h
  split at h
  · rename_i e; cases h; exact e
  · cases h
end
end MR

namespace GQ
open PySem PySem.SeqAt
open AutoSeq1 (wpAny_loadPart')
open MeetsSeq MeetsSeq2 MeetsSeq3 SeqRoads2
section
variable {prog : Program} {w : World} {A : Around} {R : Result → Shared → Prop}
end
section
variable {prog : Program} {w : World} {A : Around} {E : Value → Shared → Prop} {s : Shared}
end
end GQ
namespace TP
open PySem PySem.Spec PyProof.Rows L2
section
variable {X : Cx} {k j : Nat} {C : Addr} {ps : List Str} {sp : Sp} {W : WX}
end
end TP

namespace MR
open PySem PySem.Spec L2 TP
open Classical in
section
variable {K : PySem.W.Frag} {Γ : Gm} {xa : XT} {W : WX} {ta tb : TE} {ma mb : ME} {w w' w0 w1 w2 : Wd} {c : Nat} {C : Addr} {m : MF}
end
end MR

namespace TP
open PySem PySem.Spec PyProof.Rows L2
end TP
namespace MR
open PySem PySem.Spec L2 TP
variable {K : PySem.W.Frag} {Γ : Gm} {w w0 w1 w' : Wd} {xa : XT} {W : WX} {te : TE} {me : ME} {tl : TA} {ml : MA}
end MR

namespace GQ
open PySem PySem.SeqAt
open AutoSeq1 (wpAny_loadPart')
open MeetsSeq MeetsSeq2 MeetsSeq3 SeqRoads2
section
variable {prog : Program} {w : World} {A : Around} {R : Result → Shared → Prop}
end
section
variable {prog : Program} {w : World} {A : Around} {E : Value → Shared → Prop} {s : Shared}
end
end GQ
namespace TP
open PySem PySem.Spec PyProof.Rows L2
section
variable {X : Cx} {k j : Nat} {C : Addr} {ps : List Str} {sp : Sp} {W : WX}
end
end TP

namespace MR
open PySem PySem.Spec L2 TP
open Classical in
section
variable {K : PySem.W.Frag} {Γ : Gm} {xa : XT} {W : WX} {ta tb : TE} {ma mb : ME} {w w' w0 w1 w2 : Wd} {c : Nat} {C : Addr} {m : MF}
end
end MR

namespace TP
open PySem PySem.Spec PyProof.Rows L2
section
variable {X : Cx}
end
end TP

namespace MR
open PySem PySem.Spec L2 TP
variable {K : PySem.W.Frag} {Γ : Gm} {xa : XT} {W : WX} {te ti : TE} {me mk : ME}
end MR

namespace TP
open PySem PySem.Spec PyProof.Rows L2
inductive HdsA (X : Cx) : List ExceptHandler → List (Value × Nat × (Addr → Value → Option Addr → TS)) → Prop
  | nil : HdsA X [] []
  | cons {x n : Str} {c : Value} {i : Nat} {ts : Addr → Value → Option Addr → TS} {b₀ : Stmt} {suite : List Stmt} {np pos' : Pos} {hds : List ExceptHandler} {l : List (Value × Nat × (Addr → Value → Option Addr → TS))} (hi : X.N[i]? = some n) (hln : X.env.kindOf n = some .local) (hc : Names X x c)
      (hsu : ∀ (a : Addr) (oe : Obj) (cls : Value) (d : Option Addr) (pn : List (Addr × Obj)), Zc cls d oe → (∃ vs, oe.data = .fields vs) → PSs (X.suite a ((a, oe) :: pn)) (b₀ :: suite) (ts a cls d)) (r : HdsA X hds l) :
      HdsA X (.ExceptHandler (some (.Name x np)) (some n) (b₀ :: suite) pos' :: hds) ((c, i, ts) :: l)
section
variable {X : Cx} {body : List Stmt} {h₀ : ExceptHandler} {hds : List ExceptHandler} {l : List (Value × Nat × (Addr → Value → Option Addr → TS))} {pos : Pos} {tb : WX → TS} {Wout : WX}
end
end TP

namespace MR
open PySem PySem.Spec L2 TP
section
variable {K : PySem.W.Frag} {Γ : Gm} {xa : XT} {W : WX} {te : TE} {me : ME} {w w' w0 w1 : Wd} {t t1 : TT} {mt mt1 : MT} {ms : MS} {wi wi1 : TI} {mi mi1 : MA} {tg tg1 : TG} {mg mg1 : MG} {vs vs1 : List Nat}
structure SimX (K : PySem.W.Frag) (Γ : Gm) (xa : XT) (W : WX) (tw : Ends → WX) (mx : Nat → List Str → List D → MS) : Prop where
  run : ∀ (w0 w : Wd) (σ : L2.St) (δ : Env) (Dn : Ends) (c : Nat) (ns : List Str) (ds : List D), Ok K Γ w → Ev w0 w → EnvOk K Γ xa w0 w σ δ → PostS K Γ xa W (mx c ns ds δ w.S) w0 w Dn → ∀ d, XD K Γ w d ns ds → tw Dn (.ref (Γ c)) d σ w.H
end
end MR

namespace TP
open PySem PySem.Spec PyProof.Rows L2
section
variable {X : Cx}
def rMx2 : List V → Hp → VK → Prop := fun xs H Q => ∃ i j, xs = [.int i, .int j] ∧ Q (.int (if j > i then j else i)) H
def rMn2 : List V → Hp → VK → Prop := fun xs H Q => ∃ i j, xs = [.int i, .int j] ∧ Q (.int (if j < i then j else i)) H
theorem cr_mx2 (hc : X.calm = true) : CallR X (.builtin "max") rMx2 := call_max2 hc
theorem cr_mn2 (hc : X.calm = true) : CallR X (.builtin "min") rMn2 := call_min2 hc
end
end TP
namespace MR
open PySem PySem.Spec L2 TP
section
variable {K : PySem.W.Frag} {Γ : Gm} {xa : XT} {W : WX} {w : Wd} {vs : List Nat}
def fMx2 : MF := fun ds S => match ds with
  | [.int i, .int j] => .ok (.int (if j > i then j else i)) S
  | _ => .bad
theorem cm_mx2 : CallM K Γ rMx2 fMx2 := ⟨fun w ds vs Q ex o r p => by
  unfold fMx2 at p
  split at p
  · rename_i i j
    obtain ⟨v, u, rfl, r1, r3⟩ := pks2 r
    exact ⟨i, j, by rw [pk_int r1, pk_int r3], Post.now p o _ (by simp only [Rep, RepC])⟩
  · exact False.elim p⟩
def fMn2 : MF := fun ds S => match ds with
  | [.int i, .int j] => .ok (.int (if j < i then j else i)) S
  | _ => .bad
theorem cm_mn2 : CallM K Γ rMn2 fMn2 := ⟨fun w ds vs Q ex o r p => by
  unfold fMn2 at p
  split at p
  · rename_i i j
    obtain ⟨v, u, rfl, r1, r3⟩ := pks2 r
    exact ⟨i, j, by rw [pk_int r1, pk_int r3], Post.now p o _ (by simp only [Rep, RepC])⟩
  · exact False.elim p⟩
def deN (S : Sto) (d : D) : D := match d with
  | .scr is => .lst (is.map D.int)
  | d => deS S d
theorem dp_deN {d : D} {v : V} (o : Ok K Γ w) (h : okN 9 (deN w.S d) = true) (r : Pk K Γ w d v) : Dp K w.H v (toPy (deN w.S d)) := by
  cases d with
  | scr is =>
    rcases r with r | ⟨_, a, rfl, oa⟩
    · obtain ⟨a, rfl, h1, h2⟩ := (show ∃ a, v = .ref a ∧ SqL K w.R a (is.map V.int) ∧ is.length ≤ sizeLine by simpa only [Rep, RepC] using r)
      show Dp K w.H (.ref a) (toPy (.lst (is.map D.int)))
      simp only [toPy]
      have hr : Reps K Γ w (is.map D.int) (is.map V.int) := reps_ints
      unfold deN okN at h
      exact .lst (sqL_mono o.same h1) (dpall_of (n := 8) o _ _ h hr)
    · exact False.elim oa.at_
  | _ => exact dp_deS (d := _) o (by exact h) r
def opEqN (neg : Bool) : D → D → Sto → Out D := fun d e S => if okN 9 (deN S d) && okN 9 (deN S e) then .ok (.bl (xor neg (eqD (deN S d) (deN S e)))) S else .bad
theorem om_neN : OpM K Γ (rUnlike K) (opEqN true) := ⟨fun w d e x y Q ex o hx hy p => by
  unfold opEqN at p
  split at p
  · rename_i h
    rw [Bool.and_eq_true] at h
    refine .inr ⟨_, _, dp_deN o h.1 hx, dp_deN o h.2 hy, shp h.1, shp h.2, ?_⟩
    rw [Bool.true_xor] at p
    exact Post.now p o _ (by simp only [Rep, RepC]; rfl)
  · exact False.elim p⟩
end
end MR

namespace TP
open PySem PySem.Spec PySem.Calls PyProof.Rows L2
section
variable {M : Model} {A : Around} {E : Value → Shared → Prop} {s : Shared} {K : PySem.W.Frag} {env : PySem.Env} {pos p : Pos} {f : Value} {first : List Value} {Q : Value → Shared → Prop} {h₀ : Heap} {e : Expr} {rest : List Expr}
end
/-- no starred expression -/
def notStar : Expr → Bool
  | .Starred _ _ => false
  | _ => true
/-- n ahead, then what is given by name (or the defaults), then the tuple -/
def spW (k : Nat) (kv : List V) (sp : Sp) : Sp := fun vs H Q E => ∃ ws rest, vs = ws ++ rest ∧ ws.length = k ∧ rest.length ≤ sizeLine ∧ ∀ p, H p = none → sp (ws ++ kv ++ [V.ref p]) (upd H p (.tup rest)) Q E
def FnW (P : Program) (w : World) (K : PySem.W.Frag) (mg : Str → Option Value) (base : Heap) (CX : CXT) (k : Nat) (f : Addr) (ks : List Str) (src : List Src) (dvs : List V) (n : Nat) (sp : Sp) : Prop :=
  ∀ (A : Around) (outer : List Env) (s : Shared) (H : Hp) (us ws : List Value) (vs zs : List V) (Q : VK) (E : XK), Room k A → Env0 P w K mg base A outer s H → Vals vs us → Vals zs ws → zs.length = ks.length → spW n (arr src [] zs dvs) sp vs H Q E → codeAny (model P w) A (.call (.ref f) ⟨us, ks.zip ws⟩) (CR CX outer P w H s Q E) s
structure MakW (P : Program) (w : World) (K : PySem.W.Frag) (mg : Str → Option Value) (base : Heap) (k : Nat) (x : Str) (C : Addr) (ks : List Str) (src : List Src) (dvs : List V) (n : Nat) (sp : Sp) : Prop where
  ex : ∃ f : Addr, mg x = some (.ref C) ∧ Mk K C f ∧ FnW P w K mg base (L2.CX P w) k f ks src dvs n sp
section
variable {X : Cx} {k j n : Nat} {C : Addr} {sp : Sp} {W : WX} {x : Str} {p pos : Pos} {e : Expr} {es : List Expr} {kws : List Keyword} {t tkw : TA} {ks : List Str} {src : List Src} {dvs : List V}
end
/-- the def as it stands: what it binds -/
structure StWI (K : PySem.W.Frag) (mg : Str → Option Value) (x : Str) (C : Addr) (qual : Str) (st : Stmt) (ks : List Str) (src : List Src) (dvs : List V) (ps kn : List Str) (pv : Str) : Prop where
  ex : ∃ (f : Addr) (oc : Value) (od an : Option Addr) (osl : Array (Option Value)) (dV kV doc pm cdv ct : Value) (its : List Value), mg x = some (.ref C) ∧ Mk K C f ∧
    K.lookup f = some ⟨oc, od, .func (PySem.W.fnOf "__init__" qual (defArgs st) (defBody st) (defScope st) dV kV doc pm an cdv ct), osl⟩ ∧ PySem.W.codeIn K cdv qual = true ∧ Vals dvs its ∧
    ∀ (M : Model) (A : Around) (E : Value → Shared → Prop) (Q : List (Str × Value) → Shared → Prop) (s : Shared) (us rest ws : List Value), K.In s.heap → us.length = ps.length → ws.length = ks.length → wpAny M A (newTuple rest >>= fun t => pure (ps.zip us ++ kn.zip (arr src [] ws its) ++ [(pv, t)])) Q E s → wpAny M A (bindArgs (PySem.W.fnOf "__init__" qual (defArgs st) (defBody st) (defScope st) dV kV doc pm an cdv ct) ⟨us ++ rest, ks.zip ws⟩) Q E s
theorem StWI.okZ {P : Program} {w : World} {K : PySem.W.Frag} {mg : Str → Option Value} {base : Heap} {C : Addr} {x qual pv : Str} {st : Stmt} {ks : List Str} {src : List Src} {dvs : List V} {N ps kn : List Str} {k : Nat} {sp : Sp} (F : StWI K mg x C qual st ks src dvs ps kn pv) (S : FnScope N (ps ++ kn ++ [pv]) (defScope st)) (hsrc : src.length = kn.length) (hlen : ∀ zs : List V, zs.length = ks.length → (arr src [] zs dvs).length = kn.length) {t : XK → TS}
    (hd : ∀ (f : Addr) (cdv : Value) (A : Around) (outer : List Env) (s : Shared) (H : Hp) (E : XK), Room k (A.deeper (envOfC qual (defScope st) s.heap.objs.size f cdv)) → PSs (cxOf (L2.CX P w) P w K mg base N qual (defScope st) f cdv A outer s H E) (defBody st) (t E))
    (hb : ∀ (H : Hp) (vs : List V) (Q : VK) (E : XK), sp vs H Q E → t E { nx := fun _ H' => Q .non H', rt := Q } (L2.start N vs) H) : MakW P w K mg base (k + 1) x C ks src dvs ps.length sp := by
  obtain ⟨f, oc, od, an, osl, dV, kV, doc, pm, cdv, ct, its, hm, M, lk, hcd, hv, hbd⟩ := F.ex
  refine ⟨f, hm, M, ?_⟩
  rintro A outer s H us ws vs zs Q E hr e0 r rz lz ⟨w1, rest, rfl, hl, hz, hq⟩
  obtain ⟨u1, u2, rfl, r1, r2⟩ := StX.vals_split r
  have l1 : ps.length = u1.length := by rw [← hl]; exact r1.length
  have lw : ws.length = ks.length := by rw [← rz.length]; exact lz
  have rk : Vals (arr src [] zs dvs) (arr src [] ws its) := arr_vals .nil rz hv
  have lk2 : (arr src [] zs dvs).length = kn.length := hlen zs lz
  have lk3 : kn.length = (arr src [] ws its).length := by rw [← lk2]; exact rk.length
  have KX : K.In s.heap := e0.mod.kin.keeps fun b o e => (e0.bs b o e).1
  have free : H s.heap.objs.size = none := e0.hok.fresh (Nat.le_refl _)
  refine StX.run_bnd lk hcd S hr.toRoom e0 (G := fun xs H2 => ∃ p, H p = none ∧ xs = w1 ++ arr src [] zs dvs ++ [V.ref p] ∧ H2 = upd H p (.tup rest)) (fun A' Ex Q' h => ?_) ?_
  · have new : ObjOk P w (upd H s.heap.objs.size (.tup rest)) (s.heap.push ({ cls := .type "tuple", data := .seq u2.toArray } : Obj)) s.heap.objs.size (.tup rest) := ⟨hz, u2, r2, ⟨_, Heap.get?_push_size _ rfl, rfl, _, rfl⟩⟩
    have un := StX.un_laid (fs := frs outer) (s := s) (o := ({ cls := .type "tuple", data := .seq u2.toArray } : Obj)) (u := .tup rest) free
    have z := h _ _ (w1 ++ arr src [] zs dvs ++ [V.ref s.heap.objs.size]) (u1 ++ arr src [] ws its ++ [Value.ref s.heap.objs.size]) (StX.env0_laid e0 new) un rfl (fun e s' => StX.cxUp outer s H _ _ E e s' un (fun b o q => Heap.get?_push_of_some _ q) rfl) ((r1.append rk).append (.cons rfl .nil)) (by rw [List.length_append, List.length_append, List.length_append, List.length_append, hl, lk2] <;> rfl) ⟨_, free, rfl, rfl⟩
    rw [List.zip_append (by rw [List.length_append, List.length_append, l1, lk3]), List.zip_append l1] at z
    refine hbd _ _ _ _ _ u1 u2 ws KX l1.symm lw ?_
    exact wpAny_bind (wpAny_newTuple (wpAny_pure z) (by rw [← r2.length]; exact hz))
  · rintro s2 H2 xs ⟨p, hp, rfl, rfl⟩ hr'
    exact ⟨t E, hd f cdv A outer s2 _ E ⟨hr', hr.gd⟩, hb _ _ Q E (hq p hp)⟩
end TP

namespace MR
open PySem PySem.Spec PyProof.Rows L2 TP
section
variable {K : PySem.W.Frag} {Γ : Gm} {xa : XT} {W : WX} {c : Nat} {C : Addr} {tl tk : TA} {ml mk : MA} {n2 : Nat}
end
end MR

namespace PySem
open Sem (wp)
open AutoSeq1 (wpAny_loadPart')
end PySem
namespace TP
open PySem PySem.Spec PyProof.Rows L2
end TP

namespace PySem.W
open PySem PySem.Calls PyProof.Rows
end PySem.W
namespace TP
open PySem PySem.Spec PyProof.Rows L2
section
variable {X : Cx} {k j : Nat} {C : Addr} {ps : List Str} {sp : Sp} {W : WX}
/-- what the kinds of data and C say of such an operator -/
structure MixD (K : PySem.W.Frag) (C : Addr) (m rm : Str) (ts : List String) : Prop where
  r : ∃ rc : Option Value, PySem.W.findIn K (.ref C) rm = some rc ∧ (rc = none ∨ ∃ g : Addr, rc = some (.ref g))
  t : ∀ T ∈ ts, (PySem.W.findIn K (.type T) m).isSome = true ∧ (PySem.W.findIn K (.type T) rm).isSome = true ∧ PySem.W.subIn K (.type T) (.ref C) = some false
end
end TP

namespace MR
open PySem PySem.Spec PyProof.Rows L2 TP
section
variable {K : PySem.W.Frag} {Γ : Gm} {xa : XT} {W : WX} {w : Wd} {tl : TA} {ml : MA} {N c : Nat} {C : Addr} {ta tb : TE} {ma mb : ME} {m : MF}
end
end MR

namespace TP
open PySem PySem.Spec PySem.Calls PyProof.Rows L2
def FnO (P : Program) (w : World) (K : PySem.W.Frag) (mg : Str → Option Value) (base : Heap) (CX : CXT) (k : Nat) (f : Addr) (ks : List Str) (src : List Src) (dvs : List V) (sp : Sp) : Prop :=
  ∀ (A : Around) (outer : List Env) (s : Shared) (H : Hp) (u : Value) (ws : List Value) (v : V) (zs : List V) (Q : VK) (E : XK), Room k A → Env0 P w K mg base A outer s H → RelV v u → Vals zs ws → zs.length = ks.length → sp (v :: arr src [] zs dvs) H Q E → codeAny (model P w) A (.call (.ref f) ⟨[u], ks.zip ws⟩) (CR CX outer P w H s Q E) s
structure MakO (P : Program) (w : World) (K : PySem.W.Frag) (mg : Str → Option Value) (base : Heap) (k : Nat) (x : Str) (C : Addr) (ks : List Str) (src : List Src) (dvs : List V) (sp : Sp) : Prop where
  ex : ∃ f : Addr, mg x = some (.ref C) ∧ Mk K C f ∧ FnO P w K mg base (L2.CX P w) k f ks src dvs sp
section
variable {X : Cx} {k j : Nat} {C : Addr} {sp : Sp} {W : WX} {x : Str} {p pos : Pos} {kws : List Keyword} {tkw : TA} {ks : List Str} {src : List Src} {dvs : List V}
theorem run_newO {pins : List (Addr × Obj)} {σ : L2.St} {H : Hp} {s : Shared} {Q : VK} {ws : List Value} {zs : List V} (M : MakO X.prog X.w X.K X.mg X.base k x C ks src dvs sp) (hr : Room (k + 1) X.A) (tk : Takes X W) (I : Inv X pins σ H s) (rz : Vals zs ws) (l2 : zs.length = ks.length)
    (h : ∀ x dx, H x = none → H dx = none → dx ≠ x → sp (.ref x :: arr src [] zs dvs) (upd (upd H dx (.own x)) x (.ins C dx [])) (fun v H2 => v = .non ∧ Q (.ref x) H2) (WE W σ)) : wpAny (model X.prog X.w) X.A (call (.ref C) [] (ks.zip ws)) (EP X pins σ Q) X.xe s := by
  obtain ⟨f, _, M, F⟩ := M.ex
  have hq := h (s.heap.objs.size + 1) s.heap.objs.size (I.hok.fresh (Nat.le_succ _)) (I.hok.fresh (Nat.le_refl _)) (Nat.ne_of_lt (Nat.lt_succ_self _))
  have I2 := Inv.made (C := C) I
  refine wpAny_call (make_map (f := f) I.kIn M.makes M.init (beq_iff_eq.mp M.fn) (codeAny_mono (F _ X.stack _ _ (Value.ref (s.heap.objs.size + 1)) ws (V.ref (s.heap.objs.size + 1)) zs _ (WE W σ) (hr.make C [] (ks.zip ws)) (I2.env0.make C [] (ks.zip ws)) rfl rz l2 hq) fun r s' hq' => ?_))
  cases r with
  | error e => exact passAt tk σ pins _ _ e s' I2 hq'
  | ok fl =>
    cases fl with
    | ret u =>
      obtain ⟨v, H', I3, rv, ev, q3⟩ := I2.after hq'
      subst ev
      exact ⟨rv, ⟨V.ref (s.heap.objs.size + 1), H', I3, rfl, q3⟩⟩
    | next => exact False.elim hq'
    | brk => exact False.elim hq'
    | cont => exact False.elim hq'
end
/-- the def as it stands: what it binds -/
structure StOI (K : PySem.W.Frag) (mg : Str → Option Value) (x : Str) (C : Addr) (qual : Str) (st : Stmt) (ks : List Str) (src : List Src) (dvs : List V) (ps : Str) (kn : List Str) : Prop where
  ex : ∃ (f : Addr) (oc : Value) (od an : Option Addr) (osl : Array (Option Value)) (dV kV doc pm cdv ct : Value) (its : List Value), mg x = some (.ref C) ∧ Mk K C f ∧
    K.lookup f = some ⟨oc, od, .func (PySem.W.fnOf "__init__" qual (defArgs st) (defBody st) (defScope st) dV kV doc pm an cdv ct), osl⟩ ∧ PySem.W.codeIn K cdv qual = true ∧ Vals dvs its ∧
    ∀ (M : Model) (A : Around) (E : Value → Shared → Prop) (Q : List (Str × Value) → Shared → Prop) (s : Shared) (u : Value) (ws : List Value), K.In s.heap → ws.length = ks.length → Q ((ps, u) :: kn.zip (arr src [] ws its)) s → wpAny M A (bindArgs (PySem.W.fnOf "__init__" qual (defArgs st) (defBody st) (defScope st) dV kV doc pm an cdv ct) ⟨[u], ks.zip ws⟩) Q E s
theorem StOI.okZ {P : Program} {w : World} {K : PySem.W.Frag} {mg : Str → Option Value} {base : Heap} {C : Addr} {x qual ps : Str} {st : Stmt} {ks : List Str} {src : List Src} {dvs : List V} {N kn : List Str} {k : Nat} {sp : Sp} (F : StOI K mg x C qual st ks src dvs ps kn) (S : FnScope N (ps :: kn) (defScope st)) (hlen : ∀ zs : List V, zs.length = ks.length → (arr src [] zs dvs).length = kn.length) {t : XK → TS}
    (hd : ∀ (f : Addr) (cdv : Value) (A : Around) (outer : List Env) (s : Shared) (H : Hp) (E : XK), Room k (A.deeper (envOfC qual (defScope st) s.heap.objs.size f cdv)) → PSs (cxOf (L2.CX P w) P w K mg base N qual (defScope st) f cdv A outer s H E) (defBody st) (t E))
    (hb : ∀ (H : Hp) (vs : List V) (Q : VK) (E : XK), sp vs H Q E → t E { nx := fun _ H' => Q .non H', rt := Q } (L2.start N vs) H) : MakO P w K mg base (k + 1) x C ks src dvs sp := by
  obtain ⟨f, oc, od, an, osl, dV, kV, doc, pm, cdv, ct, its, hm, M, lk, hcd, hv, hbd⟩ := F.ex
  refine ⟨f, hm, M, ?_⟩
  rintro A outer s H u ws v zs Q E hr e0 r rz lz hq
  have lw : ws.length = ks.length := by rw [← rz.length]; exact lz
  have rk : Vals (arr src [] zs dvs) (arr src [] ws its) := arr_vals .nil rz hv
  have lk2 : (arr src [] zs dvs).length = kn.length := hlen zs lz
  have KX : K.In s.heap := e0.mod.kin.keeps fun b o e => (e0.bs b o e).1
  refine StX.run_bnd lk hcd S hr.toRoom e0 (G := fun xs H2 => xs = v :: arr src [] zs dvs ∧ H2 = H) (fun A' Ex Q' h => ?_) ?_
  · have z := h s H (v :: arr src [] zs dvs) (u :: arr src [] ws its) e0 .refl rfl (fun e s' q => q) (.cons r rk) (by rw [List.length_cons, List.length_cons, lk2]) ⟨rfl, rfl⟩
    exact hbd _ _ _ _ _ u ws KX lw z
  · rintro s2 H2 xs ⟨rfl, rfl⟩ hr'
    exact ⟨t E, hd f cdv A outer s2 _ E ⟨hr', hr.gd⟩, hb _ _ Q E hq⟩
end TP

namespace TP
open PySem PySem.Spec PySem.Calls PyProof.Rows L2
theorem sub_dict : isSubtype (.type "dict") (.type "dict") = pure true := by kernel_rfl
theorem iter_dict : typeLookup (.type "dict") "__iter__" = pure (some (.builtin "dict.__iter__")) := by kernel_rfl
abbrev newD (es : Array DictEntry) (ep : Nat) : Obj := { cls := .type "dict", dict := none, data := .dict es ep, slots := #[] }
section
variable {P : Program} {w : World} {A : Around} {E : Value → Shared → Prop} {d a : Addr} {knd : KeyKind P w Key}
theorem forIn_str {M : Model} {s : Shared} {Q : PUnit → Shared → Prop} {f : DictEntry → PUnit → Sem (ForInStep PUnit)} : ∀ (l : List DictEntry), (∀ e ∈ l, f e PUnit.unit = pure (ForInStep.yield PUnit.unit)) → Q PUnit.unit s → wpAny M A (forIn l PUnit.unit f) Q E s
  | [], _, q => wpAny_pure q
  | e :: l, h, q => by
    rw [List.forIn_cons, h e List.mem_cons_self]
    exact wpAny_bind (wpAny_pure (forIn_str l (fun x hx => h x (List.mem_cons_of_mem _ hx)) q))
theorem mm_put {s : Shared} {Q : Unit → Shared → Prop} {done : List DictEntry} {e : DictEntry} {k : Key} {ep : Nat} (hget : s.heap.get? d = some (newD done.toArray ep)) (hk : knd.is k e.key = true) (hh : e.hash = knd.hash k) (hkeys : KeysOf knd done.toArray) (hnone : ∀ e' ∈ done, knd.is k e'.key = false) (hl : done.length < sizeLine)
    (q : ∀ h', h'.get? d = some (newD (done ++ [e]).toArray (ep + 1)) → Heap.SameBut d s.heap h' → Q () { s with heap := h' }) : wpAny (model P w) A (dictFind d e.key e.hash) (fun r s' => r = none ∧ s' = s) E s ∧ wpAny (model P w) A (dictPut d e.hash e.key e.val) Q E s := by
  have hf : done.toArray.findIdx? (fun e' => knd.is k e'.key) = none := by
    rw [List.findIdx?_toArray, List.findIdx?_eq_none_iff]
    exact hnone
  have h1 : ∀ {Q : Option Nat → Shared → Prop}, Q none s → wpAny (model P w) A (dictFind d e.key e.hash) Q E s := fun {Q} q => by
    rw [hh]
    refine wpAny_dictFind_of (knd := knd) hk hget rfl hkeys ?_
    rw [hf]; exact q
  refine ⟨h1 ⟨rfl, rfl⟩, ?_⟩
  unfold dictPut
  refine wpAny_bind (h1 ?_)
  refine wpAny_updateDictKeys hget rfl ?_ (by show done.toArray.size ≤ _; rw [List.size_toArray]; omega) (by rw [Array.size_push]; exact Nat.le_refl _)
  refine q _ ?_ ⟨?_, fun b hb => Heap.get?_update_ne _ _ _ _ hb⟩
  · rw [Heap.get?_update_self _ hget rfl]
    show some (newD (done.toArray.push ⟨e.hash, e.key, e.val⟩) (ep + 1)) = _
    rw [List.push_toArray]
  · show (s.heap.objs.modify d _).size = _
    exact Array.size_modify
theorem pairs_at : ∀ {es : List DictEntry} {us : List (Key × Value)}, Pairs knd es us → es.length = us.length ∧ ∀ i (h : i < es.length) (h' : i < us.length), knd.is us[i].1 es[i].key = true ∧ es[i].val = us[i].2
  | _, _, .nil => ⟨rfl, fun i h => absurd h (Nat.not_lt_zero i)⟩
  | _, _, .cons h1 h2 t => by
    obtain ⟨l, f⟩ := pairs_at t
    refine ⟨by rw [List.length_cons, List.length_cons, l], fun i h h' => ?_⟩
    cases i with
    | zero => exact ⟨h1, h2⟩
    | succ i => exact f i (by simpa using h) (by simpa using h')
theorem wpAny_mergeMapping {s : Shared} {o : Obj} {es : Array DictEntry} {ep : Nat} {us : List (Key × Value)} {Q : Unit → Shared → Prop} (hda : a ≠ d) (hsys : (a == sysModules) = false) {e0 : Nat} (hd : s.heap.get? d = some (newD #[] e0)) (ha : s.heap.get? a = some o) (hx : o.ExactDict) (hdat : o.data = .dict es ep) (hkeys : KeysOf knd es) (hp : Pairs knd es.toList us) (hn : (us.map (·.1)).Nodup) (hstr : ∀ e ∈ es.toList, ∃ x t, e.key = .str x t) (hl : es.size ≤ sizeLine)
    (q : ∀ h' ep', h'.get? d = some (newD es ep') → Heap.SameBut d s.heap h' → Q () { s with heap := h' }) : wpAny (model P w) A (mergeMapping d (.ref a) true) Q E s := by
  unfold mergeMapping
  refine wpAny_bind (wpAny_isInstance (T := "dict") ⟨o, ha, hx.1⟩ sub_dict ?_)
  rw [if_pos rfl]
  refine wpAny_bind (wpAny_specialOf (T := "dict") ⟨o, ha, hx.1⟩ iter_dict ?_)
  refine wpAny_bind (wpAny_pure ?_)
  rw [show (some (Value.builtin "dict.__iter__") == some (Value.builtin "dict.__iter__")) = true by decide]
  dsimp only
  rw [hsys, if_neg (by decide)]
  refine wpAny_bind (wpAny_dictEntries hd rfl ?_)
  rw [show (#[] : Array DictEntry).isEmpty = true by decide, if_pos rfl]
  refine wpAny_bind (wpAny_dictEntries ha hdat ?_)
  refine wpAny_bind ?_
  rw [← Array.forIn_toList]
  refine forIn_str _ (fun e he => ?_) ?_
  · obtain ⟨x, t, hk⟩ := hstr e he
    rw [hk]
  refine wpAny_bind (wpAny_dictEntries ha hdat ?_)
  refine wpAny_bind (wpAny_dictEpoch ha hdat ?_)
  obtain ⟨hlen, hat⟩ := pairs_at hp
  have hls : es.toList.length = es.size := Array.length_toList
  refine wpAny_bind ?_
  rw [List.range_eq_range']
  suffices key : ∀ (n i : Nat) (h : Heap) (e1 : Nat), i + n = es.size → h.get? d = some (newD (es.toList.take i).toArray e1) → Heap.SameBut d s.heap h → wpAny (model P w) A (forIn (List.range' i n) PUnit.unit fun i __s => do
          let __do_lift ← dictEntries a
          match __do_lift[i]? with
            | some e => do
              holding [e.key, e.val]
                  (if true = true then do
                    let __do_lift ← dictFind d e.key e.hash
                    if __do_lift.isSome = true then do
                        rule "dict.merge.duplicate-key"
                        let __do_lift ← newExc (Value.type "KeyError") [e.key]
                        raiseNew __do_lift
                        dictPut d e.hash e.key e.val
                      else dictPut d e.hash e.key e.val
                  else dictPut d e.hash e.key e.val)
              let __do_lift ← dictEpoch a
              if (__do_lift != ep) = true then do
                  unsupported "dict.changed-during-merge"
                  pure (ForInStep.yield PUnit.unit)
                else pure (ForInStep.yield PUnit.unit)
            | x => do
              unsupported "dict.changed-during-merge"
              pure (ForInStep.yield PUnit.unit)) (fun _ s' => wpAny (model P w) A (pure ()) Q E s') E { s with heap := h } by
    exact key es.size 0 s.heap e0 (Nat.zero_add _) hd ⟨rfl, fun _ _ => rfl⟩
  intro n
  induction n with
  | zero =>
    intro i h e1 hi hg hs
    refine wpAny_pure (wpAny_pure (q h e1 ?_ hs))
    rw [hg, List.take_of_length_le (by omega)]
  | succ n ih =>
    intro i h e1 hi hg hs
    have hi' : i < es.size := by omega
    have hil : i < es.toList.length := by omega
    have ha2 : h.get? a = some o := by rw [hs.2 a hda]; exact ha
    rw [List.range'_succ, List.forIn_cons]
    refine wpAny_bind (wpAny_bind (wpAny_dictEntries (s := { s with heap := h }) ha2 hdat ?_))
    rw [Array.getElem?_eq_getElem hi']
    dsimp only
    obtain ⟨k, hk, hh⟩ := hkeys es[i] (Array.getElem_mem hi')
    have hkk : us[i].1 = k := knd.inj es[i].key _ _ (hat i hil (by omega)).1 hk
    have hdone : KeysOf knd (es.toList.take i).toArray := fun e he => hkeys e (by
      have : e ∈ es.toList.take i := by simpa using he
      exact Array.mem_toList_iff.mp (List.mem_of_mem_take this))
    have hnone : ∀ e' ∈ es.toList.take i, knd.is k e'.key = false := fun e' he' => by
      obtain ⟨j, hj, rfl⟩ := List.getElem_of_mem he'
      rw [List.length_take] at hj
      rw [List.getElem_take]
      have hji : j < i := by omega
      cases z : knd.is k es.toList[j].key with
      | false => rfl
      | true =>
        have e1 := knd.inj _ _ _ (hat j (by omega) (by omega)).1 z
        have : (us.map (·.1))[j]'(by rw [List.length_map]; omega) = (us.map (·.1))[i]'(by rw [List.length_map]; omega) := by
          rw [List.getElem_map, List.getElem_map, e1, hkk]
        have := (List.getElem_inj hn).mp this
        omega
    have both := fun (Q : Unit → Shared → Prop) => mm_put (P := P) (w := w) (A := A) (E := E) (s := { s with heap := h }) (e := es[i]) (knd := knd) (Q := Q) hg hk hh hdone hnone (by rw [List.length_take]; omega)
    refine wpAny_bind (wpAny_holding ?_)
    rw [if_pos rfl]
    refine wpAny_bind (wpAny_mono (both (fun _ _ => True) (fun _ _ _ => trivial)).1 (fun r s' hr => ?_) fun _ _ x => x)
    obtain ⟨rfl, rfl⟩ := hr
    rw [if_neg (by decide)]
    refine (both _ fun h' hg' hs' => ?_).2
    have hs2 : Heap.SameBut d s.heap h' := ⟨hs'.1.trans hs.1, fun b hb => (hs'.2 b hb).trans (hs.2 b hb)⟩
    have ha3 : h'.get? a = some o := by rw [hs2.2 a hda]; exact ha
    refine wpAny_bind (wpAny_dictEpoch (s := { s with heap := h' }) ha3 hdat ?_)
    rw [if_neg (by rw [bne_self_eq_false]; decide)]
    refine wpAny_pure ?_
    refine ih (i + 1) h' (e1 + 1) (by omega) ?_ hs2
    rw [hg']
    rw [List.take_add_one, List.getElem?_eq_getElem hil, Array.getElem_toList]
    rfl
theorem forIn_acc {M : Model} {s : Shared} {β : Type} {Q : List β → Shared → Prop} {f : DictEntry → List β → Sem (ForInStep (List β))} {g : DictEntry → β} : ∀ (l : List DictEntry) (acc : List β), (∀ e ∈ l, ∀ acc, f e acc = pure (ForInStep.yield (acc ++ [g e]))) → Q (acc ++ l.map g) s → wpAny M A (forIn l acc f) Q E s
  | [], acc, _, q => wpAny_pure (by rw [List.map_nil, List.append_nil] at q; exact q)
  | e :: l, acc, h, q => by
    rw [List.forIn_cons, h e List.mem_cons_self]
    refine wpAny_bind (wpAny_pure (forIn_acc l _ (fun x hx => h x (List.mem_cons_of_mem _ hx)) ?_))
    rw [List.append_assoc]; exact q
/-- the name of an entry's key -/
def kwOf (e : DictEntry) : Str × Value := ((match e.key with | .str x _ => x | _ => ""), e.val)
theorem wpAny_keywordsIn {s : Shared} {f : Value} {o : Obj} {es : Array DictEntry} {ep : Nat} {Q : List (Str × Value) → Shared → Prop} (hd : s.heap.get? d = some o) (hdat : o.data = .dict es ep) (hstr : ∀ e ∈ es.toList, ∃ x t, e.key = .str x t) (q : Q (es.toList.map kwOf) s) : wpAny (model P w) A (keywordsIn f d) Q E s := by
  unfold keywordsIn
  refine wpAny_bind (wpAny_dictEntries hd hdat ?_)
  refine wpAny_bind ?_
  rw [← Array.forIn_toList]
  generalize es.toList = l at hstr q
  refine forIn_acc (g := kwOf) l [] (fun e he acc => ?_) (wpAny_pure (by rw [List.nil_append]; exact q))
  obtain ⟨x, t, hk⟩ := hstr e he
  unfold kwOf
  rw [hk]
theorem wpAny_starKw {s : Shared} {f : Value} {x : Sem Value} {Q : Args → Shared → Prop} (h : wpAny (model P w) A x (fun m s1 => ∃ e0, s1.heap.get? s.heap.objs.size = some (newD #[] e0) ∧ ∃ a o es ep us, m = .ref a ∧ a ≠ s.heap.objs.size ∧ (a == sysModules) = false ∧ s1.heap.get? a = some o ∧ o.ExactDict ∧ o.data = .dict es ep ∧ KeysOf knd es ∧ Pairs knd es.toList us ∧ (us.map (·.1)).Nodup ∧ (∀ e ∈ es.toList, ∃ x t, e.key = .str x t) ∧ es.size ≤ sizeLine ∧
      ∀ h' ep', h'.get? s.heap.objs.size = some (newD es ep') → Heap.SameBut s.heap.objs.size s1.heap h' → Q ⟨[], es.toList.map kwOf⟩ { s1 with heap := h' }) E { s with heap := s.heap.push (newD #[] 0) }) : wpAny (model P w) A (evalArgs f true [] [(none, x)]) Q E s := by
  unfold evalArgs
  dsimp only
  refine wpAny_bind (wpAny_of_eq (show spliced [] = pure [] from rfl) ?_)
  refine wpAny_bind (wpAny_pure ?_)
  refine wpAny_holding ?_
  have hno : ¬ ([((none : Option Str), x)].all fun x => x.1.isSome) = true := by simp
  rw [if_neg hno]
  refine wpAny_bind ?_
  unfold mergedKeywords
  refine wpAny_bind (wpAny_alloc ?_)
  refine wpAny_bind (wpAny_holding ?_)
  dsimp only
  rw [List.forIn_cons]
  refine wpAny_bind (wpAny_bind (wpAny_bind ?_))
  rw [if_pos (by rfl)]
  refine wpAny_pure ?_
  refine wpAny_bind (wpAny_mono h (fun m s1 h1 => ?_) fun _ _ x => x)
  obtain ⟨e0, hd, a, o, es, ep, us, rfl, hda, hsys, ha, hx, hdat, hkeys, hp, hn, hstr, hl, q⟩ := h1
  refine wpAny_bind (wpAny_onRaise (wpAny_holding (wpAny_tryCatch (wpAny_onRaise (wpAny_mergeMapping (knd := knd) hda hsys hd ha hx hdat hkeys hp hn hstr hl fun h' ep' hg' hs' => ?_)))))
  refine wpAny_pure ?_
  refine wpAny_pure ?_
  rw [if_pos (by rfl)]
  refine wpAny_pure (wpAny_pure ?_)
  refine wpAny_bind (wpAny_pure ?_)
  refine wpAny_bind (wpAny_holding (wpAny_keywordsIn (s := { s1 with heap := h' }) hg' rfl hstr ?_))
  exact wpAny_pure (q h' ep' hg' hs')
end
theorem callKS {M : Model} {A : Around} {E : Value → Shared → Prop} {s : Shared} {pos : Pos} {f : Value} {Q : Value → Shared → Prop} {Pp : Heap → Prop} {args : List (Bool × Sem Value)} {keywords : List (Option Str × Sem Value)} (hst : keywords.any (·.1.isNone) = true)
    (hk : ∀ h, Pp h → ∃ k, (k = Keeper.frame ∨ k = Keeper.machine ∨ k = Keeper.boundFrame) ∧ PySem.W.Looks M h (keeperOf f) k)
    (h : wpAny M A (evalArgs f true args keywords) (fun a s₁ => Pp s₁.heap ∧ wpAny M A (call f a.pos a.kw) Q E s₁) E s) : wpAny M A (callWith pos f [] args keywords) Q E s := by
  unfold callWith
  refine wpAny_bind (wpAny_holding (wpAny_mono h (fun a s₁ h₁ => wpAny_bind (wpAny_standAt ?_)) fun _ _ x => x))
  obtain ⟨k, hk', L⟩ := hk _ h₁.1
  simp only [hst, Bool.or_true]
  refine wpAny_bind (L.here ?_)
  have tail : ∀ {t : Sem Value}, wpAny M A t Q E s₁ → wpAny M A (t >>= fun r => holding [r] point >>= fun _ => pure r) Q E s₁ :=
    fun ht => wpAny_bind (wpAny_mono ht (fun r s₂ hr => wpAny_bind (wpAny_holding (wpAny_point (wpAny_pure hr)))) fun _ _ x => x)
  have marked (mk : Value) : wpAny M A (callMarked mk f ([] ++ a.pos) a.kw) Q E s₁ := by unfold callMarked; exact Calls.wpAny_keep h₁.2
  rcases hk' with rfl | rfl | rfl <;> dsimp only <;> first | exact tail (marked _) | exact tail (wpAny_operating h₁.2)
section
variable {X : Cx} {k j : Nat} {C : Addr} {sp : Sp} {W : WX} {x : Str} {p pos : Pos} {e : Expr} {te : TE} {ks : List Str} {src : List Src} {dvs : List V} {kws : List Keyword}
theorem kv_at {κ : Type} : ∀ {kvs : List (κ × V)} {vs : List (κ × Value)}, KV kvs vs → kvs.map (·.1) = vs.map (·.1) ∧ Vals (kvs.map (·.2)) (vs.map (·.2))
  | _, _, .nil => ⟨rfl, .nil⟩
  | _, _, .cons h t => by
    obtain ⟨h1, h2⟩ := kv_at t
    exact ⟨by rw [List.map_cons, List.map_cons, h1, h.1], .cons h.2 h2⟩
theorem kw_zip {P : Program} {w : World} : ∀ {es : List DictEntry} {vs : List (Key × Value)} {ks : List Str}, Pairs (mixKind P w) es vs → vs.map (·.1) = ks.map Sum.inr → (∀ e ∈ es, ∃ x t, e.key = .str x t) ∧ es.map kwOf = ks.zip (vs.map (·.2))
  | _, _, ks, .nil, h => by
    cases ks with
    | nil => exact ⟨fun _ h => absurd h List.not_mem_nil, rfl⟩
    | cons k ks => cases h
  | e :: es, (k0, v0) :: vs, ks, .cons h1 h2 t, h => by
    cases ks with
    | nil => cases h
    | cons k ks =>
      rw [List.map_cons, List.map_cons] at h
      injection h with ha hb
      obtain ⟨i1, i2⟩ := kw_zip t hb
      have hk : Value.isStrOf k e.key = true := by
        have : k0 = Sum.inr k := ha
        subst this; exact h1
      obtain ⟨y, tk, hy⟩ : ∃ y tk, e.key = .str y tk ∧ y = k := by
        cases z : e.key with
        | str y tk =>
          rw [z] at hk
          exact ⟨y, tk, rfl, by simpa [Value.isStrOf] using hk⟩
        | _ => rw [z] at hk; cases hk
      obtain ⟨hy, rfl⟩ := hy
      refine ⟨fun e' he' => ?_, ?_⟩
      · rcases List.mem_cons.mp he' with z | z
        · subst z; exact ⟨_, _, hy⟩
        · exact i1 e' z
      · rw [List.map_cons, i2, List.map_cons, List.zip_cons_cons]
        unfold kwOf
        rw [hy]
        show ((y, e.val) :: _) = _
        rw [show e.val = v0 from h2]
end
end TP

namespace TP
open PySem PySem.Spec PySem.Calls PyProof.Rows L2
structure SetOf (K : PySem.W.Frag) (C : Addr) (f : Str) (g : Addr) : Prop where
  ex : ∃ (p : Addr) (a : Value) (rest : List Value), PySem.W.takerIn K C f = some (some (.ref p)) ∧ PySem.W.typeIn K (.ref p) = some (.type "property") ∧ PySem.W.recIn K p "property" = some (a :: .ref g :: rest)
structure StpZ (P : Program) (w : World) (K : PySem.W.Frag) (mg : Str → Option Value) (base : Heap) (k : Nat) (C : Addr) (f : Str) (ps : List Str) (sp : Sp) : Prop where
  ex : ∃ (g : Addr) (fd : FuncData), SetOf K C f g ∧ FnOk P w K mg base (L2.CX P w) k g fd ps sp ∧ Binds K fd ps []
section
variable {X : Cx} {k j : Nat} {C : Addr} {ps : List Str} {sp : Sp} {W : WX}
end
end TP

namespace TP
open PySem PySem.Spec PySem.Calls PyProof.Rows L2
structure DTab (P : Program) (w : World) (K : PySem.W.Frag) (a : Addr) (kvs : List (Key × V)) : Prop where
  ex : ∃ (o : Obj) (us : List (Key × Value)), K.lookup a = some o ∧ Obj.IsDictOf (mixKind P w) o us ∧ KV kvs us
  ns : (a == sysModules) = false
def rInTab (a : Addr) (kvs : List (Key × V)) : R2 := fun x y H Q => y = .ref a ∧ ∃ t, x = .str t ∧ Q (.bl (valV kvs (.inr t)).isSome) H
def rGetTab (a : Addr) (kvs : List (Key × V)) : R2 := fun x y H Q => x = .ref a ∧ ∃ t v, y = .str t ∧ valV kvs (.inr t) = some v ∧ Q v H
theorem relO_some {o : Option V} {u : Option Value} (h : RelO o u) : o.isSome = u.isSome := by
  cases o <;> cases u <;> first | rfl | cases h
theorem relO_get {v : V} {u : Option Value} (h : RelO (some v) u) : ∃ x, u = some x ∧ RelV v x := by
  cases u with
  | none => cases h
  | some x => exact ⟨x, rfl, h⟩
section
variable {X : Cx} {a : Addr} {kvs : List (Key × V)}
theorem tab_news {pins : List (Addr × Obj)} {σ : L2.St} {H : Hp} {s : Shared} {o : Obj} (I : Inv X pins σ H s) (lk : X.K.lookup a = some o) : News ⟨#[], (default : Heap).life⟩ (a + 1) s.heap [(a, o)] := fun p hp => by
  rw [List.mem_singleton.mp hp]
  exact ⟨I.kIn a o lk, Nat.ne_of_lt (Nat.lt_succ_self a), rfl⟩
theorem op_inTab (D : DTab X.prog X.w X.K a kvs) : OpR X (compareOp .In) (rInTab a kvs) := by
  intro pins s σ H x y v u Q I rx ry h
  obtain ⟨rfl, t, rfl, q⟩ := h
  obtain ⟨tok, rfl⟩ := rx
  cases ry
  obtain ⟨o, us, lk, hd, kv⟩ := D.ex
  refine PySem.W.kda_in (tab_news I lk) (List.mem_singleton_self _) hd D.ns (k := .inr t) ?_ (valV kvs (.inr t)).isSome ?_ ⟨.bl _, H, I.tok _, rfl, q⟩
  · show Value.isStrOf t (.str t tok) = true
    simp [Value.isStrOf]
  · exact (relO_some (kv.val _)).symm
theorem pe_getTab {o i : Expr} {to ti : TE} {pos : Pos} (D : DTab X.prog X.w X.K a kvs) (ho : PE X o to) (hi : PE X i ti) (h1 : ∀ d k, subscripted i false d k = operate [d, k] (getItem d k) := by intro _ _; rfl) (h2 : ∀ d r, letTemporaryGo o d r = pure () := by intro _ _; rfl) : PE X (.Subscript o i pos) (tOp (rGetTab a kvs) to ti) := by
  refine ⟨fun pins s σ H Q I h => ?_⟩
  refine Subscript_ (binT ho hi I h fun v u s2 x y H2 I2 rx ry q => ?_)
  obtain ⟨rfl, t, v, rfl, hv, q⟩ := q
  cases rx
  obtain ⟨tok, rfl⟩ := ry
  obtain ⟨ob, us, lk, hd, kv⟩ := D.ex
  have hr := kv.val (.inr t)
  rw [hv] at hr
  obtain ⟨x, hx, rx⟩ := relO_get hr
  refine PySem.W.kda_item (tab_news I2 lk) (List.mem_singleton_self _) hd (k := .inr t) ?_ hx ⟨_, H2, I2.tok _, rx, q⟩ (h1 _ _) (h2 _)
  show Value.isStrOf t (.str t tok) = true
  simp [Value.isStrOf]
end
def eqSV : V → V → Bool
  | .str a, .str b => a == b
  | .bl a, .bl b => a == b
  | _, _ => false
def flatS : V → Bool
  | .str _ => true
  | .bl _ => true
  | _ => false
def eqSVs : List V → List V → Bool
  | [], [] => true
  | x :: xs, y :: ys => eqSV x y && eqSVs xs ys
  | _, _ => false
def rEqD (neg : Bool) : R2 := fun x y H Q => ∃ a b ks ls, x = .ref a ∧ y = .ref b ∧ Rd H a (.dK ks) ∧ Rd H b (.dK ls) ∧ ks.map (·.1) = ls.map (·.1) ∧ (∀ p ∈ ks, flatS p.2 = true) ∧ (∀ p ∈ ls, flatS p.2 = true) ∧ Q (.bl (xor neg (eqSVs (ks.map (·.2)) (ls.map (·.2))))) H
structure StpI (K : PySem.W.Frag) (C : Addr) (f qual : Str) (st : Stmt) (ps : List Str) : Prop where
  ex : ∃ (g : Addr) (fd : FuncData), SetOf K C f g ∧ Fun K f qual st g fd ∧ Binds K fd ps []
theorem StpI.okZ {P : Program} {w : World} {K : PySem.W.Frag} {mg : Str → Option Value} {base : Heap} {C : Addr} {f qual : Str} {st : Stmt} {N ps : List Str} {k : Nat} {sp : Sp} (F : StpI K C f qual st ps) (S : FnScope N ps (defScope st)) (len : ∀ vs H Q E, sp vs H Q E → vs.length = ps.length) {t : XK → TS}
    (hd : ∀ (f : Addr) (cdv : Value) (A : Around) (outer : List Env) (s : Shared) (H : Hp) (E : XK), Room k (A.deeper (envOfC qual (defScope st) s.heap.objs.size f cdv)) → PSs (cxOf (L2.CX P w) P w K mg base N qual (defScope st) f cdv A outer s H E) (defBody st) (t E))
    (hb : ∀ (H : Hp) (vs : List V) (Q : VK) (E : XK), sp vs H Q E → t E { nx := fun _ H' => Q .non H', rt := Q } (L2.start N vs) H) : StpZ P w K mg base (k + 1) C f ps sp := by
  obtain ⟨g, fd, hm, F, b⟩ := F.ex
  exact ⟨g, fd, hm, okG F S len fun cdv A outer s H vs Q E hr h => ⟨t E, hd g cdv A outer s H E hr, hb H vs Q E h⟩, b⟩
abbrev entryOf (x : Str × Int × Tok × Value) : DictEntry := ⟨x.2.1, .str x.1 x.2.2.1, x.2.2.2⟩
theorem dtab_mk {P : Program} {w : World} {K : PySem.W.Frag} {a : Addr} {kvs : List (Key × V)} {ep : Nat} (xs : List (Str × Int × Tok × Value)) (lk : K.lookup a = some { cls := .type "dict", dict := none, data := .dict (xs.map entryOf).toArray ep, slots := #[] }) (hh : ∀ x ∈ xs, x.2.1 = hashStr w x.1) (hn : (xs.map fun x => x.1).Nodup) (kv : KV kvs (xs.map fun x => ((.inr x.1 : Key), x.2.2.2))) (ns : (a == sysModules) = false) : DTab P w K a kvs := by
  refine ⟨⟨_, _, lk, ⟨_, _, ⟨rfl, rfl, rfl⟩, rfl, fun e he => ?_, ?_, ?_⟩, kv⟩, ns⟩
  · have he' : e ∈ xs.map entryOf := by simpa using he
    obtain ⟨x, hx, rfl⟩ := List.mem_map.mp he'
    refine ⟨.inr x.1, ?_, hh x hx⟩
    show Value.isStrOf x.1 (.str x.1 x.2.2.1) = true
    simp [Value.isStrOf]
  · clear lk hh hn kv
    show Pairs (mixKind P w) (xs.map entryOf) _
    induction xs with
    | nil => exact .nil
    | cons x xs ih =>
      refine .cons ?_ rfl ih
      show Value.isStrOf x.1 (.str x.1 x.2.2.1) = true
      simp [Value.isStrOf]
  · rw [List.map_map]
    have e : (List.map ((fun x => x.1) ∘ fun x : Str × Int × Tok × Value => ((.inr x.1 : Key), x.2.2.2)) xs) = (xs.map fun x => x.1).map Sum.inr := by rw [List.map_map]; rfl
    rw [e]
    exact List.Pairwise.map Sum.inr (fun a b h z => h (by injection z)) hn
end TP

namespace MR
open PySem PySem.Spec PyProof.Rows L2 TP
section
variable {K : PySem.W.Frag} {Γ : Gm} {xa : XT} {W : WX} {w w' w0 : Wd} {te to ti ta tb : TE} {me mo mk ma mb : ME}
def keyOf : D → Option Key
  | .str t => some (.inr t)
  | .int i => some (.inl i)
  | _ => none
theorem keyOf_ok {d : D} {v : V} {k : Key} (h : Pk K Γ w d v) (e : keyOf d = some k) : v = kV k := by
  cases d with
  | str t =>
    cases e
    rcases h with h | ⟨_, _, _, h⟩
    · exact h
    · exact False.elim h.at_
  | int i =>
    cases e
    rcases h with h | ⟨_, _, _, h⟩
    · exact h
    · exact False.elim h.at_
  | _ => cases e
def lkD : List Key → List D → Key → Option D
  | k :: ks, d :: ds, j => if k = j then some d else lkD ks ds j
  | _, _, _ => none
theorem lk_zip : ∀ {ks : List Key} {ds : List D} {vs : List V} {j : Key}, Reps K Γ w ds vs → (lkD ks ds j = none → valV (ks.zip vs) j = none) ∧ (∀ d, lkD ks ds j = some d → ∃ v, valV (ks.zip vs) j = some v ∧ Rep K Γ w d v)
  | [], ds, vs, j, _ => ⟨fun _ => by rw [List.zip_nil_left]; exact valV_nil, fun d e => by cases e⟩
  | k :: ks, [], vs, j, h => by
    obtain rfl : vs = [] := h
    exact ⟨fun _ => by rw [List.zip_nil_right]; exact valV_nil, fun d e => by cases e⟩
  | k :: ks, d :: ds, vs, j, h => by
    obtain ⟨v, ws, rfl, r, t⟩ := reps_inv h
    rw [List.zip_cons_cons]
    obtain ⟨i1, i2⟩ := lk_zip (ks := ks) (j := j) t
    unfold lkD
    by_cases e : k = j
    · rw [if_pos e, valV_pos (p := (k, v)) e]
      exact ⟨fun z => (nomatch z), fun d' z => ⟨v, rfl, by cases z; exact r⟩⟩
    · rw [if_neg e, valV_neg (p := (k, v)) e]
      exact ⟨i1, i2⟩
theorem dicOf_ok {d : D} {v : V} {ks : List Key} {ds : List D} (o : Ok K Γ w) (h : Pk K Γ w d v) (e : dicOf w.S d = some (ks, ds)) : ∃ a vs, v = .ref a ∧ Rd w.H a (.dK (ks.zip vs)) ∧ ks.length = vs.length ∧ Reps K Γ w ds vs := by
  unfold dicOf at e
  split at e
  · cases e
    rcases h with h | ⟨_, a, rfl, h⟩
    · simp only [Rep, RepC] at h
      obtain ⟨a, vs, h1, h2, h3, h4⟩ := h
      refine ⟨a, vs, h1, ?_, h3, h4⟩
      rcases h2 with h2 | ⟨u, h2⟩
      · exact .inl (o.same _ _ h2)
      · exact .inr ⟨u, o.same _ _ h2⟩
    · obtain ⟨vs, h1, h2, h3⟩ := h.at_
      exact ⟨a, vs, rfl, .inl h1, h2, h3⟩
  · cases e
    rcases h with h | ⟨_, a, rfl, h⟩
    · simp only [Rep, RepC] at h
      obtain ⟨a, u, vs, h1, h2, h3, _, h4⟩ := h
      exact ⟨a, vs, h1, .inr ⟨u, o.same _ _ h2⟩, h3, h4⟩
    · exact False.elim h.at_
  · split at e
    · rename_i ks' ds' q
      cases e
      rcases h with h | ⟨_, a, rfl, h⟩
      · simp only [Rep, RepC] at h
        obtain ⟨a, h1, h2⟩ := h
        obtain ⟨b, h3, _, h4⟩ := o.cell _ _ q
        rw [h1] at h3
        cases h3
        obtain ⟨vs, g1, g2, g3⟩ := h4
        exact ⟨a, vs, h2, .inl g1, g2, g3⟩
      · exact False.elim h.at_
    · cases e
  · cases e
def rDIn (neg : Bool) : R2 := fun y x H Q => ∃ a o, x = .ref a ∧ DGet H a y o ∧ Q (.bl (if neg then !o.isSome else o.isSome)) H
def opDIn (neg : Bool) : D → D → Sto → Out D := fun e d S => match dicOf S d, keyOf e with
  | some (ks, ds), some k => .ok (.bl (if neg then !(lkD ks ds k).isSome else (lkD ks ds k).isSome)) S
  | _, _ => .bad
theorem om_din {neg : Bool} : OpM K Γ (rDIn neg) (opDIn neg) := ⟨fun w e d y x Q ex o hy hx p => by
  unfold opDIn at p
  split at p
  · rename_i ks ds k h1 h2
    obtain ⟨a, vs, rfl, hr, hl, rs⟩ := dicOf_ok o hx h1
    have key : (lkD ks ds k).isSome = (valV (ks.zip vs) k).isSome := by
      obtain ⟨i1, i2⟩ := lk_zip (ks := ks) (j := k) rs
      cases z : lkD ks ds k with
      | none => rw [i1 z]; rfl
      | some d => obtain ⟨v, hv, _⟩ := i2 d z; rw [hv]; rfl
    rw [key] at p
    exact ⟨a, _, rfl, .inl ⟨_, k, hr, keyOf_ok hy h2, rfl⟩, Post.now p o _ (by simp only [Rep, RepC])⟩
  · exact False.elim p⟩
def hasK (k : Key) (ks : List Key) : Bool := ks.any fun j => decide (j = k)
def putD (k : Key) (d : D) (ks : List Key) (ds : List D) : List Key × List D := if hasK k ks = true then (ks, (ks.zip ds).map fun p => if p.1 = k then d else p.2) else (ks ++ [k], ds ++ [d])
theorem putK_zip {k : Key} {d : D} {v : V} {ks : List Key} {ds : List D} {vs : List V} (hl : ks.length = vs.length) (rs : Reps K Γ w ds vs) (r : Rep K Γ w d v) : ∃ us, putK (ks.zip vs) k v = (putD k d ks ds).1.zip us ∧ (putD k d ks ds).1.length = us.length ∧ Reps K Γ w (putD k d ks ds).2 us := by
  have hm : ∀ {ks : List Key} {ds : List D} {vs : List V}, ks.length = vs.length → Reps K Γ w ds vs → ∃ us, ((ks.zip vs).map fun kv => if kv.1 = k then (kv.1, v) else kv) = ks.zip us ∧ ks.length = us.length ∧ Reps K Γ w ((ks.zip ds).map fun p => if p.1 = k then d else p.2) us := by
    intro ks
    induction ks with
    | nil => intro ds vs hl rs; exact ⟨[], rfl, rfl, by simp only [List.zip_nil_left, List.map_nil]; exact reps_nil⟩
    | cons k0 ks ih =>
      intro ds vs hl rs
      cases ds with
      | nil => obtain rfl : vs = [] := rs; cases hl
      | cons d0 ds =>
        obtain ⟨v0, ws, rfl, r0, t⟩ := reps_inv rs
        obtain ⟨us, h1, h2, h3⟩ := ih (by simpa using hl) t
        by_cases e : k0 = k
        · exact ⟨v :: us, by rw [List.zip_cons_cons, List.map_cons, h1, List.zip_cons_cons, if_pos e], by rw [List.length_cons, List.length_cons, h2], by rw [List.zip_cons_cons, List.map_cons, if_pos e]; exact reps_cons r h3⟩
        · exact ⟨v0 :: us, by rw [List.zip_cons_cons, List.map_cons, h1, List.zip_cons_cons, if_neg e], by rw [List.length_cons, List.length_cons, h2], by rw [List.zip_cons_cons, List.map_cons, if_neg e]; exact reps_cons r0 h3⟩
  have hany : ((ks.zip vs).any fun kv => decide (kv.1 = k)) = hasK k ks := by
    clear rs hm
    induction ks generalizing vs with
    | nil => rfl
    | cons k0 ks ih =>
      cases vs with
      | nil => cases hl
      | cons v0 vs =>
        rw [List.zip_cons_cons, List.any_cons, ih (by simpa using hl)]
        rfl
  unfold putK putD
  rw [hany]
  by_cases e : hasK k ks = true
  · rw [if_pos e, if_pos e]
    exact hm hl rs
  · rw [if_neg e, if_neg e]
    exact ⟨vs ++ [v], by rw [List.zip_append hl]; rfl, by rw [List.length_append, List.length_append, hl]; rfl, reps_app rs (reps_cons r reps_nil)⟩
def mSetD (me mo mk : ME) : MS := fun δ S => bndS (me δ S) δ fun d S => bndS (mo δ S) δ fun x S => bndS (mk δ S) δ fun k S => match x, keyOf k with
  | .ref m, some k => match S[m]? with
    | some (some (.dic ks ds)) => if ks.length < 16777216 then .ok (.nx δ) (S.set m (some (.dic (putD k d ks ds).1 (putD k d ks ds).2))) else .bad
    | _ => .bad
  | _, _ => .bad
theorem sim_setD (h : SimE K Γ xa W te me) (ho : SimE K Γ xa W to mo) (g : SimE K Γ xa W ti mk) : SimS K Γ xa W (sDPut to ti te) (mSetD me mo mk) := ⟨fun w0 w σ δ Dn o e n p => by
  refine h.run w0 w σ δ _ o e n (p.then e n fun d w1 o1 e1 p1 v r1 => ?_)
  refine ho.run w0 w1 σ δ _ o1 (e.trans e1) (n.ev e1) (p1.then (e.trans e1) (n.ev e1) fun x w2 o2 e2 p2 u r2 => ?_)
  have e12 := e1.trans e2
  refine g.run w0 w2 σ δ _ o2 (e.trans e12) (n.ev e12) (p2.then (e.trans e12) (n.ev e12) fun k w3 o3 e3 p3 z r3 => ?_)
  have e13 := e12.trans e3
  split at p3
  · rename_i m kk hk
    split at p3
    · rename_i ks ds hm
      obtain ⟨a, rfl, ha, vs, h2, h3, h4⟩ := cel_at o3 hm (Rep.ev r2 e3)
      split at p3
      · rename_i hl
        have r1' : Rep K Γ w3 d v := Rep.ev r1 (e2.trans e3)
        obtain ⟨us, q1, q2, q3⟩ := putK_zip (k := kk) h3 h4 r1'
        refine ⟨a, _, rfl, .inl ⟨_, kk, h2, keyOf_ok (.inl r3) hk, ?_, rfl⟩, ?_⟩
        · rw [List.length_zip, ← h3, Nat.min_self]; exact hl
        have at' : At K Γ (wCel w3 m a (.dK (putK (ks.zip vs) kk v)) (some (.dic (putD kk d ks ds).1 (putD kk d ks ds).2))) (.dic (putD kk d ks ds).1 (putD kk d ks ds).2) a := ⟨us, by rw [← q1]; exact upd_same, q2, q3⟩
        have ev := ev_cel (o := .dK (putK (ks.zip vs) kk v)) (d := some (.dic (putD kk d ks ds).1 (putD kk d ks ds).2)) o3 hm ha
        exact p3 _ σ rfl (ok_cel o3 hm ha at') ((e.trans e13).trans ev) ev.gr ((n.ev e13).ev ev)
      · exact False.elim p3
    · exact False.elim p3
  · exact False.elim p3⟩
end
end MR

namespace TP
open PySem PySem.Spec PySem.Calls PyProof.Rows L2
def valO (ks : List Str) (ws : List Value) (dn : List Str) (its : List Value) (n : Str) : Value := ((ks.zip ws).lookup n).getD (((dn.zip its).lookup n).getD .none)
section
variable {M : Model} {A : Around} {E : Value → Shared → Prop} {s : Shared}
theorem forIn_walk {α σ : Type} {f : α → σ → Sem (ForInStep σ)} {Q : σ → Shared → Prop} (I : List α → σ → Prop) (hs : ∀ a as t, I (a :: as) t → ∃ t', wpAny M A (f a t) (fun r s' => r = ForInStep.yield t' ∧ s' = s) E s ∧ I as t') (he : ∀ t, I [] t → Q t s) : ∀ (as : List α) (t : σ), I as t → wpAny M A (forIn as t f) Q E s
  | [], t, h => wpAny_pure (he t h)
  | a :: as, t, h => by
    obtain ⟨t', h1, h2⟩ := hs a as t h
    rw [List.forIn_cons]
    refine wpAny_bind (wpAny_mono h1 (fun r s' hr => ?_) fun _ _ x => x)
    obtain ⟨hr1, hr2⟩ := hr
    rw [hr1, hr2]
    exact forIn_walk I hs he as t' h2
theorem bind_ko {K : PySem.W.Frag} {fd : FuncData} {sn : Str} {kn ks dn : List Str} {ws its : List Value} {u : Value} {kD : Addr} {Q : List (Str × Value) → Shared → Prop} (KX : K.In s.heap)
    (p1 : fd.params.posonlyargs = []) (p2 : fd.params.args.map (·.arg) = [sn]) (p3 : fd.params.kwonlyargs.map (·.arg) = kn) (p4 : fd.params.vararg = none) (p5 : fd.params.kwarg = none) (p6 : fd.defaults = .none) (p7 : fd.kwdefaults = .ref kD)
    (lw : ws.length = ks.length) (nk : ks.Nodup) (sk : ∀ k ∈ ks, k ∈ kn) (ns : sn ∉ ks) (nn : sn ∉ kn) (hd : ∀ p ∈ dn.zip its, PySem.W.nsIn K kD p.1 = some (some p.2)) (ld : its.length = dn.length) (cov : ∀ n ∈ kn, n ∈ ks ∨ n ∈ dn)
    (q : Q ((sn, u) :: kn.map fun n => (n, valO ks ws dn its n)) s) : wpAny M A (bindArgs fd ⟨[u], ks.zip ws⟩) Q E s := by
  unfold bindArgs
  dsimp only
  rw [p1, p2, p3, p4, p5, p6, p7]
  dsimp only [List.map_nil, List.nil_append, List.length_cons, List.length_nil, List.zip_cons_cons, List.zip_nil_left, List.zip_nil_right]
  have lkz : ∀ {k : Str} {js : List Str} {vs : List Value}, k ∉ js → (js.zip vs).lookup k = none := fun {k} js => by
    induction js with
    | nil => intro vs _; rfl
    | cons j js ih =>
      intro vs h
      cases vs with
      | nil => rfl
      | cons v vs =>
        rw [List.zip_cons_cons, List.lookup_cons]
        have hne : (k == j) = false := by
          rw [beq_eq_false_iff_ne]; exact fun z => h (by rw [z]; exact List.mem_cons_self)
        rw [hne]
        exact ih fun z => h (List.mem_cons_of_mem _ z)
  have lks : ∀ {k : Str} {js : List Str} {vs : List Value}, vs.length = js.length → k ∈ js → ∃ v, (js.zip vs).lookup k = some v := fun {k} js => by
    induction js with
    | nil => intro vs _ h; cases h
    | cons j js ih =>
      intro vs hl h
      cases vs with
      | nil => cases hl
      | cons v vs =>
        rw [List.zip_cons_cons, List.lookup_cons]
        cases z : (k == j) with
        | true => exact ⟨v, rfl⟩
        | false =>
          rcases List.mem_cons.mp h with y | y
          · rw [y, beq_self_eq_true] at z; cases z
          · exact ih (by simpa using hl) y
  refine wpAny_bind (forIn_walk (fun as t => ∃ done rest, ks = done ++ rest ∧ as = rest.zip (ws.drop done.length) ∧ t = ((sn, u) :: done.zip (ws.take done.length), [])) ?_ ?_ _ _ ⟨[], ks, rfl, rfl, rfl⟩)
  · rintro ⟨k, v⟩ as t ⟨done, rest, e1, e2, rfl⟩
    have hrest : ∃ rs, rest = k :: rs ∧ ∃ vs, ws.drop done.length = v :: vs ∧ as = rs.zip vs := by
      cases rest with
      | nil => rw [List.zip_nil_left] at e2; cases e2
      | cons r rs =>
        cases z : ws.drop done.length with
        | nil => rw [z, List.zip_nil_right] at e2; cases e2
        | cons v' vs => rw [z, List.zip_cons_cons] at e2; cases e2; exact ⟨rs, rfl, vs, rfl, rfl⟩
    obtain ⟨rs, rfl, vs, hv, rfl⟩ := hrest
    have hk : k ∈ ks := by rw [e1]; exact List.mem_append_right _ List.mem_cons_self
    have hkd : k ∉ done := fun z => by
      rw [e1] at nk
      exact (List.nodup_append.mp nk).2.2 k z k List.mem_cons_self rfl
    have hdl : done.length < ws.length := by rw [lw, e1, List.length_append, List.length_cons]; omega
    have hvv : ws[done.length] = v := by
      rw [List.drop_eq_getElem_cons hdl] at hv
      exact (List.cons.inj hv).1
    have hne : (k == sn) = false := by rw [beq_eq_false_iff_ne]; exact fun z => ns (by rw [← z]; exact hk)
    refine ⟨((sn, u) :: (done ++ [k]).zip (ws.take (done.length + 1)), []), ?_, done ++ [k], rs, by rw [e1, List.append_assoc]; rfl, ?_, ?_⟩
    · dsimp only
      rw [if_pos (by rw [Bool.or_eq_true]; exact .inr (List.contains_iff_mem.mpr (sk k hk)))]
      have hl : List.lookup k ((sn, u) :: done.zip (ws.take done.length)) = none := by
        rw [List.lookup_cons, hne]; exact lkz hkd
      rw [hl, if_neg (by decide)]
      refine wpAny_pure ⟨?_, rfl⟩
      congr 2
      rw [List.cons_append, List.take_add_one, List.getElem?_eq_getElem hdl, hvv, List.zip_append (by rw [List.length_take]; omega)]
      rfl
    · rw [List.length_append, List.length_singleton]
      rw [show ws.drop (done.length + 1) = vs by rw [← List.drop_drop, hv]; rfl]
    · rw [List.length_append, List.length_singleton]
  rintro t ⟨done, rest, e1, e2, rfl⟩
  have hr0 : rest = [] := by
    cases rest with
    | nil => rfl
    | cons r rs =>
      have hdl : done.length < ws.length := by rw [lw, e1, List.length_append, List.length_cons]; omega
      rw [List.drop_eq_getElem_cons hdl, List.zip_cons_cons] at e2
      cases e2
  subst hr0
  rw [List.append_nil] at e1
  subst e1
  rw [List.take_of_length_le (by omega)]
  dsimp only
  refine wpAny_bind (wpAny_of_eq (show seqItems? .none = pure none from rfl) ?_)
  have hsn : List.lookup sn ((sn, u) :: ks.zip ws) = some u := by rw [List.lookup_cons, beq_self_eq_true]
  have hm : List.filter (fun n => (List.lookup n ((sn, u) :: ks.zip ws)).isNone) [sn] = [] := by
    rw [List.filter_cons_of_neg (by rw [hsn]; simp), List.filter_nil]
  simp only [List.map_nil, List.nil_append, List.length_cons, List.length_nil, Option.getD_none, List.drop_nil, Nat.sub_zero, List.take_succ_cons, List.take_zero, Nat.zero_add, Array.toList_empty, List.take_zero, List.drop_succ_cons, List.drop_zero, List.zip_nil_right, List.zip_nil_left, Nat.zero_sub, Nat.sub_self, gt_iff_lt, Nat.lt_irrefl, decide_false, Bool.false_and, hm, List.isEmpty_nil, Bool.not_true, if_false, Bool.false_eq_true, reduceIte]
  refine wpAny_bind (wpAny_pure ?_)
  have key : ∀ n ∈ kn, (List.lookup n (ks.zip ws) = some (valO ks ws dn its n)) ∨ (List.lookup n (ks.zip ws) = none ∧ PySem.W.nsIn K kD n = some (some (valO ks ws dn its n))) := fun n hn => by
    unfold valO
    cases z : List.lookup n (ks.zip ws) with
    | some v => exact .inl rfl
    | none =>
      refine .inr ⟨rfl, ?_⟩
      have hnk : n ∉ ks := fun y => by obtain ⟨v, hv⟩ := lks lw y; rw [z] at hv; cases hv
      have hnd : n ∈ dn := (cov n hn).resolve_left hnk
      obtain ⟨v, hv⟩ := lks ld hnd
      rw [hv]
      have hmem : ∀ {l : List (Str × Value)}, List.lookup n l = some v → (n, v) ∈ l := fun {l} => by
        induction l with
        | nil => intro h; cases h
        | cons p l ih =>
          intro h
          obtain ⟨a, b⟩ := p
          rw [List.lookup_cons] at h
          cases y : (n == a) with
          | true => rw [y] at h; cases h; rw [beq_iff_eq.mp y]; exact List.mem_cons_self
          | false => rw [y] at h; exact List.mem_cons_of_mem _ (ih h)
      exact hd (n, v) (hmem hv)
  refine wpAny_bind (forIn_walk (fun as t => ∃ done, kn = done ++ as ∧ t.2 = [] ∧ List.lookup sn t.1 = some u ∧ (∀ n ∈ done, List.lookup n t.1 = some (valO ks ws dn its n)) ∧ ∀ n, n ∉ done → n ≠ sn → List.lookup n t.1 = List.lookup n (ks.zip ws)) ?_ ?_ _ _ ⟨[], rfl, rfl, hsn, fun n h => absurd h List.not_mem_nil, fun n _ hne => by rw [List.lookup_cons, beq_eq_false_iff_ne.mpr hne]⟩)
  · rintro n as ⟨sl, mk⟩ ⟨done, e1, rfl, hs1, hs2, hs3⟩
    have hn : n ∈ kn := by rw [e1]; exact List.mem_append_right _ List.mem_cons_self
    have hnsn : n ≠ sn := fun z => nn (by rw [← z]; exact hn)
    dsimp only at hs1 hs2 hs3 ⊢
    cases z : List.lookup n sl with
    | some v =>
      refine ⟨(sl, []), wpAny_pure ⟨by rfl, rfl⟩, done ++ [n], by rw [e1, List.append_assoc]; rfl, rfl, hs1, fun m hm => ?_, fun m hm hne => hs3 m (fun y => hm (List.mem_append_left _ y)) hne⟩
      rcases List.mem_append.mp hm with y | y
      · exact hs2 m y
      · rw [List.mem_singleton.mp y]
        by_cases hd : n ∈ done
        · exact hs2 n hd
        · have h3 := hs3 n hd hnsn
          rcases key n hn with y | ⟨y, _⟩
          · exact h3.trans y
          · rw [z, y] at h3; cases h3
    | none =>
      have hnd : n ∉ done := fun y => by have := hs2 n y; rw [z] at this; cases this
      have h3 := hs3 n hnd hnsn
      rcases key n hn with y | ⟨y, hns⟩
      · rw [z, y] at h3; cases h3
      refine ⟨(sl ++ [(n, valO ks ws dn its n)], []), ?_, done ++ [n], by rw [e1, List.append_assoc]; rfl, rfl, ?_, fun m hm => ?_, fun m hm hne => ?_⟩
      · show wpAny M A (nsGet kD n >>= _) _ _ _
        exact wpAny_bind ((PySem.W.looks_nsIn KX hns).here (wpAny_pure ⟨rfl, rfl⟩))
      · dsimp only; rw [List.lookup_append, hs1]; rfl
      · dsimp only
        rw [List.lookup_append]
        rcases List.mem_append.mp hm with y | y
        · rw [hs2 m y]; rfl
        · rw [List.mem_singleton.mp y, z, List.lookup_cons, beq_self_eq_true]; rfl
      · dsimp only
        have hmn : m ≠ n := fun y => hm (by rw [y]; exact List.mem_append_right _ (List.mem_singleton.mpr rfl))
        rw [List.lookup_append, hs3 m (fun y => hm (List.mem_append_left _ y)) hne, List.lookup_cons, beq_eq_false_iff_ne.mpr hmn]
        cases List.lookup m (ks.zip ws) <;> rfl
  rintro ⟨sl, mk⟩ ⟨done, e1, rfl, hs1, hs2, hs3⟩
  rw [List.append_nil] at e1
  subst e1
  dsimp only at hs1 hs2 ⊢
  have hb : List.filterMap (fun n => Option.map (fun x => (n, x)) (List.lookup n sl)) (sn :: kn) = (sn, u) :: kn.map fun n => (n, valO ks ws dn its n) := by
    rw [List.filterMap_cons_some (by rw [hs1]; rfl)]
    congr 1
    clear e2 q sk cov key nn p3 hs3
    induction kn with
    | nil => rfl
    | cons n kn ih => rw [List.filterMap_cons_some (by rw [hs2 n List.mem_cons_self]; rfl), List.map_cons, ih (fun m hm => hs2 m (List.mem_cons_of_mem _ hm))]
  rw [show ([sn] ++ kn : List Str) = sn :: kn from rfl] at *
  simp only [List.isEmpty_nil, Bool.not_true, if_false, Bool.false_eq_true, reduceIte]
  rw [hb]
  exact wpAny_pure q
end
theorem sto_mk {K : PySem.W.Frag} {mg : Str → Option Value} {x : Str} {C f kD : Addr} {qual : Str} {st : Stmt} {ks kn dn : List Str} {src : List Src} {dvs : List V} {ps : Str} {its : List Value} {oc : Value} {od an : Option Addr} {osl : Array (Option Value)} {doc pm cdv ct : Value}
    (hm : mg x = some (.ref C)) (hk : Mk K C f) (hl : K.lookup f = some ⟨oc, od, .func (PySem.W.fnOf "__init__" qual (defArgs st) (defBody st) (defScope st) .none (.ref kD) doc pm an cdv ct), osl⟩) (hc : PySem.W.codeIn K cdv qual = true) (hv : Vals dvs its)
    (p1 : (defArgs st).posonlyargs = []) (p2 : (defArgs st).args.map (·.arg) = [ps]) (p3 : (defArgs st).kwonlyargs.map (·.arg) = kn) (p4 : (defArgs st).vararg = none) (p5 : (defArgs st).kwarg = none)
    (nk : ks.Nodup) (sk : ∀ k ∈ ks, k ∈ kn) (ns : ps ∉ ks) (nn : ps ∉ kn) (hd : ∀ p ∈ dn.zip its, PySem.W.nsIn K kD p.1 = some (some p.2)) (ld : its.length = dn.length) (cov : ∀ n ∈ kn, n ∈ ks ∨ n ∈ dn)
    (ee : ∀ ws : List Value, ws.length = ks.length → kn.zip (arr src [] ws its) = kn.map fun n => (n, valO ks ws dn its n)) : StOI K mg x C qual st ks src dvs ps kn :=
  ⟨f, oc, od, an, osl, .none, .ref kD, doc, pm, cdv, ct, its, hm, hk, hl, hc, hv, fun M A E Q s u ws KX l2 h => bind_ko (fd := PySem.W.fnOf "__init__" qual (defArgs st) (defBody st) (defScope st) .none (.ref kD) doc pm an cdv ct) KX p1 p2 p3 p4 p5 rfl rfl l2 nk sk ns nn hd ld cov (by rw [← ee ws l2]; exact h)⟩
end TP

namespace MR
open PySem PySem.Spec PyProof.Rows L2 TP
section
variable {K : PySem.W.Frag} {Γ : Gm} {xa : XT} {W : WX} {w w' w0 : Wd} {te to ti ta tb : TE} {me mo mk ma mb : ME} {tl : TA} {ml : MA}
theorem zip_fst {α β : Type} : ∀ {as : List α} {bs : List β}, as.length = bs.length → (as.zip bs).map (·.1) = as ∧ (as.zip bs).map (·.2) = bs
  | [], [], _ => ⟨rfl, rfl⟩
  | [], _ :: _, h => by cases h
  | _ :: _, [], h => by cases h
  | a :: as, b :: bs, h => by
    obtain ⟨h1, h2⟩ := zip_fst (as := as) (bs := bs) (by simpa using h)
    exact ⟨by rw [List.zip_cons_cons, List.map_cons, h1], by rw [List.zip_cons_cons, List.map_cons, h2]⟩
def opInTab (c : Nat) (ks : List Str) : D → D → Sto → Out D := fun d e S => match d, e with
  | .str t, .cls c' => if c' = c then .ok (.bl (ks.any fun k => decide (k = t))) S else .bad
  | _, _ => .bad
theorem valV_keys : ∀ {ks : List Str} {kvs : List (Key × V)} {t : Str}, kvs.map (·.1) = ks.map Sum.inr → (valV kvs (.inr t)).isSome = ks.any fun k => decide (k = t)
  | [], [], t, _ => rfl
  | [], _ :: _, t, h => by cases h
  | _ :: _, [], t, h => by cases h
  | k :: ks, p :: kvs, t, h => by
    rw [List.map_cons, List.map_cons] at h
    injection h with h1 h2
    rw [List.any_cons]
    by_cases e : k = t
    · rw [valV_pos (p := p) (by rw [h1, e]), decide_eq_true e]; rfl
    · rw [valV_neg (p := p) (fun z => e (by rw [h1] at z; injection z)), decide_eq_false e, Bool.false_or]
      exact valV_keys h2
theorem om_inTab {c : Nat} {a : Addr} {ks : List Str} {kvs : List (Key × V)} (hc : Γ c = a) (hk : kvs.map (·.1) = ks.map Sum.inr) : OpM K Γ (rInTab a kvs) (opInTab c ks) := ⟨fun w d e x y Q ex o hx hy p => by
  unfold opInTab at p
  split at p
  · rename_i t c'
    split at p
    · rename_i ec
      subst ec
      have hx' : x = .str t := keyOf_ok (k := .inr t) hx rfl
      have hy' : y = .ref a := by
        rcases hy with hy | ⟨_, _, _, hy⟩
        · simp only [Rep, RepC] at hy; rw [hy, hc]
        · exact False.elim hy.at_
      refine ⟨hy', t, hx', ?_⟩
      rw [valV_keys hk]
      exact Post.now p o _ (by simp only [Rep, RepC])
    · exact False.elim p
  · exact False.elim p⟩
def opGetTab (c : Nat) (ks : List Str) (ds : List D) : D → D → Sto → Out D := fun e d S => match d, e with
  | .str t, .cls c' => if c' = c then match lkD (ks.map Sum.inr) ds (.inr t) with
      | some x => .ok x S
      | none => .bad
    else .bad
  | _, _ => .bad
theorem om_getTab {c : Nat} {a : Addr} {ks : List Str} {ds : List D} {vs : List V} (hc : Γ c = a) (hv : ∀ w : Wd, Reps K Γ w ds vs) : OpM K Γ (rGetTab a ((ks.map Sum.inr).zip vs)) (opGetTab c ks ds) := ⟨fun w d e x y Q ex o hx hy p => by
  unfold opGetTab at p
  split at p
  · rename_i t c'
    split at p
    · rename_i ec
      subst ec
      split at p
      · rename_i z hz
        have hy' : y = .str t := keyOf_ok (k := .inr t) hy rfl
        have hx' : x = .ref a := by
          rcases hx with hx | ⟨_, _, _, hx⟩
          · simp only [Rep, RepC] at hx; rw [hx, hc]
          · exact False.elim hx.at_
        obtain ⟨v, h1, h2⟩ := (lk_zip (ks := ks.map Sum.inr) (j := .inr t) (hv w)).2 z hz
        exact ⟨hx', t, v, hy', h1, Post.now p o _ h2⟩
      · exact False.elim p
    · exact False.elim p
  · exact False.elim p⟩
variable {c : Nat} {C : Addr} {m : MF}
end
end MR

namespace MR
open PySem PySem.Spec PyProof.Rows L2 TP
section
variable {K : PySem.W.Frag} {Γ : Gm} {xa : XT} {W : WX} {w w' w0 : Wd} {te to ti ta tb tk tv : TE} {me mo mk ma mb mv : ME} {tl : TA} {ml mi : MA} {t : TT} {mt : MT} {tg : TG} {mg : MG} {wi : TI} {vs : List Nat} {c : Nat} {C : Addr}
def mIZipT (ml : MA) : MA := fun δ S => bnd (ml δ S) fun ds S => match ds with
  | [.tup ds, .tup es] => .ok (zipD ds es) S
  | _ => .bad
theorem items_zipT {rel : Wd → Wd → Prop} {a b : Addr} {vs us : List V} {ds es : List D} (hl : vs.length ≤ sizeLine) (h : ∀ w1, Ok K Γ w1 → rel w w1 → (SqT K w1.H a vs ∧ Reps K Γ w1 ds vs) ∧ SqT K w1.H b us ∧ Reps K Γ w1 es us) (hw : rel w w) (o : Ok K Γ w) : Items K Γ rel w (RZ.ItzT K a b) (zipD ds es) := by
  obtain ⟨⟨_, q1⟩, _, q2⟩ := h w o hw
  have el := reps_len q1
  have em := reps_len q2
  have hz : (ds.zip es).length = min ds.length es.length := List.length_zip
  refine items_pairs (n := min ds.length es.length) hz (by omega) (fun w1 i o1 e1 hi => ?_) (fun w1 o1 e1 => ?_) fun w1 i v H' o1 e1 hi y => ?_
  · obtain ⟨⟨h1, _⟩, h2, _⟩ := h w1 o1 e1
    exact ⟨vs, us, _, _, h1, h2, List.getElem?_eq_getElem (by omega), List.getElem?_eq_getElem (by omega)⟩
  · obtain ⟨⟨h1, _⟩, h2, _⟩ := h w1 o1 e1
    exact ⟨vs, us, h1, h2, by omega⟩
  · obtain ⟨T, x, y', rfl, hT, rfl, y1, y2⟩ := y
    obtain ⟨⟨h1, h2⟩, h3, h4⟩ := h w1 o1 e1
    obtain ⟨d, hd, hr⟩ := reps_get' h2 (y1 vs h1)
    obtain ⟨e, he, hr'⟩ := reps_get' h4 (y2 us h3)
    exact ⟨T, x, y', d, e, rfl, hT, rfl, by rw [List.getElem?_zip_eq_some]; exact ⟨hd, he⟩, hr, hr'⟩
theorem sim_izipT {n : Nat} (h : SimA K Γ xa W n tl ml) : SimI K Γ xa Gr W (RZ.iZipA K tl) (mIZipT ml) := ⟨fun w0 w σ δ R o e n p =>
  h.run w0 w σ δ _ o e n (p.then fun ds w1 o1 e1 p1 vs r1 => by
    split at p1
    · obtain ⟨v, u, rfl, r, r'⟩ := reps2 r1
      simp only [Rep, RepC] at r r'
      obtain ⟨a, vs, rfl, h2, h3, h4⟩ := r
      obtain ⟨b, us, rfl, g2, g3, g4⟩ := r'
      exact ⟨a, b, vs, us, rfl, .inr ⟨sqT_mono o1.same h2, sqT_mono o1.same g2, Post.now p1 o1 _ (items_zipT h3 (fun w2 o2 q2 => ⟨⟨sqT_mono o2.same (sqT_mono q2.rr h2), Reps.gr h4 q2⟩, sqT_mono o2.same (sqT_mono q2.rr g2), Reps.gr g4 q2⟩) (Gr.refl _) o1)⟩⟩
    · exact False.elim p1)⟩
def mDcL (mg : MG) (mt : MT) (mk mv : ME) (δ : Env) : List D → List Key → List D → Sto → Out (List Key × List D)
  | [], ks, es, S => .ok (ks, es) S
  | d :: ds, ks, es, S => match mg d δ with
    | none => .bad
    | some δ1 => bnd (noX (mt δ1 S)) fun b S => if b then bnd (noX (mk δ1 S)) fun y S => bnd (noX (mv δ1 S)) fun z S => match keyOf y with
        | some k => if hasK k ks = true then .bad else mDcL mg mt mk mv δ ds (ks ++ [k]) (es ++ [z]) S
        | none => .bad
      else mDcL mg mt mk mv δ ds ks es S
def mDc (mi : MA) (mg : MG) (mt : MT) (mk mv : ME) (vs : List Nat) : ME := fun δ S => bnd (mi δ S) fun ds S => bnd (mDcL mg mt mk mv (mwipe δ vs) ds [] [] S) fun q S => .ok (.dic q.1 q.2) S
theorem hasK_val {k : Key} : ∀ {ks : List Key} {vs : List V}, hasK k ks ≠ true → valV (ks.zip vs) k = none
  | [], vs, _ => by rw [List.zip_nil_left]; exact valV_nil
  | j :: ks, [], _ => by rw [List.zip_nil_right]; exact valV_nil
  | j :: ks, v :: vs, h => by
    have h' : ¬ (decide (j = k) || hasK k ks) = true := h
    rw [Bool.or_eq_true, decide_eq_true_eq] at h'
    rw [List.zip_cons_cons, valV_neg (p := (j, v)) (fun e => h' (.inl e))]
    exact hasK_val fun z => h' (.inr z)
theorem sim_dc {us : List Nat} (hi : SimI K Γ xa Ev W wi mi) (hg : SimN K Γ xa us tg mg) (ht : SimT K Γ xa noW t mt) (hk : SimE K Γ xa noW tk mk) (hv : SimE K Γ xa noW tv mv) (hu : ∀ i ∈ us, i ∈ vs := by decide) : SimF K Γ xa W (tDc wi tg t tk tv vs) (mDc mi mg mt mk mv vs) := ⟨fun w0 w σ δ Q o e n p =>
  hi.run w0 w σ δ _ o e n (p.then fun ds w1 o1 e1 p1 J it Dd hD => by
    let okF : D → Wd → Prop := fun d w' => ∀ a, OwnAt K Γ w w' d a → Q (.ref a) w'.H
    refine ⟨fun i m H => m = ds.length - i ∧ i ≤ ds.length ∧ ∃ w' ks es, w'.H = H ∧ Ok K Γ w' ∧ Ev w1 w' ∧ OwnAt K Γ w1 w' (.dic ks es) Dd ∧ ks.length ≤ i ∧
        Post K Γ (bnd (mDcL mg mt mk mv (mwipe δ vs) (ds.drop i) ks es w'.S) fun q S => .ok (D.dic q.1 q.2) S) w1 okF (XW K Γ W σ), ⟨_, rfl, Nat.zero_le _, wPut w1 Dd (.dK []), [], [], rfl, ok_put o1 (r_none o1 hD) (not_live o1 hD), ev_put (Ev.refl _) hD, own_new o1 hD ⟨[], upd_same, rfl, reps_nil⟩, Nat.le_refl _, p1⟩, ?_⟩
    rintro i m H ⟨rfl, hi, w', ks, es, rfl, o', e', oa, hacc, p'⟩
    rcases Nat.lt_or_ge i ds.length with hlt | hge
    · refine .inr ⟨it.go w' i o' e' hlt, _, fun _ h => h, fun x H' y => ?_⟩
      obtain ⟨w2, d, rfl, hs2, o2, e2, hd, rx⟩ := it.yld w' i x H' o' e' hlt y
      have hdr : ds.drop i = d :: ds.drop (i + 1) := by
        rw [List.drop_eq_getElem_cons hlt]
        congr 1
        exact Option.some.inj ((List.getElem?_eq_getElem hlt).symm.trans hd)
      rw [hdr] at p'
      unfold mDcL at p'
      have n2 : EnvOk K Γ xa w0 w2 (wipe σ vs) (mwipe δ vs) := (((n.ev e1).ev e').ev e2).wipe vs
      have ev02 : Ev w0 w2 := ((e.trans e1).trans e').trans e2
      refine hg.run w0 w2 _ _ d x _ o2 n2 rx ?_
      cases zg : mg d (mwipe δ vs) with
      | none => rw [zg] at p'; exact p'
      | some δ1 =>
        rw [zg] at p'
        dsimp only at p'
        rw [← hs2, bnd_assoc] at p'
        intro σ1 n1 hl1 hk1
        refine ⟨(wipe_same hl1 hk1 hu).trans (wipe_wipe vs), ?_⟩
        refine ht.run w0 w2 σ1 δ1 _ o2 ev02 n1 (Post.noX ((Post.ev p' (e'.trans e2)).thenE fun b w3 q3 o3 e3 p3 => ?_))
        have oa3 := (oa.ev e2).ev e3
        have m1 : ds.length - (i + 1) < ds.length - i := by omega
        rw [q3] at p'
        cases b with
        | false =>
          rw [if_neg (by simp)]
          exact ⟨_, m1, rfl, hlt, w3, ks, es, rfl, o3, (e'.trans e2).trans e3, oa3, by omega, p'⟩
        | true =>
          rw [if_pos rfl]
          have p3' : Post K Γ (bnd (bnd (noX (mk δ1 w3.S)) fun y S => bnd (noX (mv δ1 S)) fun z S => match keyOf y with
            | some k => if hasK k ks = true then Out.bad else mDcL mg mt mk mv (mwipe δ vs) (ds.drop (i + 1)) (ks ++ [k]) (es ++ [z]) S
            | none => .bad) fun q S => .ok (D.dic q.1 q.2) S) w1 okF (XW K Γ W σ) := p'
          rw [bnd_assoc] at p3'
          refine hk.run w0 w3 σ1 δ1 _ o3 (ev02.trans e3) (n1.ev e3) (Post.noX ((Post.ev p3' ((e'.trans e2).trans e3)).thenE fun yd w4 q4 o4 e4 p4 y r4 => ?_))
          rw [q4] at p3'
          have p4' : Post K Γ (bnd (bnd (noX (mv δ1 w4.S)) fun z S => match keyOf yd with
            | some k => if hasK k ks = true then Out.bad else mDcL mg mt mk mv (mwipe δ vs) (ds.drop (i + 1)) (ks ++ [k]) (es ++ [z]) S
            | none => .bad) fun q S => .ok (D.dic q.1 q.2) S) w1 okF (XW K Γ W σ) := p3'
          rw [bnd_assoc] at p4'
          refine hv.run w0 w4 σ1 δ1 _ o4 ((ev02.trans e3).trans e4) ((n1.ev e3).ev e4) (Post.noX ((Post.ev p4' (((e'.trans e2).trans e3).trans e4)).thenE fun zd w5 q5 o5 e5 p5 z r5 => ?_))
          rw [q5] at p4'
          have p5' : Post K Γ (bnd (match keyOf yd with
            | some k => if hasK k ks = true then Out.bad else mDcL mg mt mk mv (mwipe δ vs) (ds.drop (i + 1)) (ks ++ [k]) (es ++ [zd]) w5.S
            | none => .bad) fun q S => .ok (D.dic q.1 q.2) S) w1 okF (XW K Γ W σ) := p4'
          cases hk : keyOf yd with
          | none => rw [hk] at p5'; exact False.elim p5'
          | some k =>
            rw [hk] at p5'
            dsimp only at p5'
            split at p5'
            · exact False.elim p5'
            · rename_i hnk
              have oa5 := (oa3.ev e4).ev e5
              obtain ⟨va, h1, h2, h3⟩ := oa5.at_
              have hlen : (ks.zip va).length < sizeLine := by
                rw [List.length_zip, ← h2, Nat.min_self]; have := it.len; omega
              refine ⟨_, k, keyOf_ok (.inl r4) hk, h1, hlen, _, m1, rfl, hlt, wPut w5 Dd (.dK (putK (ks.zip va) k z)), ks ++ [k], es ++ [zd], rfl, ok_put o5 oa5.r oa5.nl, ?_, ?_, by rw [List.length_append]; simp; omega, p5'⟩
              · exact ev_put ((((e'.trans e2).trans e3).trans e4).trans e5) oa5.new
              · refine ⟨oa5.new, oa5.r, oa5.nl, va ++ [z], ?_, by rw [List.length_append, List.length_append, h2]; rfl, reps_app h3 (reps_cons r5 reps_nil)⟩
                rw [putK_new _ (hasK_val hnk), List.zip_append h2]
                exact upd_same
    · have hi' : i = ds.length := by omega
      subst hi'
      refine .inl ⟨it.stop w' o' e', ?_⟩
      rw [List.drop_length] at p'
      have p2 : Post K Γ (.ok (D.dic ks es) w'.S) w1 okF (XW K Γ W σ) := p'
      exact p2.at rfl o' e' _ (own_back e1 oa))⟩
end
end MR

namespace MR
open PySem PySem.Spec PyProof.Rows L2 TP
section
variable {K : PySem.W.Frag} {Γ : Gm} {xa : XT} {W : WX} {w w' w0 : Wd}
def textsOf : List D → Option (List Str)
  | [] => some []
  | .str b :: r => (textsOf r).map (b :: ·)
  | _ => none
theorem texts_reps : ∀ {ds : List D} {xs : List Str} {vs : List V}, textsOf ds = some xs → Reps K Γ w ds vs → vs = xs.map V.str
  | [], xs, vs, h, r => by cases h; exact r
  | d :: ds, xs, vs, h, r => by
    cases d with
    | str b =>
      obtain ⟨v, ws, rfl, r1, r2⟩ := reps_inv r
      cases z : textsOf ds with
      | none => rw [show textsOf (.str b :: ds) = (textsOf ds).map (b :: ·) from rfl, z] at h; cases h
      | some ys =>
        rw [show textsOf (.str b :: ds) = (textsOf ds).map (b :: ·) from rfl, z] at h
        cases h
        rw [texts_reps z r2, show v = .str b from r1]; rfl
    | _ => cases h
def nodupB : List Str → Bool
  | [] => true
  | x :: xs => !(xs.any fun y => decide (y = x)) && nodupB xs
theorem nodupB_iff : ∀ xs : List Str, nodupB xs = true ↔ xs.Nodup
  | [] => ⟨fun _ => List.nodup_nil, fun _ => rfl⟩
  | x :: xs => by
    rw [List.nodup_cons, ← nodupB_iff xs]
    show (!(xs.any fun y => decide (y = x)) && nodupB xs) = true ↔ _
    rw [Bool.and_eq_true, Bool.not_eq_true', List.any_eq_false]
    constructor
    · rintro ⟨h1, h2⟩
      exact ⟨fun hm => h1 x hm (decide_eq_true rfl), h2⟩
    · rintro ⟨h1, h2⟩
      exact ⟨fun y hy e => h1 (by rw [decide_eq_true_eq] at e; rw [← e]; exact hy), h2⟩
def mSetNe (i : Nat) : ME := fun δ S => match mPeek i δ S with
  | .ok d S => match (listOf S d).bind textsOf with
    | some xs => if xs.length ≤ 1000 then .ok (.bl (!nodupB xs)) S else .bad
    | none => .bad
  | _ => .bad
theorem sim_setNe {i : Nat} : SimE K Γ xa W (tOp (rUnlike K) (tLenSetS K (tVar i)) (tCB (TP.rLen K) (tCons (tVar i) tNil))) (mSetNe i) := ⟨fun w0 w σ δ Q o e n p => by
  have key : ∀ d, mPeek i δ w.S = .ok d w.S → ∃ v, σ[i]? = some (some v) ∧ Pk K Γ w d v := fun d hd => by
    unfold mPeek at hd
    split at hd
    · rename_i d' h
      cases hd
      obtain ⟨v, h1, h2⟩ := n.val h
      exact ⟨v, h1, .inl h2⟩
    · rename_i b d' h
      cases hd
      obtain ⟨a, h1, h2⟩ := n.own h
      exact ⟨.ref a, h1, .inr ⟨w0, a, rfl, h2⟩⟩
    · cases hd
  unfold mSetNe at p
  cases z : mPeek i δ w.S with
  | bad => rw [z] at p; exact False.elim p
  | ex => rw [z] at p; exact False.elim p
  | ok d S =>
    have hS : S = w.S := by
      unfold mPeek at z
      split at z <;> cases z <;> rfl
    subst hS
    obtain ⟨v, hv, hp⟩ := key d z
    rw [z] at p
    dsimp only at p
    cases zl : listOf w.S d with
    | none => rw [zl] at p; exact False.elim p
    | some ds =>
      rw [zl] at p
      cases zt : textsOf ds with
      | none => rw [show (some ds).bind textsOf = textsOf ds from rfl, zt] at p; exact False.elim p
      | some xs =>
        rw [show (some ds).bind textsOf = textsOf ds from rfl, zt] at p
        dsimp only at p
        split at p
        · rename_i hl
          obtain ⟨a, vs, rfl, a1, a2, a3⟩ := listOf_ok o hp zl
          have hvs := texts_reps zt a3
          subst hvs
          refine ⟨_, hv, a, xs, rfl, a1, hl, fun n hn => ?_⟩
          refine ⟨_, hv, ?_⟩
          show TP.rLen K [V.ref a] w.H fun y H2 => rUnlike K (V.int n) y H2 Q
          have hf : fLen [d] w.S = .ok (.int ds.length) w.S := by
            have hs : seqOf w.S d = some ds := by unfold seqOf; rw [zl]
            cases d <;> first | (cases zl; done) | (unfold fLen; simp only [hs])
          have hd : ds.length = xs.length := by rw [reps_len a3, List.length_map]
          refine cm_len.run w [d] [.ref a] _ (fun _ _ _ _ => True) o (.cons hp .nil) ?_
          rw [hf]
          intro w1 hs1 o1 e1 v hv1
          rw [show v = .int (ds.length : Int) from hv1]
          refine om_ne.run w1 (.int n) (.int ds.length) _ _ Q (fun _ _ _ _ => True) o1 (.inl rfl) (.inl rfl) ?_
          show Post K Γ (.ok (D.bl (xor true (decide ((n : Int) = ds.length)))) w1.S) w1 _ _
          intro w2 hs2 o2 e2 v2 hv2
          refine p w2 (hs2.trans hs1) o2 (e1.trans e2) v2 ?_
          rw [show v2 = V.bl (xor true (decide ((n : Int) = ds.length))) from hv2]
          have : decide ((n : Int) = ds.length) = nodupB xs := by
            rw [hd]
            cases zn : nodupB xs with
            | true => exact decide_eq_true (by have := hn.mpr ((nodupB_iff xs).mp zn); omega)
            | false =>
              refine decide_eq_false fun h => ?_
              have h2 := hn.mp (by omega)
              rw [← nodupB_iff, zn] at h2
              cases h2
          rw [this, Bool.true_xor]
          simp only [Rep, RepC]
        · exact False.elim p⟩
end
end MR

namespace TP
open PySem PySem.Spec PySem.Calls PyProof.Rows L2
section
variable {M : Model} {A : Around} {E : Value → Shared → Prop}
abbrev dctO (es : List DictEntry) (n : Nat) : Obj := { cls := .type "dict", dict := none, data := .dict es.toArray n, slots := #[] }
def kwE (P : Params) : Tok → List (Str × Value) → List DictEntry
  | _, [] => []
  | t, x :: r => ⟨PyData.keyHash P x.1, .str x.1 t, x.2⟩ :: kwE P (t + 1) r
theorem put_new {k : Str} {hsh : Int} {key v : Value} : ∀ {es : List DictEntry}, (∀ e ∈ es, e.key.isStr k = false) → PySem.W.putL k hsh key v es = es ++ [⟨hsh, key, v⟩] := PySem.W.putL_new
theorem ns_put {P : Program} {w : World} {s : Shared} {d : Addr} {es : List DictEntry} {n : Nat} {k : Str} {v : Value} {Q : Unit → Shared → Prop} (D : s.heap.get? d = some (dctO es n)) (hs : ∀ e ∈ es, e.key.isStr k = false) (hr : ∀ e ∈ es, e.refKey = false)
    (h : ∀ h', (∀ b o, b ≠ d → s.heap.get? b = some o → h'.get? b = some o) → h'.get? d = some (dctO (es ++ [⟨PyData.keyHash w.params k, .str k s.toks, v⟩]) (n + 1)) → Q () { s with heap := h', toks := s.toks + 1 }) :
    wpAny (model P w) A (nsSet d k v) Q E s := by
  have e1 : es.any (·.key.isStr k) = false := by
    cases q : es.any (·.key.isStr k) with
    | false => rfl
    | true => obtain ⟨e, he, z⟩ := List.any_eq_true.mp q; rw [hs e he] at z; cases z
  have e2 : es.any (·.refKey) = false := by
    cases q : es.any (·.refKey) with
    | false => rfl
    | true => obtain ⟨e, he, z⟩ := List.any_eq_true.mp q; rw [hr e he] at z; cases z
  have e : Obj.putName k (PyData.keyHash w.params k) (.str k s.toks) v (dctO es n) = dctO (es ++ [⟨PyData.keyHash w.params k, .str k s.toks, v⟩]) (n + 1) := by
    rw [PySem.W.putName_dict, put_new hs]
    show dctO _ (if es.any (·.key.isStr k) then n else n + 1) = _
    rw [e1, if_neg Bool.false_ne_true]
  have c : aRefKeyMayBeTheName k es.toArray = false := by
    rw [aRefKeyMayBeTheName_at, ← Array.any_toList, ← Array.any_toList]
    show (!es.any (·.key.isStr k) && es.any (·.refKey)) = false
    rw [e2, Bool.and_false]
  unfold nsSet
  refine wpAny_bind (wpAny_bind (wpAny_askSetting (wpAny_pure (wpAny_bind (wpAny_mkText (wpAny_bind (wpAny_loadPart D ?_)))))))
  dsimp only
  rw [c]
  refine wpAny_updatePart D (h _ (fun b o hb ho => ?_) ?_)
  · rw [Heap.get?_update_other _ _ (Ne.symm hb)]; exact ho
  · have hf : (Obj.putName k (PyData.keyHash w.params k) (.str k s.toks) v (dctO es n)).isFreed = false := by rw [e]; rfl
    exact (Heap.get?_update_self _ D hf).trans (congrArg some e)
theorem ns_fill {P : Program} {w : World} {d : Addr} {Q : PUnit → Shared → Prop} : ∀ (ex : List (Str × Value)) (s : Shared) (es : List DictEntry) (n : Nat), s.heap.get? d = some (dctO es n) → (∀ e ∈ es, ∀ x ∈ ex, e.key.isStr x.1 = false) → (∀ e ∈ es, e.refKey = false) → (ex.map (·.1)).Nodup →
    (∀ h', (∀ b o, b ≠ d → s.heap.get? b = some o → h'.get? b = some o) → h'.get? d = some (dctO (es ++ kwE w.params s.toks ex) (n + ex.length)) → Q ⟨⟩ { s with heap := h', toks := s.toks + ex.length }) →
    wpAny (model P w) A (forIn ex PUnit.unit fun x _ => (nsSet d x.1 x.2 >>= fun _ => pure (ForInStep.yield PUnit.unit))) Q E s
  | [], s, es, n, D, _, _, _, h => by
    rw [List.forIn_nil]
    refine wpAny_pure (h s.heap (fun _ _ _ e => e) ?_)
    show s.heap.get? d = some (dctO (es ++ []) n)
    rw [List.append_nil]; exact D
  | x :: r, s, es, n, D, hs, hr, hn, h => by
    obtain ⟨hn1, hn2⟩ := List.nodup_cons.mp (show (x.1 :: r.map (·.1)).Nodup from hn)
    rw [List.forIn_cons]
    refine wpAny_bind (wpAny_bind (ns_put D (fun e he => hs e he x (.head _)) hr fun h' k' D' => wpAny_pure ?_))
    show wpAny (model P w) A (forIn r PUnit.unit fun x _ => (nsSet d x.1 x.2 >>= fun _ => pure (ForInStep.yield PUnit.unit))) Q E { s with heap := h', toks := s.toks + 1 }
    refine ns_fill r { s with heap := h', toks := s.toks + 1 } _ _ D' (fun e he y hy => ?_) (fun e he => ?_) hn2 fun h'' k'' D'' => ?_
    · rcases List.mem_append.mp he with he | he
      · exact hs e he y (.tail _ hy)
      · rw [List.mem_singleton.mp he]
        show (Value.str x.1 s.toks).isStr y.1 = false
        have : x.1 ≠ y.1 := fun z => hn1 (by rw [z]; exact List.mem_map_of_mem hy)
        simp [Value.isStr, this]
    · rcases List.mem_append.mp he with he | he
      · exact hr e he
      · rw [List.mem_singleton.mp he]; rfl
    · have e1 : s.toks + 1 + r.length = s.toks + (x :: r).length := by rw [List.length_cons]; omega
      have := h h'' (fun b o hb ho => k'' b o hb (k' b o hb ho)) (by
        rw [D'']
        show some (dctO (es ++ [_] ++ kwE w.params (s.toks + 1) r) (n + 1 + r.length)) = some (dctO (es ++ (_ :: kwE w.params (s.toks + 1) r)) (n + (r.length + 1)))
        rw [List.append_assoc, show n + 1 + r.length = n + (r.length + 1) by omega]; rfl)
      show Q ⟨⟩ { s with heap := h'', toks := s.toks + 1 + r.length }
      rw [e1]; exact this
/-- the dict that ** makes -/
theorem kw_dk {P : Program} {w : World} {H : Hp} {h : Heap} {a : Addr} {t : Tok} {ks : List Str} {zs : List V} {ws : List Value} {n : Nat} (D : h.get? a = some (dctO (kwE w.params t (ks.zip ws)) n)) (r : Vals zs ws) (hl : zs.length = ks.length) (nk : ks.Nodup) (hz : ks.length ≤ sizeLine) (hb : (a == sysModules) = false) :
    ObjOk P w H h a (.dK ((ks.map Sum.inr).zip zs)) := by
  have lw : ws.length = ks.length := by rw [← r.length]; exact hl
  refine ⟨by rw [List.length_zip, List.length_map, hl, Nat.min_self]; exact hz, hb, (ks.map Sum.inr).zip ws, ?_, _, _, _, D, ⟨rfl, rfl, rfl⟩, rfl, fun e he => ?_, ?_, ?_⟩
  · clear D nk hz
    induction ks generalizing zs ws with
    | nil => exact .nil
    | cons k ks ih =>
      cases r with
      | nil => cases hl
      | cons r1 r2 =>
        rw [List.map_cons, List.zip_cons_cons, List.zip_cons_cons]
        exact .cons ⟨rfl, r1⟩ (ih r2 (by simpa using hl) (by simpa using lw))
  · have he' : e ∈ kwE w.params t (ks.zip ws) := by simpa using he
    have key : ∀ {ex : List (Str × Value)} {t : Tok}, e ∈ kwE w.params t ex → ∃ k : Key, (mixKind P w).is k e.key ∧ e.hash = (mixKind P w).hash k := fun {ex} => by
      induction ex with
      | nil => intro t h; cases h
      | cons x r ih =>
        intro t h
        rcases List.mem_cons.mp h with z | z
        · subst z
          refine ⟨.inr x.1, ?_, rfl⟩
          show Value.isStrOf x.1 (.str x.1 t) = true
          simp [Value.isStrOf]
        · exact ih z
    exact key he'
  · show Pairs (mixKind P w) (kwE w.params t (ks.zip ws)) _
    clear D nk hz r hl
    induction ks generalizing ws t with
    | nil => exact .nil
    | cons k ks ih =>
      cases ws with
      | nil => cases lw
      | cons v ws =>
        rw [List.map_cons, List.zip_cons_cons, List.zip_cons_cons]
        refine .cons ?_ rfl (ih (by simpa using lw))
        show Value.isStrOf k (.str k t) = true
        simp [Value.isStrOf]
  · have e : ((ks.map Sum.inr).zip ws : List (Key × Value)).map (·.1) = ks.map Sum.inr := List.map_fst_zip (by rw [List.length_map, lw]; exact Nat.le_refl _)
    rw [e]
    exact List.Pairwise.map Sum.inr (fun a b h z => h (by injection z)) nk
end
end TP
namespace TP
open PySem PySem.Spec PySem.Calls PyProof.Rows L2
theorem bind_kv {P : Program} {w : World} {A : Around} {E : Value → Shared → Prop} {s : Shared} {fd : FuncData} {sn kn : Str} {ar : Arg} {ks : List Str} {ws : List Value} {u : Value} {Q : List (Str × Value) → Shared → Prop}
    (p1 : fd.params.posonlyargs = []) (p2 : fd.params.args.map (·.arg) = [sn]) (p3 : fd.params.kwonlyargs = []) (p4 : fd.params.vararg = none) (p5 : fd.params.kwarg = some ar) (p8 : ar.arg = kn) (p6 : fd.defaults = .none)
    (lw : ws.length = ks.length) (nk : ks.Nodup) (ns : sn ∉ ks) (hz : ks.length ≤ sizeLine)
    (q : ∀ h', (∀ b o, s.heap.get? b = some o → h'.get? b = some o) → h'.get? s.heap.objs.size = some (dctO (kwE w.params s.toks (ks.zip ws)) ks.length) → Q [(sn, u), (kn, .ref s.heap.objs.size)] { s with heap := h', toks := s.toks + ks.length }) :
    wpAny (model P w) A (bindArgs fd ⟨[u], ks.zip ws⟩) Q E s := by
  unfold bindArgs
  dsimp only
  rw [p1, p2, p3, p4, p5, p6]
  dsimp only [List.map_nil, List.nil_append, List.length_cons, List.length_nil, List.zip_cons_cons, List.zip_nil_left, List.zip_nil_right]
  refine wpAny_bind (forIn_walk (fun as t => ∃ done rest, ks = done ++ rest ∧ as = rest.zip (ws.drop done.length) ∧ t = ([(sn, u)], done.zip (ws.take done.length))) ?_ ?_ _ _ ⟨[], ks, rfl, rfl, rfl⟩)
  · rintro ⟨k, v⟩ as t ⟨done, rest, e1, e2, rfl⟩
    have hrest : ∃ rs, rest = k :: rs ∧ ∃ vs, ws.drop done.length = v :: vs ∧ as = rs.zip vs := by
      cases rest with
      | nil => rw [List.zip_nil_left] at e2; cases e2
      | cons r rs =>
        cases z : ws.drop done.length with
        | nil => rw [z, List.zip_nil_right] at e2; cases e2
        | cons v' vs => rw [z, List.zip_cons_cons] at e2; cases e2; exact ⟨rs, rfl, vs, rfl, rfl⟩
    obtain ⟨rs, rfl, vs, hv, rfl⟩ := hrest
    have hk : k ∈ ks := by rw [e1]; exact List.mem_append_right _ List.mem_cons_self
    have hdl : done.length < ws.length := by rw [lw, e1, List.length_append, List.length_cons]; omega
    have hvv : ws[done.length] = v := by
      rw [List.drop_eq_getElem_cons hdl] at hv
      exact (List.cons.inj hv).1
    refine ⟨([(sn, u)], (done ++ [k]).zip (ws.take (done.length + 1))), ?_, done ++ [k], rs, by rw [e1, List.append_assoc]; rfl, ?_, ?_⟩
    · dsimp only
      have hc : (([sn] : List Str).contains k || (List.map (fun x : Arg => x.arg) []).contains k) = false := by
        have hne : k ≠ sn := fun z => ns (by rw [← z]; exact hk)
        simp [hne]
      rw [hc, if_neg (by decide), if_pos (show (some ar).isSome = true from rfl)]
      refine wpAny_pure ⟨?_, rfl⟩
      congr 2
      rw [List.take_add_one, List.getElem?_eq_getElem hdl, hvv, List.zip_append (by rw [List.length_take]; omega)]
      rfl
    · rw [List.length_append, List.length_singleton]
      rw [show ws.drop (done.length + 1) = vs by rw [← List.drop_drop, hv]; rfl]
    · rw [List.length_append, List.length_singleton]
  rintro t ⟨done, rest, e1, e2, rfl⟩
  have hr0 : rest = [] := by
    cases rest with
    | nil => rfl
    | cons r rs =>
      have hdl : done.length < ws.length := by rw [lw, e1, List.length_append, List.length_cons]; omega
      rw [List.drop_eq_getElem_cons hdl, List.zip_cons_cons] at e2
      cases e2
  subst hr0
  rw [List.append_nil] at e1
  subst e1
  rw [List.take_of_length_le (by omega)]
  dsimp only
  refine wpAny_bind (wpAny_of_eq (show seqItems? .none = pure none from rfl) ?_)
  have hsn : List.lookup sn [(sn, u)] = some u := by rw [List.lookup_cons, beq_self_eq_true]
  have hm : List.filter (fun n => (List.lookup n [(sn, u)]).isNone) [sn] = [] := by
    rw [List.filter_cons_of_neg (by rw [hsn]; simp), List.filter_nil]
  simp only [List.map_nil, List.nil_append, List.length_cons, List.length_nil, Option.getD_none, List.drop_nil, Nat.sub_zero, List.take_succ_cons, List.take_zero, Nat.zero_add, Array.toList_empty, List.take_zero, List.drop_succ_cons, List.drop_zero, List.zip_nil_right, List.zip_nil_left, Nat.zero_sub, Nat.sub_self, gt_iff_lt, Nat.lt_irrefl, decide_false, Bool.false_and, hm, List.isEmpty_nil, Bool.not_true, if_false, Bool.false_eq_true, reduceIte]
  have hb : List.filterMap (fun n => Option.map (fun x => (n, x)) (List.lookup n [(sn, u)])) [sn] = [(sn, u)] := by
    rw [List.filterMap_cons_some (by rw [hsn]; rfl), List.filterMap_nil]
  refine wpAny_bind (wpAny_pure ?_)
  refine wpAny_bind ?_
  rw [List.forIn_nil]
  refine wpAny_pure ?_
  dsimp only
  simp only [List.isEmpty_nil, Bool.not_true, if_false, Bool.false_eq_true, reduceIte, List.append_nil]
  rw [hb]
  have hle : ¬ sizeLine + 1 < (ks.zip ws).length := by rw [List.length_zip, lw, Nat.min_self]; omega
  rw [if_neg hle]
  refine wpAny_bind (wpAny_alloc ?_)
  refine wpAny_bind (ns_fill (ks.zip ws) _ [] 0 (Heap.get?_push_size _ rfl) (fun _ h => absurd h List.not_mem_nil) (fun _ h => absurd h List.not_mem_nil) (by rw [List.map_fst_zip (by omega)]; exact nk) fun h' k' D' => ?_)
  refine wpAny_pure ?_
  rw [p8]
  have el : (ks.zip ws).length = ks.length := by rw [List.length_zip, lw, Nat.min_self]
  rw [el] at D' ⊢
  rw [Nat.zero_add, List.nil_append] at D'
  exact q h' (fun b o e => k' b o (Nat.ne_of_lt (Heap.lt_size e)) (Heap.get?_push_of_some _ e)) D'
end TP
namespace TP
open PySem PySem.Spec PySem.Calls PyProof.Rows L2
theorem env0_at {P : Program} {w : World} {K : PySem.W.Frag} {mg : Str → Option Value} {base : Heap} {A : Around} {outer : List Env} {s : Shared} {H : Hp} {u : HO} {h' : Heap} {t : Tok} {x : Obj} (e0 : Env0 P w K mg base A outer s H) (kp : ∀ b o, s.heap.get? b = some o → h'.get? b = some o) (D : h'.get? s.heap.objs.size = some x) (new : ObjOk P w (upd H s.heap.objs.size u) h' s.heap.objs.size u) :
    Env0 P w K mg base A outer { s with heap := h', toks := t } (upd H s.heap.objs.size u) := by
  refine ⟨e0.frames, e0.mod, fun b x e => ⟨kp b x (e0.bs b x e).1, ?_⟩, ?_, Heap.FunFrames.of_keeps (fun b x e _ => ⟨x, kp b x e, rfl⟩) e0.funs, fun b hb => ?_, e0.hok.laid kp (Nat.le_refl _) new, e0.bare⟩
  · rw [upd_ne (Nat.ne_of_lt (Heap.lt_size (e0.bs b x e).1))]
    exact (e0.bs b x e).2
  · exact Nat.le_trans e0.bsz (Nat.le_of_lt (Heap.lt_size D))
  · obtain ⟨_, x, hx, _⟩ := e0.funs.mem hb
    rw [upd_ne (Nat.ne_of_lt (Heap.lt_size hx))]
    exact e0.frf b hb
def FnV (P : Program) (w : World) (K : PySem.W.Frag) (mg : Str → Option Value) (base : Heap) (CX : CXT) (k : Nat) (f : Addr) (ks : List Str) (sp : Sp) : Prop :=
  ∀ (A : Around) (outer : List Env) (s : Shared) (H : Hp) (u : Value) (ws : List Value) (v : V) (zs : List V) (Q : VK) (E : XK), Room k A → Env0 P w K mg base A outer s H → RelV v u → Vals zs ws → zs.length = ks.length →
    (∀ p o, H p = none → sp [v, .ref p] (upd H p (.frz o (.dK ((ks.map Sum.inr).zip zs)))) Q E) → codeAny (model P w) A (.call (.ref f) ⟨[u], ks.zip ws⟩) (CR CX outer P w H s Q E) s
structure MthV (P : Program) (w : World) (K : PySem.W.Frag) (mg : Str → Option Value) (base : Heap) (k : Nat) (C : Addr) (m : Str) (ks : List Str) (sp : Sp) : Prop where
  ex : ∃ f : Addr, Meth K C m f ∧ FnV P w K mg base (L2.CX P w) k f ks sp
section
variable {X : Cx} {k j : Nat} {C : Addr} {sp : Sp} {W : WX} {m : Str} {pos apos : Pos} {o : Expr} {kws : List Keyword} {ta : TE} {t : TA} {ks : List Str}
end
/-- the def as it stands -/
structure StvI (K : PySem.W.Frag) (C : Addr) (m qual : Str) (st : Stmt) (sn kn : Str) : Prop where
  ex : ∃ (f : Addr) (oc : Value) (od an : Option Addr) (osl : Array (Option Value)) (kV doc pm cdv ct : Value) (ar : Arg), Meth K C m f ∧
    K.lookup f = some ⟨oc, od, .func (PySem.W.fnOf m qual (defArgs st) (defBody st) (defScope st) .none kV doc pm an cdv ct), osl⟩ ∧ PySem.W.codeIn K cdv qual = true ∧
    (defArgs st).posonlyargs = [] ∧ (defArgs st).args.map (·.arg) = [sn] ∧ (defArgs st).kwonlyargs = [] ∧ (defArgs st).vararg = none ∧ (defArgs st).kwarg = some ar ∧ ar.arg = kn
theorem StvI.okZ {P : Program} {w : World} {K : PySem.W.Frag} {mg : Str → Option Value} {base : Heap} {C : Addr} {m qual sn kn : Str} {st : Stmt} {N ks : List Str} {k : Nat} {sp : Sp} (F : StvI K C m qual st sn kn) (S : FnScope N [sn, kn] (defScope st)) (nk : ks.Nodup) (ns : sn ∉ ks) (hz : ks.length ≤ 1000) {t : XK → TS}
    (hd : ∀ (f : Addr) (cdv : Value) (A : Around) (outer : List Env) (s : Shared) (H : Hp) (E : XK), Room k (A.deeper (envOfC qual (defScope st) s.heap.objs.size f cdv)) → PSs (cxOf (L2.CX P w) P w K mg base N qual (defScope st) f cdv A outer s H E) (defBody st) (t E))
    (hb : ∀ (H : Hp) (vs : List V) (Q : VK) (E : XK), sp vs H Q E → t E { nx := fun _ H' => Q .non H', rt := Q } (L2.start N vs) H) : MthV P w K mg base (k + 1) C m ks sp := by
  obtain ⟨f, oc, od, an, osl, kV, doc, pm, cdv, ct, ar, hm, lk, hcd, p1, p2, p3, p4, p5, p8⟩ := F.ex
  refine ⟨f, hm, ?_⟩
  rintro A outer s H u ws v zs Q E hr e0 r rz lz hq
  have lw : ws.length = ks.length := by rw [← rz.length]; exact lz
  have hz2 : ks.length ≤ sizeLine := Nat.le_trans hz (by rw [sizeLine_eq]; decide)
  have free : H s.heap.objs.size = none := e0.hok.fresh (Nat.le_refl _)
  refine StX.run_bnd lk hcd S hr.toRoom e0 (G := fun xs H2 => ∃ p o, H p = none ∧ xs = [v, V.ref p] ∧ H2 = upd H p (.frz o (.dK ((ks.map Sum.inr).zip zs)))) (fun A' Ex Q' h => ?_) ?_
  · refine bind_kv (w := w) (P := P) p1 p2 p3 p4 p5 p8 rfl lw nk ns hz2 fun h' k' D' => ?_
    have new : ObjOk P w (upd H s.heap.objs.size (.frz (dctO (kwE w.params s.toks (ks.zip ws)) ks.length) (.dK ((ks.map Sum.inr).zip zs)))) h' s.heap.objs.size (.frz (dctO (kwE w.params s.toks (ks.zip ws)) ks.length) (.dK ((ks.map Sum.inr).zip zs))) := ⟨D', kw_dk D' rz lz nk hz2 (beq_eq_false_iff_ne.mpr (Ne.symm (Nat.ne_of_lt (StX.env0_big e0))))⟩
    have un : Un (frs outer) [] H (upd H s.heap.objs.size (.frz (dctO (kwE w.params s.toks (ks.zip ws)) ks.length) (.dK ((ks.map Sum.inr).zip zs)))) s.heap h' := Un.laid k' (Nat.le_refl _) free
    exact h _ _ [v, V.ref s.heap.objs.size] [u, Value.ref s.heap.objs.size] (env0_at e0 k' D' new) un rfl (fun e s' => StX.cxUp outer s H _ _ E e s' un k' rfl) (.cons r (.cons rfl .nil)) rfl ⟨_, _, free, rfl, rfl⟩
  · rintro s2 H2 xs ⟨p, o, hp, rfl, rfl⟩ hr'
    exact ⟨t E, hd f cdv A outer s2 _ E ⟨hr', hr.gd⟩, hb _ _ Q E (hq p o hp)⟩
end TP

namespace MR
open PySem PySem.Spec PyProof.Rows L2 TP
section
variable {K : PySem.W.Frag} {Γ : Gm} {xa : XT} {W : WX} {w w' w0 : Wd} {te to ti ta tb td : TE} {me mo mk ma mb md : ME} {tl : TA} {ml : MA} {n : Nat} {m : MF}
def kD : Key → D
  | .inr t => .str t
  | .inl i => .int i
end
end MR

namespace TP
open PySem PySem.Spec PySem.Calls PyProof.Rows L2
section
variable {M : Model} {A : Around} {E : Value → Shared → Prop} {s : Shared} {K : PySem.W.Frag} {env : Env} {pos : Pos} {x C : Addr} {ox : Obj} {Q : Value → Shared → Prop}
end
section
variable {X : Cx} {k j : Nat} {C : Addr} {sp : Sp} {W : WX} {x : Str} {ps : List Str} {p pos : Pos} {e : Expr} {es : List Expr} {to : TE} {t : TA}
end
end TP

namespace MR
open PySem PySem.Spec PyProof.Rows L2 TP
section
variable {K : PySem.W.Frag} {Γ : Gm} {xa : XT} {W : WX} {w w' w0 : Wd} {te to ti ta tb td : TE} {me mo mk ma mb md : ME} {tl : TA} {ml : MA} {n : Nat} {m : MF}
theorem sim_din (hk : SimE K Γ xa W ti mk) (hd : SimE K Γ xa W td md) : SimE K Γ xa W (tDIn ti td) (mOp (opDIn false) mk md) := by
  have h := sim_op (K := K) (Γ := Γ) (xa := xa) (W := W) (om_din (neg := false)) hk.p hd.p
  exact ⟨fun w0 w σ δ Q o e nn p => h.run w0 w σ δ Q o e nn p⟩
theorem sim_dnin (hk : SimE K Γ xa W ti mk) (hd : SimE K Γ xa W td md) : SimE K Γ xa W (tDNotIn ti td) (mOp (opDIn true) mk md) := by
  have h := sim_op (K := K) (Γ := Γ) (xa := xa) (W := W) (om_din (neg := true)) hk.p hd.p
  exact ⟨fun w0 w σ δ Q o e nn p => h.run w0 w σ δ Q o e nn p⟩
end
end MR

namespace TP
open PySem PySem.Spec PyProof.Rows L2
theorem pe_globS {X : Cx} {x i : Str} {pos : Pos} (h : ∃ t, X.mg x = some (.str i t)) (hg : Gl X x := by rfl) (hd : (x == ("__debug__" : Str)) = false := by decide) : PE X (.Name x pos) (tC (.str i)) := by
  obtain ⟨t, h⟩ := h
  exact pe_glob hg h ⟨t, rfl⟩ hd
end TP
namespace MR
open PySem PySem.Spec PyProof.Rows L2 TP
section
variable {K : PySem.W.Frag} {Γ : Gm} {xa : XT} {W : WX} {w w' w0 : Wd} {te to ti ta tb td : TE} {me mo mk ma mb md : ME} {tl : TA} {ml : MA} {n : Nat} {m : MF}
def rPart : V → List V → Hp → VK → Prop := fun x xs H Q => ∃ a b, x = .str a ∧ xs = [.str b] ∧ (b.length == 0) = false ∧ a.length ≤ sizeLine ∧
      ∀ p, H p = none → Q (.ref p) (upd H p (.tup [.str (Txt.partition a b).1, .str (Txt.partition a b).2.1, .str (Txt.partition a b).2.2]))
def opPart : D → D → Sto → Out D := fun d e S => match d, e with
  | .str a, .str b => if (b.length == 0) = false ∧ a.length ≤ 16777216 then .ok (.tup [.str (Txt.partition a b).1, .str (Txt.partition a b).2.1, .str (Txt.partition a b).2.2]) S else .bad
  | _, _ => .bad
theorem mm_part : M1M K Γ rPart opPart := ⟨fun w d e x y Q ex o hx hy p => by
  unfold opPart at p
  split at p
  · rename_i a b
    split at p
    · rename_i h
      refine ⟨a, b, rep_str hx, by rw [pk_str hy], h.1, h.2, fun q hq => ?_⟩
      obtain ⟨k1, k2⟩ := new_tup o (vs := [.str (Txt.partition a b).1, .str (Txt.partition a b).2.1, .str (Txt.partition a b).2.2]) (reps_cons (by simp only [RepC]) (reps_cons (by simp only [RepC]) (reps_cons (by simp only [RepC]) reps_nil))) (by rw [sizeLine_eq]; show 3 ≤ 16777216; decide) hq p
      exact k1 _ k2
    · exact False.elim p
  · exact False.elim p⟩
def mDNew : ME := fun δ S => .ok (.dic [] []) S
theorem sim_dnew : SimF K Γ xa W tDNewK mDNew := ⟨fun w0 w σ δ Q o e nn p q hq => by
  have ev := ev_put (o := .dK []) (Ev.refl w) hq
  exact p.at (w' := wPut w q (.dK [])) rfl (ok_put o (r_none o hq) (not_live o hq)) ev _ (own_new o hq ⟨[], by rw [List.zip_nil_left]; exact upd_same, rfl, reps_nil⟩)⟩
end
end MR

namespace TP
open PySem PySem.Spec PySem.Calls PyProof.Rows L2
def ixOf (n : Str) : List Str → Nat
  | [] => 0
  | k :: ks => if n = k then 0 else ixOf n ks + 1
def srcOf (kn dn ks : List Str) : List Src := kn.map fun n => if n ∈ ks then .kw (ixOf n ks) else .dfl (ixOf n dn)
structure OkKs (kn dn ks : List Str) : Prop where
  nodup : ks.Nodup
  sub : ∀ k ∈ ks, k ∈ kn
  cov : ∀ n ∈ kn, n ∈ ks ∨ n ∈ dn
theorem ix_get {α : Type} {n : Str} : ∀ {ks : List Str} {ws : List α}, n ∈ ks → ws.length = ks.length → ∃ v, ws[ixOf n ks]? = some v ∧ (ks.zip ws).lookup n = some v
  | [], _, h, _ => absurd h List.not_mem_nil
  | k :: ks, [], _, hl => by cases hl
  | k :: ks, w :: ws, h, hl => by
    rw [List.zip_cons_cons, List.lookup_cons]
    unfold ixOf
    by_cases e : n = k
    · subst e
      exact ⟨w, by rw [if_pos rfl]; rfl, by rw [beq_self_eq_true]⟩
    · obtain ⟨v, h1, h2⟩ := ix_get (ws := ws) ((List.mem_cons.mp h).resolve_left e) (by simpa using hl)
      exact ⟨v, by rw [if_neg e]; simpa using h1, by rw [beq_eq_false_iff_ne.mpr e]; exact h2⟩
theorem look_not {α : Type} {n : Str} : ∀ {ks : List Str} {ws : List α}, n ∉ ks → (ks.zip ws).lookup n = none
  | [], _, _ => rfl
  | k :: ks, [], _ => rfl
  | k :: ks, w :: ws, h => by
    rw [List.zip_cons_cons, List.lookup_cons, beq_eq_false_iff_ne.mpr (fun z => h (by rw [z]; exact List.mem_cons_self))]
    exact look_not fun z => h (List.mem_cons_of_mem _ z)
theorem fm_map {α β γ : Type} {g : α → β} {f : β → Option γ} {u : α → γ} : ∀ {l : List α}, (∀ n ∈ l, f (g n) = some (u n)) → (l.map g).filterMap f = l.map u
  | [], _ => rfl
  | n :: l, h => by
    rw [List.map_cons, List.filterMap_cons_some (h n List.mem_cons_self), fm_map fun m hm => h m (List.mem_cons_of_mem _ hm), List.map_cons]
def valA {α : Type} (z : α) (ks : List Str) (ws : List α) (dn : List Str) (its : List α) (n : Str) : α := ((ks.zip ws).lookup n).getD (((dn.zip its).lookup n).getD z)
theorem arr_src {α : Type} (z : α) {kn dn ks : List Str} {ws its : List α} (o : OkKs kn dn ks) (lw : ws.length = ks.length) (ld : its.length = dn.length) : arr (srcOf kn dn ks) [] ws its = kn.map (valA z ks ws dn its) := by
  unfold arr srcOf
  refine fm_map fun n hn => ?_
  unfold valA
  by_cases h : n ∈ ks
  · obtain ⟨v, h1, h2⟩ := ix_get h lw
    rw [if_pos h, h2]
    exact h1
  · obtain ⟨v, h1, h2⟩ := ix_get ((o.cov n hn).resolve_left h) ld
    rw [if_neg h, look_not h, h2]
    exact h1
theorem zip_map {α β : Type} (f : α → β) : ∀ l : List α, l.zip (l.map f) = l.map fun n => (n, f n)
  | [] => rfl
  | a :: l => by rw [List.map_cons, List.zip_cons_cons, zip_map f l, List.map_cons]
structure MakP (P : Program) (w : World) (K : PySem.W.Frag) (mg : Str → Option Value) (base : Heap) (k : Nat) (x : Str) (C : Addr) (kn dn : List Str) (dvs : List V) (sp : Sp) : Prop where
  one : ∃ f, mg x = some (.ref C) ∧ Mk K C f
  all : ∀ ks, OkKs kn dn ks → MakO P w K mg base k x C ks (srcOf kn dn ks) dvs sp
structure StPI (K : PySem.W.Frag) (mg : Str → Option Value) (x : Str) (C : Addr) (qual : Str) (st : Stmt) (dvs : List V) (ps : Str) (kn dn : List Str) : Prop where
  one : ∃ f, mg x = some (.ref C) ∧ Mk K C f
  all : ∀ ks, OkKs kn dn ks → StOI K mg x C qual st ks (srcOf kn dn ks) dvs ps kn
theorem stp_mk {K : PySem.W.Frag} {mg : Str → Option Value} {x : Str} {C f kD : Addr} {qual : Str} {st : Stmt} {kn dn : List Str} {dvs : List V} {ps : Str} {its : List Value} {oc : Value} {od an : Option Addr} {osl : Array (Option Value)} {doc pm cdv ct : Value}
    (hm : mg x = some (.ref C)) (hk : Mk K C f) (hl : K.lookup f = some ⟨oc, od, .func (PySem.W.fnOf "__init__" qual (defArgs st) (defBody st) (defScope st) .none (.ref kD) doc pm an cdv ct), osl⟩) (hc : PySem.W.codeIn K cdv qual = true) (hv : Vals dvs its)
    (p1 : (defArgs st).posonlyargs = []) (p2 : (defArgs st).args.map (·.arg) = [ps]) (p3 : (defArgs st).kwonlyargs.map (·.arg) = kn) (p4 : (defArgs st).vararg = none) (p5 : (defArgs st).kwarg = none)
    (nn : ps ∉ kn) (hd : ∀ p ∈ dn.zip its, PySem.W.nsIn K kD p.1 = some (some p.2)) (ld : its.length = dn.length) : StPI K mg x C qual st dvs ps kn dn :=
  ⟨⟨f, hm, hk⟩, fun ks o => sto_mk hm hk hl hc hv p1 p2 p3 p4 p5 o.nodup o.sub (fun z => nn (o.sub _ z)) nn hd ld o.cov fun ws lw => by
    rw [arr_src .none o lw ld, zip_map]; rfl⟩
theorem StPI.okZ {P : Program} {w : World} {K : PySem.W.Frag} {mg : Str → Option Value} {base : Heap} {C : Addr} {x qual ps : Str} {st : Stmt} {dvs : List V} {N kn dn : List Str} {k : Nat} {sp : Sp} (F : StPI K mg x C qual st dvs ps kn dn) (S : FnScope N (ps :: kn) (defScope st)) (ld : dvs.length = dn.length) {t : XK → TS}
    (hd : ∀ (f : Addr) (cdv : Value) (A : Around) (outer : List Env) (s : Shared) (H : Hp) (E : XK), Room k (A.deeper (envOfC qual (defScope st) s.heap.objs.size f cdv)) → PSs (cxOf (L2.CX P w) P w K mg base N qual (defScope st) f cdv A outer s H E) (defBody st) (t E))
    (hb : ∀ (H : Hp) (vs : List V) (Q : VK) (E : XK), sp vs H Q E → t E { nx := fun _ H' => Q .non H', rt := Q } (L2.start N vs) H) : MakP P w K mg base (k + 1) x C kn dn dvs sp :=
  ⟨F.one, fun ks o => (F.all ks o).okZ S (fun zs lz => by rw [arr_src .non o lz ld, List.length_map]) hd hb⟩
/-- x(**e): e a dict with these keys in any order -/
def tNewP (C : Addr) (sp : Sp) (W : WX) (kn dn : List Str) (dvs : List V) (te : TE) : TE := fun σ H Q => ∀ q, H q = none → te σ (upd H q (.dK [])) fun x H1 => H1 q = some (.dK []) ∧ ∃ a kvs ks, x = .ref a ∧ a ≠ q ∧ Rd H1 a (.dK kvs) ∧ OkKs kn dn ks ∧ kvs.map (·.1) = ks.map Sum.inr ∧
  ∀ x dx, (upd H1 q (.dK kvs)) x = none → (upd H1 q (.dK kvs)) dx = none → dx ≠ x → sp (.ref x :: arr (srcOf kn dn ks) [] (kvs.map (·.2)) dvs) (upd (upd (upd H1 q (.dK kvs)) dx (.own x)) x (.ins C dx [])) (fun v H3 => v = .non ∧ Q (.ref x) H3) (WE W σ)
section
variable {X : Cx} {k j : Nat} {C : Addr} {sp : Sp} {W : WX} {x : Str} {p pos : Pos} {e : Expr} {te : TE} {kn dn : List Str} {dvs : List V} {kws : List Keyword}
theorem pe_newOP (M : MakP X.prog X.w X.K X.mg X.base k x C kn dn dvs sp) (hr : Room j X.A) (hk : k + 1 ≤ j) (tk : Takes X W) (he : PE X e te) (hg : Gl X x := by rfl)
    (hdb : (x == ("__debug__" : Str)) = false := by decide) (hkw : keywordEach kws X.env = [(none, eval e X.env)] := by rfl) (hst : starEach [] X.env = [] := by rfl) :
    PE X (.Call (.Name x p) [] kws pos) (tNewP C sp W kn dn dvs te) := by
  obtain ⟨f, hm, Mk⟩ := M.one
  refine ⟨fun pins s σ H Q I h => ?_⟩
  refine wpAny_Call_Name_kw (ld_glob I hg hm ?_ hdb)
  rw [hkw, hst]
  refine callKS rfl (PySem.W.keeps_K Mk.kp) ?_
  show wpAny _ _ (evalArgs _ true [] [(none, eval e X.env >>= fun v => standAt pos >>= fun _ => pure v)]) _ _ _
  refine wpAny_starKw (knd := mixKind X.prog X.w) (wpAny_bind ?_)
  have hfree : H s.heap.objs.size = none := I.hok.fresh (Nat.le_refl _)
  have hbig := I.big
  have hns : (s.heap.objs.size == sysModules) = false := by
    rw [beq_eq_false_iff_ne]; exact fun z => by rw [z] at hbig; exact absurd hbig (Nat.lt_irrefl _)
  have hnew : Heap.DictOf (mixKind X.prog X.w) (s.heap.push (newD #[] 0)) s.heap.objs.size [] := ⟨newD #[] 0, #[], 0, Heap.get?_push_size _ rfl, ⟨rfl, rfl, rfl⟩, rfl, fun e h => absurd h (by simp), .nil, List.nodup_nil⟩
  have I1 : Inv X pins σ (upd H s.heap.objs.size (.dK [])) { s with heap := s.heap.push (newD #[] 0) } := I.laid (fun b u hb => Heap.get?_push_of_some _ hb) (Nat.le_refl _) (dk_new (Nat.zero_le _) hns .nil hnew)
  refine thn (he.run pins _ σ _ _ I1 (h _ hfree)) fun m s1 ⟨v, H1, I2, rv, hq, a, kvs, ks, hva, hane, hrd, hO, hkeys, hsp⟩ => ?_
  subst hva
  have hma : m = .ref a := by cases m <;> first | (cases rv; rfl) | cases rv
  subst hma
  refine wpAny_bind (wpAny_standAt (wpAny_pure ?_))
  obtain ⟨_, hnsq, vs0, kv0, o0, es0, e0, hg0, hx0, hd0, _, hp0, _⟩ := dk_of I2.hok hq
  have hvs0 : vs0 = [] := by cases kv0; rfl
  subst hvs0
  have hes0 : es0 = #[] := by
    have : es0.toList = [] := by cases z : es0.toList with | nil => rfl | cons y ys => rw [z] at hp0; cases hp0
    rw [← Array.toArray_toList (xs := es0), this]
  subst hes0
  obtain ⟨hl, hnsa, vs, kv, o, es, ep, hga, hxa, hda, hka, hpa, hna⟩ := dk_rd I2.hok hrd
  obtain ⟨kv1, kv2⟩ := kv_at kv
  obtain ⟨kw1, kw2⟩ := kw_zip hpa (kv1.symm.trans hkeys)
  have hes : es.size = kvs.length := by
    have h1 := (pairs_at hpa).1
    rw [Array.length_toList] at h1
    rw [h1, ← L2.KV.length kv]
  have ho0 : o0 = newD #[] e0 := by
    obtain ⟨c, dd, da, sl⟩ := o0
    obtain ⟨h1, h2, h3⟩ := hx0
    cases h1; cases h2; cases h3; cases hd0; rfl
  subst ho0
  refine ⟨e0, hg0, a, o, es, ep, vs, rfl, hane, hnsa, hga, hxa, hda, hka, hpa, hna, kw1, by omega, fun h' ep' hg' hs' => ?_⟩
  have I3 : Inv X pins σ (upd H1 s.heap.objs.size (.dK kvs)) { s1 with heap := h' } := d_write I2 (by rw [hq]; trivial) hs' ⟨_, hg'⟩ (dk_new hl hns kv ⟨newD es ep', es, ep', hg', ⟨rfl, rfl, rfl⟩, rfl, hka, hpa, hna⟩)
  refine ⟨I3.kIn, ?_⟩
  rw [kw2]
  exact run_newO (M.all ks hO) (hr.mono hk) tk I3 kv2 (by rw [List.length_map]; have := congrArg List.length hkeys; rw [List.length_map, List.length_map] at this; exact this) hsp
end
end TP

namespace MR
open PySem PySem.Spec PyProof.Rows L2 TP
section
variable {K : PySem.W.Frag} {Γ : Gm} {xa : XT} {W : WX} {w w' w0 : Wd} {te to ti ta tb tk tv : TE} {me mo mk ma mb mv : ME} {tl : TA} {ml mi : MA} {t : TT} {mt : MT} {tg : TG} {mg : MG} {wi : TI} {vs : List Nat} {c : Nat} {C : Addr}
def keysS : List Key → Option (List Str)
  | [] => some []
  | .inr k :: js => (keysS js).map (k :: ·)
  | .inl _ :: _ => none
theorem keysS_ok : ∀ {js : List Key} {ks : List Str}, keysS js = some ks → js = ks.map Sum.inr
  | [], ks, h => by cases h; rfl
  | .inr k :: js, ks, h => by
    unfold keysS at h
    cases z : keysS js with
    | none => rw [z] at h; cases h
    | some cs => rw [z] at h; cases h; rw [keysS_ok z]; rfl
  | .inl _ :: _, _, h => by cases h
theorem keysS_map : ∀ ks : List Str, keysS (ks.map Sum.inr) = some ks
  | [] => rfl
  | k :: ks => by show (keysS (ks.map Sum.inr)).map (k :: ·) = _; rw [keysS_map ks]; rfl
def okKsB (kn dn ks : List Str) : Bool := nodupB ks && ((ks.all fun k => decide (k ∈ kn)) && kn.all fun n => decide (n ∈ ks) || decide (n ∈ dn))
theorem okKs_of {kn dn ks : List Str} (h : okKsB kn dn ks = true) : OkKs kn dn ks := by
  unfold okKsB at h
  simp only [Bool.and_eq_true, List.all_eq_true, Bool.or_eq_true, decide_eq_true_eq] at h
  exact ⟨(nodupB_iff ks).mp h.1, h.2.1, h.2.2⟩
def mNewP (c : Nat) (m : MI) (k : Nat) (kn dn : List Str) (me : ME) (dds : List D) : ME := fun δ S => bnd (me δ S) fun d S => match dicOf S d with
  | some (js, ds) => match keysS js with
    | some ks => if okKsB kn dn ks = true ∧ (arr (srcOf kn dn ks) [] ds dds).length = k then bnd (m (arr (srcOf kn dn ks) [] ds dds) S) fun p S => .ok (.obj c p.1 p.2) S else .bad
    | none => .bad
  | none => .bad
theorem sim_newP {k : Nat} {m : MI} {kn dn : List Str} {dds : List D} {dvs : List V} (hc : Γ c = C) (h : SimE K Γ xa W te me) (hd : ∀ w, Reps K Γ w dds dvs) : SimF K Γ xa W (tNewP C (spI K Γ c k m) W kn dn dvs te) (mNewP c m k kn dn me dds) := ⟨fun w0 w σ δ Q o e nn p q hq => by
  have oq : Ok K Γ (wPut w q (.dK [])) := ok_put o (r_none o hq) (not_live o hq)
  have eq : Ev w (wPut w q (.dK [])) := ev_put (Ev.refl _) hq
  have nlq : ¬ Live (wPut w q (.dK [])) q := fun l => not_live o hq l
  have hHq : (wPut w q (.dK [])).H q = some (.dK []) := upd_same
  refine h.run w0 (wPut w q (.dK [])) σ δ _ oq (e.trans eq) (nn.ev eq) ((Post.ev p eq).thenE fun d w2 qe o2 e2 p2 v r2 => ?_)
  have p' : Post K Γ (bnd (me δ w.S) fun d S => match dicOf S d with
    | some (js, ds) => match keysS js with
      | some ks => if okKsB kn dn ks = true ∧ (arr (srcOf kn dn ks) [] ds dds).length = k then bnd (m (arr (srcOf kn dn ks) [] ds dds) S) fun p S => .ok (D.obj c p.1 p.2) S else .bad
      | none => .bad
    | none => .bad) w (fun d w' => ∀ a, OwnAt K Γ w w' d a → Q (.ref a) w'.H) (XW K Γ W σ) := p
  rw [show me δ w.S = .ok d w2.S from qe] at p'
  have hq2 : w2.H q = some (.dK []) := e2.keep q _ hHq nlq
  have nl2 : ¬ Live w2 q := fun l => by
    rcases e2.newL q l with z | z
    · exact nlq z
    · rw [hHq] at z; cases z
  have rq2 : w2.R q = none := by
    cases z : w2.R q with
    | none => rfl
    | some u =>
      rcases e2.newR q (by rw [z]; exact fun y => nomatch y) (show w.R q = none from r_none o hq) with y | y
      · rw [hHq] at y; cases y
      · exact absurd y nlq
  refine ⟨hq2, ?_⟩
  split at p2
  · rename_i js ds hdi
    have hane : ∃ a vs, v = .ref a ∧ a ≠ q ∧ Rd w2.H a (.dK (js.zip vs)) ∧ js.length = vs.length ∧ Reps K Γ w2 ds vs := by
      unfold dicOf at hdi
      split at hdi
      · cases hdi
        simp only [Rep, RepC] at r2
        obtain ⟨a, vs, h1, h2, h3, h4⟩ := r2
        refine ⟨a, vs, h1, fun z => ?_, ?_, h3, h4⟩
        · subst z; rcases h2 with h2 | ⟨u, h2⟩ <;> (rw [rq2] at h2; cases h2)
        · rcases h2 with h2 | ⟨u, h2⟩
          · exact .inl (o2.same _ _ h2)
          · exact .inr ⟨u, o2.same _ _ h2⟩
      · cases hdi
        simp only [Rep, RepC] at r2
        obtain ⟨a, u, vs, h1, h2, h3, _, h4⟩ := r2
        exact ⟨a, vs, h1, (fun z => by subst z; rw [rq2] at h2; cases h2), .inr ⟨u, o2.same _ _ h2⟩, h3, h4⟩
      · split at hdi
        · rename_i ks' ds' z
          cases hdi
          simp only [Rep, RepC] at r2
          obtain ⟨a, h1, h2⟩ := r2
          obtain ⟨b, h3, _, h4⟩ := o2.cell _ _ z
          rw [h1] at h3
          cases h3
          obtain ⟨vs, g1, g2, g3⟩ := h4
          exact ⟨a, vs, h2, fun y => nl2 (by subst y; exact ⟨_, _, z, h1⟩), .inl g1, g2, g3⟩
        · cases hdi
      · cases hdi
    obtain ⟨a, vs, rfl, hne, hrd, hl, rs⟩ := hane
    split at p2
    rotate_left
    · exact False.elim p2
    rename_i ks hks
    have hj := keysS_ok hks
    split at p2
    · rename_i hc2
      obtain ⟨z1, z2⟩ := zip_fst hl
      refine ⟨a, js.zip vs, ks, rfl, hne, hrd, okKs_of hc2.1, by rw [z1, hj], fun x dx hx hdx ne => ?_⟩
      rw [z2]
      have o3q : Ok K Γ (wPut w2 q (.dK (js.zip vs))) := ok_put o2 rq2 nl2
      have e3q : Ev w (wPut w2 q (.dK (js.zip vs))) := ev_put (eq.trans e2) hq
      have ev2 : Ev w2 (wPut w2 q (.dK (js.zip vs))) → True := fun _ => trivial
      generalize hw3 : wPut w2 q (.dK (js.zip vs)) = w3 at o3q e3q
      have hS3 : w3.S = w2.S := by rw [← hw3]; rfl
      have hR3 : ∀ {d : List D} {v : List V}, Reps K Γ w2 d v → Reps K Γ w3 d v := fun {d v} h => by rw [← hw3]; exact h
      have hH3 : w3.H = upd w2.H q (.dK (js.zip vs)) := by rw [← hw3]; rfl
      rw [← hH3] at hx hdx ⊢
      have o3 : Ok K Γ (wPut w3 dx (.own x)) := ok_put o3q (r_none o3q hdx) (not_live o3q hdx)
      have e3 : Ev w3 (wPut w3 dx (.own x)) := ev_put (Ev.refl _) hdx
      have hx2 : (wPut w3 dx (.own x)).H x = none := by show upd w3.H dx _ x = none; rw [upd_ne ne.symm]; exact hx
      have o4 : Ok K Γ (wPut (wPut w3 dx (.own x)) x (.ins C dx [])) := ok_put o3 (r_none o3 hx2) (not_live o3 hx2)
      have e4 : Ev w3 (wPut (wPut w3 dx (.own x)) x (.ins C dx [])) := ev_put e3 hx
      have p3 : Post K Γ (bnd (m (arr (srcOf kn dn ks) [] ds dds) w2.S) fun p S => .ok (D.obj c p.1 p.2) S) w (fun d w' => ∀ a, OwnAt K Γ w w' d a → Q (.ref a) w'.H) (XW K Γ W σ) := by
        have p3 := p'
        unfold bnd at p3
        dsimp only at p3
        rw [hdi] at p3
        dsimp only at p3
        rw [hks] at p3
        dsimp only at p3
        rw [if_pos hc2] at p3
        exact p3
      refine ⟨x, arr (srcOf kn dn ks) [] vs dvs, w3, wPut (wPut w3 dx (.own x)) x (.ins C dx []), arr (srcOf kn dn ks) [] ds dds, rfl, rfl, o4, e4, ⟨hx, (r_none o3q hx : w3.R x = none), fun l => not_live o3q hx l, dx, [], by rw [hc]; exact upd_same, rfl, reps_nil⟩, Reps.ev (arr_reps reps_nil (hR3 rs) (hd w3)) e4, hc2.2, ?_⟩
      show match m (arr (srcOf kn dn ks) [] ds dds) w3.S with | .ok p S => _ | .ex c' ns ds S => _ | .bad => _
      rw [hS3]
      cases z : m (arr (srcOf kn dn ks) [] ds dds) w2.S with
      | ok pr S =>
        rw [z] at p3
        exact fun w' hs ho he hg oa => ⟨rfl, p3 w' hs ho (e3q.trans he) _ (own_back e3q oa)⟩
      | ex c' ns es S =>
        rw [z] at p3
        exact fun w' hs ho he hg => p3 w' hs ho (e3q.trans he)
      | bad => rw [z] at p3; exact False.elim p3
    · exact False.elim p2
  · exact False.elim p2⟩
end
end MR

namespace MR
open PySem PySem.Spec PyProof.Rows L2 TP
section
variable {K : PySem.W.Frag} {Γ : Gm} {xa : XT} {W : WX} {te : TE} {me : ME}
end
end MR

namespace TP
open PySem PySem.Spec PyProof.Rows L2
section
variable {X : Cx} {k j : Nat} {C : Addr} {sp : Sp} {W : WX} {m : Str} {pos apos : Pos} {o : Expr} {ta : TE}
end
end TP

namespace TP
open PySem PySem.Spec PyProof.Rows L2
section
variable {X : Cx} {body : List Stmt} {h₀ : ExceptHandler} {hds : List ExceptHandler} {pos : Pos} {tb : TS}
end
end TP

namespace TP
open PySem PySem.Spec PyProof.Rows L2
section
variable {X : Cx}
end
end TP

namespace TP
open PySem PySem.Spec PyProof.Rows L2
/-- o.m(..), by a promise over all that is given in a row -/
structure MthR (P : Program) (w : World) (K : PySem.W.Frag) (mg : Str → Option Value) (base : Heap) (k : Nat) (C : Addr) (m : Str) (sp : Sp) : Prop where
  ex : ∃ f : Addr, Meth K C m f ∧ FnR P w K mg base (L2.CX P w) k f sp
section
variable {X : Cx} {k j : Nat} {C : Addr} {sp : Sp} {W : WX} {m : Str} {pos apos : Pos} {o e : Expr} {es : List Expr} {ta : TE} {t : TA}
end
/-- the def as it stands -/
structure StmI (K : PySem.W.Frag) (C : Addr) (m qual : Str) (st : Stmt) (ps : List Str) (pv : Str) : Prop where
  ex : ∃ (f : Addr) (oc : Value) (od an : Option Addr) (osl : Array (Option Value)) (dV kV doc pm cdv ct : Value), Meth K C m f ∧
    K.lookup f = some ⟨oc, od, .func (PySem.W.fnOf m qual (defArgs st) (defBody st) (defScope st) dV kV doc pm an cdv ct), osl⟩ ∧ PySem.W.codeIn K cdv qual = true ∧
    ∀ us rest : List Value, us.length = ps.length → bindArgs (PySem.W.fnOf m qual (defArgs st) (defBody st) (defScope st) dV kV doc pm an cdv ct) ⟨us ++ rest, []⟩ = (newTuple rest >>= fun t => pure (ps.zip us ++ [(pv, t)]))
theorem StmI.okZ {P : Program} {w : World} {K : PySem.W.Frag} {mg : Str → Option Value} {base : Heap} {C : Addr} {m qual pv : Str} {st : Stmt} {N ps : List Str} {k : Nat} {sp : Sp} (F : StmI K C m qual st ps pv) (S : FnScope N (ps ++ [pv]) (defScope st)) {t : XK → TS}
    (hd : ∀ (f : Addr) (cdv : Value) (A : Around) (outer : List Env) (s : Shared) (H : Hp) (E : XK), Room k (A.deeper (envOfC qual (defScope st) s.heap.objs.size f cdv)) → PSs (cxOf (L2.CX P w) P w K mg base N qual (defScope st) f cdv A outer s H E) (defBody st) (t E))
    (hb : ∀ (H : Hp) (vs : List V) (Q : VK) (E : XK), sp vs H Q E → t E { nx := fun _ H' => Q .non H', rt := Q } (L2.start N vs) H) : MthR P w K mg base (k + 1) C m (spV ps.length sp) := by
  obtain ⟨f, oc, od, an, osl, dV, kV, doc, pm, cdv, ct, hm, lk, hcd, hbd⟩ := F.ex
  exact ⟨f, hm, fn_starG lk hcd S StX.cxUp hbd fun A outer s H vs Q E hr h => ⟨t E, hd f cdv A outer s H E hr, hb H vs Q E h⟩⟩
end TP

namespace TP
open PySem PySem.Spec PyProof.Rows L2
structure PrpG (P : Program) (w : World) (K : PySem.W.Frag) (mg : Str → Option Value) (base : Heap) (k : Nat) (C : Addr) (f : Str) (ps : List Str) (sp : Sp) : Prop where
  ex : ∃ (p g : Addr) (fd : FuncData), PropOf K C f p g ∧ FnOk P w K mg base (L2.CX P w) k g fd ps sp ∧ Binds K fd ps []
theorem PrpI.okG {P : Program} {w : World} {K : PySem.W.Frag} {mg : Str → Option Value} {base : Heap} {C : Addr} {f qual : Str} {st : Stmt} {N ps : List Str} {k : Nat} {sp : Sp} (F : PrpI K C f qual st ps) (S : FnScope N ps (defScope st)) (len : ∀ vs H Q E, sp vs H Q E → vs.length = ps.length) {t : XK → TS}
    (hd : ∀ (f : Addr) (cdv : Value) (A : Around) (outer : List Env) (s : Shared) (H : Hp) (E : XK), Room k (A.deeper (envOfC qual (defScope st) s.heap.objs.size f cdv)) → PSs (cxOf (L2.CX P w) P w K mg base N qual (defScope st) f cdv A outer s H E) (defBody st) (t E))
    (hb : ∀ (H : Hp) (vs : List V) (Q : VK) (E : XK), sp vs H Q E → t E { nx := fun _ H' => Q .non H', rt := Q } (start N vs) H) : PrpG P w K mg base (k + 1) C f ps sp := by
  obtain ⟨p, g, fd, hp, F, b⟩ := F.ex
  exact ⟨p, g, fd, hp, TP.okG F S len fun cdv A outer s H vs Q E hr h => ⟨t E, hd g cdv A outer s H E hr, hb H vs Q E h⟩, b⟩
section
variable {X : Cx} {k j : Nat} {C : Addr} {f : Str} {ps : List Str} {sp : Sp} {e : Expr} {pos : Pos} {ta : TE}
end
end TP

namespace MR
open PySem PySem.Spec PyProof.Rows L2 TP
section
variable {K : PySem.W.Frag} {Γ : Gm} {xa : XT} {W : WX} {w w' w0 : Wd} {te to ti tp ti2 : TE} {me mo mk mp mk2 : ME} {ml : MA} {tb : TS} {ms : MS}
structure SimPr (K : PySem.W.Frag) (Γ : Gm) (xa : XT) (W : WX) (ks : List Str) (trs : List (TE × TE)) (ml : MA) : Prop where
  len : ∀ (δ : Env) (S : Sto) (ds : List D) (S' : Sto), ml δ S = .ok ds S' → ds.length = ks.length
  run : ∀ (w0 w : Wd) (σ : L2.St) (δ : Env) (Q : List (V × V) → Hp → Prop), Ok K Γ w → Ev w0 w → EnvOk K Γ xa w0 w σ δ → Post K Γ (ml δ w.S) w (fun ds w' => ∀ vs, Reps K Γ w' ds vs → Q ((ks.map V.str).zip vs) w'.H) (XW K Γ W σ) → tPairs trs σ w.H Q
def mPar (i j : Nat) (ml : MA) : MS := fun δ S => bndS (ml δ S) δ fun ds S => match ds with
  | [d, e] => .ok (.nx ((δ.set i (.val d)).set j (.val e))) S
  | _ => .bad
theorem sim_par {n i j : Nat} {ta : TA} (h : SimA K Γ xa W n ta ml) : SimS K Γ xa W (tPar i j ta) (mPar i j ml) := ⟨fun w0 w σ δ Dn o e nn p =>
  h.run w0 w σ δ _ o e nn (p.then e nn fun ds w1 o1 e1 p1 vs rs => by
    split at p1
    · obtain ⟨v, u, rfl, r1, r2⟩ := reps2 rs
      exact ⟨v, u, rfl, p1.nx o1 (e.trans e1) (((nn.ev e1).set r1).set r2)⟩
    · exact False.elim p1)⟩
end
end MR

namespace MR
open PySem PySem.Spec PyProof.Rows L2 TP
variable {K : PySem.W.Frag} {Γ : Gm} {w w0 w1 w' : Wd} {xa : XT} {W : WX} {te tk : TE} {me mk : ME}
end MR

namespace TP
open PySem PySem.Spec PyProof.Rows GenW L2
/-- the consumer: its things, and what they say of the items that came so far -/
structure Gst where
  F : List Addr
  Cn : List V → Heap → Prop
  mv : ∀ ys h h', (∀ b ∈ F, ∀ o, h.get? b = some o → h'.get? b = some o) → Cn ys h → Cn ys h'
structure Nap (S : Gst) (v : Value) (s s' : Shared) : Prop where
  os : s'.os = s.os
  bare : AllBare s'.gens
  keep : ∀ b o, b ∉ S.F → s.heap.get? b = some o → s'.heap.get? b = some o
  there : ∀ b ∈ S.F, ∃ o, s'.heap.get? b = some o ∧ ∀ v, o.data ≠ .cell v
  con : ∀ ys x, RelV x v → S.Cn ys s.heap → S.Cn (ys ++ [x]) s'.heap
/-- running: ys came so far; ip: the generator's own iterators -/
def GJ (X : Cx) (S : Gst) (ip : List (Addr × Obj)) (ys : List V) (σ : L2.St) (H : Hp) (s : Shared) : Prop :=
  S.Cn ys s.heap ∧ ∃ pf : List (Addr × Obj), (∀ b ∈ S.F, ∃ o, (b, o) ∈ pf) ∧ (∀ p ∈ pf, p.1 ∈ S.F) ∧ Inv X (pf ++ ip) σ H s
section
variable {X : Cx} {S : Gst} {ip ip' pf : List (Addr × Obj)} {ys : List V} {σ σ' : L2.St} {H H' : Hp} {s s' : Shared}
theorem GJ.next (hc : S.Cn ys s.heap) (h1 : ∀ b ∈ S.F, ∃ o, (b, o) ∈ pf) (h2 : ∀ p ∈ pf, p.1 ∈ S.F) (I : Inv X (pf ++ ip) σ H s) (I' : Inv X (pf ++ ip') σ' H' s') : GJ X S ip' ys σ' H' s' := by
  refine ⟨S.mv ys _ _ (fun b hb o e => ?_) hc, pf, h1, h2, I'⟩
  obtain ⟨o1, m⟩ := h1 b hb
  have e1 := (I.pin (b, o1) (List.mem_append_right _ (List.mem_append_left _ m))).1
  have e2 := (I'.pin (b, o1) (List.mem_append_right _ (List.mem_append_left _ m))).1
  rw [show s.heap.get? b = some o1 from e1] at e
  cases e
  exact e2
theorem GJ.own (h : GJ X S ip ys σ H s) : ∀ b ∈ S.F, H b = none ∧ b ≠ X.env.locals ∧ b ∉ X.fs ∧ ∃ o, s.heap.get? b = some o ∧ ∀ v, o.data ≠ .cell v := fun b hb => by
  obtain ⟨_, pf, h1, _, I⟩ := h
  obtain ⟨o, m⟩ := h1 b hb
  obtain ⟨q0, q1, q2, q3, q4⟩ := I.pin (b, o) (List.mem_append_right _ (List.mem_append_left _ m))
  exact ⟨q1, q2, q3, o, q0, q4⟩
theorem GJ.inv (h : GJ X S ip ys σ H s) : Inv X ip σ H s := by
  obtain ⟨_, pf, _, _, I⟩ := h
  exact I.pins_of fun p hp => I.pin p (List.mem_append_right _ (List.mem_append_right _ hp))
/-- where the generator's code stands -/
structure GCode (X : Cx) (S : Gst) (ip : List (Addr × Obj)) (A : Around) (c : Code) (fs : List Frame) (gd : Bool → Bool) : Prop where
  nox : ∀ e s, ¬ X.xe e s
  pn : ∀ p ∈ X.pn, p.1 ∉ S.F
  ip : ∀ p ∈ ip, p.1 ∉ S.F
  apart : ∀ b ∈ S.F, X.s_0.heap.objs.size ≤ b ∧ ∀ x c, X.env.cells.lookup x = some c → c ≠ b
  over : A.over c fs = X.A
  split : splitAtGen fs = none
  guard : fs.any Frame.guarded = false
  gd : gd false = false
end
def GPr (X : Cx) (S : Gst) : Protocol := fun n _ v s kap =>
  ∃ ys x ip σ H, n + 1 + ys.length = sizeLine ∧ RelV x v ∧ GJ X S ip ys σ H s ∧ ∀ s', Nap S v s s' → kap (.send .none) s'
def GFin (X : Cx) (S : Gst) (Q : List V → VK) : GenEnd := fun n _ r s => match r with
  | .ok (.ret u) => ∃ ys v ip σ H, n + ys.length = sizeLine ∧ GJ X S ip ys σ H s ∧ RelV v u ∧ Q ys v H
  | _ => False
def GEndP (X : Cx) (S : Gst) (ip : List (Addr × Obj)) (D : GEnds) (ys : List V) (f : Flow) (s : Shared) : Prop :=
  match f with
  | .next => ∃ σ H, GJ X S ip ys σ H s ∧ D.nx ys σ H
  | .brk => ∃ σ H, GJ X S ip ys σ H s ∧ D.bk ys σ H
  | .cont => ∃ σ H, GJ X S ip ys σ H s ∧ D.ct ys σ H
  | .ret u => ∃ v σ H, GJ X S ip ys σ H s ∧ RelV v u ∧ D.rt ys v H
def GNext (X : Cx) (S : Gst) (ip : List (Addr × Obj)) (A : Around) (R : GenEnd) (c : Code) (fs : List Frame) (K : Flow → Sem PySem.Fin) (D : GEnds) : Prop :=
  ∀ (n : Nat) (ys : List V) (s₀ s : Shared) (f : Flow), n + ys.length = sizeLine → GEndP X S ip D ys f s → Seg (model X.prog X.w) A R (GPr X S) n s₀ c (K f) fs s
structure GSt (X : Cx) (st : Stmt) (t : TGn) : Prop where
  run : ∀ (A : Around) (S : Gst) (ip : List (Addr × Obj)) (R : GenEnd) (n : Nat) (ys : List V) (s₀ : Shared) (c : Code) (fs : List Frame) (K : Flow → Sem PySem.Fin) (J : Value → Sem PySem.Fin) (gd : Bool → Bool) (lv : List Value → List Value) (s : Shared) (σ : L2.St) (H : Hp) (D : GEnds),
    GCode X S ip A c fs gd → n + ys.length = sizeLine → GNext X S ip A R c fs K D → GJ X S ip ys σ H s → t D ys σ H →
    Seg (model X.prog X.w) A R (GPr X S) n s₀ c ((exec st X.env).wrap K J gd lv) fs s
structure GSts (X : Cx) (st : List Stmt) (t : TGn) : Prop where
  run : ∀ (A : Around) (S : Gst) (ip : List (Addr × Obj)) (R : GenEnd) (n : Nat) (ys : List V) (s₀ : Shared) (c : Code) (fs : List Frame) (K : Flow → Sem PySem.Fin) (J : Value → Sem PySem.Fin) (gd : Bool → Bool) (lv : List Value → List Value) (s : Shared) (σ : L2.St) (H : Hp) (D : GEnds),
    GCode X S ip A c fs gd → n + ys.length = sizeLine → GNext X S ip A R c fs K D → GJ X S ip ys σ H s → t D ys σ H →
    Seg (model X.prog X.w) A R (GPr X S) n s₀ c ((execs st X.env).wrap K J gd lv) fs s
section
variable {X : Cx} {st : Stmt} {rest : List Stmt}
end
section
variable {X : Cx} {S : Gst} {ip : List (Addr × Obj)}
theorem GJ.drop {pl : List (Addr × Obj)} {ys : List V} {σ : L2.St} {H : Hp} {s : Shared} (h : GJ X S (ip ++ pl) ys σ H s) : GJ X S ip ys σ H s := by
  obtain ⟨cn, pf, h1, h2, I⟩ := h
  rw [← List.append_assoc] at I
  exact ⟨cn, pf, h1, h2, I.unpinned⟩
end
end TP

namespace TP
open PySem PySem.Spec PyProof.Rows GenW L2
/-- the context of a generator's body: no exception may leave it -/
def cxG (P : Program) (w : World) (K : PySem.W.Frag) (mg : Str → Option Value) (base : Heap) (N : List Str) (qual : Str) (scope : Scope) (f : Addr) (cd : Value) (A : Around) (outer : List Env) (s : Shared) (H : Hp) (pn : List (Addr × Obj)) : Cx :=
  { cxOf (L2.CX P w) P w K mg base N qual scope f cd A outer s H (fun _ _ _ => False) with pn := pn, xe := fun _ _ => False }
/-- what a generator def keeps: the items and the heap at its end -/
abbrev SpI := List V → Hp → (List V → Hp → Prop) → Prop
def GDone (P : Program) (w : World) (outer : List Env) (H : Hp) (s : Shared) (S : Gst) (Q : List V → Hp → Prop) (s1 : Shared) : Prop :=
  ∃ H' ys, s1.os = s.os ∧ AllBare s1.gens ∧ Un (frs outer) [] H H' s.heap s1.heap ∧ HOk P w H' s1.heap ∧ (∀ b ∈ S.F, H' b = none) ∧ S.Cn ys s1.heap ∧ (∀ b ∈ S.F, ∃ o, s1.heap.get? b = some o ∧ ∀ v, o.data ≠ .cell v) ∧ ys.length ≤ sizeLine ∧ Q ys H'
def GStop (P : Program) (w : World) (outer : List Env) (H : Hp) (s : Shared) (S : Gst) (Q : List V → Hp → Prop) : GenEnd := fun _ _ r s1 =>
  ((r = .ok (.ret .none) ∨ r = .ok .next) ∧ GDone P w outer H s S Q s1) ∨ ∃ e, r = .error e ∧ False
def GItem (s : Shared) (S : Gst) (a : Addr) (g : Nat) : Protocol := fun n _ v s1 kap =>
  s1.os = s.os ∧ AllBare s1.gens ∧ s1.heap.NoLimit ∧ s1.heap.IsGen a g ∧ (∃ ys x, n + 1 + ys.length = sizeLine ∧ RelV x v ∧ S.Cn ys s1.heap) ∧ (∀ b ∈ S.F, ∃ o, s1.heap.get? b = some o ∧ ∀ v, o.data ≠ .cell v) ∧ ∀ s', Nap S v s1 s' → kap (.send .none) s'
/-- a generator that has not begun -/
def Asleep (P : Program) (w : World) (k : Nat) (outer : List Env) (H : Hp) (s : Shared) (Q : List V → Hp → Prop) (u : Value) (s' : Shared) : Prop :=
  ∃ (a : Addr) (g : Nat) (c : Code), u = .ref a ∧ s.heap.objs.size ≤ a ∧ a < s'.heap.objs.size ∧ s'.heap.IsGen a g ∧ s'.gens[g]? = some (.fresh c) ∧ s'.os = s.os ∧ AllBare s'.gens ∧ s'.heap.NoLimit ∧ (∀ b o, s.heap.get? b = some o → s'.heap.get? b = some o) ∧
    ∀ (A : Around) (S : Gst) (s2 : Shared), Room k A → A.frames = some outer → (∀ b ∈ S.F, s'.heap.objs.size ≤ b) → (∀ b o, s'.heap.get? b = some o → s2.heap.get? b = some o) → S.Cn [] s2.heap → (∀ b ∈ S.F, ∃ o, s2.heap.get? b = some o ∧ ∀ v, o.data ≠ .cell v) → s2.os = s.os → AllBare s2.gens →
      Seg (model P w) A (GStop P w outer H s S Q) (GItem s S a g) sizeLine s2 c ((model P w).den c) [] s2
structure GFnI (P : Program) (w : World) (K : PySem.W.Frag) (mg : Str → Option Value) (base : Heap) (k : Nat) (f : Addr) (fd : FuncData) (ps : List Str) (sp : SpI) : Prop where
  len : ∀ vs H Q, sp vs H Q → vs.length = ps.length
  run : ∀ (A : Around) (outer : List Env) (s : Shared) (H : Hp) (args : Args) (us : List Value) (vs : List V) (Q : List V → Hp → Prop), Room k A → Env0 P w K mg base A outer s H → BindsTo s fd args (ps.zip us) → Vals vs us → sp vs H Q →
    codeAny (model P w) A (.call (.ref f) args) (fun r s' => match r with | .ok (.ret u) => Asleep P w k outer H s Q u s' | _ => False) s
theorem GFnI.mono {P : Program} {w : World} {K : PySem.W.Frag} {mg : Str → Option Value} {base : Heap} {j k : Nat} {f : Addr} {fd : FuncData} {ps : List Str} {sp : SpI} (F : GFnI P w K mg base j f fd ps sp) (h : j ≤ k) : GFnI P w K mg base k f fd ps sp :=
  ⟨F.len, fun A outer s H args us vs Q hr e0 hb r hs => codeAny_mono (F.run A outer s H args us vs Q (hr.mono h) e0 hb r hs) fun r s' q => by
    match r, q with
    | .ok (.ret u), ⟨a, g, c, h1, h2, h3, h4, h5, h6, h7, h8, h9, wake⟩ => exact ⟨a, g, c, h1, h2, h3, h4, h5, h6, h7, h8, h9, fun A S s2 hr2 => wake A S s2 (hr2.mono h)⟩⟩
theorem gfn_body {P : Program} {w : World} {K : PySem.W.Frag} {mg : Str → Option Value} {base : Heap} {k : Nat} {f : Addr} {name qual : Str} {params : Arguments} {body : List Stmt} {scope : Scope} {dV kV doc pm cdv ct oc : Value} {an od : Option Addr}
    {osl : Array (Option Value)} {N ps : List Str} {sp : SpI} (lk : K.lookup f = some ⟨oc, od, .func (PySem.W.fnOf name qual params body scope dV kV doc pm an cdv ct), osl⟩) (hcd : PySem.W.codeIn K cdv qual = true) (G : GScope N ps scope)
    (len : ∀ vs H Q, sp vs H Q → vs.length = ps.length)
    (hbody : ∀ (A : Around) (outer : List Env) (s : Shared) (H : Hp) (vs : List V) (Q : List V → Hp → Prop) (pn : List (Addr × Obj)), Room k (A.deeper (envOfC qual scope s.heap.objs.size f cdv)) → sp vs H Q →
      ∃ t, GSts (cxG P w K mg base N qual scope f cdv A outer s H pn) body t ∧ t { nx := fun ys _ H' => Q ys H', rt := fun ys v H' => v = .non ∧ Q ys H' } [] (start N vs) H) :
    GFnI P w K mg base (k + 1) f (PySem.W.fnOf name qual params body scope dV kV doc pm an cdv ct) ps sp := by
  refine ⟨len, fun A outer s H args us vs Q hr e0 hb r hsp => ?_⟩
  have keep : ∀ b o, base.get? b = some o → s.heap.get? b = some o := fun b o e => (e0.bs b o e).1
  have KX : K.In s.heap := e0.mod.kin.keeps keep
  refine codeAny_call_generator hr.depth (KX _ _ lk) rfl G.co G.gen rfl (PySem.W.codeRec_of KX hcd) (hb _ _ _ _ (wpAny_newFunctionEnv_cells G.kind (fun y hy => ?_) fun env he s1 x => ?_))
  · exact (G.par y.1 (List.of_mem_zip hy).1).imp id fun q => ⟨q, PySem.W.cellsFrom_some _ _ _ (.inl q)⟩
  subst he
  have lim1 : s1.heap.NoLimit := (e0.mod.nolimit.keeps keep).keeps x.toInCall.keep
  refine ⟨lim1, ?_⟩
  have I0 := inv_startG (E := fun _ _ _ => False) G hr.hd e0 (len _ _ _ hsp) r x
  obtain ⟨h1, tk, es1, hk1⟩ := x.done
  have os1 : s1.os = s.os := by rw [es1]
  have gen1 : s1.gens = s.gens := by rw [es1]
  have lt1 : s.heap.objs.size < s1.heap.objs.size := x.toInCall.ns.lt
  -- the generator's object
  have main : ∀ (go : Obj) (nm qn : Value) (tk2 : Nat), go.cls = .type "generator" → go.data = .fields #[.int s1.gens.size 0, nm, qn] → go.slots = #[] → (∀ h : Heap, (h.push go).get? h.objs.size = some go) →
      Asleep P w (k + 1) outer H s Q (.ref s1.heap.objs.size) { s1 with gens := s1.gens.push (.fresh (.func body (envOfC qual scope s.heap.objs.size f cdv))), toks := tk2, heap := s1.heap.push go } := by
    intro go nm qn tk2 c1 c2 c3 c4
    have isg : ∀ h : Heap, h.get? s1.heap.objs.size = some go → h.IsGen s1.heap.objs.size s1.gens.size := fun h e => ⟨go, nm, qn, e, c1, c2, c3⟩
    refine ⟨s1.heap.objs.size, s1.gens.size, _, rfl, Nat.le_of_lt lt1, ?_, isg _ (c4 _), Array.getElem?_push_size .., os1, ?_, lim1.keeps fun b o e => Heap.get?_push_of_some _ e, fun b o e => Heap.get?_push_of_some _ (x.toInCall.keep b o e), ?_⟩
    · show _ < (s1.heap.push _).objs.size
      rw [Heap.size_push]; exact Nat.lt_succ_self _
    · exact AllBare.push (by rw [gen1]; exact e0.bare) rfl
    intro Aw S s2 hrw hfr hS hk2 hcn hth hos hba
    have e0w : Env0 P w K mg base Aw outer s H := ⟨hfr, e0.mod, e0.bs, e0.bsz, e0.funs, e0.frf, e0.hok, e0.bare⟩
    obtain ⟨t, ht, hq⟩ := hbody Aw outer s H vs Q [(s1.heap.objs.size, go)] (hrw.deeper _) hsp
    have I1 := inv_startG (E := fun _ _ _ => False) G hrw.hd e0w (len _ _ _ hsp) r x
    have kp2 : ∀ b o, s1.heap.get? b = some o → s2.heap.get? b = some o := fun b o e => hk2 b o (Heap.get?_push_of_some _ e)
    have I2 := I1.call' (s' := s2) (ch := []) (hos.trans os1.symm) (Un.kept kp2) (I1.hok.kept kp2) hba fun b z => by simp at z
    have hS1 : ∀ b ∈ S.F, s1.heap.objs.size < b := fun b hb => by
      have q := hS b hb
      have q' : (s1.heap.push go).objs.size ≤ b := q
      rw [Heap.size_push] at q'
      exact q'
    have young : ∀ b, s1.heap.objs.size ≤ b → H b = none ∧ b ≠ s.heap.objs.size ∧ b ∉ frs outer ∧ s.heap.objs.size ≤ b ∧ ∀ y c, (cellsFrom (s.heap.objs.size + 1) scope.names []).lookup y = some c → c ≠ b := fun b hb => by
      refine ⟨I1.hok.fresh hb, Nat.ne_of_gt (Nat.lt_of_lt_of_le lt1 hb), I1.nofs hb, Nat.le_trans (Nat.le_of_lt lt1) hb, fun y c e z => ?_⟩
      obtain ⟨v, ob, ho, _⟩ := I1.cell y c e
      have q := Heap.lt_size ho
      rw [z] at q
      exact absurd (Nat.lt_of_lt_of_le q hb) (Nat.lt_irrefl _)
    have goN : s1.heap.objs.size ∉ S.F := fun z => Nat.lt_irrefl _ (hS1 _ z)
    have hgo : s2.heap.get? s1.heap.objs.size = some go := hk2 _ _ (c4 _)
    have hG : GJ (cxG P w K mg base N qual scope f cdv Aw outer s H [(s1.heap.objs.size, go)]) S [] [] (start N vs) H s2 := by
      refine ⟨hcn, pinsAt S.F s2.heap, fun b hb => ?_, fun p hp => (of_pinsAt hp).1, ?_⟩
      · obtain ⟨o, e, _⟩ := hth b hb
        exact ⟨o, mem_pinsAt hb e⟩
      rw [List.append_nil]
      refine ⟨⟨I2.ok.mod, I2.ok.kind, I2.ok.glob, I2.ok.blt, I2.ok.above, I2.ok.inj, I2.ok.has, I2.ok.cab, I2.ok.hd, I2.ok.frames, I2.ok.stk, I2.ok.exf, I2.ok.bs, I2.ok.bsz, I2.ok.noex, I2.ok.exfs, I2.ok.funs, I2.ok.frf⟩, I2.os, I2.bare, I2.base, I2.loc, I2.cell, I2.free, I2.freeC, fun p hp => ?_, I2.hok, I2.len⟩
      rcases List.mem_append.mp hp with hp | hp
      · rw [List.mem_singleton.mp hp]
        obtain ⟨y1, y2, y3, _⟩ := young _ (Nat.le_refl _)
        exact ⟨hgo, y1, y2, y3, fun v q => by rw [c2] at q; cases q⟩
      · obtain ⟨hb, e⟩ := of_pinsAt hp
        obtain ⟨y1, y2, y3, _⟩ := young p.1 (Nat.le_of_lt (hS1 _ hb))
        obtain ⟨o, e', d⟩ := hth p.1 hb
        rw [e] at e'; cases e'
        exact ⟨e, y1, y2, y3, d⟩
    have gen : ∀ {ip : List (Addr × Obj)} {ys : List V} {s' : Shared} {σ' : L2.St} {H' : Hp}, GJ (cxG P w K mg base N qual scope f cdv Aw outer s H [(s1.heap.objs.size, go)]) S ip ys σ' H' s' → s'.heap.IsGen s1.heap.objs.size s1.gens.size := fun {ip ys s' σ' H'} h =>
      isg _ (h.inv.pin (s1.heap.objs.size, go) (List.mem_append_left _ (List.mem_singleton.mpr rfl))).1
    have stop : ∀ {m : Nat} {ip : List (Addr × Obj)} {ys : List V} {s' : Shared} {σ' : L2.St} {H' : Hp}, m + ys.length = sizeLine → GJ (cxG P w K mg base N qual scope f cdv Aw outer s H [(s1.heap.objs.size, go)]) S ip ys σ' H' s' → Q ys H' → GDone P w outer H s S Q s' := fun {m ip ys s' σ' H'} hm h q =>
      ⟨H', ys, h.inv.os, h.inv.bare, h.inv.base, h.inv.hok, fun b hb => (h.own b hb).1, h.1, fun b hb => (h.own b hb).2.2.2, by omega, q⟩
    refine seg_func ?_
    refine seg_imp (R := GFin (cxG P w K mg base N qual scope f cdv Aw outer s H [(s1.heap.objs.size, go)]) S (fun ys v H' => v = .non ∧ Q ys H')) (Y := GPr (cxG P w K mg base N qual scope f cdv Aw outer s H [(s1.heap.objs.size, go)]) S) (fun n s₀ r s1' hR => ?_) (fun n s₀ v s1' kap kap' hkk hY => ?_) sizeLine ?_
    · match r, hR with
      | .ok (.ret u), ⟨ys, v, ip, σ', H', hn, h, rv, ev, q⟩ =>
        subst ev
        have eu : u = Value.none := rv
        subst eu
        exact .inl ⟨.inl rfl, stop hn h q⟩
    · obtain ⟨ys, y, ip, σ', H', hn, rv, h, h3⟩ := hY
      exact ⟨h.inv.os, h.inv.bare, h.inv.nolimit, gen h, ⟨ys, y, hn, rv, h.1⟩, fun b hb => (h.own b hb).2.2.2, fun s' z => hkk _ _ (h3 s' z)⟩
    · refine ht.run Aw S [] _ sizeLine [] s2 _ [] _ _ id id s2 (start N vs) H _ ⟨fun _ _ z => z, fun p hp z => goN (by rw [List.mem_singleton.mp hp] at z; exact z), fun p hp => (by simp at hp), fun b hb => ?_, over_func, rfl, rfl, rfl⟩ (Nat.add_zero _) (fun n ys s₀ s' fl hn hs => ?_) hG hq
      · obtain ⟨_, _, _, y4, y5⟩ := young b (Nat.le_of_lt (hS1 _ hb))
        exact ⟨y4, y5⟩
      · match fl, hs with
        | .next, ⟨σ', H', h, q⟩ => exact seg_end (.ok (.ret .none)) ⟨ys, .non, [], σ', H', hn, h, rfl, rfl, q⟩
        | .ret u, ⟨v, σ', H', h, rv, q⟩ => exact seg_end (.ok (.ret u)) ⟨ys, v, [], σ', H', hn, h, rv, q⟩
        | .brk, ⟨_, _, _, q⟩ => exact q.elim
        | .cont, ⟨_, _, _, q⟩ => exact q.elim
  exact main _ _ _ _ rfl rfl rfl fun h => Heap.get?_push_size _ rfl
end TP

namespace TP
open PySem PySem.Spec PyProof.Rows GenW L2
structure GMth (P : Program) (w : World) (K : PySem.W.Frag) (mg : Str → Option Value) (base : Heap) (k : Nat) (C : Addr) (m : Str) (ps : List Str) (sp : SpI) : Prop where
  ex : ∃ (f : Addr) (fd : FuncData), Meth K C m f ∧ GFnI P w K mg base k f fd ps sp ∧ Binds K fd ps []
structure GFun (P : Program) (w : World) (K : PySem.W.Frag) (mg : Str → Option Value) (base : Heap) (k : Nat) (x : Str) (ps : List Str) (sp : SpI) : Prop where
  ex : ∃ (f : Addr) (fd : FuncData), mg x = some (.ref f) ∧ PySem.W.keepIn K (.ref f) = true ∧ GFnI P w K mg base k f fd ps sp ∧ Binds K fd ps []
section
variable {P : Program} {w : World} {K : PySem.W.Frag} {mg : Str → Option Value} {base : Heap} {C : Addr}
theorem gfn_fun {x qual : Str} {st : Stmt} {N ps : List Str} {k : Nat} {sp : SpI} {f : Addr} {fd : FuncData} (F : Fun K x qual st f fd) (S : GScope N ps (defScope st)) (len : ∀ vs H Q, sp vs H Q → vs.length = ps.length)
    (hd : ∀ (cdv : Value) (A : Around) (outer : List Env) (s : Shared) (H : Hp) (vs : List V) (Q : List V → Hp → Prop) (pn : List (Addr × Obj)), Room k (A.deeper (envOfC qual (defScope st) s.heap.objs.size f cdv)) → sp vs H Q →
      ∃ t, GSts (cxG P w K mg base N qual (defScope st) f cdv A outer s H pn) (defBody st) t ∧ t { nx := fun ys _ H' => Q ys H', rt := fun ys v H' => v = .non ∧ Q ys H' } [] (start N vs) H) : GFnI P w K mg base (k + 1) f fd ps sp := by
  obtain ⟨oc, od, kV, doc, pm, an, cdv, ct, osl, rfl, lk, hcd⟩ := F.ex
  exact gfn_body lk hcd S len fun A outer s H vs Q pn hr h => hd cdv A outer s H vs Q pn hr h
theorem FunI.okG {x : Str} {st : Stmt} {N ps : List Str} {k : Nat} {sp : SpI} (F : FunI K mg x st ps) (S : GScope N ps (defScope st)) (len : ∀ vs H Q, sp vs H Q → vs.length = ps.length) {t : TGn}
    (hd : ∀ (f : Addr) (cdv : Value) (A : Around) (outer : List Env) (s : Shared) (H : Hp) (pn : List (Addr × Obj)), Room k (A.deeper (envOfC x (defScope st) s.heap.objs.size f cdv)) → GSts (cxG P w K mg base N x (defScope st) f cdv A outer s H pn) (defBody st) t)
    (hb : ∀ (H : Hp) (vs : List V) (Q : List V → Hp → Prop), sp vs H Q → t { nx := fun ys _ H' => Q ys H', rt := fun ys v H' => v = .non ∧ Q ys H' } [] (start N vs) H) : GFun P w K mg base (k + 1) x ps sp := by
  obtain ⟨f, fd, hm, F, b⟩ := F.ex
  exact ⟨f, fd, hm, F.kp, gfn_fun F S len fun cdv A outer s H vs Q pn hr h => ⟨t, hd f cdv A outer s H pn hr, hb H vs Q h⟩, b⟩
theorem MunI.okG {m qual : Str} {st : Stmt} {N ps : List Str} {k : Nat} {sp : SpI} (F : MunI K C m qual st ps) (S : GScope N ps (defScope st)) (len : ∀ vs H Q, sp vs H Q → vs.length = ps.length) {t : TGn}
    (hd : ∀ (f : Addr) (cdv : Value) (A : Around) (outer : List Env) (s : Shared) (H : Hp) (pn : List (Addr × Obj)), Room k (A.deeper (envOfC qual (defScope st) s.heap.objs.size f cdv)) → GSts (cxG P w K mg base N qual (defScope st) f cdv A outer s H pn) (defBody st) t)
    (hb : ∀ (H : Hp) (vs : List V) (Q : List V → Hp → Prop), sp vs H Q → t { nx := fun ys _ H' => Q ys H', rt := fun ys v H' => v = .non ∧ Q ys H' } [] (start N vs) H) : GMth P w K mg base (k + 1) C m ps sp := by
  obtain ⟨f, fd, hm, F, b, _⟩ := F.ex
  exact ⟨f, fd, hm, gfn_fun F S len fun cdv A outer s H vs Q pn hr h => ⟨t, hd f cdv A outer s H pn hr, hb H vs Q h⟩, b⟩
end
/-- an expression whose value is a generator that has not begun -/
structure PGenI (X : Cx) (k : Nat) (e : Expr) (tg : TGen) : Prop where
  run : ∀ (pins : List (Addr × Obj)) (s : Shared) (σ : L2.St) (H : Hp) (cont : List V → Hp → Prop), Inv X pins σ H s → tg σ H cont → wpAny (model X.prog X.w) X.A (eval e X.env)
    (fun u s' => ∃ H1 sc, Inv X pins σ H1 sc ∧ Asleep X.prog X.w k X.stack H1 sc cont u s') X.xe s
section
variable {X : Cx} {k j : Nat} {C : Addr} {ps : List Str} {sp : SpI} {x m : Str} {p pos apos : Pos} {o e : Expr} {es : List Expr} {ta : TE} {t : TA}
end
section
variable {X : Cx} {k : Nat} {x : Str} {px pe pos : Pos} {iter : Expr} {scope : Scope} {own : List (Str × Nat)} {tg : TGen}
end
end TP

namespace MR
open PySem PySem.Spec PyProof.Rows L2 TP
inductive GFl where
  | nx (δ : Env) (Y : List D) | rt (d : D) (Y : List D) | bk (δ : Env) (Y : List D) | ct (δ : Env) (Y : List D)
abbrev MGn := Env → List D → Sto → Out GFl
section
variable (K : PySem.W.Frag) (Γ : Gm) (xa : XT)
def PostG (o : Out GFl) (w0 w : Wd) (Dn : GEnds) : Prop := match o with
  | .ok (.nx δ Y) S => ∀ w' σ ys, w'.S = S → Ok K Γ w' → Ev w0 w' → Gr w w' → EnvOk K Γ xa w0 w' σ δ → Reps K Γ w' Y ys → Dn.nx ys σ w'.H
  | .ok (.rt d Y) S => ∀ w' v ys, w'.S = S → Ok K Γ w' → Ev w0 w' → Gr w w' → Rep K Γ w' d v → Reps K Γ w' Y ys → Dn.rt ys v w'.H
  | .ok (.bk δ Y) S => ∀ w' σ ys, w'.S = S → Ok K Γ w' → Ev w0 w' → Gr w w' → EnvOk K Γ xa w0 w' σ δ → Reps K Γ w' Y ys → Dn.bk ys σ w'.H
  | .ok (.ct δ Y) S => ∀ w' σ ys, w'.S = S → Ok K Γ w' → Ev w0 w' → Gr w w' → EnvOk K Γ xa w0 w' σ δ → Reps K Γ w' Y ys → Dn.ct ys σ w'.H
  | _ => False
structure SimG (tg : TGn) (mg : MGn) : Prop where
  run : ∀ (w0 w : Wd) (σ : L2.St) (δ : Env) (Dn : GEnds) (Y : List D) (ys : List V), Ok K Γ w → Ev w0 w → EnvOk K Γ xa w0 w σ δ → Reps K Γ w Y ys → PostG K Γ xa (mg δ Y w.S) w0 w Dn → tg Dn ys σ w.H
end
def bndY {α : Type} (o : Out α) (f : α → Sto → Out GFl) : Out GFl := match o with
  | .ok a S => f a S
  | _ => .bad
section
variable {K : PySem.W.Frag} {Γ : Gm} {xa : XT} {te ta tb : TE} {me ma mb : ME} {w w' w0 w1 : Wd} {t u : TT} {mt mu : MT} {ts us : TS} {ms mus : MS} {Dn : GEnds} {tl : TA} {ml : MA} {wi : TI} {mi : MA} {ga gb : TGn} {na nb : MGn}
theorem PostG.gr {o : Out GFl} (h : PostG K Γ xa o w0 w Dn) (g : Gr w w') : PostG K Γ xa o w0 w' Dn := by
  cases o with
  | ok f S => cases f <;> exact fun w1 σ ys hs ho he hg => h w1 σ ys hs ho he (g.trans hg)
  | ex => exact h
  | bad => exact h
theorem PostG.then {α : Type} {o : Out α} {σ : L2.St} {f : α → Sto → Out GFl} {ok : α → Wd → Prop} (h : PostG K Γ xa (bndY o f) w0 w Dn)
    (g : ∀ a w', Ok K Γ w' → Ev w w' → PostG K Γ xa (f a w'.S) w0 w' Dn → ok a w') : Post K Γ o w ok (XW K Γ noW σ) := by
  cases o with
  | ok a S => exact fun w1 hs ho he => g a w1 ho he (by subst hs; exact PostG.gr h he.gr)
  | ex c ns ds S => exact False.elim h
  | bad => exact h
variable {vs : List Nat} {tg : TG} {mg : MG}
abbrev MFY := List D → Sto → Out (List D)
variable {n : Nat} {m : MFY}
/-- the reading of a generator made by a call -/
structure SimGE (K : PySem.W.Frag) (Γ : Gm) (xa : XT) (tg : TGen) (my : MA) : Prop where
  run : ∀ (w0 w : Wd) (σ : L2.St) (δ : Env) (cont : List V → Hp → Prop), Ok K Γ w → Ev w0 w → EnvOk K Γ xa w0 w σ δ → Post K Γ (my δ w.S) w (fun Y w' => ∀ ys, Reps K Γ w' Y ys → cont ys w'.H) (fun _ _ _ _ => False) → tg σ w.H cont
end
end MR

namespace TP
open PySem PySem.Spec PyProof.Rows L2
open Sem (wp)
end TP

namespace MR
open PySem PySem.Spec PyProof.Rows L2 TP
section
variable {K : PySem.W.Frag} {Γ : Gm} {xa : XT} {W : WX} {w : Wd} {tl : TA} {ml : MA}
end
end MR

namespace TP
open PySem PySem.Spec PyProof.Rows L2
end TP

namespace MR
open PySem PySem.Spec PyProof.Rows L2 TP
section
variable {K : PySem.W.Frag} {Γ : Gm}
end
end MR

namespace TP
open PySem PySem.Spec PyProof.Rows L2
section
variable {X : Cx} {k j : Nat} {C : Addr} {sp : Sp} {W : WX} {m : Str} {pos apos : Pos} {o : Expr} {ta : TE}
end
end TP

namespace MR
open PySem PySem.Spec PyProof.Rows L2 TP
section
variable {K : PySem.W.Frag} {Γ : Gm} {xa : XT} {W : WX} {w : Wd} {te : TE} {me : ME}
end
end MR

namespace MR
open PySem PySem.Spec PyProof.Rows L2 TP
section
variable {K : PySem.W.Frag} {Γ : Gm} {w : Wd}
end
end MR

namespace MR
open PySem PySem.Spec PyProof.Rows L2 TP
section
variable {K : PySem.W.Frag} {Γ : Gm} {xa : XT} {W : WX} {te : TE} {me : ME} {vs : List Nat} {n : Nat} {tgs : TGs} {mgs : MGs}
end
end MR

namespace MR
open PySem PySem.Spec PyProof.Rows L2 TP
section
variable {K : PySem.W.Frag} {Γ : Gm} {xa : XT} {W : WX} {to : TE} {mo : ME}
end
end MR

namespace TP
open PySem PySem.Spec PyProof.Rows L2
inductive HdsB (X : Cx) : List ExceptHandler → List (Value × Option Nat × (Addr → Value → Option Addr → TS)) → Prop
  | nil : HdsB X [] []
  | cons {x n : Str} {c : Value} {i : Nat} {ts : Addr → Value → Option Addr → TS} {b₀ : Stmt} {suite : List Stmt} {np pos' : Pos} {hds : List ExceptHandler} {l : List (Value × Option Nat × (Addr → Value → Option Addr → TS))} (hi : X.N[i]? = some n) (hln : X.env.kindOf n = some .local) (hc : Names X x c)
      (hsu : ∀ (a : Addr) (oe : Obj) (cls : Value) (d : Option Addr) (pn : List (Addr × Obj)), Zc cls d oe → (∃ vs, oe.data = .fields vs) → PSs (X.suite a ((a, oe) :: pn)) (b₀ :: suite) (ts a cls d)) (r : HdsB X hds l) :
      HdsB X (.ExceptHandler (some (.Name x np)) (some n) (b₀ :: suite) pos' :: hds) ((c, some i, ts) :: l)
  | cons0 {x : Str} {c : Value} {ts : Addr → Value → Option Addr → TS} {b₀ : Stmt} {suite : List Stmt} {np pos' : Pos} {hds : List ExceptHandler} {l : List (Value × Option Nat × (Addr → Value → Option Addr → TS))} (hc : Names X x c)
      (hsu : ∀ (a : Addr) (oe : Obj) (cls : Value) (d : Option Addr) (pn : List (Addr × Obj)), Zc cls d oe → (∃ vs, oe.data = .fields vs) → PSs (X.suite a ((a, oe) :: pn)) (b₀ :: suite) (ts a cls d)) (r : HdsB X hds l) :
      HdsB X (.ExceptHandler (some (.Name x np)) none (b₀ :: suite) pos' :: hds) ((c, none, ts) :: l)
section
variable {X : Cx} {body : List Stmt} {h₀ : ExceptHandler} {hds : List ExceptHandler} {l : List (Value × Option Nat × (Addr → Value → Option Addr → TS))} {pos : Pos} {tb : WX → TS} {Wout : WX}
end
end TP

namespace TP
open PySem PySem.Spec PyProof.Rows L2
def iniBody0 (txt : Str) (n3 : Nat) (p0 p1 p2 p3 p4 p5 : Pos) : List Stmt :=
  [.Expr (.Call (.Attribute (.Call (.Name "super" p0) [] [] p1) "__init__" p2) [.Constant (.str txt) n3 p3] [] p4) p5]
def iniScope0 : Scope := { kind := .function, names := [(PySem.Str.ofString "self", .local), (PySem.Str.ofString "__class__", .free), (PySem.Str.ofString "super", .globalImplicit)], isGenerator := false, isCoroutine := false, more := [] }
structure IniTxt0 (P : Program) (K : PySem.W.Frag) (mg : Str → Option Value) (C fI : Addr) (qual : Str) (fd : FuncData) : Prop where
  oex : OexC K C
  sup : mg "super" = none
  opq : PySem.W.nsIn K cStatics "thirdparty.any" = some none
  along : PySem.W.ks_superIn K C C "__init__" = some (some vin)
  mine : PySem.W.mroIn K C (.ref C) = some true
  isV : PySem.W.mroIn K C (.type "ValueError") = some true
  top : (P.main.scope.names.lookup ("super" : Str)).isSome = false
  code : ∃ (oc : Value) (od : Option Addr) (params : Arguments) (kV doc pm : Value) (an : Option Addr) (cda : Addr) (ct : Value) (cc : Addr) (osl : Array (Option Value)) (ar : Arg) (ccl : Value) (cdd : Option Addr) (vs : Array Value) (ccs : Array (Option Value)) (file : Str) (tf : Tok) (cl : Value) (cld : Option Addr) (csl : Array (Option Value))
      (txt : Str) (n3 : Nat) (p0 p1 p2 p3 p4 p5 : Pos),
    fd = PySem.W.ksFn "__init__" qual params (iniBody0 txt n3 p0 p1 p2 p3 p4 p5) iniScope0 .none kV doc pm an (.ref cda) ct cc ∧ K.lookup fI = some ⟨oc, od, .func fd, osl⟩ ∧ PySem.W.codeIn K (.ref cda) qual = true ∧
    (params.posonlyargs ++ params.args).head? = some ar ∧ ar.arg = "self" ∧ K.lookup cda = some ⟨ccl, cdd, .fields vs, ccs⟩ ∧ vs[2]? = some (.str file tf) ∧ ((P.main.file : Str) == file) = true ∧ K.lookup cc = some ⟨cl, cld, .cell (some (.ref C)), csl⟩ ∧
    iniScope0.names.lookup ("super" : Str) = some .globalImplicit ∧ iniScope0.names.lookup ("__class__" : Str) = some .free ∧ iniScope0.names.lookup ("self" : Str) = some .local ∧ (p2.endLine == p4.line) = true
structure ErrI0 (P : Program) (K : PySem.W.Frag) (mg : Str → Option Value) (x : Str) (C : Addr) : Prop where
  at_ : mg x = some (.ref C)
  xf : XfC K C
  is_ : ExcC K C
  ex : ∃ (fI : Addr) (fd : FuncData) (qual : Str), IniTxt0 P K mg C fI qual fd ∧ PySem.W.findIn K (.ref C) "__init__" = some (some (.ref fI)) ∧ PySem.W.typeIn K (.ref fI) = some (.type "function") ∧ Binds K fd ["self"] []
end TP

namespace MR
open PySem PySem.Spec PyProof.Rows L2 TP
section
variable {K : PySem.W.Frag} {Γ : Gm} {xa : XT} {W : WX}
end
end MR

namespace SrtO
open PySem PyProof.Rows Srt
def tv : Value → PySem.Str
  | .str s _ => s
  | _ => ""
section
variable {prog : Program} {w : World} {A : Around} {E : Value → Shared → Prop} {s : Shared}
end
end SrtO
namespace L2
open PySem PySem.Spec PyProof.Rows
section
variable {X : Cx}
end
end L2

namespace TP
open PySem PySem.Spec PyProof.Rows L2
inductive HeldL (X : Cx) (j : Nat) : List (Addr × Sp) → Prop
  | nil : HeldL X j []
  | cons {x : Str} {k : Nat} {ps : List Str} {f : Addr} {sp : Sp} {l : List (Addr × Sp)} (hm : X.mg x = some (.ref f)) (I : FnZ X.prog X.w X.K X.mg X.base k x ps sp) (hk : k ≤ j) (r : HeldL X j l) : HeldL X j ((f, sp) :: l)
section
variable {X : Cx} {j i : Nat} {fs : List (Addr × Sp)} {W : WX} {x : Str} {p pos : Pos} {e : Expr} {es : List Expr} {t : TA}
theorem HeldL.get {f : Addr} {sp : Sp} (h : HeldL X j fs) (hm : (f, sp) ∈ fs) : ∃ (fd : FuncData) (ps : List Str) (k : Nat), k ≤ j ∧ PySem.W.keepIn X.K (.ref f) = true ∧ FnOk X.prog X.w X.K X.mg X.base (L2.CX X.prog X.w) k f fd ps sp ∧ Binds X.K fd ps [] := by
  induction h with
  | nil => cases hm
  | cons hg I hk r ih =>
    rcases List.mem_cons.mp hm with e | e
    · cases e
      obtain ⟨f', fd, h1, kp, F, b⟩ := I.ex
      rw [hg] at h1
      cases h1
      exact ⟨fd, _, _, hk, kp, F, b⟩
    · exact ih e
end
end TP

namespace MR
open PySem PySem.Spec PyProof.Rows L2 TP
section
variable {K : PySem.W.Frag} {Γ : Gm} {xa : XT} {W : WX} {tl : TA} {ml : MA}
end
end MR

namespace TP
open PySem PySem.Spec PyProof.Rows L2
end TP

namespace MR
open PySem PySem.Spec PyProof.Rows L2 TP
section
variable {K : PySem.W.Frag} {Γ : Gm} {xa : XT} {W : WX} {te : TE} {me : ME}
end
end MR

namespace TP
open PySem PySem.Spec PyProof.Rows L2
structure MthN (P : Program) (w : World) (K : PySem.W.Frag) (mg : Str → Option Value) (base : Heap) (k : Nat) (C : Addr) (m : Str) (ps : List Str) (sp : Sp) : Prop where
  ex : ∃ (f : Addr) (fd : FuncData), Meth K C m f ∧ FnOk P w K mg base (L2N.CX P w) k f fd ps sp ∧ Binds K fd ps [] ∧ PySem.W.fnIn K f = true
section
variable {P : Program} {w : World} {K : PySem.W.Frag} {mg : Str → Option Value} {base : Heap} {j k : Nat} {f : Addr} {fd : FuncData} {ps : List Str} {sp : Sp}
theorem okGN {x qual : Str} {st : Stmt} {N : List Str} (F : Fun K x qual st f fd) (S : FnScope N ps (defScope st)) (len : ∀ vs H Q E, sp vs H Q E → vs.length = ps.length)
    (hbody : ∀ (cdv : Value) (A : Around) (outer : List Env) (s : Shared) (H : Hp) (vs : List V) (Q : VK) (E : XK), Room k (A.deeper (envOfC qual (defScope st) s.heap.objs.size f cdv)) → sp vs H Q E →
      ∃ t, PSs (cxOf (L2N.CX P w) P w K mg base N qual (defScope st) f cdv A outer s H E) (defBody st) t ∧ t { nx := fun _ H' => Q .non H', rt := Q } (start N vs) H) : FnOk P w K mg base (L2N.CX P w) (k + 1) f fd ps sp := by
  obtain ⟨oc, od, kV, doc, pm, an, cdv, ct, osl, rfl, lk, hcd⟩ := F.ex
  exact fn_body lk hcd S len fun A outer s H vs Q E hr hsp => hbody cdv A outer s H vs Q E hr hsp
end
section
variable {P : Program} {w : World} {K : PySem.W.Frag} {mg : Str → Option Value} {base : Heap} {C : Addr}
theorem MunI.okN {m qual : Str} {st : Stmt} {N ps : List Str} {k : Nat} {sp : Sp} (F : MunI K C m qual st ps) (S : FnScope N ps (defScope st)) (len : ∀ vs H Q E, sp vs H Q E → vs.length = ps.length) {t : XK → TS}
    (hd : ∀ (f : Addr) (cdv : Value) (A : Around) (outer : List Env) (s : Shared) (H : Hp) (E : XK), Room k (A.deeper (envOfC qual (defScope st) s.heap.objs.size f cdv)) → PSs (cxOf (L2N.CX P w) P w K mg base N qual (defScope st) f cdv A outer s H E) (defBody st) (t E))
    (hb : ∀ (H : Hp) (vs : List V) (Q : VK) (E : XK), sp vs H Q E → t E { nx := fun _ H' => Q .non H', rt := Q } (start N vs) H) : MthN P w K mg base (k + 1) C m ps sp := by
  obtain ⟨f, fd, hm, F, b, fi⟩ := F.ex
  exact ⟨f, fd, hm, okGN F S len fun cdv A outer s H vs Q E hr h => ⟨t E, hd f cdv A outer s H E hr, hb H vs Q E h⟩, b, fi⟩
end
section
variable {X : Cx} {e : Expr} {es : List Expr} {ta : TA} {p pos : Pos}
end
section
variable {X : Cx} {W : WX} {x fld : Str} {C : Addr} {j : Nat} {e : Expr} {ta : TA} {p p1 pos : Pos}
end
section
variable {X : Cx} {k j : Nat} {C : Addr} {ps : List Str} {sp : Sp} {W : WX} {x m : Str} {p pos apos : Pos} {o e : Expr} {es : List Expr} {ta : TE} {t : TA}
end
section
variable {X : Cx} {k j : Nat} {C : Addr} {ps : List Str} {sp : Sp} {W : WX}
end
end TP

namespace TP
open PySem PySem.Spec PyProof.Rows L2 HotX
/-- the heap behind «from b» -/
def fromV (b : Value) (h : Heap) (a : Addr) : Heap := (h.update a (Obj.mapFields (·.setIfInBounds 3 b))).update a (Obj.mapFields (·.setIfInBounds 4 (.bool true)))
theorem fromV_at {b : Value} {h : Heap} {a : Addr} {oe : Obj} {vs : Array Value} (ha : h.get? a = some oe) (hd : oe.data = .fields vs) :
    (fromV b h a).get? a = some ((oe.mapFields (·.setIfInBounds 3 b)).mapFields (·.setIfInBounds 4 (.bool true))) ∧ ((oe.mapFields (·.setIfInBounds 3 b)).mapFields (·.setIfInBounds 4 (.bool true))).data = .fields ((vs.setIfInBounds 3 b).setIfInBounds 4 (.bool true)) := by
  have hd3 := Obj.data_mapFields hd (·.setIfInBounds 3 b)
  have ha3 := Heap.get?_update_self (Obj.mapFields (·.setIfInBounds 3 b)) ha (Obj.isFreed_of_fields hd3)
  have hd4 := Obj.data_mapFields hd3 (·.setIfInBounds 4 (.bool true))
  exact ⟨Heap.get?_update_self (Obj.mapFields (·.setIfInBounds 4 (.bool true))) ha3 (Obj.isFreed_of_fields hd4), hd4⟩
theorem fromV_other {v : Value} {h : Heap} {a b : Addr} (hne : a ≠ b) : (fromV v h a).get? b = h.get? b := by
  unfold fromV
  rw [Heap.get?_update_other _ _ hne, Heap.get?_update_other _ _ hne]
theorem isType_fields {M : Model} {A : Around} {E : Value → Shared → Prop} {s : Shared} {a : Addr} {oe : Obj} {vs : Array Value} {Q : Bool → Shared → Prop} (ha : s.heap.get? a = some oe) (hd : oe.data = .fields vs) (q : Q false s) : wpAny M A (isType (.ref a)) Q E s := by
  simp only [isType, loadHead]
  refine wpAny_bind (wpAny_loadPart ha ?_)
  rw [hd]; exact wpAny_pure q
/-- an instance of an exception class, as the cause or what is raised -/
theorem excFrom_inst {prog : Program} {w : World} {A : Around} {E : Value → Shared → Prop} {s : Shared} {a : Addr} {oe : Obj} {vs : Array Value} {cls : Value} {txt : String} {Q : Value → Shared → Prop} (ha : s.heap.get? a = some oe) (hcls : oe.cls = cls) (hd : oe.data = .fields vs)
    (L1 : PySem.W.Looks (model prog w) s.heap (isSubtype cls (.type "BaseException")) true) (q : Q (.ref a) s) : wpAny (model prog w) A (excFromValue (.ref a) txt) Q E s := by
  have LT : PySem.W.Looks (model prog w) s.heap (typeOf (.ref a)) cls := fun A Q E s k q => wpAny_typeOf_ref (k _ _ ha) (by rw [hcls]; exact q)
  have LI : PySem.W.Looks (model prog w) s.heap (isInstance (.ref a) (.type "BaseException")) true := LT.andThen L1
  unfold excFromValue isExcClass
  refine wpAny_bind (wpAny_bind (isType_fields ha hd ?_))
  simp only [Bool.false_eq_true, if_false]
  refine wpAny_pure ?_
  simp only [Bool.false_eq_true, if_false]
  refine wpAny_bind (LI.here ?_)
  simp only [if_true]
  exact wpAny_pure q
end TP

namespace TP
open PySem PySem.Spec PyProof.Rows L2 HotX
section
variable {X : Cx} {pins : List (Addr × Obj)} {σ : L2.St} {H : Hp} {s : Shared}
end
end TP

namespace TP
open PySem PySem.Spec PyProof.Rows L2 HotX
section
variable {X : Cx} {pins : List (Addr × Obj)} {σ : L2.St} {H : Hp} {s : Shared}
end
section
variable {X : Cx} {body : List Stmt} {x1 x2 n xn fld : Str} {c1 c2 : Value} {C : Addr} {i kk : Nat} {e : Expr} {ta : TA} {tb : WX → TS} {E : XK} {q1 q2 tpos p0 p1 cpos rpos pos' pos : Pos}
end
end TP

namespace MR
open PySem PySem.Spec PyProof.Rows L2 TP
section
variable {K : PySem.W.Frag} {Γ : Gm} {xa : XT} {W : WX} {n : Nat} {tl : TA} {ml : MA} {m : MF}
end
end MR

namespace TP
open PySem PySem.Spec PySem.Calls PyProof.Rows L2
theorem cxUpN {P : Program} {w : World} : StX.CXUp (L2N.CX P w) := by
  rintro outer s H s2 H2 E e s' un kp ho ⟨a, B, H', cls, d, ea, fl, hok, ub, na, os, ag, he⟩
  have ub' : UB (frs outer) H H' s.heap B s'.heap := by
    refine ⟨fun b o q n hb => ub.keep b o (kp b o q) (un.free b o q n (by simp)) hb, fun b o q hb => ub.slot b o (kp b o q) hb, fun b o q n => ub.free b o (kp b o q) (un.free b o q n (by simp)), fun b o q hb => ub.there b o (kp b o q) hb, fun b xs q => ub.tups b xs (un.tups b xs q), fun b o xs q => ub.frzs b o xs (un.frzs b o xs q), fun b ps q => ?_⟩
    obtain ⟨m1, e1⟩ := un.tbls b ps q
    obtain ⟨m2, e2⟩ := ub.tbls b _ e1
    exact ⟨m1 ++ m2, by rw [e2, Array.append_assoc]⟩
  exact ⟨a, B, H', cls, d, ea, fl, hok, ub', na, os.trans ho, ag, he⟩
structure MthRN (P : Program) (w : World) (K : PySem.W.Frag) (mg : Str → Option Value) (base : Heap) (k : Nat) (C : Addr) (m : Str) (sp : Sp) : Prop where
  ex : ∃ f : Addr, Meth K C m f ∧ FnR P w K mg base (L2N.CX P w) k f sp
section
variable {X : Cx} {k j : Nat} {C : Addr} {sp : Sp} {W : WX} {m : Str} {pos apos : Pos} {o e : Expr} {es : List Expr} {ta : TE} {t : TA}
end
theorem StmI.okN {P : Program} {w : World} {K : PySem.W.Frag} {mg : Str → Option Value} {base : Heap} {C : Addr} {m qual pv : Str} {st : Stmt} {N ps : List Str} {k : Nat} {sp : Sp} (F : StmI K C m qual st ps pv) (S : FnScope N (ps ++ [pv]) (defScope st)) {t : XK → TS}
    (hd : ∀ (f : Addr) (cdv : Value) (A : Around) (outer : List Env) (s : Shared) (H : Hp) (E : XK), Room k (A.deeper (envOfC qual (defScope st) s.heap.objs.size f cdv)) → PSs (cxOf (L2N.CX P w) P w K mg base N qual (defScope st) f cdv A outer s H E) (defBody st) (t E))
    (hb : ∀ (H : Hp) (vs : List V) (Q : VK) (E : XK), sp vs H Q E → t E { nx := fun _ H' => Q .non H', rt := Q } (L2.start N vs) H) : MthRN P w K mg base (k + 1) C m (spV ps.length sp) := by
  obtain ⟨f, oc, od, an, osl, dV, kV, doc, pm, cdv, ct, hm, lk, hcd, hbd⟩ := F.ex
  exact ⟨f, hm, fn_starG lk hcd S cxUpN hbd fun A outer s H vs Q E hr h => ⟨t E, hd f cdv A outer s H E hr, hb H vs Q E h⟩⟩
section
variable {X : Cx} {k j : Nat} {C : Addr} {sp : Sp} {W : WX} {x : Str} {ps : List Str} {p pos : Pos} {e : Expr} {es : List Expr} {to : TE} {t : TA}
end
end TP

namespace MR
open PySem PySem.Spec PyProof.Rows L2 TP
section
variable {K : PySem.W.Frag} {Γ : Gm} {xa : XT} {W : WX} {n c : Nat} {C : Addr} {ta : TE} {tl : TA} {ma : ME} {ml : MA} {m : MF}
end
end MR

namespace MR
open PySem PySem.Spec PyProof.Rows L2 TP
section
variable {K : PySem.W.Frag} {Γ : Gm} {w w' w0 : Wd}
mutual
theorem nk_rep : ∀ (n : Nat) (d : D) (v : V), plnD n d = true → Rep K Γ w d v → NkV K w.R (nkD d) v ∧ (nkD d).depth ≤ n
  | n, .non, v, _, r => by
    simp only [Rep, RepC] at r; subst r
    unfold nkD; exact ⟨.non, Nat.zero_le _⟩
  | n, .bl b, v, _, r => by
    simp only [Rep, RepC] at r; subst r
    unfold nkD; exact ⟨.bl b _ rfl, Nat.zero_le _⟩
  | n, .int i, v, _, r => by
    simp only [Rep, RepC] at r; subst r
    unfold nkD; exact ⟨.int i, Nat.zero_le _⟩
  | n, .str x, v, _, r => by
    simp only [Rep, RepC] at r; subst r
    unfold nkD; exact ⟨.str x, Nat.zero_le _⟩
  | 0, .tup ds, v, h, r => by unfold plnD at h; cases h
  | n + 1, .tup ds, v, h, r => by
    simp only [Rep, RepC] at r
    obtain ⟨a, vs, rfl, hs, _, hr⟩ := r
    unfold plnD at h
    obtain ⟨q1, q2⟩ := nks_rep n ds vs h hr
    unfold nkD
    refine ⟨.tup hs q1, ?_⟩
    simp only [NestedKey.depth]
    omega
  | 0, .lst _, _, h, _ => by unfold plnD at h; cases h
  | 0, .byt _, _, h, _ => by unfold plnD at h; cases h
  | 0, .ty _, _, h, _ => by unfold plnD at h; cases h
  | 0, .cls _, _, h, _ => by unfold plnD at h; cases h
  | 0, .dic _ _, _, h, _ => by unfold plnD at h; cases h
  | 0, .obj _ _ _, _, h, _ => by unfold plnD at h; cases h
  | 0, .ref _, _, h, _ => by unfold plnD at h; cases h
  | 0, .scr _, _, h, _ => by unfold plnD at h; cases h
  | 0, .fdc _ _, _, h, _ => by unfold plnD at h; cases h
  | 0, .ndc _ _, _, h, _ => by unfold plnD at h; cases h
  | 0, .fnc _ _, _, h, _ => by unfold plnD at h; cases h
  | n + 1, .lst _, _, h, _ => by unfold plnD at h; cases h
  | n + 1, .byt _, _, h, _ => by unfold plnD at h; cases h
  | n + 1, .ty _, _, h, _ => by unfold plnD at h; cases h
  | n + 1, .cls _, _, h, _ => by unfold plnD at h; cases h
  | n + 1, .dic _ _, _, h, _ => by unfold plnD at h; cases h
  | n + 1, .obj _ _ _, _, h, _ => by unfold plnD at h; cases h
  | n + 1, .ref _, _, h, _ => by unfold plnD at h; cases h
  | n + 1, .scr _, _, h, _ => by unfold plnD at h; cases h
  | n + 1, .fdc _ _, _, h, _ => by unfold plnD at h; cases h
  | n + 1, .ndc _ _, _, h, _ => by unfold plnD at h; cases h
  | n + 1, .fnc _ _, _, h, _ => by unfold plnD at h; cases h
theorem nks_rep : ∀ (n : Nat) (ds : List D) (vs : List V), ds.all (plnD n) = true → Reps K Γ w ds vs → NkAll K w.R (nksD ds) vs ∧ NestedKey.depthAll (nksD ds) ≤ n
  | n, [], vs, _, r => by
    obtain rfl : vs = [] := r
    unfold nksD; exact ⟨.nil, Nat.zero_le _⟩
  | n, d :: ds, vs, h, r => by
    obtain ⟨v, ws, rfl, r1, r2⟩ := reps_inv r
    rw [List.all_cons, Bool.and_eq_true] at h
    obtain ⟨a1, a2⟩ := nk_rep n d v h.1 r1
    obtain ⟨b1, b2⟩ := nks_rep n ds ws h.2 r2
    unfold nksD
    refine ⟨.cons a1 b1, ?_⟩
    simp only [NestedKey.depthAll]
    omega
end
mutual
theorem nkV_mono {H H' : Hp} (s : Same H H') : ∀ {k : NestedKey} {v : V}, NkV K H k v → NkV K H' k v
  | _, _, .non => .non
  | _, _, .bl b i e => .bl b i e
  | _, _, .int i => .int i
  | _, _, .str x => .str x
  | _, _, .tup h t => .tup (sqT_mono s h) (nkAll_mono s t)
theorem nkAll_mono {H H' : Hp} (s : Same H H') : ∀ {ks : List NestedKey} {vs : List V}, NkAll K H ks vs → NkAll K H' ks vs
  | _, _, .nil => .nil
  | _, _, .cons h t => .cons (nkV_mono s h) (nkAll_mono s t)
end
/-- what stands at a is the dict -/
structure NdAt (K : PySem.W.Frag) (Γ : Gm) (w : Wd) (ks ds : List D) (a : Addr) (L : NL) : Prop where
  ke : L.map (·.1) = nksD ks
  kr : Reps K Γ w ks (L.map fun p => .ref p.2.1)
  dr : Reps K Γ w ds (L.map (·.2.2))
  ok : ks.all keyD = true
theorem NdAt.ev {ks ds : List D} {a : Addr} {L : NL} (h : NdAt K Γ w ks ds a L) (e : Ev w w') : NdAt K Γ w' ks ds a L := ⟨h.ke, Reps.ev h.kr e, Reps.ev h.dr e, h.ok⟩
theorem nksD_len : ∀ ks : List D, (nksD ks).length = ks.length
  | [] => by unfold nksD; rfl
  | k :: ks => by unfold nksD; rw [List.length_cons, List.length_cons, nksD_len ks]
theorem NdAt.len {ks ds : List D} {a : Addr} {L : NL} (h : NdAt K Γ w ks ds a L) : L.length = ks.length ∧ ks.length = ds.length := by
  have h1 := congrArg List.length h.ke
  rw [List.length_map, nksD_len] at h1
  have h2 := reps_len h.dr
  rw [List.length_map] at h2
  exact ⟨h1, by omega⟩
variable {xa : XT} {W : WX} {te to ti tx : TE} {me mo mk mx : ME}
end
end MR

namespace TP
open PySem PySem.Spec PyProof.Rows L2
section
variable {X : Cx}
end
end TP

namespace TP
open PySem PySem.Spec PyProof.Rows L2
section
variable {X : Cx} {o : Expr} {p pos apos mpos : Pos} {td : TE}
end
end TP
namespace MR
open PySem PySem.Spec PyProof.Rows L2 TP
section
variable {K : PySem.W.Frag} {Γ : Gm} {xa : XT} {W : WX} {w w' w0 : Wd} {te to : TE} {me mo : ME}
end
end MR

namespace TP
open PySem PySem.Spec PyProof.Rows L2
/-- the def as it stands: what it binds -/
structure FkI (K : PySem.W.Frag) (mg : Str → Option Value) (x : Str) (st : Stmt) (n : Nat) (ks : List Str) (src : List Src) (dvs : List V) (ps : List Str) : Prop where
  ex : ∃ (f : Addr) (oc : Value) (od an : Option Addr) (osl : Array (Option Value)) (dV kV doc pm cdv ct : Value) (its : List Value), mg x = some (.ref f) ∧ PySem.W.keepIn K (.ref f) = true ∧
    K.lookup f = some ⟨oc, od, .func (PySem.W.fnOf x x (defArgs st) (defBody st) (defScope st) dV kV doc pm an cdv ct), osl⟩ ∧ PySem.W.codeIn K cdv x = true ∧ Vals dvs its ∧
    ∀ (M : Model) (A : Around) (E : Value → Shared → Prop) (Q : List (Str × Value) → Shared → Prop) (s : Shared) (us ws : List Value), K.In s.heap → us.length = n → ws.length = ks.length → Q (ps.zip (arr src us ws its)) s →
      wpAny M A (bindArgs (PySem.W.fnOf x x (defArgs st) (defBody st) (defScope st) dV kV doc pm an cdv ct) ⟨us, ks.zip ws⟩) Q E s
structure FkZ (P : Program) (w : World) (K : PySem.W.Frag) (mg : Str → Option Value) (base : Heap) (k : Nat) (x : Str) (n : Nat) (ks : List Str) (src : List Src) (dvs : List V) (sp : Sp) : Prop where
  ex : ∃ f : Addr, mg x = some (.ref f) ∧ PySem.W.keepIn K (.ref f) = true ∧ ∀ (A : Around) (outer : List Env) (s : Shared) (H : Hp) (us ws : List Value) (vs zs : List V) (Q : VK) (E : XK), Room k A → Env0 P w K mg base A outer s H → Vals vs us → Vals zs ws → vs.length = n → zs.length = ks.length →
    sp (arr src vs zs dvs) H Q E → codeAny (model P w) A (.call (.ref f) ⟨us, ks.zip ws⟩) (CR (L2.CX P w) outer P w H s Q E) s
theorem FkI.okZ {P : Program} {w : World} {K : PySem.W.Frag} {mg : Str → Option Value} {base : Heap} {x : Str} {st : Stmt} {n : Nat} {ks ps : List Str} {src : List Src} {dvs : List V} {N : List Str} {k : Nat} {sp : Sp} (F : FkI K mg x st n ks src dvs ps) (S : FnScope N ps (defScope st))
    (hlen : ∀ vs zs : List V, vs.length = n → zs.length = ks.length → (arr src vs zs dvs).length = ps.length) {t : XK → TS}
    (hd : ∀ (f : Addr) (cdv : Value) (A : Around) (outer : List Env) (s : Shared) (H : Hp) (E : XK), Room k (A.deeper (envOfC x (defScope st) s.heap.objs.size f cdv)) → PSs (cxOf (L2.CX P w) P w K mg base N x (defScope st) f cdv A outer s H E) (defBody st) (t E))
    (hb : ∀ (H : Hp) (vs : List V) (Q : VK) (E : XK), sp vs H Q E → t E { nx := fun _ H' => Q .non H', rt := Q } (L2.start N vs) H) : FkZ P w K mg base (k + 1) x n ks src dvs sp := by
  obtain ⟨f, oc, od, an, osl, dV, kV, doc, pm, cdv, ct, its, hm, kp, lk, hcd, hv, hbd⟩ := F.ex
  refine ⟨f, hm, kp, ?_⟩
  rintro A outer s H us ws vs zs Q E hr e0 r rz l1 l2 hq
  have lk2 := hlen vs zs l1 l2
  have rk : Vals (arr src vs zs dvs) (arr src us ws its) := arr_vals r rz hv
  have KX : K.In s.heap := e0.mod.kin.keeps fun b o e => (e0.bs b o e).1
  refine StX.run_bnd lk hcd S hr.toRoom e0 (G := fun xs H2 => xs = arr src vs zs dvs ∧ H2 = H) (fun A' Ex Q' h => ?_) ?_
  · have z := h s H (arr src vs zs dvs) (arr src us ws its) e0 .refl rfl (fun e s' q => q) rk lk2 ⟨rfl, rfl⟩
    exact hbd _ _ _ _ _ us ws KX (by rw [← r.length]; exact l1) (by rw [← rz.length]; exact l2) z
  · rintro s2 H2 xs ⟨rfl, rfl⟩ hr'
    exact ⟨t E, hd f cdv A outer s2 _ E ⟨hr', hr.gd⟩, hb _ _ Q E hq⟩
section
variable {X : Cx} {k j n : Nat} {sp : Sp} {W : WX} {x : Str} {p pos : Pos} {e : Expr} {es : List Expr} {kws : List Keyword} {t tkw : TA} {ks : List Str} {src : List Src} {dvs : List V}
end
end TP
namespace MR
open PySem PySem.Spec PyProof.Rows L2 TP
section
variable {K : PySem.W.Frag} {Γ : Gm} {xa : XT} {W : WX} {w w' w0 : Wd} {ta tb : TA} {ma mb : MA} {n k j : Nat} {m : MF}
end
end MR

namespace TP
open PySem PySem.Spec L2
section
variable {M : Model} {A : Around} {E : Value → Shared → Prop} {s : Shared}
end
end TP

namespace TP
open PySem PySem.Spec PyProof.Rows L2
end TP
namespace MR
open PySem PySem.Spec PyProof.Rows L2 TP
section
variable {K : PySem.W.Frag} {Γ : Gm} {xa : XT} {W : WX} {w w' w0 : Wd} {te : TE} {me : ME}
end
end MR

namespace TP
open PySem PySem.Spec PyProof.Rows L2
open Sem (wp)
end TP

namespace MR
open PySem PySem.Spec PyProof.Rows L2 TP
section
variable {K : PySem.W.Frag} {Γ : Gm} {xa : XT} {W : WX} {w w' w0 : Wd} {te to ti : TE} {me mo mk : ME} {ts : TS} {ms : MS}
end
end MR

namespace TP
open PySem PySem.Spec PyProof.Rows L2
variable {X : Cx}
end TP

namespace TP
open PySem PySem.Spec PyProof.Rows L2 HotX
/-- an untracked thing that was new is hidden away -/
theorem Inv_hide {X : Cx} {pins : List (Addr × Obj)} {σ : List (Option V)} {H : Hp} {s : Shared} {a : Addr} {oe : Obj} (I : Inv X ((a, oe) :: pins) σ H s) (n0 : ∀ o, X.s_0.heap.get? a = some o → a ∈ X.ex) (np : ∀ p ∈ X.pn ++ pins, p.1 ≠ a) :
    Inv X pins σ H { s with heap := PySem.W.hideAll s.heap [a] } := by
  obtain ⟨pa, pn, pl, pf, pc⟩ := I.pin (a, oe) (List.mem_append_right _ List.mem_cons_self)
  have g : ∀ {b : Addr} {o : Obj}, b ≠ a → s.heap.get? b = some o → (PySem.W.hideAll s.heap [a]).get? b = some o := fun {b o} hb e => PySem.W.hideAll_get _ e fun z => hb (List.mem_singleton.mp z)
  have cl : ∀ {c : Addr} {v : Option Value}, s.heap.IsCell c v → (PySem.W.hideAll s.heap [a]).IsCell c v := fun {c v} ⟨o, e, hd⟩ => ⟨o, g (fun z => by
    subst z
    rw [pa] at e; cases e
    exact pc v hd) e, hd⟩
  refine ⟨I.ok, I.os, I.bare, ?_, ?_, fun x c e => ?_, I.free, I.freeC, fun p hp => ?_, fun b o q => ?_, I.len⟩
  · refine ⟨fun b o e n h1 h2 => ?_, fun b o e n h1 h2 => ?_, I.base.free, fun b o e h => ?_, I.base.tups, I.base.frzs, I.base.tbls⟩
    · exact g (fun z => by subst z; exact h2 (n0 o e)) (I.base.keep b o e n h1 h2)
    · obtain ⟨sl, y⟩ := I.base.slot b o e n h1 h2
      exact ⟨sl, g (fun z => by subst z; exact h2 (n0 o e)) y⟩
    · obtain ⟨o', y⟩ := I.base.there b o e h
      exact ⟨o', g (fun z => by subst z; exact h (n0 o e)) y⟩
  · obtain ⟨m, ⟨o, es, ep, ho, r⟩, hl⟩ := I.loc
    refine ⟨m, ⟨o, es, ep, g (fun z => pl z.symm) ho, r⟩, fun i x v h1 h2 h3 => ?_⟩
    obtain ⟨u, ru, l⟩ := hl i x v h1 h2 h3
    refine ⟨u, ru, ?_⟩
    rcases l with l | ⟨hk, c, hc, hcell⟩
    · exact .inl l
    · exact .inr ⟨hk, c, hc, cl hcell⟩
  · obtain ⟨v, h⟩ := I.cell x c e
    exact ⟨v, cl h⟩
  · obtain ⟨q1, q2⟩ := I.pin p (by
      rcases List.mem_append.mp hp with z | z
      · exact List.mem_append_left _ z
      · exact List.mem_append_right _ (List.mem_cons_of_mem _ z))
    exact ⟨g (np p hp) q1, q2⟩
  · refine (I.hok b o q).stay (fun c u hc r => g (fun z => ?_) r) (fun c hc => hc) fun c xs hc => hc
    subst z
    rcases hc with hc | hc
    · subst hc; rw [pn] at q; cases q
    · rw [pn] at hc; cases hc
theorem raise_madeF {prog : Program} {w : World} {A : Around} {E : Value → Shared → Prop} {env : Env} {s : Shared} {x c : Sem Value} {Q : Flow → Shared → Prop} (hh : A.handled = none)
    (h : wpAny (model prog w) A x (fun v s₁ => ∃ a, v = .ref a ∧ wpAny (model prog w) A c (fun u s₂ => ∃ x1 oe vs cls o1 ws, u = .ref x1 ∧ s₂.heap.get? a = some oe ∧ oe.cls = cls ∧ oe.data = .fields vs ∧ vs[1]? = some .none ∧ 4 < vs.size ∧
      s₂.heap.get? x1 = some o1 ∧ o1.data = .fields ws ∧ PySem.W.Looks (model prog w) s₂.heap (isSubtype o1.cls (.type "BaseException")) true ∧
      PySem.W.Looks (model prog w) s₂.heap (isSubtype cls (.type "BaseException")) true ∧ PySem.W.Looks (model prog w) (fromV (.ref x1) s₂.heap a) (typeOf cls) (.type "type") ∧
      E (.ref a) { s₂ with heap := fromV (.ref x1) s₂.heap a }) E s₁) E s) :
    wpAny (model prog w) A (raiseStmt env (some x) (some c)) Q E s := by
  unfold raiseStmt
  dsimp only
  refine wpAny_bind (wpAny_mono h (fun v s₁ h₁ => ?_) fun _ _ x => x)
  obtain ⟨a, rfl, hc⟩ := h₁
  refine wpAny_bind (wpAny_holding (wpAny_mono hc (fun u s₂ h₂ => ?_) fun _ _ x => x))
  obtain ⟨x1, oe, vs, cls, o1, ws, rfl, ha, hcls, hd, h1, hi, hx1, hdx, Lx, L1, L3, hE⟩ := h₂
  have hd3 := Obj.data_mapFields hd (·.setIfInBounds 3 (Value.ref x1))
  have ha3 := Heap.get?_update_self (Obj.mapFields (·.setIfInBounds 3 (Value.ref x1))) ha (Obj.isFreed_of_fields hd3)
  obtain ⟨ha4, hd4⟩ := fromV_at (b := .ref x1) ha hd
  have s3 : 3 < vs.size := by omega
  have s4 : 4 < (vs.setIfInBounds 3 (Value.ref x1)).size := by rw [set_size]; exact hi
  have h14 : ((vs.setIfInBounds 3 (Value.ref x1)).setIfInBounds 4 (Value.bool true))[1]? = some Value.none := set_other (by decide) (set_other (by decide) h1)
  have hcls4 : ((oe.mapFields (·.setIfInBounds 3 (Value.ref x1))).mapFields (·.setIfInBounds 4 (.bool true))).cls = cls := by rw [Obj.cls_mapFields, Obj.cls_mapFields]; exact hcls
  have LT4 : PySem.W.Looks (model prog w) (fromV (.ref x1) s₂.heap a) (typeOf (.ref a)) cls := fun A Q E s k q => wpAny_typeOf_ref (k _ _ ha4) (by rw [hcls4]; exact q)
  have rest : wpAny (model prog w) A (do
      let b ← isType (.ref a)
      if b = true then do
        let e ← holding [.ref a] (raisedFor (.ref a) (.ref a))
        setFlight e none
        raiseNew e
      else do
        let e ← raisedInstance (.ref a)
        setFlight e none
        raiseNew e : Sem Flow) Q E { s₂ with heap := fromV (.ref x1) s₂.heap a } := by
    refine wpAny_bind (isType_fields (s := { s₂ with heap := fromV (.ref x1) s₂.heap a }) ha4 hd4 ?_)
    simp only [Bool.false_eq_true, if_false]
    unfold raisedInstance
    refine wpAny_bind (wpAny_bind (LT4.here (wpAny_bind (L3.here ?_))))
    rw [if_pos (beq_self_eq_true _)]
    refine wpAny_pure ?_
    unfold setFlight raiseNew
    refine wpAny_bind (wpAny_bind (wpAny_field ha4 hd4 h14 ?_))
    rw [if_neg (by decide)]
    refine wpAny_pure (wpAny_bind (wpAny_handled ?_))
    rw [hh]
    first
      | exact wpAny_throw hE
      | exact wpAny_bind (wpAny_pure (wpAny_throw hE))
  refine wpAny_bind (wpAny_pure ?_)
  dsimp only
  refine wpAny_bind (wpAny_holding (excFrom_inst ha hcls hd L1 ?_))
  have hb : ¬ ((Value.ref x1 == Value.none) = true) := by simp
  rw [if_neg hb]
  refine wpAny_bind (wpAny_holding (excFrom_inst hx1 rfl hdx Lx ?_))
  refine wpAny_bind (wpAny_setField ha hd s3 (wpAny_bind (wpAny_setField ha3 hd3 s4 ?_)))
  exact rest

/-- an expression that makes an exception with its six fields -/
def PMk6 (X : Cx) (e : Expr) (t : L2.St → Hp → XK → Prop) : Prop :=
  ∀ (pins : List (Addr × Obj)) (s : Shared) (σ : L2.St) (H : Hp) (Q : XK), Inv X pins σ H s → t σ H Q → wpAny (model X.prog X.w) X.A (eval e X.env) (fun u s' => L2.MkP X pins σ Q u s' ∧ L2H.Six u s') X.xe s
section
variable {X : Cx} {e : Expr} {es : List Expr} {ta : TA} {p pos : Pos}
theorem pmk6_oex {CX : CXT} {x : Str} {C fI : Addr} {k : Nat} {fd : FuncData} {ps : List Str} {sp : Sp} (T : OexC X.K C) (iC : PySem.W.findIn X.K (.ref C) "__init__" = some (some (.ref fI))) (tI : PySem.W.typeIn X.K (.ref fI) = some (.type "function"))
    (F1 : L2.FnOk X.prog X.w X.K X.mg X.base CX k fI fd ps sp) (hr : L2.Room (k + 1) X.A) (hb : Binds X.K fd ps []) (hx : Passes CX X (fun _ _ _ => False)) (hg : Gl X x) (hm : X.mg x = some (.ref C)) (ha : PA X (e :: es) ta)
    (hdb : (x == ("__debug__" : Str)) = false := by decide) (he : starEach (e :: es) X.env = (false, eval e X.env) :: starEach es X.env := by rfl) (hpl : (backTo pos (starEach es X.env)).any (·.1) = false := by rfl) :
    PMk6 X (.Call (.Name x p) (e :: es) [] pos) (tMkO C sp [] ta) := by
  intro pins s σ H Q I h
  obtain ⟨nm, q, N, bs, bm, sn, sub, ab, col, dd, k0, k1, k2, k3, k5, hC, hbm⟩ := T.cls
  refine wpAny_Call_Name_kw (ld_glob I hg hm ?_ hdb)
  refine PySem.W.callWith_K (h₀ := X.base) I.ok.mod.kin T.kC (thn (ha.run pos pins s σ H _ I h) fun us s1 ⟨vs, H1, I1, r1, hz, q1⟩ => ⟨I1.kIn, ?_⟩) he hpl
  show wpAny _ _ (call (.ref C) us) _ _ _
  obtain ⟨hp, g, dr, tk, os⟩ := s1
  have hq := q1 (hp.objs.size + 1) (I1.hok.fresh (Nat.le_succ _))
  rw [List.append_nil] at hq
  have I2 : Inv X pins σ (upd H1 (hp.objs.size + 1) (exo (hp.objs.size + 1) C none)) ⟨(hp.push (PySem.W.kdv_tup us)).push (PySem.HandSPX.excO C hp.objs.size), g, dr, tk, os⟩ :=
    I1.laid (t' := tk) (a := hp.objs.size + 1) (o := exo (hp.objs.size + 1) C none) (h' := (hp.push (PySem.W.kdv_tup us)).push (PySem.HandSPX.excO C hp.objs.size)) (fun b o y => Heap.get?_push_of_some _ (Heap.get?_push_of_some _ y)) (Nat.le_succ _) (exo_ok (by heap_get))
  have r2 : Vals (V.ref (hp.objs.size + 1) :: vs) (Value.ref (hp.objs.size + 1) :: us) := .cons rfl r1
  have hl : (Value.ref (hp.objs.size + 1) :: us ++ []).length = ps.length := by
    rw [List.append_nil, ← r2.length, F1.len _ _ _ _ hq]
  have hus : us.length ≤ sizeLine := by
    rw [← Paired.length r1, sizeLine_eq]
    omega
  have b2 := hb _ (Value.ref (hp.objs.size + 1) :: us) I2.kIn hl
  rw [List.append_nil] at b2
  refine wpAny_call (PySem.HandSPX.call_own F.excBase_ValueError (fun Y => PySem.HandSPX.refsVE_contains Y bm hbm) (I1.kIn _ _ hC) (PySem.W.looks_findIn I1.kIn iC) (fun self => PySem.W.bind_fn I1.kIn self tI) hus
    (codeAny_mono (F1.run _ X.stack _ _ ⟨Value.ref (hp.objs.size + 1) :: us, []⟩ (Value.ref (hp.objs.size + 1) :: us) _ _ (fun _ _ _ => False) (hr.make C us []) (I2.env0.make C us []) b2 r2 hq) fun r s' hq' => ?_))
  cases r with
  | error er => exact hx pins σ _ _ er s' I2 hq'
  | ok fl =>
    cases fl with
    | ret u =>
      obtain ⟨v, H2, os2, bare2, un2, hok2, rv, ev, d, fs, ea, ed, hd1, q2⟩ := hq'
      subst ev
      obtain ⟨h2, g2, d2, t2, os'⟩ := s'
      obtain ⟨t0, G, J, kG, ge, hoe, na⟩ := mk_end0 (d2 := d2) (t2 := t2) I1 (Nat.le_succ _) (fun b o y => Heap.get?_push_of_some _ (Heap.get?_push_of_some _ y)) un2 hok2 os2 bare2 ea ed hd1
      refine ⟨rv, ⟨hp.objs.size + 1, _, _, ⟨G, g2, d2, t2, os'⟩, _, .ref C, some d, rfl, J, kG, ge, hoe, ⟨rfl, rfl⟩, rfl, rfl, na, rfl, bare2, raises_own T.exC T.tyC, q2⟩, fun a oe vs ea2 hg2 hd2 => ?_⟩
      cases ea2
      have hg3 : h2.get? (hp.objs.size + 1) = some oe := hg2
      rw [hoe] at hg3
      cases hg3
      cases hd2
      show (4 : Nat) < 6
      decide
    | next => exact False.elim hq'
    | brk => exact False.elim hq'
    | cont => exact False.elim hq'
end
/-- raise x(e) from y(f) -/
def tRaiseF (C : Addr) (fld fld2 : Str) (W : WX) (ta tb : TA) : TS := fun _ σ H => ta σ H fun vs H1 => ∃ v, vs = [v] ∧ ∀ d, H1 d = none → tb σ (upd H1 d (.xd [(fld, v)])) fun us H2 => ∃ u, us = [u] ∧ ∀ d2, H2 d2 = none → W (.ref C) (some d) σ (upd H2 d2 (.xd [(fld2, u)]))
theorem mko_of {C : Addr} {fld : Str} {ta : TA} {σ : L2.St} {H : Hp} {Q : XK} (h : tWeak ta σ H fun vs H1 => ∃ v, vs = [v] ∧ ∀ d, H1 d = none → Q (.ref C) (some d) (upd H1 d (.xd [(fld, v)]))) : tMkO C (sp_exi C fld) [] (tWeak ta) σ H Q := by
  obtain ⟨Q', q1, k⟩ := h
  exact ⟨Q', q1, fun vs H1 z => by
    obtain ⟨v, ev, q⟩ := k vs H1 z
    subst ev
    refine ⟨by show 1 ≤ 1000; decide, fun a na => ⟨a, v, rfl, upd_same, fun dx nd ne => ⟨rfl, dx, [(fld, v)], upd_same, by rw [upd_ne ne, upd_same], ?_, ?_⟩⟩⟩
    · rw [upd_ne ne] at nd; exact nd
    · rw [del_eq na ne]
      rw [upd_ne ne] at nd
      exact q dx nd⟩
section
variable {X : Cx} {W : WX} {x y fld fld2 : Str} {C C2 : Addr} {j : Nat} {e f : Expr} {ta tb : TA} {p p1 pp pp1 pos : Pos}
theorem ps_raiseMF (hc : X.calm = true) (tk : L2.Takes X W) (T : ErrI X.prog X.K X.mg x C fld) (T2 : ErrK X.prog X.K X.mg y C2 fld2) (hr : Room j X.A) (hk : 3 ≤ j) (ha : PA X [e] ta) (hb : PA X [f] tb) (hg : Gl X x := by rfl) (hg2 : Gl X y := by rfl)
    (hdb : (x == ("__debug__" : Str)) = false := by decide) (hdb2 : (y == ("__debug__" : Str)) = false := by decide) (he : starEach [e] X.env = (false, eval e X.env) :: starEach [] X.env := by rfl) (hpl : (backTo p1 (starEach [] X.env)).any (·.1) = false := by rfl)
    (he2 : starEach [f] X.env = (false, eval f X.env) :: starEach [] X.env := by rfl) (hpl2 : (backTo pp1 (starEach [] X.env)).any (·.1) = false := by rfl) :
    PS X (.Raise (some (.Call (.Name x p) [e] [] p1)) (some (.Call (.Name y pp) [f] [] pp1)) pos) (tRaiseF C fld fld2 W ta tb) := by
  obtain ⟨fI, fd, qual, T1, iC, tI, b⟩ := T.ex
  obtain ⟨fI2, fd2, qual2, T12, iC2, tI2, b2⟩ := T2.ex
  have Z := pmk6_oex (p := p) (pos := p1) T1.oex iC tI (exc_init_ok (w := X.w) (base := X.base) T1) (hr.mono hk).toRoom b (fun _ _ _ _ _ _ _ h => h.elim) hg T.at_ (pa_weak ha) hdb he hpl
  have Z2 := pmk_oexK (p := pp) (pos := pp1) T12.oex iC2 tI2 (exc_init_okK (w := X.w) (base := X.base) T12) (hr.mono hk).toRoom b2 .nil (fun _ _ _ _ _ _ _ h => h.elim) hg2 T2.at_ (pa_weak hb) hdb2 he2 hpl2
  refine ⟨fun pins s σ H D I h => ?_⟩
  have h1 : tMkO C (sp_exi C fld) [] (tWeak ta) σ H fun cls d H' => tMkO C2 (sp_exi C2 fld2) [] (tWeak tb) σ H' fun _ _ H2 => W cls d σ H2 := mko_of ⟨_, h, fun vs H1 ⟨v, ev, q⟩ => ⟨v, ev, fun d hd => mko_of ⟨_, q d hd, fun us H2 z => z⟩⟩⟩
  show wpAny _ _ (do standAt pos; raiseStmt X.env (some (do let v ← eval (.Call (.Name x p) [e] [] p1) X.env; standAt pos; pure v)) (some (do let v ← eval (.Call (.Name y pp) [f] [] pp1) X.env; standAt pos; pure v))) _ _ _
  refine wpAny_bind (wpAny_standAt (raise_madeF (I.ok.hd hc) (wpAny_bind (wpAny_mono (Z pins s σ H _ I h1) (fun u s1 hu => wpAny_bind (wpAny_standAt (wpAny_pure ?_))) fun _ _ x => x))))
  obtain ⟨⟨a, oe, vs, sI, H', cls, d, rfl, J, k, hne, hga, hz, hd, hv1, na, os, ag, r, q⟩, h5⟩ := hu
  have h4 : 4 < vs.size := h5 a oe vs rfl hga hd
  have aL : a ≠ X.env.locals := fun z => by
    obtain ⟨m, ⟨o, es, ep, ho, _⟩, _⟩ := J.loc
    rw [← z, hne] at ho; cases ho
  have aF : a ∉ X.fs := fun z => by
    obtain ⟨_, o', e', _⟩ := J.funs.mem z
    rw [hne] at e'; cases e'
  have n0 : ∀ o, X.s_0.heap.get? a = some o → a ∈ X.ex := fun o ho => Classical.byContradiction fun z => by
    obtain ⟨o', e'⟩ := J.base.there a o ho z
    rw [hne] at e'; cases e'
  have np : ∀ p ∈ X.pn ++ pins, p.1 ≠ a := fun p hp z => by
    have := (J.pin p hp).1
    rw [z, hne] at this; cases this
  have J1 : Inv X ((a, oe) :: pins) σ H' s1 := by
    have Z := J.kept (t' := sI.toks) k
    refine ⟨Z.ok, os.trans J.os, ag, Z.base, Z.loc, Z.cell, Z.free, Z.freeC, fun p hp => ?_, Z.hok, Z.len⟩
    rcases List.mem_append.mp hp with z | z
    · exact Z.pin p (List.mem_append_left _ z)
    · rcases List.mem_cons.mp z with z | z
      · subst z
        exact ⟨hga, na, aL, aF, fun v y => by have y' : oe.data = .cell v := y; rw [hd] at y'; cases y'⟩
      · exact Z.pin p (List.mem_append_right _ z)
  refine ⟨a, rfl, wpAny_bind (wpAny_mono (Z2 ((a, oe) :: pins) s1 σ H' _ J1 q) (fun u s2 hu2 => wpAny_bind (wpAny_standAt (wpAny_pure ?_))) fun _ _ x => x)⟩
  obtain ⟨b, oe2, ws, sJ, H2, cls2, d2, rfl, J2, k2, hne2, hgb, hz2, hd2, hv2, na2, os2, ag2, r2, q2⟩ := hu2
  obtain ⟨pa, pn, _⟩ := J2.pin (a, oe) (List.mem_append_right _ List.mem_cons_self)
  have J3 := Inv_hide J2 n0 np
  have k4 : ∀ c u, (PySem.W.hideAll sJ.heap [a]).get? c = some u → (fromV (.ref b) s2.heap a).get? c = some u := fun c u z => by
    have nac : a ≠ c := fun y => by
      rw [← y, PySem.W.hideAll_none _ List.mem_cons_self] at z
      cases z
    rw [fromV_other nac]
    exact k2 c u (PySem.W.of_hideAll _ z)
  obtain ⟨r1, _⟩ := r (model X.prog X.w) s2.heap (J2.kIn.keeps k2)
  obtain ⟨_, r3⟩ := r (model X.prog X.w) (fromV (.ref b) s2.heap a) (J3.kIn.keeps k4)
  obtain ⟨r4, _⟩ := r2 (model X.prog X.w) s2.heap (J2.kIn.keeps k2)
  have ga2 := k2 _ _ pa
  obtain ⟨ha4, hd4⟩ := fromV_at (b := .ref b) ga2 hd
  have h14 : ((vs.setIfInBounds 3 (Value.ref b)).setIfInBounds 4 (Value.bool true))[1]? = some Value.none := set_other (by decide) (set_other (by decide) hv1)
  refine ⟨b, oe, vs, cls, oe2, ws, rfl, ga2, hz.1, hd, hv1, h4, hgb, hd2, by rw [hz2.1]; exact r4, r1, r3, tk _ _ (XE.new J3 k4 (PySem.W.hideAll_none _ List.mem_cons_self) ha4
    ⟨by rw [Obj.cls_mapFields, Obj.cls_mapFields]; exact hz.1, by rw [HandSPX.dict_mapFields, HandSPX.dict_mapFields]; exact hz.2⟩ hd4 h14 pn os2 ag2 q2)⟩
end
end TP

namespace TP
open PySem PySem.Spec PyProof.Rows L2
section
variable {X : Cx} {e o : Expr} {es : List Expr} {te to : TE} {t : TA}
theorem pa_consI {op : Operator} {r : R2} {c : Str} {k : Nat} {p c0 : Pos} (ho : OpR X (binaryOp op) r) (ha : PE X e te) (hr : PAT X es t)
    (hs : starEach (.BinOp e op (.Constant (.str c) k c0) p :: es) X.env = (false, eval (.BinOp e op (.Constant (.str c) k c0) p) X.env) :: starEach es X.env := by rfl) : PA X (.BinOp e op (.Constant (.str c) k c0) p :: es) (tCons (tOp r te (tC (.str c))) t) := by
  refine ⟨fun pos pins s σ H Q I h => ?_⟩
  rw [hs]
  show wpAny _ _ (spliced ((false, eval (.BinOp e op (.Constant (.str c) k c0) p) X.env) :: backTo pos (starEach es X.env))) _ _ s
  refine Calls.spliced_cons (wpAny_BinOp (thn (ha.run pins s σ H _ I h) fun v s1 ⟨x, H1, I1, r1, q1⟩ => Calls.Constant_str ?_))
  refine wpAny_mono (PySem.wpAny_toks_of (n := 1) (by show 1 ≤ s1.toks + 1; omega) (ho pins { s1 with toks := s1.toks + 1 } σ H1 x (.str c) v (.str c s1.toks) _ (I1.tok _) r1 ⟨_, rfl⟩ q1)) (fun u s2 hh => ?_) fun _ _ z => z.2
  obtain ⟨hk, y, H2, I2, r2, q2⟩ := hh
  exact thn (hr pos pins s2 σ H2 _ hk I2 q2) fun us s3 ⟨xs, H3, I3, r3, q3⟩ => ⟨y :: xs, H3, I3, .cons r2 r3, q3⟩
theorem pet_of (h : PE X e te) : PET X e te := CwR.PET.of h
end
end TP

namespace MR
open PySem PySem.Spec PyProof.Rows L2 TP
section
variable {K : PySem.W.Frag} {Γ : Gm} {xa : XT} {W : WX} {w w' w0 : Wd} {te to ti : TE} {me mo mk : ME} {ts : TS} {ms : MS} {tl tb : TA} {ml mb : MA}
def mRaiseF (c : Nat) (f : Str) (ml mb : MA) : MS := fun δ S => bndS (ml δ S) δ fun ds S => bndS (mb δ S) δ fun us S => match us with
  | [_] => .ok (.ex c [f] ds δ) S
  | _ => .bad
theorem sim_raiseF {c : Nat} {C : Addr} {f g : Str} (hc : Γ c = C) (h : SimA K Γ xa W 1 tl ml) (hb : SimA K Γ xa W 1 tb mb) : SimS K Γ xa W (tRaiseF C f g W tl tb) (mRaiseF c f ml mb) := ⟨fun w0 w σ δ Dn o e n p =>
  h.run w0 w σ δ _ o e n ((post_len (p.then e n (ok := fun ds w1 => PostS K Γ xa W (bndS (mb δ w1.S) δ fun us S => match us with | [_] => .ok (.ex c [f] ds δ) S | _ => .bad) w0 w1 Dn) fun ds w1 o1 e1 p1 => p1)).mono (fun ds w1 o1 e1 q vs rs => by
    obtain ⟨⟨S, hS⟩, p1⟩ := q
    have hl := h.len _ _ _ _ hS
    match ds, hl with
    | [d], _ =>
      obtain ⟨v, rfl, r⟩ := reps1 rs
      refine ⟨v, rfl, fun dd hdd => ?_⟩
      have ev := ev_frz (o := .xd [(f, v)]) o1 hdd
      have o2 := ok_frz (o := .xd [(f, v)]) o1 hdd
      have e2 := (e.trans e1).trans ev
      have n2 := (n.ev e1).ev ev
      have p2 : PostS K Γ xa W (bndS (mb δ (wFrz w1 dd (.xd [(f, v)])).S) δ fun us S => match us with | [_] => .ok (.ex c [f] [d] δ) S | _ => .bad) w0 (wFrz w1 dd (.xd [(f, v)])) Dn := p1.gr ev.gr
      have r2 : (wFrz w1 dd (.xd [(f, v)])).R dd = some (.xd [(f, v)]) := upd_same
      have r3 := Rep.ev r ev
      show tb σ (wFrz w1 dd (.xd [(f, v)])).H _
      generalize wFrz w1 dd (.xd [(f, v)]) = w2 at o2 e2 n2 p2 r2 r3
      refine hb.run w0 w2 σ δ _ o2 e2 n2 ((p2.then e2 n2 (ok := fun us w3 => PostS K Γ xa W (match us with | [_] => .ok (.ex c [f] [d] δ) w3.S | _ => .bad) w0 w3 Dn ∧ Ev w2 w3) fun us w3 o3 e3 p3 => ⟨p3, e3⟩).mono (fun us w3 o3 e3 q3 vs3 rs3 => ?_) fun _ _ _ _ _ _ x => x)
      obtain ⟨p3, _⟩ := q3
      match us, p3 with
      | [u], p3 =>
        obtain ⟨v3, rfl, _⟩ := reps1 rs3
        refine ⟨v3, rfl, fun d2 hd2 => ?_⟩
        have ev3 := ev_frz (o := .xd [(g, v3)]) o3 hd2
        have := p3 (wFrz w3 d2 (.xd [(g, v3)])) σ rfl (ok_frz o3 hd2) ((e2.trans e3).trans ev3) ev3.gr ((n2.ev e3).ev ev3) (some dd) (.inl ⟨dd, [v], rfl, (e3.trans ev3).rr _ _ r2, rfl, reps_cons (Rep.ev r3 (e3.trans ev3)) reps_nil⟩)
        rw [hc] at this
        exact this
      | [], p3 => exact False.elim p3
      | _ :: _ :: _, p3 => exact False.elim p3) fun _ _ _ _ _ _ x => x)⟩
def rUp : V → List V → Hp → VK → Prop := fun x xs H Q => ∃ a, x = .str a ∧ xs = [] ∧ a.length ≤ 5592405 ∧ Q (.str (Txt.upper a)) H
def mUpper (mo : ME) : ME := fun δ S => bnd (mo δ S) fun x S => match x with
  | .str a => if a.length ≤ 5592405 then .ok (.str (Txt.upper a)) S else .bad
  | _ => .bad
theorem sim_upper (ho : SimE K Γ xa W to mo) : SimE K Γ xa W (tM0 rUp to) (mUpper mo) := ⟨fun w0 w σ δ Q o e n p =>
  ho.run w0 w σ δ _ o e n (p.then fun x w1 o1 e1 p1 v r1 => by
    split at p1
    · rename_i a
      split at p1
      · rename_i h
        exact ⟨⟨a, rep_str r1⟩, a, rep_str r1, rfl, h, Post.now p1 o1 _ (by simp only [Rep, RepC])⟩
      · exact False.elim p1
    · exact False.elim p1)⟩
def mRepl (mo : ME) (y z : Str) : ME := fun δ S => bnd (mo δ S) fun x S => match x with
  | .str a => if a.length + (a.length + 1) * z.length ≤ 16777216 then .ok (.str (Txt.replace a y z)) S else .bad
  | _ => .bad
theorem sim_repl {y z : Str} (ho : SimE K Γ xa W to mo) : SimE K Γ xa W (CwR.tReplC to y z) (mRepl mo y z) := ⟨fun w0 w σ δ Q o e n p =>
  ho.run w0 w σ δ _ o e n (p.then fun x w1 o1 e1 p1 v r1 => by
    split at p1
    · rename_i a
      split at p1
      · rename_i h
        exact ⟨a, rep_str r1, h, Post.now p1 o1 _ (by simp only [Rep, RepC])⟩
      · exact False.elim p1
    · exact False.elim p1)⟩
def fIsiD (N : Nat) : MF := fun ds S => match ds with
  | [d, .ty T] => match dicOf S d with
    | some _ => if askedK.contains T then .ok (.bl (isK "dict" T)) S else .bad
    | none => fIsi N [d, .ty T] S
  | ds => fIsi N ds S
theorem cm_isiD {N : Nat} (F : ClsF K Γ N) : CallM K Γ (rIsi K) (fIsiD N) := ⟨fun w ds vs Q ex o r p => by
  unfold fIsiD at p
  split at p
  · rename_i d T
    split at p
    · rename_i kd hd
      obtain ⟨v, u, rfl, r1, r2⟩ := pks2 r
      have eu : u = .ty T := by
        rcases r2 with r2 | ⟨_, _, _, r2⟩
        · simpa only [Rep, RepC] using r2
        · exact False.elim r2.at_
      subst eu
      split at p
      · rename_i hT
        have hT' : T ∈ askedK := List.contains_iff_mem.mp hT
        obtain ⟨a, vs, rfl, hr, _, _⟩ := dicOf_ok (ks := kd.1) (ds := kd.2) o r1 hd
        have ty : TyX K w.H (.ref a) (.type "dict") := by
          rcases hr with h | ⟨ob, h⟩
          · exact .base (.dK h)
          · exact .fDict h
        exact ⟨.ref a, _, _, _, _, rfl, .ty T, ty, kit_ty2 (kit_all "dict" (by decide) T hT'), Post.now p o _ (by simp only [Rep, RepC])⟩
      · exact False.elim p
    · exact (cm_isi F).run w _ vs Q ex o r p
  · exact (cm_isi F).run w _ vs Q ex o r p⟩
end
end MR

namespace MR
open PySem PySem.Spec L2 TP
abbrev XQ := Nat → List Str → List D → Sto → Prop
abbrev noXQ : XQ := fun _ _ _ _ => False
def Rn {α : Type} (o : Out α) (Q : α → Sto → Prop) (X : XQ) : Prop := match o with
  | .ok a S => Q a S
  | .ex c ns ds S => X c ns ds S
  | .bad => False
structure EndP where
  nx : Env → Sto → Prop
  rt : D → Sto → Prop
  bk : Env → Sto → Prop := fun _ _ => False
  ct : Env → Sto → Prop := fun _ _ => False
  ex : Nat → List Str → List D → Env → Sto → Prop := fun _ _ _ _ _ => False
def RunS (o : Out Fl) (P : EndP) : Prop := match o with
  | .ok (.nx δ) S => P.nx δ S
  | .ok (.rt d) S => P.rt d S
  | .ok (.bk δ) S => P.bk δ S
  | .ok (.ct δ) S => P.ct δ S
  | .ok (.ex c ns ds δ) S => P.ex c ns ds δ S
  | _ => False
section
variable {α β : Type} {S S1 : Sto} {δ : Env} {Q : D → Sto → Prop} {X : XQ} {P : EndP} {d e x y : D} {i j : Int} {me ma mb mc mo mk : ME} {mt mu : MT} {ml : MA} {ms mus : MS} {QA : List D → Sto → Prop} {QB : Bool → Sto → Prop} {m : MF}
theorem run_eq {o : Out α} {a : α} {Q : α → Sto → Prop} (h : o = .ok a S) (q : Q a S) : Rn o Q X := by rw [h]; exact q
theorem run_ok {o : Out α} {Q : α → Sto → Prop} (h : Rn o Q noXQ) : ∃ a S, o = .ok a S ∧ Q a S := by
  cases o with
  | ok a S => exact ⟨a, S, rfl, h⟩
  | ex => exact False.elim h
  | bad => exact False.elim h
theorem rn_eq {α : Type} {o : Out α} {a : α} {S : Sto} (h : Rn o (fun d S' => d = a ∧ S' = S) noXQ) : o = .ok a S := by
  obtain ⟨d, S', e, rfl, rfl⟩ := run_ok h
  exact e
theorem run_mono {o : Out α} {Q Q' : α → Sto → Prop} {X X' : XQ} (h : Rn o Q X) (f : ∀ a S, Q a S → Q' a S) (g : ∀ c ns ds S, X c ns ds S → X' c ns ds S) : Rn o Q' X' := by
  cases o with
  | ok a S => exact f _ _ h
  | ex => exact g _ _ _ _ h
  | bad => exact h
theorem run_bnd' {o : Out α} {f : α → Sto → Out β} {Q : β → Sto → Prop} (h : Rn o (fun a S => Rn (f a S) Q X) X) : Rn (bnd o f) Q X := by
  cases o with
  | ok a S => exact h
  | ex => exact h
  | bad => exact h
theorem runS_bnd {o : Out α} {f : α → Sto → Out Fl} (h : Rn o (fun a S => RunS (f a S) P) fun c ns ds S => P.ex c ns ds δ S) : RunS (bndS o δ f) P := by
  cases o with
  | ok a S => exact h
  | ex => exact h
  | bad => exact h
theorem g_c (q : Q d S) : Rn (mC d δ S) Q X := q
theorem g_var {i : Nat} (h : δ[i]? = some (.val d)) (q : Q d S) : Rn (mVar i δ S) Q X := by unfold mVar; rw [h]; exact q
theorem g_peekO {i : Nat} {b : Bool} (h : δ[i]? = some (.own b d)) (q : Q d S) : Rn (mPeek i δ S) Q X := by unfold mPeek; rw [h]; exact q
theorem g_peekV {i : Nat} (h : δ[i]? = some (.val d)) (q : Q d S) : Rn (mPeek i δ S) Q X := by unfold mPeek; rw [h]; exact q
theorem g_op {op : D → D → Sto → Out D} (q : Rn (ma δ S) (fun x S => Rn (mb δ S) (fun y S => Rn (op x y S) Q X) X) X) : Rn (mOp op ma mb δ S) Q X := run_bnd' (run_mono q (fun _ _ h => run_bnd' h) fun _ _ _ _ z => z)
theorem g_un {op : D → Sto → Out D} (q : Rn (ma δ S) (fun x S => Rn (op x S) Q X) X) : Rn (mUn op ma δ S) Q X := run_bnd' q
theorem g_nil (q : QA [] S) : Rn (mNil δ S) QA X := q
theorem g_cons (q : Rn (me δ S) (fun x S => Rn (ml δ S) (fun xs S => QA (x :: xs) S) X) X) : Rn (mCons me ml δ S) QA X := run_bnd' (run_mono q (fun _ _ h => run_bnd' h) fun _ _ _ _ z => z)
theorem g_tup (q : Rn (ml δ S) (fun ds S => Q (.tup ds) S) X) : Rn (mTup ml δ S) Q X := run_bnd' q
theorem g_lst (q : Rn (ml δ S) (fun ds S => Q (.lst ds) S) X) : Rn (mLst ml δ S) Q X := run_bnd' q
theorem g_cb {f : MF} (q : Rn (ml δ S) (fun ds S => Rn (f ds S) Q X) X) : Rn (mCB f ml δ S) Q X := run_bnd' q
theorem g_call {n : Nat} (q : Rn (ml δ S) (fun ds S => Rn (m ds S) Q X) X) : Rn (mCall n m ml δ S) Q X := run_bnd' q
theorem g_test (q : Rn (me δ S) (fun d S => ∃ b, d = .bl b ∧ QB b S) X) : Rn (mTest me δ S) QB X := run_bnd' (run_mono q (fun d S ⟨b, e, h⟩ => by subst e; exact h) fun _ _ _ _ z => z)
theorem g_tru (q : Rn (me δ S) (fun d S => ∃ b, truD S d = some b ∧ QB b S) X) : Rn (mTru me δ S) QB X := run_bnd' (run_mono q (fun d S ⟨b, e, h⟩ => by rw [e]; exact h) fun _ _ _ _ z => z)
theorem g_bl {QB : Bool → Prop} {b : Bool} (q : QB b) : ∃ c, D.bl b = .bl c ∧ QB c := ⟨b, rfl, q⟩
theorem g_yes (q : QB true S) : Rn (mYes δ S) QB X := q
theorem g_and (q : Rn (mt δ S) (fun b S => if b = true then Rn (mu δ S) QB X else QB false S) X) : Rn (mAnd mt mu δ S) QB X := run_bnd' (run_mono q (fun b S h => by cases b <;> first | exact h | (simpa using h) | (exact (by simpa using h : _))) fun _ _ _ _ z => z)
theorem g_or (q : Rn (mt δ S) (fun b S => if b = true then QB true S else Rn (mu δ S) QB X) X) : Rn (mOr mt mu δ S) QB X := run_bnd' (run_mono q (fun b S h => by cases b <;> first | exact h | (simpa using h) | (exact (by simpa using h : _))) fun _ _ _ _ z => z)
theorem g_not (q : Rn (mt δ S) (fun b S => QB (!b) S) X) : Rn (mNot mt δ S) QB X := run_bnd' q
theorem g_andV (q : Rn (ma δ S) (fun d S => ∃ b, d = .bl b ∧ if b = true then Rn (mb δ S) Q X else Q (.bl false) S) X) : Rn (mAndV ma mb δ S) Q X := run_bnd' (run_mono q (fun d S ⟨b, e, h⟩ => by subst e; cases b <;> first | exact h | (simpa using h)) fun _ _ _ _ z => z)
theorem g_orV (q : Rn (ma δ S) (fun d S => ∃ b, d = .bl b ∧ if b = true then Q (.bl true) S else Rn (mb δ S) Q X) X) : Rn (mOrV ma mb δ S) Q X := run_bnd' (run_mono q (fun d S ⟨b, e, h⟩ => by subst e; cases b <;> first | exact h | (simpa using h)) fun _ _ _ _ z => z)
theorem g_notV (q : Rn (ma δ S) (fun d S => ∃ b, d = .bl b ∧ Q (.bl (!b)) S) X) : Rn (mNotV ma δ S) Q X := run_bnd' (run_mono q (fun d S ⟨b, e, h⟩ => by subst e; exact h) fun _ _ _ _ z => z)
theorem g_if (q : Rn (mt δ S) (fun b S => if b = true then Rn (ma δ S) Q X else Rn (mb δ S) Q X) X) : Rn (mIf mt ma mb δ S) Q X := run_bnd' (run_mono q (fun b S h => by cases b <;> first | exact h | (simpa using h) | (exact (by simpa using h : _))) fun _ _ _ _ z => z)
theorem g_chain {op op' : D → D → Sto → Out D} (q : Rn (ma δ S) (fun x S => Rn (mb δ S) (fun y S => Rn (op x y S) (fun z S => ∃ k, z = .bl k ∧ if k = true then Rn (mc δ S) (fun u S => Rn (op' y u S) Q X) X else Q (.bl false) S) X) X) X) : Rn (mChain op op' ma mb mc δ S) Q X := by
  refine run_bnd' (run_mono q (fun x S h => run_bnd' (run_mono h (fun y S h => run_bnd' (run_mono h ?_ fun _ _ _ _ z => z)) fun _ _ _ _ z => z)) fun _ _ _ _ z => z)
  rintro z S ⟨k, rfl, h⟩
  cases k with
  | false => exact h
  | true => exact run_bnd' h
theorem g_T {A B : Prop} (q : A) : if true = true then A else B := q
theorem g_F {A B : Prop} (q : B) : if false = true then A else B := by simpa using q
theorem g_nF {A B : Prop} (q : A) : if (!false) = true then A else B := q
theorem g_nT {A B : Prop} (q : B) : if (!true) = true then A else B := by simpa using q
theorem g_less (q : Q (.bl (decide (i < j))) S) : Rn (opLess (.int i) (.int j) S) Q X := q
theorem g_leq (q : Q (.bl (decide (i ≤ j))) S) : Rn (opLeq (.int i) (.int j) S) Q X := q
theorem g_more (q : Q (.bl (decide (j < i))) S) : Rn (opMore (.int i) (.int j) S) Q X := q
theorem g_geq (q : Q (.bl (decide (j ≤ i))) S) : Rn (opGeq (.int i) (.int j) S) Q X := q
theorem g_minus (q : Q (.int (i - j)) S) : Rn (opMinus (.int i) (.int j) S) Q X := q
theorem g_plusI (q : Q (.int (i + j)) S) : Rn (opPlus (.int i) (.int j) S) Q X := q
theorem g_rest (h : 0 < j) (q : Q (.int (i % j)) S) : Rn (opRest (.int i) (.int j) S) Q X := by
  show Rn (if decide (0 < j) = true then _ else _) Q X
  rw [if_pos (decide_eq_true h)]; exact q
theorem g_quot (h : 0 < j) (h2 : j < 18446744073709551616) (q : Q (.int (i / j)) S) : Rn (opQuot (.int i) (.int j) S) Q X := by
  show Rn (if (decide (0 < j) && decide (j < 18446744073709551616)) = true then _ else _) Q X
  rw [if_pos (by rw [decide_eq_true h, decide_eq_true h2]; rfl)]; exact q
theorem g_times (h : mulOk i j = true) (q : Q (.int (i * j)) S) : Rn (opTimes (.int i) (.int j) S) Q X := by
  show Rn (if mulOk i j = true then _ else _) Q X
  rw [if_pos h]; exact q
theorem mul_r (h : -18446744073709551616 < j) (h2 : j < 18446744073709551616) : mulOk i j = true := by unfold mulOk; rw [decide_eq_true h, decide_eq_true h2]; simp
theorem g_eqI (q : Q (.bl (decide (i = j))) S) : Rn (opEq false (.int i) (.int j) S) Q X := by
  show Q (.bl (xor false (decide (i = j)))) S
  rw [Bool.false_xor]; exact q
theorem g_neI (q : Q (.bl (!decide (i = j))) S) : Rn (opEq true (.int i) (.int j) S) Q X := by
  show Q (.bl (xor true (decide (i = j)))) S
  rw [Bool.true_xor]; exact q
theorem g_eqB {a b : Bool} (q : Q (.bl (a == b)) S) : Rn (opEq false (.bl a) (.bl b) S) Q X := by
  show Q (.bl (xor false (a == b))) S
  rw [Bool.false_xor]; exact q
theorem g_neB {a b : Bool} (q : Q (.bl (!(a == b))) S) : Rn (opEq true (.bl a) (.bl b) S) Q X := by
  show Q (.bl (xor true (a == b))) S
  rw [Bool.true_xor]; exact q
theorem g_eqS {a b : Str} (q : Q (.bl (decide (a = b))) S) : Rn (opEq false (.str a) (.str b) S) Q X := by
  show Q (.bl (xor false (decide (a = b)))) S
  rw [Bool.false_xor]; exact q
theorem g_neS {a b : Str} (q : Q (.bl (!decide (a = b))) S) : Rn (opEq true (.str a) (.str b) S) Q X := by
  show Q (.bl (xor true (decide (a = b)))) S
  rw [Bool.true_xor]; exact q
theorem g_isN (q : Q (.bl (isNon d)) S) : Rn (opIs d .non S) Q X := q
theorem g_isntN (q : Q (.bl (!isNon d)) S) : Rn (opIsnt d .non S) Q X := q
theorem g_ix {ds : List D} (h : listOf S d = some ds) (h2 : atI ds i = some e) (q : Q e S) : Rn (opIx d (.int i) S) Q X := by
  unfold opIx; simp only [h, h2]; exact q
theorem g_in {neg : Bool} {ds : List D} (h : seqOf S d = some ds) (h1 : flatD x = true) (h2 : ds.all flatD = true) (q : Q (.bl (xor neg (ds.any fun d => eqF d x))) S) : Rn (opIn neg x d S) Q X := by
  unfold opIn; simp only [h, h1, h2]; exact q
theorem g_int (q : Q (.int i) S) : Rn (fInt [.int i] S) Q X := q
theorem g_len {ds : List D} (h : flatD d = false) (hb : ∀ b, d ≠ .byt b) (h2 : seqOf S d = some ds) (q : Q (.int ds.length) S) : Rn (fLen [d] S) Q X := by
  have z : fLen [d] S = .ok (.int ds.length) S := by
    unfold fLen
    split
    · rename_i hx; cases hx; cases h
    · rename_i hx; cases hx; exact absurd rfl (hb _)
    · rename_i hx; cases hx; rw [h2]
    · rename_i hx; exact absurd rfl (hx d)
  rw [z]; exact q
theorem g_lenL {ds : List D} (q : Q (.int ds.length) S) : Rn (fLen [.lst ds] S) Q X := q
theorem g_lenT {ds : List D} (q : Q (.int ds.length) S) : Rn (fLen [.tup ds] S) Q X := q
theorem g_tupleL {ds : List D} (q : Q (.tup ds) S) : Rn (fTuple [.lst ds] S) Q X := q
theorem g_tupleT {ds : List D} (q : Q (.tup ds) S) : Rn (fTuple [.tup ds] S) Q X := q
theorem g_all {bs : List Bool} (h : (listOf S d).bind blsOf = some bs) (q : Q (.bl (bs.all id)) S) : Rn (fAll [d] S) Q X := by unfold fAll; simp only [h]; exact q
theorem blsOf_map : ∀ bs : List Bool, blsOf (bs.map D.bl) = some bs
  | [] => rfl
  | b :: bs => by show (blsOf (bs.map D.bl)).map (b :: ·) = _; rw [blsOf_map bs]; rfl
theorem g_catL {xs ys : List D} (h : xs.length + ys.length ≤ 16777216) (q : Q (.lst (xs ++ ys)) S) : Rn (opPlus (.lst xs) (.lst ys) S) Q X := by
  show Rn (if xs.length + ys.length ≤ 16777216 then _ else _) Q X
  rw [if_pos h]; exact q
theorem g_getF {c : Nat} {f : Str} (q : Rn (ma δ S) (fun d S => ∃ ns ds x, objOf S d = some (c, ns, ds) ∧ (ns.zip ds).lookup f = some x ∧ Q x S) X) : Rn (mGetF c f ma δ S) Q X :=
  run_bnd' (run_mono q (fun d S ⟨ns, ds, x, h1, h2, h3⟩ => by rw [h1]; dsimp only; rw [if_pos rfl, h2]; exact h3) fun _ _ _ _ z => z)
theorem g_meth {c n : Nat} {f : Str} (q : Rn (ma δ S) (fun d S => ∃ ns ds, objOf S d = some (c, ns, ds) ∧ (ns.zip ds).lookup f = none ∧ Rn (ml δ S) (fun as S => Rn (m (d :: as) S) Q X) X) X) : Rn (mMeth c f n m ma ml δ S) Q X :=
  run_bnd' (run_mono q (fun d S ⟨ns, ds, h1, h2, h3⟩ => by rw [h1]; dsimp only; rw [if_pos ⟨rfl, h2⟩]; exact run_bnd' h3) fun _ _ _ _ z => z)
theorem g_cmpO {N c : Nat} {neg : Bool} (q : Rn (ma δ S) (fun x S => Rn (mb δ S) (fun y S => isObj S c x = true ∧ c < N ∧ (∃ k, kindD S y = some k ∧ ∀ c', k = .c c' → c' < N) ∧ Rn (m [x, y] S) (fun r S => ∃ b, r = .bl b ∧ Q (.bl (xor neg b)) S) X) X) X) : Rn (mCmpO N c neg m ma mb δ S) Q X :=
  run_bnd' (run_mono q (fun x S h => run_bnd' (run_mono h (fun y S ⟨h1, h2, ⟨k, h3, h4⟩, h5⟩ => by
    rw [h1, decide_eq_true h2]
    simp only [Bool.and_self, if_true]
    rw [h3]
    have fin : Rn (bnd (m [x, y] S) (negB neg)) Q X := run_bnd' (run_mono h5 (fun r S ⟨b, e, q⟩ => by subst e; exact q) fun _ _ _ _ z => z)
    cases k with
    | t n => exact fin
    | c c' => dsimp only; rw [if_pos (h4 c' rfl)]; exact fin) fun _ _ _ _ z => z)) fun _ _ _ _ z => z)
theorem g_binO {c : Nat} (q : Rn (ma δ S) (fun x S => Rn (mb δ S) (fun y S => isObj S c x = true ∧ isObj S c y = true ∧ Rn (m [x, y] S) Q X) X) X) : Rn (mBinO c m ma mb δ S) Q X :=
  run_bnd' (run_mono q (fun x S h => run_bnd' (run_mono h (fun y S ⟨h1, h2, h3⟩ => by rw [h1, h2]; exact h3) fun _ _ _ _ z => z)) fun _ _ _ _ z => z)
theorem g_binI {c : Nat} (q : Rn (ma δ S) (fun x S => Rn (mb δ S) (fun y S => isObj S c x = true ∧ (∃ i, y = .int i) ∧ Rn (m [x, y] S) Q X) X) X) : Rn (mBinI c m ma mb δ S) Q X :=
  run_bnd' (run_mono q (fun x S h => run_bnd' (run_mono h (fun y S ⟨h1, ⟨i, e⟩, h3⟩ => by subst e; dsimp only; rw [h1]; exact h3) fun _ _ _ _ z => z)) fun _ _ _ _ z => z)
theorem g_binR {c : Nat} (q : Rn (ma δ S) (fun x S => Rn (mb δ S) (fun y S => isObj S c y = true ∧ (∃ i, x = .int i) ∧ Rn (m [y, x] S) Q X) X) X) : Rn (mBinR c m ma mb δ S) Q X :=
  run_bnd' (run_mono q (fun x S h => run_bnd' (run_mono h (fun y S ⟨h1, ⟨i, e⟩, h3⟩ => by subst e; dsimp only; rw [h1]; exact h3) fun _ _ _ _ z => z)) fun _ _ _ _ z => z)
theorem g_lenZ {c : Nat} (q : Rn (ml δ S) (fun ds S => ∃ x, ds = [x] ∧ isObj S c x = true ∧ Rn (m [x] S) (fun r S => ∃ i : Int, r = .int i ∧ (0 ≤ i ∧ i < 9223372036854775808) ∧ Q (.int i) S) X) X) : Rn (mLenZ c m ml δ S) Q X :=
  run_bnd' (run_mono q (fun ds S ⟨x, e, h1, h3⟩ => by subst e; dsimp only; rw [h1]; exact run_bnd' (run_mono h3 (fun r S ⟨i, e, h, q⟩ => by subst e; dsimp only; rw [if_pos h]; exact q) fun _ _ _ _ z => z)) fun _ _ _ _ z => z)
theorem g_inZ {c : Nat} {neg : Bool} (q : Rn (ma δ S) (fun x S => Rn (mb δ S) (fun y S => isObj S c y = true ∧ Rn (m [y, x] S) (fun r S => ∃ b, r = .bl b ∧ Q (.bl (xor neg b)) S) X) X) X) : Rn (mInZ c neg m ma mb δ S) Q X :=
  run_bnd' (run_mono q (fun x S h => run_bnd' (run_mono h (fun y S ⟨h1, h5⟩ => by rw [h1]; exact run_bnd' (run_mono h5 (fun r S ⟨b, e, q⟩ => by subst e; exact q) fun _ _ _ _ z => z)) fun _ _ _ _ z => z)) fun _ _ _ _ z => z)
theorem g_newV {c k : Nat} {mI : MI} (q : Rn (ml δ S) (fun ds S => k ≤ ds.length ∧ ds.length ≤ 16777216 ∧ Rn (mI (ds.take k ++ [.tup (ds.drop k)]) S) (fun p S => Q (.obj c p.1 p.2) S) X) X) : Rn (mNewV c k mI ml δ S) Q X :=
  run_bnd' (run_mono q (fun ds S ⟨h1, h2, h3⟩ => by rw [if_pos ⟨h1, h2⟩]; exact run_bnd' h3) fun _ _ _ _ z => z)
theorem g_new {c : Nat} {mI : MI} {dds : List D} (q : Rn (ml δ S) (fun ds S => Rn (mI (ds ++ dds) S) (fun p S => Q (.obj c p.1 p.2) S) X) X) : Rn (mNew c mI ml dds δ S) Q X :=
  run_bnd' (run_mono q (fun ds S h3 => run_bnd' h3) fun _ _ _ _ z => z)
theorem g_starT (q : Rn (me δ S) (fun d S => ∃ xs, (d = .tup xs ∨ d = .lst xs) ∧ Rn (ml δ S) (fun ys S => QA (xs ++ ys) S) X) X) : Rn (mStar me ml δ S) QA X :=
  run_bnd' (run_mono q (fun d S ⟨xs, e, h⟩ => by
    rcases e with e | e
    · subst e; exact run_bnd' h
    · subst e; exact run_bnd' h) fun _ _ _ _ z => z)
theorem g_sortSet (q : Rn (me δ S) (fun d S => ∃ ns, (listOf S d).bind intsOf = some ns ∧ ns.length < 63 ∧ Q (.lst ((sortU ns).map D.int)) S) X) : Rn (mSortSet me δ S) Q X :=
  run_bnd' (run_mono q (fun d S ⟨ns, h1, h2, h3⟩ => by rw [h1]; dsimp only; rw [if_pos h2]; exact h3) fun _ _ _ _ z => z)
theorem g_cell (q : Rn (me δ S) (fun d S => Q (.ref S.length) (S ++ [some d])) X) : Rn (mCell me δ S) Q X := run_bnd' q
theorem g_iList (q : Rn (me δ S) (fun d S => ∃ ds, (d = .lst ds ∨ ∃ is, d = .scr is ∧ ds = is.map D.int) ∧ QA ds S) X) : Rn (mIList me δ S) QA X :=
  run_bnd' (run_mono q (fun d S ⟨ds, e, h⟩ => by
    rcases e with e | ⟨is, e, e2⟩
    · subst e; exact h
    · subst e; subst e2; exact h) fun _ _ _ _ z => z)
theorem g_iTup (q : Rn (me δ S) (fun d S => ∃ ds, d = .tup ds ∧ QA ds S) X) : Rn (mITup me δ S) QA X := run_bnd' (run_mono q (fun d S ⟨ds, e, h⟩ => by subst e; exact h) fun _ _ _ _ z => z)
theorem g_rng1 (q : Rn (ml δ S) (fun ds S => ∃ j : Int, ds = [.int j] ∧ 0 ≤ j ∧ j ≤ 16777216 ∧ QA (rngD 0 j.toNat) S) X) : Rn (mIRng1 ml δ S) QA X :=
  run_bnd' (run_mono q (fun d S ⟨j, e, h0, h1, h⟩ => by subst e; dsimp only; rw [if_pos ⟨h1, by omega⟩]; exact h) fun _ _ _ _ z => z)
theorem g_rng2 (q : Rn (ml δ S) (fun ds S => ∃ i j : Int, ds = [.int i, .int j] ∧ -1000 ≤ i ∧ i ≤ 1000000 ∧ -1000 ≤ j ∧ j ≤ 1000000 ∧ QA (rngD i (j - i).toNat) S) X) : Rn (mIRng2 ml δ S) QA X :=
  run_bnd' (run_mono q (fun d S ⟨i, j, e, h0, h1, h2, h3, h⟩ => by subst e; dsimp only; rw [if_pos ⟨⟨by omega, by omega⟩, ⟨by omega, by omega⟩, by omega⟩]; exact h) fun _ _ _ _ z => z)
theorem g_lc {mi : MA} {mg : MG} {vs : List Nat} (q : Rn (mi δ S) (fun ds S => Rn (mLcL mg mt me (mwipe δ vs) ds S) (fun ys S => Q (.lst ys) S) X) X) : Rn (mLc mi mg mt me vs δ S) Q X := run_bnd' (run_mono q (fun _ _ h => run_bnd' h) fun _ _ _ _ z => z)
theorem s_next (q : P.nx δ S) : RunS (mNext δ S) P := q
theorem s_seq (q : RunS (ms δ S) { P with nx := fun δ S => RunS (mus δ S) P }) : RunS (mSeq ms mus δ S) P := by
  unfold mSeq onNx
  cases z : ms δ S with
  | ok f S' => rw [z] at q; cases f <;> exact q
  | ex => rw [z] at q; exact q
  | bad => rw [z] at q; exact q
theorem s_asg {mg : MG} (q : Rn (me δ S) (fun d S => ∃ δ', mg d δ = some δ' ∧ P.nx δ' S) fun c ns ds S => P.ex c ns ds δ S) : RunS (mAsg me mg δ S) P := runS_bnd (run_mono q (fun d S ⟨δ', e, h⟩ => by rw [e]; exact h) fun _ _ _ _ z => z)
theorem s_asgN {i : Nat} (q : Rn (me δ S) (fun d S => P.nx (δ.set i (.val d)) S) fun c ns ds S => P.ex c ns ds δ S) : RunS (mAsg me (mGName i) δ S) P := runS_bnd (run_mono q (fun d S h => h) fun _ _ _ _ z => z)
theorem s_asgO {i : Nat} (q : Rn (me δ S) (fun d S => P.nx (δ.set i (.own false d)) S) fun c ns ds S => P.ex c ns ds δ S) : RunS (mAsgO me i δ S) P := runS_bnd q
theorem s_asgC {i : Nat} (q : Rn (me δ S) (fun d S => P.nx (δ.set i (.val (.ref S.length))) (S ++ [some d])) fun c ns ds S => P.ex c ns ds δ S) : RunS (mAsgC me i δ S) P := runS_bnd q
theorem s_ret (q : Rn (me δ S) (fun d S => P.rt d S) fun c ns ds S => P.ex c ns ds δ S) : RunS (mRet me δ S) P := runS_bnd q
theorem s_drop (q : Rn (me δ S) (fun _ S => P.nx δ S) fun c ns ds S => P.ex c ns ds δ S) : RunS (mDrop me δ S) P := runS_bnd q
theorem s_ifS (q : Rn (mt δ S) (fun b S => if b = true then RunS (ms δ S) P else RunS (mus δ S) P) fun c ns ds S => P.ex c ns ds δ S) : RunS (mIfS mt ms mus δ S) P := runS_bnd (run_mono q (fun b S h => by cases b <;> first | exact h | (simpa using h) | (exact (by simpa using h : _))) fun _ _ _ _ z => z)
theorem s_fixO {i : Nat} {b : Bool} (h : δ[i]? = some (.own b d)) (q : RunS (ms (δ.set i (.val d)) S) P) : RunS (mFix i ms δ S) P := by unfold mFix; rw [h]; exact q
theorem s_fixV {i : Nat} (h : δ[i]? = some (.val d)) (q : RunS (ms δ S) P) : RunS (mFix i ms δ S) P := by unfold mFix; rw [h]; exact q
theorem s_append {i : Nat} {b : Bool} {ds : List D} (h : δ[i]? = some (.own b (.lst ds))) (q : Rn (me δ S) (fun d S => ds.length < 16777216 ∧ P.nx (δ.set i (.own b (.lst (ds ++ [d])))) S) fun c ns ds S => P.ex c ns ds δ S) : RunS (mAppend i me δ S) P := by
  unfold mAppend; rw [h]
  exact runS_bnd (run_mono q (fun d S ⟨hl, h⟩ => by rw [if_pos hl]; exact h) fun _ _ _ _ z => z)
theorem s_aug {i : Nat} {f : Int → Int → Int} {x : Int} (h : δ[i]? = some (.val (.int x))) (q : Rn (me δ S) (fun d S => ∃ y, d = .int y ∧ P.nx (δ.set i (.val (.int (f x y)))) S) fun c ns ds S => P.ex c ns ds δ S) : RunS (mAug i f me δ S) P := by
  unfold mAug; rw [h]
  exact runS_bnd (run_mono q (fun d S ⟨y, e, h⟩ => by subst e; exact h) fun _ _ _ _ z => z)
theorem s_setI {i : Nat} {b : Bool} {ds : List D} (h : δ[i]? = some (.own b (.lst ds))) (q : Rn (me δ S) (fun d S => Rn (mk δ S) (fun k S => ∃ (kk : Int) (j : Nat), k = .int kk ∧ ixN ds.length kk = some j ∧ P.nx (δ.set i (.own b (.lst (ds.set j d)))) S) fun c ns ds S => P.ex c ns ds δ S) fun c ns ds S => P.ex c ns ds δ S) : RunS (mSetI i me mk δ S) P := by
  unfold mSetI; rw [h]
  exact runS_bnd (run_mono q (fun d S h => runS_bnd (run_mono h (fun k S ⟨kk, j, e, h1, h2⟩ => by subst e; dsimp only; rw [h1]; exact h2) fun _ _ _ _ z => z)) fun _ _ _ _ z => z)
theorem s_setFO {i c : Nat} {f : Str} {b : Bool} {ns : List Str} {ds : List D} {mv : ME} (h : δ[i]? = some (.own b (.obj c ns ds))) (hl : ns.length < 1000) (q : Rn (mv δ S) (fun d S => P.nx (δ.set i (.own b (.obj c (putN f ns) (putX f d ns ds)))) S) fun c ns ds S => P.ex c ns ds δ S) : RunS (mSetFO i c f mv δ S) P := by
  unfold mSetFO; rw [h]
  exact runS_bnd (run_mono q (fun d S h => by rw [if_pos ⟨rfl, hl⟩]; exact h) fun _ _ _ _ z => z)
theorem s_raise {c : Nat} {f : Str} (q : Rn (ml δ S) (fun ds S => P.ex c [f] ds δ S) fun c ns ds S => P.ex c ns ds δ S) : RunS (mRaise c f ml δ S) P := runS_bnd q
theorem s_for {mi : MA} {mg : MG} (q : Rn (mi δ S) (fun ds S => RunS (mLoop mg ms ds δ S) P) fun c ns ds S => P.ex c ns ds δ S) : RunS (mFor mi mg ms δ S) P := runS_bnd q
theorem s_loop {mg : MG} (I : List D → Env → Sto → Prop) (hs : ∀ d ds δ S, I (d :: ds) δ S → ∃ δ1, mg d δ = some δ1 ∧ RunS (ms δ1 S) { P with nx := I ds, ct := I ds, bk := P.nx }) (he : ∀ δ S, I [] δ S → P.nx δ S) :
    ∀ (ds : List D) (δ : Env) (S : Sto), I ds δ S → RunS (mLoop mg ms ds δ S) P
  | [], δ, S, h => he δ S h
  | d :: ds, δ, S, h => by
    obtain ⟨δ1, h1, h2⟩ := hs d ds δ S h
    unfold mLoop
    rw [h1]
    dsimp only
    cases z : ms δ1 S with
    | ok f S' =>
      rw [z] at h2
      cases f with
      | nx δ2 => exact s_loop I hs he ds δ2 S' h2
      | ct δ2 => exact s_loop I hs he ds δ2 S' h2
      | bk δ2 => exact h2
      | rt v => exact h2
      | ex => exact h2
    | ex => rw [z] at h2; exact h2
    | bad => rw [z] at h2; exact h2
/-- a loop over lo, lo + 1, .. -/
theorem s_loopR {mg : MG} {lo : Int} {n : Nat} (I : Nat → Env → Sto → Prop) (h0 : I 0 δ S) (hs : ∀ k, k < n → ∀ δ S, I k δ S → ∃ δ1, mg (.int (lo + k)) δ = some δ1 ∧ RunS (ms δ1 S) { P with nx := I (k + 1), ct := I (k + 1), bk := P.nx }) (he : ∀ δ S, I n δ S → P.nx δ S) :
    RunS (mLoop mg ms (rngD lo n) δ S) P := by
  refine s_loop (fun ds δ S => ∃ k, k ≤ n ∧ ds = (rngD lo n).drop k ∧ I k δ S) ?_ ?_ _ _ _ ⟨0, Nat.zero_le _, rfl, h0⟩
  · rintro d ds δ S ⟨k, hk, e, h⟩
    have el : (rngD lo n).length = n := by simp [rngD]
    have hlt : k < n := by
      rcases Nat.lt_or_ge k n with z | z
      · exact z
      · rw [List.drop_of_length_le (by omega)] at e; cases e
    rw [List.drop_eq_getElem_cons (by omega)] at e
    obtain ⟨e1, e2⟩ := List.cons.inj e
    have ed : d = .int (lo + k) := by rw [e1]; simp [rngD]
    subst ed
    obtain ⟨δ1, h1, h2⟩ := hs k hlt δ S h
    refine ⟨δ1, h1, ?_⟩
    have imp : ∀ δ S, I (k + 1) δ S → ∃ j, j ≤ n ∧ ds = (rngD lo n).drop j ∧ I j δ S := fun δ S z => ⟨k + 1, hlt, e2, z⟩
    cases zz : ms δ1 S with
    | ok f S' => rw [zz] at h2; cases f <;> first | exact imp _ _ h2 | exact h2
    | ex => rw [zz] at h2; exact h2
    | bad => rw [zz] at h2; exact h2
  · rintro δ S ⟨k, hk, e, h⟩
    have el : (rngD lo n).length = n := by simp [rngD]
    have : k = n := by
      rcases Nat.lt_or_ge k n with z | z
      · rw [List.drop_eq_getElem_cons (by omega)] at e; cases e
      · omega
    subst this
    exact he δ S h
theorem s_run {N : Nat} {ds : List D} (q : RunS (ms (startD N ds) S) { nx := fun _ S => Q .non S, rt := Q, ex := fun c ns es _ S => X c ns es S }) : Rn (mRun N ms ds S) Q X := by
  unfold mRun fin
  cases z : ms (startD N ds) S with
  | ok f S' => rw [z] at q; cases f <;> exact q
  | ex => rw [z] at q; exact q
  | bad => rw [z] at q; exact q
theorem s_runI {N c : Nat} {ds : List D} {QI : List Str × List D → Sto → Prop} (q : RunS (ms (.own true (.obj c [] []) :: startD (N - 1) ds) S) { nx := fun δ S => ∃ ns fs r, δ = .own true (.obj c ns fs) :: r ∧ QI (ns, fs) S, rt := fun _ _ => False, ex := fun c ns es _ S => X c ns es S }) : Rn (mRunI N c ms ds S) QI X := by
  unfold mRunI finI
  cases z : ms (.own true (.obj c [] []) :: startD (N - 1) ds) S with
  | ok f S' =>
    rw [z] at q
    cases f with
    | nx δ => obtain ⟨ns, fs, r, e, q⟩ := q; subst e; dsimp only; rw [if_pos rfl]; exact q
    | ex => exact q
    | rt => exact q
    | bk => exact q
    | ct => exact q
  | ex => rw [z] at q; exact q
  | bad => rw [z] at q; exact q
end
theorem s_setC {S : Sto} {δ : Env} {P : EndP} {me mo mk : ME} {m : Nat} {ds : List D} (q : Rn (me δ S) (fun d S => Rn (mo δ S) (fun x S => Rn (mk δ S) (fun k S => ∃ (kk : Int) (j : Nat), x = .ref m ∧ k = .int kk ∧ S[m]? = some (some (.lst ds)) ∧ ixN ds.length kk = some j ∧ P.nx δ (S.set m (some (.lst (ds.set j d)))))
    fun c ns ds S => P.ex c ns ds δ S) fun c ns ds S => P.ex c ns ds δ S) fun c ns ds S => P.ex c ns ds δ S) : RunS (mSetC me mo mk δ S) P :=
  runS_bnd (run_mono q (fun d S h => runS_bnd (run_mono h (fun x S h => runS_bnd (run_mono h (fun k S ⟨kk, j, e1, e2, h1, h2, h3⟩ => by
    subst e1; subst e2; dsimp only; rw [h1]; dsimp only; rw [h2]; exact h3) fun _ _ _ _ z => z)) fun _ _ _ _ z => z)) fun _ _ _ _ z => z)
end MR

namespace MR
open PySem PySem.Spec L2 TP
section
variable {S S1 : Sto} {δ : Env} {Q : D → Sto → Prop} {X : XQ} {P : EndP} {d e x y : D} {me ma mb mc : ME} {mt : MT} {ml : MA} {ms : MS} {QA : List D → Sto → Prop} {m : MF}
theorem g_enum (q : Rn (ml δ S) (fun ds S => ∃ es, ds = [.lst es] ∧ QA (enumD es) S) X) : Rn (mIEnum ml δ S) QA X :=
  run_bnd' (run_mono q (fun ds S ⟨es, e, h⟩ => by subst e; exact h) fun _ _ _ _ z => z)
theorem g_eqL {c : Nat} (q : Rn (ma δ S) (fun x S => Rn (mb δ S) (fun y S => ∃ xs ys, x = .lst xs ∧ y = .lst ys ∧ EqAll c m S xs ys ∧ Q (.bl true) S) X) X) : Rn (mEqL c m ma mb δ S) Q X :=
  run_bnd' (run_mono q (fun x S h => run_bnd' (run_mono h (fun y S ⟨xs, ys, e1, e2, h1, h2⟩ => by subst e1; subst e2; dsimp only; rw [if_pos h1]; exact h2) fun _ _ _ _ z => z)) fun _ _ _ _ z => z)
end
end MR

namespace MR
open PySem PySem.Spec L2 TP
section
variable {S S1 : Sto} {δ δ1 : Env} {Q : D → Sto → Prop} {X : XQ} {P : EndP} {d e x y : D} {me ma mb mc : ME} {mt : MT} {ml mk : MA} {ms mh : MS} {QA : List D → Sto → Prop} {m : MF}
theorem s_tryN {tab : List (Nat × Bool)} {i : Nat} (h : ms δ S = .ok (.nx δ1) S1) (q : P.nx δ1 S1) : RunS (mTry ms tab i mh δ S) P := by
  unfold mTry; rw [h]; exact q
theorem s_tryX {tab : List (Nat × Bool)} {i c : Nat} {ns : List Str} {ds : List D} (h : ms δ S = .ok (.ex c ns ds δ1) S1) (ht : tab.lookup c = some true) (q : RunS (offX i (mh ((unX δ1).set i (.exn c ns ds)) S1)) P) : RunS (mTry ms tab i mh δ S) P := by
  unfold mTry; rw [h]; dsimp only; rw [ht]; exact q
end
end MR

namespace MR
open PySem PySem.Spec L2 TP
section
variable {S : Sto} {δ : Env} {P : EndP} {me ma mb mo mk : ME} {mt : MT} {ms : MS} {mg : MG} {ml : MA} {m : MF} {Q : D → Sto → Prop} {X : XQ} {mi : MN} {nx : Nxt} {QN : Nxt → Sto → Prop}
end
end MR

namespace MR
open PySem PySem.Spec L2 TP
theorem run_to {α : Type} {o : Out α} {a : α} {S' : Sto} {Q : α → Sto → Prop} {X : XQ} (h : o = .ok a S') (q : Q a S') : Rn o Q X := by rw [h]; exact q
theorem run_ok' {α : Type} {o : Out α} {a : α} {S' : Sto} (h : Rn o (fun r T => r = a ∧ T = S') noXQ) : o = .ok a S' := by
  obtain ⟨a, T, e, rfl, rfl⟩ := run_ok h
  exact e
section
variable {S : Sto} {δ : Env} {P : EndP} {me ma mb mo mk : ME} {m : MF} {Q : D → Sto → Prop} {X : XQ} {d e x y : D} {neg : Bool}
end
end MR

namespace MR
open PySem PySem.Spec L2 TP
section
variable {S : Sto} {δ : Env} {me ma mb : ME} {ml mk : MA} {m : MF} {Q : D → Sto → Prop} {X : XQ} {QA : List D → Sto → Prop}
end
end MR

namespace Law
open PySem PySem.Spec PyProof.Rows L2 TP
def topS (i : Nat) : Stmt := PySem.Challenge.pw_trustedpages_k73_texts_refused.main.body.getD i (.Pass ⟨0, 0, 0, 0⟩)
structure Txt (P : Program) (w : World) (K : PySem.W.Frag) (mg : Str → Option Value) (a_WRITER_WORDS : Addr) (a_CLEANER_WORDS : Addr) (a_READER_WORDS : Addr) (a_PARTS : Addr) (a_Book : Addr) (a_BadText : Addr) (a_BadBook : Addr) (a_UnknownPart : Addr) (a_PagesError : Addr) (a_CHOICES : Addr) (a_CHOICES_0 : Addr) (a_CHOICES_1 : Addr) : Prop where
  n_len : mg "len" = none
  n_isinstance : mg "isinstance" = none
  n_int : mg "int" = none
  n_bool : mg "bool" = none
  n_range : mg "range" = none
  n_list : mg "list" = none
  n_tuple : mg "tuple" = none
  n_str : mg "str" = none
  n_set : mg "set" = none
  n_all : mg "all" = none
  n_zip : mg "zip" = none
  n_enumerate : mg "enumerate" = none
  n_max : mg "max" = none
  n_min : mg "min" = none
  g_WRITER_WORDS : mg "WRITER_WORDS" = some (.ref a_WRITER_WORDS)
  g_CLEANER_WORDS : mg "CLEANER_WORDS" = some (.ref a_CLEANER_WORDS)
  g_READER_WORDS : mg "READER_WORDS" = some (.ref a_READER_WORDS)
  g_PARTS : mg "PARTS" = some (.ref a_PARTS)
  g_Book : mg "Book" = some (.ref a_Book)
  g_PagesError : mg "PagesError" = some (.ref a_PagesError)
  g_CHOICES : mg "CHOICES" = some (.ref a_CHOICES)
  g_SIGN : ∃ t, mg "SIGN" = some (.str " = " t)
  e_BadText : ErrI P K mg "BadText" a_BadText "at"
  g_BadText : mg "BadText" = some (.ref a_BadText)
  e_BadBook : ErrI P K mg "BadBook" a_BadBook "part"
  g_BadBook : mg "BadBook" = some (.ref a_BadBook)
  e_UnknownPart : ErrK P K mg "UnknownPart" a_UnknownPart "part"
  g_UnknownPart : mg "UnknownPart" = some (.ref a_UnknownPart)
  c_Book : OwnC K a_Book
  f_Book_chosen : NoAttr K a_Book "chosen"
  d_CHOICES : DTab P w K a_CHOICES [(.inr "horizon", .ref a_CHOICES_0), (.inr "follower", .ref a_CHOICES_1)]
section
variable {P : Program} {w : World} {K : PySem.W.Frag} {mg : Str → Option Value} {base : Heap} {a_WRITER_WORDS a_CLEANER_WORDS a_READER_WORDS a_PARTS a_Book a_BadText a_BadBook a_UnknownPart a_PagesError a_CHOICES a_CHOICES_0 a_CHOICES_1 : Addr}
abbrev s_words_of : Stmt := (topS 10)
abbrev N_words_of : List Str := ["value", "known", "found", "word"]
theorem sc_words_of : FnScope N_words_of ["value", "known"] (defScope s_words_of) := ⟨rfl, rfl, rfl, by decide +kernel, rfl, by decide +kernel, by decide +kernel⟩
def t_words_of (K : PySem.W.Frag) (W : WX) : TS :=
    (tSeq (tIfS (tNot (tB (tCB (rIsi K) (tCons (tVar 0) (tCons (tC (.ty "str")) tNil))))) (tRet (tC .non)) tNext)
    (tSeq (tAsg (tM1 rSplit (tVar 0) (tC (.str " "))) (gName 2))
    (tSeq (tIfS (tOr (tTest (tOp (rUnlike K) (tLenSetS K (tVar 2)) (tCB (TP.rLen K) (tCons (tVar 2) tNil)))) (tNot (tB (tCB (rAll K) (tCons (tLc (iList K (tVar 2)) (gName 3) tYes (tOp (rIn K false) (tVar 3) (tVar 1)) [3]) tNil))))) (tRet (tC .non)) tNext)
    (tRet (tVar 2)))))
theorem d_words_of (T : Txt P w K mg a_WRITER_WORDS a_CLEANER_WORDS a_READER_WORDS a_PARTS a_Book a_BadText a_BadBook a_UnknownPart a_PagesError a_CHOICES a_CHOICES_0 a_CHOICES_1) (f : Addr) (cdv : Value) (A : Around) (outer : List Env) (s : Shared) (H : Hp) (E : XK) (hr : TP.Room 0 (A.deeper (envOfC "words_of" (defScope s_words_of) s.heap.objs.size f cdv))) :
    PSs (cxOf (L2.CX P w) P w K mg base N_words_of "words_of" (defScope s_words_of) f cdv A outer s H E) (defBody s_words_of) (t_words_of K (wOut E)) :=
  have nd := sc_words_of.nd
  have tk : Takes (cxOf (L2.CX P w) P w K mg base N_words_of "words_of" (defScope s_words_of) f cdv A outer s H E) (wOut E) := takes_of rfl rfl rfl rfl
  have po : PassesOwn (model P w) (cxOf (L2.CX P w) P w K mg base N_words_of "words_of" (defScope s_words_of) f cdv A outer s H E).A (cxOf (L2.CX P w) P w K mg base N_words_of "words_of" (defScope s_words_of) f cdv A outer s H E).env (cxOf (L2.CX P w) P w K mg base N_words_of "words_of" (defScope s_words_of) f cdv A outer s H E).xe := passes_of rfl
  (pss_cons (ps_if (pt_not (pt_val (pe_callB call_isi (by rfl) T.n_isinstance (by decide +kernel) (pa_cons (pv 0) (pa_cons (pe_bltn (by rfl) T.n_str boot_str rfl) pa_nil))))) (pss_one (ps_ret pe_non)) pss_nil)
    (pss_cons (ps_asg (pe_split (pv 0) pe_str) (pg_name (i := 2) nd rfl (Or.inl rfl)))
    (pss_cons (ps_if (PW.pt (pw_or (pt_cmpR (op_unlike hr.units) (pe_lenSetS rfl (by rfl) T.n_len (by rfl) T.n_set (pv 2)) (pe_callB TP.cr_len (by rfl) T.n_len (by decide +kernel) (pa_cons (pv 2) pa_nil)) (nomark _)) (pw_or1 (pt_not (pt_val (pe_callB (cr_all rfl) (by rfl) T.n_all (by decide +kernel) (pa_cons (pe_lc (own := [("word", 3)]) (g := (gName 3)) (tt := tYes) rfl nd (pi_list (pv 2)) (blkOk_by (own := [("word", 3)]) (N := N_words_of) (sc := defScope s_words_of) (by decide +kernel)) (fun _ _ _ _ _ => (pg_name (i := 3) nd rfl (Or.inl rfl))) (fun _ _ _ _ _ => pts_nil) (fun _ _ _ _ _ => (pe_cmpR op_in_seq (pv 3) (pv 1) (by rfl)))) pa_nil))))))) (pss_one (ps_ret pe_non)) pss_nil)
    (pss_one (ps_ret (pv 2))))))
abbrev s_all_there : Stmt := (topS 11)
abbrev N_all_there : List Str := ["found", "needed", "word"]
theorem sc_all_there : FnScope N_all_there ["found", "needed"] (defScope s_all_there) := ⟨rfl, rfl, rfl, by decide +kernel, rfl, by decide +kernel, by decide +kernel⟩
def t_all_there (K : PySem.W.Frag) (W : WX) : TS :=
    (tRet (tCB (rAll K) (tCons (tLc (iTup K (tVar 1)) (gName 2) tYes (tOp (rIn K false) (tVar 2) (tVar 0)) [2]) tNil)))
theorem d_all_there (T : Txt P w K mg a_WRITER_WORDS a_CLEANER_WORDS a_READER_WORDS a_PARTS a_Book a_BadText a_BadBook a_UnknownPart a_PagesError a_CHOICES a_CHOICES_0 a_CHOICES_1) (f : Addr) (cdv : Value) (A : Around) (outer : List Env) (s : Shared) (H : Hp) (E : XK) (hr : TP.Room 0 (A.deeper (envOfC "all_there" (defScope s_all_there) s.heap.objs.size f cdv))) :
    PSs (cxOf (L2.CX P w) P w K mg base N_all_there "all_there" (defScope s_all_there) f cdv A outer s H E) (defBody s_all_there) (t_all_there K (wOut E)) :=
  have nd := sc_all_there.nd
  have tk : Takes (cxOf (L2.CX P w) P w K mg base N_all_there "all_there" (defScope s_all_there) f cdv A outer s H E) (wOut E) := takes_of rfl rfl rfl rfl
  have po : PassesOwn (model P w) (cxOf (L2.CX P w) P w K mg base N_all_there "all_there" (defScope s_all_there) f cdv A outer s H E).A (cxOf (L2.CX P w) P w K mg base N_all_there "all_there" (defScope s_all_there) f cdv A outer s H E).env (cxOf (L2.CX P w) P w K mg base N_all_there "all_there" (defScope s_all_there) f cdv A outer s H E).xe := passes_of rfl
  (pss_one (ps_ret (pe_callB (cr_all rfl) (by rfl) T.n_all (by decide +kernel) (pa_cons (pe_lc (own := [("word", 2)]) (g := (gName 2)) (tt := tYes) rfl nd (pi_tup (pv 1)) (blkOk_by (own := [("word", 2)]) (N := N_all_there) (sc := defScope s_all_there) (by decide +kernel)) (fun _ _ _ _ _ => (pg_name (i := 2) nd rfl (Or.inl rfl))) (fun _ _ _ _ _ => pts_nil) (fun _ _ _ _ _ => (pe_cmpR op_in_seq (pv 2) (pv 0) (by rfl)))) pa_nil))))
abbrev s_is_ahead : Stmt := (topS 12)
abbrev N_is_ahead : List Str := ["found", "one", "other"]
theorem sc_is_ahead : FnScope N_is_ahead ["found", "one", "other"] (defScope s_is_ahead) := ⟨rfl, rfl, rfl, by decide +kernel, rfl, by decide +kernel, by decide +kernel⟩
def t_is_ahead (K : PySem.W.Frag) (W : WX) : TS :=
    (tRet (tOrV (tOp (rIn K true) (tVar 1) (tVar 0)) (tOrV (tOp (rIn K true) (tVar 2) (tVar 0)) (tOp rLess (tBM K "list" (rIndex K) (tVar 0) (tCons (tVar 1) tNil)) (tBM K "list" (rIndex K) (tVar 0) (tCons (tVar 2) tNil))))))
theorem d_is_ahead (T : Txt P w K mg a_WRITER_WORDS a_CLEANER_WORDS a_READER_WORDS a_PARTS a_Book a_BadText a_BadBook a_UnknownPart a_PagesError a_CHOICES a_CHOICES_0 a_CHOICES_1) (f : Addr) (cdv : Value) (A : Around) (outer : List Env) (s : Shared) (H : Hp) (E : XK) (hr : TP.Room 0 (A.deeper (envOfC "is_ahead" (defScope s_is_ahead) s.heap.objs.size f cdv))) :
    PSs (cxOf (L2.CX P w) P w K mg base N_is_ahead "is_ahead" (defScope s_is_ahead) f cdv A outer s H E) (defBody s_is_ahead) (t_is_ahead K (wOut E)) :=
  have nd := sc_is_ahead.nd
  have tk : Takes (cxOf (L2.CX P w) P w K mg base N_is_ahead "is_ahead" (defScope s_is_ahead) f cdv A outer s H E) (wOut E) := takes_of rfl rfl rfl rfl
  have po : PassesOwn (model P w) (cxOf (L2.CX P w) P w K mg base N_is_ahead "is_ahead" (defScope s_is_ahead) f cdv A outer s H E).A (cxOf (L2.CX P w) P w K mg base N_is_ahead "is_ahead" (defScope s_is_ahead) f cdv A outer s H E).env (cxOf (L2.CX P w) P w K mg base N_is_ahead "is_ahead" (defScope s_is_ahead) f cdv A outer s H E).xe := passes_of rfl
  (pss_one (ps_ret (pe_or (pe_cmpR op_notIn_seq (pv 1) (pv 0) (by rfl)) (pe_or (pe_cmpR op_notIn_seq (pv 2) (pv 0) (by rfl)) (pe_one (pe_cmpR op_less (pe_bm PySem.F.plainAttrs_list PySem.F.slot_list_index PySem.F.type_list_index mt_index (pv 0) (pa_cons (pv 1) pa_nil)) (pe_bm PySem.F.plainAttrs_list PySem.F.slot_list_index PySem.F.type_list_index mt_index (pv 0) (pa_cons (pv 2) pa_nil)) (nomark _)))))))
abbrev s_is_locked_well : Stmt := (topS 13)
abbrev N_is_locked_well : List Str := ["found"]
theorem sc_is_locked_well : FnScope N_is_locked_well ["found"] (defScope s_is_locked_well) := ⟨rfl, rfl, rfl, by decide +kernel, rfl, by decide +kernel, by decide +kernel⟩
def t_is_locked_well (K : PySem.W.Frag) (sp_is_ahead : Sp) (W : WX) : TS :=
    (tRet (tAndV (tOp (rSame K) (tOp (rIn K false) (tC (.str "lock")) (tVar 0)) (tOp (rIn K false) (tC (.str "unlock")) (tVar 0))) (tCallZ sp_is_ahead W (tCons (tVar 0) (tCons (tC (.str "lock")) (tCons (tC (.str "unlock")) tNil))))))
theorem d_is_locked_well {sp_is_ahead : Sp} (T : Txt P w K mg a_WRITER_WORDS a_CLEANER_WORDS a_READER_WORDS a_PARTS a_Book a_BadText a_BadBook a_UnknownPart a_PagesError a_CHOICES a_CHOICES_0 a_CHOICES_1) (I_is_ahead : FnZ P w K mg base 1 "is_ahead" ["found", "one", "other"] sp_is_ahead) (f : Addr) (cdv : Value) (A : Around) (outer : List Env) (s : Shared) (H : Hp) (E : XK) (hr : TP.Room 1 (A.deeper (envOfC "is_locked_well" (defScope s_is_locked_well) s.heap.objs.size f cdv))) :
    PSs (cxOf (L2.CX P w) P w K mg base N_is_locked_well "is_locked_well" (defScope s_is_locked_well) f cdv A outer s H E) (defBody s_is_locked_well) (t_is_locked_well K sp_is_ahead (wOut E)) :=
  have nd := sc_is_locked_well.nd
  have tk : Takes (cxOf (L2.CX P w) P w K mg base N_is_locked_well "is_locked_well" (defScope s_is_locked_well) f cdv A outer s H E) (wOut E) := takes_of rfl rfl rfl rfl
  have po : PassesOwn (model P w) (cxOf (L2.CX P w) P w K mg base N_is_locked_well "is_locked_well" (defScope s_is_locked_well) f cdv A outer s H E).A (cxOf (L2.CX P w) P w K mg base N_is_locked_well "is_locked_well" (defScope s_is_locked_well) f cdv A outer s H E).env (cxOf (L2.CX P w) P w K mg base N_is_locked_well "is_locked_well" (defScope s_is_locked_well) f cdv A outer s H E).xe := passes_of rfl
  (pss_one (ps_ret (pe_and (pe_cmpR (op_same hr.units) (pe_cmpR op_in_seq pe_str (pv 0) (by rfl)) (pe_cmpR op_in_seq pe_str (pv 0) (by rfl)) (nomark _)) (pe_one (pe_callZ I_is_ahead hr (by decide) tk (pa_cons (pv 0) (pa_cons pe_str (pa_cons pe_str pa_nil))))))))
abbrev s_is_writer : Stmt := (topS 14)
abbrev N_is_writer : List Str := ["value", "found"]
theorem sc_is_writer : FnScope N_is_writer ["value"] (defScope s_is_writer) := ⟨rfl, rfl, rfl, by decide +kernel, rfl, by decide +kernel, by decide +kernel⟩
def t_is_writer (K : PySem.W.Frag) (a_WRITER_WORDS : Addr) (sp_words_of : Sp) (sp_all_there : Sp) (sp_is_ahead : Sp) (sp_is_locked_well : Sp) (W : WX) : TS :=
    (tSeq (tAsg (tCallZ sp_words_of W (tCons (tVar 0) (tCons (tC (.ref a_WRITER_WORDS)) tNil))) (gName 1))
    (tSeq (tIfS (tOr (tTest (tOp rIsNo (tVar 1) (tC .non))) (tNot (tB (tCallZ sp_all_there W (tCons (tVar 1) (tCons (tTup (tCons (tC (.str "change")) (tCons (tC (.str "enter")) (tCons (tC (.str "commit")) tNil)))) tNil)))))) (tRet (tC (.bl false))) tNext)
    (tRet (tAndV (tCallZ sp_is_ahead W (tCons (tVar 1) (tCons (tC (.str "change")) (tCons (tC (.str "enter")) tNil)))) (tAndV (tCallZ sp_is_ahead W (tCons (tVar 1) (tCons (tC (.str "change")) (tCons (tC (.str "commit")) tNil)))) (tCallZ sp_is_locked_well W (tCons (tVar 1) tNil)))))))
theorem d_is_writer {sp_words_of : Sp} {sp_all_there : Sp} {sp_is_ahead : Sp} {sp_is_locked_well : Sp} (T : Txt P w K mg a_WRITER_WORDS a_CLEANER_WORDS a_READER_WORDS a_PARTS a_Book a_BadText a_BadBook a_UnknownPart a_PagesError a_CHOICES a_CHOICES_0 a_CHOICES_1) (I_words_of : FnZ P w K mg base 1 "words_of" ["value", "known"] sp_words_of) (I_all_there : FnZ P w K mg base 1 "all_there" ["found", "needed"] sp_all_there) (I_is_ahead : FnZ P w K mg base 1 "is_ahead" ["found", "one", "other"] sp_is_ahead) (I_is_locked_well : FnZ P w K mg base 2 "is_locked_well" ["found"] sp_is_locked_well) (f : Addr) (cdv : Value) (A : Around) (outer : List Env) (s : Shared) (H : Hp) (E : XK) (hr : TP.Room 2 (A.deeper (envOfC "is_writer" (defScope s_is_writer) s.heap.objs.size f cdv))) :
    PSs (cxOf (L2.CX P w) P w K mg base N_is_writer "is_writer" (defScope s_is_writer) f cdv A outer s H E) (defBody s_is_writer) (t_is_writer K a_WRITER_WORDS sp_words_of sp_all_there sp_is_ahead sp_is_locked_well (wOut E)) :=
  have nd := sc_is_writer.nd
  have tk : Takes (cxOf (L2.CX P w) P w K mg base N_is_writer "is_writer" (defScope s_is_writer) f cdv A outer s H E) (wOut E) := takes_of rfl rfl rfl rfl
  have po : PassesOwn (model P w) (cxOf (L2.CX P w) P w K mg base N_is_writer "is_writer" (defScope s_is_writer) f cdv A outer s H E).A (cxOf (L2.CX P w) P w K mg base N_is_writer "is_writer" (defScope s_is_writer) f cdv A outer s H E).env (cxOf (L2.CX P w) P w K mg base N_is_writer "is_writer" (defScope s_is_writer) f cdv A outer s H E).xe := passes_of rfl
  (pss_cons (ps_asg (pe_callZ I_words_of hr (by decide) tk (pa_cons (pv 0) (pa_cons (pe_globA T.g_WRITER_WORDS) pa_nil))) (pg_name (i := 1) nd rfl (Or.inl rfl)))
    (pss_cons (ps_if (PW.pt (pw_or (pt_cmpR op_isno (pv 1) pe_non (nomark _)) (pw_or1 (pt_not (pt_val (pe_callZ I_all_there hr (by decide) tk (pa_cons (pv 1) (pa_cons (pe_tup (pa_cons pe_str (pa_cons pe_str (pa_cons pe_str pa_nil)))) pa_nil)))))))) (pss_one (ps_ret pe_bl)) pss_nil)
    (pss_one (ps_ret (pe_and (pe_callZ I_is_ahead hr (by decide) tk (pa_cons (pv 1) (pa_cons pe_str (pa_cons pe_str pa_nil)))) (pe_and (pe_callZ I_is_ahead hr (by decide) tk (pa_cons (pv 1) (pa_cons pe_str (pa_cons pe_str pa_nil)))) (pe_one (pe_callZ I_is_locked_well hr (by decide) tk (pa_cons (pv 1) pa_nil)))))))))
abbrev s_is_cleaner : Stmt := (topS 15)
abbrev N_is_cleaner : List Str := ["value", "found"]
theorem sc_is_cleaner : FnScope N_is_cleaner ["value"] (defScope s_is_cleaner) := ⟨rfl, rfl, rfl, by decide +kernel, rfl, by decide +kernel, by decide +kernel⟩
def t_is_cleaner (K : PySem.W.Frag) (a_CLEANER_WORDS : Addr) (sp_words_of : Sp) (sp_all_there : Sp) (sp_is_ahead : Sp) (sp_is_locked_well : Sp) (W : WX) : TS :=
    (tSeq (tAsg (tCallZ sp_words_of W (tCons (tVar 0) (tCons (tC (.ref a_CLEANER_WORDS)) tNil))) (gName 1))
    (tSeq (tIfS (tOr (tTest (tOp rIsNo (tVar 1) (tC .non))) (tOr (tNot (tB (tCallZ sp_all_there W (tCons (tVar 1) (tCons (tTup (tCons (tC (.str "look")) (tCons (tC (.str "set")) tNil))) tNil))))) (tNot (tB (tCallZ sp_is_locked_well W (tCons (tVar 1) tNil)))))) (tRet (tC (.bl false))) tNext)
    (tRet (tAndV (tCallZ sp_is_ahead W (tCons (tVar 1) (tCons (tC (.str "look")) (tCons (tC (.str "set")) tNil)))) (tAndV (tCallZ sp_is_ahead W (tCons (tVar 1) (tCons (tC (.str "remove")) (tCons (tC (.str "look")) tNil)))) (tCallZ sp_is_ahead W (tCons (tVar 1) (tCons (tC (.str "set")) (tCons (tC (.str "again")) tNil)))))))))
theorem d_is_cleaner {sp_words_of : Sp} {sp_all_there : Sp} {sp_is_ahead : Sp} {sp_is_locked_well : Sp} (T : Txt P w K mg a_WRITER_WORDS a_CLEANER_WORDS a_READER_WORDS a_PARTS a_Book a_BadText a_BadBook a_UnknownPart a_PagesError a_CHOICES a_CHOICES_0 a_CHOICES_1) (I_words_of : FnZ P w K mg base 1 "words_of" ["value", "known"] sp_words_of) (I_all_there : FnZ P w K mg base 1 "all_there" ["found", "needed"] sp_all_there) (I_is_ahead : FnZ P w K mg base 1 "is_ahead" ["found", "one", "other"] sp_is_ahead) (I_is_locked_well : FnZ P w K mg base 2 "is_locked_well" ["found"] sp_is_locked_well) (f : Addr) (cdv : Value) (A : Around) (outer : List Env) (s : Shared) (H : Hp) (E : XK) (hr : TP.Room 2 (A.deeper (envOfC "is_cleaner" (defScope s_is_cleaner) s.heap.objs.size f cdv))) :
    PSs (cxOf (L2.CX P w) P w K mg base N_is_cleaner "is_cleaner" (defScope s_is_cleaner) f cdv A outer s H E) (defBody s_is_cleaner) (t_is_cleaner K a_CLEANER_WORDS sp_words_of sp_all_there sp_is_ahead sp_is_locked_well (wOut E)) :=
  have nd := sc_is_cleaner.nd
  have tk : Takes (cxOf (L2.CX P w) P w K mg base N_is_cleaner "is_cleaner" (defScope s_is_cleaner) f cdv A outer s H E) (wOut E) := takes_of rfl rfl rfl rfl
  have po : PassesOwn (model P w) (cxOf (L2.CX P w) P w K mg base N_is_cleaner "is_cleaner" (defScope s_is_cleaner) f cdv A outer s H E).A (cxOf (L2.CX P w) P w K mg base N_is_cleaner "is_cleaner" (defScope s_is_cleaner) f cdv A outer s H E).env (cxOf (L2.CX P w) P w K mg base N_is_cleaner "is_cleaner" (defScope s_is_cleaner) f cdv A outer s H E).xe := passes_of rfl
  (pss_cons (ps_asg (pe_callZ I_words_of hr (by decide) tk (pa_cons (pv 0) (pa_cons (pe_globA T.g_CLEANER_WORDS) pa_nil))) (pg_name (i := 1) nd rfl (Or.inl rfl)))
    (pss_cons (ps_if (PW.pt (pw_or (pt_cmpR op_isno (pv 1) pe_non (nomark _)) (pw_or (pt_not (pt_val (pe_callZ I_all_there hr (by decide) tk (pa_cons (pv 1) (pa_cons (pe_tup (pa_cons pe_str (pa_cons pe_str pa_nil))) pa_nil))))) (pw_or1 (pt_not (pt_val (pe_callZ I_is_locked_well hr (by decide) tk (pa_cons (pv 1) pa_nil)))))))) (pss_one (ps_ret pe_bl)) pss_nil)
    (pss_one (ps_ret (pe_and (pe_callZ I_is_ahead hr (by decide) tk (pa_cons (pv 1) (pa_cons pe_str (pa_cons pe_str pa_nil)))) (pe_and (pe_callZ I_is_ahead hr (by decide) tk (pa_cons (pv 1) (pa_cons pe_str (pa_cons pe_str pa_nil)))) (pe_one (pe_callZ I_is_ahead hr (by decide) tk (pa_cons (pv 1) (pa_cons pe_str (pa_cons pe_str pa_nil)))))))))))
abbrev s_is_reader : Stmt := (topS 16)
abbrev N_is_reader : List Str := ["value", "found"]
theorem sc_is_reader : FnScope N_is_reader ["value"] (defScope s_is_reader) := ⟨rfl, rfl, rfl, by decide +kernel, rfl, by decide +kernel, by decide +kernel⟩
def t_is_reader (K : PySem.W.Frag) (a_READER_WORDS : Addr) (sp_words_of : Sp) (sp_all_there : Sp) (sp_is_ahead : Sp) (W : WX) : TS :=
    (tSeq (tAsg (tCallZ sp_words_of W (tCons (tVar 0) (tCons (tC (.ref a_READER_WORDS)) tNil))) (gName 1))
    (tSeq (tIfS (tOr (tTest (tOp rIsNo (tVar 1) (tC .non))) (tOr (tNot (tB (tCallZ sp_all_there W (tCons (tVar 1) (tCons (tTup (tCons (tC (.str "entry")) (tCons (tC (.str "mark")) (tCons (tC (.str "page")) tNil)))) tNil))))) (tTest (tOp (rUnlike K) (tOp (rIx K) (tVar 1) (tUn rNeg (tC (.int 1)))) (tC (.str "page")))))) (tRet (tC (.bl false))) tNext)
    (tSeq (tIfS (tOr (tTest (tOp (rUnlike K) (tOp (rIn K false) (tC (.str "take")) (tVar 1)) (tOp (rIn K false) (tC (.str "tell")) (tVar 1)))) (tTest (tOp (rSame K) (tOp (rIn K false) (tC (.str "hold")) (tVar 1)) (tOp (rIn K false) (tC (.str "take")) (tVar 1))))) (tRet (tC (.bl false))) tNext)
    (tRet (tCallZ sp_is_ahead W (tCons (tVar 1) (tCons (tC (.str "take")) (tCons (tC (.str "tell")) tNil))))))))
theorem d_is_reader {sp_words_of : Sp} {sp_all_there : Sp} {sp_is_ahead : Sp} (T : Txt P w K mg a_WRITER_WORDS a_CLEANER_WORDS a_READER_WORDS a_PARTS a_Book a_BadText a_BadBook a_UnknownPart a_PagesError a_CHOICES a_CHOICES_0 a_CHOICES_1) (I_words_of : FnZ P w K mg base 1 "words_of" ["value", "known"] sp_words_of) (I_all_there : FnZ P w K mg base 1 "all_there" ["found", "needed"] sp_all_there) (I_is_ahead : FnZ P w K mg base 1 "is_ahead" ["found", "one", "other"] sp_is_ahead) (f : Addr) (cdv : Value) (A : Around) (outer : List Env) (s : Shared) (H : Hp) (E : XK) (hr : TP.Room 1 (A.deeper (envOfC "is_reader" (defScope s_is_reader) s.heap.objs.size f cdv))) :
    PSs (cxOf (L2.CX P w) P w K mg base N_is_reader "is_reader" (defScope s_is_reader) f cdv A outer s H E) (defBody s_is_reader) (t_is_reader K a_READER_WORDS sp_words_of sp_all_there sp_is_ahead (wOut E)) :=
  have nd := sc_is_reader.nd
  have tk : Takes (cxOf (L2.CX P w) P w K mg base N_is_reader "is_reader" (defScope s_is_reader) f cdv A outer s H E) (wOut E) := takes_of rfl rfl rfl rfl
  have po : PassesOwn (model P w) (cxOf (L2.CX P w) P w K mg base N_is_reader "is_reader" (defScope s_is_reader) f cdv A outer s H E).A (cxOf (L2.CX P w) P w K mg base N_is_reader "is_reader" (defScope s_is_reader) f cdv A outer s H E).env (cxOf (L2.CX P w) P w K mg base N_is_reader "is_reader" (defScope s_is_reader) f cdv A outer s H E).xe := passes_of rfl
  (pss_cons (ps_asg (pe_callZ I_words_of hr (by decide) tk (pa_cons (pv 0) (pa_cons (pe_globA T.g_READER_WORDS) pa_nil))) (pg_name (i := 1) nd rfl (Or.inl rfl)))
    (pss_cons (ps_if (PW.pt (pw_or (pt_cmpR op_isno (pv 1) pe_non (nomark _)) (pw_or (pt_not (pt_val (pe_callZ I_all_there hr (by decide) tk (pa_cons (pv 1) (pa_cons (pe_tup (pa_cons pe_str (pa_cons pe_str (pa_cons pe_str pa_nil)))) pa_nil))))) (pw_or1 (pt_cmpR (op_unlike hr.units) (pe_ix ix_seq (pv 1) (pe_un un_minus pe_int) (fun _ _ => rfl)) pe_str (nomark _)))))) (pss_one (ps_ret pe_bl)) pss_nil)
    (pss_cons (ps_if (PW.pt (pw_or (pt_cmpR (op_unlike hr.units) (pe_cmpR op_in_seq pe_str (pv 1) (by rfl)) (pe_cmpR op_in_seq pe_str (pv 1) (by rfl)) (nomark _)) (pw_or1 (pt_cmpR (op_same hr.units) (pe_cmpR op_in_seq pe_str (pv 1) (by rfl)) (pe_cmpR op_in_seq pe_str (pv 1) (by rfl)) (nomark _))))) (pss_one (ps_ret pe_bl)) pss_nil)
    (pss_one (ps_ret (pe_callZ I_is_ahead hr (by decide) tk (pa_cons (pv 1) (pa_cons pe_str (pa_cons pe_str pa_nil)))))))))
abbrev s_is_part : Stmt := (topS 20)
abbrev N_is_part : List Str := ["value"]
theorem sc_is_part : FnScope N_is_part ["value"] (defScope s_is_part) := ⟨rfl, rfl, rfl, by decide +kernel, rfl, by decide +kernel, by decide +kernel⟩
def t_is_part (K : PySem.W.Frag) (a_PARTS : Addr) (W : WX) : TS :=
    (tRet (tAndV (tCB (rIsi K) (tCons (tVar 0) (tCons (tC (.ty "str")) tNil))) (tOp (rIn K false) (tVar 0) (tC (.ref a_PARTS)))))
theorem d_is_part (T : Txt P w K mg a_WRITER_WORDS a_CLEANER_WORDS a_READER_WORDS a_PARTS a_Book a_BadText a_BadBook a_UnknownPart a_PagesError a_CHOICES a_CHOICES_0 a_CHOICES_1) (f : Addr) (cdv : Value) (A : Around) (outer : List Env) (s : Shared) (H : Hp) (E : XK) (hr : TP.Room 0 (A.deeper (envOfC "is_part" (defScope s_is_part) s.heap.objs.size f cdv))) :
    PSs (cxOf (L2.CX P w) P w K mg base N_is_part "is_part" (defScope s_is_part) f cdv A outer s H E) (defBody s_is_part) (t_is_part K a_PARTS (wOut E)) :=
  have nd := sc_is_part.nd
  have tk : Takes (cxOf (L2.CX P w) P w K mg base N_is_part "is_part" (defScope s_is_part) f cdv A outer s H E) (wOut E) := takes_of rfl rfl rfl rfl
  have po : PassesOwn (model P w) (cxOf (L2.CX P w) P w K mg base N_is_part "is_part" (defScope s_is_part) f cdv A outer s H E).A (cxOf (L2.CX P w) P w K mg base N_is_part "is_part" (defScope s_is_part) f cdv A outer s H E).env (cxOf (L2.CX P w) P w K mg base N_is_part "is_part" (defScope s_is_part) f cdv A outer s H E).xe := passes_of rfl
  (pss_one (ps_ret (pe_and (pe_callB call_isi (by rfl) T.n_isinstance (by decide +kernel) (pa_cons (pv 0) (pa_cons (pe_bltn (by rfl) T.n_str boot_str rfl) pa_nil))) (pe_one (pe_cmpR op_in_seq (pv 0) (pe_globA T.g_PARTS) (by rfl))))))
abbrev s_is_allowed : Stmt := (topS 21)
abbrev N_is_allowed : List Str := ["part", "value"]
theorem sc_is_allowed : FnScope N_is_allowed ["part", "value"] (defScope s_is_allowed) := ⟨rfl, rfl, rfl, by decide +kernel, rfl, by decide +kernel, by decide +kernel⟩
def t_is_allowed (K : PySem.W.Frag) (a_CHOICES : Addr) (a_CHOICES_0 : Addr) (a_CHOICES_1 : Addr) (sp_is_writer : Sp) (sp_is_cleaner : Sp) (sp_is_reader : Sp) (W : WX) : TS :=
    (tSeq (tIfS (tTest (tOp (rSame K) (tVar 0) (tC (.str "writer")))) (tRet (tCallZ sp_is_writer W (tCons (tVar 1) tNil))) tNext)
    (tSeq (tIfS (tTest (tOp (rSame K) (tVar 0) (tC (.str "cleaner")))) (tRet (tCallZ sp_is_cleaner W (tCons (tVar 1) tNil))) tNext)
    (tSeq (tIfS (tTest (tOp (rSame K) (tVar 0) (tC (.str "reader")))) (tRet (tCallZ sp_is_reader W (tCons (tVar 1) tNil))) tNext)
    (tSeq (tIfS (tTest (tOp (rInTab a_CHOICES [(.inr "horizon", .ref a_CHOICES_0), (.inr "follower", .ref a_CHOICES_1)]) (tVar 0) (tC (.ref a_CHOICES)))) (tRet (tAndV (tCB (rIsi K) (tCons (tVar 1) (tCons (tC (.ty "str")) tNil))) (tOp (rIn K false) (tVar 1) (tOp (rGetTab a_CHOICES [(.inr "horizon", .ref a_CHOICES_0), (.inr "follower", .ref a_CHOICES_1)]) (tC (.ref a_CHOICES)) (tVar 0))))) tNext)
    (tRet (tCB (rIsi K) (tCons (tVar 1) (tCons (tC (.ty "bool")) tNil))))))))
theorem d_is_allowed {sp_is_writer : Sp} {sp_is_cleaner : Sp} {sp_is_reader : Sp} (T : Txt P w K mg a_WRITER_WORDS a_CLEANER_WORDS a_READER_WORDS a_PARTS a_Book a_BadText a_BadBook a_UnknownPart a_PagesError a_CHOICES a_CHOICES_0 a_CHOICES_1) (I_is_writer : FnZ P w K mg base 3 "is_writer" ["value"] sp_is_writer) (I_is_cleaner : FnZ P w K mg base 3 "is_cleaner" ["value"] sp_is_cleaner) (I_is_reader : FnZ P w K mg base 2 "is_reader" ["value"] sp_is_reader) (f : Addr) (cdv : Value) (A : Around) (outer : List Env) (s : Shared) (H : Hp) (E : XK) (hr : TP.Room 3 (A.deeper (envOfC "is_allowed" (defScope s_is_allowed) s.heap.objs.size f cdv))) :
    PSs (cxOf (L2.CX P w) P w K mg base N_is_allowed "is_allowed" (defScope s_is_allowed) f cdv A outer s H E) (defBody s_is_allowed) (t_is_allowed K a_CHOICES a_CHOICES_0 a_CHOICES_1 sp_is_writer sp_is_cleaner sp_is_reader (wOut E)) :=
  have nd := sc_is_allowed.nd
  have tk : Takes (cxOf (L2.CX P w) P w K mg base N_is_allowed "is_allowed" (defScope s_is_allowed) f cdv A outer s H E) (wOut E) := takes_of rfl rfl rfl rfl
  have po : PassesOwn (model P w) (cxOf (L2.CX P w) P w K mg base N_is_allowed "is_allowed" (defScope s_is_allowed) f cdv A outer s H E).A (cxOf (L2.CX P w) P w K mg base N_is_allowed "is_allowed" (defScope s_is_allowed) f cdv A outer s H E).env (cxOf (L2.CX P w) P w K mg base N_is_allowed "is_allowed" (defScope s_is_allowed) f cdv A outer s H E).xe := passes_of rfl
  (pss_cons (ps_if (pt_cmpR (op_same hr.units) (pv 0) pe_str (nomark _)) (pss_one (ps_ret (pe_callZ I_is_writer hr (by decide) tk (pa_cons (pv 1) pa_nil)))) pss_nil)
    (pss_cons (ps_if (pt_cmpR (op_same hr.units) (pv 0) pe_str (nomark _)) (pss_one (ps_ret (pe_callZ I_is_cleaner hr (by decide) tk (pa_cons (pv 1) pa_nil)))) pss_nil)
    (pss_cons (ps_if (pt_cmpR (op_same hr.units) (pv 0) pe_str (nomark _)) (pss_one (ps_ret (pe_callZ I_is_reader hr (by decide) tk (pa_cons (pv 1) pa_nil)))) pss_nil)
    (pss_cons (ps_if (pt_cmpR (op_inTab T.d_CHOICES) (pv 0) (pe_globA T.g_CHOICES) (by rfl)) (pss_one (ps_ret (pe_and (pe_callB call_isi (by rfl) T.n_isinstance (by decide +kernel) (pa_cons (pv 1) (pa_cons (pe_bltn (by rfl) T.n_str boot_str rfl) pa_nil))) (pe_one (pe_cmpR op_in_seq (pv 1) (pe_getTab T.d_CHOICES (pe_globA T.g_CHOICES) (pv 0)) (by rfl)))))) pss_nil)
    (pss_one (ps_ret (pe_callB call_isi (by rfl) T.n_isinstance (by decide +kernel) (pa_cons (pv 1) (pa_cons (pe_bltn (by rfl) T.n_bool boot_bool rfl) pa_nil)))))))))
abbrev s_BookU_initU : Stmt := (inClass (topS 22) 0)
abbrev N_BookU_initU : List Str := ["self", "writer", "cleaner", "reader", "horizon", "pins", "cleared", "sets", "force", "ahead", "first", "waits", "follower", "values", "part", "value"]
theorem sc_BookU_initU : FnScope N_BookU_initU ["self", "writer", "cleaner", "reader", "horizon", "pins", "cleared", "sets", "force", "ahead", "first", "waits", "follower"] (defScope s_BookU_initU) := ⟨rfl, rfl, rfl, by decide +kernel, rfl, by decide +kernel, by decide +kernel⟩
def t_BookU_initU (K : PySem.W.Frag) (a_BadBook : Addr) (a_Book : Addr) (a_PARTS : Addr) (sp_is_allowed : Sp) (W : WX) : TS :=
    (tSeq (tAsg (tTup (tCons (tVar 1) (tCons (tVar 2) (tCons (tVar 3) (tCons (tVar 4) (tCons (tVar 5) (tCons (tVar 6) (tCons (tVar 7) (tCons (tVar 8) (tCons (tVar 9) (tCons (tVar 10) (tCons (tVar 11) (tCons (tVar 12) tNil))))))))))))) (gName 13))
    (tSeq (tFor (RZ.iZipA K (tCons (tC (.ref a_PARTS)) (tCons (tVar 13) tNil))) (gTup K 2 (gCons (gName 14) (gCons (gName 15) gNil))) (tIfS (tNot (tB (tCallZ sp_is_allowed W (tCons (tVar 14) (tCons (tVar 15) tNil))))) (tRaise a_BadBook "part" W (tCons (tVar 14) tNil)) tNext))
    (tSetF a_Book "chosen" (tVar 0) (tDc (RZ.iZipA K (tCons (tC (.ref a_PARTS)) (tCons (tVar 13) tNil))) (gTup K 2 (gCons (gName 14) (gCons (gName 15) gNil))) tYes (tVar 14) (tVar 15) [14, 15]))))
theorem d_BookU_initU {sp_is_allowed : Sp} (T : Txt P w K mg a_WRITER_WORDS a_CLEANER_WORDS a_READER_WORDS a_PARTS a_Book a_BadText a_BadBook a_UnknownPart a_PagesError a_CHOICES a_CHOICES_0 a_CHOICES_1) (I_is_allowed : FnZ P w K mg base 4 "is_allowed" ["part", "value"] sp_is_allowed) (f : Addr) (cdv : Value) (A : Around) (outer : List Env) (s : Shared) (H : Hp) (E : XK) (hr : TP.Room 4 (A.deeper (envOfC "Book.__init__" (defScope s_BookU_initU) s.heap.objs.size f cdv))) :
    PSs (cxOf (L2.CX P w) P w K mg base N_BookU_initU "Book.__init__" (defScope s_BookU_initU) f cdv A outer s H E) (defBody s_BookU_initU) (t_BookU_initU K a_BadBook a_Book a_PARTS sp_is_allowed (wOut E)) :=
  have nd := sc_BookU_initU.nd
  have tk : Takes (cxOf (L2.CX P w) P w K mg base N_BookU_initU "Book.__init__" (defScope s_BookU_initU) f cdv A outer s H E) (wOut E) := takes_of rfl rfl rfl rfl
  have po : PassesOwn (model P w) (cxOf (L2.CX P w) P w K mg base N_BookU_initU "Book.__init__" (defScope s_BookU_initU) f cdv A outer s H E).A (cxOf (L2.CX P w) P w K mg base N_BookU_initU "Book.__init__" (defScope s_BookU_initU) f cdv A outer s H E).env (cxOf (L2.CX P w) P w K mg base N_BookU_initU "Book.__init__" (defScope s_BookU_initU) f cdv A outer s H E).xe := passes_of rfl
  (pss_cons (ps_asg (pe_tup (pa_cons (pv 1) (pa_cons (pv 2) (pa_cons (pv 3) (pa_cons (pv 4) (pa_cons (pv 5) (pa_cons (pv 6) (pa_cons (pv 7) (pa_cons (pv 8) (pa_cons (pv 9) (pa_cons (pv 10) (pa_cons (pv 11) (pa_cons (pv 12) pa_nil))))))))))))) (pg_name (i := 13) nd rfl (Or.inl rfl)))
    (pss_cons (ps_for po rfl (RZ.pi_zipA (by rfl) T.n_zip (pa_cons (pe_globA T.g_PARTS) (pa_cons (pv 13) pa_nil))) (pg_tup rfl (pgs_cons (pg_name (i := 14) nd rfl (Or.inl rfl)) (pgs_cons (pg_name (i := 15) nd rfl (Or.inl rfl)) pgs_nil))) (pss_one (ps_if (pt_not (pt_val (pe_callZ I_is_allowed hr (by decide) tk (pa_cons (pv 14) (pa_cons (pv 15) pa_nil))))) (pss_one (ps_raiseZ rfl tk T.e_BadBook hr (by decide) (pa_cons (pv 14) pa_nil))) pss_nil)))
    (pss_one (ps_setF T.c_Book.cls T.f_Book_chosen (pv 0) (pe_dc (own := [("part", 14), ("value", 15)]) (g := (gTup K 2 (gCons (gName 14) (gCons (gName 15) gNil)))) (tt := tYes) rfl nd (RZ.pi_zipA (by rfl) T.n_zip (pa_cons (pe_globA T.g_PARTS) (pa_cons (pv 13) pa_nil))) (blkOk_by (own := [("part", 14), ("value", 15)]) (N := N_BookU_initU) (sc := defScope s_BookU_initU) (by decide +kernel)) (fun _ _ _ _ _ => (pg_tup rfl (pgs_cons (pg_name (i := 14) nd rfl (Or.inl rfl)) (pgs_cons (pg_name (i := 15) nd rfl (Or.inl rfl)) pgs_nil)))) (fun _ _ _ _ _ => pts_nil) (fun _ _ _ _ _ => (pv 14)) (fun _ _ _ _ _ => (pv 15)))))))
abbrev s_value_of : Stmt := (topS 25)
abbrev N_value_of : List Str := ["part", "text"]
theorem sc_value_of : FnScope N_value_of ["part", "text"] (defScope s_value_of) := ⟨rfl, rfl, rfl, by decide +kernel, rfl, by decide +kernel, by decide +kernel⟩
def t_value_of (K : PySem.W.Frag) (W : WX) : TS :=
    (tSeq (tIfS (tTest (tOp (rIn K false) (tVar 0) (tTup (tCons (tC (.str "writer")) (tCons (tC (.str "cleaner")) (tCons (tC (.str "reader")) (tCons (tC (.str "horizon")) (tCons (tC (.str "follower")) tNil)))))))) (tRet (tVar 1)) tNext)
    (tSeq (tIfS (tTest (tOp (rSame K) (tVar 1) (tC (.str "yes")))) (tRet (tC (.bl true))) tNext)
    (tRet (tIf (tTest (tOp (rSame K) (tVar 1) (tC (.str "no")))) (tC (.bl false)) (tVar 1)))))
theorem d_value_of (T : Txt P w K mg a_WRITER_WORDS a_CLEANER_WORDS a_READER_WORDS a_PARTS a_Book a_BadText a_BadBook a_UnknownPart a_PagesError a_CHOICES a_CHOICES_0 a_CHOICES_1) (f : Addr) (cdv : Value) (A : Around) (outer : List Env) (s : Shared) (H : Hp) (E : XK) (hr : TP.Room 0 (A.deeper (envOfC "value_of" (defScope s_value_of) s.heap.objs.size f cdv))) :
    PSs (cxOf (L2.CX P w) P w K mg base N_value_of "value_of" (defScope s_value_of) f cdv A outer s H E) (defBody s_value_of) (t_value_of K (wOut E)) :=
  have nd := sc_value_of.nd
  have tk : Takes (cxOf (L2.CX P w) P w K mg base N_value_of "value_of" (defScope s_value_of) f cdv A outer s H E) (wOut E) := takes_of rfl rfl rfl rfl
  have po : PassesOwn (model P w) (cxOf (L2.CX P w) P w K mg base N_value_of "value_of" (defScope s_value_of) f cdv A outer s H E).A (cxOf (L2.CX P w) P w K mg base N_value_of "value_of" (defScope s_value_of) f cdv A outer s H E).env (cxOf (L2.CX P w) P w K mg base N_value_of "value_of" (defScope s_value_of) f cdv A outer s H E).xe := passes_of rfl
  (pss_cons (ps_if (pt_cmpR op_in_seq (pv 0) (pe_tup (pa_cons pe_str (pa_cons pe_str (pa_cons pe_str (pa_cons pe_str (pa_cons pe_str pa_nil)))))) (by rfl)) (pss_one (ps_ret (pv 1))) pss_nil)
    (pss_cons (ps_if (pt_cmpR (op_same hr.units) (pv 1) pe_str (nomark _)) (pss_one (ps_ret pe_bl)) pss_nil)
    (pss_one (ps_ret (pe_ifExp (pt_cmpR (op_same hr.units) (pv 1) pe_str (nomark _)) pe_bl (pv 1))))))
abbrev s_read_book : Stmt := (topS 26)
abbrev N_read_book : List Str := ["text", "lines", "found", "at", "line", "part", "sign", "rest", "value"]
theorem sc_read_book : FnScope N_read_book ["text"] (defScope s_read_book) := ⟨rfl, rfl, rfl, by decide +kernel, rfl, by decide +kernel, by decide +kernel⟩
def t_read_book (K : PySem.W.Frag) (a_BadText : Addr) (a_Book : Addr) (a_PARTS : Addr) (sp_is_part : Sp) (sp_is_allowed : Sp) (sp_BookU_initU : Sp) (sp_value_of : Sp) (W : WX) : TS :=
    (tSeq (tIfS (tNot (tB (tCB (rIsi K) (tCons (tVar 0) (tCons (tC (.ty "str")) tNil))))) (tRaise a_BadText "at" W (tCons (tC .non) tNil)) tNext)
    (tSeq (tAsg (tM1 rSplit (tVar 0) (tC (.str "\n"))) (gName 1))
    (tSeq (tAsg tDNewK (gName 2))
    (tSeq (tFor (iEnum K (tCons (tVar 1) tNil)) (gTup K 2 (gCons (gName 3) (gCons (gName 4) gNil))) (tSeq (tAsg (tM1 MR.rPart (tVar 4) (tC (.str " = "))) (gTup K 3 (gCons (gName 5) (gCons (gName 6) (gCons (gName 7) gNil)))))
    (tSeq (tIfS (tOr (tTest (tOp (rSame K) (tVar 6) (tC (.str "")))) (tOr (tNot (tB (tCallZ sp_is_part W (tCons (tVar 5) tNil)))) (tB (tDIn (tVar 5) (tVar 2))))) (tRaise a_BadText "at" W (tCons (tVar 3) tNil)) tNext)
    (tSeq (tAsg (tCallZ sp_value_of W (tCons (tVar 5) (tCons (tVar 7) tNil))) (gName 8))
    (tSeq (tIfS (tNot (tB (tCallZ sp_is_allowed W (tCons (tVar 5) (tCons (tVar 8) tNil))))) (tRaise a_BadText "at" W (tCons (tVar 3) tNil)) tNext)
    (sDPut (tVar 2) (tVar 5) (tVar 8)))))))
    (tSeq (tFor (iTup K (tC (.ref a_PARTS))) (gName 5) (tIfS (tB (tDNotIn (tVar 5) (tVar 2))) (tRaiseF a_BadText "at" "part" W (tCons (tCB (TP.rLen K) (tCons (tVar 1) tNil)) tNil) (tCons (tVar 5) tNil)) tNext))
    (tRet (tNewP a_Book sp_BookU_initU W ["writer", "cleaner", "reader", "horizon", "pins", "cleared", "sets", "force", "ahead", "first", "waits", "follower"] ["horizon", "pins", "cleared", "sets", "force", "ahead", "first", "waits", "follower"] [.str "all", .bl true, .bl true, .bl true, .bl true, .bl true, .bl false, .bl true, .str "wait"] (tVar 2))))))))
theorem d_read_book {sp_is_part : Sp} {sp_is_allowed : Sp} {sp_BookU_initU : Sp} {sp_value_of : Sp} (T : Txt P w K mg a_WRITER_WORDS a_CLEANER_WORDS a_READER_WORDS a_PARTS a_Book a_BadText a_BadBook a_UnknownPart a_PagesError a_CHOICES a_CHOICES_0 a_CHOICES_1) (I_is_part : FnZ P w K mg base 1 "is_part" ["value"] sp_is_part) (I_is_allowed : FnZ P w K mg base 4 "is_allowed" ["part", "value"] sp_is_allowed) (I_BookU_initU_np : MakP P w K mg base 5 "Book" a_Book ["writer", "cleaner", "reader", "horizon", "pins", "cleared", "sets", "force", "ahead", "first", "waits", "follower"] ["horizon", "pins", "cleared", "sets", "force", "ahead", "first", "waits", "follower"] [.str "all", .bl true, .bl true, .bl true, .bl true, .bl true, .bl false, .bl true, .str "wait"] sp_BookU_initU) (I_value_of : FnZ P w K mg base 1 "value_of" ["part", "text"] sp_value_of) (f : Addr) (cdv : Value) (A : Around) (outer : List Env) (s : Shared) (H : Hp) (E : XK) (hr : TP.Room 6 (A.deeper (envOfC "read_book" (defScope s_read_book) s.heap.objs.size f cdv))) :
    PSs (cxOf (L2.CX P w) P w K mg base N_read_book "read_book" (defScope s_read_book) f cdv A outer s H E) (defBody s_read_book) (t_read_book K a_BadText a_Book a_PARTS sp_is_part sp_is_allowed sp_BookU_initU sp_value_of (wOut E)) :=
  have nd := sc_read_book.nd
  have tk : Takes (cxOf (L2.CX P w) P w K mg base N_read_book "read_book" (defScope s_read_book) f cdv A outer s H E) (wOut E) := takes_of rfl rfl rfl rfl
  have po : PassesOwn (model P w) (cxOf (L2.CX P w) P w K mg base N_read_book "read_book" (defScope s_read_book) f cdv A outer s H E).A (cxOf (L2.CX P w) P w K mg base N_read_book "read_book" (defScope s_read_book) f cdv A outer s H E).env (cxOf (L2.CX P w) P w K mg base N_read_book "read_book" (defScope s_read_book) f cdv A outer s H E).xe := passes_of rfl
  (pss_cons (ps_if (pt_not (pt_val (pe_callB call_isi (by rfl) T.n_isinstance (by decide +kernel) (pa_cons (pv 0) (pa_cons (pe_bltn (by rfl) T.n_str boot_str rfl) pa_nil))))) (pss_one (ps_raiseZ rfl tk T.e_BadText hr (by decide) (pa_cons pe_non pa_nil))) pss_nil)
    (pss_cons (ps_asg (pe_split (pv 0) pe_str) (pg_name (i := 1) nd rfl (Or.inl rfl)))
    (pss_cons (ps_asg pe_dnewK (pg_name (i := 2) nd rfl (Or.inl rfl)))
    (pss_cons (ps_for po rfl (pi_enum (by rfl) T.n_enumerate (pa_cons (pv 1) pa_nil)) (pg_tup rfl (pgs_cons (pg_name (i := 3) nd rfl (Or.inl rfl)) (pgs_cons (pg_name (i := 4) nd rfl (Or.inl rfl)) pgs_nil))) (pss_cons (ps_asg (pe_partition (pv 4) (pe_globS T.g_SIGN)) (pg_tup rfl (pgs_cons (pg_name (i := 5) nd rfl (Or.inl rfl)) (pgs_cons (pg_name (i := 6) nd rfl (Or.inl rfl)) (pgs_cons (pg_name (i := 7) nd rfl (Or.inl rfl)) pgs_nil)))))
    (pss_cons (ps_if (PW.pt (pw_or (pt_cmpR (op_same hr.units) (pv 6) pe_str (nomark _)) (pw_or (pt_not (pt_val (pe_callZ I_is_part hr (by decide) tk (pa_cons (pv 5) pa_nil)))) (pw_or1 (pt_cmp (pc_din (hu_of hr.toRoom) (pv 5) (pv 2))))))) (pss_one (ps_raiseZ rfl tk T.e_BadText hr (by decide) (pa_cons (pv 3) pa_nil))) pss_nil)
    (pss_cons (ps_asg (pe_callZ I_value_of hr (by decide) tk (pa_cons (pv 5) (pa_cons (pv 7) pa_nil))) (pg_name (i := 8) nd rfl (Or.inl rfl)))
    (pss_cons (ps_if (pt_not (pt_val (pe_callZ I_is_allowed hr (by decide) tk (pa_cons (pv 5) (pa_cons (pv 8) pa_nil))))) (pss_one (ps_raiseZ rfl tk T.e_BadText hr (by decide) (pa_cons (pv 3) pa_nil))) pss_nil)
    (pss_one (ps_dput (hu_of hr.toRoom) (pv 2) (pv 5) (pv 8) rfl)))))))
    (pss_cons (ps_for po rfl (pi_tup (pe_globA T.g_PARTS)) (pg_name (i := 5) nd rfl (Or.inl rfl)) (pss_one (ps_if (pt_cmp (pc_dnotin (hu_of hr.toRoom) (pv 5) (pv 2))) (pss_one (ps_raiseMF rfl tk T.e_BadText T.e_UnknownPart hr (by decide) (pa_cons (pe_callB TP.cr_len (by rfl) T.n_len (by decide +kernel) (pa_cons (pv 1) pa_nil)) pa_nil) (pa_cons (pv 5) pa_nil))) pss_nil)))
    (pss_one (ps_ret (pe_newOP I_BookU_initU_np hr (by decide) tk (pv 2)))))))))
abbrev s__law_pool : Stmt := (topS 28)
abbrev N__law_pool : List Str := ["script", "k", "cell", "seed"]
theorem sc__law_pool : FnScope N__law_pool ["script", "k"] (defScope s__law_pool) := ⟨rfl, rfl, rfl, by decide +kernel, rfl, by decide +kernel, by decide +kernel⟩
def t__law_pool (K : PySem.W.Frag) (W : WX) : TS :=
    (tSeq (tAsg (tC (.int 0)) (gName 2))
    (tSeq (tIfS (tTest (tOp (rUnlike K) (tVar 0) (tLst tNil))) (tAsg (tOp (rIx K) (tVar 0) (tOp rRest (tCB rInt1 (tCons (tVar 1) tNil)) (tCB (TP.rLen K) (tCons (tVar 0) tNil)))) (gName 2)) tNext)
    (tSeq (tAsg (tOp rRest (tOp rTimes (tCB rInt1 (tCons (tOp rPlus (tOp rPlus (tOp rRest (tCB rInt1 (tCons (tVar 2) tNil)) (tC (.int 2147483629))) (tOp rTimes (tC (.int 104729)) (tVar 1))) (tC (.int 11))) tNil)) (tC (.int 48271))) (tC (.int 2147483647))) (gName 3))
    (tRet (tLst (tCons (tOp rTimes (tVar 2) (tCB rInt1 (tCons (tOp rGeq (tVar 2) (tOp rPow (tC (.int 10)) (tC (.int 18)))) tNil))) (tCons (tVar 3) tNil)))))))
theorem d__law_pool (T : Txt P w K mg a_WRITER_WORDS a_CLEANER_WORDS a_READER_WORDS a_PARTS a_Book a_BadText a_BadBook a_UnknownPart a_PagesError a_CHOICES a_CHOICES_0 a_CHOICES_1) (f : Addr) (cdv : Value) (A : Around) (outer : List Env) (s : Shared) (H : Hp) (E : XK) (hr : TP.Room 0 (A.deeper (envOfC "_law_pool" (defScope s__law_pool) s.heap.objs.size f cdv))) :
    PSs (cxOf (L2.CX P w) P w K mg base N__law_pool "_law_pool" (defScope s__law_pool) f cdv A outer s H E) (defBody s__law_pool) (t__law_pool K (wOut E)) :=
  have nd := sc__law_pool.nd
  have tk : Takes (cxOf (L2.CX P w) P w K mg base N__law_pool "_law_pool" (defScope s__law_pool) f cdv A outer s H E) (wOut E) := takes_of rfl rfl rfl rfl
  have po : PassesOwn (model P w) (cxOf (L2.CX P w) P w K mg base N__law_pool "_law_pool" (defScope s__law_pool) f cdv A outer s H E).A (cxOf (L2.CX P w) P w K mg base N__law_pool "_law_pool" (defScope s__law_pool) f cdv A outer s H E).env (cxOf (L2.CX P w) P w K mg base N__law_pool "_law_pool" (defScope s__law_pool) f cdv A outer s H E).xe := passes_of rfl
  (pss_cons (ps_asg pe_int (pg_name (i := 2) nd rfl (Or.inl rfl)))
    (pss_cons (ps_if (pt_cmpR (op_unlike hr.units) (pv 0) (pe_lst pa_nil) (nomark _)) (pss_one (ps_asg (pe_ix ix_seq (pv 0) (pe_op op_rest (pe_callTy cr_int1 (by rfl) T.n_int (by decide +kernel) (pa_cons (pv 1) pa_nil)) (pe_callB TP.cr_len (by rfl) T.n_len (by decide +kernel) (pa_cons (pv 0) pa_nil))) (fun _ _ => rfl)) (pg_name (i := 2) nd rfl (Or.inl rfl)))) pss_nil)
    (pss_cons (ps_asg (pe_op op_rest (pe_op op_times (pe_callTy cr_int1 (by rfl) T.n_int (by decide +kernel) (pa_cons (pe_op op_plus (pe_op op_plus (pe_op op_rest (pe_callTy cr_int1 (by rfl) T.n_int (by decide +kernel) (pa_cons (pv 2) pa_nil)) pe_int) (pe_op op_times pe_int (pv 1))) pe_int) pa_nil)) pe_int) pe_int) (pg_name (i := 3) nd rfl (Or.inl rfl)))
    (pss_one (ps_ret (pe_lst (pa_cons (pe_op op_times (pv 2) (pe_callTy cr_int1 (by rfl) T.n_int (by decide +kernel) (pa_cons (pe_cmpR op_geq (pv 2) (pe_op op_power pe_int pe_int) (nomark _)) pa_nil))) (pa_cons (pv 3) pa_nil))))))))
abbrev s__law_take : Stmt := (topS 29)
abbrev N__law_take : List Str := ["pool", "many", "digit"]
theorem sc__law_take : FnScope N__law_take ["pool", "many"] (defScope s__law_take) := ⟨rfl, rfl, rfl, by decide +kernel, rfl, by decide +kernel, by decide +kernel⟩
def t__law_take (K : PySem.W.Frag) (W : WX) : TS :=
    (tSeq (tIfS (tTest (tOp rMore (tOp (rIx K) (tVar 0) (tC (.int 0))) (tC (.int 0)))) (tSeq (tAsg (tOp rRest (tCB rInt1 (tCons (tOp (rIx K) (tVar 0) (tC (.int 0))) tNil)) (tVar 1)) (gName 2))
    (tSeq (tAsg (tOp rQuot (tOp (rIx K) (tVar 0) (tC (.int 0))) (tVar 1)) (gSub (tVar 0) (tC (.int 0)) rSetL))
    (tRet (tVar 2)))) tNext)
    (tSeq (tAsg (tOp rRest (tCB rInt1 (tCons (tOp rPlus (tOp rTimes (tOp (rIx K) (tVar 0) (tC (.int 1))) (tC (.int 48271))) (tC (.int 11))) tNil)) (tC (.int 2147483647))) (gSub (tVar 0) (tC (.int 1)) rSetL))
    (tRet (tOp rRest (tCB rInt1 (tCons (tOp rQuot (tOp rRest (tCB rInt1 (tCons (tOp rTimes (tOp (rIx K) (tVar 0) (tC (.int 1))) (tOp (rIx K) (tVar 0) (tC (.int 1)))) tNil)) (tC (.int 2147483629))) (tC (.int 64))) tNil)) (tVar 1)))))
theorem d__law_take (T : Txt P w K mg a_WRITER_WORDS a_CLEANER_WORDS a_READER_WORDS a_PARTS a_Book a_BadText a_BadBook a_UnknownPart a_PagesError a_CHOICES a_CHOICES_0 a_CHOICES_1) (f : Addr) (cdv : Value) (A : Around) (outer : List Env) (s : Shared) (H : Hp) (E : XK) (hr : TP.Room 0 (A.deeper (envOfC "_law_take" (defScope s__law_take) s.heap.objs.size f cdv))) :
    PSs (cxOf (L2.CX P w) P w K mg base N__law_take "_law_take" (defScope s__law_take) f cdv A outer s H E) (defBody s__law_take) (t__law_take K (wOut E)) :=
  have nd := sc__law_take.nd
  have tk : Takes (cxOf (L2.CX P w) P w K mg base N__law_take "_law_take" (defScope s__law_take) f cdv A outer s H E) (wOut E) := takes_of rfl rfl rfl rfl
  have po : PassesOwn (model P w) (cxOf (L2.CX P w) P w K mg base N__law_take "_law_take" (defScope s__law_take) f cdv A outer s H E).A (cxOf (L2.CX P w) P w K mg base N__law_take "_law_take" (defScope s__law_take) f cdv A outer s H E).env (cxOf (L2.CX P w) P w K mg base N__law_take "_law_take" (defScope s__law_take) f cdv A outer s H E).xe := passes_of rfl
  (pss_cons (ps_if (pt_cmpR op_more (pe_ix ix_seq (pv 0) pe_int (fun _ _ => rfl)) pe_int (nomark _)) (pss_cons (ps_asg (pe_op op_rest (pe_callTy cr_int1 (by rfl) T.n_int (by decide +kernel) (pa_cons (pe_ix ix_seq (pv 0) pe_int (fun _ _ => rfl)) pa_nil)) (pv 1)) (pg_name (i := 2) nd rfl (Or.inl rfl)))
    (pss_cons (ps_asg (pe_op op_quot (pe_ix ix_seq (pv 0) pe_int (fun _ _ => rfl)) (pv 1)) (pg_sub (pv 0) pe_int set_list))
    (pss_one (ps_ret (pv 2))))) pss_nil)
    (pss_cons (ps_asg (pe_op op_rest (pe_callTy cr_int1 (by rfl) T.n_int (by decide +kernel) (pa_cons (pe_op op_plus (pe_op op_times (pe_ix ix_seq (pv 0) pe_int (fun _ _ => rfl)) pe_int) pe_int) pa_nil)) pe_int) (pg_sub (pv 0) pe_int set_list))
    (pss_one (ps_ret (pe_op op_rest (pe_callTy cr_int1 (by rfl) T.n_int (by decide +kernel) (pa_cons (pe_op op_quot (pe_op op_rest (pe_callTy cr_int1 (by rfl) T.n_int (by decide +kernel) (pa_cons (pe_op op_times (pe_ix ix_seq (pv 0) pe_int (fun _ _ => rfl)) (pe_ix ix_seq (pv 0) pe_int (fun _ _ => rfl))) pa_nil)) pe_int) pe_int) pa_nil)) (pv 1))))))
abbrev s__law_locked : Stmt := (topS 30)
abbrev N__law_locked : List Str := ["pool", "row", "at", "to"]
theorem sc__law_locked : FnScope N__law_locked ["pool", "row"] (defScope s__law_locked) := ⟨rfl, rfl, rfl, by decide +kernel, rfl, by decide +kernel, by decide +kernel⟩
def t__law_locked (K : PySem.W.Frag) (sp__law_take : Sp) (W : WX) : TS :=
    (tSeq (tIfS (tTest (tOp (rSame K) (tCallZ sp__law_take W (tCons (tVar 0) (tCons (tC (.int 3)) tNil))) (tC (.int 0)))) (tRet (tVar 1)) tNext)
    (tSeq (tAsg (tCallZ sp__law_take W (tCons (tVar 0) (tCons (tOp rPlus (tCB (TP.rLen K) (tCons (tVar 1) tNil)) (tC (.int 1))) tNil))) (gName 2))
    (tSeq (tAsg (tOp rPlus (tVar 2) (tCallZ sp__law_take W (tCons (tVar 0) (tCons (tOp rPlus (tOp rMinus (tCB (TP.rLen K) (tCons (tVar 1) tNil)) (tVar 2)) (tC (.int 1))) tNil)))) (gName 3))
    (tRet (tOp rPlus (tOp rPlus (tOp rPlus (tOp rPlus (tSl (rSlL K) (tVar 1) tNoPart (tPart (tVar 2))) (tLst (tCons (tC (.str "lock")) tNil))) (tSl (rSlL K) (tVar 1) (tPart (tVar 2)) (tPart (tVar 3)))) (tLst (tCons (tC (.str "unlock")) tNil))) (tSl (rSlL K) (tVar 1) (tPart (tVar 3)) tNoPart))))))
theorem d__law_locked {sp__law_take : Sp} (T : Txt P w K mg a_WRITER_WORDS a_CLEANER_WORDS a_READER_WORDS a_PARTS a_Book a_BadText a_BadBook a_UnknownPart a_PagesError a_CHOICES a_CHOICES_0 a_CHOICES_1) (I__law_take : FnZ P w K mg base 1 "_law_take" ["pool", "many"] sp__law_take) (f : Addr) (cdv : Value) (A : Around) (outer : List Env) (s : Shared) (H : Hp) (E : XK) (hr : TP.Room 1 (A.deeper (envOfC "_law_locked" (defScope s__law_locked) s.heap.objs.size f cdv))) :
    PSs (cxOf (L2.CX P w) P w K mg base N__law_locked "_law_locked" (defScope s__law_locked) f cdv A outer s H E) (defBody s__law_locked) (t__law_locked K sp__law_take (wOut E)) :=
  have nd := sc__law_locked.nd
  have tk : Takes (cxOf (L2.CX P w) P w K mg base N__law_locked "_law_locked" (defScope s__law_locked) f cdv A outer s H E) (wOut E) := takes_of rfl rfl rfl rfl
  have po : PassesOwn (model P w) (cxOf (L2.CX P w) P w K mg base N__law_locked "_law_locked" (defScope s__law_locked) f cdv A outer s H E).A (cxOf (L2.CX P w) P w K mg base N__law_locked "_law_locked" (defScope s__law_locked) f cdv A outer s H E).env (cxOf (L2.CX P w) P w K mg base N__law_locked "_law_locked" (defScope s__law_locked) f cdv A outer s H E).xe := passes_of rfl
  (pss_cons (ps_if (pt_cmpR (op_same hr.units) (pe_callZ I__law_take hr (by decide) tk (pa_cons (pv 0) (pa_cons pe_int pa_nil))) pe_int (nomark _)) (pss_one (ps_ret (pv 1))) pss_nil)
    (pss_cons (ps_asg (pe_callZ I__law_take hr (by decide) tk (pa_cons (pv 0) (pa_cons (pe_op op_plus (pe_callB TP.cr_len (by rfl) T.n_len (by decide +kernel) (pa_cons (pv 1) pa_nil)) pe_int) pa_nil))) (pg_name (i := 2) nd rfl (Or.inl rfl)))
    (pss_cons (ps_asg (pe_op op_plus (pv 2) (pe_callZ I__law_take hr (by decide) tk (pa_cons (pv 0) (pa_cons (pe_op op_plus (pe_op op_minus (pe_callB TP.cr_len (by rfl) T.n_len (by decide +kernel) (pa_cons (pv 1) pa_nil)) (pv 2)) pe_int) pa_nil)))) (pg_name (i := 3) nd rfl (Or.inl rfl)))
    (pss_one (ps_ret (pe_op op_plus (pe_op op_plus (pe_op op_plus (pe_op op_plus (pe_slice sl_list (pv 1) po_none (po_some (pv 2))) (pe_lst (pa_cons pe_str pa_nil))) (pe_slice sl_list (pv 1) (po_some (pv 2)) (po_some (pv 3)))) (pe_lst (pa_cons pe_str pa_nil))) (pe_slice sl_list (pv 1) (po_some (pv 3)) po_none)))))))
abbrev s__law_writing : Stmt := (topS 31)
abbrev N__law_writing : List Str := ["pool", "way", "row", "at"]
theorem sc__law_writing : FnScope N__law_writing ["pool"] (defScope s__law_writing) := ⟨rfl, rfl, rfl, by decide +kernel, rfl, by decide +kernel, by decide +kernel⟩
def t__law_writing (K : PySem.W.Frag) (sp__law_take : Sp) (sp__law_locked : Sp) (W : WX) : TS :=
    (tSeq (tAsg (tCallZ sp__law_take W (tCons (tVar 0) (tCons (tC (.int 5)) tNil))) (gName 1))
    (tSeq (tIfS (tTest (tOp rLess (tVar 1) (tC (.int 2)))) (tRet (tOp (rIx K) (tLst (tCons (tC (.str "lock clear change unlock enter commit")) (tCons (tC (.str "lock change clear unlock enter commit")) tNil))) (tVar 1))) tNext)
    (tSeq (tAsg (tLst (tCons (tC (.str "change")) (tCons (tC (.str "enter")) (tCons (tC (.str "commit")) tNil)))) (gName 2))
    (tSeq (tIfS (tTest (tOp (rSame K) (tCallZ sp__law_take W (tCons (tVar 0) (tCons (tC (.int 4)) tNil))) (tC (.int 0)))) (tAsg (tLst (tCons (tC (.str "change")) (tCons (tC (.str "commit")) (tCons (tC (.str "enter")) tNil)))) (gName 2)) tNext)
    (tSeq (tIfS (tTest (tOp rMore (tCallZ sp__law_take W (tCons (tVar 0) (tCons (tC (.int 6)) tNil))) (tC (.int 0)))) (tSeq (tAsg (tCallZ sp__law_take W (tCons (tVar 0) (tCons (tC (.int 4)) tNil))) (gName 3))
    (tAsg (tOp rPlus (tOp rPlus (tSl (rSlL K) (tVar 2) tNoPart (tPart (tVar 3))) (tLst (tCons (tC (.str "clear")) tNil))) (tSl (rSlL K) (tVar 2) (tPart (tVar 3)) tNoPart)) (gName 2))) tNext)
    (tRet (tM1 (rJoin K) (tC (.str " ")) (tCallZ sp__law_locked W (tCons (tVar 0) (tCons (tVar 2) tNil))))))))))
theorem d__law_writing {sp__law_take : Sp} {sp__law_locked : Sp} (T : Txt P w K mg a_WRITER_WORDS a_CLEANER_WORDS a_READER_WORDS a_PARTS a_Book a_BadText a_BadBook a_UnknownPart a_PagesError a_CHOICES a_CHOICES_0 a_CHOICES_1) (I__law_take : FnZ P w K mg base 1 "_law_take" ["pool", "many"] sp__law_take) (I__law_locked : FnZ P w K mg base 2 "_law_locked" ["pool", "row"] sp__law_locked) (f : Addr) (cdv : Value) (A : Around) (outer : List Env) (s : Shared) (H : Hp) (E : XK) (hr : TP.Room 2 (A.deeper (envOfC "_law_writing" (defScope s__law_writing) s.heap.objs.size f cdv))) :
    PSs (cxOf (L2.CX P w) P w K mg base N__law_writing "_law_writing" (defScope s__law_writing) f cdv A outer s H E) (defBody s__law_writing) (t__law_writing K sp__law_take sp__law_locked (wOut E)) :=
  have nd := sc__law_writing.nd
  have tk : Takes (cxOf (L2.CX P w) P w K mg base N__law_writing "_law_writing" (defScope s__law_writing) f cdv A outer s H E) (wOut E) := takes_of rfl rfl rfl rfl
  have po : PassesOwn (model P w) (cxOf (L2.CX P w) P w K mg base N__law_writing "_law_writing" (defScope s__law_writing) f cdv A outer s H E).A (cxOf (L2.CX P w) P w K mg base N__law_writing "_law_writing" (defScope s__law_writing) f cdv A outer s H E).env (cxOf (L2.CX P w) P w K mg base N__law_writing "_law_writing" (defScope s__law_writing) f cdv A outer s H E).xe := passes_of rfl
  (pss_cons (ps_asg (pe_callZ I__law_take hr (by decide) tk (pa_cons (pv 0) (pa_cons pe_int pa_nil))) (pg_name (i := 1) nd rfl (Or.inl rfl)))
    (pss_cons (ps_if (pt_cmpR op_less (pv 1) pe_int (nomark _)) (pss_one (ps_ret (pe_ix ix_seq (pe_lst (pa_cons pe_str (pa_cons pe_str pa_nil))) (pv 1) (fun _ _ => rfl)))) pss_nil)
    (pss_cons (ps_asg (pe_lst (pa_cons pe_str (pa_cons pe_str (pa_cons pe_str pa_nil)))) (pg_name (i := 2) nd rfl (Or.inl rfl)))
    (pss_cons (ps_if (pt_cmpR (op_same hr.units) (pe_callZ I__law_take hr (by decide) tk (pa_cons (pv 0) (pa_cons pe_int pa_nil))) pe_int (nomark _)) (pss_one (ps_asg (pe_lst (pa_cons pe_str (pa_cons pe_str (pa_cons pe_str pa_nil)))) (pg_name (i := 2) nd rfl (Or.inl rfl)))) pss_nil)
    (pss_cons (ps_if (pt_cmpR op_more (pe_callZ I__law_take hr (by decide) tk (pa_cons (pv 0) (pa_cons pe_int pa_nil))) pe_int (nomark _)) (pss_cons (ps_asg (pe_callZ I__law_take hr (by decide) tk (pa_cons (pv 0) (pa_cons pe_int pa_nil))) (pg_name (i := 3) nd rfl (Or.inl rfl)))
    (pss_one (ps_asg (pe_op op_plus (pe_op op_plus (pe_slice sl_list (pv 2) po_none (po_some (pv 3))) (pe_lst (pa_cons pe_str pa_nil))) (pe_slice sl_list (pv 2) (po_some (pv 3)) po_none)) (pg_name (i := 2) nd rfl (Or.inl rfl))))) pss_nil)
    (pss_one (ps_ret (pe_join pe_str (pe_callZ I__law_locked hr (by decide) tk (pa_cons (pv 0) (pa_cons (pv 2) pa_nil)))))))))))
abbrev s__law_cleaning : Stmt := (topS 32)
abbrev N__law_cleaning : List Str := ["pool", "row"]
theorem sc__law_cleaning : FnScope N__law_cleaning ["pool"] (defScope s__law_cleaning) := ⟨rfl, rfl, rfl, by decide +kernel, rfl, by decide +kernel, by decide +kernel⟩
def t__law_cleaning (K : PySem.W.Frag) (sp__law_take : Sp) (sp__law_locked : Sp) (W : WX) : TS :=
    (tSeq (tIfS (tTest (tOp (rSame K) (tCallZ sp__law_take W (tCons (tVar 0) (tCons (tC (.int 3)) tNil))) (tC (.int 0)))) (tRet (tC (.str "lock remove look set unlock"))) tNext)
    (tSeq (tAsg (tLst (tCons (tC (.str "look")) (tCons (tC (.str "set")) tNil))) (gName 1))
    (tSeq (tIfS (tTest (tOp (rSame K) (tCallZ sp__law_take W (tCons (tVar 0) (tCons (tC (.int 2)) tNil))) (tC (.int 0)))) (tAsg (tOp rPlus (tLst (tCons (tC (.str "remove")) tNil)) (tVar 1)) (gName 1)) tNext)
    (tSeq (tIfS (tTest (tOp (rSame K) (tCallZ sp__law_take W (tCons (tVar 0) (tCons (tC (.int 3)) tNil))) (tC (.int 0)))) (tAsg (tOp rPlus (tVar 1) (tLst (tCons (tC (.str "again")) tNil))) (gName 1)) tNext)
    (tRet (tM1 (rJoin K) (tC (.str " ")) (tCallZ sp__law_locked W (tCons (tVar 0) (tCons (tVar 1) tNil)))))))))
theorem d__law_cleaning {sp__law_take : Sp} {sp__law_locked : Sp} (T : Txt P w K mg a_WRITER_WORDS a_CLEANER_WORDS a_READER_WORDS a_PARTS a_Book a_BadText a_BadBook a_UnknownPart a_PagesError a_CHOICES a_CHOICES_0 a_CHOICES_1) (I__law_take : FnZ P w K mg base 1 "_law_take" ["pool", "many"] sp__law_take) (I__law_locked : FnZ P w K mg base 2 "_law_locked" ["pool", "row"] sp__law_locked) (f : Addr) (cdv : Value) (A : Around) (outer : List Env) (s : Shared) (H : Hp) (E : XK) (hr : TP.Room 2 (A.deeper (envOfC "_law_cleaning" (defScope s__law_cleaning) s.heap.objs.size f cdv))) :
    PSs (cxOf (L2.CX P w) P w K mg base N__law_cleaning "_law_cleaning" (defScope s__law_cleaning) f cdv A outer s H E) (defBody s__law_cleaning) (t__law_cleaning K sp__law_take sp__law_locked (wOut E)) :=
  have nd := sc__law_cleaning.nd
  have tk : Takes (cxOf (L2.CX P w) P w K mg base N__law_cleaning "_law_cleaning" (defScope s__law_cleaning) f cdv A outer s H E) (wOut E) := takes_of rfl rfl rfl rfl
  have po : PassesOwn (model P w) (cxOf (L2.CX P w) P w K mg base N__law_cleaning "_law_cleaning" (defScope s__law_cleaning) f cdv A outer s H E).A (cxOf (L2.CX P w) P w K mg base N__law_cleaning "_law_cleaning" (defScope s__law_cleaning) f cdv A outer s H E).env (cxOf (L2.CX P w) P w K mg base N__law_cleaning "_law_cleaning" (defScope s__law_cleaning) f cdv A outer s H E).xe := passes_of rfl
  (pss_cons (ps_if (pt_cmpR (op_same hr.units) (pe_callZ I__law_take hr (by decide) tk (pa_cons (pv 0) (pa_cons pe_int pa_nil))) pe_int (nomark _)) (pss_one (ps_ret pe_str)) pss_nil)
    (pss_cons (ps_asg (pe_lst (pa_cons pe_str (pa_cons pe_str pa_nil))) (pg_name (i := 1) nd rfl (Or.inl rfl)))
    (pss_cons (ps_if (pt_cmpR (op_same hr.units) (pe_callZ I__law_take hr (by decide) tk (pa_cons (pv 0) (pa_cons pe_int pa_nil))) pe_int (nomark _)) (pss_one (ps_asg (pe_op op_plus (pe_lst (pa_cons pe_str pa_nil)) (pv 1)) (pg_name (i := 1) nd rfl (Or.inl rfl)))) pss_nil)
    (pss_cons (ps_if (pt_cmpR (op_same hr.units) (pe_callZ I__law_take hr (by decide) tk (pa_cons (pv 0) (pa_cons pe_int pa_nil))) pe_int (nomark _)) (pss_one (ps_asg (pe_op op_plus (pv 1) (pe_lst (pa_cons pe_str pa_nil))) (pg_name (i := 1) nd rfl (Or.inl rfl)))) pss_nil)
    (pss_one (ps_ret (pe_join pe_str (pe_callZ I__law_locked hr (by decide) tk (pa_cons (pv 0) (pa_cons (pv 1) pa_nil))))))))))
abbrev s__law_reading : Stmt := (topS 33)
abbrev N__law_reading : List Str := ["pool", "rows"]
theorem sc__law_reading : FnScope N__law_reading ["pool"] (defScope s__law_reading) := ⟨rfl, rfl, rfl, by decide +kernel, rfl, by decide +kernel, by decide +kernel⟩
def t__law_reading (K : PySem.W.Frag) (sp__law_take : Sp) (W : WX) : TS :=
    (tSeq (tAsg (tLst (tCons (tC (.str "hold entry mark")) (tCons (tC (.str "hold mark entry")) (tCons (tC (.str "entry hold mark")) (tCons (tC (.str "entry mark hold")) (tCons (tC (.str "mark hold entry")) tNil)))))) (gName 1))
    (tSeq (tAsg (tOp rPlus (tVar 1) (tLst (tCons (tC (.str "mark entry hold")) (tCons (tC (.str "take tell entry mark")) (tCons (tC (.str "take entry tell mark")) (tCons (tC (.str "take entry mark tell")) tNil)))))) (gName 1))
    (tSeq (tAsg (tOp rPlus (tVar 1) (tLst (tCons (tC (.str "take mark tell entry")) (tCons (tC (.str "entry take tell mark")) (tCons (tC (.str "mark take entry tell")) (tCons (tC (.str "take tell mark entry")) tNil)))))) (gName 1))
    (tSeq (tAsg (tOp rPlus (tVar 1) (tLst (tCons (tC (.str "take mark entry tell")) (tCons (tC (.str "mark take tell entry")) (tCons (tC (.str "entry take mark tell")) tNil))))) (gName 1))
    (tSeq (tAsg (tOp rPlus (tVar 1) (tLst (tCons (tC (.str "entry mark take tell")) (tCons (tC (.str "mark entry take tell")) tNil)))) (gName 1))
    (tRet (tOp rPlus (tOp (rIx K) (tVar 1) (tOp rTimes (tCallZ sp__law_take W (tCons (tVar 0) (tCons (tC (.int 18)) tNil))) (tCB rInt1 (tCons (tOp (rSame K) (tCallZ sp__law_take W (tCons (tVar 0) (tCons (tC (.int 2)) tNil))) (tC (.int 0))) tNil)))) (tC (.str " page")))))))))
theorem d__law_reading {sp__law_take : Sp} (T : Txt P w K mg a_WRITER_WORDS a_CLEANER_WORDS a_READER_WORDS a_PARTS a_Book a_BadText a_BadBook a_UnknownPart a_PagesError a_CHOICES a_CHOICES_0 a_CHOICES_1) (I__law_take : FnZ P w K mg base 1 "_law_take" ["pool", "many"] sp__law_take) (f : Addr) (cdv : Value) (A : Around) (outer : List Env) (s : Shared) (H : Hp) (E : XK) (hr : TP.Room 1 (A.deeper (envOfC "_law_reading" (defScope s__law_reading) s.heap.objs.size f cdv))) :
    PSs (cxOf (L2.CX P w) P w K mg base N__law_reading "_law_reading" (defScope s__law_reading) f cdv A outer s H E) (defBody s__law_reading) (t__law_reading K sp__law_take (wOut E)) :=
  have nd := sc__law_reading.nd
  have tk : Takes (cxOf (L2.CX P w) P w K mg base N__law_reading "_law_reading" (defScope s__law_reading) f cdv A outer s H E) (wOut E) := takes_of rfl rfl rfl rfl
  have po : PassesOwn (model P w) (cxOf (L2.CX P w) P w K mg base N__law_reading "_law_reading" (defScope s__law_reading) f cdv A outer s H E).A (cxOf (L2.CX P w) P w K mg base N__law_reading "_law_reading" (defScope s__law_reading) f cdv A outer s H E).env (cxOf (L2.CX P w) P w K mg base N__law_reading "_law_reading" (defScope s__law_reading) f cdv A outer s H E).xe := passes_of rfl
  (pss_cons (ps_asg (pe_lst (pa_cons pe_str (pa_cons pe_str (pa_cons pe_str (pa_cons pe_str (pa_cons pe_str pa_nil)))))) (pg_name (i := 1) nd rfl (Or.inl rfl)))
    (pss_cons (ps_asg (pe_op op_plus (pv 1) (pe_lst (pa_cons pe_str (pa_cons pe_str (pa_cons pe_str (pa_cons pe_str pa_nil)))))) (pg_name (i := 1) nd rfl (Or.inl rfl)))
    (pss_cons (ps_asg (pe_op op_plus (pv 1) (pe_lst (pa_cons pe_str (pa_cons pe_str (pa_cons pe_str (pa_cons pe_str pa_nil)))))) (pg_name (i := 1) nd rfl (Or.inl rfl)))
    (pss_cons (ps_asg (pe_op op_plus (pv 1) (pe_lst (pa_cons pe_str (pa_cons pe_str (pa_cons pe_str pa_nil))))) (pg_name (i := 1) nd rfl (Or.inl rfl)))
    (pss_cons (ps_asg (pe_op op_plus (pv 1) (pe_lst (pa_cons pe_str (pa_cons pe_str pa_nil)))) (pg_name (i := 1) nd rfl (Or.inl rfl)))
    (pss_one (ps_ret (pe_op op_plus (pe_ix ix_seq (pv 1) (pe_op op_times (pe_callZ I__law_take hr (by decide) tk (pa_cons (pv 0) (pa_cons pe_int pa_nil))) (pe_callTy cr_int1 (by rfl) T.n_int (by decide +kernel) (pa_cons (pe_cmpR (op_same hr.units) (pe_callZ I__law_take hr (by decide) tk (pa_cons (pv 0) (pa_cons pe_int pa_nil))) pe_int (nomark _)) pa_nil))) (fun _ _ => rfl)) pe_str))))))))
abbrev s__law_parts : Stmt := (topS 34)
abbrev N__law_parts : List Str := ["pool", "p", "k"]
theorem sc__law_parts : FnScope N__law_parts ["pool"] (defScope s__law_parts) := ⟨rfl, rfl, rfl, by decide +kernel, rfl, by decide +kernel, by decide +kernel⟩
def t__law_parts (K : PySem.W.Frag) (sp__law_take : Sp) (sp__law_writing : Sp) (sp__law_cleaning : Sp) (sp__law_reading : Sp) (W : WX) : TS :=
    (tSeq (tAsg (tLst (tCons (tCallZ sp__law_writing W (tCons (tVar 0) tNil)) (tCons (tCallZ sp__law_cleaning W (tCons (tVar 0) tNil)) (tCons (tCallZ sp__law_reading W (tCons (tVar 0) tNil)) tNil)))) (gName 1))
    (tSeq (tDrop (tBM K "list" rAppend (tVar 1) (tCons (tOp (rIx K) (tLst (tCons (tC (.str "all")) (tCons (tC (.str "all")) (tCons (tC (.str "none")) tNil)))) (tCallZ sp__law_take W (tCons (tVar 0) (tCons (tC (.int 3)) tNil)))) tNil)))
    (tSeq (tFor (iRng1 (tCons (tC (.int 7)) tNil)) (gName 2) (tDrop (tBM K "list" rAppend (tVar 1) (tCons (tOp rMore (tCallZ sp__law_take W (tCons (tVar 0) (tCons (tC (.int 3)) tNil))) (tC (.int 0))) tNil))))
    (tRet (tOp rPlus (tVar 1) (tLst (tCons (tOp (rIx K) (tLst (tCons (tC (.str "trust")) (tCons (tC (.str "wait")) (tCons (tC (.str "wait")) (tCons (tC (.str "look")) tNil))))) (tCallZ sp__law_take W (tCons (tVar 0) (tCons (tC (.int 4)) tNil)))) tNil)))))))
theorem d__law_parts {sp__law_take : Sp} {sp__law_writing : Sp} {sp__law_cleaning : Sp} {sp__law_reading : Sp} (T : Txt P w K mg a_WRITER_WORDS a_CLEANER_WORDS a_READER_WORDS a_PARTS a_Book a_BadText a_BadBook a_UnknownPart a_PagesError a_CHOICES a_CHOICES_0 a_CHOICES_1) (I__law_take : FnZ P w K mg base 1 "_law_take" ["pool", "many"] sp__law_take) (I__law_writing : FnZ P w K mg base 3 "_law_writing" ["pool"] sp__law_writing) (I__law_cleaning : FnZ P w K mg base 3 "_law_cleaning" ["pool"] sp__law_cleaning) (I__law_reading : FnZ P w K mg base 2 "_law_reading" ["pool"] sp__law_reading) (f : Addr) (cdv : Value) (A : Around) (outer : List Env) (s : Shared) (H : Hp) (E : XK) (hr : TP.Room 3 (A.deeper (envOfC "_law_parts" (defScope s__law_parts) s.heap.objs.size f cdv))) :
    PSs (cxOf (L2.CX P w) P w K mg base N__law_parts "_law_parts" (defScope s__law_parts) f cdv A outer s H E) (defBody s__law_parts) (t__law_parts K sp__law_take sp__law_writing sp__law_cleaning sp__law_reading (wOut E)) :=
  have nd := sc__law_parts.nd
  have tk : Takes (cxOf (L2.CX P w) P w K mg base N__law_parts "_law_parts" (defScope s__law_parts) f cdv A outer s H E) (wOut E) := takes_of rfl rfl rfl rfl
  have po : PassesOwn (model P w) (cxOf (L2.CX P w) P w K mg base N__law_parts "_law_parts" (defScope s__law_parts) f cdv A outer s H E).A (cxOf (L2.CX P w) P w K mg base N__law_parts "_law_parts" (defScope s__law_parts) f cdv A outer s H E).env (cxOf (L2.CX P w) P w K mg base N__law_parts "_law_parts" (defScope s__law_parts) f cdv A outer s H E).xe := passes_of rfl
  (pss_cons (ps_asg (pe_lst (pa_cons (pe_callZ I__law_writing hr (by decide) tk (pa_cons (pv 0) pa_nil)) (pa_cons (pe_callZ I__law_cleaning hr (by decide) tk (pa_cons (pv 0) pa_nil)) (pa_cons (pe_callZ I__law_reading hr (by decide) tk (pa_cons (pv 0) pa_nil)) pa_nil)))) (pg_name (i := 1) nd rfl (Or.inl rfl)))
    (pss_cons (ps_expr (pe_bm PySem.F.plainAttrs_list PySem.F.slot_list_append PySem.F.type_list_append mt_append (pv 1) (pa_cons (pe_ix ix_seq (pe_lst (pa_cons pe_str (pa_cons pe_str (pa_cons pe_str pa_nil)))) (pe_callZ I__law_take hr (by decide) tk (pa_cons (pv 0) (pa_cons pe_int pa_nil))) (fun _ _ => rfl)) pa_nil)))
    (pss_cons (ps_for po rfl (pi_range1 (by rfl) T.n_range (pa_cons pe_int pa_nil)) (pg_name (i := 2) nd rfl (Or.inl rfl)) (pss_one (ps_expr (pe_bm PySem.F.plainAttrs_list PySem.F.slot_list_append PySem.F.type_list_append mt_append (pv 1) (pa_cons (pe_cmpR op_more (pe_callZ I__law_take hr (by decide) tk (pa_cons (pv 0) (pa_cons pe_int pa_nil))) pe_int (nomark _)) pa_nil)))))
    (pss_one (ps_ret (pe_op op_plus (pv 1) (pe_lst (pa_cons (pe_ix ix_seq (pe_lst (pa_cons pe_str (pa_cons pe_str (pa_cons pe_str (pa_cons pe_str pa_nil))))) (pe_callZ I__law_take hr (by decide) tk (pa_cons (pv 0) (pa_cons pe_int pa_nil))) (fun _ _ => rfl)) pa_nil))))))))
abbrev s__law_names : Stmt := (topS 36)
abbrev N__law_names : List Str := ["row"]
theorem sc__law_names : FnScope N__law_names [] (defScope s__law_names) := ⟨rfl, rfl, rfl, by decide +kernel, rfl, by decide +kernel, by decide +kernel⟩
def t__law_names (K : PySem.W.Frag) (W : WX) : TS :=
    (tSeq (tAsg (tLst (tCons (tC (.str "writer")) (tCons (tC (.str "cleaner")) (tCons (tC (.str "reader")) (tCons (tC (.str "horizon")) (tCons (tC (.str "pins")) (tCons (tC (.str "cleared")) (tCons (tC (.str "sets")) (tCons (tC (.str "force")) tNil))))))))) (gName 0))
    (tRet (tOp rPlus (tVar 0) (tLst (tCons (tC (.str "ahead")) (tCons (tC (.str "first")) (tCons (tC (.str "waits")) (tCons (tC (.str "follower")) tNil))))))))
theorem d__law_names (T : Txt P w K mg a_WRITER_WORDS a_CLEANER_WORDS a_READER_WORDS a_PARTS a_Book a_BadText a_BadBook a_UnknownPart a_PagesError a_CHOICES a_CHOICES_0 a_CHOICES_1) (f : Addr) (cdv : Value) (A : Around) (outer : List Env) (s : Shared) (H : Hp) (E : XK) (hr : TP.Room 0 (A.deeper (envOfC "_law_names" (defScope s__law_names) s.heap.objs.size f cdv))) :
    PSs (cxOf (L2.CX P w) P w K mg base N__law_names "_law_names" (defScope s__law_names) f cdv A outer s H E) (defBody s__law_names) (t__law_names K (wOut E)) :=
  have nd := sc__law_names.nd
  have tk : Takes (cxOf (L2.CX P w) P w K mg base N__law_names "_law_names" (defScope s__law_names) f cdv A outer s H E) (wOut E) := takes_of rfl rfl rfl rfl
  have po : PassesOwn (model P w) (cxOf (L2.CX P w) P w K mg base N__law_names "_law_names" (defScope s__law_names) f cdv A outer s H E).A (cxOf (L2.CX P w) P w K mg base N__law_names "_law_names" (defScope s__law_names) f cdv A outer s H E).env (cxOf (L2.CX P w) P w K mg base N__law_names "_law_names" (defScope s__law_names) f cdv A outer s H E).xe := passes_of rfl
  (pss_cons (ps_asg (pe_lst (pa_cons pe_str (pa_cons pe_str (pa_cons pe_str (pa_cons pe_str (pa_cons pe_str (pa_cons pe_str (pa_cons pe_str (pa_cons pe_str pa_nil))))))))) (pg_name (i := 0) nd rfl (Or.inl rfl)))
    (pss_one (ps_ret (pe_op op_plus (pv 0) (pe_lst (pa_cons pe_str (pa_cons pe_str (pa_cons pe_str (pa_cons pe_str pa_nil)))))))))
abbrev s__law_lines : Stmt := (topS 37)
abbrev N__law_lines : List Str := ["p", "rows", "at", "worth"]
theorem sc__law_lines : FnScope N__law_lines ["p"] (defScope s__law_lines) := ⟨rfl, rfl, rfl, by decide +kernel, rfl, by decide +kernel, by decide +kernel⟩
def t__law_lines (K : PySem.W.Frag) (sp__law_names : Sp) (W : WX) : TS :=
    (tSeq (tAsg (tLst tNil) (gName 1))
    (tSeq (tFor (iRng1 (tCons (tC (.int 12)) tNil)) (gName 2) (tSeq (tAsg (tOp (rIx K) (tVar 0) (tVar 2)) (gName 3))
    (tSeq (tIfS (tB (tCB (rIsi K) (tCons (tVar 3) (tCons (tC (.ty "bool")) tNil)))) (tAsg (tOp (rIx K) (tLst (tCons (tC (.str "no")) (tCons (tC (.str "yes")) tNil))) (tCB rInt1 (tCons (tVar 3) tNil))) (gName 3)) tNext)
    (tDrop (tBM K "list" rAppend (tVar 1) (tCons (tOp rPlus (tOp rPlus (tOp (rIx K) (tCallZ sp__law_names W tNil) (tVar 2)) (tC (.str " = "))) (tVar 3)) tNil))))))
    (tRet (tVar 1))))
theorem d__law_lines {sp__law_names : Sp} (T : Txt P w K mg a_WRITER_WORDS a_CLEANER_WORDS a_READER_WORDS a_PARTS a_Book a_BadText a_BadBook a_UnknownPart a_PagesError a_CHOICES a_CHOICES_0 a_CHOICES_1) (I__law_names : FnZ P w K mg base 1 "_law_names" [] sp__law_names) (f : Addr) (cdv : Value) (A : Around) (outer : List Env) (s : Shared) (H : Hp) (E : XK) (hr : TP.Room 1 (A.deeper (envOfC "_law_lines" (defScope s__law_lines) s.heap.objs.size f cdv))) :
    PSs (cxOf (L2.CX P w) P w K mg base N__law_lines "_law_lines" (defScope s__law_lines) f cdv A outer s H E) (defBody s__law_lines) (t__law_lines K sp__law_names (wOut E)) :=
  have nd := sc__law_lines.nd
  have tk : Takes (cxOf (L2.CX P w) P w K mg base N__law_lines "_law_lines" (defScope s__law_lines) f cdv A outer s H E) (wOut E) := takes_of rfl rfl rfl rfl
  have po : PassesOwn (model P w) (cxOf (L2.CX P w) P w K mg base N__law_lines "_law_lines" (defScope s__law_lines) f cdv A outer s H E).A (cxOf (L2.CX P w) P w K mg base N__law_lines "_law_lines" (defScope s__law_lines) f cdv A outer s H E).env (cxOf (L2.CX P w) P w K mg base N__law_lines "_law_lines" (defScope s__law_lines) f cdv A outer s H E).xe := passes_of rfl
  (pss_cons (ps_asg (pe_lst pa_nil) (pg_name (i := 1) nd rfl (Or.inl rfl)))
    (pss_cons (ps_for po rfl (pi_range1 (by rfl) T.n_range (pa_cons pe_int pa_nil)) (pg_name (i := 2) nd rfl (Or.inl rfl)) (pss_cons (ps_asg (pe_ix ix_seq (pv 0) (pv 2) (fun _ _ => rfl)) (pg_name (i := 3) nd rfl (Or.inl rfl)))
    (pss_cons (ps_if (pt_val (pe_callB call_isi (by rfl) T.n_isinstance (by decide +kernel) (pa_cons (pv 3) (pa_cons (pe_bltn (by rfl) T.n_bool boot_bool rfl) pa_nil)))) (pss_one (ps_asg (pe_ix ix_seq (pe_lst (pa_cons pe_str (pa_cons pe_str pa_nil))) (pe_callTy cr_int1 (by rfl) T.n_int (by decide +kernel) (pa_cons (pv 3) pa_nil)) (fun _ _ => rfl)) (pg_name (i := 3) nd rfl (Or.inl rfl)))) pss_nil)
    (pss_one (ps_expr (pe_bm PySem.F.plainAttrs_list PySem.F.slot_list_append PySem.F.type_list_append mt_append (pv 1) (pa_cons (pe_op op_plus (pe_op op_plus (pe_ix ix_seq (pe_callZ0 I__law_names hr (by decide) tk) (pv 2) (fun _ _ => rfl)) pe_str) (pv 3)) pa_nil)))))))
    (pss_one (ps_ret (pv 1)))))
abbrev s__law_refused : Stmt := (topS 38)
abbrev N__law_refused : List Str := ["text", "e"]
theorem sc__law_refused : FnScope N__law_refused ["text"] (defScope s__law_refused) := ⟨rfl, rfl, rfl, by decide +kernel, rfl, by decide +kernel, by decide +kernel⟩
def t__law_refused (K : PySem.W.Frag) (a_BadText : Addr) (a_PagesError : Addr) (sp_read_book : Sp) (W : WX) : TS :=
    (tSeq (tTry (fun W1 => (tDrop (tCallZ sp_read_book W1 (tCons (tVar 0) tNil))))
    (fun D => wAs K (.ref a_PagesError) 1 (fun xa cls d => (tRet (tIf (tB (tCB (rIsX K xa cls d) (tCons (tVar 1) (tCons (tC (.ref a_BadText)) tNil)))) (tLst (tCons (tXf xa cls d a_BadText "at" (tVar 1)) tNil)) (tLst (tCons (tUn rNeg (tC (.int 1))) tNil))))) W D))
    (tRet (tLst tNil)))
theorem d__law_refused {sp_read_book : Sp} (T : Txt P w K mg a_WRITER_WORDS a_CLEANER_WORDS a_READER_WORDS a_PARTS a_Book a_BadText a_BadBook a_UnknownPart a_PagesError a_CHOICES a_CHOICES_0 a_CHOICES_1) (I_read_book : FnZ P w K mg base 7 "read_book" ["text"] sp_read_book) (f : Addr) (cdv : Value) (A : Around) (outer : List Env) (s : Shared) (H : Hp) (E : XK) (hr : TP.Room 7 (A.deeper (envOfC "_law_refused" (defScope s__law_refused) s.heap.objs.size f cdv))) :
    PSs (cxOf (L2.CX P w) P w K mg base N__law_refused "_law_refused" (defScope s__law_refused) f cdv A outer s H E) (defBody s__law_refused) (t__law_refused K a_BadText a_PagesError sp_read_book (wOut E)) :=
  have nd := sc__law_refused.nd
  have tk : Takes (cxOf (L2.CX P w) P w K mg base N__law_refused "_law_refused" (defScope s__law_refused) f cdv A outer s H E) (wOut E) := takes_of rfl rfl rfl rfl
  have po : PassesOwn (model P w) (cxOf (L2.CX P w) P w K mg base N__law_refused "_law_refused" (defScope s__law_refused) f cdv A outer s H E).A (cxOf (L2.CX P w) P w K mg base N__law_refused "_law_refused" (defScope s__law_refused) f cdv A outer s H E).env (cxOf (L2.CX P w) P w K mg base N__law_refused "_law_refused" (defScope s__law_refused) f cdv A outer s H E).xe := passes_of rfl
  (pss_cons (ps_try_as (i := 1) (tb := fun W1 => (tDrop (tCallZ sp_read_book W1 (tCons (tVar 0) tNil)))) (ts := fun xa cls d => (tRet (tIf (tB (tCB (rIsX K xa cls d) (tCons (tVar 1) (tCons (tC (.ref a_BadText)) tNil)))) (tLst (tCons (tXf xa cls d a_BadText "at" (tVar 1)) tNil)) (tLst (tCons (tUn rNeg (tC (.int 1))) tNil))))) rfl rfl nd rfl rfl (by exact ⟨rfl, by decide, .inl T.g_PagesError⟩) tk (fun W1 pn xe tk1 po1 => (pss_one (ps_expr (pe_callZ I_read_book hr (by decide) tk1 (pa_cons (pv 0) pa_nil)))))
    (fun xa oe cls d pn hz hf => (pss_one (ps_ret (pe_ifExp (pt_val (pe_callB (call_isX hz hf) (by rfl) T.n_isinstance (by decide +kernel) (pa_cons (pv 1) (pa_cons (pe_globA T.g_BadText) pa_nil)))) (pe_lst (pa_cons (pe_xf T.e_BadText.xf T.e_BadText.no hz hf (pv 1)) pa_nil)) (pe_lst (pa_cons (pe_un un_minus pe_int) pa_nil)))))))
    (pss_one (ps_ret (pe_lst pa_nil))))
abbrev s_law : Stmt := (topS 39)
abbrev N_law : List Str := ["script", "k", "pool", "rows", "at", "line", "name", "some", "bad", "to", "odd"]
theorem sc_law : FnScope N_law ["script"] (defScope s_law) := ⟨rfl, rfl, rfl, by decide +kernel, rfl, by decide +kernel, by decide +kernel⟩
def t_law (K : PySem.W.Frag) (sp__law_pool : Sp) (sp__law_take : Sp) (sp__law_parts : Sp) (sp__law_names : Sp) (sp__law_lines : Sp) (sp__law_refused : Sp) (W : WX) : TS :=
    (tSeq (tFor (iRng1 (tCons (tCB rMx2 (tCons (tC (.int 1)) (tCons (tCB rMn2 (tCons (tC (.int 8)) (tCons (tCB (TP.rLen K) (tCons (tVar 0) tNil)) tNil))) tNil))) tNil)) (gName 1) (tSeq (tAsg (tCallZ sp__law_pool W (tCons (tVar 0) (tCons (tVar 1) tNil))) (gName 2))
    (tSeq (tAsg (tCallZ sp__law_lines W (tCons (tCallZ sp__law_parts W (tCons (tVar 2) tNil)) tNil)) (gName 3))
    (tSeq (tAsg (tCallZ sp__law_take W (tCons (tVar 2) (tCons (tC (.int 12)) tNil))) (gName 4))
    (tSeq (tPar 5 6 (tCons (tOp (rIx K) (tVar 3) (tVar 4)) (tCons (tOp (rIx K) (tCallZ sp__law_names W tNil) (tVar 4)) tNil)))
    (tSeq (tAsg (tLst (tCons (tOp rPlus (tVar 5) (tC (.str " "))) (tCons (tOp rPlus (tC (.str " ")) (tVar 5)) (tCons (CwR.tReplC (tVar 5) " = " "=") (tCons (CwR.tReplC (tVar 5) " = " " =  ") tNil))))) (gName 7))
    (tSeq (tAsg (tOp rPlus (tVar 7) (tLst (tCons (tM0 MR.rUp (tVar 5)) tNil))) (gName 7))
    (tSeq (tAsg (tOp rPlus (tVar 7) (tLst (tCons (tVar 6) (tCons (tOp rPlus (tVar 6) (tC (.str " = "))) (tCons (tOp rPlus (tVar 6) (tC (.str " = maybe"))) (tCons (tC (.str "part = yes")) (tCons (tC (.str "")) (tCons (tOp rPlus (tVar 6) (tC (.str " = True"))) tNil)))))))) (gName 7))
    (tSeq (tAsg (tOp rPlus (tVar 7) (tLst (tCons (tOp rPlus (tVar 5) (tC (.str "	"))) tNil))) (gName 7))
    (tSeq (tFor (iList K (tVar 7)) (gName 8) (tIfS (tTest (tOp (rUnlike K) (tCallZ sp__law_refused W (tCons (tM1 (rJoin K) (tC (.str "\n")) (tOp rPlus (tOp rPlus (tSl (rSlL K) (tVar 3) tNoPart (tPart (tVar 4))) (tLst (tCons (tVar 8) tNil))) (tSl (rSlL K) (tVar 3) (tPart (tOp rPlus (tVar 4) (tC (.int 1)))) tNoPart))) tNil)) (tLst (tCons (tVar 4) tNil)))) (tRet (tC (.bl false))) tNext))
    (tSeq (tAsg (tCallZ sp__law_take W (tCons (tVar 2) (tCons (tC (.int 12)) tNil))) (gName 9))
    (tSeq (tIfS (tTest (tOp (rUnlike K) (tCallZ sp__law_refused W (tCons (tM1 (rJoin K) (tC (.str "\n")) (tOp rPlus (tOp rPlus (tSl (rSlL K) (tVar 3) tNoPart (tPart (tVar 9))) (tLst (tCons (tVar 5) tNil))) (tSl (rSlL K) (tVar 3) (tPart (tVar 9)) tNoPart))) tNil)) (tLst (tCons (tOp rPlus (tCB rMx2 (tCons (tCB rInt1 (tCons (tVar 4) tNil)) (tCons (tOp rMinus (tCB rInt1 (tCons (tVar 9) tNil)) (tC (.int 1))) tNil))) (tC (.int 1))) tNil)))) (tRet (tC (.bl false))) tNext)
    (tSeq (tIfS (tOr (tTest (tOp (rUnlike K) (tCallZ sp__law_refused W (tCons (tM1 (rJoin K) (tC (.str "\n")) (tOp rPlus (tSl (rSlL K) (tVar 3) tNoPart (tPart (tVar 4))) (tSl (rSlL K) (tVar 3) (tPart (tOp rPlus (tVar 4) (tC (.int 1)))) tNoPart))) tNil)) (tLst (tCons (tC (.int 11)) tNil)))) (tTest (tOp (rUnlike K) (tCallZ sp__law_refused W (tCons (tOp rPlus (tM1 (rJoin K) (tC (.str "\n")) (tVar 3)) (tC (.str "\n"))) tNil)) (tLst (tCons (tC (.int 12)) tNil))))) (tRet (tC (.bl false))) tNext)
    (tSeq (tFor (iList K (tLst (tCons (tC .non) (tCons (tC (.int 1)) (tCons (tC (.bl true)) (tCons (tVar 3) (tCons (tTup (tCons (tC (.str "a")) tNil)) (tCons tDNewK tNil)))))))) (gName 10) (tIfS (tTest (tOp (rUnlike K) (tCallZ sp__law_refused W (tCons (tVar 10) tNil)) (tLst (tCons (tC .non) tNil)))) (tRet (tC (.bl false))) tNext))
    (tIfS (tOr (tTest (tOp (rUnlike K) (tCallZ sp__law_refused W (tCons (tC (.str "")) tNil)) (tLst (tCons (tC (.int 0)) tNil)))) (tTest (tOp (rUnlike K) (tCallZ sp__law_refused W (tCons (tM1 (rJoin K) (tC (.str "\n")) (tVar 3)) tNil)) (tLst tNil)))) (tRet (tC (.bl false))) tNext)))))))))))))))
    (tRet (tC (.bl true))))
theorem d_law {sp__law_pool : Sp} {sp__law_take : Sp} {sp__law_parts : Sp} {sp__law_names : Sp} {sp__law_lines : Sp} {sp__law_refused : Sp} (T : Txt P w K mg a_WRITER_WORDS a_CLEANER_WORDS a_READER_WORDS a_PARTS a_Book a_BadText a_BadBook a_UnknownPart a_PagesError a_CHOICES a_CHOICES_0 a_CHOICES_1) (I__law_pool : FnZ P w K mg base 1 "_law_pool" ["script", "k"] sp__law_pool) (I__law_take : FnZ P w K mg base 1 "_law_take" ["pool", "many"] sp__law_take) (I__law_parts : FnZ P w K mg base 4 "_law_parts" ["pool"] sp__law_parts) (I__law_names : FnZ P w K mg base 1 "_law_names" [] sp__law_names) (I__law_lines : FnZ P w K mg base 2 "_law_lines" ["p"] sp__law_lines) (I__law_refused : FnZ P w K mg base 8 "_law_refused" ["text"] sp__law_refused) (f : Addr) (cdv : Value) (A : Around) (outer : List Env) (s : Shared) (H : Hp) (E : XK) (hr : TP.Room 8 (A.deeper (envOfC "law" (defScope s_law) s.heap.objs.size f cdv))) :
    PSs (cxOf (L2.CX P w) P w K mg base N_law "law" (defScope s_law) f cdv A outer s H E) (defBody s_law) (t_law K sp__law_pool sp__law_take sp__law_parts sp__law_names sp__law_lines sp__law_refused (wOut E)) :=
  have nd := sc_law.nd
  have tk : Takes (cxOf (L2.CX P w) P w K mg base N_law "law" (defScope s_law) f cdv A outer s H E) (wOut E) := takes_of rfl rfl rfl rfl
  have po : PassesOwn (model P w) (cxOf (L2.CX P w) P w K mg base N_law "law" (defScope s_law) f cdv A outer s H E).A (cxOf (L2.CX P w) P w K mg base N_law "law" (defScope s_law) f cdv A outer s H E).env (cxOf (L2.CX P w) P w K mg base N_law "law" (defScope s_law) f cdv A outer s H E).xe := passes_of rfl
  (pss_cons (ps_for po rfl (pi_range1 (by rfl) T.n_range (pa_cons (pe_callB (cr_mx2 rfl) (by rfl) T.n_max (by decide +kernel) (pa_cons pe_int (pa_cons (pe_callB (cr_mn2 rfl) (by rfl) T.n_min (by decide +kernel) (pa_cons pe_int (pa_cons (pe_callB TP.cr_len (by rfl) T.n_len (by decide +kernel) (pa_cons (pv 0) pa_nil)) pa_nil))) pa_nil))) pa_nil)) (pg_name (i := 1) nd rfl (Or.inl rfl)) (pss_cons (ps_asg (pe_callZ I__law_pool hr (by decide) tk (pa_cons (pv 0) (pa_cons (pv 1) pa_nil))) (pg_name (i := 2) nd rfl (Or.inl rfl)))
    (pss_cons (ps_asg (pe_callZ I__law_lines hr (by decide) tk (pa_cons (pe_callZ I__law_parts hr (by decide) tk (pa_cons (pv 2) pa_nil)) pa_nil)) (pg_name (i := 3) nd rfl (Or.inl rfl)))
    (pss_cons (ps_asg (pe_callZ I__law_take hr (by decide) tk (pa_cons (pv 2) (pa_cons pe_int pa_nil))) (pg_name (i := 4) nd rfl (Or.inl rfl)))
    (pss_cons (ps_par (i := 5) (j := 6) (by rfl) nd rfl rfl (by decide) rfl rfl (pa_cons (pe_ix ix_seq (pv 3) (pv 4) (fun _ _ => rfl)) (pa_cons (pe_ix ix_seq (pe_callZ0 I__law_names hr (by decide) tk) (pv 4) (fun _ _ => rfl)) pa_nil)) (by rfl))
    (pss_cons (ps_asg (pe_lst (pa_consI op_plus (pv 5) (pat_cons (pet_of (pe_op op_plus pe_str (pv 5))) (pat_cons (CwR.pet_replC (pv 5)) (pat_cons (CwR.pet_replC (pv 5)) pat_nil))))) (pg_name (i := 7) nd rfl (Or.inl rfl)))
    (pss_cons (ps_asg (pe_op op_plus (pv 7) (pe_lst (pa_cons (pe_upper (pv 5)) pa_nil))) (pg_name (i := 7) nd rfl (Or.inl rfl)))
    (pss_cons (ps_asg (pe_op op_plus (pv 7) (pe_lst (pa_cons (pv 6) (pa_cons (pe_op op_plus (pv 6) pe_str) (pa_cons (pe_op op_plus (pv 6) pe_str) (pa_cons pe_str (pa_cons pe_str (pa_cons (pe_op op_plus (pv 6) pe_str) pa_nil)))))))) (pg_name (i := 7) nd rfl (Or.inl rfl)))
    (pss_cons (ps_asg (pe_op op_plus (pv 7) (pe_lst (pa_cons (pe_op op_plus (pv 5) pe_str) pa_nil))) (pg_name (i := 7) nd rfl (Or.inl rfl)))
    (pss_cons (ps_for po rfl (pi_list (pv 7)) (pg_name (i := 8) nd rfl (Or.inl rfl)) (pss_one (ps_if (pt_cmpR (op_unlike hr.units) (pe_callZ I__law_refused hr (by decide) tk (pa_cons (pe_join pe_str (pe_op op_plus (pe_op op_plus (pe_slice sl_list (pv 3) po_none (po_some (pv 4))) (pe_lst (pa_cons (pv 8) pa_nil))) (pe_slice sl_list (pv 3) (po_some (pe_op op_plus (pv 4) pe_int)) po_none))) pa_nil)) (pe_lst (pa_cons (pv 4) pa_nil)) (nomark _)) (pss_one (ps_ret pe_bl)) pss_nil)))
    (pss_cons (ps_asg (pe_callZ I__law_take hr (by decide) tk (pa_cons (pv 2) (pa_cons pe_int pa_nil))) (pg_name (i := 9) nd rfl (Or.inl rfl)))
    (pss_cons (ps_if (pt_cmpR (op_unlike hr.units) (pe_callZ I__law_refused hr (by decide) tk (pa_cons (pe_join pe_str (pe_op op_plus (pe_op op_plus (pe_slice sl_list (pv 3) po_none (po_some (pv 9))) (pe_lst (pa_cons (pv 5) pa_nil))) (pe_slice sl_list (pv 3) (po_some (pv 9)) po_none))) pa_nil)) (pe_lst (pa_cons (pe_op op_plus (pe_callB (cr_mx2 rfl) (by rfl) T.n_max (by decide +kernel) (pa_cons (pe_callTy cr_int1 (by rfl) T.n_int (by decide +kernel) (pa_cons (pv 4) pa_nil)) (pa_cons (pe_op op_minus (pe_callTy cr_int1 (by rfl) T.n_int (by decide +kernel) (pa_cons (pv 9) pa_nil)) pe_int) pa_nil))) pe_int) pa_nil)) (nomark _)) (pss_one (ps_ret pe_bl)) pss_nil)
    (pss_cons (ps_if (PW.pt (pw_or (pt_cmpR (op_unlike hr.units) (pe_callZ I__law_refused hr (by decide) tk (pa_cons (pe_join pe_str (pe_op op_plus (pe_slice sl_list (pv 3) po_none (po_some (pv 4))) (pe_slice sl_list (pv 3) (po_some (pe_op op_plus (pv 4) pe_int)) po_none))) pa_nil)) (pe_lst (pa_cons pe_int pa_nil)) (nomark _)) (pw_or1 (pt_cmpR (op_unlike hr.units) (pe_callZ I__law_refused hr (by decide) tk (pa_cons (pe_op op_plus (pe_join pe_str (pv 3)) pe_str) pa_nil)) (pe_lst (pa_cons pe_int pa_nil)) (nomark _))))) (pss_one (ps_ret pe_bl)) pss_nil)
    (pss_cons (ps_for po rfl (pi_list (pe_lst (pa_cons pe_non (pa_cons pe_int (pa_cons pe_bl (pa_cons (pv 3) (pa_cons (pe_tup (pa_cons pe_str pa_nil)) (pa_cons pe_dnewK pa_nil)))))))) (pg_name (i := 10) nd rfl (Or.inl rfl)) (pss_one (ps_if (pt_cmpR (op_unlike hr.units) (pe_callZ I__law_refused hr (by decide) tk (pa_cons (pv 10) pa_nil)) (pe_lst (pa_cons pe_non pa_nil)) (nomark _)) (pss_one (ps_ret pe_bl)) pss_nil)))
    (pss_one (ps_if (PW.pt (pw_or (pt_cmpR (op_unlike hr.units) (pe_callZ I__law_refused hr (by decide) tk (pa_cons pe_str pa_nil)) (pe_lst (pa_cons pe_int pa_nil)) (nomark _)) (pw_or1 (pt_cmpR (op_unlike hr.units) (pe_callZ I__law_refused hr (by decide) tk (pa_cons (pe_join pe_str (pv 3)) pa_nil)) (pe_lst pa_nil) (nomark _))))) (pss_one (ps_ret pe_bl)) pss_nil))))))))))))))))
    (pss_one (ps_ret pe_bl)))
end
end Law

namespace Law
open PySem PySem.Spec PyProof.Rows L2 TP MR
noncomputable section
variable {K : PySem.W.Frag} {w : World} {a_WRITER_WORDS a_CLEANER_WORDS a_READER_WORDS a_PARTS a_Book a_BadText a_BadBook a_UnknownPart a_PagesError a_CHOICES a_CHOICES_0 a_CHOICES_1 : Addr}
abbrev Gam (w : World) (a_Book a_BadText a_BadBook a_UnknownPart a_PagesError a_CHOICES : Addr) : Gm := ⟨fun c => (match c with
  | 0 => a_Book
  | 1 => a_BadText
  | 2 => a_BadBook
  | 3 => a_UnknownPart
  | 4 => a_PagesError
  | 5 => a_CHOICES
  | _ => 0), w⟩
def t_isx_BadText : List (Nat × Bool) := [(1, true), (2, false)]
def tab_PagesError : List (Nat × Bool) := [(1, true), (2, true), (3, false)]
def vs_CHOICES : List D := [.tup [.str "all", .str "none"], .tup [.str "trust", .str "wait", .str "look"]]
def k_PARTS : D := .tup [.str "writer", .str "cleaner", .str "reader", .str "horizon", .str "pins", .str "cleared", .str "sets", .str "force", .str "ahead", .str "first", .str "waits", .str "follower"]
def k_READER_WORDS : D := .tup [.str "entry", .str "mark", .str "page", .str "hold", .str "take", .str "tell"]
def k_CLEANER_WORDS : D := .tup [.str "look", .str "set", .str "remove", .str "again", .str "lock", .str "unlock"]
def k_WRITER_WORDS : D := .tup [.str "change", .str "enter", .str "commit", .str "clear", .str "lock", .str "unlock"]
structure Cxt (K : PySem.W.Frag) (w : World) (a_WRITER_WORDS : Addr) (a_CLEANER_WORDS : Addr) (a_READER_WORDS : Addr) (a_PARTS : Addr) (a_Book : Addr) (a_BadText : Addr) (a_BadBook : Addr) (a_UnknownPart : Addr) (a_PagesError : Addr) (a_CHOICES : Addr) (a_CHOICES_0 : Addr) (a_CHOICES_1 : Addr) : Prop where
  F : ClsG K (Gam w a_Book a_BadText a_BadBook a_UnknownPart a_PagesError a_CHOICES) 1
  k_WRITER_WORDS : ∀ {xa : XT} {W : WX}, SimE K (Gam w a_Book a_BadText a_BadBook a_UnknownPart a_PagesError a_CHOICES) xa W (tC (.ref a_WRITER_WORDS)) (mC k_WRITER_WORDS)
  k_CLEANER_WORDS : ∀ {xa : XT} {W : WX}, SimE K (Gam w a_Book a_BadText a_BadBook a_UnknownPart a_PagesError a_CHOICES) xa W (tC (.ref a_CLEANER_WORDS)) (mC k_CLEANER_WORDS)
  k_READER_WORDS : ∀ {xa : XT} {W : WX}, SimE K (Gam w a_Book a_BadText a_BadBook a_UnknownPart a_PagesError a_CHOICES) xa W (tC (.ref a_READER_WORDS)) (mC k_READER_WORDS)
  k_PARTS : ∀ {xa : XT} {W : WX}, SimE K (Gam w a_Book a_BadText a_BadBook a_UnknownPart a_PagesError a_CHOICES) xa W (tC (.ref a_PARTS)) (mC k_PARTS)
  v_CHOICES : ∀ wd : Wd, Reps K (Gam w a_Book a_BadText a_BadBook a_UnknownPart a_PagesError a_CHOICES) wd vs_CHOICES [.ref a_CHOICES_0, .ref a_CHOICES_1]
  tab_PagesError : ∀ p ∈ tab_PagesError, PySem.W.exmOne K (.ref ((Gam w a_Book a_BadText a_BadBook a_UnknownPart a_PagesError a_CHOICES) p.1)) (.ref a_PagesError) = some p.2
  x_BadText : IsxF K (Gam w a_Book a_BadText a_BadBook a_UnknownPart a_PagesError a_CHOICES) t_isx_BadText (V.ref a_BadText) (.ref a_BadText)
def ms_words_of : MS :=
    (mSeq (mIfS (mNot (mTest (mCB (fIsi 1) (mCons (mVar 0) (mCons (mC (.ty "str")) mNil))))) (mRet (mC .non)) mNext)
    (mSeq (mAsg (mM1 opSplit (mVar 0) (mC (.str " "))) (mGName 2))
    (mSeq (mIfS (mOr (mTest (mSetNe 2)) (mNot (mTest (mCB fAll (mCons (mLc (mIList (mVar 2)) (mGName 3) mYes (mOp (opIn false) (mVar 3) (mVar 1)) [3]) mNil))))) (mRet (mC .non)) mNext)
    (mRet (mVar 2)))))
def m_words_of : MF := mRun 4 ms_words_of
theorem q_words_of (X : Cxt K w a_WRITER_WORDS a_CLEANER_WORDS a_READER_WORDS a_PARTS a_Book a_BadText a_BadBook a_UnknownPart a_PagesError a_CHOICES a_CHOICES_0 a_CHOICES_1) {xa : XT} {E : XK} : SimS K (Gam w a_Book a_BadText a_BadBook a_UnknownPart a_PagesError a_CHOICES) xa (wOut E) (t_words_of K (wOut E)) ms_words_of := by
  unfold t_words_of ms_words_of
  exact (sim_seq (sim_ifS (sim_not (sim_B (sim_cb (cm_isi X.F.toClsF) (sim_pcons (SimE.p sim_var) (sim_pcons (SimE.p sim_ty) sim_pnil))))) (sim_ret sim_non) sim_next)
    (sim_seq (sim_asg (SimF.e (sim_m1F mf_split sim_var (SimE.p sim_str))) sim_gname)
    (sim_seq (sim_ifS (sim_or (sim_test sim_setNe) (sim_not (sim_B (sim_cb cm_all (sim_pcons (SimF.p (sim_lc (SimI.ev (sim_ilist sim_var)) sim_gname sim_yes (sim_op om_in (SimE.p sim_var) (SimE.p sim_var)))) sim_pnil))))) (sim_ret sim_non) sim_next)
    (sim_ret sim_var))))
def ms_all_there : MS :=
    (mRet (mCB fAll (mCons (mLc (mITup (mVar 1)) (mGName 2) mYes (mOp (opIn false) (mVar 2) (mVar 0)) [2]) mNil)))
def m_all_there : MF := mRun 3 ms_all_there
theorem q_all_there (X : Cxt K w a_WRITER_WORDS a_CLEANER_WORDS a_READER_WORDS a_PARTS a_Book a_BadText a_BadBook a_UnknownPart a_PagesError a_CHOICES a_CHOICES_0 a_CHOICES_1) {xa : XT} {E : XK} : SimS K (Gam w a_Book a_BadText a_BadBook a_UnknownPart a_PagesError a_CHOICES) xa (wOut E) (t_all_there K (wOut E)) ms_all_there := by
  unfold t_all_there ms_all_there
  exact (sim_ret (sim_cb cm_all (sim_pcons (SimF.p (sim_lc (SimI.ev (sim_itup sim_var)) sim_gname sim_yes (sim_op om_in (SimE.p sim_var) (SimE.p sim_var)))) sim_pnil)))
def ms_is_ahead : MS :=
    (mRet (mOrV (mOp (opIn true) (mVar 1) (mVar 0)) (mOrV (mOp (opIn true) (mVar 2) (mVar 0)) (mOp opLess (mIndex (mVar 0) (mVar 1)) (mIndex (mVar 0) (mVar 2))))))
def m_is_ahead : MF := mRun 3 ms_is_ahead
theorem q_is_ahead (X : Cxt K w a_WRITER_WORDS a_CLEANER_WORDS a_READER_WORDS a_PARTS a_Book a_BadText a_BadBook a_UnknownPart a_PagesError a_CHOICES a_CHOICES_0 a_CHOICES_1) {xa : XT} {E : XK} : SimS K (Gam w a_Book a_BadText a_BadBook a_UnknownPart a_PagesError a_CHOICES) xa (wOut E) (t_is_ahead K (wOut E)) ms_is_ahead := by
  unfold t_is_ahead ms_is_ahead
  exact (sim_ret (sim_orV (sim_op om_in (SimE.p sim_var) (SimE.p sim_var)) (sim_orV (sim_op om_in (SimE.p sim_var) (SimE.p sim_var)) (sim_op om_less (SimE.p (sim_index (SimE.p sim_var) sim_var)) (SimE.p (sim_index (SimE.p sim_var) sim_var))))))
def ms_is_locked_well : MS :=
    (mRet (mAndV (mOp (opEq false) (mOp (opIn false) (mC (.str "lock")) (mVar 0)) (mOp (opIn false) (mC (.str "unlock")) (mVar 0))) (mCall 3 m_is_ahead (mCons (mVar 0) (mCons (mC (.str "lock")) (mCons (mC (.str "unlock")) mNil))))))
def m_is_locked_well : MF := mRun 1 ms_is_locked_well
theorem q_is_locked_well (X : Cxt K w a_WRITER_WORDS a_CLEANER_WORDS a_READER_WORDS a_PARTS a_Book a_BadText a_BadBook a_UnknownPart a_PagesError a_CHOICES a_CHOICES_0 a_CHOICES_1) {xa : XT} {E : XK} : SimS K (Gam w a_Book a_BadText a_BadBook a_UnknownPart a_PagesError a_CHOICES) xa (wOut E) (t_is_locked_well K (spM K (Gam w a_Book a_BadText a_BadBook a_UnknownPart a_PagesError a_CHOICES) 3 m_is_ahead) (wOut E)) ms_is_locked_well := by
  unfold t_is_locked_well ms_is_locked_well
  exact (sim_ret (sim_andV (sim_op om_eq (SimE.p (sim_op om_in (SimE.p sim_str) (SimE.p sim_var))) (SimE.p (sim_op om_in (SimE.p sim_str) (SimE.p sim_var)))) (sim_call (sim_cons sim_var (sim_cons sim_str (sim_cons sim_str sim_nil))))))
def ms_is_writer : MS :=
    (mSeq (mAsg (mCall 2 m_words_of (mCons (mVar 0) (mCons (mC k_WRITER_WORDS) mNil))) (mGName 1))
    (mSeq (mIfS (mOr (mTest (mOp opIs (mVar 1) (mC .non))) (mNot (mTest (mCall 2 m_all_there (mCons (mVar 1) (mCons (mTup (mCons (mC (.str "change")) (mCons (mC (.str "enter")) (mCons (mC (.str "commit")) mNil)))) mNil)))))) (mRet (mC (.bl false))) mNext)
    (mRet (mAndV (mCall 3 m_is_ahead (mCons (mVar 1) (mCons (mC (.str "change")) (mCons (mC (.str "enter")) mNil)))) (mAndV (mCall 3 m_is_ahead (mCons (mVar 1) (mCons (mC (.str "change")) (mCons (mC (.str "commit")) mNil)))) (mCall 1 m_is_locked_well (mCons (mVar 1) mNil)))))))
def m_is_writer : MF := mRun 2 ms_is_writer
theorem q_is_writer (X : Cxt K w a_WRITER_WORDS a_CLEANER_WORDS a_READER_WORDS a_PARTS a_Book a_BadText a_BadBook a_UnknownPart a_PagesError a_CHOICES a_CHOICES_0 a_CHOICES_1) {xa : XT} {E : XK} : SimS K (Gam w a_Book a_BadText a_BadBook a_UnknownPart a_PagesError a_CHOICES) xa (wOut E) (t_is_writer K a_WRITER_WORDS (spM K (Gam w a_Book a_BadText a_BadBook a_UnknownPart a_PagesError a_CHOICES) 2 m_words_of) (spM K (Gam w a_Book a_BadText a_BadBook a_UnknownPart a_PagesError a_CHOICES) 2 m_all_there) (spM K (Gam w a_Book a_BadText a_BadBook a_UnknownPart a_PagesError a_CHOICES) 3 m_is_ahead) (spM K (Gam w a_Book a_BadText a_BadBook a_UnknownPart a_PagesError a_CHOICES) 1 m_is_locked_well) (wOut E)) ms_is_writer := by
  unfold t_is_writer ms_is_writer
  exact (sim_seq (sim_asg (sim_call (sim_cons sim_var (sim_cons X.k_WRITER_WORDS sim_nil))) sim_gname)
    (sim_seq (sim_ifS (sim_or (sim_test (sim_op om_is (SimE.p sim_var) (SimE.p sim_non))) (sim_not (sim_B (sim_call (sim_cons sim_var (sim_cons (sim_tup (sim_cons sim_str (sim_cons sim_str (sim_cons sim_str sim_nil)))) sim_nil)))))) (sim_ret sim_bl) sim_next)
    (sim_ret (sim_andV (sim_call (sim_cons sim_var (sim_cons sim_str (sim_cons sim_str sim_nil)))) (sim_andV (sim_call (sim_cons sim_var (sim_cons sim_str (sim_cons sim_str sim_nil)))) (sim_call (sim_cons sim_var sim_nil)))))))
def ms_is_cleaner : MS :=
    (mSeq (mAsg (mCall 2 m_words_of (mCons (mVar 0) (mCons (mC k_CLEANER_WORDS) mNil))) (mGName 1))
    (mSeq (mIfS (mOr (mTest (mOp opIs (mVar 1) (mC .non))) (mOr (mNot (mTest (mCall 2 m_all_there (mCons (mVar 1) (mCons (mTup (mCons (mC (.str "look")) (mCons (mC (.str "set")) mNil))) mNil))))) (mNot (mTest (mCall 1 m_is_locked_well (mCons (mVar 1) mNil)))))) (mRet (mC (.bl false))) mNext)
    (mRet (mAndV (mCall 3 m_is_ahead (mCons (mVar 1) (mCons (mC (.str "look")) (mCons (mC (.str "set")) mNil)))) (mAndV (mCall 3 m_is_ahead (mCons (mVar 1) (mCons (mC (.str "remove")) (mCons (mC (.str "look")) mNil)))) (mCall 3 m_is_ahead (mCons (mVar 1) (mCons (mC (.str "set")) (mCons (mC (.str "again")) mNil)))))))))
def m_is_cleaner : MF := mRun 2 ms_is_cleaner
theorem q_is_cleaner (X : Cxt K w a_WRITER_WORDS a_CLEANER_WORDS a_READER_WORDS a_PARTS a_Book a_BadText a_BadBook a_UnknownPart a_PagesError a_CHOICES a_CHOICES_0 a_CHOICES_1) {xa : XT} {E : XK} : SimS K (Gam w a_Book a_BadText a_BadBook a_UnknownPart a_PagesError a_CHOICES) xa (wOut E) (t_is_cleaner K a_CLEANER_WORDS (spM K (Gam w a_Book a_BadText a_BadBook a_UnknownPart a_PagesError a_CHOICES) 2 m_words_of) (spM K (Gam w a_Book a_BadText a_BadBook a_UnknownPart a_PagesError a_CHOICES) 2 m_all_there) (spM K (Gam w a_Book a_BadText a_BadBook a_UnknownPart a_PagesError a_CHOICES) 3 m_is_ahead) (spM K (Gam w a_Book a_BadText a_BadBook a_UnknownPart a_PagesError a_CHOICES) 1 m_is_locked_well) (wOut E)) ms_is_cleaner := by
  unfold t_is_cleaner ms_is_cleaner
  exact (sim_seq (sim_asg (sim_call (sim_cons sim_var (sim_cons X.k_CLEANER_WORDS sim_nil))) sim_gname)
    (sim_seq (sim_ifS (sim_or (sim_test (sim_op om_is (SimE.p sim_var) (SimE.p sim_non))) (sim_or (sim_not (sim_B (sim_call (sim_cons sim_var (sim_cons (sim_tup (sim_cons sim_str (sim_cons sim_str sim_nil))) sim_nil))))) (sim_not (sim_B (sim_call (sim_cons sim_var sim_nil)))))) (sim_ret sim_bl) sim_next)
    (sim_ret (sim_andV (sim_call (sim_cons sim_var (sim_cons sim_str (sim_cons sim_str sim_nil)))) (sim_andV (sim_call (sim_cons sim_var (sim_cons sim_str (sim_cons sim_str sim_nil)))) (sim_call (sim_cons sim_var (sim_cons sim_str (sim_cons sim_str sim_nil)))))))))
def ms_is_reader : MS :=
    (mSeq (mAsg (mCall 2 m_words_of (mCons (mVar 0) (mCons (mC k_READER_WORDS) mNil))) (mGName 1))
    (mSeq (mIfS (mOr (mTest (mOp opIs (mVar 1) (mC .non))) (mOr (mNot (mTest (mCall 2 m_all_there (mCons (mVar 1) (mCons (mTup (mCons (mC (.str "entry")) (mCons (mC (.str "mark")) (mCons (mC (.str "page")) mNil)))) mNil))))) (mTest (mOp (opEq true) (mOp opIx (mVar 1) (mUn unNeg (mC (.int 1)))) (mC (.str "page")))))) (mRet (mC (.bl false))) mNext)
    (mSeq (mIfS (mOr (mTest (mOp (opEq true) (mOp (opIn false) (mC (.str "take")) (mVar 1)) (mOp (opIn false) (mC (.str "tell")) (mVar 1)))) (mTest (mOp (opEq false) (mOp (opIn false) (mC (.str "hold")) (mVar 1)) (mOp (opIn false) (mC (.str "take")) (mVar 1))))) (mRet (mC (.bl false))) mNext)
    (mRet (mCall 3 m_is_ahead (mCons (mVar 1) (mCons (mC (.str "take")) (mCons (mC (.str "tell")) mNil))))))))
def m_is_reader : MF := mRun 2 ms_is_reader
theorem q_is_reader (X : Cxt K w a_WRITER_WORDS a_CLEANER_WORDS a_READER_WORDS a_PARTS a_Book a_BadText a_BadBook a_UnknownPart a_PagesError a_CHOICES a_CHOICES_0 a_CHOICES_1) {xa : XT} {E : XK} : SimS K (Gam w a_Book a_BadText a_BadBook a_UnknownPart a_PagesError a_CHOICES) xa (wOut E) (t_is_reader K a_READER_WORDS (spM K (Gam w a_Book a_BadText a_BadBook a_UnknownPart a_PagesError a_CHOICES) 2 m_words_of) (spM K (Gam w a_Book a_BadText a_BadBook a_UnknownPart a_PagesError a_CHOICES) 2 m_all_there) (spM K (Gam w a_Book a_BadText a_BadBook a_UnknownPart a_PagesError a_CHOICES) 3 m_is_ahead) (wOut E)) ms_is_reader := by
  unfold t_is_reader ms_is_reader
  exact (sim_seq (sim_asg (sim_call (sim_cons sim_var (sim_cons X.k_READER_WORDS sim_nil))) sim_gname)
    (sim_seq (sim_ifS (sim_or (sim_test (sim_op om_is (SimE.p sim_var) (SimE.p sim_non))) (sim_or (sim_not (sim_B (sim_call (sim_cons sim_var (sim_cons (sim_tup (sim_cons sim_str (sim_cons sim_str (sim_cons sim_str sim_nil)))) sim_nil))))) (sim_test (sim_op om_ne (SimE.p (sim_op om_ix (SimE.p sim_var) (SimE.p (sim_un um_neg (SimE.p sim_int))))) (SimE.p sim_str))))) (sim_ret sim_bl) sim_next)
    (sim_seq (sim_ifS (sim_or (sim_test (sim_op om_ne (SimE.p (sim_op om_in (SimE.p sim_str) (SimE.p sim_var))) (SimE.p (sim_op om_in (SimE.p sim_str) (SimE.p sim_var))))) (sim_test (sim_op om_eq (SimE.p (sim_op om_in (SimE.p sim_str) (SimE.p sim_var))) (SimE.p (sim_op om_in (SimE.p sim_str) (SimE.p sim_var)))))) (sim_ret sim_bl) sim_next)
    (sim_ret (sim_call (sim_cons sim_var (sim_cons sim_str (sim_cons sim_str sim_nil))))))))
def ms_is_part : MS :=
    (mRet (mAndV (mCB (fIsi 1) (mCons (mVar 0) (mCons (mC (.ty "str")) mNil))) (mOp (opIn false) (mVar 0) (mC k_PARTS))))
def m_is_part : MF := mRun 1 ms_is_part
theorem q_is_part (X : Cxt K w a_WRITER_WORDS a_CLEANER_WORDS a_READER_WORDS a_PARTS a_Book a_BadText a_BadBook a_UnknownPart a_PagesError a_CHOICES a_CHOICES_0 a_CHOICES_1) {xa : XT} {E : XK} : SimS K (Gam w a_Book a_BadText a_BadBook a_UnknownPart a_PagesError a_CHOICES) xa (wOut E) (t_is_part K a_PARTS (wOut E)) ms_is_part := by
  unfold t_is_part ms_is_part
  exact (sim_ret (sim_andV (sim_cb (cm_isi X.F.toClsF) (sim_pcons (SimE.p sim_var) (sim_pcons (SimE.p sim_ty) sim_pnil))) (sim_op om_in (SimE.p sim_var) (SimE.p X.k_PARTS))))
def ms_is_allowed : MS :=
    (mSeq (mIfS (mTest (mOp (opEq false) (mVar 0) (mC (.str "writer")))) (mRet (mCall 1 m_is_writer (mCons (mVar 1) mNil))) mNext)
    (mSeq (mIfS (mTest (mOp (opEq false) (mVar 0) (mC (.str "cleaner")))) (mRet (mCall 1 m_is_cleaner (mCons (mVar 1) mNil))) mNext)
    (mSeq (mIfS (mTest (mOp (opEq false) (mVar 0) (mC (.str "reader")))) (mRet (mCall 1 m_is_reader (mCons (mVar 1) mNil))) mNext)
    (mSeq (mIfS (mTest (mOp (opInTab 5 ["horizon", "follower"]) (mVar 0) (mC (.cls 5)))) (mRet (mAndV (mCB (fIsi 1) (mCons (mVar 1) (mCons (mC (.ty "str")) mNil))) (mOp (opIn false) (mVar 1) (mOp (opGetTab 5 ["horizon", "follower"] vs_CHOICES) (mC (.cls 5)) (mVar 0))))) mNext)
    (mRet (mCB (fIsi 1) (mCons (mVar 1) (mCons (mC (.ty "bool")) mNil))))))))
def m_is_allowed : MF := mRun 2 ms_is_allowed
theorem q_is_allowed (X : Cxt K w a_WRITER_WORDS a_CLEANER_WORDS a_READER_WORDS a_PARTS a_Book a_BadText a_BadBook a_UnknownPart a_PagesError a_CHOICES a_CHOICES_0 a_CHOICES_1) {xa : XT} {E : XK} : SimS K (Gam w a_Book a_BadText a_BadBook a_UnknownPart a_PagesError a_CHOICES) xa (wOut E) (t_is_allowed K a_CHOICES a_CHOICES_0 a_CHOICES_1 (spM K (Gam w a_Book a_BadText a_BadBook a_UnknownPart a_PagesError a_CHOICES) 1 m_is_writer) (spM K (Gam w a_Book a_BadText a_BadBook a_UnknownPart a_PagesError a_CHOICES) 1 m_is_cleaner) (spM K (Gam w a_Book a_BadText a_BadBook a_UnknownPart a_PagesError a_CHOICES) 1 m_is_reader) (wOut E)) ms_is_allowed := by
  unfold t_is_allowed ms_is_allowed
  exact (sim_seq (sim_ifS (sim_test (sim_op om_eq (SimE.p sim_var) (SimE.p sim_str))) (sim_ret (sim_call (sim_cons sim_var sim_nil))) sim_next)
    (sim_seq (sim_ifS (sim_test (sim_op om_eq (SimE.p sim_var) (SimE.p sim_str))) (sim_ret (sim_call (sim_cons sim_var sim_nil))) sim_next)
    (sim_seq (sim_ifS (sim_test (sim_op om_eq (SimE.p sim_var) (SimE.p sim_str))) (sim_ret (sim_call (sim_cons sim_var sim_nil))) sim_next)
    (sim_seq (sim_ifS (sim_test (sim_op (om_inTab rfl rfl) (SimE.p sim_var) (SimE.p (sim_cls rfl)))) (sim_ret (sim_andV (sim_cb (cm_isi X.F.toClsF) (sim_pcons (SimE.p sim_var) (sim_pcons (SimE.p sim_ty) sim_pnil))) (sim_op om_in (SimE.p sim_var) (SimE.p (sim_op (om_getTab (ks := ["horizon", "follower"]) (vs := [.ref a_CHOICES_0, .ref a_CHOICES_1]) rfl X.v_CHOICES) (SimE.p (sim_cls rfl)) (SimE.p sim_var)))))) sim_next)
    (sim_ret (sim_cb (cm_isi X.F.toClsF) (sim_pcons (SimE.p sim_var) (sim_pcons (SimE.p sim_ty) sim_pnil))))))))
def ms_BookU_initU : MS :=
    (mSeq (mAsg (mTup (mCons (mVar 1) (mCons (mVar 2) (mCons (mVar 3) (mCons (mVar 4) (mCons (mVar 5) (mCons (mVar 6) (mCons (mVar 7) (mCons (mVar 8) (mCons (mVar 9) (mCons (mVar 10) (mCons (mVar 11) (mCons (mVar 12) mNil))))))))))))) (mGName 13))
    (mSeq (mFor (mIZipT (mCons (mC k_PARTS) (mCons (mVar 13) mNil))) (mGTup 2 (mGCons (mGName 14) (mGCons (mGName 15) mGNil))) (mIfS (mNot (mTest (mCall 2 m_is_allowed (mCons (mVar 14) (mCons (mVar 15) mNil))))) (mRaise 2 "part" (mCons (mVar 14) mNil)) mNext))
    (mSetFO 0 0 "chosen" (mCell (mDc (mIZipT (mCons (mC k_PARTS) (mCons (mVar 13) mNil))) (mGTup 2 (mGCons (mGName 14) (mGCons (mGName 15) mGNil))) mYes (mVar 14) (mVar 15) [14, 15])))))
def m_BookU_initU : MI := mRunI 16 0 ms_BookU_initU
theorem q_BookU_initU (X : Cxt K w a_WRITER_WORDS a_CLEANER_WORDS a_READER_WORDS a_PARTS a_Book a_BadText a_BadBook a_UnknownPart a_PagesError a_CHOICES a_CHOICES_0 a_CHOICES_1) {xa : XT} {E : XK} : SimS K (Gam w a_Book a_BadText a_BadBook a_UnknownPart a_PagesError a_CHOICES) xa (wOut E) (t_BookU_initU K a_BadBook a_Book a_PARTS (spM K (Gam w a_Book a_BadText a_BadBook a_UnknownPart a_PagesError a_CHOICES) 2 m_is_allowed) (wOut E)) ms_BookU_initU := by
  unfold t_BookU_initU ms_BookU_initU
  exact (sim_seq (sim_asg (sim_tup (sim_cons sim_var (sim_cons sim_var (sim_cons sim_var (sim_cons sim_var (sim_cons sim_var (sim_cons sim_var (sim_cons sim_var (sim_cons sim_var (sim_cons sim_var (sim_cons sim_var (sim_cons sim_var (sim_cons sim_var sim_nil))))))))))))) sim_gname)
    (sim_seq (sim_for (sim_izipT (sim_cons X.k_PARTS (sim_cons sim_var sim_nil))) (sim_gtup' (sim_gcons sim_gname (sim_gcons sim_gname sim_gnil))) (sim_ifS (sim_not (sim_B (sim_call (sim_cons sim_var (sim_cons sim_var sim_nil))))) (sim_raise rfl (sim_cons sim_var sim_nil)) sim_next))
    (sim_setFO rfl (sim_cell (sim_dc (SimI.ev (sim_izipT (sim_cons X.k_PARTS (sim_cons sim_var sim_nil)))) (sim_gtup' (sim_gcons sim_gname (sim_gcons sim_gname sim_gnil))) sim_yes sim_var sim_var)))))
def ms_value_of : MS :=
    (mSeq (mIfS (mTest (mOp (opIn false) (mVar 0) (mTup (mCons (mC (.str "writer")) (mCons (mC (.str "cleaner")) (mCons (mC (.str "reader")) (mCons (mC (.str "horizon")) (mCons (mC (.str "follower")) mNil)))))))) (mRet (mVar 1)) mNext)
    (mSeq (mIfS (mTest (mOp (opEq false) (mVar 1) (mC (.str "yes")))) (mRet (mC (.bl true))) mNext)
    (mRet (mIf (mTest (mOp (opEq false) (mVar 1) (mC (.str "no")))) (mC (.bl false)) (mVar 1)))))
def m_value_of : MF := mRun 2 ms_value_of
theorem q_value_of (X : Cxt K w a_WRITER_WORDS a_CLEANER_WORDS a_READER_WORDS a_PARTS a_Book a_BadText a_BadBook a_UnknownPart a_PagesError a_CHOICES a_CHOICES_0 a_CHOICES_1) {xa : XT} {E : XK} : SimS K (Gam w a_Book a_BadText a_BadBook a_UnknownPart a_PagesError a_CHOICES) xa (wOut E) (t_value_of K (wOut E)) ms_value_of := by
  unfold t_value_of ms_value_of
  exact (sim_seq (sim_ifS (sim_test (sim_op om_in (SimE.p sim_var) (SimE.p (sim_tup (sim_cons sim_str (sim_cons sim_str (sim_cons sim_str (sim_cons sim_str (sim_cons sim_str sim_nil))))))))) (sim_ret sim_var) sim_next)
    (sim_seq (sim_ifS (sim_test (sim_op om_eq (SimE.p sim_var) (SimE.p sim_str))) (sim_ret sim_bl) sim_next)
    (sim_ret (sim_if (sim_test (sim_op om_eq (SimE.p sim_var) (SimE.p sim_str))) sim_bl sim_var))))
def ms_read_book : MS :=
    (mSeq (mIfS (mNot (mTest (mCB (fIsiD 1) (mCons (mVar 0) (mCons (mC (.ty "str")) mNil))))) (mRaise 1 "at" (mCons (mC .non) mNil)) mNext)
    (mSeq (mAsg (mM1 opSplit (mVar 0) (mC (.str "\n"))) (mGName 1))
    (mSeq (mAsgC mDNew 2)
    (mSeq (mFor (mIEnum (mCons (mVar 1) mNil)) (mGTup 2 (mGCons (mGName 3) (mGCons (mGName 4) mGNil))) (mSeq (mAsg (mM1 opPart (mVar 4) (mC (.str " = "))) (mGTup 3 (mGCons (mGName 5) (mGCons (mGName 6) (mGCons (mGName 7) mGNil)))))
    (mSeq (mIfS (mOr (mTest (mOp (opEq false) (mVar 6) (mC (.str "")))) (mOr (mNot (mTest (mCall 1 m_is_part (mCons (mVar 5) mNil)))) (mTest (mOp (opDIn false) (mVar 5) (mVar 2))))) (mRaise 1 "at" (mCons (mVar 3) mNil)) mNext)
    (mSeq (mAsg (mCall 2 m_value_of (mCons (mVar 5) (mCons (mVar 7) mNil))) (mGName 8))
    (mSeq (mIfS (mNot (mTest (mCall 2 m_is_allowed (mCons (mVar 5) (mCons (mVar 8) mNil))))) (mRaise 1 "at" (mCons (mVar 3) mNil)) mNext)
    (mSetD (mVar 8) (mVar 2) (mVar 5)))))))
    (mSeq (mFor (mITup (mC k_PARTS)) (mGName 5) (mIfS (mTest (mOp (opDIn true) (mVar 5) (mVar 2))) (mRaiseF 1 "at" (mCons (mCB fLen (mCons (mVar 1) mNil)) mNil) (mCons (mVar 5) mNil)) mNext))
    (mRet (mNewP 0 m_BookU_initU 12 ["writer", "cleaner", "reader", "horizon", "pins", "cleared", "sets", "force", "ahead", "first", "waits", "follower"] ["horizon", "pins", "cleared", "sets", "force", "ahead", "first", "waits", "follower"] (mVar 2) [.str "all", .bl true, .bl true, .bl true, .bl true, .bl true, .bl false, .bl true, .str "wait"])))))))
def m_read_book : MF := mRun 9 ms_read_book
theorem q_read_book (X : Cxt K w a_WRITER_WORDS a_CLEANER_WORDS a_READER_WORDS a_PARTS a_Book a_BadText a_BadBook a_UnknownPart a_PagesError a_CHOICES a_CHOICES_0 a_CHOICES_1) {xa : XT} {E : XK} : SimS K (Gam w a_Book a_BadText a_BadBook a_UnknownPart a_PagesError a_CHOICES) xa (wOut E) (t_read_book K a_BadText a_Book a_PARTS (spM K (Gam w a_Book a_BadText a_BadBook a_UnknownPart a_PagesError a_CHOICES) 1 m_is_part) (spM K (Gam w a_Book a_BadText a_BadBook a_UnknownPart a_PagesError a_CHOICES) 2 m_is_allowed) (spI K (Gam w a_Book a_BadText a_BadBook a_UnknownPart a_PagesError a_CHOICES) 0 12 m_BookU_initU) (spM K (Gam w a_Book a_BadText a_BadBook a_UnknownPart a_PagesError a_CHOICES) 2 m_value_of) (wOut E)) ms_read_book := by
  unfold t_read_book ms_read_book
  exact (sim_seq (sim_ifS (sim_not (sim_B (sim_cb (cm_isiD X.F.toClsF) (sim_pcons (SimE.p sim_var) (sim_pcons (SimE.p sim_ty) sim_pnil))))) (sim_raise rfl (sim_cons sim_non sim_nil)) sim_next)
    (sim_seq (sim_asg (SimF.e (sim_m1F mf_split sim_var (SimE.p sim_str))) sim_gname)
    (sim_seq (sim_asgC sim_dnew)
    (sim_seq (sim_for (sim_ienum (sim_cons sim_var sim_nil)) (sim_gtup' (sim_gcons sim_gname (sim_gcons sim_gname sim_gnil))) (sim_seq (sim_asg (sim_m1 mm_part sim_var (SimE.p sim_str)) (sim_gtup' (sim_gcons sim_gname (sim_gcons sim_gname (sim_gcons sim_gname sim_gnil)))))
    (sim_seq (sim_ifS (sim_or (sim_test (sim_op om_eq (SimE.p sim_var) (SimE.p sim_str))) (sim_or (sim_not (sim_B (sim_call (sim_cons sim_var sim_nil)))) (sim_B (sim_din sim_var sim_var)))) (sim_raise rfl (sim_cons sim_var sim_nil)) sim_next)
    (sim_seq (sim_asg (sim_call (sim_cons sim_var (sim_cons sim_var sim_nil))) sim_gname)
    (sim_seq (sim_ifS (sim_not (sim_B (sim_call (sim_cons sim_var (sim_cons sim_var sim_nil))))) (sim_raise rfl (sim_cons sim_var sim_nil)) sim_next)
    (sim_setD sim_var sim_var sim_var))))))
    (sim_seq (sim_for (sim_itup X.k_PARTS) sim_gname (sim_ifS (sim_B (sim_dnin sim_var sim_var)) (sim_raiseF rfl (sim_cons (sim_cb cm_len (sim_pcons (SimE.p sim_var) sim_pnil)) sim_nil) (sim_cons sim_var sim_nil)) sim_next))
    (sim_ret (SimF.e (sim_newP rfl sim_var (fun _ => (reps_cons (by simp only [RepC]) (reps_cons (by simp only [RepC]) (reps_cons (by simp only [RepC]) (reps_cons (by simp only [RepC]) (reps_cons (by simp only [RepC]) (reps_cons (by simp only [RepC]) (reps_cons (by simp only [RepC]) (reps_cons (by simp only [RepC]) (reps_cons (by simp only [RepC]) reps_nil))))))))))))))))))
def ms__law_pool : MS :=
    (mSeq (mAsg (mC (.int 0)) (mGName 2))
    (mSeq (mIfS (mTest (mOp (opEqN true) (mVar 0) (mLst mNil))) (mAsg (mOp opIx (mVar 0) (mOp opRest (mCB fInt (mCons (mVar 1) mNil)) (mCB fLen (mCons (mVar 0) mNil)))) (mGName 2)) mNext)
    (mSeq (mAsg (mOp opRest (mOp opTimes (mCB fInt (mCons (mOp opPlus (mOp opPlus (mOp opRest (mCB fInt (mCons (mVar 2) mNil)) (mC (.int 2147483629))) (mOp opTimes (mC (.int 104729)) (mVar 1))) (mC (.int 11))) mNil)) (mC (.int 48271))) (mC (.int 2147483647))) (mGName 3))
    (mRet (mCell (mLst (mCons (mOp opTimes (mVar 2) (mCB fInt (mCons (mOp opGeq (mVar 2) (mOp opPow (mC (.int 10)) (mC (.int 18)))) mNil))) (mCons (mVar 3) mNil))))))))
def m__law_pool : MF := mRun 4 ms__law_pool
theorem q__law_pool (X : Cxt K w a_WRITER_WORDS a_CLEANER_WORDS a_READER_WORDS a_PARTS a_Book a_BadText a_BadBook a_UnknownPart a_PagesError a_CHOICES a_CHOICES_0 a_CHOICES_1) {xa : XT} {E : XK} : SimS K (Gam w a_Book a_BadText a_BadBook a_UnknownPart a_PagesError a_CHOICES) xa (wOut E) (t__law_pool K (wOut E)) ms__law_pool := by
  unfold t__law_pool ms__law_pool
  exact (sim_seq (sim_asg sim_int sim_gname)
    (sim_seq (sim_ifS (sim_test (sim_op om_neN (SimE.p sim_var) (SimF.p (sim_lst sim_nil)))) (sim_asg (sim_op om_ix (SimE.p sim_var) (SimE.p (sim_op om_rest (SimE.p (sim_cb cm_int (sim_pcons (SimE.p sim_var) sim_pnil))) (SimE.p (sim_cb cm_len (sim_pcons (SimE.p sim_var) sim_pnil)))))) sim_gname) sim_next)
    (sim_seq (sim_asg (sim_op om_rest (SimE.p (sim_op om_times (SimE.p (sim_cb cm_int (sim_pcons (SimE.p (sim_op om_plus (SimE.p (sim_op om_plus (SimE.p (sim_op om_rest (SimE.p (sim_cb cm_int (sim_pcons (SimE.p sim_var) sim_pnil))) (SimE.p sim_int))) (SimE.p (sim_op om_times (SimE.p sim_int) (SimE.p sim_var))))) (SimE.p sim_int))) sim_pnil))) (SimE.p sim_int))) (SimE.p sim_int)) sim_gname)
    (sim_ret (sim_cell (sim_lst (sim_cons (sim_op om_times (SimE.p sim_var) (SimE.p (sim_cb cm_int (sim_pcons (SimE.p (sim_op om_geq (SimE.p sim_var) (SimE.p (sim_op om_pow (SimE.p sim_int) (SimE.p sim_int))))) sim_pnil)))) (sim_cons sim_var sim_nil))))))))
def ms__law_take : MS :=
    (mSeq (mIfS (mTest (mOp opMore (mOp opIx (mVar 0) (mC (.int 0))) (mC (.int 0)))) (mSeq (mAsg (mOp opRest (mCB fInt (mCons (mOp opIx (mVar 0) (mC (.int 0))) mNil)) (mVar 1)) (mGName 2))
    (mSeq (mSetC (mOp opQuot (mOp opIx (mVar 0) (mC (.int 0))) (mVar 1)) (mVar 0) (mC (.int 0)))
    (mRet (mVar 2)))) mNext)
    (mSeq (mSetC (mOp opRest (mCB fInt (mCons (mOp opPlus (mOp opTimes (mOp opIx (mVar 0) (mC (.int 1))) (mC (.int 48271))) (mC (.int 11))) mNil)) (mC (.int 2147483647))) (mVar 0) (mC (.int 1)))
    (mRet (mOp opRest (mCB fInt (mCons (mOp opQuot (mOp opRest (mCB fInt (mCons (mOp opTimes (mOp opIx (mVar 0) (mC (.int 1))) (mOp opIx (mVar 0) (mC (.int 1)))) mNil)) (mC (.int 2147483629))) (mC (.int 64))) mNil)) (mVar 1)))))
def m__law_take : MF := mRun 3 ms__law_take
theorem q__law_take (X : Cxt K w a_WRITER_WORDS a_CLEANER_WORDS a_READER_WORDS a_PARTS a_Book a_BadText a_BadBook a_UnknownPart a_PagesError a_CHOICES a_CHOICES_0 a_CHOICES_1) {xa : XT} {E : XK} : SimS K (Gam w a_Book a_BadText a_BadBook a_UnknownPart a_PagesError a_CHOICES) xa (wOut E) (t__law_take K (wOut E)) ms__law_take := by
  unfold t__law_take ms__law_take
  exact (sim_seq (sim_ifS (sim_test (sim_op om_more (SimE.p (sim_op om_ix (SimE.p sim_var) (SimE.p sim_int))) (SimE.p sim_int))) (sim_seq (sim_asg (sim_op om_rest (SimE.p (sim_cb cm_int (sim_pcons (SimE.p (sim_op om_ix (SimE.p sim_var) (SimE.p sim_int))) sim_pnil))) (SimE.p sim_var)) sim_gname)
    (sim_seq (sim_setC (sim_op om_quot (SimE.p (sim_op om_ix (SimE.p sim_var) (SimE.p sim_int))) (SimE.p sim_var)) sim_var sim_int)
    (sim_ret sim_var))) sim_next)
    (sim_seq (sim_setC (sim_op om_rest (SimE.p (sim_cb cm_int (sim_pcons (SimE.p (sim_op om_plus (SimE.p (sim_op om_times (SimE.p (sim_op om_ix (SimE.p sim_var) (SimE.p sim_int))) (SimE.p sim_int))) (SimE.p sim_int))) sim_pnil))) (SimE.p sim_int)) sim_var sim_int)
    (sim_ret (sim_op om_rest (SimE.p (sim_cb cm_int (sim_pcons (SimE.p (sim_op om_quot (SimE.p (sim_op om_rest (SimE.p (sim_cb cm_int (sim_pcons (SimE.p (sim_op om_times (SimE.p (sim_op om_ix (SimE.p sim_var) (SimE.p sim_int))) (SimE.p (sim_op om_ix (SimE.p sim_var) (SimE.p sim_int))))) sim_pnil))) (SimE.p sim_int))) (SimE.p sim_int))) sim_pnil))) (SimE.p sim_var)))))
def ms__law_locked : MS :=
    (mSeq (mIfS (mTest (mOp (opEq false) (mCall 2 m__law_take (mCons (mVar 0) (mCons (mC (.int 3)) mNil))) (mC (.int 0)))) (mRet (mVar 1)) mNext)
    (mSeq (mAsg (mCall 2 m__law_take (mCons (mVar 0) (mCons (mOp opPlus (mCB fLen (mCons (mVar 1) mNil)) (mC (.int 1))) mNil))) (mGName 2))
    (mSeq (mAsg (mOp opPlus (mVar 2) (mCall 2 m__law_take (mCons (mVar 0) (mCons (mOp opPlus (mOp opMinus (mCB fLen (mCons (mVar 1) mNil)) (mVar 2)) (mC (.int 1))) mNil)))) (mGName 3))
    (mRet (mOp opPlus (mOp opPlus (mOp opPlus (mOp opPlus (mSl slL (mVar 1) mNoPart (mPart (mVar 2))) (mLst (mCons (mC (.str "lock")) mNil))) (mSl slL (mVar 1) (mPart (mVar 2)) (mPart (mVar 3)))) (mLst (mCons (mC (.str "unlock")) mNil))) (mSl slL (mVar 1) (mPart (mVar 3)) mNoPart))))))
def m__law_locked : MF := mRun 4 ms__law_locked
theorem q__law_locked (X : Cxt K w a_WRITER_WORDS a_CLEANER_WORDS a_READER_WORDS a_PARTS a_Book a_BadText a_BadBook a_UnknownPart a_PagesError a_CHOICES a_CHOICES_0 a_CHOICES_1) {xa : XT} {E : XK} : SimS K (Gam w a_Book a_BadText a_BadBook a_UnknownPart a_PagesError a_CHOICES) xa (wOut E) (t__law_locked K (spM K (Gam w a_Book a_BadText a_BadBook a_UnknownPart a_PagesError a_CHOICES) 2 m__law_take) (wOut E)) ms__law_locked := by
  unfold t__law_locked ms__law_locked
  exact (sim_seq (sim_ifS (sim_test (sim_op om_eq (SimE.p (sim_call (sim_cons sim_var (sim_cons sim_int sim_nil)))) (SimE.p sim_int))) (sim_ret sim_var) sim_next)
    (sim_seq (sim_asg (sim_call (sim_cons sim_var (sim_cons (sim_op om_plus (SimE.p (sim_cb cm_len (sim_pcons (SimE.p sim_var) sim_pnil))) (SimE.p sim_int)) sim_nil))) sim_gname)
    (sim_seq (sim_asg (sim_op om_plus (SimE.p sim_var) (SimE.p (sim_call (sim_cons sim_var (sim_cons (sim_op om_plus (SimE.p (sim_op om_minus (SimE.p (sim_cb cm_len (sim_pcons (SimE.p sim_var) sim_pnil))) (SimE.p sim_var))) (SimE.p sim_int)) sim_nil))))) sim_gname)
    (sim_ret (sim_op om_plus (SimE.p (sim_op om_plus (SimE.p (sim_op om_plus (SimE.p (sim_op om_plus (SimF.p (sim_slF sf_list (SimE.p sim_var) sim_nopart (sim_part sim_var))) (SimF.p (sim_lst (sim_cons sim_str sim_nil))))) (SimF.p (sim_slF sf_list (SimE.p sim_var) (sim_part sim_var) (sim_part sim_var))))) (SimF.p (sim_lst (sim_cons sim_str sim_nil))))) (SimF.p (sim_slF sf_list (SimE.p sim_var) (sim_part sim_var) sim_nopart)))))))
def ms__law_writing : MS :=
    (mSeq (mAsg (mCall 2 m__law_take (mCons (mVar 0) (mCons (mC (.int 5)) mNil))) (mGName 1))
    (mSeq (mIfS (mTest (mOp opLess (mVar 1) (mC (.int 2)))) (mRet (mOp opIx (mLst (mCons (mC (.str "lock clear change unlock enter commit")) (mCons (mC (.str "lock change clear unlock enter commit")) mNil))) (mVar 1))) mNext)
    (mSeq (mAsg (mLst (mCons (mC (.str "change")) (mCons (mC (.str "enter")) (mCons (mC (.str "commit")) mNil)))) (mGName 2))
    (mSeq (mIfS (mTest (mOp (opEq false) (mCall 2 m__law_take (mCons (mVar 0) (mCons (mC (.int 4)) mNil))) (mC (.int 0)))) (mAsg (mLst (mCons (mC (.str "change")) (mCons (mC (.str "commit")) (mCons (mC (.str "enter")) mNil)))) (mGName 2)) mNext)
    (mSeq (mIfS (mTest (mOp opMore (mCall 2 m__law_take (mCons (mVar 0) (mCons (mC (.int 6)) mNil))) (mC (.int 0)))) (mSeq (mAsg (mCall 2 m__law_take (mCons (mVar 0) (mCons (mC (.int 4)) mNil))) (mGName 3))
    (mAsg (mOp opPlus (mOp opPlus (mSl slL (mVar 2) mNoPart (mPart (mVar 3))) (mLst (mCons (mC (.str "clear")) mNil))) (mSl slL (mVar 2) (mPart (mVar 3)) mNoPart)) (mGName 2))) mNext)
    (mRet (mM1 opJoin (mC (.str " ")) (mCall 2 m__law_locked (mCons (mVar 0) (mCons (mVar 2) mNil))))))))))
def m__law_writing : MF := mRun 4 ms__law_writing
theorem q__law_writing (X : Cxt K w a_WRITER_WORDS a_CLEANER_WORDS a_READER_WORDS a_PARTS a_Book a_BadText a_BadBook a_UnknownPart a_PagesError a_CHOICES a_CHOICES_0 a_CHOICES_1) {xa : XT} {E : XK} : SimS K (Gam w a_Book a_BadText a_BadBook a_UnknownPart a_PagesError a_CHOICES) xa (wOut E) (t__law_writing K (spM K (Gam w a_Book a_BadText a_BadBook a_UnknownPart a_PagesError a_CHOICES) 2 m__law_take) (spM K (Gam w a_Book a_BadText a_BadBook a_UnknownPart a_PagesError a_CHOICES) 2 m__law_locked) (wOut E)) ms__law_writing := by
  unfold t__law_writing ms__law_writing
  exact (sim_seq (sim_asg (sim_call (sim_cons sim_var (sim_cons sim_int sim_nil))) sim_gname)
    (sim_seq (sim_ifS (sim_test (sim_op om_less (SimE.p sim_var) (SimE.p sim_int))) (sim_ret (sim_op om_ix (SimF.p (sim_lst (sim_cons sim_str (sim_cons sim_str sim_nil)))) (SimE.p sim_var))) sim_next)
    (sim_seq (sim_asg (SimF.e (sim_lst (sim_cons sim_str (sim_cons sim_str (sim_cons sim_str sim_nil))))) sim_gname)
    (sim_seq (sim_ifS (sim_test (sim_op om_eq (SimE.p (sim_call (sim_cons sim_var (sim_cons sim_int sim_nil)))) (SimE.p sim_int))) (sim_asg (SimF.e (sim_lst (sim_cons sim_str (sim_cons sim_str (sim_cons sim_str sim_nil))))) sim_gname) sim_next)
    (sim_seq (sim_ifS (sim_test (sim_op om_more (SimE.p (sim_call (sim_cons sim_var (sim_cons sim_int sim_nil)))) (SimE.p sim_int))) (sim_seq (sim_asg (sim_call (sim_cons sim_var (sim_cons sim_int sim_nil))) sim_gname)
    (sim_asg (sim_op om_plus (SimE.p (sim_op om_plus (SimF.p (sim_slF sf_list (SimE.p sim_var) sim_nopart (sim_part sim_var))) (SimF.p (sim_lst (sim_cons sim_str sim_nil))))) (SimF.p (sim_slF sf_list (SimE.p sim_var) (sim_part sim_var) sim_nopart))) sim_gname)) sim_next)
    (sim_ret (sim_m1 mm_join sim_str (SimE.p (sim_call (sim_cons sim_var (sim_cons sim_var sim_nil)))))))))))
def ms__law_cleaning : MS :=
    (mSeq (mIfS (mTest (mOp (opEq false) (mCall 2 m__law_take (mCons (mVar 0) (mCons (mC (.int 3)) mNil))) (mC (.int 0)))) (mRet (mC (.str "lock remove look set unlock"))) mNext)
    (mSeq (mAsg (mLst (mCons (mC (.str "look")) (mCons (mC (.str "set")) mNil))) (mGName 1))
    (mSeq (mIfS (mTest (mOp (opEq false) (mCall 2 m__law_take (mCons (mVar 0) (mCons (mC (.int 2)) mNil))) (mC (.int 0)))) (mAsg (mOp opPlus (mLst (mCons (mC (.str "remove")) mNil)) (mVar 1)) (mGName 1)) mNext)
    (mSeq (mIfS (mTest (mOp (opEq false) (mCall 2 m__law_take (mCons (mVar 0) (mCons (mC (.int 3)) mNil))) (mC (.int 0)))) (mAsg (mOp opPlus (mVar 1) (mLst (mCons (mC (.str "again")) mNil))) (mGName 1)) mNext)
    (mRet (mM1 opJoin (mC (.str " ")) (mCall 2 m__law_locked (mCons (mVar 0) (mCons (mVar 1) mNil)))))))))
def m__law_cleaning : MF := mRun 2 ms__law_cleaning
theorem q__law_cleaning (X : Cxt K w a_WRITER_WORDS a_CLEANER_WORDS a_READER_WORDS a_PARTS a_Book a_BadText a_BadBook a_UnknownPart a_PagesError a_CHOICES a_CHOICES_0 a_CHOICES_1) {xa : XT} {E : XK} : SimS K (Gam w a_Book a_BadText a_BadBook a_UnknownPart a_PagesError a_CHOICES) xa (wOut E) (t__law_cleaning K (spM K (Gam w a_Book a_BadText a_BadBook a_UnknownPart a_PagesError a_CHOICES) 2 m__law_take) (spM K (Gam w a_Book a_BadText a_BadBook a_UnknownPart a_PagesError a_CHOICES) 2 m__law_locked) (wOut E)) ms__law_cleaning := by
  unfold t__law_cleaning ms__law_cleaning
  exact (sim_seq (sim_ifS (sim_test (sim_op om_eq (SimE.p (sim_call (sim_cons sim_var (sim_cons sim_int sim_nil)))) (SimE.p sim_int))) (sim_ret sim_str) sim_next)
    (sim_seq (sim_asg (SimF.e (sim_lst (sim_cons sim_str (sim_cons sim_str sim_nil)))) sim_gname)
    (sim_seq (sim_ifS (sim_test (sim_op om_eq (SimE.p (sim_call (sim_cons sim_var (sim_cons sim_int sim_nil)))) (SimE.p sim_int))) (sim_asg (sim_op om_plus (SimF.p (sim_lst (sim_cons sim_str sim_nil))) (SimE.p sim_var)) sim_gname) sim_next)
    (sim_seq (sim_ifS (sim_test (sim_op om_eq (SimE.p (sim_call (sim_cons sim_var (sim_cons sim_int sim_nil)))) (SimE.p sim_int))) (sim_asg (sim_op om_plus (SimE.p sim_var) (SimF.p (sim_lst (sim_cons sim_str sim_nil)))) sim_gname) sim_next)
    (sim_ret (sim_m1 mm_join sim_str (SimE.p (sim_call (sim_cons sim_var (sim_cons sim_var sim_nil))))))))))
def ms__law_reading : MS :=
    (mSeq (mAsg (mLst (mCons (mC (.str "hold entry mark")) (mCons (mC (.str "hold mark entry")) (mCons (mC (.str "entry hold mark")) (mCons (mC (.str "entry mark hold")) (mCons (mC (.str "mark hold entry")) mNil)))))) (mGName 1))
    (mSeq (mAsg (mOp opPlus (mVar 1) (mLst (mCons (mC (.str "mark entry hold")) (mCons (mC (.str "take tell entry mark")) (mCons (mC (.str "take entry tell mark")) (mCons (mC (.str "take entry mark tell")) mNil)))))) (mGName 1))
    (mSeq (mAsg (mOp opPlus (mVar 1) (mLst (mCons (mC (.str "take mark tell entry")) (mCons (mC (.str "entry take tell mark")) (mCons (mC (.str "mark take entry tell")) (mCons (mC (.str "take tell mark entry")) mNil)))))) (mGName 1))
    (mSeq (mAsg (mOp opPlus (mVar 1) (mLst (mCons (mC (.str "take mark entry tell")) (mCons (mC (.str "mark take tell entry")) (mCons (mC (.str "entry take mark tell")) mNil))))) (mGName 1))
    (mSeq (mAsg (mOp opPlus (mVar 1) (mLst (mCons (mC (.str "entry mark take tell")) (mCons (mC (.str "mark entry take tell")) mNil)))) (mGName 1))
    (mRet (mOp opPlus (mOp opIx (mVar 1) (mOp opTimes (mCall 2 m__law_take (mCons (mVar 0) (mCons (mC (.int 18)) mNil))) (mCB fInt (mCons (mOp (opEq false) (mCall 2 m__law_take (mCons (mVar 0) (mCons (mC (.int 2)) mNil))) (mC (.int 0))) mNil)))) (mC (.str " page")))))))))
def m__law_reading : MF := mRun 2 ms__law_reading
theorem q__law_reading (X : Cxt K w a_WRITER_WORDS a_CLEANER_WORDS a_READER_WORDS a_PARTS a_Book a_BadText a_BadBook a_UnknownPart a_PagesError a_CHOICES a_CHOICES_0 a_CHOICES_1) {xa : XT} {E : XK} : SimS K (Gam w a_Book a_BadText a_BadBook a_UnknownPart a_PagesError a_CHOICES) xa (wOut E) (t__law_reading K (spM K (Gam w a_Book a_BadText a_BadBook a_UnknownPart a_PagesError a_CHOICES) 2 m__law_take) (wOut E)) ms__law_reading := by
  unfold t__law_reading ms__law_reading
  exact (sim_seq (sim_asg (SimF.e (sim_lst (sim_cons sim_str (sim_cons sim_str (sim_cons sim_str (sim_cons sim_str (sim_cons sim_str sim_nil))))))) sim_gname)
    (sim_seq (sim_asg (sim_op om_plus (SimE.p sim_var) (SimF.p (sim_lst (sim_cons sim_str (sim_cons sim_str (sim_cons sim_str (sim_cons sim_str sim_nil))))))) sim_gname)
    (sim_seq (sim_asg (sim_op om_plus (SimE.p sim_var) (SimF.p (sim_lst (sim_cons sim_str (sim_cons sim_str (sim_cons sim_str (sim_cons sim_str sim_nil))))))) sim_gname)
    (sim_seq (sim_asg (sim_op om_plus (SimE.p sim_var) (SimF.p (sim_lst (sim_cons sim_str (sim_cons sim_str (sim_cons sim_str sim_nil)))))) sim_gname)
    (sim_seq (sim_asg (sim_op om_plus (SimE.p sim_var) (SimF.p (sim_lst (sim_cons sim_str (sim_cons sim_str sim_nil))))) sim_gname)
    (sim_ret (sim_op om_plus (SimE.p (sim_op om_ix (SimE.p sim_var) (SimE.p (sim_op om_times (SimE.p (sim_call (sim_cons sim_var (sim_cons sim_int sim_nil)))) (SimE.p (sim_cb cm_int (sim_pcons (SimE.p (sim_op om_eq (SimE.p (sim_call (sim_cons sim_var (sim_cons sim_int sim_nil)))) (SimE.p sim_int))) sim_pnil))))))) (SimE.p sim_str))))))))
def ms__law_parts : MS :=
    (mSeq (mAsgO (mLst (mCons (mCall 1 m__law_writing (mCons (mVar 0) mNil)) (mCons (mCall 1 m__law_cleaning (mCons (mVar 0) mNil)) (mCons (mCall 1 m__law_reading (mCons (mVar 0) mNil)) mNil)))) 1)
    (mSeq (mAppend 1 (mOp opIx (mLst (mCons (mC (.str "all")) (mCons (mC (.str "all")) (mCons (mC (.str "none")) mNil)))) (mCall 2 m__law_take (mCons (mVar 0) (mCons (mC (.int 3)) mNil)))))
    (mSeq (mFor (mIRng1 (mCons (mC (.int 7)) mNil)) (mGName 2) (mAppend 1 (mOp opMore (mCall 2 m__law_take (mCons (mVar 0) (mCons (mC (.int 3)) mNil))) (mC (.int 0)))))
    (mRet (mOp opPlus (mPeek 1) (mLst (mCons (mOp opIx (mLst (mCons (mC (.str "trust")) (mCons (mC (.str "wait")) (mCons (mC (.str "wait")) (mCons (mC (.str "look")) mNil))))) (mCall 2 m__law_take (mCons (mVar 0) (mCons (mC (.int 4)) mNil)))) mNil)))))))
def m__law_parts : MF := mRun 3 ms__law_parts
theorem q__law_parts (X : Cxt K w a_WRITER_WORDS a_CLEANER_WORDS a_READER_WORDS a_PARTS a_Book a_BadText a_BadBook a_UnknownPart a_PagesError a_CHOICES a_CHOICES_0 a_CHOICES_1) {xa : XT} {E : XK} : SimS K (Gam w a_Book a_BadText a_BadBook a_UnknownPart a_PagesError a_CHOICES) xa (wOut E) (t__law_parts K (spM K (Gam w a_Book a_BadText a_BadBook a_UnknownPart a_PagesError a_CHOICES) 2 m__law_take) (spM K (Gam w a_Book a_BadText a_BadBook a_UnknownPart a_PagesError a_CHOICES) 1 m__law_writing) (spM K (Gam w a_Book a_BadText a_BadBook a_UnknownPart a_PagesError a_CHOICES) 1 m__law_cleaning) (spM K (Gam w a_Book a_BadText a_BadBook a_UnknownPart a_PagesError a_CHOICES) 1 m__law_reading) (wOut E)) ms__law_parts := by
  unfold t__law_parts ms__law_parts
  exact (sim_seq (sim_asgO (sim_lst (sim_cons (sim_call (sim_cons sim_var sim_nil)) (sim_cons (sim_call (sim_cons sim_var sim_nil)) (sim_cons (sim_call (sim_cons sim_var sim_nil)) sim_nil)))))
    (sim_seq (sim_append (sim_op om_ix (SimF.p (sim_lst (sim_cons sim_str (sim_cons sim_str (sim_cons sim_str sim_nil))))) (SimE.p (sim_call (sim_cons sim_var (sim_cons sim_int sim_nil))))))
    (sim_seq (sim_for (sim_irng1 (sim_cons sim_int sim_nil)) sim_gname (sim_append (sim_op om_more (SimE.p (sim_call (sim_cons sim_var (sim_cons sim_int sim_nil)))) (SimE.p sim_int))))
    (sim_ret (sim_op om_plus sim_peek (SimF.p (sim_lst (sim_cons (sim_op om_ix (SimF.p (sim_lst (sim_cons sim_str (sim_cons sim_str (sim_cons sim_str (sim_cons sim_str sim_nil)))))) (SimE.p (sim_call (sim_cons sim_var (sim_cons sim_int sim_nil))))) sim_nil))))))))
def ms__law_names : MS :=
    (mSeq (mAsg (mLst (mCons (mC (.str "writer")) (mCons (mC (.str "cleaner")) (mCons (mC (.str "reader")) (mCons (mC (.str "horizon")) (mCons (mC (.str "pins")) (mCons (mC (.str "cleared")) (mCons (mC (.str "sets")) (mCons (mC (.str "force")) mNil))))))))) (mGName 0))
    (mRet (mOp opPlus (mVar 0) (mLst (mCons (mC (.str "ahead")) (mCons (mC (.str "first")) (mCons (mC (.str "waits")) (mCons (mC (.str "follower")) mNil))))))))
def m__law_names : MF := mRun 1 ms__law_names
theorem q__law_names (X : Cxt K w a_WRITER_WORDS a_CLEANER_WORDS a_READER_WORDS a_PARTS a_Book a_BadText a_BadBook a_UnknownPart a_PagesError a_CHOICES a_CHOICES_0 a_CHOICES_1) {xa : XT} {E : XK} : SimS K (Gam w a_Book a_BadText a_BadBook a_UnknownPart a_PagesError a_CHOICES) xa (wOut E) (t__law_names K (wOut E)) ms__law_names := by
  unfold t__law_names ms__law_names
  exact (sim_seq (sim_asg (SimF.e (sim_lst (sim_cons sim_str (sim_cons sim_str (sim_cons sim_str (sim_cons sim_str (sim_cons sim_str (sim_cons sim_str (sim_cons sim_str (sim_cons sim_str sim_nil)))))))))) sim_gname)
    (sim_ret (sim_op om_plus (SimE.p sim_var) (SimF.p (sim_lst (sim_cons sim_str (sim_cons sim_str (sim_cons sim_str (sim_cons sim_str sim_nil)))))))))
def ms__law_lines : MS :=
    (mSeq (mAsgO (mLst mNil) 1)
    (mSeq (mFor (mIRng1 (mCons (mC (.int 12)) mNil)) (mGName 2) (mSeq (mAsg (mOp opIx (mVar 0) (mVar 2)) (mGName 3))
    (mSeq (mIfS (mTest (mCB (fIsi 1) (mCons (mVar 3) (mCons (mC (.ty "bool")) mNil)))) (mAsg (mOp opIx (mLst (mCons (mC (.str "no")) (mCons (mC (.str "yes")) mNil))) (mCB fInt (mCons (mVar 3) mNil))) (mGName 3)) mNext)
    (mAppend 1 (mOp opPlus (mOp opPlus (mOp opIx (mCall 0 m__law_names mNil) (mVar 2)) (mC (.str " = "))) (mVar 3))))))
    (mFix 1 (mRet (mVar 1)))))
def m__law_lines : MF := mRun 4 ms__law_lines
theorem q__law_lines (X : Cxt K w a_WRITER_WORDS a_CLEANER_WORDS a_READER_WORDS a_PARTS a_Book a_BadText a_BadBook a_UnknownPart a_PagesError a_CHOICES a_CHOICES_0 a_CHOICES_1) {xa : XT} {E : XK} : SimS K (Gam w a_Book a_BadText a_BadBook a_UnknownPart a_PagesError a_CHOICES) xa (wOut E) (t__law_lines K (spM K (Gam w a_Book a_BadText a_BadBook a_UnknownPart a_PagesError a_CHOICES) 0 m__law_names) (wOut E)) ms__law_lines := by
  unfold t__law_lines ms__law_lines
  exact (sim_seq (sim_asgO (sim_lst sim_nil))
    (sim_seq (sim_for (sim_irng1 (sim_cons sim_int sim_nil)) sim_gname (sim_seq (sim_asg (sim_op om_ix (SimE.p sim_var) (SimE.p sim_var)) sim_gname)
    (sim_seq (sim_ifS (sim_B (sim_cb (cm_isi X.F.toClsF) (sim_pcons (SimE.p sim_var) (sim_pcons (SimE.p sim_ty) sim_pnil)))) (sim_asg (sim_op om_ix (SimF.p (sim_lst (sim_cons sim_str (sim_cons sim_str sim_nil)))) (SimE.p (sim_cb cm_int (sim_pcons (SimE.p sim_var) sim_pnil)))) sim_gname) sim_next)
    (sim_append (sim_op om_plus (SimE.p (sim_op om_plus (SimE.p (sim_op om_ix (SimE.p (sim_call sim_nil)) (SimE.p sim_var))) (SimE.p sim_str))) (SimE.p sim_var))))))
    (sim_fix (i := 1) (sim_ret sim_var))))
def ms__law_refused : MS :=
    (mSeq (mTry (mDrop (mCall 1 m_read_book (mCons (mVar 0) mNil))) tab_PagesError 1 (mRet (mIf (mTest (mIsX 1 t_isx_BadText)) (mLst (mCons (mXf 1 1 "at") mNil)) (mLst (mCons (mUn unNeg (mC (.int 1))) mNil)))))
    (mRet (mLst mNil)))
def m__law_refused : MF := mRun 2 ms__law_refused
theorem q__law_refused (X : Cxt K w a_WRITER_WORDS a_CLEANER_WORDS a_READER_WORDS a_PARTS a_Book a_BadText a_BadBook a_UnknownPart a_PagesError a_CHOICES a_CHOICES_0 a_CHOICES_1) {xa : XT} {E : XK} : SimS K (Gam w a_Book a_BadText a_BadBook a_UnknownPart a_PagesError a_CHOICES) xa (wOut E) (t__law_refused K a_BadText a_PagesError (spM K (Gam w a_Book a_BadText a_BadBook a_UnknownPart a_PagesError a_CHOICES) 1 m_read_book) (wOut E)) ms__law_refused := by
  unfold t__law_refused ms__law_refused
  exact (sim_seq (sim_try (fun _ => (sim_drop (sim_call (sim_cons sim_var sim_nil)))) (fun _ _ _ => (sim_ret (sim_if (sim_B (sim_isX X.x_BadText)) (SimF.e (sim_lst (sim_cons (sim_xf rfl) sim_nil))) (SimF.e (sim_lst (sim_cons (sim_un um_neg (SimE.p sim_int)) sim_nil)))))) X.tab_PagesError)
    (sim_ret (SimF.e (sim_lst sim_nil))))
def ms_law : MS :=
    (mSeq (mFor (mIRng1 (mCons (mCB fMx2 (mCons (mC (.int 1)) (mCons (mCB fMn2 (mCons (mC (.int 8)) (mCons (mCB fLen (mCons (mVar 0) mNil)) mNil))) mNil))) mNil)) (mGName 1) (mSeq (mAsg (mCall 2 m__law_pool (mCons (mVar 0) (mCons (mVar 1) mNil))) (mGName 2))
    (mSeq (mAsg (mCall 1 m__law_lines (mCons (mCall 1 m__law_parts (mCons (mVar 2) mNil)) mNil)) (mGName 3))
    (mSeq (mAsg (mCall 2 m__law_take (mCons (mVar 2) (mCons (mC (.int 12)) mNil))) (mGName 4))
    (mSeq (mPar 5 6 (mCons (mOp opIx (mVar 3) (mVar 4)) (mCons (mOp opIx (mCall 0 m__law_names mNil) (mVar 4)) mNil)))
    (mSeq (mAsg (mLst (mCons (mOp opPlus (mVar 5) (mC (.str " "))) (mCons (mOp opPlus (mC (.str " ")) (mVar 5)) (mCons (mRepl (mVar 5) " = " "=") (mCons (mRepl (mVar 5) " = " " =  ") mNil))))) (mGName 7))
    (mSeq (mAsg (mOp opPlus (mVar 7) (mLst (mCons (mUpper (mVar 5)) mNil))) (mGName 7))
    (mSeq (mAsg (mOp opPlus (mVar 7) (mLst (mCons (mVar 6) (mCons (mOp opPlus (mVar 6) (mC (.str " = "))) (mCons (mOp opPlus (mVar 6) (mC (.str " = maybe"))) (mCons (mC (.str "part = yes")) (mCons (mC (.str "")) (mCons (mOp opPlus (mVar 6) (mC (.str " = True"))) mNil)))))))) (mGName 7))
    (mSeq (mAsg (mOp opPlus (mVar 7) (mLst (mCons (mOp opPlus (mVar 5) (mC (.str "	"))) mNil))) (mGName 7))
    (mSeq (mFor (mIList (mVar 7)) (mGName 8) (mIfS (mTest (mOp (opEq true) (mCall 1 m__law_refused (mCons (mM1 opJoin (mC (.str "\n")) (mOp opPlus (mOp opPlus (mSl slL (mVar 3) mNoPart (mPart (mVar 4))) (mLst (mCons (mVar 8) mNil))) (mSl slL (mVar 3) (mPart (mOp opPlus (mVar 4) (mC (.int 1)))) mNoPart))) mNil)) (mLst (mCons (mVar 4) mNil)))) (mRet (mC (.bl false))) mNext))
    (mSeq (mAsg (mCall 2 m__law_take (mCons (mVar 2) (mCons (mC (.int 12)) mNil))) (mGName 9))
    (mSeq (mIfS (mTest (mOp (opEq true) (mCall 1 m__law_refused (mCons (mM1 opJoin (mC (.str "\n")) (mOp opPlus (mOp opPlus (mSl slL (mVar 3) mNoPart (mPart (mVar 9))) (mLst (mCons (mVar 5) mNil))) (mSl slL (mVar 3) (mPart (mVar 9)) mNoPart))) mNil)) (mLst (mCons (mOp opPlus (mCB fMx2 (mCons (mCB fInt (mCons (mVar 4) mNil)) (mCons (mOp opMinus (mCB fInt (mCons (mVar 9) mNil)) (mC (.int 1))) mNil))) (mC (.int 1))) mNil)))) (mRet (mC (.bl false))) mNext)
    (mSeq (mIfS (mOr (mTest (mOp (opEq true) (mCall 1 m__law_refused (mCons (mM1 opJoin (mC (.str "\n")) (mOp opPlus (mSl slL (mVar 3) mNoPart (mPart (mVar 4))) (mSl slL (mVar 3) (mPart (mOp opPlus (mVar 4) (mC (.int 1)))) mNoPart))) mNil)) (mLst (mCons (mC (.int 11)) mNil)))) (mTest (mOp (opEq true) (mCall 1 m__law_refused (mCons (mOp opPlus (mM1 opJoin (mC (.str "\n")) (mVar 3)) (mC (.str "\n"))) mNil)) (mLst (mCons (mC (.int 12)) mNil))))) (mRet (mC (.bl false))) mNext)
    (mSeq (mFor (mIList (mLst (mCons (mC .non) (mCons (mC (.int 1)) (mCons (mC (.bl true)) (mCons (mVar 3) (mCons (mTup (mCons (mC (.str "a")) mNil)) (mCons mDNew mNil)))))))) (mGName 10) (mIfS (mTest (mOp (opEq true) (mCall 1 m__law_refused (mCons (mVar 10) mNil)) (mLst (mCons (mC .non) mNil)))) (mRet (mC (.bl false))) mNext))
    (mIfS (mOr (mTest (mOp (opEq true) (mCall 1 m__law_refused (mCons (mC (.str "")) mNil)) (mLst (mCons (mC (.int 0)) mNil)))) (mTest (mOp (opEq true) (mCall 1 m__law_refused (mCons (mM1 opJoin (mC (.str "\n")) (mVar 3)) mNil)) (mLst mNil)))) (mRet (mC (.bl false))) mNext)))))))))))))))
    (mRet (mC (.bl true))))
def m_law : MF := mRun 11 ms_law
theorem q_law (X : Cxt K w a_WRITER_WORDS a_CLEANER_WORDS a_READER_WORDS a_PARTS a_Book a_BadText a_BadBook a_UnknownPart a_PagesError a_CHOICES a_CHOICES_0 a_CHOICES_1) {xa : XT} {E : XK} : SimS K (Gam w a_Book a_BadText a_BadBook a_UnknownPart a_PagesError a_CHOICES) xa (wOut E) (t_law K (spM K (Gam w a_Book a_BadText a_BadBook a_UnknownPart a_PagesError a_CHOICES) 2 m__law_pool) (spM K (Gam w a_Book a_BadText a_BadBook a_UnknownPart a_PagesError a_CHOICES) 2 m__law_take) (spM K (Gam w a_Book a_BadText a_BadBook a_UnknownPart a_PagesError a_CHOICES) 1 m__law_parts) (spM K (Gam w a_Book a_BadText a_BadBook a_UnknownPart a_PagesError a_CHOICES) 0 m__law_names) (spM K (Gam w a_Book a_BadText a_BadBook a_UnknownPart a_PagesError a_CHOICES) 1 m__law_lines) (spM K (Gam w a_Book a_BadText a_BadBook a_UnknownPart a_PagesError a_CHOICES) 1 m__law_refused) (wOut E)) ms_law := by
  unfold t_law ms_law
  exact (sim_seq (sim_for (sim_irng1 (sim_cons (sim_cb cm_mx2 (sim_pcons (SimE.p sim_int) (sim_pcons (SimE.p (sim_cb cm_mn2 (sim_pcons (SimE.p sim_int) (sim_pcons (SimE.p (sim_cb cm_len (sim_pcons (SimE.p sim_var) sim_pnil))) sim_pnil)))) sim_pnil))) sim_nil)) sim_gname (sim_seq (sim_asg (sim_call (sim_cons sim_var (sim_cons sim_var sim_nil))) sim_gname)
    (sim_seq (sim_asg (sim_call (sim_cons (sim_call (sim_cons sim_var sim_nil)) sim_nil)) sim_gname)
    (sim_seq (sim_asg (sim_call (sim_cons sim_var (sim_cons sim_int sim_nil))) sim_gname)
    (sim_seq (sim_par (sim_cons (sim_op om_ix (SimE.p sim_var) (SimE.p sim_var)) (sim_cons (sim_op om_ix (SimE.p (sim_call sim_nil)) (SimE.p sim_var)) sim_nil)))
    (sim_seq (sim_asg (SimF.e (sim_lst (sim_cons (sim_op om_plus (SimE.p sim_var) (SimE.p sim_str)) (sim_cons (sim_op om_plus (SimE.p sim_str) (SimE.p sim_var)) (sim_cons (sim_repl sim_var) (sim_cons (sim_repl sim_var) sim_nil)))))) sim_gname)
    (sim_seq (sim_asg (sim_op om_plus (SimE.p sim_var) (SimF.p (sim_lst (sim_cons (sim_upper sim_var) sim_nil)))) sim_gname)
    (sim_seq (sim_asg (sim_op om_plus (SimE.p sim_var) (SimF.p (sim_lst (sim_cons sim_var (sim_cons (sim_op om_plus (SimE.p sim_var) (SimE.p sim_str)) (sim_cons (sim_op om_plus (SimE.p sim_var) (SimE.p sim_str)) (sim_cons sim_str (sim_cons sim_str (sim_cons (sim_op om_plus (SimE.p sim_var) (SimE.p sim_str)) sim_nil))))))))) sim_gname)
    (sim_seq (sim_asg (sim_op om_plus (SimE.p sim_var) (SimF.p (sim_lst (sim_cons (sim_op om_plus (SimE.p sim_var) (SimE.p sim_str)) sim_nil)))) sim_gname)
    (sim_seq (sim_for (sim_ilist sim_var) sim_gname (sim_ifS (sim_test (sim_op om_ne (SimE.p (sim_call (sim_cons (sim_m1 mm_join sim_str (SimE.p (sim_op om_plus (SimE.p (sim_op om_plus (SimF.p (sim_slF sf_list (SimE.p sim_var) sim_nopart (sim_part sim_var))) (SimF.p (sim_lst (sim_cons sim_var sim_nil))))) (SimF.p (sim_slF sf_list (SimE.p sim_var) (sim_part (sim_op om_plus (SimE.p sim_var) (SimE.p sim_int))) sim_nopart))))) sim_nil))) (SimF.p (sim_lst (sim_cons sim_var sim_nil))))) (sim_ret sim_bl) sim_next))
    (sim_seq (sim_asg (sim_call (sim_cons sim_var (sim_cons sim_int sim_nil))) sim_gname)
    (sim_seq (sim_ifS (sim_test (sim_op om_ne (SimE.p (sim_call (sim_cons (sim_m1 mm_join sim_str (SimE.p (sim_op om_plus (SimE.p (sim_op om_plus (SimF.p (sim_slF sf_list (SimE.p sim_var) sim_nopart (sim_part sim_var))) (SimF.p (sim_lst (sim_cons sim_var sim_nil))))) (SimF.p (sim_slF sf_list (SimE.p sim_var) (sim_part sim_var) sim_nopart))))) sim_nil))) (SimF.p (sim_lst (sim_cons (sim_op om_plus (SimE.p (sim_cb cm_mx2 (sim_pcons (SimE.p (sim_cb cm_int (sim_pcons (SimE.p sim_var) sim_pnil))) (sim_pcons (SimE.p (sim_op om_minus (SimE.p (sim_cb cm_int (sim_pcons (SimE.p sim_var) sim_pnil))) (SimE.p sim_int))) sim_pnil)))) (SimE.p sim_int)) sim_nil))))) (sim_ret sim_bl) sim_next)
    (sim_seq (sim_ifS (sim_or (sim_test (sim_op om_ne (SimE.p (sim_call (sim_cons (sim_m1 mm_join sim_str (SimE.p (sim_op om_plus (SimF.p (sim_slF sf_list (SimE.p sim_var) sim_nopart (sim_part sim_var))) (SimF.p (sim_slF sf_list (SimE.p sim_var) (sim_part (sim_op om_plus (SimE.p sim_var) (SimE.p sim_int))) sim_nopart))))) sim_nil))) (SimF.p (sim_lst (sim_cons sim_int sim_nil))))) (sim_test (sim_op om_ne (SimE.p (sim_call (sim_cons (sim_op om_plus (SimE.p (sim_m1 mm_join sim_str (SimE.p sim_var))) (SimE.p sim_str)) sim_nil))) (SimF.p (sim_lst (sim_cons sim_int sim_nil)))))) (sim_ret sim_bl) sim_next)
    (sim_seq (sim_for (sim_ilist (SimF.e (sim_lst (sim_cons sim_non (sim_cons sim_int (sim_cons sim_bl (sim_cons sim_var (sim_cons (sim_tup (sim_cons sim_str sim_nil)) (sim_cons (SimF.e sim_dnew) sim_nil))))))))) sim_gname (sim_ifS (sim_test (sim_op om_ne (SimE.p (sim_call (sim_cons sim_var sim_nil))) (SimF.p (sim_lst (sim_cons sim_non sim_nil))))) (sim_ret sim_bl) sim_next))
    (sim_ifS (sim_or (sim_test (sim_op om_ne (SimE.p (sim_call (sim_cons sim_str sim_nil))) (SimF.p (sim_lst (sim_cons sim_int sim_nil))))) (sim_test (sim_op om_ne (SimE.p (sim_call (sim_cons (sim_m1 mm_join sim_str (SimE.p sim_var)) sim_nil))) (SimF.p (sim_lst sim_nil))))) (sim_ret sim_bl) sim_next)))))))))))))))
    (sim_ret sim_bl))
end
end Law

namespace Law
open PySem PySem.Spec L2 TP MR
section
local macro_rules | `(tactic| walk_at "g1") => `(tactic| first
  | with_reducible refine s_seq ?_ | with_reducible refine s_asgN ?_ | with_reducible refine s_asgO ?_ | with_reducible refine s_asgC ?_ | with_reducible refine s_ret ?_ | with_reducible refine s_drop ?_ | with_reducible refine s_ifS ?_ | with_reducible refine s_next ?_ | with_reducible refine s_raise ?_ | with_reducible refine s_for ?_
  | ((with_reducible refine' s_fixO ?gv ?_); (case gv => rfl)) | ((with_reducible refine' s_fixV ?gv ?_); (case gv => rfl)) | ((with_reducible refine' s_append ?gv ?_); (case gv => rfl)) | ((with_reducible refine' s_aug ?gv ?_); (case gv => rfl)) | ((with_reducible refine' s_setI ?gv ?_); (case gv => rfl))
  | ((with_reducible refine' s_setFO ?gv ?gl ?_); (case gv => rfl); (case gl => decide))
  | ((with_reducible refine' g_var ?gv ?_); (case gv => rfl)) | ((with_reducible refine' g_peekO ?gv ?_); (case gv => rfl)) | ((with_reducible refine' g_peekV ?gv ?_); (case gv => rfl))
  | with_reducible refine g_c ?_ | with_reducible refine g_op ?_ | with_reducible refine g_un ?_ | with_reducible refine g_nil ?_ | with_reducible refine g_cons ?_ | with_reducible refine g_tup ?_ | with_reducible refine g_lst ?_ | with_reducible refine g_cb ?_ | with_reducible refine g_call ?_
  | with_reducible refine g_test ?_ | with_reducible refine g_tru ?_ | with_reducible refine g_bl ?_ | with_reducible refine g_yes ?_ | with_reducible refine g_and ?_ | with_reducible refine g_or ?_ | with_reducible refine g_not ?_ | with_reducible refine g_andV ?_ | with_reducible refine g_orV ?_ | with_reducible refine g_notV ?_ | with_reducible refine g_if ?_ | with_reducible refine g_chain ?_
  | with_reducible refine g_T ?_ | with_reducible refine g_F ?_ | with_reducible refine g_nF ?_ | with_reducible refine g_nT ?_
  | with_reducible refine g_less ?_ | with_reducible refine g_leq ?_ | with_reducible refine g_more ?_ | with_reducible refine g_geq ?_ | with_reducible refine g_minus ?_ | with_reducible refine g_plusI ?_ | with_reducible refine g_eqI ?_ | with_reducible refine g_neI ?_ | with_reducible refine g_eqB ?_ | with_reducible refine g_neB ?_ | with_reducible refine g_eqS ?_ | with_reducible refine g_neS ?_
  | with_reducible refine g_isN ?_ | with_reducible refine g_isntN ?_ | with_reducible refine g_int ?_ | with_reducible refine g_lenL ?_ | with_reducible refine g_lenT ?_ | with_reducible refine g_tupleL ?_ | with_reducible refine g_tupleT ?_
  | with_reducible refine g_getF ?_ | with_reducible refine g_meth ?_ | with_reducible refine g_cmpO ?_ | with_reducible refine g_binO ?_ | with_reducible refine g_binI ?_ | with_reducible refine g_binR ?_ | with_reducible refine g_lenZ ?_ | with_reducible refine g_eqL ?_ | with_reducible refine g_enum ?_ | with_reducible refine g_inZ ?_ | with_reducible refine g_newV ?_ | with_reducible refine g_new ?_ | with_reducible refine g_starT ?_ | with_reducible refine g_sortSet ?_ | with_reducible refine g_cell ?_
  | with_reducible refine g_iList ?_ | with_reducible refine g_iTup ?_ | with_reducible refine g_rng1 ?_ | with_reducible refine g_rng2 ?_ | with_reducible refine g_lc ?_)
local macro_rules | `(tactic| walk_at "g") => `(tactic| repeat walk_at "g1")

abbrev LI (ns : List Int) : List D := ns.map D.int
theorem okN_LI (ns : List Int) (n : Nat) : okN (n + 1) (.lst (LI ns)) = true ∧ okN (n + 1) (.tup (LI ns)) = true := by
  have h : (LI ns).all (okN n) = true := by
    rw [List.all_eq_true]; intro x hx
    obtain ⟨i, _, rfl⟩ := List.mem_map.mp hx; unfold okN; rfl
  unfold okN
  exact ⟨h, h⟩
theorem eqvAll_LI : ∀ a b : List Int, PyData.eqvAll (toPys (LI a)) (toPys (LI b)) = decide (a = b)
  | [], [] => by simp [toPys, PyData.eqvAll]
  | [], _ :: _ => by simp [toPys, PyData.eqvAll]
  | _ :: _, [] => by simp [toPys, PyData.eqvAll]
  | x :: a, y :: b => by
    have ih := eqvAll_LI a b
    simp only [List.map_cons, toPys, toPy, PyData.eqvAll, PyData.eqv] at ih ⊢
    rw [ih]
    by_cases h : x = y
    · subst h; simp
    · simp [h]
theorem eqD_LI (a b : List Int) : eqD (.lst (LI a)) (.lst (LI b)) = decide (a = b) := by
  unfold eqD; simp only [toPy, PyData.eqv]; exact eqvAll_LI a b
section
variable {S : Sto} {Q : D → Sto → Prop} {X : XQ}
end
/-- ascending writers -/
structure Asc (a : List Int) : Prop where
  s : a.Pairwise (· < ·)
  r : ∀ x ∈ a, 0 ≤ x ∧ x ≤ 30
theorem rx_eq {α : Type} {o : Out α} {c : Nat} {ns : List PySem.Str} {ds : List D} {S : Sto} (h : Rn o (fun _ _ => False) (fun c' ns' ds' S' => c' = c ∧ ns' = ns ∧ ds' = ds ∧ S' = S)) : o = .ex c ns ds S := by
  cases o with
  | ok => exact False.elim h
  | bad => exact False.elim h
  | ex => obtain ⟨rfl, rfl, rfl, rfl⟩ := h; rfl

def plainD : D → Bool
  | .non => true
  | .bl _ => true
  | .int _ => true
  | .str _ => true
  | .tup _ => true
  | .lst _ => true
  | _ => false

theorem list_ref {S : Sto} {n : Nat} {ds : List D} (h : lstAt S n = some ds) : listOf S (.ref n) = some ds := by
  have e := lstAt_some h
  unfold MR.listOf
  simp only [e]

theorem ix_nat {n i : Nat} (h : i < n) : ixN n (i : Int) = some i := by
  unfold ixN
  rw [if_pos (by omega), if_pos (by omega), Int.toNat_natCast]
theorem at_map {α : Type} {g : α → D} {xs : List α} {i : Nat} (h : i < xs.length) : atI (xs.map g) (i : Int) = some (g xs[i]) := by
  unfold atI
  rw [List.length_map, ix_nat h]
  show (xs.map g)[i]? = _
  rw [List.getElem?_map, List.getElem?_eq_getElem h]; rfl

theorem if_f {mt : MT} {ms : MS} {δ : MR.Env} {S : Sto} {P : EndP} (h : mt δ S = .ok false S) (q : P.nx δ S) : RunS (mIfS mt ms mNext δ S) P := s_ifS (run_eq h (g_F (s_next q)))
theorem if_t {mt : MT} {ms mu : MS} {δ : MR.Env} {S : Sto} {P : EndP} (h : mt δ S = .ok true S) (q : RunS (ms δ S) P) : RunS (mIfS mt ms mu δ S) P := s_ifS (run_eq h (g_T q))
theorem or_f {mt mu : MT} {δ : MR.Env} {S : Sto} (h1 : mt δ S = .ok false S) (h2 : mu δ S = .ok false S) : mOr mt mu δ S = .ok false S := rn_eq (g_or (run_eq h1 (g_F (run_eq h2 ⟨rfl, rfl⟩))))
theorem or_l {mt mu : MT} {δ : MR.Env} {S : Sto} (h1 : mt δ S = .ok true S) : mOr mt mu δ S = .ok true S := rn_eq (g_or (run_eq h1 (g_T ⟨rfl, rfl⟩)))
theorem or_r {mt mu : MT} {δ : MR.Env} {S : Sto} (h1 : mt δ S = .ok false S) (h2 : mu δ S = .ok true S) : mOr mt mu δ S = .ok true S := rn_eq (g_or (run_eq h1 (g_F (run_eq h2 ⟨rfl, rfl⟩))))
/-- a walk over enumerate of a list: I knows the number of the turn -/
theorem s_loopE {mg : MG} {ms : MS} {P : EndP} {δ : MR.Env} {S : Sto} {xs : List D} (I : Nat → MR.Env → Sto → Prop) (h0 : I 0 δ S) (hs : ∀ k (h : k < xs.length) δ S, I k δ S → ∃ δ1, mg (.tup [.int (k : Nat), xs[k]]) δ = some δ1 ∧ RunS (ms δ1 S) { P with nx := I (k + 1), ct := I (k + 1), bk := P.nx }) (he : ∀ δ S, I xs.length δ S → P.nx δ S) :
    RunS (mLoop mg ms (enumD xs) δ S) P := by
  have el : (enumD xs).length = xs.length := by unfold enumD; exact List.length_mapIdx
  refine s_loop (fun ds δ S => ∃ k, k ≤ xs.length ∧ ds = (enumD xs).drop k ∧ I k δ S) ?_ ?_ _ _ _ ⟨0, Nat.zero_le _, rfl, h0⟩
  · rintro d ds δ S ⟨k, hk, e, h⟩
    have hlt : k < xs.length := by
      rcases Nat.lt_or_ge k xs.length with z | z
      · exact z
      · rw [List.drop_of_length_le (by omega)] at e; cases e
    rw [List.drop_eq_getElem_cons (by omega)] at e
    obtain ⟨e1, e2⟩ := List.cons.inj e
    have ed : d = .tup [.int (k : Nat), xs[k]] := by rw [e1]; unfold enumD; rw [List.getElem_mapIdx]
    subst ed
    obtain ⟨δ1, h1, h2⟩ := hs k hlt δ S h
    refine ⟨δ1, h1, ?_⟩
    have imp : ∀ δ S, I (k + 1) δ S → ∃ j, j ≤ xs.length ∧ ds = (enumD xs).drop j ∧ I j δ S := fun δ S z => ⟨k + 1, hlt, e2, z⟩
    cases zz : ms δ1 S with
    | ok f S' => rw [zz] at h2; cases f <;> first | exact imp _ _ h2 | exact h2
    | ex => rw [zz] at h2; exact h2
    | bad => rw [zz] at h2; exact h2
  · rintro δ S ⟨k, hk, e, h⟩
    have : k = xs.length := by
      rcases Nat.lt_or_ge k xs.length with z | z
      · rw [List.drop_eq_getElem_cons (by omega)] at e; cases e
      · omega
    subst this
    exact he δ S h
theorem cut_take0 (l : List D) (a : Nat) : cutD l none (some (a : Int)) = l.take a := by
  unfold cutD
  rw [HT.sIx_none, HT.sIx_nat, List.drop_zero, Nat.sub_zero]
  by_cases h : a ≤ l.length
  · rw [Nat.min_eq_left h]
  · rw [Nat.min_eq_right (by omega), List.take_of_length_le (Nat.le_refl _), List.take_of_length_le (by omega)]
theorem cut_drop0 (l : List D) (a : Nat) : cutD l (some (a : Int)) none = l.drop a := by
  unfold cutD
  rw [HT.sIx_none, HT.sIx_nat]
  by_cases h : a ≤ l.length
  · rw [Nat.min_eq_left h, List.take_of_length_le (by rw [List.length_drop]; omega)]
  · rw [Nat.min_eq_right (by omega), List.drop_of_length_le (Nat.le_refl _), List.drop_of_length_le (by omega), List.take_nil]
theorem cut_mid0 (l : List D) {a b : Nat} (h : a ≤ l.length) (hab : a ≤ b) : cutD l (some (a : Int)) (some (b : Int)) = (l.drop a).take (b - a) := by
  unfold cutD
  rw [HT.sIx_nat, HT.sIx_nat, Nat.min_eq_left h]
  by_cases hz : b ≤ l.length
  · rw [Nat.min_eq_left hz]
  · rw [Nat.min_eq_right (by omega), List.take_of_length_le (by rw [List.length_drop]; omega), List.take_of_length_le (by rw [List.length_drop]; omega)]

mutual
theorem eqv_self : ∀ d : D, PyData.eqv (toPy d) (toPy d) = true
  | .bl b => by cases b <;> rfl
  | .int i => by simp [toPy, PyData.eqv]
  | .str x => by simp [toPy, PyData.eqv]
  | .tup ds => by simp only [toPy, PyData.eqv]; exact eqvs_self ds
  | .lst ds => by simp only [toPy, PyData.eqv]; exact eqvs_self ds
  | .non => rfl
  | .byt _ => rfl
  | .ty _ => rfl
  | .cls _ => rfl
  | .dic _ _ => rfl
  | .fdc _ _ => rfl
  | .ndc _ _ => rfl
  | .fnc _ _ => rfl
  | .obj _ _ _ => rfl
  | .ref _ => rfl
  | .scr _ => rfl
theorem eqvs_self : ∀ ds : List D, PyData.eqvAll (toPys ds) (toPys ds) = true
  | [] => rfl
  | d :: ds => by simp only [toPys, PyData.eqvAll, eqv_self d, eqvs_self ds, Bool.and_self]
end
theorem eqD_self (d : D) : eqD d d = true := eqv_self d
theorem okN_str (n : Nat) {x : PySem.Str} (h : PyData.canLay0 (.str x) = true) : okN n (.str x) = true := by unfold okN; exact h
abbrev cK : Nat := 0
abbrev nK : Nat := 1

theorem lcl_map {α : Type} {g : α → D} {mg : MG} {mt : MT} {me : ME} {δ : MR.Env} {S : Sto} {c : α → Bool} {f : α → D} : ∀ {xs : List α}, (∀ x ∈ xs, ∃ δ1, mg (g x) δ = some δ1 ∧ mt δ1 S = .ok (c x) S ∧ (c x = true → me δ1 S = .ok (f x) S)) → mLcL mg mt me δ (xs.map g) S = .ok ((xs.filter c).map f) S
  | [], _ => rfl
  | d :: ds, h => by
    obtain ⟨δ1, h1, h2, h3⟩ := h d List.mem_cons_self
    have ih := lcl_map (xs := ds) fun x hx => h x (List.mem_cons_of_mem _ hx)
    rw [List.map_cons]
    unfold mLcL
    rw [h1]
    dsimp only
    rw [h2]
    dsimp only [noX, bnd]
    cases z : c d with
    | true => rw [if_pos rfl, h3 z]; dsimp only [noX, bnd]; rw [ih]; simp [z]
    | false => rw [if_neg (by simp), ih]; simp [z]
theorem s_cut {o : Out Fl} {P : EndP} (M : MR.Env → Sto → Prop) (h : RunS o { nx := M, rt := fun _ _ => False }) (k : ∀ δ S, M δ S → P.nx δ S) : RunS o P := by
  cases o with
  | ok f S =>
    cases f with
    | nx δ => exact k _ _ h
    | rt d => exact False.elim h
    | bk d => exact False.elim h
    | ct d => exact False.elim h
    | ex => exact False.elim h
  | ex => exact False.elim h
  | bad => exact False.elim h

def PlS (S : Sto) (p : Nat) : Prop := ∃ a b : Int, S[p]? = some (some (.lst [.int a, .int b])) ∧ 0 ≤ b ∧ b < 2147483647
structure Ne (p : Nat) (S S' : Sto) : Prop where
  len : S'.length = S.length
  at_ : ∀ m, m ≠ p → S'[m]? = S[m]?
theorem Ne.refl (p : Nat) (S : Sto) : Ne p S S := ⟨rfl, fun _ _ => rfl⟩
theorem Ne.trans {p : Nat} {S S' S'' : Sto} (h : Ne p S S') (g : Ne p S' S'') : Ne p S S'' := ⟨g.len.trans h.len, fun m hm => (g.at_ m hm).trans (h.at_ m hm)⟩
theorem Ne.set (p : Nat) (S : Sto) (x : Option D) : Ne p S (S.set p x) := ⟨List.length_set, fun m hm => List.getElem?_set_ne (Ne.symm hm)⟩
theorem Ne.lst {p m : Nat} {S S' : Sto} {ds : List D} (h : Ne p S S') (hm : m ≠ p) (g : lstAt S m = some ds) : lstAt S' m = some ds := by
  unfold lstAt at g ⊢
  rw [h.at_ m hm]; exact g
theorem PlS.lt {S : Sto} {p : Nat} (h : PlS S p) : p < S.length := by
  obtain ⟨a, b, h1, _⟩ := h
  exact (List.getElem?_eq_some_iff.mp h1).1
theorem PlS.app {S X : Sto} {p : Nat} (h : PlS S p) : PlS (S ++ X) p := by
  have hl := h.lt
  obtain ⟨a, b, h1, h2⟩ := h
  exact ⟨a, b, by rw [List.getElem?_append_left hl]; exact h1, h2⟩
theorem PlS.set {S : Sto} {p m : Nat} {x : Option D} (h : PlS S p) (hm : m ≠ p) : PlS (S.set m x) p := by
  obtain ⟨a, b, h1, h2⟩ := h
  exact ⟨a, b, by rw [List.getElem?_set_ne hm]; exact h1, h2⟩
theorem pool_run {ns : List Int} {k : Int} {S : Sto} {Q : D → Sto → Prop} {X : XQ} (hk : 0 ≤ k) (hk2 : k < 1000) (q : ∀ S', PlS S' S.length → (∃ x, S' = S ++ [x]) → Q (.ref S.length) S') : Rn (m__law_pool [.scr ns, .int k] S) Q X := by
  refine s_run ?_
  unfold ms__law_pool
  have fin : ∀ cell : Int, RunS ((mSeq (mAsg (mOp opRest (mOp opTimes (mCB fInt (mCons (mOp opPlus (mOp opPlus (mOp opRest (mCB fInt (mCons (mVar 2) mNil)) (mC (.int 2147483629))) (mOp opTimes (mC (.int 104729)) (mVar 1))) (mC (.int 11))) mNil)) (mC (.int 48271))) (mC (.int 2147483647))) (mGName 3))
      (mRet (mCell (mLst (mCons (mOp opTimes (mVar 2) (mCB fInt (mCons (mOp opGeq (mVar 2) (mOp opPow (mC (.int 10)) (mC (.int 18)))) mNil))) (mCons (mVar 3) mNil)))))) [.val (.scr ns), .val (.int k), .val (.int cell), .no] S) { nx := fun _ S => Q .non S, rt := Q, ex := fun c ns es _ S => X c ns es S } := fun cell => by
    refine s_seq <| s_asgN <| g_op <| g_op <| g_cb <| g_cons <| g_op <| g_op <| g_op <| g_cb <| g_cons <| g_var rfl <| g_nil <| g_int <| g_c <| g_rest (by decide) <| g_op <| g_c <| g_var rfl <| g_times (mul_r (by omega) (by omega)) <| g_plusI <| g_c <| g_plusI <| g_nil <| g_int <| g_c <| g_times (mul_r (by decide) (by decide)) <| g_c <| g_rest (by decide) ?_
    refine s_ret <| g_cell <| g_lst <| g_cons <| g_op <| g_var rfl <| g_cb <| g_cons <| g_op <| g_var rfl <| run_eq (a := .int (10 ^ 18)) rfl <| g_geq <| g_nil ?_
    refine run_eq (a := .int (if decide ((10 ^ 18 : Int) ≤ cell) then 1 else 0)) rfl <| g_times (mul_r ?_ ?_) <| g_cons <| g_var rfl <| g_nil ?_
    · split <;> decide
    · split <;> decide
    · refine q _ ⟨cell * (if decide ((10 ^ 18 : Int) ≤ cell) then 1 else 0), (cell % 2147483629 + 104729 * k + 11) * 48271 % 2147483647, ?_, Int.emod_nonneg _ (by decide), Int.emod_lt_of_pos _ (by decide)⟩ ⟨_, rfl⟩
      rw [List.getElem?_append_right (Nat.le_refl _), Nat.sub_self]; rfl
  refine s_seq <| s_asgN <| g_c ?_
  have hne : opEqN true (.scr ns) (.lst []) S = .ok (.bl (!decide (ns = []))) S := by
    have e : eqD (.lst (ns.map D.int)) (.lst []) = decide (ns = []) := eqD_LI ns []
    have ok1 : okN 9 (.lst (ns.map D.int)) = true := (okN_LI ns 8).1
    show (if (okN 9 (.lst (ns.map D.int)) && okN 9 (.lst [])) = true then Out.ok (D.bl (xor true (eqD (.lst (ns.map D.int)) (.lst [])))) S else .bad) = _
    rw [ok1, e, if_pos (by rfl), Bool.true_xor]
  refine s_seq <| s_ifS <| g_test <| g_op <| g_var rfl <| g_lst <| g_nil <| run_eq hne <| g_bl ?_
  by_cases h : ns = []
  · rw [decide_eq_true h]
    exact g_F <| s_next <| fin 0
  · rw [decide_eq_false h]
    have hp : 0 < ns.length := List.length_pos_iff.mpr h
    have hm : (LI ns).length = ns.length := List.length_map ..
    refine g_T ?_
    with_reducible refine s_asgN ?_
    refine g_op <| g_var rfl <| g_op <| g_cb <| g_cons <| g_var rfl <| g_nil <| g_int <| g_cb <| g_cons <| g_var rfl <| g_nil <| g_len (ds := LI ns) rfl (fun b z => nomatch z) rfl <| g_rest (by rw [hm]; omega) ?_
    have b0 := Int.emod_nonneg k (show ((LI ns).length : Int) ≠ 0 by rw [hm]; omega)
    have b1 := Int.emod_lt_of_pos k (show (0 : Int) < ((LI ns).length : Int) by rw [hm]; omega)
    obtain ⟨j, hj⟩ := Int.eq_ofNat_of_zero_le b0
    rw [hj]
    have hjl : j < ns.length := by rw [hj, hm] at b1; omega
    exact g_ix (ds := LI ns) rfl (at_map (g := D.int) hjl) (fin _)
theorem take_run {p : Nat} {n : Int} {S : Sto} {Q : D → Sto → Prop} {X : XQ} (h : PlS S p) (h0 : 0 < n) (h1 : n < 18446744073709551616) (q : ∀ r S', 0 ≤ r → r < n → PlS S' p → Ne p S S' → Q (.int r) S') : Rn (m__law_take [.ref p, .int n] S) Q X := by
  have hlt := h.lt
  obtain ⟨a, b, hS, b0, b1⟩ := h
  have hl : lstAt S p = some [.int a, .int b] := by unfold lstAt; rw [hS]
  refine s_run ?_
  unfold ms__law_take
  refine s_seq <| s_ifS <| g_test <| g_op <| g_op <| g_var rfl <| g_c <| g_ix (list_ref hl) rfl <| g_c <| g_more <| g_bl ?_
  by_cases ha : 0 < a
  · rw [decide_eq_true ha]
    refine g_T ?_
    refine s_seq <| s_asgN <| g_op <| g_cb <| g_cons <| g_op <| g_var rfl <| g_c <| g_ix (list_ref hl) rfl <| g_nil <| g_int <| g_var rfl <| g_rest h0 ?_
    refine s_seq <| s_setC (m := p) (ds := [.int a, .int b]) <| g_op <| g_op <| g_var rfl <| g_c <| g_ix (list_ref hl) rfl <| g_var rfl <| g_quot h0 h1 <| g_var rfl <| g_c ⟨0, 0, rfl, rfl, hS, rfl, ?_⟩
    with_reducible refine s_ret ?_
    refine g_var rfl ?_
    refine q _ _ (Int.emod_nonneg _ (by omega)) (Int.emod_lt_of_pos _ h0) ⟨a / n, b, ?_, b0, b1⟩ (Ne.set p S _)
    rw [List.getElem?_set_self hlt]; rfl
  · rw [decide_eq_false ha]
    refine g_F <| s_next ?_
    refine s_seq <| s_setC (m := p) (ds := [.int a, .int b]) <| g_op <| g_cb <| g_cons <| g_op <| g_op <| g_op <| g_var rfl <| g_c <| g_ix (list_ref hl) rfl <| g_c <| g_times (mul_r (by decide) (by decide)) <| g_c <| g_plusI <| g_nil <| g_int <| g_c <| g_rest (by decide) <| g_var rfl <| g_c ⟨1, 1, rfl, rfl, hS, rfl, ?_⟩
    obtain ⟨b', hb'⟩ : ∃ b' : Int, b' = (b * 48271 + 11) % 2147483647 := ⟨_, rfl⟩
    have c0 : 0 ≤ b' := by rw [hb']; exact Int.emod_nonneg _ (by decide)
    have c1 : b' < 2147483647 := by rw [hb']; exact Int.emod_lt_of_pos _ (by decide)
    rw [← hb']
    have hS' : (S.set p (some (.lst [.int a, .int b'])))[p]? = some (some (.lst [.int a, .int b'])) := List.getElem?_set_self hlt
    have hl' : lstAt (S.set p (some (.lst [.int a, .int b']))) p = some [.int a, .int b'] := by unfold lstAt; rw [hS']
    show RunS (mRet _ _ (S.set p (some (.lst [.int a, .int b'])))) _
    refine s_ret <| g_op <| g_cb <| g_cons <| g_op <| g_op <| g_cb <| g_cons <| g_op <| g_op <| g_var rfl <| g_c <| g_ix (list_ref hl') rfl <| g_op <| g_var rfl <| g_c <| g_ix (list_ref hl') rfl <| g_times (mul_r (by omega) (by omega)) <| g_nil <| g_int <| g_c <| g_rest (by decide) <| g_c <| g_quot (by decide) (by decide) <| g_nil <| g_int <| g_var rfl <| g_rest h0 ?_
    exact q _ _ (Int.emod_nonneg _ (by omega)) (Int.emod_lt_of_pos _ h0) ⟨a, b', hS', c0, c1⟩ (Ne.set p S _)

abbrev WS := List PySem.Str
abbrev LS (ws : WS) : List D := ws.map D.str
theorem flat_LS (ws : WS) : (LS ws).all flatD = true := by
  rw [List.all_eq_true]; intro x hx
  obtain ⟨i, _, rfl⟩ := List.mem_map.mp hx; rfl
theorem eqF_str (a b : PySem.Str) : eqF (.str a) (.str b) = decide (a = b) := by
  show (a == b) = decide (a = b)
  rw [Bool.eq_iff_iff]; simp
theorem any_LS (ws : WS) (k : PySem.Str) : ((LS ws).any fun d => eqF d (.str k)) = decide (k ∈ ws) := by
  induction ws with
  | nil => rfl
  | cons n ns ih =>
    simp only [List.map_cons, List.any_cons] at ih ⊢
    rw [ih, eqF_str]
    by_cases h : n = k
    · subst h; simp
    · have h' : ¬ k = n := fun z => h z.symm
      simp [h, h']
theorem inLS (neg : Bool) (ws : WS) (k : PySem.Str) (S : Sto) : opIn neg (.str k) (.lst (LS ws)) S = .ok (.bl (xor neg (decide (k ∈ ws)))) S := rn_eq (g_in (ds := LS ws) rfl rfl (flat_LS ws) (by rw [any_LS]; exact ⟨rfl, rfl⟩))
theorem inTS (neg : Bool) (ws : WS) (k : PySem.Str) (S : Sto) : opIn neg (.str k) (.tup (LS ws)) S = .ok (.bl (xor neg (decide (k ∈ ws)))) S := rn_eq (g_in (ds := LS ws) rfl rfl (flat_LS ws) (by rw [any_LS]; exact ⟨rfl, rfl⟩))
theorem texts_LS : ∀ ws : WS, textsOf (LS ws) = some ws
  | [] => rfl
  | w :: ws => by show (textsOf (LS ws)).map (w :: ·) = _; rw [texts_LS ws]; rfl
def ixW (a : PySem.Str) : WS → Nat
  | [] => 0
  | w :: ws => if w = a then 0 else ixW a ws + 1
theorem idx_LS {a : PySem.Str} : ∀ {ws : WS}, a ∈ ws → idxD (.str a) (LS ws) = some (ixW a ws)
  | [], h => absurd h List.not_mem_nil
  | w :: ws, h => by
    show (if eqF (.str w) (.str a) = true then some 0 else (idxD (.str a) (LS ws)).map (· + 1)) = some (if w = a then 0 else ixW a ws + 1)
    rw [eqF_str]
    by_cases e : w = a
    · rw [decide_eq_true e, if_pos rfl, if_pos e]
    · rw [decide_eq_false e, if_neg (by decide), if_neg e, idx_LS ((List.mem_cons.mp h).resolve_left fun z => e z.symm)]; rfl
theorem g_indexR {mo me : ME} {δ : MR.Env} {S : Sto} {ws : WS} {a : PySem.Str} {d : D} {Q : D → Sto → Prop} {X : XQ} (h1 : mo δ S = .ok d S) (hd : listOf S d = some (LS ws)) (h2 : me δ S = .ok (.str a) S) (h : a ∈ ws) (q : Q (.int (ixW a ws : Nat)) S) : Rn (mIndex mo me δ S) Q X := by
  unfold mIndex
  rw [h1]
  dsimp only [bnd]
  rw [hd]
  dsimp only [Option.isSome]
  rw [if_pos rfl, h2]
  dsimp only [bnd]
  rw [hd]
  dsimp only
  rw [flat_LS, show flatD (.str a) = true from rfl]
  rw [if_pos (show (true && true) = true from rfl), idx_LS h]
  exact q
theorem g_index {mo me : ME} {δ : MR.Env} {S : Sto} {ws : WS} {a : PySem.Str} {Q : D → Sto → Prop} {X : XQ} (h1 : mo δ S = .ok (.lst (LS ws)) S) (h2 : me δ S = .ok (.str a) S) (h : a ∈ ws) (q : Q (.int (ixW a ws : Nat)) S) : Rn (mIndex mo me δ S) Q X := g_indexR h1 rfl h2 h q
def aheadB (ws : WS) (a b : PySem.Str) : Bool := !(decide (a ∈ ws)) || (!(decide (b ∈ ws)) || decide (ixW a ws < ixW b ws))
theorem is_ahead_e (ws : WS) (a b : PySem.Str) (S : Sto) : m_is_ahead [.lst (LS ws), .str a, .str b] S = .ok (.bl (aheadB ws a b)) S := by
  refine rn_eq (s_run ?_)
  unfold ms_is_ahead aheadB
  refine s_ret <| g_orV <| g_op <| g_var rfl <| g_var rfl <| run_eq (inLS _ _ _ _) ⟨_, rfl, ?_⟩
  rw [Bool.true_xor]
  by_cases ha : a ∈ ws
  · rw [decide_eq_true ha]
    refine g_nT <| g_orV <| g_op <| g_var rfl <| g_var rfl <| run_eq (inLS _ _ _ _) ⟨_, rfl, ?_⟩
    rw [Bool.true_xor]
    by_cases hb : b ∈ ws
    · rw [decide_eq_true hb]
      refine g_nT <| g_op <| g_index rfl rfl ha <| g_index rfl rfl hb <| g_less ⟨?_, rfl⟩
      rw [Bool.not_true, Bool.false_or, Bool.false_or]
      congr 1
      exact decide_eq_decide.mpr (by omega)
    · rw [decide_eq_false hb]
      exact g_nF ⟨rfl, rfl⟩
  · rw [decide_eq_false ha]
    exact g_nF ⟨rfl, rfl⟩
def lockB (ws : WS) : Bool := (decide (("lock" : PySem.Str) ∈ ws) == decide (("unlock" : PySem.Str) ∈ ws)) && aheadB ws "lock" "unlock"
theorem is_locked_e (ws : WS) (S : Sto) : m_is_locked_well [.lst (LS ws)] S = .ok (.bl (lockB ws)) S := by
  refine rn_eq (s_run ?_)
  unfold ms_is_locked_well lockB
  refine s_ret <| g_andV <| g_op <| g_op <| g_c <| g_var rfl <| run_eq (inLS _ _ _ _) <| g_op <| g_c <| g_var rfl <| run_eq (inLS _ _ _ _) <| g_eqB ⟨_, rfl, ?_⟩
  rw [Bool.false_xor, Bool.false_xor]
  cases (decide (("lock" : PySem.Str) ∈ ws) == decide (("unlock" : PySem.Str) ∈ ws)) with
  | false => exact g_F ⟨rfl, rfl⟩
  | true =>
    refine g_T <| g_call <| g_cons <| g_var rfl <| g_cons <| g_c <| g_cons <| g_c <| g_nil <| run_eq (is_ahead_e _ _ _ _) ?_
    exact ⟨by rw [Bool.true_and], rfl⟩
theorem bls_lcl {α : Type} (xs : List α) (f : α → Bool) : blsOf (xs.map fun x => D.bl (f x)) = some (xs.map f) := by
  rw [show (xs.map fun x => D.bl (f x)) = (xs.map f).map D.bl by rw [List.map_map]; rfl]
  exact blsOf_map _
theorem all_there_e (ws nd : WS) (S : Sto) : m_all_there [.lst (LS ws), .tup (LS nd)] S = .ok (.bl (nd.all fun w => decide (w ∈ ws))) S := by
  refine rn_eq (s_run ?_)
  unfold ms_all_there
  refine s_ret <| g_cb <| g_cons <| g_lc <| g_iTup <| g_var rfl ⟨_, rfl, ?_⟩
  refine run_eq (lcl_map (g := D.str) (c := fun _ => true) (f := fun w => D.bl (decide (w ∈ ws))) fun x hx => ⟨_, rfl, rfl, fun _ => ?_⟩) ?_
  · exact rn_eq <| g_op <| g_var rfl <| g_var rfl <| run_eq (inLS _ _ _ _) ⟨by rw [Bool.false_xor], rfl⟩
  rw [List.filter_eq_self.mpr fun _ _ => rfl]
  refine g_nil <| g_all (bs := nd.map fun w => decide (w ∈ ws)) (by exact bls_lcl _ _) ⟨?_, rfl⟩
  rw [List.all_map]; rfl
def goodWs (ks ws : WS) : Bool := nodupB ws && ws.all fun w => decide (w ∈ ks)
theorem words_of_e {s : PySem.Str} (ks : WS) (hl : s.length ≤ 900) (S : Sto) : m_words_of [.str s, .tup (LS ks)] S = .ok (if goodWs ks (Txt.split s " ") = true then .lst (LS (Txt.split s " ")) else .non) S := by
  have hs : (Txt.split s " ").length ≤ 1000 := by
    have := PyProof.Rows.split_le s " "
    omega
  generalize hw : Txt.split s " " = ws at hs
  refine rn_eq (s_run ?_)
  unfold ms_words_of goodWs
  refine s_seq <| if_f rfl <| s_seq <| s_asgN ?_
  refine run_eq (S := S) (a := .lst (LS ws)) ?_ ?_
  · show (if (((" " : PySem.Str).length == 0) = false ∧ s.length + 2 ≤ 16777216) then Out.ok (D.lst ((Txt.split s " ").map D.str)) S else .bad) = _
    rw [if_pos ⟨by decide +kernel, by omega⟩, hw]
  dsimp only [List.set, startD, List.map, List.replicate, List.append]
  have hm : ∀ (δ : MR.Env), δ[2]? = some (.val (.lst (LS ws))) → mSetNe 2 δ S = .ok (.bl (!nodupB ws)) S := fun δ h => by
    unfold mSetNe mPeek
    rw [h]
    dsimp only
    rw [show (listOf S (.lst (LS ws))).bind textsOf = some ws from texts_LS ws]
    dsimp only
    rw [if_pos hs]
  have hA : ∀ (δ : MR.Env), δ[1]? = some (.val (.tup (LS ks))) → δ[2]? = some (.val (.lst (LS ws))) → δ.length = 4 → (mNot (mTest (mCB fAll (mCons (mLc (mIList (mVar 2)) (mGName 3) mYes (mOp (opIn false) (mVar 3) (mVar 1)) [3]) mNil)))) δ S = .ok (!(ws.all fun w => decide (w ∈ ks))) S := fun δ h1 h2 hd => by
    match δ, hd with
    | [d0, d1, d2, d3], _ =>
      obtain rfl : d1 = .val (.tup (LS ks)) := by injection h1
      obtain rfl : d2 = .val (.lst (LS ws)) := by injection h2
      refine rn_eq <| g_not <| g_test <| g_cb <| g_cons <| g_lc <| g_iList <| g_var rfl ⟨_, .inl rfl, ?_⟩
      refine run_eq (lcl_map (g := D.str) (c := fun _ => true) (f := fun w => D.bl (decide (w ∈ ks))) fun x hx => ⟨_, rfl, rfl, fun _ => ?_⟩) ?_
      · exact rn_eq <| g_op <| g_var rfl <| g_var rfl <| run_eq (inTS _ _ _ _) ⟨by rw [Bool.false_xor], rfl⟩
      rw [List.filter_eq_self.mpr fun _ _ => rfl]
      refine g_nil <| g_all (bs := ws.map fun w => decide (w ∈ ks)) (by exact bls_lcl _ _) <| g_bl ?_
      rw [List.all_map]
      exact ⟨rfl, rfl⟩
  refine s_seq ?_
  cases hn : nodupB ws with
  | false =>
    refine if_t (or_l (rn_eq <| g_test <| run_eq (hm _ rfl) <| g_bl ⟨by rw [hn]; rfl, rfl⟩)) ?_
    refine s_ret (g_c ?_)
    rw [Bool.false_and, if_neg (by decide)]
    exact ⟨rfl, rfl⟩
  | true =>
    have h1 : (mTest (mSetNe 2)) [.val (.str s), .val (.tup (LS ks)), .val (.lst (LS ws)), .no] S = .ok false S := rn_eq <| g_test <| run_eq (hm _ rfl) <| g_bl ⟨by rw [hn]; rfl, rfl⟩
    have h2 := hA [.val (.str s), .val (.tup (LS ks)), .val (.lst (LS ws)), .no] rfl rfl rfl
    rw [Bool.true_and]
    cases ha : ws.all fun w => decide (w ∈ ks) with
    | false =>
      rw [ha] at h2
      refine if_t (or_r h1 h2) ?_
      refine s_ret (g_c ?_)
      rw [if_neg (by decide)]
      exact ⟨rfl, rfl⟩
    | true =>
      rw [ha] at h2
      refine if_f (or_f h1 h2) ?_
      dsimp only
      refine s_ret ?_
      refine g_var rfl ?_
      rw [if_pos rfl]
      exact ⟨rfl, rfl⟩
def wWr : WS := ["change", "enter", "commit", "clear", "lock", "unlock"]
def wCl : WS := ["look", "set", "remove", "again", "lock", "unlock"]
def wRd : WS := ["entry", "mark", "page", "hold", "take", "tell"]
def okWr (ws : WS) : Bool := goodWs wWr ws && (([("change" : PySem.Str), "enter", "commit"].all fun w => decide (w ∈ ws)) && (aheadB ws "change" "enter" && (aheadB ws "change" "commit" && lockB ws)))
def okCl (ws : WS) : Bool := goodWs wCl ws && (([("look" : PySem.Str), "set"].all fun w => decide (w ∈ ws)) && (lockB ws && (aheadB ws "look" "set" && (aheadB ws "remove" "look" && aheadB ws "set" "again"))))
def lastW : WS → PySem.Str
  | [] => ""
  | [w] => w
  | _ :: x :: ws => lastW (x :: ws)
def okRd (ws : WS) : Bool := goodWs wRd ws && (([("entry" : PySem.Str), "mark", "page"].all fun w => decide (w ∈ ws)) && (decide (lastW ws = "page") && ((decide (("take" : PySem.Str) ∈ ws) == decide (("tell" : PySem.Str) ∈ ws)) && (!(decide (("hold" : PySem.Str) ∈ ws) == decide (("take" : PySem.Str) ∈ ws)) && aheadB ws "take" "tell"))))
theorem is_writer_e {s : PySem.Str} (hl : s.length ≤ 900) (S : Sto) : m_is_writer [.str s] S = .ok (.bl (okWr (Txt.split s " "))) S := by
  refine rn_eq (s_run ?_)
  unfold ms_is_writer okWr
  refine s_seq <| s_asgN <| g_call <| g_cons <| g_var rfl <| g_cons <| g_c <| g_nil <| run_eq (words_of_e wWr hl S) ?_
  generalize Txt.split s " " = ws
  cases goodWs wWr ws with
  | false =>
    rw [if_neg (by decide)]
    dsimp only
    refine s_seq ?_
    refine if_t (or_l rfl) ?_
    refine s_ret (g_c ?_)
    exact ⟨rfl, rfl⟩
  | true =>
    rw [if_pos rfl, Bool.true_and]
    refine s_seq <| s_ifS <| g_or <| g_test <| g_op <| g_var rfl <| g_c <| g_isN <| g_bl <| g_F <| g_not <| g_test <| g_call <| g_cons <| g_var rfl <| g_cons <| g_tup <| g_cons <| g_c <| g_cons <| g_c <| g_cons <| g_c <| g_nil <| g_nil <| run_eq (all_there_e ws ["change", "enter", "commit"] S) <| g_bl ?_
    cases ([("change" : PySem.Str), "enter", "commit"].all fun w => decide (w ∈ ws)) with
    | false =>
      refine g_nF ?_
      refine s_ret <| g_c ?_
      exact ⟨rfl, rfl⟩
    | true =>
      refine g_nT ?_
      refine s_next ?_
      refine s_ret <| g_andV <| g_call <| g_cons <| g_var rfl <| g_cons <| g_c <| g_cons <| g_c <| g_nil <| run_eq (is_ahead_e _ _ _ _) ⟨_, rfl, ?_⟩
      rw [Bool.true_and]
      cases aheadB ws "change" "enter" with
      | false => exact g_F ⟨rfl, rfl⟩
      | true =>
        refine g_T <| g_andV <| g_call <| g_cons <| g_var rfl <| g_cons <| g_c <| g_cons <| g_c <| g_nil <| run_eq (is_ahead_e _ _ _ _) ⟨_, rfl, ?_⟩
        cases aheadB ws "change" "commit" with
        | false => exact g_F ⟨rfl, rfl⟩
        | true =>
          refine g_T <| g_call <| g_cons <| g_var rfl <| g_nil <| run_eq (is_locked_e _ _) ?_
          exact ⟨rfl, rfl⟩
theorem is_cleaner_e {s : PySem.Str} (hl : s.length ≤ 900) (S : Sto) : m_is_cleaner [.str s] S = .ok (.bl (okCl (Txt.split s " "))) S := by
  refine rn_eq (s_run ?_)
  unfold ms_is_cleaner okCl
  refine s_seq <| s_asgN <| g_call <| g_cons <| g_var rfl <| g_cons <| g_c <| g_nil <| run_eq (words_of_e wCl hl S) ?_
  generalize Txt.split s " " = ws
  cases goodWs wCl ws with
  | false =>
    rw [if_neg (by decide)]
    dsimp only
    refine s_seq ?_
    refine if_t (or_l rfl) ?_
    refine s_ret (g_c ?_)
    exact ⟨rfl, rfl⟩
  | true =>
    rw [if_pos rfl, Bool.true_and]
    refine s_seq <| s_ifS <| g_or <| g_test <| g_op <| g_var rfl <| g_c <| g_isN <| g_bl <| g_F <| g_or <| g_not <| g_test <| g_call <| g_cons <| g_var rfl <| g_cons <| g_tup <| g_cons <| g_c <| g_cons <| g_c <| g_nil <| g_nil <| run_eq (all_there_e ws ["look", "set"] S) <| g_bl ?_
    cases ([("look" : PySem.Str), "set"].all fun w => decide (w ∈ ws)) with
    | false =>
      refine g_nF <| g_T ?_
      refine s_ret <| g_c ?_
      exact ⟨rfl, rfl⟩
    | true =>
      refine g_nT <| g_not <| g_test <| g_call <| g_cons <| g_var rfl <| g_nil <| run_eq (is_locked_e _ _) <| g_bl ?_
      rw [Bool.true_and]
      cases lockB ws with
      | false =>
        refine g_nF ?_
        refine s_ret <| g_c ?_
        exact ⟨rfl, rfl⟩
      | true =>
        refine g_nT ?_
        refine s_next ?_
        refine s_ret <| g_andV <| g_call <| g_cons <| g_var rfl <| g_cons <| g_c <| g_cons <| g_c <| g_nil <| run_eq (is_ahead_e _ _ _ _) ⟨_, rfl, ?_⟩
        rw [Bool.true_and]
        cases aheadB ws "look" "set" with
        | false => exact g_F ⟨rfl, rfl⟩
        | true =>
          refine g_T <| g_andV <| g_call <| g_cons <| g_var rfl <| g_cons <| g_c <| g_cons <| g_c <| g_nil <| run_eq (is_ahead_e _ _ _ _) ⟨_, rfl, ?_⟩
          cases aheadB ws "remove" "look" with
          | false => exact g_F ⟨rfl, rfl⟩
          | true =>
            refine g_T <| g_call <| g_cons <| g_var rfl <| g_cons <| g_c <| g_cons <| g_c <| g_nil <| run_eq (is_ahead_e _ _ _ _) ?_
            exact ⟨rfl, rfl⟩
theorem at_last : ∀ {ws : WS}, ws ≠ [] → (LS ws)[ws.length - 1]? = some (.str (lastW ws))
  | [], h => absurd rfl h
  | [w], _ => rfl
  | w :: x :: ws, _ => at_last (ws := x :: ws) (List.cons_ne_nil _ _)
theorem ix_last {ws : WS} (h : ws ≠ []) : atI (LS ws) (-1) = some (.str (lastW ws)) := by
  have hp := List.length_pos_iff.mpr h
  unfold atI ixN
  rw [if_neg (by decide), List.length_map]
  have := at_last h
  rw [List.getElem?_map] at this
  simp
  rw [if_pos (by omega)]
  rw [show (-1 + (ws.length : Int)).toNat = ws.length - 1 by omega]
  exact this
theorem is_reader_e {s : PySem.Str} (hl : s.length ≤ 900) (S : Sto) : m_is_reader [.str s] S = .ok (.bl (okRd (Txt.split s " "))) S := by
  refine rn_eq (s_run ?_)
  unfold ms_is_reader okRd
  refine s_seq <| s_asgN <| g_call <| g_cons <| g_var rfl <| g_cons <| g_c <| g_nil <| run_eq (words_of_e wRd hl S) ?_
  generalize Txt.split s " " = ws
  cases goodWs wRd ws with
  | false =>
    rw [if_neg (by decide)]
    dsimp only
    refine s_seq ?_
    refine if_t (or_l rfl) ?_
    refine s_ret (g_c ?_)
    exact ⟨rfl, rfl⟩
  | true =>
    rw [if_pos rfl, Bool.true_and]
    refine s_seq <| s_ifS <| g_or <| g_test <| g_op <| g_var rfl <| g_c <| g_isN <| g_bl <| g_F <| g_or <| g_not <| g_test <| g_call <| g_cons <| g_var rfl <| g_cons <| g_tup <| g_cons <| g_c <| g_cons <| g_c <| g_cons <| g_c <| g_nil <| g_nil <| run_eq (all_there_e ws ["entry", "mark", "page"] S) <| g_bl ?_
    cases ha : ([("entry" : PySem.Str), "mark", "page"].all fun w => decide (w ∈ ws)) with
    | false =>
      refine g_nF <| g_T ?_
      refine s_ret <| g_c ?_
      exact ⟨rfl, rfl⟩
    | true =>
      have hne : ws ≠ [] := fun z => by subst z; cases ha
      refine g_nT <| g_test <| g_op <| g_op <| g_var rfl <| run_eq (a := .int (-1)) rfl <| g_ix (ds := LS ws) rfl (ix_last hne) ?_
      refine g_c ?_
      refine g_neS <| g_bl ?_
      rw [Bool.true_and]
      cases decide (lastW ws = "page") with
      | false =>
        refine g_nF ?_
        refine s_ret <| g_c ?_
        exact ⟨rfl, rfl⟩
      | true =>
        refine g_nT ?_
        refine s_next ?_
        refine s_seq <| s_ifS <| g_or <| g_test <| g_op <| g_op <| g_c <| g_var rfl <| run_eq (inLS _ _ _ _) <| g_op <| g_c <| g_var rfl <| run_eq (inLS _ _ _ _) <| g_neB <| g_bl ?_
        rw [Bool.false_xor, Bool.false_xor, Bool.true_and]
        cases (decide (("take" : PySem.Str) ∈ ws) == decide (("tell" : PySem.Str) ∈ ws)) with
        | false =>
          refine g_nF <| g_T ?_
          refine s_ret <| g_c ?_
          exact ⟨rfl, rfl⟩
        | true =>
          refine g_nT <| g_test <| g_op <| g_op <| g_c <| g_var rfl <| run_eq (inLS _ _ _ _) <| g_op <| g_c <| g_var rfl <| run_eq (inLS _ _ _ _) <| g_eqB <| g_bl ?_
          rw [Bool.false_xor, Bool.false_xor, Bool.true_and]
          cases (decide (("hold" : PySem.Str) ∈ ws) == decide (("take" : PySem.Str) ∈ ws)) with
          | true =>
            refine g_T ?_
            refine s_ret <| g_c ?_
            exact ⟨rfl, rfl⟩
          | false =>
            refine g_F ?_
            refine s_next ?_
            refine s_ret <| g_call <| g_cons <| g_var rfl <| g_cons <| g_c <| g_cons <| g_c <| g_nil <| run_eq (is_ahead_e _ _ _ _) ?_
            exact ⟨rfl, rfl⟩

def J (ws : WS) : PySem.Str := Txt.join " " ws
theorem splitJ {ws : WS} (h : ws ≠ []) (hb : ∀ x ∈ ws, 32 ∉ TL.tl x) : Txt.split (J ws) " " = ws := TL.split_join (y := " ") (s := 32) (S := []) rfl (by decide +kernel) h hb
theorem slen_app (x y : PySem.Str) : (x ++ y).length = x.length + y.length := by
  show (x.cps ++ y.cps).size = _
  rw [Array.size_append]; rfl
theorem J_len : ∀ ws : WS, (J ws).length ≤ (ws.map (·.length)).sum + ws.length
  | [] => Nat.le_refl _
  | [x] => by show x.length ≤ _; simp only [List.map_cons, List.sum_cons, List.length_cons]; omega
  | x :: y :: r => by
    have ih := J_len (y :: r)
    have e : J (x :: y :: r) = x ++ " " ++ J (y :: r) := by unfold J; rw [TL.join_eq, TL.join_eq]; rfl
    rw [e, slen_app, slen_app]
    rw [List.map_cons, List.sum_cons, List.length_cons]
    have : (" " : PySem.Str).length = 1 := by decide +kernel
    omega
def okw (x : PySem.Str) : Bool := decide (x.length ≤ 10) && (x.cps.toList.all (fun c => decide (c ≠ 32)) && PyData.strOk x)
def cleanW (ws : WS) : Bool := decide (0 < ws.length) && (decide (ws.length ≤ 10) && ws.all okw)
theorem clean_ne {ws : WS} (h : cleanW ws = true) : ws ≠ [] := fun z => by subst z; cases h
theorem clean_len {ws : WS} (h : cleanW ws = true) : ws.length ≤ 10 := by
  unfold cleanW at h
  simp only [Bool.and_eq_true, decide_eq_true_eq] at h
  exact h.2.1
theorem clean_w {ws : WS} (h : cleanW ws = true) : ∀ x ∈ ws, x.length ≤ 10 ∧ 32 ∉ TL.tl x := fun x hx => by
  unfold cleanW at h
  simp only [Bool.and_eq_true, decide_eq_true_eq, List.all_eq_true] at h
  have h1 := h.2.2 x hx
  unfold okw at h1
  simp only [Bool.and_eq_true, decide_eq_true_eq, List.all_eq_true] at h1
  exact ⟨h1.1, fun z => h1.2.1 32 z rfl⟩
theorem clean_s {ws : WS} (h : cleanW ws = true) : ∀ x ∈ ws, PyData.strOk x = true := fun x hx => by
  unfold cleanW at h
  simp only [Bool.and_eq_true, decide_eq_true_eq, List.all_eq_true] at h
  have h1 := h.2.2 x hx
  unfold okw at h1
  simp only [Bool.and_eq_true] at h1
  exact h1.2.2
theorem sok_app {x y : PySem.Str} (h : PyData.strOk x = true) (g : PyData.strOk y = true) : PyData.strOk (x ++ y) = true := by
  unfold PyData.strOk at h g ⊢
  show (x.cps ++ y.cps).all _ = true
  rw [Array.all_append, h, g]; rfl
theorem J_ok : ∀ {ws : WS}, (∀ x ∈ ws, PyData.strOk x = true) → PyData.strOk (J ws) = true
  | [], _ => by decide +kernel
  | [x], h => h x List.mem_cons_self
  | x :: y :: r, h => by
    have ih := J_ok (ws := y :: r) fun z hz => h z (List.mem_cons_of_mem _ hz)
    have e : J (x :: y :: r) = x ++ " " ++ J (y :: r) := by unfold J; rw [TL.join_eq, TL.join_eq]; rfl
    rw [e]
    exact sok_app (sok_app (h x List.mem_cons_self) (by decide +kernel)) ih
theorem clean_lay {ws : WS} (h : cleanW ws = true) : PyData.canLay0 (.str (J ws)) = true := J_ok (clean_s h)
theorem clean_sum : ∀ {ws : WS}, (∀ x ∈ ws, x.length ≤ 10) → (ws.map (·.length)).sum ≤ 10 * ws.length
  | [], _ => Nat.le_refl _
  | x :: ws, h => by
    have := clean_sum (ws := ws) fun y hy => h y (List.mem_cons_of_mem _ hy)
    have h1 := h x List.mem_cons_self
    rw [List.map_cons, List.sum_cons, List.length_cons]
    omega
theorem clean_J {ws : WS} (h : cleanW ws = true) : (J ws).length ≤ 110 ∧ Txt.split (J ws) " " = ws := by
  refine ⟨?_, splitJ (clean_ne h) fun x hx => (clean_w h x hx).2⟩
  have h1 := J_len ws
  have h2 := clean_sum fun x hx => (clean_w h x hx).1
  have h3 := clean_len h
  omega
theorem strs_LS : ∀ ws : WS, strsOf (LS ws) = some ws
  | [] => rfl
  | w :: ws => by show (strsOf (LS ws)).map (w :: ·) = _; rw [strs_LS ws]; rfl
theorem join_e {ws : WS} (h : cleanW ws = true) (S : Sto) : opJoin (.str " ") (.lst (LS ws)) S = .ok (.str (J ws)) S := by
  have h2 := clean_sum fun x hx => (clean_w h x hx).1
  have h3 := clean_len h
  have e : (seqOf S (.lst (LS ws))).bind strsOf = some ws := strs_LS ws
  unfold opJoin
  rw [e]
  dsimp only
  have : (" " : PySem.Str).length = 1 := by decide +kernel
  rw [this, if_pos (by omega)]
  rfl

def putIn (ws : WS) (w : PySem.Str) (k : Nat) : WS := ws.take k ++ [w] ++ ws.drop k
theorem slices_e {ma mk : ME} {δ : MR.Env} {S : Sto} {ws : WS} {w : PySem.Str} {k : Nat} (hl : ws.length ≤ 1000) (h1 : ma δ S = .ok (.lst (LS ws)) S) (h2 : mk δ S = .ok (.int (k : Int)) S) {mw : ME} (h3 : mw δ S = .ok (.str w) S) : mOp opPlus (mOp opPlus (mSl slL ma mNoPart (mPart mk)) (mLst (mCons mw mNil))) (mSl slL ma (mPart mk) mNoPart) δ S = .ok (.lst (LS (putIn ws w k))) S := by
  have e1 : mSl slL ma mNoPart (mPart mk) δ S = .ok (.lst (LS (ws.take k))) S := by
    unfold mSl mNoPart mPart
    simp only [h1, h2, bnd]
    show Out.ok (D.lst (cutD (LS ws) none (some (k : Int)))) S = _
    rw [cut_take0]
    unfold LS
    rw [List.map_take]
  have e2 : mSl slL ma (mPart mk) mNoPart δ S = .ok (.lst (LS (ws.drop k))) S := by
    unfold mSl mNoPart mPart
    simp only [h1, h2, bnd]
    show Out.ok (D.lst (cutD (LS ws) (some (k : Int)) none)) S = _
    rw [cut_drop0]
    unfold LS
    rw [List.map_drop]
  have e3 : (LS (ws.take k)).length ≤ 1000 := by rw [List.length_map, List.length_take]; omega
  have e4 : (LS (ws.drop k)).length ≤ 1000 := by rw [List.length_map, List.length_drop]; omega
  refine rn_eq <| g_op <| g_op <| run_eq e1 <| g_lst <| g_cons <| run_eq h3 <| g_nil <| g_catL (by show _ + 1 ≤ _; omega) <| run_eq e2 <| g_catL ?_ ⟨?_, rfl⟩
  · rw [List.length_append]; show _ + 1 + _ ≤ _; omega
  unfold putIn LS
  rw [List.map_append, List.map_append]; rfl
def pcs (L : List WS) (w : PySem.Str) (lo : Nat) : List WS := L.flatMap fun ws => (List.range (ws.length + 1 - lo)).map fun k => putIn ws w (lo + k)
theorem mem_pcs {L : List WS} {ws : WS} {w : PySem.Str} {lo k : Nat} (h : ws ∈ L) (h1 : lo ≤ k) (h2 : k ≤ ws.length) : putIn ws w k ∈ pcs L w lo := by
  unfold pcs
  rw [List.mem_flatMap]
  refine ⟨ws, h, List.mem_map.mpr ⟨k - lo, List.mem_range.mpr (by omega), ?_⟩⟩
  rw [show lo + (k - lo) = k by omega]
theorem len_of {L : List WS} {n : Nat} (h : (L.all fun ws => decide (ws.length ≤ n)) = true) {ws : WS} (hw : ws ∈ L) : ws.length ≤ n := by
  rw [List.all_eq_true] at h
  exact of_decide_eq_true (h ws hw)
theorem all_okc {L : List WS} {p : WS → Bool} (h : (L.all fun ws => p ws && cleanW ws) = true) {ws : WS} (hw : ws ∈ L) : p ws = true ∧ cleanW ws = true := by
  rw [List.all_eq_true] at h
  have := h ws hw
  rwa [Bool.and_eq_true] at this

def pns : WS := ["writer", "cleaner", "reader", "horizon", "pins", "cleared", "sets", "force", "ahead", "first", "waits", "follower"]
def pnm (i : Nat) : PySem.Str := pns.getD i ""
theorem pnm_mem {i : Nat} (h : i < 12) : pnm i ∈ pns := by
  have hl : i < pns.length := h
  unfold pnm
  rw [List.getD_eq_getElem?_getD, List.getElem?_eq_getElem hl]
  exact List.getElem_mem hl
abbrev pk : List Key := pns.map Sum.inr
def okS (f : WS → Bool) : D → Bool
  | .str s => f (Txt.split s " ")
  | _ => false
def inS (ws : WS) : D → Bool
  | .str s => decide (s ∈ ws)
  | _ => false
def isStrB : D → Bool
  | .str _ => true
  | _ => false
def isBlB : D → Bool
  | .bl _ => true
  | _ => false
def okV (p : PySem.Str) (d : D) : Bool := if p = "writer" then okS okWr d else if p = "cleaner" then okS okCl d else if p = "reader" then okS okRd d else if p = "horizon" then inS ["all", "none"] d else if p = "follower" then inS ["trust", "wait", "look"] d else isBlB d
def smallD : D → Bool
  | .str s => decide (s.length ≤ 900)
  | d => plainD d
theorem small_plain {d : D} (h : smallD d = true) : plainD d = true := by cases d <;> first | rfl | exact h
theorem words_no {d : D} {ks : WS} (h : plainD d = true) (hs : ∀ s, d ≠ .str s) (S : Sto) : m_words_of [d, .tup (LS ks)] S = .ok .non S := by
  cases d with
  | str s => exact absurd rfl (hs s)
  | non => rfl
  | bl b => rfl
  | int i => rfl
  | tup ds => rfl
  | lst ds => rfl
  | _ => cases h
theorem writer_b {d : D} (h : smallD d = true) (S : Sto) : m_is_writer [d] S = .ok (.bl (okS okWr d)) S := by
  by_cases hs : ∃ s, d = .str s
  · obtain ⟨s, rfl⟩ := hs
    exact is_writer_e (of_decide_eq_true h) S
  · have e : okS okWr d = false := by cases d <;> first | rfl | exact absurd ⟨_, rfl⟩ hs
    rw [e]
    refine rn_eq (s_run ?_)
    unfold ms_is_writer
    refine s_seq <| s_asgN <| g_call <| g_cons <| g_var rfl <| g_cons <| g_c <| g_nil <| run_eq (words_no (ks := wWr) (small_plain h) (fun s z => hs ⟨s, z⟩) S) ?_
    dsimp only
    refine s_seq ?_
    refine if_t (or_l rfl) ?_
    exact s_ret (g_c ⟨rfl, rfl⟩)
theorem cleaner_b {d : D} (h : smallD d = true) (S : Sto) : m_is_cleaner [d] S = .ok (.bl (okS okCl d)) S := by
  by_cases hs : ∃ s, d = .str s
  · obtain ⟨s, rfl⟩ := hs
    exact is_cleaner_e (of_decide_eq_true h) S
  · have e : okS okCl d = false := by cases d <;> first | rfl | exact absurd ⟨_, rfl⟩ hs
    rw [e]
    refine rn_eq (s_run ?_)
    unfold ms_is_cleaner
    refine s_seq <| s_asgN <| g_call <| g_cons <| g_var rfl <| g_cons <| g_c <| g_nil <| run_eq (words_no (ks := wCl) (small_plain h) (fun s z => hs ⟨s, z⟩) S) ?_
    dsimp only
    refine s_seq ?_
    refine if_t (or_l rfl) ?_
    exact s_ret (g_c ⟨rfl, rfl⟩)
theorem reader_b {d : D} (h : smallD d = true) (S : Sto) : m_is_reader [d] S = .ok (.bl (okS okRd d)) S := by
  by_cases hs : ∃ s, d = .str s
  · obtain ⟨s, rfl⟩ := hs
    exact is_reader_e (of_decide_eq_true h) S
  · have e : okS okRd d = false := by cases d <;> first | rfl | exact absurd ⟨_, rfl⟩ hs
    rw [e]
    refine rn_eq (s_run ?_)
    unfold ms_is_reader
    refine s_seq <| s_asgN <| g_call <| g_cons <| g_var rfl <| g_cons <| g_c <| g_nil <| run_eq (words_no (ks := wRd) (small_plain h) (fun s z => hs ⟨s, z⟩) S) ?_
    dsimp only
    refine s_seq ?_
    refine if_t (or_l rfl) ?_
    exact s_ret (g_c ⟨rfl, rfl⟩)
theorem eqs_e {mo : ME} {δ : MR.Env} {S : Sto} {a b : PySem.Str} {r : Bool} (h : mo δ S = .ok (.str a) S) (hr : decide (a = b) = r) : mTest (mOp (opEq false) mo (mC (.str b))) δ S = .ok r S := rn_eq <| g_test <| g_op <| run_eq h <| g_c <| g_eqS <| g_bl ⟨hr, rfl⟩
theorem choice_e {d : D} {me ma : ME} {δ : MR.Env} {S : Sto} {ws : WS} (hi : me δ S = .ok (.bl (isStrB d)) S) (h1 : ∀ s, d = .str s → ma δ S = .ok (.bl (decide (s ∈ ws))) S) : mAndV me ma δ S = .ok (.bl (inS ws d)) S := by
  refine rn_eq <| g_andV <| run_eq hi ⟨_, rfl, ?_⟩
  by_cases hs : ∃ s, d = .str s
  · obtain ⟨s, rfl⟩ := hs
    exact g_T (run_eq (h1 s rfl) ⟨rfl, rfl⟩)
  · have e : (isStrB d) = false := by cases d <;> first | rfl | exact absurd ⟨_, rfl⟩ hs
    have e2 : inS ws d = false := by cases d <;> first | rfl | exact absurd ⟨_, rfl⟩ hs
    rw [e, e2]
    exact g_F ⟨rfl, rfl⟩
theorem allowed_e {p : PySem.Str} (hp : p ∈ pns) {d : D} (h : smallD d = true) (S : Sto) : m_is_allowed [.str p, d] S = .ok (.bl (okV p d)) S := by
  have hpl := small_plain h
  refine rn_eq (s_run ?_)
  unfold ms_is_allowed okV
  by_cases h1 : p = "writer"
  · rw [if_pos h1]
    refine s_seq ?_
    refine if_t (eqs_e rfl (decide_eq_true h1)) ?_
    exact s_ret <| g_call <| g_cons <| g_var rfl <| g_nil <| run_eq (writer_b h S) ⟨rfl, rfl⟩
  rw [if_neg h1]
  refine s_seq ?_
  refine if_f (eqs_e rfl (decide_eq_false h1)) ?_
  dsimp only
  refine s_seq ?_
  by_cases h2 : p = "cleaner"
  · rw [if_pos h2]
    refine if_t (eqs_e rfl (decide_eq_true h2)) ?_
    exact s_ret <| g_call <| g_cons <| g_var rfl <| g_nil <| run_eq (cleaner_b h S) ⟨rfl, rfl⟩
  rw [if_neg h2]
  refine if_f (eqs_e rfl (decide_eq_false h2)) ?_
  dsimp only
  refine s_seq ?_
  by_cases h3 : p = "reader"
  · rw [if_pos h3]
    refine if_t (eqs_e rfl (decide_eq_true h3)) ?_
    exact s_ret <| g_call <| g_cons <| g_var rfl <| g_nil <| run_eq (reader_b h S) ⟨rfl, rfl⟩
  rw [if_neg h3]
  refine if_f (eqs_e rfl (decide_eq_false h3)) ?_
  dsimp only
  refine s_seq ?_
  have hstr : ∀ {δ : MR.Env}, δ[1]? = some (.val d) → mCB (fIsi nK) (mCons (mVar 1) (mCons (mC (.ty "str")) mNil)) δ S = .ok (.bl (isStrB d)) S := fun {δ} e => by
    refine rn_eq <| g_cb <| g_cons <| g_var e <| g_cons <| g_c <| g_nil ?_
    cases d <;> first | exact ⟨rfl, rfl⟩ | cases hpl
  by_cases h4 : p = "horizon"
  · rw [if_pos h4]
    subst h4
    refine if_t (rn_eq <| g_test <| g_op <| g_var rfl <| g_c <| run_eq (a := .bl true) (by kernel_rfl!) <| g_bl ⟨rfl, rfl⟩) ?_
    refine s_ret ?_
    refine run_eq (choice_e (hstr rfl) fun s hs => ?_) ⟨rfl, rfl⟩
    subst hs
    exact rn_eq <| g_op <| g_var rfl <| g_op <| g_c <| g_var rfl <| run_eq (a := .tup (LS ["all", "none"])) (by kernel_rfl!) <| run_eq (inTS _ _ _ _) ⟨by rw [Bool.false_xor], rfl⟩
  rw [if_neg h4]
  by_cases h5 : p = "follower"
  · rw [if_pos h5]
    subst h5
    refine if_t (rn_eq <| g_test <| g_op <| g_var rfl <| g_c <| run_eq (a := .bl true) (by kernel_rfl!) <| g_bl ⟨rfl, rfl⟩) ?_
    refine s_ret ?_
    refine run_eq (choice_e (hstr rfl) fun s hs => ?_) ⟨rfl, rfl⟩
    subst hs
    exact rn_eq <| g_op <| g_var rfl <| g_op <| g_c <| g_var rfl <| run_eq (a := .tup (LS ["trust", "wait", "look"])) (by kernel_rfl!) <| run_eq (inTS _ _ _ _) ⟨by rw [Bool.false_xor], rfl⟩
  rw [if_neg h5]
  have hin : ([("horizon" : PySem.Str), "follower"].any fun k => decide (k = p)) = false := by
    rw [List.any_eq_false]
    intro x hx
    simp only [List.mem_cons, List.not_mem_nil, or_false] at hx
    rcases hx with rfl | rfl
    · exact fun z => h4 (of_decide_eq_true z).symm
    · exact fun z => h5 (of_decide_eq_true z).symm
  refine if_f (rn_eq <| g_test <| g_op <| g_var rfl <| g_c <| run_eq (a := .bl ([("horizon" : PySem.Str), "follower"].any fun k => decide (k = p))) rfl <| g_bl ⟨hin, rfl⟩) ?_
  dsimp only
  refine s_ret <| g_cb <| g_cons <| g_var rfl <| g_cons <| g_c <| g_nil ?_
  cases d <;> first | exact ⟨rfl, rfl⟩ | cases hpl
/-- a book of parts that are allowed -/
structure OkB (vs : List D) : Prop where
  len : vs.length = 12
  ok : ∀ i (h : i < 12), okV (pnm i) (vs[i]'(by omega)) = true
structure OkBS (vs : List D) : Prop extends OkB vs where
  small : ∀ v ∈ vs, smallD v = true

abbrev bk (n : Nat) : D := .obj cK ["chosen"] [.ref n]
theorem list12 {vs : List D} (h : vs.length = 12) : ∃ a0 a1 a2 a3 a4 a5 a6 a7 a8 a9 a10 a11, vs = [a0, a1, a2, a3, a4, a5, a6, a7, a8, a9, a10, a11] := by
  match vs, h with
  | [a0, a1, a2, a3, a4, a5, a6, a7, a8, a9, a10, a11], _ => exact ⟨a0, a1, a2, a3, a4, a5, a6, a7, a8, a9, a10, a11, rfl⟩
theorem zip_ok : ∀ {ps : WS} {vs : List D}, (∀ (i : Nat) (p : PySem.Str) (v : D), ps[i]? = some p → vs[i]? = some v → p ∈ pns ∧ smallD v = true ∧ okV p v = true) → ∀ d ∈ zipD (LS ps) vs, ∃ p v, d = .tup [.str p, v] ∧ p ∈ pns ∧ smallD v = true ∧ okV p v = true
  | [], _, _, d, hd => by simp [zipD] at hd
  | _ :: _, [], _, d, hd => by simp [zipD] at hd
  | p :: ps, v :: vs, h, d, hd => by
    have e : zipD (LS (p :: ps)) (v :: vs) = .tup [.str p, v] :: zipD (LS ps) vs := rfl
    rw [e] at hd
    rcases List.mem_cons.mp hd with z | z
    · exact ⟨p, v, z, h 0 p v rfl rfl⟩
    · exact zip_ok (fun i p' v' h1 h2 => h (i + 1) p' v' (by simpa using h1) (by simpa using h2)) d z
theorem init_e {vs : List D} (ok : OkBS vs) (S : Sto) : m_BookU_initU vs S = .ok (["chosen"], [.ref S.length]) (S ++ [some (.dic pk vs)]) := by
  have hz : ∀ d ∈ zipD (LS pns) vs, ∃ p v, d = .tup [.str p, v] ∧ p ∈ pns ∧ smallD v = true ∧ okV p v = true := zip_ok fun i p v h1 h2 => by
    obtain ⟨hi, rfl⟩ := List.getElem?_eq_some_iff.mp h2
    have hi' : i < 12 := by rw [ok.len] at hi; exact hi
    obtain ⟨hj, rfl⟩ := List.getElem?_eq_some_iff.mp h1
    have e : pns[i] = pnm i := by unfold pnm; rw [List.getD_eq_getElem?_getD, List.getElem?_eq_getElem hj]; rfl
    exact ⟨List.getElem_mem hj, ok.small _ (List.getElem_mem hi), by rw [e]; exact ok.ok i hi'⟩
  obtain ⟨a0, a1, a2, a3, a4, a5, a6, a7, a8, a9, a10, a11, rfl⟩ := list12 ok.len
  refine run_ok' (s_runI ?_)
  unfold ms_BookU_initU
  refine s_seq <| s_asgN <| g_tup <| g_cons <| g_var rfl <| g_cons <| g_var rfl <| g_cons <| g_var rfl <| g_cons <| g_var rfl <| g_cons <| g_var rfl <| g_cons <| g_var rfl <| g_cons <| g_var rfl <| g_cons <| g_var rfl <| g_cons <| g_var rfl <| g_cons <| g_var rfl <| g_cons <| g_var rfl <| g_cons <| g_var rfl <| g_nil ?_
  dsimp only [startD, List.set, List.map, List.replicate, List.append]
  refine s_seq <| s_for <| run_eq (a := zipD (LS pns) [a0, a1, a2, a3, a4, a5, a6, a7, a8, a9, a10, a11]) (S := S) rfl ?_
  refine s_loop (fun ds δ S' => S' = S ∧ (∀ d ∈ ds, ∃ p v, d = .tup [.str p, v] ∧ p ∈ pns ∧ smallD v = true ∧ okV p v = true) ∧ ∃ v14 v15, δ = [.own true (.obj 0 [] []), .val a0, .val a1, .val a2, .val a3, .val a4, .val a5, .val a6, .val a7, .val a8, .val a9, .val a10, .val a11, .val (.tup [a0, a1, a2, a3, a4, a5, a6, a7, a8, a9, a10, a11]), v14, v15]) ?_ ?_ _ _ _ ⟨rfl, hz, _, _, rfl⟩
  · rintro d ds δ S' ⟨rfl, hd, v14, v15, rfl⟩
    obtain ⟨p, v, rfl, h1, h2, h3⟩ := hd _ List.mem_cons_self
    refine ⟨_, rfl, ?_⟩
    refine if_f ?_ ⟨rfl, fun d hd' => hd d (List.mem_cons_of_mem _ hd'), _, _, rfl⟩
    refine rn_eq <| g_not <| g_test <| g_call <| g_cons <| g_var rfl <| g_cons <| g_var rfl <| g_nil <| run_eq (allowed_e h1 h2 _) <| g_bl ?_
    rw [h3]; exact ⟨rfl, rfl⟩
  · rintro δ S' ⟨rfl, _, v14, v15, rfl⟩
    dsimp only
    refine s_setFO rfl (by decide) ?_
    refine g_cell <| run_eq (a := .dic pk [a0, a1, a2, a3, a4, a5, a6, a7, a8, a9, a10, a11]) (S := S') (by kernel_rfl!) ?_
    exact ⟨_, _, _, rfl, rfl, rfl⟩

theorem is_part_e {p : PySem.Str} (hp : p ∈ pns) (S : Sto) : m_is_part [.str p] S = .ok (.bl true) S := by
  refine rn_eq (s_run ?_)
  unfold ms_is_part
  refine s_ret <| g_andV <| run_eq (a := .bl true) rfl ⟨_, rfl, g_T <| g_op <| g_var rfl <| g_c <| run_eq (inTS false pns p S) ⟨?_, rfl⟩⟩
  rw [Bool.false_xor, decide_eq_true hp]
theorem g_m1 {op : D → D → Sto → Out D} {mo me : ME} {δ : MR.Env} {S : Sto} {a : PySem.Str} {Q : D → Sto → Prop} {X : XQ} (h : mo δ S = .ok (.str a) S) (q : Rn (me δ S) (fun y S => Rn (op (.str a) y S) Q X) X) : Rn (mM1 op mo me δ S) Q X := by
  unfold mM1
  rw [h]
  show Rn (bnd (me δ S) fun y S => op (.str a) y S) Q X
  exact run_bnd' q
structure GoodV (i : Nat) (v : D) : Prop where
  ok : okV (pnm i) v = true
  small : smallD v = true
  lay : okN 8 v = true
theorem good_t {i : Nat} {L : List WS} {p : WS → Bool} (hL : (L.all fun ws => p ws && cleanW ws) = true) (hv : ∀ s : PySem.Str, okV (pnm i) (.str s) = p (Txt.split s " ")) {ws : WS} (h : ws ∈ L) : cleanW ws = true ∧ GoodV i (.str (J ws)) := by
  obtain ⟨h1, h2⟩ := all_okc hL h
  obtain ⟨h3, h4⟩ := clean_J h2
  exact ⟨h2, by rw [hv, h4]; exact h1, decide_eq_true (by omega), okN_str _ (clean_lay h2)⟩
theorem okV0 (s : PySem.Str) : okV (pnm 0) (.str s) = okWr (Txt.split s " ") := by unfold okV; rw [if_pos (by decide +kernel)]; rfl
theorem okV1 (s : PySem.Str) : okV (pnm 1) (.str s) = okCl (Txt.split s " ") := by unfold okV; rw [if_neg (by decide +kernel), if_pos (by decide +kernel)]; rfl
theorem okV2 (s : PySem.Str) : okV (pnm 2) (.str s) = okRd (Txt.split s " ") := by unfold okV; rw [if_neg (by decide +kernel), if_neg (by decide +kernel), if_pos (by decide +kernel)]; rfl
theorem good_c {i : Nat} {d : D} (h : (okV (pnm i) d && (smallD d && okN 8 d)) = true) : GoodV i d := by
  rw [Bool.and_eq_true, Bool.and_eq_true] at h
  exact ⟨h.1, h.2.1, h.2.2⟩
theorem good_b {i : Nat} (b : Bool) (h : ∀ b, (okV (pnm i) (.bl b) && (smallD (.bl b) && okN 8 (.bl b))) = true) : GoodV i (.bl b) := good_c (h b)
structure GVs (vs : List D) : Prop where
  len : vs.length = 12
  good : ∀ i (h : i < 12), GoodV i (vs[i]'(by omega))
theorem gvs_ok {vs : List D} (g : GVs vs) : OkBS vs where
  len := g.len
  ok := fun i h => (g.good i h).ok
  small := fun v hv => by
    obtain ⟨i, hi, rfl⟩ := List.getElem_of_mem hv
    exact (g.good i (by rw [← g.len]; exact hi)).small
theorem rel_getD {vs : List D} {n : Nat} (hl : vs.length = n) : (List.range n).map (fun i => vs.getD i .non) = vs := by
  subst hl
  refine List.ext_getElem? fun i => ?_
  rw [List.getElem?_map]
  by_cases h : i < vs.length
  · rw [List.getElem?_range h, List.getElem?_eq_getElem h]
    show some (vs.getD i .non) = some vs[i]
    rw [List.getD_eq_getElem?_getD, List.getElem?_eq_getElem h]; rfl
  · rw [List.getElem?_eq_none (by rw [List.length_range]; omega), List.getElem?_eq_none (by omega)]; rfl
theorem ixl {xs : List D} {i : Nat} {S : Sto} {d : D} (h : xs[i]? = some d) : opIx (.lst xs) (.int (i : Int)) S = .ok d S := by
  have hi := (List.getElem?_eq_some_iff.mp h).1
  refine rn_eq <| g_ix (ds := xs) rfl ?_ ⟨rfl, rfl⟩
  unfold atI ixN
  rw [if_pos (by omega), if_pos (by omega), Int.toNat_natCast]
  exact h
theorem pns_range : LS pns = (List.range 12).map fun i => D.str (pnm i) := by kernel_rfl!
def lkq (ws : WS) (a b : Nat) : WS := ws.take a ++ [("lock" : PySem.Str)] ++ (ws.drop a).take (b - a) ++ [("unlock" : PySem.Str)] ++ ws.drop b
def lksq (L : List WS) : List WS := L ++ L.flatMap fun ws => (List.range (ws.length + 1)).flatMap fun a => (List.range (ws.length - a + 1)).map fun c => lkq ws a (a + c)
theorem mem_lksq {L : List WS} {ws : WS} {a c : Nat} (h : ws ∈ L) (h1 : a ≤ ws.length) (h2 : c ≤ ws.length - a) : lkq ws a (a + c) ∈ lksq L := by
  unfold lksq
  exact List.mem_append_right _ (List.mem_flatMap.mpr ⟨ws, h, List.mem_flatMap.mpr ⟨a, List.mem_range.mpr (by omega), List.mem_map.mpr ⟨c, List.mem_range.mpr (by omega), rfl⟩⟩⟩)
theorem qlocked_run {S : Sto} {p : Nat} {L : List WS} {ws : WS} {Q : D → Sto → Prop} {X : XQ} (hp : PlS S p) (h : ws ∈ L) (hl : ws.length ≤ 50) (q : ∀ ws' S', ws' ∈ lksq L → PlS S' p → Ne p S S' → Q (.lst (LS ws')) S') : Rn (m__law_locked [.ref p, .lst (LS ws)] S) Q X := by
  refine s_run ?_
  unfold ms__law_locked
  refine s_seq <| s_ifS <| g_test <| g_op <| g_call <| g_cons <| g_var rfl <| g_cons <| g_c <| g_nil <| take_run hp (by decide) (by decide) fun r S1 h0 h1 hp n1 => g_c <| g_eqI <| g_bl ?_
  by_cases hr : r = 0
  · rw [decide_eq_true hr]
    exact g_T <| s_ret <| g_var rfl <| q _ _ (List.mem_append_left _ h) hp n1
  rw [decide_eq_false hr]
  refine g_F <| s_next ?_
  dsimp only
  refine s_seq <| s_asgN <| g_call <| g_cons <| g_var rfl <| g_cons <| g_op <| g_cb <| g_cons <| g_var rfl <| g_nil <| g_lenL <| g_c <| g_plusI <| g_nil ?_
  rw [List.length_map]
  refine take_run hp (by omega) (by omega) fun a S2 h0 h1 hp n2 => ?_
  obtain ⟨a, rfl⟩ := Int.eq_ofNat_of_zero_le h0
  refine s_seq <| s_asgN <| g_op <| g_var rfl <| g_call <| g_cons <| g_var rfl <| g_cons <| g_op <| g_op <| g_cb <| g_cons <| g_var rfl <| g_nil <| g_lenL <| g_var rfl <| g_minus <| g_c <| g_plusI <| g_nil ?_
  rw [List.length_map]
  refine take_run hp (by omega) (by omega) fun c S3 h2 h3 hp n3 => g_plusI ?_
  obtain ⟨c, rfl⟩ := Int.eq_ofNat_of_zero_le h2
  rw [show (a : Int) + (c : Int) = ((a + c : Nat) : Int) by omega]
  have ha : a ≤ ws.length := by omega
  have hc : c ≤ ws.length - a := by omega
  dsimp only [startD, List.set, List.map, List.replicate, List.append]
  generalize hb : a + c = b
  have hab : a ≤ b := by omega
  have e1 : mSl slL (mVar 1) mNoPart (mPart (mVar 2)) [.val (.ref p), .val (.lst (LS ws)), .val (.int (a : Int)), .val (.int (b : Int))] S3 = .ok (.lst (LS (ws.take a))) S3 := by
    show Out.ok (D.lst (cutD (LS ws) none (some (a : Int)))) S3 = _
    rw [cut_take0]; unfold LS; rw [List.map_take]
  have e2 : mSl slL (mVar 1) (mPart (mVar 2)) (mPart (mVar 3)) [.val (.ref p), .val (.lst (LS ws)), .val (.int (a : Int)), .val (.int (b : Int))] S3 = .ok (.lst (LS ((ws.drop a).take (b - a)))) S3 := by
    show Out.ok (D.lst (cutD (LS ws) (some (a : Int)) (some (b : Int)))) S3 = _
    rw [cut_mid0 _ (by rw [List.length_map]; exact ha) hab]; unfold LS; rw [List.map_take, List.map_drop]
  have e3 : mSl slL (mVar 1) (mPart (mVar 3)) mNoPart [.val (.ref p), .val (.lst (LS ws)), .val (.int (a : Int)), .val (.int (b : Int))] S3 = .ok (.lst (LS (ws.drop b))) S3 := by
    show Out.ok (D.lst (cutD (LS ws) (some (b : Int)) none)) S3 = _
    rw [cut_drop0]; unfold LS; rw [List.map_drop]
  have l1 : (LS (ws.take a)).length ≤ 50 := by rw [List.length_map, List.length_take]; omega
  have l2 : (LS ((ws.drop a).take (b - a))).length ≤ 50 := by rw [List.length_map, List.length_take, List.length_drop]; omega
  have l3 : (LS (ws.drop b)).length ≤ 50 := by rw [List.length_map, List.length_drop]; omega
  refine s_ret <| g_op <| g_op <| g_op <| g_op <| run_eq e1 <| g_lst <| g_cons <| g_c <| g_nil <| g_catL (by show _ + 1 ≤ _; omega) <| run_eq e2 <| g_catL ?_ <| g_lst <| g_cons <| g_c <| g_nil <| g_catL ?_ <| run_eq e3 <| g_catL ?_ ?_
  · rw [List.length_append]; show _ + 1 + _ ≤ _; omega
  · rw [List.length_append, List.length_append]; show _ + 1 + _ + 1 ≤ _; omega
  · rw [List.length_append, List.length_append, List.length_append]; show _ + 1 + _ + 1 + _ ≤ _; omega
  have e : LS (lkq ws a b) = LS (ws.take a) ++ [.str "lock"] ++ LS ((ws.drop a).take (b - a)) ++ [.str "unlock"] ++ LS (ws.drop b) := by
    unfold lkq LS; rw [List.map_append, List.map_append, List.map_append, List.map_append]; rfl
  rw [← e]
  exact q _ _ (by rw [← hb]; exact mem_lksq h ha hc) hp (n1.trans (n2.trans n3))
def wqB : List WS := [["change", "enter", "commit"], ["change", "commit", "enter"]]
def wqB2 : List WS := wqB ++ pcs wqB "clear" 0
def wqF : List WS := [["lock", "clear", "change", "unlock", "enter", "commit"], ["lock", "change", "clear", "unlock", "enter", "commit"]]
def wQ : List WS := wqF ++ lksq wqB2
theorem wqB_len : (wqB.all fun ws => decide (ws.length = 3)) = true := by decide +kernel
theorem wqB2_len : (wqB2.all fun ws => decide (ws.length ≤ 4)) = true := by decide +kernel
theorem wQ_ok : (wQ.all fun ws => okWr ws && cleanW ws) = true := by decide +kernel
def cqF : WS := ["lock", "remove", "look", "set", "unlock"]
def cqB : List WS := [["look", "set"], ["remove", "look", "set"]]
def cqB2 : List WS := cqB ++ cqB.map (fun ws : WS => (ws ++ ([("again" : PySem.Str)] : WS) : WS))
def cQ : List WS := cqF :: lksq cqB2
theorem cqB2_len : (cqB2.all fun ws => decide (ws.length ≤ 4)) = true := by decide +kernel
theorem cQ_ok : (cQ.all fun ws => okCl ws && cleanW ws) = true := by decide +kernel
def rqS : WS := ["hold entry mark", "hold mark entry", "entry hold mark", "entry mark hold", "mark hold entry", "mark entry hold", "take tell entry mark", "take entry tell mark", "take entry mark tell", "take mark tell entry", "entry take tell mark", "mark take entry tell", "take tell mark entry", "take mark entry tell", "mark take tell entry", "entry take mark tell", "entry mark take tell", "mark entry take tell"]
def rQ : List WS := [["hold", "entry", "mark", "page"], ["hold", "mark", "entry", "page"], ["entry", "hold", "mark", "page"], ["entry", "mark", "hold", "page"], ["mark", "hold", "entry", "page"], ["mark", "entry", "hold", "page"], ["take", "tell", "entry", "mark", "page"], ["take", "entry", "tell", "mark", "page"], ["take", "entry", "mark", "tell", "page"], ["take", "mark", "tell", "entry", "page"], ["entry", "take", "tell", "mark", "page"], ["mark", "take", "entry", "tell", "page"], ["take", "tell", "mark", "entry", "page"], ["take", "mark", "entry", "tell", "page"], ["mark", "take", "tell", "entry", "page"], ["entry", "take", "mark", "tell", "page"], ["entry", "mark", "take", "tell", "page"], ["mark", "entry", "take", "tell", "page"]]
theorem rQ_ok : (rQ.all fun ws => okRd ws && cleanW ws) = true := by decide +kernel
theorem rQ_J : rqS.map (fun s : PySem.Str => (s ++ (" page" : PySem.Str) : PySem.Str)) = rQ.map J := by decide +kernel
theorem rqS_len : (rqS.all fun s => decide (s.length ≤ 100)) = true := by decide +kernel
theorem g_plusS {a b : PySem.Str} {S : Sto} {Q : D → Sto → Prop} {X : XQ} (h : a.length + b.length ≤ 16777216) (q : Q (.str (a ++ b)) S) : Rn (opPlus (.str a) (.str b) S) Q X := by
  show Rn (if a.length + b.length ≤ 16777216 then Out.ok (D.str (a ++ b)) S else .bad) Q X
  rw [if_pos h]; exact q
theorem qwriting_run {S : Sto} {p : Nat} {Q : D → Sto → Prop} {X : XQ} (hp : PlS S p) (q : ∀ ws S', ws ∈ wQ → PlS S' p → Ne p S S' → Q (.str (J ws)) S') : Rn (m__law_writing [.ref p] S) Q X := by
  refine s_run ?_
  unfold ms__law_writing
  refine s_seq <| s_asgN <| g_call <| g_cons <| g_var rfl <| g_cons <| g_c <| g_nil <| take_run hp (by decide) (by decide) fun r S1 h0 h1 hp n1 => ?_
  dsimp only [startD, List.set, List.map, List.replicate, List.append]
  refine s_seq <| s_ifS <| g_test <| g_op <| g_var rfl <| g_c <| g_less <| g_bl ?_
  by_cases hr : r < 2
  · rw [decide_eq_true hr]
    refine g_T <| s_ret <| g_op <| g_lst <| g_cons <| g_c <| g_cons <| g_c <| g_nil <| g_var rfl ?_
    have h01 : r = 0 ∨ r = 1 := by omega
    rcases h01 with rfl | rfl
    · refine g_ix (ds := [.str "lock clear change unlock enter commit", .str "lock change clear unlock enter commit"]) rfl rfl ?_
      have e : J ["lock", "clear", "change", "unlock", "enter", "commit"] = "lock clear change unlock enter commit" := by decide +kernel
      rw [← e]
      exact q _ _ (List.mem_append_left _ List.mem_cons_self) hp n1
    · refine g_ix (ds := [.str "lock clear change unlock enter commit", .str "lock change clear unlock enter commit"]) rfl rfl ?_
      have e : J ["lock", "change", "clear", "unlock", "enter", "commit"] = "lock change clear unlock enter commit" := by decide +kernel
      rw [← e]
      exact q _ _ (List.mem_append_left _ (List.mem_cons_of_mem _ List.mem_cons_self)) hp n1
  rw [decide_eq_false hr]
  refine g_F <| s_next ?_
  dsimp only
  refine s_seq <| s_asgN <| g_lst <| g_cons <| g_c <| g_cons <| g_c <| g_cons <| g_c <| g_nil ?_
  dsimp only [List.set]
  refine s_seq <| s_cut (fun δ S' => PlS S' p ∧ Ne p S S' ∧ ∃ w, w ∈ wqB ∧ δ = [.val (.ref p), .val (.int r), .val (.lst (LS w)), .no]) ?_ ?_
  · refine s_ifS <| g_test <| g_op <| g_call <| g_cons <| g_var rfl <| g_cons <| g_c <| g_nil <| take_run hp (by decide) (by decide) fun r2 S3 h0 h1 hp n3 => g_c <| g_eqI <| g_bl ?_
    by_cases hr : r2 = 0
    · rw [decide_eq_true hr]
      refine g_T <| s_asgN <| g_lst <| g_cons <| g_c <| g_cons <| g_c <| g_cons <| g_c <| g_nil ?_
      exact ⟨hp, n1.trans n3, ["change", "commit", "enter"], List.mem_cons_of_mem _ List.mem_cons_self, rfl⟩
    · rw [decide_eq_false hr]
      exact g_F <| s_next ⟨hp, n1.trans n3, ["change", "enter", "commit"], List.mem_cons_self, rfl⟩
  rintro δ S4 ⟨hp, n4, w, m1, rfl⟩
  have l1 : w.length = 3 := of_decide_eq_true (List.all_eq_true.mp wqB_len w m1)
  dsimp only
  refine s_seq <| s_cut (fun δ S' => PlS S' p ∧ Ne p S S' ∧ ∃ w v, w ∈ wqB2 ∧ δ = [.val (.ref p), .val (.int r), .val (.lst (LS w)), v]) ?_ ?_
  · refine s_ifS <| g_test <| g_op <| g_call <| g_cons <| g_var rfl <| g_cons <| g_c <| g_nil <| take_run hp (by decide) (by decide) fun r2 S5 h0 h1 hp n5 => g_c <| g_more <| g_bl ?_
    by_cases hr : 0 < r2
    · rw [decide_eq_true hr]
      refine g_T <| s_seq <| s_asgN <| g_call <| g_cons <| g_var rfl <| g_cons <| g_c <| g_nil <| take_run hp (by decide) (by decide) fun k S6 h2 h3 hp n6 => ?_
      obtain ⟨k, rfl⟩ := Int.eq_ofNat_of_zero_le h2
      dsimp only [List.set]
      refine s_asgN <| run_eq (slices_e (ws := w) (w := "clear") (k := k) (by omega) rfl rfl rfl) ?_
      exact ⟨hp, n4.trans (n5.trans n6), _, _, List.mem_append_right _ (mem_pcs m1 (Nat.zero_le _) (by omega)), rfl⟩
    · rw [decide_eq_false hr]
      exact g_F <| s_next ⟨hp, n4.trans n5, w, _, List.mem_append_left _ m1, rfl⟩
  rintro δ S7 ⟨hp, n7, w3, v, m3, rfl⟩
  dsimp only
  refine s_ret <| g_m1 rfl <| g_call <| g_cons <| g_var rfl <| g_cons <| g_var rfl <| g_nil <| qlocked_run hp m3 (by have := len_of wqB2_len m3; omega) fun ws S8 hw hp n8 => ?_
  have hm : ws ∈ wQ := List.mem_append_right _ hw
  exact run_eq (join_e (all_okc wQ_ok hm).2 _) (q _ _ hm hp (n7.trans n8))
theorem qcleaning_run {S : Sto} {p : Nat} {Q : D → Sto → Prop} {X : XQ} (hp : PlS S p) (q : ∀ ws S', ws ∈ cQ → PlS S' p → Ne p S S' → Q (.str (J ws)) S') : Rn (m__law_cleaning [.ref p] S) Q X := by
  refine s_run ?_
  unfold ms__law_cleaning
  refine s_seq <| s_ifS <| g_test <| g_op <| g_call <| g_cons <| g_var rfl <| g_cons <| g_c <| g_nil <| take_run hp (by decide) (by decide) fun r S1 h0 h1 hp n1 => g_c <| g_eqI <| g_bl ?_
  by_cases hr : r = 0
  · rw [decide_eq_true hr]
    refine g_T <| s_ret <| g_c ?_
    have e : J cqF = "lock remove look set unlock" := by decide +kernel
    rw [← e]
    exact q _ _ List.mem_cons_self hp n1
  rw [decide_eq_false hr]
  refine g_F <| s_next ?_
  dsimp only [startD, List.set, List.map, List.replicate, List.append]
  refine s_seq <| s_asgN <| g_lst <| g_cons <| g_c <| g_cons <| g_c <| g_nil ?_
  dsimp only [List.set]
  refine s_seq <| s_cut (fun δ S' => PlS S' p ∧ Ne p S S' ∧ ∃ w, w ∈ cqB ∧ δ = [.val (.ref p), .val (.lst (LS w))]) ?_ ?_
  · refine s_ifS <| g_test <| g_op <| g_call <| g_cons <| g_var rfl <| g_cons <| g_c <| g_nil <| take_run hp (by decide) (by decide) fun r2 S3 h0 h1 hp n3 => g_c <| g_eqI <| g_bl ?_
    by_cases hr : r2 = 0
    · rw [decide_eq_true hr]
      refine g_T <| s_asgN <| g_op <| g_lst <| g_cons <| g_c <| g_nil <| g_var rfl <| g_catL (xs := [.str "remove"]) (ys := LS ["look", "set"]) (by show (3 : Nat) ≤ _; decide) ?_
      exact ⟨hp, n1.trans n3, ["remove", "look", "set"], List.mem_cons_of_mem _ List.mem_cons_self, rfl⟩
    · rw [decide_eq_false hr]
      exact g_F <| s_next ⟨hp, n1.trans n3, ["look", "set"], List.mem_cons_self, rfl⟩
  rintro δ S4 ⟨hp, n4, w1, m1, rfl⟩
  have l1 : w1.length ≤ 3 := by
    unfold cqB at m1
    simp only [List.mem_cons, List.not_mem_nil, or_false] at m1
    rcases m1 with rfl | rfl <;> decide
  dsimp only
  refine s_seq <| s_cut (fun δ S' => PlS S' p ∧ Ne p S S' ∧ ∃ w, w ∈ cqB2 ∧ δ = [.val (.ref p), .val (.lst (LS w))]) ?_ ?_
  · refine s_ifS <| g_test <| g_op <| g_call <| g_cons <| g_var rfl <| g_cons <| g_c <| g_nil <| take_run hp (by decide) (by decide) fun r2 S3 h0 h1 hp n3 => g_c <| g_eqI <| g_bl ?_
    by_cases hr : r2 = 0
    · rw [decide_eq_true hr]
      refine g_T <| s_asgN <| g_op <| g_var rfl <| g_lst <| g_cons <| g_c <| g_nil <| g_catL (by rw [List.length_map]; show _ + 1 ≤ _; omega) ?_
      exact ⟨hp, n4.trans n3, (w1 ++ [("again" : PySem.Str)] : WS), List.mem_append_right _ (List.mem_map_of_mem m1), by unfold LS; rw [List.map_append]; rfl⟩
    · rw [decide_eq_false hr]
      exact g_F <| s_next ⟨hp, n4.trans n3, w1, List.mem_append_left _ m1, rfl⟩
  rintro δ S5 ⟨hp, n5, w3, m3, rfl⟩
  dsimp only
  refine s_ret <| g_m1 rfl <| g_call <| g_cons <| g_var rfl <| g_cons <| g_var rfl <| g_nil <| qlocked_run hp m3 (by have := len_of cqB2_len m3; omega) fun ws S8 hw hp n8 => ?_
  have hm : ws ∈ cQ := List.mem_cons_of_mem _ hw
  exact run_eq (join_e (all_okc cQ_ok hm).2 _) (q _ _ hm hp (n5.trans n8))
theorem qreading_run {S : Sto} {p : Nat} {Q : D → Sto → Prop} {X : XQ} (hp : PlS S p) (q : ∀ ws S', ws ∈ rQ → PlS S' p → Ne p S S' → Q (.str (J ws)) S') : Rn (m__law_reading [.ref p] S) Q X := by
  refine s_run ?_
  unfold ms__law_reading
  refine s_seq <| s_asgN <| run_eq (a := .lst (LS (rqS.take 5))) rfl ?_
  refine s_seq <| s_asgN <| run_eq (a := .lst (LS (rqS.take 9))) rfl ?_
  refine s_seq <| s_asgN <| run_eq (a := .lst (LS (rqS.take 13))) rfl ?_
  refine s_seq <| s_asgN <| run_eq (a := .lst (LS (rqS.take 16))) rfl ?_
  refine s_seq <| s_asgN <| run_eq (a := .lst (LS rqS)) rfl ?_
  dsimp only [startD, List.set, List.map, List.replicate, List.append]
  have fin : ∀ {i : Nat} {S' : Sto}, i < 18 → PlS S' p → Ne p S S' → ∀ {j : Int}, j = i → Rn (opIx (.lst (LS rqS)) (.int j) S') (fun x S => Rn (mC (.str " page") [.val (.ref p), .val (.lst (LS rqS))] S) (fun y S => Rn (opPlus x y S) Q X) X) X := fun {i S'} hi hp n j e => by
    subst e
    have hr : ((rqS[i]'(show i < rqS.length from hi)) ++ (" page" : PySem.Str) : PySem.Str) = J (rQ[i]'(show i < rQ.length from hi)) := by
      have this : (rqS.map (fun s : PySem.Str => (s ++ (" page" : PySem.Str) : PySem.Str)))[i]? = (rQ.map J)[i]? := by rw [rQ_J]
      rw [List.getElem?_map, List.getElem?_map, List.getElem?_eq_getElem (show i < rqS.length from hi), List.getElem?_eq_getElem (show i < rQ.length from hi)] at this
      exact Option.some.inj this
    refine run_eq (a := .str (rqS[i]'(show i < rqS.length from hi))) (ixl (by rw [List.getElem?_map, List.getElem?_eq_getElem (show i < rqS.length from hi)]; rfl)) <| g_c ?_
    have hl : (rqS[i]'(show i < rqS.length from hi)).length ≤ 100 := of_decide_eq_true (List.all_eq_true.mp rqS_len _ (List.getElem_mem _))
    have h5 : (" page" : PySem.Str).length = 5 := by decide +kernel
    refine g_plusS (by omega) ?_
    rw [hr]
    exact q _ _ (List.getElem_mem _) hp n
  refine s_ret <| g_op <| g_op <| g_var rfl <| g_op <| g_call <| g_cons <| g_var rfl <| g_cons <| g_c <| g_nil <| take_run hp (by decide) (by decide) fun r S1 h0 h1 hp n1 => ?_
  refine g_cb <| g_cons <| g_op <| g_call <| g_cons <| g_var rfl <| g_cons <| g_c <| g_nil <| take_run hp (by decide) (by decide) fun r2 S2 h2 h3 hp n2 => g_c <| g_eqI <| g_nil ?_
  refine run_eq (a := .int (if decide (r2 = 0) then 1 else 0)) rfl <| g_times (mul_r (by omega) (by split <;> decide)) ?_
  obtain ⟨r, rfl⟩ := Int.eq_ofNat_of_zero_le h0
  by_cases hz : r2 = 0
  · exact fin (i := r) (by omega) hp (n1.trans n2) (by rw [decide_eq_true hz, if_pos rfl]; omega)
  · exact fin (i := 0) (by decide) hp (n1.trans n2) (by rw [decide_eq_false hz, if_neg (by decide)]; omega)

theorem s_setD {me mo mk : ME} {δ : MR.Env} {S : Sto} {P : EndP} {n : Nat} {ks : List Key} {ds : List D} {k : Key} (q : Rn (me δ S) (fun d S => Rn (mo δ S) (fun x S => Rn (mk δ S) (fun y S => x = .ref n ∧ MR.keyOf y = some k ∧ S[n]? = some (some (.dic ks ds)) ∧ ks.length < 16777216 ∧ P.nx δ (S.set n (some (.dic (putD k d ks ds).1 (putD k d ks ds).2)))) fun c ns ds S => P.ex c ns ds δ S) fun c ns ds S => P.ex c ns ds δ S) fun c ns ds S => P.ex c ns ds δ S) : RunS (mSetD me mo mk δ S) P := by
  refine runS_bnd (run_mono q (fun d S h => runS_bnd (run_mono h (fun x S h => runS_bnd (run_mono h (fun y S h => ?_) fun _ _ _ _ z => z)) fun _ _ _ _ z => z)) fun _ _ _ _ z => z)
  obtain ⟨rfl, h2, h3, h4, h5⟩ := h
  rw [h2]
  dsimp only
  rw [h3]
  dsimp only
  rw [if_pos h4]
  exact h5
def kvK (ps : List (Nat × D)) : List Key := ps.map fun p => Sum.inr (pnm p.1)
def kvD (ps : List (Nat × D)) : List D := ps.map (·.2)
theorem pnm_inj {i j : Nat} (hi : i < 12) (hj : j < 12) (h : pnm i = pnm j) : i = j := by
  have key : ((List.range 12).all fun i => (List.range 12).all fun j => decide (pnm i = pnm j) == decide (i = j)) = true := by decide +kernel
  rw [List.all_eq_true] at key
  have k1 := key i (List.mem_range.mpr hi)
  rw [List.all_eq_true] at k1
  have k2 := beq_iff_eq.mp (k1 j (List.mem_range.mpr hj))
  rw [decide_eq_true h] at k2
  exact of_decide_eq_true k2.symm
theorem lk_ps {i : Nat} (hi : i < 12) : ∀ {ps : List (Nat × D)}, (∀ p ∈ ps, p.1 < 12) → lkD (kvK ps) (kvD ps) (.inr (pnm i)) = ps.lookup i
  | [], _ => rfl
  | p :: ps, h => by
    have ih := lk_ps hi (ps := ps) fun x hx => h x (List.mem_cons_of_mem _ hx)
    show (if (Sum.inr (pnm p.1) : Key) = .inr (pnm i) then some p.2 else lkD (kvK ps) (kvD ps) (.inr (pnm i))) = _
    rw [ih]
    obtain ⟨j, d⟩ := p
    rw [List.lookup_cons]
    by_cases e : j = i
    · subst e; rw [if_pos rfl, beq_self_eq_true]
    · rw [if_neg (fun z => e (pnm_inj (h _ List.mem_cons_self) hi (Sum.inr.inj z))), beq_eq_false_iff_ne.mpr (fun z => e z.symm)]
theorem lookup_mem {i : Nat} {d : D} : ∀ {ps : List (Nat × D)}, ps.lookup i = some d → (i, d) ∈ ps
  | [], h => by cases h
  | (j, e) :: ps, h => by
    rw [List.lookup_cons] at h
    cases z : i == j with
    | true => rw [z] at h; cases h; rw [beq_iff_eq.mp z]; exact List.mem_cons_self
    | false => rw [z] at h; exact List.mem_cons_of_mem _ (lookup_mem h)
structure BP where
  w : WS
  c : WS
  r : WS
  h : PySem.Str
  pins : Bool
  cleared : Bool
  sets : Bool
  force : Bool
  ahead : Bool
  first : Bool
  waits : Bool
  f : PySem.Str
def BP.vs (b : BP) : List D := [.str (J b.w), .str (J b.c), .str (J b.r), .str b.h, .bl b.pins, .bl b.cleared, .bl b.sets, .bl b.force, .bl b.ahead, .bl b.first, .bl b.waits, .str b.f]
theorem bp_h {h : PySem.Str} (m : h ∈ ([("all" : PySem.Str), "none"] : WS)) : GoodV 3 (.str h) := by
  have : h = "all" ∨ h = "none" := by simpa using m
  rcases this with rfl | rfl <;> exact good_c (by decide +kernel)
theorem bp_f {h : PySem.Str} (m : h ∈ ([("trust" : PySem.Str), "wait", "look"] : WS)) : GoodV 11 (.str h) := by
  have : h = "trust" ∨ h = "wait" ∨ h = "look" := by simpa using m
  rcases this with rfl | rfl | rfl <;> exact good_c (by decide +kernel)

structure BP.Ok (b : BP) : Prop where
  w : b.w ∈ wQ
  c : b.c ∈ cQ
  r : b.r ∈ rQ
  h : b.h ∈ ([("all" : PySem.Str), "none"] : WS)
  f : b.f ∈ ([("trust" : PySem.Str), "wait", "look"] : WS)
theorem bp_gv {b : BP} (o : b.Ok) : GVs b.vs where
  len := rfl
  good := fun i h => match i, h with
    | 0, _ => (good_t (i := 0) wQ_ok okV0 o.w).2
    | 1, _ => (good_t (i := 1) cQ_ok okV1 o.c).2
    | 2, _ => (good_t (i := 2) rQ_ok okV2 o.r).2
    | 3, _ => bp_h o.h
    | 4, _ => good_b b.pins (by decide +kernel)
    | 5, _ => good_b b.cleared (by decide +kernel)
    | 6, _ => good_b b.sets (by decide +kernel)
    | 7, _ => good_b b.force (by decide +kernel)
    | 8, _ => good_b b.ahead (by decide +kernel)
    | 9, _ => good_b b.first (by decide +kernel)
    | 10, _ => good_b b.waits (by decide +kernel)
    | 11, _ => bp_f o.f
    | n + 12, h => absurd h (by omega)
theorem qparts_run {S : Sto} {p : Nat} {Q : D → Sto → Prop} {X : XQ} (hp : PlS S p) (q : ∀ b S', BP.Ok b → PlS S' p → Ne p S S' → Q (.lst b.vs) S') : Rn (m__law_parts [.ref p] S) Q X := by
  refine s_run ?_
  unfold ms__law_parts
  refine s_seq <| s_asgO <| g_lst <| g_cons <| g_call <| g_cons <| g_var rfl <| g_nil <| qwriting_run hp fun w S1 mw hp n1 => g_cons <| g_call <| g_cons <| g_var rfl <| g_nil <| qcleaning_run hp fun c S2 mc hp n2 => g_cons <| g_call <| g_cons <| g_var rfl <| g_nil <| qreading_run hp fun r S3 mr hp n3 => g_nil ?_
  have n := n1.trans (n2.trans n3)
  clear n1 n2 n3
  dsimp only [startD, List.set, List.map, List.replicate, List.append]
  refine s_seq <| s_append rfl <| g_op <| g_lst <| g_cons <| g_c <| g_cons <| g_c <| g_cons <| g_c <| g_nil <| g_call <| g_cons <| g_var rfl <| g_cons <| g_c <| g_nil <| take_run hp (by decide) (by decide) fun k S4 h0 h1 hp n4 => ?_
  have hx : ∃ h : PySem.Str, h ∈ ([("all" : PySem.Str), "none"] : WS) ∧ atI ([.str "all", .str "all", .str "none"] : List D) k = some (D.str h) := by
    have h01 : k = 0 ∨ k = 1 ∨ k = 2 := by omega
    rcases h01 with rfl | rfl | rfl
    · exact ⟨"all", List.mem_cons_self, rfl⟩
    · exact ⟨"all", List.mem_cons_self, rfl⟩
    · exact ⟨"none", List.mem_cons_of_mem _ List.mem_cons_self, rfl⟩
  obtain ⟨h, mh, eh⟩ := hx
  refine g_ix (ds := [.str "all", .str "all", .str "none"]) rfl eh ⟨by show (3 : Nat) < _; decide, ?_⟩
  dsimp only [List.set, List.append]
  refine s_seq <| s_for <| g_rng1 <| g_cons <| g_c <| g_nil ⟨7, rfl, by decide, by decide, ?_⟩
  rw [show (7 : Int).toNat = 7 from rfl]
  refine s_loopR (fun k δ S' => PlS S' p ∧ Ne p S S' ∧ ∃ bs v, List.length bs = k ∧ δ = [.val (.ref p), .own false (.lst ([.str (J w), .str (J c), .str (J r), .str h] ++ bs.map D.bl)), v]) ⟨hp, n.trans n4, [], _, rfl, rfl⟩ ?_ ?_
  · rintro k hk δ S5 ⟨hp, n5, bs, v, hl, rfl⟩
    refine ⟨_, rfl, ?_⟩
    dsimp only [List.set]
    refine s_append rfl <| g_op <| g_call <| g_cons <| g_var rfl <| g_cons <| g_c <| g_nil <| take_run hp (by decide) (by decide) fun r S6 h0 h1 hp n6 => g_c <| g_more ⟨?_, hp, n5.trans n6, bs ++ [decide (0 < r)], .val (.int (0 + (k : Int))), ?_, ?_⟩
    · rw [List.length_append, List.length_map, hl]; show 4 + k < _; omega
    · rw [List.length_append, hl]; rfl
    · rw [List.map_append, List.append_assoc]; rfl
  · rintro δ S5 ⟨hp, n5, bs, v, hl, rfl⟩
    match bs, hl with
    | [b0, b1, b2, b3, b4, b5, b6], _ =>
      dsimp only [List.map, List.append]
      refine s_ret <| g_op <| g_peekO rfl <| g_lst <| g_cons <| g_op <| g_lst <| g_cons <| g_c <| g_cons <| g_c <| g_cons <| g_c <| g_cons <| g_c <| g_nil <| g_call <| g_cons <| g_var rfl <| g_cons <| g_c <| g_nil <| take_run hp (by decide) (by decide) fun k S6 h0 h1 hp n6 => ?_
      have hx : ∃ f : PySem.Str, f ∈ ([("trust" : PySem.Str), "wait", "look"] : WS) ∧ atI ([.str "trust", .str "wait", .str "wait", .str "look"] : List D) k = some (D.str f) := by
        have h01 : k = 0 ∨ k = 1 ∨ k = 2 ∨ k = 3 := by omega
        rcases h01 with rfl | rfl | rfl | rfl
        · exact ⟨"trust", List.mem_cons_self, rfl⟩
        · exact ⟨"wait", List.mem_cons_of_mem _ List.mem_cons_self, rfl⟩
        · exact ⟨"wait", List.mem_cons_of_mem _ List.mem_cons_self, rfl⟩
        · exact ⟨"look", List.mem_cons_of_mem _ (List.mem_cons_of_mem _ List.mem_cons_self), rfl⟩
      obtain ⟨f, mf, ef⟩ := hx
      refine g_ix (ds := [.str "trust", .str "wait", .str "wait", .str "look"]) rfl ef <| g_nil <| g_catL (by show 11 + 1 ≤ _; decide) ?_
      exact q ⟨w, c, r, h, b0, b1, b2, b3, b4, b5, b6, f⟩ _ ⟨mw, mc, mr, mh, mf⟩ hp (n5.trans n6)

def textOf : D → PySem.Str
  | .bl true => "yes"
  | .bl false => "no"
  | .str s => s
  | _ => ""
def kindB (i : Nat) : Bool := decide (4 ≤ i) && decide (i < 11)
theorem good_kind {i : Nat} {v : D} (hi : i < 12) (g : GoodV i v) : (kindB i = false ∧ ∃ s, v = .str s) ∨ (kindB i = true ∧ ∃ b, v = .bl b) := by
  have hs : ∀ {f : WS → Bool} {d : D}, okS f d = true → ∃ s, d = .str s := fun {f d} h => by cases d <;> first | exact ⟨_, rfl⟩ | cases h
  have hin : ∀ {f : WS} {d : D}, inS f d = true → ∃ s, d = .str s := fun {f d} h => by cases d <;> first | exact ⟨_, rfl⟩ | cases h
  have hb : ∀ {d : D}, isBlB d = true → ∃ s, d = .bl s := fun {d} h => by cases d <;> first | exact ⟨_, rfl⟩ | cases h
  have k := g.ok
  unfold okV at k
  match i, hi with
  | 0, _ => rw [if_pos (by decide +kernel)] at k; exact .inl ⟨rfl, hs k⟩
  | 1, _ => rw [if_neg (by decide +kernel), if_pos (by decide +kernel)] at k; exact .inl ⟨rfl, hs k⟩
  | 2, _ => rw [if_neg (by decide +kernel), if_neg (by decide +kernel), if_pos (by decide +kernel)] at k; exact .inl ⟨rfl, hs k⟩
  | 3, _ => rw [if_neg (by decide +kernel), if_neg (by decide +kernel), if_neg (by decide +kernel), if_pos (by decide +kernel)] at k; exact .inl ⟨rfl, hin k⟩
  | 11, _ => rw [if_neg (by decide +kernel), if_neg (by decide +kernel), if_neg (by decide +kernel), if_neg (by decide +kernel), if_pos (by decide +kernel)] at k; exact .inl ⟨rfl, hin k⟩
  | 4, _ => rw [if_neg (by decide +kernel), if_neg (by decide +kernel), if_neg (by decide +kernel), if_neg (by decide +kernel), if_neg (by decide +kernel)] at k; exact .inr ⟨rfl, hb k⟩
  | 5, _ => rw [if_neg (by decide +kernel), if_neg (by decide +kernel), if_neg (by decide +kernel), if_neg (by decide +kernel), if_neg (by decide +kernel)] at k; exact .inr ⟨rfl, hb k⟩
  | 6, _ => rw [if_neg (by decide +kernel), if_neg (by decide +kernel), if_neg (by decide +kernel), if_neg (by decide +kernel), if_neg (by decide +kernel)] at k; exact .inr ⟨rfl, hb k⟩
  | 7, _ => rw [if_neg (by decide +kernel), if_neg (by decide +kernel), if_neg (by decide +kernel), if_neg (by decide +kernel), if_neg (by decide +kernel)] at k; exact .inr ⟨rfl, hb k⟩
  | 8, _ => rw [if_neg (by decide +kernel), if_neg (by decide +kernel), if_neg (by decide +kernel), if_neg (by decide +kernel), if_neg (by decide +kernel)] at k; exact .inr ⟨rfl, hb k⟩
  | 9, _ => rw [if_neg (by decide +kernel), if_neg (by decide +kernel), if_neg (by decide +kernel), if_neg (by decide +kernel), if_neg (by decide +kernel)] at k; exact .inr ⟨rfl, hb k⟩
  | 10, _ => rw [if_neg (by decide +kernel), if_neg (by decide +kernel), if_neg (by decide +kernel), if_neg (by decide +kernel), if_neg (by decide +kernel)] at k; exact .inr ⟨rfl, hb k⟩
  | n + 12, h => exact absurd h (by omega)
theorem kind_mem {i : Nat} (hi : i < 12) : decide (pnm i ∈ ([("writer" : PySem.Str), "cleaner", "reader", "horizon", "follower"] : WS)) = !kindB i := by
  have key : ((List.range 12).all fun i => decide (pnm i ∈ ([("writer" : PySem.Str), "cleaner", "reader", "horizon", "follower"] : WS)) == !kindB i) = true := by decide +kernel
  rw [List.all_eq_true] at key
  exact beq_iff_eq.mp (key i (List.mem_range.mpr hi))
theorem value_of_e {i : Nat} {v : D} (hi : i < 12) (g : GoodV i v) (S : Sto) : m_value_of [.str (pnm i), .str (textOf v)] S = .ok v S := by
  refine rn_eq (s_run ?_)
  unfold ms_value_of
  have ht : mTest (mOp (opIn false) (mVar 0) (mTup (mCons (mC (.str "writer")) (mCons (mC (.str "cleaner")) (mCons (mC (.str "reader")) (mCons (mC (.str "horizon")) (mCons (mC (.str "follower")) mNil))))))) [.val (.str (pnm i)), .val (.str (textOf v))] S = .ok (!kindB i) S := rn_eq <| g_test <| g_op <| g_var rfl <| g_tup <| g_cons <| g_c <| g_cons <| g_c <| g_cons <| g_c <| g_cons <| g_c <| g_cons <| g_c <| g_nil <| run_eq (inTS false ["writer", "cleaner", "reader", "horizon", "follower"] (pnm i) S) <| g_bl ⟨by rw [kind_mem hi, Bool.false_xor], rfl⟩
  refine s_seq ?_
  rcases good_kind hi g with ⟨hk, s, rfl⟩ | ⟨hk, b, rfl⟩
  · rw [hk] at ht
    refine if_t ht ?_
    exact s_ret <| g_var rfl ⟨rfl, rfl⟩
  · rw [hk] at ht
    refine if_f ht ?_
    dsimp only
    cases b with
    | true =>
      refine s_seq <| if_t (eqs_e rfl (by decide +kernel)) ?_
      exact s_ret <| g_c ⟨rfl, rfl⟩
    | false =>
      refine s_seq <| if_f (eqs_e (a := "no") rfl (by decide +kernel)) ?_
      dsimp only
      refine s_ret <| g_if <| run_eq (eqs_e (a := "no") (b := "no") (r := true) rfl (by decide +kernel)) ?_
      rw [if_pos rfl]
      exact g_c ⟨rfl, rfl⟩
def line (vs : List D) (i : Nat) : PySem.Str := pnm i ++ (" = " : PySem.Str) ++ textOf (vs.getD i .non)
def lines (vs : List D) : WS := (List.range 12).map (line vs)
theorem pnm_len {i : Nat} (h : i < 12) : (pnm i).length ≤ 10 := by
  have key : ((List.range 12).all fun i => decide ((pnm i).length ≤ 10)) = true := by decide +kernel
  exact of_decide_eq_true (List.all_eq_true.mp key i (List.mem_range.mpr h))
theorem sg_len : (" = " : PySem.Str).length = 3 := by decide +kernel
theorem getD_at {vs : List D} {i : Nat} (hl : vs.length = 12) (hi : i < 12) : vs.getD i .non = vs[i]'(by omega) := by rw [List.getD_eq_getElem?_getD, List.getElem?_eq_getElem (by omega)]; rfl
theorem text_len {vs : List D} (ok : OkBS vs) {i : Nat} (hi : i < 12) : (textOf (vs.getD i .non)).length ≤ 900 := by
  rw [getD_at ok.len hi]
  have := ok.small _ (List.getElem_mem (show i < vs.length by rw [ok.len]; exact hi))
  generalize vs[i]'(by rw [ok.len]; exact hi) = v at this
  cases v with
  | str s => exact of_decide_eq_true this
  | bl b => cases b <;> decide +kernel
  | _ => show (0 : Nat) ≤ 900; decide
theorem line_e {ma mb : ME} {δ : MR.Env} {S : Sto} {vs : List D} (ok : OkBS vs) {i : Nat} (hi : i < 12) (h1 : ma δ S = .ok (.str (pnm i)) S) (h2 : mb δ S = .ok (.str (textOf (vs.getD i .non))) S) : mOp opPlus (mOp opPlus ma (mC (.str " = "))) mb δ S = .ok (.str (line vs i)) S := by
  have l1 := pnm_len hi
  have l2 := text_len ok hi
  have l3 := sg_len
  exact rn_eq <| g_op <| g_op <| run_eq h1 <| g_c <| g_plusS (by omega) <| run_eq h2 <| g_plusS (by rw [slen_app]; omega) ⟨rfl, rfl⟩
theorem line_len {vs : List D} (ok : OkBS vs) {i : Nat} (hi : i < 12) : (line vs i).length ≤ 913 := by
  unfold line
  rw [slen_app, slen_app, sg_len]
  have l1 := pnm_len hi
  have l2 := text_len ok hi
  omega
theorem sum_le {ws : WS} {k : Nat} : (∀ x ∈ ws, x.length ≤ k) → (ws.map (·.length)).sum ≤ k * ws.length := by
  induction ws with
  | nil => intro _; exact Nat.le_refl _
  | cons x ws ih =>
    intro h
    have h1 := h x List.mem_cons_self
    have h2 := ih fun y hy => h y (List.mem_cons_of_mem _ hy)
    rw [List.map_cons, List.sum_cons, List.length_cons, Nat.mul_succ]; omega
theorem joinN_e {ws : WS} (h : ∀ x ∈ ws, x.length ≤ 913) (hl : ws.length ≤ 20) (S : Sto) : opJoin (.str "\n") (.lst (LS ws)) S = .ok (.str (Txt.join "\n" ws)) S := by
  have h2 := sum_le h
  have e : (seqOf S (.lst (LS ws))).bind strsOf = some ws := strs_LS ws
  unfold opJoin
  rw [e]
  dsimp only
  have : ("\n" : PySem.Str).length = 1 := by decide +kernel
  rw [this, if_pos (by omega)]
theorem law_lines_e {vs : List D} (g : GVs vs) (S : Sto) : m__law_lines [.lst vs] S = .ok (.lst (LS (lines vs))) S := by
  have ok := gvs_ok g
  have hl := ok.len
  refine rn_eq (s_run ?_)
  unfold ms__law_lines
  refine s_seq <| s_asgO <| g_lst <| g_nil ?_
  dsimp only [startD, List.set, List.map, List.replicate, List.append]
  refine s_seq <| s_for <| g_rng1 <| g_cons <| g_c <| g_nil ⟨12, rfl, by decide, by decide, ?_⟩
  rw [show (12 : Int).toNat = 12 from rfl]
  refine s_loopR (fun k δ S' => S' = S ∧ ∃ v2 v3, δ = [.val (.lst vs), .own false (.lst (LS ((List.range k).map (line vs)))), v2, v3]) ⟨rfl, _, _, rfl⟩ ?_ ?_
  · rintro k hk δ S' ⟨rfl, v2, v3, rfl⟩
    refine ⟨_, rfl, ?_⟩
    rw [Int.zero_add]
    dsimp only [List.set]
    have hg := g.good k hk
    have hvk : vs[k]? = some (vs.getD k .non) := by rw [getD_at hl hk, List.getElem?_eq_getElem (by omega)]
    have hgv : GoodV k (vs.getD k .non) := by rw [getD_at hl hk]; exact hg
    generalize hv : vs.getD k .non = v at hvk hgv
    refine s_seq <| s_asgN <| g_op <| g_var rfl <| g_var rfl <| run_eq (ixl hvk) ?_
    dsimp only [List.set]
    refine s_seq <| s_cut (fun δ S'' => S'' = S' ∧ δ = [.val (.lst vs), .own false (.lst (LS ((List.range k).map (line vs)))), .val (.int (k : Int)), .val (.str (textOf v))]) ?_ ?_
    · rcases good_kind hk hgv with ⟨_, s, rfl⟩ | ⟨_, b, rfl⟩
      · exact if_f rfl ⟨rfl, rfl⟩
      · refine if_t rfl ?_
        cases b with
        | true => exact s_asgN <| run_eq (a := .str "yes") rfl ⟨rfl, rfl⟩
        | false => exact s_asgN <| run_eq (a := .str "no") rfl ⟨rfl, rfl⟩
    rintro δ S'' ⟨rfl, rfl⟩
    dsimp only
    have e1 : mOp opIx (mCall 0 m__law_names mNil) (mVar 2) [.val (.lst vs), .own false (.lst (LS ((List.range k).map (line vs)))), .val (.int (k : Int)), .val (.str (textOf v))] S'' = .ok (.str (pnm k)) S'' := by
      refine rn_eq <| g_op <| g_call <| g_nil <| run_eq (a := .lst (LS pns)) rfl <| g_var rfl <| run_eq (ixl ?_) ⟨rfl, rfl⟩
      rw [pns_range, List.getElem?_map, List.getElem?_range hk]; rfl
    refine s_append rfl <| run_eq (line_e (vs := vs) ok hk e1 (by rw [hv]; rfl)) ⟨?_, rfl, .val (.int (k : Int)), .val (.str (textOf v)), ?_⟩
    · rw [List.length_map, List.length_map, List.length_range]; omega
    · have eL : LS ((List.range (k + 1)).map (line vs)) = LS ((List.range k).map (line vs)) ++ [D.str (line vs k)] := by
        rw [List.range_succ, List.map_append]
        exact List.map_append ..
      rw [eL]; rfl
  · rintro δ S' ⟨rfl, v2, v3, rfl⟩
    dsimp only
    refine s_fixO rfl ?_
    exact s_ret <| g_var rfl ⟨rfl, rfl⟩

def lowC (c : Nat) : Bool := decide (97 ≤ c) && decide (c ≤ 122)
def softC (c : Nat) : Bool := lowC c || decide (c = 32)
theorem par_pre {S a b : List Nat} : ∀ {l acc : List Nat}, TL.par S acc l = some (a, b) → acc ++ l = a ++ S ++ b
  | [], _, h => by cases h
  | c :: r, acc, h => by
    unfold TL.par at h
    split at h
    · rename_i hp
      cases h
      have e : (c :: r).take S.length = S := beq_iff_eq.mp hp
      rw [List.append_assoc]
      congr 1
      conv => lhs; rw [← List.take_append_drop S.length (c :: r), e]
    · rw [← par_pre h, List.append_assoc]; rfl
def Off (x : PySem.Str) : Prop := (Txt.partition x " = ").2.1 = "" ∨ (Txt.partition x " = ").1 ∉ pns
theorem pns_low {p : PySem.Str} (h : p ∈ pns) : (TL.tl p).all lowC = true ∧ TL.tl p ≠ [] := by
  have key : (pns.all fun p => (TL.tl p).all lowC && decide (TL.tl p ≠ [])) = true := by decide +kernel
  have := List.all_eq_true.mp key p h
  rwa [Bool.and_eq_true, decide_eq_true_eq] at this
theorem off_of {x : PySem.Str} (h : ∀ p r, TL.tl x = p ++ 32 :: r → p.all lowC = true → p = []) : Off x := by
  have e := TL.partition_par x " = " (by decide +kernel)
  unfold Off
  rw [e]
  cases z : TL.par (TL.tl (" = " : PySem.Str)) [] (TL.tl x) with
  | none => exact .inl rfl
  | some q =>
    obtain ⟨a, b⟩ := q
    refine .inr fun hm => ?_
    obtain ⟨h1, h2⟩ := pns_low hm
    have h3 := par_pre z
    exact h2 (h a ([61, 32] ++ b) (by rw [List.nil_append] at h3; rw [h3, show TL.tl (" = " : PySem.Str) = [32, 61, 32] by decide +kernel, List.append_assoc]; rfl) h1)
theorem low_ne {p n : List Nat} {a b : Nat} {r t : List Nat} (ha : lowC a = false) (hb : lowC b = false) (hp : p.all lowC = true) (hn : n.all lowC = true) (e : p ++ a :: r = n ++ b :: t) : a = b := by
  induction p generalizing n with
  | nil =>
    cases n with
    | nil => exact (List.cons.inj e).1
    | cons c n =>
      have := (List.cons.inj e).1
      subst this
      rw [List.all_cons, ha] at hn; cases hn
  | cons c p ih =>
    rw [List.all_cons, Bool.and_eq_true] at hp
    cases n with
    | nil =>
      have := (List.cons.inj e).1
      subst this
      rw [hb] at hp; cases hp.1
    | cons d n =>
      rw [List.all_cons, Bool.and_eq_true] at hn
      exact ih hp.2 hn.2 (List.cons.inj e).2
theorem off_head {x : PySem.Str} {c : Nat} {l : List Nat} (e : TL.tl x = c :: l) (hc : lowC c = false) : Off x := off_of fun p r h hp => by
  cases p with
  | nil => rfl
  | cons d p =>
    rw [e] at h
    have := (List.cons.inj h).1
    subst this
    rw [List.all_cons, hc] at hp; cases hp
theorem off_eq {x : PySem.Str} {n t : List Nat} (e : TL.tl x = n ++ 61 :: t) (hn : n.all lowC = true) : Off x := off_of fun p r h hp => by
  rw [e] at h
  exact absurd (low_ne (a := 32) (b := 61) rfl rfl hp hn h.symm) (by decide)
theorem off_low {x : PySem.Str} (hx : (TL.tl x).all lowC = true) : Off x := off_of fun p r h hp => by
  rw [h, List.all_append, List.all_cons] at hx
  simp [lowC] at hx
/-- the replaced sign -/
theorem repl_join (x y z : PySem.Str) (hy : (y.length == 0) = false) (hl : y.length ≤ x.length) (hk : ¬ Builtin.Str.strKind x < Builtin.Str.strKind y) : Txt.replace x y z = Txt.join z (Txt.split x y) := by
  unfold Txt.replace Txt.split
  rw [if_neg (c := (decide (x.length < y.length) || decide (Builtin.Str.strKind x < Builtin.Str.strKind y)) = true) (by simp; omega)]
  by_cases h : (Builtin.Str.occurrences x y 0 x.length (x.length + 1)).isEmpty = true
  · rw [if_pos (by rw [h]; rfl), if_pos h]; rfl
  · rw [if_neg h, if_neg (by rw [hy, Bool.false_and, Bool.or_false]; exact h)]; rfl
theorem split_line {n t : PySem.Str} (hn : (TL.tl n).all lowC = true) (ht : (TL.tl t).all softC = true) : Txt.split (n ++ (" = " : PySem.Str) ++ t) " = " = [n, t] := by
  refine TL.map_tl_inj ?_
  have sg : TL.tl (" = " : PySem.Str) = [32, 61, 32] := by decide +kernel
  rw [TL.split_spl _ _ (by decide +kernel) (TL.kind_ok (by decide +kernel)), TL.tl_append, TL.tl_append, sg, List.append_assoc]
  have h32 : (32 : Nat) ∉ TL.tl n := fun z => by
    have := List.all_eq_true.mp hn 32 z
    cases this
  refine (TL.spl_part1 (s := 32) (S := [61, 32]) h32).trans ?_
  rw [TL.spl_last fun i hi => ?_]
  · rfl
  rw [List.drop_eq_getElem_cons hi]
  by_cases hj : i + 1 < (TL.tl t).length
  · rw [List.drop_eq_getElem_cons hj]
    unfold TL.pre
    rw [beq_eq_false_iff_ne]
    intro z
    have z2 := (List.cons.inj (List.cons.inj z).2).1
    have := List.all_eq_true.mp ht _ (List.getElem_mem hj)
    rw [z2] at this; cases this
  · rw [List.drop_eq_nil_of_le (by omega)]
    unfold TL.pre
    rw [beq_eq_false_iff_ne]
    intro z
    have z2 := (List.cons.inj z).2
    cases z2
theorem repl_line {n t z : PySem.Str} (hn : (TL.tl n).all lowC = true) (ht : (TL.tl t).all softC = true) : Txt.replace (n ++ (" = " : PySem.Str) ++ t) " = " z = n ++ z ++ t := by
  rw [repl_join _ _ _ (by decide +kernel) (by rw [slen_app, slen_app]; omega) (TL.kind_ok (by decide +kernel)), split_line hn ht, TL.join_eq]
  rfl
theorem tl_upper (x : PySem.Str) : TL.tl (Txt.upper x) = (TL.tl x).flatMap Unicode.upperOf := by
  show ((x.cps.mapIdx fun _ c => (Unicode.upperOf c).toArray).flatten).toList = x.cps.toList.flatMap Unicode.upperOf
  have e : (x.cps.mapIdx fun _ c => (Unicode.upperOf c).toArray) = x.cps.map fun c => (Unicode.upperOf c).toArray := by
    apply Array.ext
    · simp
    · intro i h1 h2; simp
  rw [e, Array.toList_flatten, Array.toList_map, List.map_map, List.flatMap]
  congr 1
theorem J_snoc : ∀ {ws : WS} (w : PySem.Str), ws ≠ [] → J (ws ++ [w]) = J ws ++ " " ++ w
  | [], _, h => absurd rfl h
  | [x], w, _ => by show J [x, w] = _; unfold J; rw [TL.join_eq, TL.join_eq]; rfl
  | x :: y :: r, w, _ => by
    have ih := J_snoc (ws := y :: r) w (List.cons_ne_nil _ _)
    have e : ∀ r : WS, J (x :: y :: r) = x ++ " " ++ J (y :: r) := fun r => by unfold J; rw [TL.join_eq, TL.join_eq]; rfl
    rw [e, show x :: y :: r ++ [w] = x :: y :: (r ++ [w]) from rfl, e, show y :: (r ++ [w]) = y :: r ++ [w] from rfl, ih]
    apply TL.ext_tl
    simp only [TL.tl_append, List.append_assoc]
theorem J_cons {ws : WS} (w : PySem.Str) (h : ws ≠ []) : J (w :: ws) = w ++ " " ++ J ws := by
  cases ws with
  | nil => exact absurd rfl h
  | cons x r => unfold J; rw [TL.join_eq, TL.join_eq]; rfl
theorem app_nil (x : PySem.Str) : x ++ ("" : PySem.Str) = x := TL.ext_tl (by rw [TL.tl_append, show TL.tl ("" : PySem.Str) = [] by decide +kernel, List.append_nil])
theorem nil_app (x : PySem.Str) : ("" : PySem.Str) ++ x = x := TL.ext_tl (by rw [TL.tl_append, show TL.tl ("" : PySem.Str) = [] by decide +kernel, List.nil_append])
theorem app_assoc (x y z : PySem.Str) : x ++ y ++ z = x ++ (y ++ z) := TL.ext_tl (by simp only [TL.tl_append, List.append_assoc])
/-- a text that is spoilt at an end -/
def Spo (t t' : PySem.Str) : Prop := t' = t ++ (" " : PySem.Str) ∨ t' = t ++ ("\t" : PySem.Str) ∨ t' = (" " : PySem.Str) ++ t
theorem good_no {ks ws : WS} {w : PySem.Str} (hw : w ∈ ws) (hn : w ∉ ks) : goodWs ks ws = false := by
  unfold goodWs
  have : (ws.all fun w => decide (w ∈ ks)) = false := by
    rw [Bool.eq_false_iff]
    intro z
    exact hn (of_decide_eq_true (List.all_eq_true.mp z w hw))
  rw [this, Bool.and_false]
theorem spoil_words {ks ws : WS} (hk : (ks.all fun w => (TL.tl w).all lowC && decide (w ≠ "")) = true) (g : goodWs ks ws = true) (c : cleanW ws = true) {t' : PySem.Str} (h : Spo (J ws) t') : goodWs ks (Txt.split t' " ") = false := by
  have hne := clean_ne c
  have h32 : ∀ x ∈ ws, 32 ∉ TL.tl x := fun x hx => (clean_w c x hx).2
  have e32 : 32 ∉ TL.tl ("" : PySem.Str) := by decide +kernel
  have e0 : ("" : PySem.Str) ∉ ks := fun z => by
    have := List.all_eq_true.mp hk _ z
    rw [Bool.and_eq_true, decide_eq_true_eq] at this
    exact this.2 rfl
  rcases h with rfl | rfl | rfl
  · have e : J ws ++ (" " : PySem.Str) = J (ws ++ ([("" : PySem.Str)] : WS)) := by rw [J_snoc _ hne, app_nil]
    rw [e, splitJ (by simp) fun x hx => (List.mem_append.mp hx).elim (h32 x) fun z => by rw [List.mem_singleton.mp z]; exact e32]
    exact good_no (List.mem_append_right _ List.mem_cons_self) e0
  · obtain ⟨l, w, rfl⟩ : ∃ l w, ws = l ++ [w] := ⟨ws.dropLast, ws.getLast hne, (List.dropLast_concat_getLast hne).symm⟩
    have e : J (l ++ [w]) ++ ("\t" : PySem.Str) = J (l ++ [w ++ ("\t" : PySem.Str)]) := by
      cases l with
      | nil => rfl
      | cons x l => rw [J_snoc _ (List.cons_ne_nil _ _), J_snoc _ (List.cons_ne_nil _ _), app_assoc]
    have t9 : TL.tl ("\t" : PySem.Str) = [9] := by decide +kernel
    rw [e, splitJ (by simp) fun x hx => (List.mem_append.mp hx).elim (fun z => h32 x (List.mem_append_left _ z)) fun z => by
      rw [List.mem_singleton.mp z, TL.tl_append, t9]
      exact fun y => (List.mem_append.mp y).elim (h32 w (List.mem_append_right _ List.mem_cons_self)) fun y => by simp at y]
    refine good_no (List.mem_append_right _ List.mem_cons_self) fun z => ?_
    have := List.all_eq_true.mp hk _ z
    rw [Bool.and_eq_true] at this
    have := List.all_eq_true.mp this.1 9 (by rw [TL.tl_append, t9]; exact List.mem_append_right _ List.mem_cons_self)
    cases this
  · have e : (" " : PySem.Str) ++ J ws = J ("" :: ws) := by rw [J_cons _ hne, nil_app]
    rw [e, splitJ (List.cons_ne_nil _ _) fun x hx => (List.mem_cons.mp hx).elim (fun z => by rw [z]; exact e32) (h32 x)]
    exact good_no List.mem_cons_self e0
theorem J_soft {ks : WS} (hk : (ks.all fun w => (TL.tl w).all lowC && decide (w ≠ "")) = true) : ∀ {ws : WS}, (∀ w ∈ ws, w ∈ ks) → (TL.tl (J ws)).all softC = true
  | [], _ => by decide +kernel
  | [x], h => by
    have := List.all_eq_true.mp hk x (h x List.mem_cons_self)
    rw [Bool.and_eq_true] at this
    rw [List.all_eq_true]
    intro c hc
    show softC c = true
    unfold softC
    rw [List.all_eq_true.mp this.1 c hc, Bool.true_or]
  | x :: y :: r, h => by
    have ih := J_soft hk (ws := y :: r) fun w hw => h w (List.mem_cons_of_mem _ hw)
    have h1' : (TL.tl x).all softC = true := by
      have := List.all_eq_true.mp hk x (h x List.mem_cons_self)
      rw [Bool.and_eq_true] at this
      rw [List.all_eq_true]
      intro c hc
      show softC c = true
      unfold softC
      rw [List.all_eq_true.mp this.1 c hc, Bool.true_or]
    rw [J_cons _ (List.cons_ne_nil _ _), TL.tl_append, TL.tl_append, List.all_append, List.all_append, ih]
    rw [h1']
    decide +kernel

theorem at_get {xs : List Nat} {i : Nat} (h : i < xs.length) (f : Nat → PySem.Str) : ((LS (xs.map f))[i]'(by rw [List.length_map, List.length_map]; exact h)) = .str (f xs[i]) := by
  show ((xs.map f).map D.str)[i]'_ = _
  rw [List.getElem_map, List.getElem_map]
def psOf (vs : List D) (is : List Nat) : List (Nat × D) := is.map fun i => (i, vs.getD i .non)
theorem ps_look {vs : List D} {i : Nat} : ∀ is : List Nat, (psOf vs is).lookup i = if i ∈ is then some (vs.getD i .non) else none
  | [] => rfl
  | j :: is => by
    have ih := ps_look (vs := vs) (i := i) is
    show ((j, vs.getD j .non) :: psOf vs is).lookup i = _
    rw [List.lookup_cons]
    by_cases e : i = j
    · subst e; rw [beq_self_eq_true, if_pos List.mem_cons_self]
    · rw [beq_eq_false_iff_ne.mpr e, ih]
      have : (i ∈ j :: is) = (i ∈ is) := by rw [List.mem_cons]; simp [e]
      simp only [this]
theorem ps_lt {vs : List D} {is : List Nat} (h : ∀ i ∈ is, i < 12) : ∀ p ∈ psOf vs is, p.1 < 12 := fun p hp => by
  obtain ⟨i, hi, rfl⟩ := List.mem_map.mp hp
  exact h i hi
theorem put_new2 {vs : List D} {is : List Nat} {i : Nat} (h : ∀ j ∈ is, j < 12) (hi : i < 12) (hn : i ∉ is) : putD (.inr (pnm i)) (vs.getD i .non) (kvK (psOf vs is)) (kvD (psOf vs is)) = (kvK (psOf vs (is ++ [i])), kvD (psOf vs (is ++ [i]))) := by
  have hk : hasK (.inr (pnm i)) (kvK (psOf vs is)) = false := by
    unfold hasK
    rw [List.any_eq_false]
    intro k hk
    obtain ⟨p, hp, rfl⟩ := List.mem_map.mp hk
    obtain ⟨j, hj, rfl⟩ := List.mem_map.mp hp
    rw [decide_eq_true_eq]
    exact fun z => hn (by rw [← pnm_inj (h j hj) hi (Sum.inr.inj z)]; exact hj)
  unfold putD
  rw [hk, if_neg (by decide)]
  unfold kvK kvD psOf
  rw [List.map_append, List.map_append, List.map_append]; rfl
theorem nl_app {x y : PySem.Str} (h : 10 ∉ TL.tl x) (g : 10 ∉ TL.tl y) : 10 ∉ TL.tl (x ++ y) := by
  rw [TL.tl_append]
  exact fun z => (List.mem_append.mp z).elim h g
theorem nl_J : ∀ {ws : WS}, (∀ w ∈ ws, 10 ∉ TL.tl w) → 10 ∉ TL.tl (J ws)
  | [], _ => by decide +kernel
  | [x], h => h x List.mem_cons_self
  | x :: y :: r, h => by
    have ih := nl_J (ws := y :: r) fun z hz => h z (List.mem_cons_of_mem _ hz)
    have e : J (x :: y :: r) = x ++ " " ++ J (y :: r) := by unfold J; rw [TL.join_eq, TL.join_eq]; rfl
    rw [e]
    exact nl_app (nl_app (h x List.mem_cons_self) (by decide +kernel)) ih
theorem nl_words (ks : WS) (h : (ks.all fun w => decide (10 ∉ TL.tl w)) = true) {ws : WS} (g : goodWs ks ws = true) : 10 ∉ TL.tl (J ws) := nl_J fun w hw => by
  unfold goodWs at g
  rw [Bool.and_eq_true, List.all_eq_true] at g
  have hk := of_decide_eq_true (g.2 w hw)
  exact of_decide_eq_true (List.all_eq_true.mp h w hk)
def Tx (vs : List D) : Prop := ∀ i, i < 12 → 10 ∉ TL.tl (textOf (vs.getD i .non))
theorem bp_tx {b : BP} (o : b.Ok) : Tx b.vs := fun i hi => by
  have hb : ∀ k : Bool, 10 ∉ TL.tl (textOf (.bl k)) := fun k => by cases k <;> decide +kernel
  match i, hi with
  | 0, _ =>
    have h := (all_okc wQ_ok o.w).1
    unfold okWr at h
    rw [Bool.and_eq_true] at h
    exact nl_words wWr (by decide +kernel) h.1
  | 1, _ =>
    have h := (all_okc cQ_ok o.c).1
    unfold okCl at h
    rw [Bool.and_eq_true] at h
    exact nl_words wCl (by decide +kernel) h.1
  | 2, _ =>
    have h := (all_okc rQ_ok o.r).1
    unfold okRd at h
    rw [Bool.and_eq_true] at h
    exact nl_words wRd (by decide +kernel) h.1
  | 3, _ =>
    have h := o.h
    show 10 ∉ TL.tl b.h
    simp only [List.mem_cons, List.not_mem_nil, or_false] at h
    rcases h with h | h <;> (rw [h]; decide +kernel)
  | 4, _ => exact hb b.pins
  | 5, _ => exact hb b.cleared
  | 6, _ => exact hb b.sets
  | 7, _ => exact hb b.force
  | 8, _ => exact hb b.ahead
  | 9, _ => exact hb b.first
  | 10, _ => exact hb b.waits
  | 11, _ =>
    have h := o.f
    show 10 ∉ TL.tl b.f
    simp only [List.mem_cons, List.not_mem_nil, or_false] at h
    rcases h with h | h | h <;> (rw [h]; decide +kernel)
  | n + 12, h => exact absurd h (by omega)
theorem pnm_clean {i : Nat} (hi : i < 12) : 10 ∉ TL.tl (pnm i) ∧ 32 ∉ TL.tl (pnm i) ∧ PyData.strOk (pnm i) = true := by
  have key : ((List.range 12).all fun i => decide (10 ∉ TL.tl (pnm i)) && (decide (32 ∉ TL.tl (pnm i)) && PyData.strOk (pnm i))) = true := by decide +kernel
  have := List.all_eq_true.mp key i (List.mem_range.mpr hi)
  rw [Bool.and_eq_true, Bool.and_eq_true, decide_eq_true_eq, decide_eq_true_eq] at this
  exact this
theorem line_nl {vs : List D} (t : Tx vs) {i : Nat} (hi : i < 12) : 10 ∉ TL.tl (line vs i) := nl_app (nl_app (pnm_clean hi).1 (by decide +kernel)) (t i hi)
theorem line_part {vs : List D} {i : Nat} (hi : i < 12) : Txt.partition (line vs i) " = " = (pnm i, (" = " : PySem.Str), textOf (vs.getD i .non)) := TL.partition_app (y := " = ") (s := 32) (S := [61, 32]) rfl (pnm_clean hi).2.1
theorem N_len : ∀ ws : WS, (Txt.join "\n" ws).length ≤ (ws.map (·.length)).sum + ws.length
  | [] => Nat.le_refl _
  | [x] => by show x.length ≤ _; simp only [List.map_cons, List.sum_cons, List.length_cons]; omega
  | x :: y :: r => by
    have ih := N_len (y :: r)
    have e : Txt.join "\n" (x :: y :: r) = x ++ "\n" ++ Txt.join "\n" (y :: r) := by rw [TL.join_eq, TL.join_eq]; rfl
    rw [e, slen_app, slen_app]
    rw [List.map_cons, List.sum_cons, List.length_cons]
    have : ("\n" : PySem.Str).length = 1 := by decide +kernel
    omega
theorem splitN_e {ws : WS} (hne : ws ≠ []) (h : ∀ x ∈ ws, x.length ≤ 913) (hl : ws.length ≤ 20) (hn : ∀ x ∈ ws, 10 ∉ TL.tl x) (S : Sto) : opSplit (.str (Txt.join "\n" ws)) (.str "\n") S = .ok (.lst (LS ws)) S := by
  have h1 := N_len ws
  have h2 := sum_le h
  have e : Txt.split (Txt.join "\n" ws) "\n" = ws := TL.split_join (y := "\n") (s := 10) (S := []) rfl (by decide +kernel) hne hn
  show (if (("\n" : PySem.Str).length == 0) = false ∧ (Txt.join "\n" ws).length + 2 ≤ 16777216 then Out.ok (D.lst ((Txt.split (Txt.join "\n" ws) "\n").map D.str)) S else .bad) = _
  rw [if_pos ⟨by decide +kernel, by omega⟩, e]
theorem part_e {vs : List D} (ok : OkBS vs) {i : Nat} (hi : i < 12) (S : Sto) : opPart (.str (line vs i)) (.str " = ") S = .ok (.tup [.str (pnm i), .str " = ", .str (textOf (vs.getD i .non))]) S := by
  have hl := line_len ok hi
  unfold opPart
  dsimp only
  rw [line_part hi, if_pos ⟨by decide +kernel, by omega⟩]
theorem dd_e {vs : List D} {is : List Nat} {S : Sto} {m i : Nat} (neg : Bool) (h : ∀ j ∈ is, j < 12) (hi : i < 12) (hm : S[m]? = some (some (.dic (kvK (psOf vs is)) (kvD (psOf vs is))))) : opDIn neg (.str (pnm i)) (.ref m) S = .ok (.bl (xor neg (decide (i ∈ is)))) S := by
  have hd : dicOf S (.ref m) = some (kvK (psOf vs is), kvD (psOf vs is)) := by unfold dicOf; simp only [hm]
  unfold opDIn
  rw [hd]
  dsimp only [MR.keyOf]
  rw [lk_ps hi (ps_lt h), ps_look]
  by_cases z : i ∈ is
  · rw [if_pos z, decide_eq_true z]; cases neg <;> rfl
  · rw [if_neg z, decide_eq_false z]; cases neg <;> rfl
theorem nodup_pnm : ∀ {is : List Nat}, (∀ i ∈ is, i < 12) → is.Nodup → (is.map pnm).Nodup
  | [], _, _ => List.nodup_nil
  | i :: is, h, hn => by
    obtain ⟨h1, h2⟩ := List.nodup_cons.mp hn
    rw [List.map_cons]
    refine List.nodup_cons.mpr ⟨fun z => ?_, nodup_pnm (fun j hj => h j (List.mem_cons_of_mem _ hj)) h2⟩
    obtain ⟨j, hj, e⟩ := List.mem_map.mp z
    exact h1 (by rw [← pnm_inj (h j (List.mem_cons_of_mem _ hj)) (h i List.mem_cons_self) e]; exact hj)
theorem pns_map : pns = (List.range 12).map pnm := by decide +kernel
theorem zip_look {vs : List D} {is : List Nat} (h : ∀ i ∈ is, i < 12) {i : Nat} (hi : i < 12) (hm : i ∈ is) : ((is.map pnm).zip (kvD (psOf vs is))).lookup (pnm i) = some (vs.getD i .non) := by
  induction is with
  | nil => cases hm
  | cons j is ih =>
    show ((pnm j, vs.getD j .non) :: (is.map pnm).zip (kvD (psOf vs is))).lookup (pnm i) = _
    rw [List.lookup_cons]
    by_cases e : i = j
    · subst e; rw [beq_self_eq_true]
    · rw [beq_eq_false_iff_ne.mpr (fun z => e (pnm_inj hi (h j List.mem_cons_self) z))]
      exact ih (fun k hk => h k (List.mem_cons_of_mem _ hk)) ((List.mem_cons.mp hm).resolve_left e)
theorem mem_pns {s : PySem.Str} (h : s ∈ pns) : ∃ i, i < 12 ∧ s = pnm i := by
  rw [pns_map] at h
  obtain ⟨i, hi, rfl⟩ := List.mem_map.mp h
  exact ⟨i, List.mem_range.mp hi, rfl⟩
theorem newP_e {S : Sto} {vs : List D} {is : List Nat} {m : Nat} {me : ME} {δ : MR.Env} (g : GVs vs) (hpm : is.Perm (List.range 12)) (hm : S[m]? = some (some (.dic (kvK (psOf vs is)) (kvD (psOf vs is))))) (h1 : me δ S = .ok (.ref m) S) {dn : WS} {dds : List D} (hd : dds.length = dn.length) : mNewP cK m_BookU_initU 12 pns dn me dds δ S = .ok (bk S.length) (S ++ [some (.dic pk vs)]) := by
  have h12 : ∀ i ∈ is, i < 12 := fun i hi => List.mem_range.mp (hpm.mem_iff.mp hi)
  have hall : ∀ i, i < 12 → i ∈ is := fun i hi => hpm.mem_iff.mpr (List.mem_range.mpr hi)
  have hd' : dicOf S (.ref m) = some (kvK (psOf vs is), kvD (psOf vs is)) := by unfold dicOf; simp only [hm]
  have ek : kvK (psOf vs is) = (is.map pnm).map Sum.inr := by unfold kvK psOf; rw [List.map_map, List.map_map]; rfl
  have hok : OkKs pns dn (is.map pnm) := ⟨nodup_pnm h12 (hpm.nodup_iff.mpr List.nodup_range), fun k hk => by
    obtain ⟨i, hi, rfl⟩ := List.mem_map.mp hk
    exact pnm_mem (h12 i hi), fun n hn => .inl (by
    obtain ⟨i, hi, rfl⟩ := mem_pns hn
    exact List.mem_map_of_mem (hall i hi))⟩
  have hB : okKsB pns dn (is.map pnm) = true := by
    unfold okKsB
    simp only [Bool.and_eq_true, List.all_eq_true, Bool.or_eq_true, decide_eq_true_eq]
    exact ⟨(nodupB_iff _).mpr hok.nodup, hok.sub, hok.cov⟩
  have ea : arr (srcOf pns dn (is.map pnm)) [] (kvD (psOf vs is)) dds = vs := by
    rw [arr_src .non hok (by unfold kvD psOf; rw [List.length_map, List.length_map, List.length_map]) hd, pns_map, List.map_map]
    have : (List.range 12).map (valA .non (is.map pnm) (kvD (psOf vs is)) dn dds ∘ pnm) = (List.range 12).map fun i => vs.getD i .non := by
      refine List.map_congr_left fun i hi => ?_
      have hi' := List.mem_range.mp hi
      show valA _ _ _ _ _ (pnm i) = _
      unfold valA
      rw [zip_look h12 hi' (hall i hi')]; rfl
    rw [this, rel_getD g.len]
  unfold mNewP
  rw [h1]
  dsimp only [bnd]
  rw [hd']
  dsimp only
  rw [ek, keysS_map]
  dsimp only
  rw [ea, if_pos ⟨hB, g.len⟩]
  exact run_ok' (run_bnd' (run_to (init_e (gvs_ok g) S) ⟨rfl, rfl⟩))
theorem read_book_e {S : Sto} {vs : List D} (g : GVs vs) (t : Tx vs) {is : List Nat} (hpm : is.Perm (List.range 12)) : m_read_book [.str (Txt.join "\n" (is.map (line vs)))] S = .ok (bk (S.length + 1)) (S ++ [some (.dic (kvK (psOf vs is)) (kvD (psOf vs is))), some (.dic pk vs)]) := by
  have h12 : ∀ i ∈ is, i < 12 := fun i hi => List.mem_range.mp (hpm.mem_iff.mp hi)
  have hall : ∀ i, i < 12 → i ∈ is := fun i hi => hpm.mem_iff.mpr (List.mem_range.mpr hi)
  have ok := gvs_ok g
  have hn : is.length = 12 := by rw [hpm.length_eq, List.length_range]
  have hnd : is.Nodup := hpm.nodup_iff.mpr List.nodup_range
  have e1 : ∀ x y : Option D, (S ++ [x]).set S.length y = S ++ [y] := fun x y => by
    rw [List.set_append_right _ _ (Nat.le_refl _), Nat.sub_self]; rfl
  have e2 : ∀ x : Option D, (S ++ [x])[S.length]? = some x := fun x => by
    rw [List.getElem?_append_right (Nat.le_refl _), Nat.sub_self]; rfl
  have hsp := splitN_e (ws := is.map (line vs)) (fun z => by have := congrArg List.length z; rw [List.length_map, hn] at this; cases this) (fun x hx => by
    obtain ⟨i, hi, rfl⟩ := List.mem_map.mp hx
    exact line_len ok (h12 i hi)) (by rw [List.length_map, hn]; decide) (fun x hx => by
    obtain ⟨i, hi, rfl⟩ := List.mem_map.mp hx
    exact line_nl t (h12 i hi)) S
  generalize hT : Txt.join "\n" (is.map (line vs)) = T at hsp
  refine run_ok' (s_run ?_)
  unfold ms_read_book
  refine s_seq <| if_f rfl ?_
  dsimp only
  refine s_seq <| s_asgN <| g_m1 rfl <| g_c <| run_eq hsp ?_
  refine s_seq <| s_asgC <| run_eq (a := .dic [] []) rfl ?_
  dsimp only [startD, List.set, List.map, List.replicate, List.append]
  refine s_seq <| s_for <| g_enum <| g_cons <| g_var rfl <| g_nil ⟨_, rfl, ?_⟩
  have hll : (LS (is.map (line vs))).length = 12 := by rw [List.length_map, List.length_map, hn]
  refine s_loopE (fun k δ S' => S' = S ++ [some (.dic (kvK (psOf vs (is.take k))) (kvD (psOf vs (is.take k))))] ∧ ∃ v3 v4 v5 v6 v7 v8, δ = [.val (.str T), .val (.lst (LS (is.map (line vs)))), .val (.ref S.length), v3, v4, v5, v6, v7, v8]) ⟨rfl, _, _, _, _, _, _, rfl⟩ ?_ ?_
  · rintro k hk δ S' ⟨rfl, v3, v4, v5, v6, v7, v8, rfl⟩
    have hk' : k < is.length := by rw [hll] at hk; omega
    have hd0 : (LS (is.map (line vs)))[k]'hk = .str (line vs is[k]) := at_get hk' (line vs)
    have hi : is[k] < 12 := h12 _ (List.getElem_mem hk')
    have hni : is[k] ∉ is.take k := fun z => by
      obtain ⟨j, hj, e⟩ := List.getElem_of_mem z
      rw [List.getElem_take] at e
      rw [List.length_take] at hj
      exact List.pairwise_iff_getElem.mp hnd j k (by omega) hk' (by omega) e
    have htk : is.take k ++ [is[k]] = is.take (k + 1) := by rw [List.take_add_one, List.getElem?_eq_getElem hk']; rfl
    have h12t : ∀ j ∈ is.take k, j < 12 := fun j hj => h12 j (List.mem_of_mem_take hj)
    rw [hd0]
    generalize is[k] = i at hi hni htk
    refine ⟨_, rfl, ?_⟩
    dsimp only [List.set]
    refine s_seq <| s_asg <| g_m1 rfl <| g_c <| run_eq (part_e ok hi _) ⟨_, rfl, ?_⟩
    dsimp only [List.set]
    have hgv : GoodV i (vs.getD i .non) := by rw [getD_at g.len hi]; exact g.good i hi
    have c1 : ∀ {δ : MR.Env}, δ[5]? = some (.val (.str (pnm i))) → δ[2]? = some (.val (.ref S.length)) → mTest (mOp (opDIn false) (mVar 5) (mVar 2)) δ (S ++ [some (.dic (kvK (psOf vs (is.take k))) (kvD (psOf vs (is.take k))))]) = .ok false (S ++ [some (.dic (kvK (psOf vs (is.take k))) (kvD (psOf vs (is.take k))))]) := fun a1 a2 => rn_eq <| g_test <| g_op <| g_var a1 <| g_var a2 <| run_eq (dd_e false h12t hi (e2 _)) <| g_bl ⟨by rw [decide_eq_false hni]; rfl, rfl⟩
    have c2 : ∀ {δ : MR.Env} (S : Sto), δ[5]? = some (.val (.str (pnm i))) → (mNot (mTest (mCall 1 m_is_part (mCons (mVar 5) mNil)))) δ S = .ok false S := fun S a1 => rn_eq <| g_not <| g_test <| g_call <| g_cons <| g_var a1 <| g_nil <| run_eq (is_part_e (pnm_mem hi) _) <| g_bl ⟨rfl, rfl⟩
    refine s_seq ?_
    refine if_f (or_f (eqs_e (a := " = ") rfl (by decide +kernel)) (or_f (c2 _ rfl) (c1 rfl rfl))) ?_
    dsimp only
    refine s_seq <| s_asgN <| g_call <| g_cons <| g_var rfl <| g_cons <| g_var rfl <| g_nil <| run_eq (value_of_e hi hgv _) ?_
    dsimp only [List.set]
    refine s_seq ?_
    refine if_f (rn_eq <| g_not <| g_test <| g_call <| g_cons <| g_var rfl <| g_cons <| g_var rfl <| g_nil <| run_eq (allowed_e (pnm_mem hi) hgv.small _) <| g_bl ⟨by rw [hgv.ok]; rfl, rfl⟩) ?_
    dsimp only
    refine s_setD (n := S.length) (k := .inr (pnm i)) (ks := kvK (psOf vs (is.take k))) (ds := kvD (psOf vs (is.take k))) <| g_var rfl <| g_var rfl <| g_var rfl ⟨rfl, rfl, e2 _, ?_, ?_, _, _, _, _, _, _, rfl⟩
    · unfold kvK psOf
      rw [List.length_map, List.length_map, List.length_take]; omega
    · rw [put_new2 h12t hi hni, htk, e1]
  rintro δ S' ⟨rfl, v3, v4, v5, v6, v7, v8, rfl⟩
  have htk : is.take 12 = is := by rw [← hn, List.take_length]
  rw [hll, htk]
  dsimp only
  refine s_seq <| s_for <| g_iTup <| g_c ⟨LS pns, rfl, ?_⟩
  rw [pns_range]
  refine s_loop (fun ds δ S' => S' = S ++ [some (.dic (kvK (psOf vs is)) (kvD (psOf vs is)))] ∧ (∀ d ∈ ds, ∃ i, i < 12 ∧ d = .str (pnm i)) ∧ ∃ v3 v4 v5 v6 v7 v8, δ = [.val (.str T), .val (.lst (LS (is.map (line vs)))), .val (.ref S.length), v3, v4, v5, v6, v7, v8]) ?_ ?_ _ _ _ ⟨rfl, fun d hd => (by obtain ⟨i, hi, rfl⟩ := List.mem_map.mp hd; exact ⟨i, List.mem_range.mp hi, rfl⟩), _, _, _, _, _, _, rfl⟩
  · rintro d ds δ S' ⟨rfl, hd, v3, v4, v5, v6, v7, v8, rfl⟩
    obtain ⟨i, hi, rfl⟩ := hd _ List.mem_cons_self
    refine ⟨_, rfl, ?_⟩
    dsimp only [List.set]
    refine if_f (rn_eq <| g_test <| g_op <| g_var rfl <| g_var rfl <| run_eq (dd_e true h12 hi (e2 _)) <| g_bl ⟨by rw [decide_eq_true (hall i hi)]; rfl, rfl⟩) ⟨rfl, fun x hx => hd x (List.mem_cons_of_mem _ hx), _, _, _, _, _, _, rfl⟩
  · rintro δ S' ⟨rfl, _, v3, v4, v5, v6, v7, v8, rfl⟩
    dsimp only
    refine s_ret <| run_to (newP_e g hpm (e2 _) rfl rfl) ?_
    refine ⟨?_, by rw [List.append_assoc]; rfl⟩
    rw [List.length_append]; rfl

theorem soft_no {l : List Nat} {c : Nat} (h : l.all softC = true) (hc : softC c = false) : c ∉ l := fun z => by
  have := List.all_eq_true.mp h c z
  rw [hc] at this; cases this
theorem low_soft {l : List Nat} (h : l.all lowC = true) : l.all softC = true := by
  rw [List.all_eq_true] at h ⊢
  intro c hc
  show softC c = true
  unfold softC
  rw [h c hc, Bool.true_or]
theorem good_mem {ks ws : WS} (g : goodWs ks ws = true) : ∀ w ∈ ws, w ∈ ks := fun w hw => by
  unfold goodWs at g
  rw [Bool.and_eq_true, List.all_eq_true] at g
  exact of_decide_eq_true (g.2 w hw)
theorem kWr : (wWr.all fun w => (TL.tl w).all lowC && decide (w ≠ "")) = true := by decide +kernel
theorem kCl : (wCl.all fun w => (TL.tl w).all lowC && decide (w ≠ "")) = true := by decide +kernel
theorem kRd : (wRd.all fun w => (TL.tl w).all lowC && decide (w ≠ "")) = true := by decide +kernel
theorem goodW {ws : WS} (h : okWr ws = true) : goodWs wWr ws = true := by
  unfold okWr at h
  exact (Bool.and_eq_true _ _ ▸ h).1
theorem goodC {ws : WS} (h : okCl ws = true) : goodWs wCl ws = true := by
  unfold okCl at h
  exact (Bool.and_eq_true _ _ ▸ h).1
theorem goodR {ws : WS} (h : okRd ws = true) : goodWs wRd ws = true := by
  unfold okRd at h
  exact (Bool.and_eq_true _ _ ▸ h).1
theorem badW {ws : WS} (h : goodWs wWr ws = false) : okWr ws = false := by unfold okWr; rw [h]; rfl
theorem badC {ws : WS} (h : goodWs wCl ws = false) : okCl ws = false := by unfold okCl; rw [h]; rfl
theorem badR {ws : WS} (h : goodWs wRd ws = false) : okRd ws = false := by unfold okRd; rw [h]; rfl
def txt (b : BP) (i : Nat) : PySem.Str := textOf (b.vs.getD i .non)
theorem tx_soft {b : BP} (o : b.Ok) {i : Nat} (hi : i < 12) : (TL.tl (txt b i)).all softC = true ∧ (txt b i).length ≤ 110 := by
  have hb : ∀ k : Bool, (TL.tl (textOf (.bl k))).all softC = true ∧ (textOf (.bl k)).length ≤ 110 := fun k => by cases k <;> decide +kernel
  match i, hi with
  | 0, _ =>
    obtain ⟨h, c⟩ := all_okc wQ_ok o.w
    exact ⟨J_soft kWr (good_mem (goodW h)), (clean_J c).1⟩
  | 1, _ =>
    obtain ⟨h, c⟩ := all_okc cQ_ok o.c
    exact ⟨J_soft kCl (good_mem (goodC h)), (clean_J c).1⟩
  | 2, _ =>
    obtain ⟨h, c⟩ := all_okc rQ_ok o.r
    exact ⟨J_soft kRd (good_mem (goodR h)), (clean_J c).1⟩
  | 3, _ =>
    have h := o.h
    show (TL.tl b.h).all softC = true ∧ b.h.length ≤ 110
    simp only [List.mem_cons, List.not_mem_nil, or_false] at h
    rcases h with h | h <;> (rw [h]; decide +kernel)
  | 4, _ => exact hb b.pins
  | 5, _ => exact hb b.cleared
  | 6, _ => exact hb b.sets
  | 7, _ => exact hb b.force
  | 8, _ => exact hb b.ahead
  | 9, _ => exact hb b.first
  | 10, _ => exact hb b.waits
  | 11, _ =>
    have h := o.f
    show (TL.tl b.f).all softC = true ∧ b.f.length ≤ 110
    simp only [List.mem_cons, List.not_mem_nil, or_false] at h
    rcases h with h | h | h <;> (rw [h]; decide +kernel)
  | n + 12, h => exact absurd h (by omega)
def valOf (i : Nat) (r : PySem.Str) : D := if kindB i = true then (if r = "yes" then .bl true else if r = "no" then .bl false else .str r) else .str r
def Odd3 (r : PySem.Str) : Prop := r = "" ∨ r = "maybe" ∨ r = "True"
theorem okV_bool {i : Nat} (h : kindB i = true) (s : PySem.Str) : okV (pnm i) (.str s) = false := by
  have hi : i < 12 := by unfold kindB at h; simp at h; omega
  have key : ((List.range 12).all fun i => !kindB i || (decide (pnm i ≠ "writer") && (decide (pnm i ≠ "cleaner") && (decide (pnm i ≠ "reader") && (decide (pnm i ≠ "horizon") && decide (pnm i ≠ "follower")))))) = true := by decide +kernel
  have := List.all_eq_true.mp key i (List.mem_range.mpr hi)
  rw [h] at this
  simp only [Bool.not_true, Bool.false_or, Bool.and_eq_true, decide_eq_true_eq] at this
  obtain ⟨h1, h2, h3, h4, h5⟩ := this
  unfold okV
  rw [if_neg h1, if_neg h2, if_neg h3, if_neg h4, if_neg h5]; rfl
theorem val_bool {i : Nat} (h : kindB i = true) {r : PySem.Str} (h1 : r ≠ "yes") (h2 : r ≠ "no") : okV (pnm i) (valOf i r) = false := by
  unfold valOf
  rw [if_pos h, if_neg h1, if_neg h2]
  exact okV_bool h r
theorem val_bad {b : BP} (o : b.Ok) {i : Nat} (hi : i < 12) {r : PySem.Str} (h : Spo (txt b i) r ∨ Odd3 r) : okV (pnm i) (valOf i r) = false := by
  have hb : ∀ {i : Nat} {k : Bool}, kindB i = true → Spo (textOf (.bl k)) r ∨ Odd3 r → okV (pnm i) (valOf i r) = false := fun {i k} hk h => by
    have : r ≠ "yes" ∧ r ≠ "no" := by
      rcases h with (rfl | rfl | rfl) | rfl | rfl | rfl <;> first | decide +kernel | (cases k <;> decide +kernel)
    exact val_bool hk this.1 this.2
  match i, hi with
  | 0, _ =>
    show okV (pnm 0) (.str r) = false
    rw [okV0]
    rcases h with h | rfl | rfl | rfl
    · obtain ⟨g, c⟩ := all_okc wQ_ok o.w
      exact badW (spoil_words kWr (goodW g) c h)
    all_goals decide +kernel
  | 1, _ =>
    show okV (pnm 1) (.str r) = false
    rw [okV1]
    rcases h with h | rfl | rfl | rfl
    · obtain ⟨g, c⟩ := all_okc cQ_ok o.c
      exact badC (spoil_words kCl (goodC g) c h)
    all_goals decide +kernel
  | 2, _ =>
    show okV (pnm 2) (.str r) = false
    rw [okV2]
    rcases h with h | rfl | rfl | rfl
    · obtain ⟨g, c⟩ := all_okc rQ_ok o.r
      exact badR (spoil_words kRd (goodR g) c h)
    all_goals decide +kernel
  | 3, _ =>
    have hh := o.h
    have h' : Spo b.h r ∨ Odd3 r := h
    simp only [List.mem_cons, List.not_mem_nil, or_false] at hh
    rcases hh with hh | hh <;> rw [hh] at h' <;> rcases h' with (rfl | rfl | rfl) | rfl | rfl | rfl <;> decide +kernel
  | 4, _ => exact hb (k := b.pins) rfl h
  | 5, _ => exact hb (k := b.cleared) rfl h
  | 6, _ => exact hb (k := b.sets) rfl h
  | 7, _ => exact hb (k := b.force) rfl h
  | 8, _ => exact hb (k := b.ahead) rfl h
  | 9, _ => exact hb (k := b.first) rfl h
  | 10, _ => exact hb (k := b.waits) rfl h
  | 11, _ =>
    have hh := o.f
    have h' : Spo b.f r ∨ Odd3 r := h
    simp only [List.mem_cons, List.not_mem_nil, or_false] at hh
    rcases hh with hh | hh | hh <;> rw [hh] at h' <;> rcases h' with (rfl | rfl | rfl) | rfl | rfl | rfl <;> decide +kernel
  | n + 12, h => exact absurd h (by omega)
/-- a line that ends the reading, behind lines of the parts is -/
def Kil (is : List Nat) (s : PySem.Str) : Prop := s.length ≤ 913 ∧ 10 ∉ TL.tl s ∧ (Off s ∨ (∃ j, j ∈ is ∧ (Txt.partition s " = ").1 = pnm j) ∨ ∃ i r, i < 12 ∧ i ∉ is ∧ Txt.partition s " = " = (pnm i, (" = " : PySem.Str), r) ∧ r.length ≤ 900 ∧ okV (pnm i) (valOf i r) = false)
def bendsL (l n : PySem.Str) : WS := [l ++ (" " : PySem.Str), (" " : PySem.Str) ++ l, Txt.replace l " = " "=", Txt.replace l " = " " =  ", Txt.upper l, n, n ++ (" = " : PySem.Str), n ++ (" = maybe" : PySem.Str), "part = yes", "", n ++ (" = True" : PySem.Str), l ++ ("\t" : PySem.Str)]
theorem pnm_low {i : Nat} (hi : i < 12) : (TL.tl (pnm i)).all lowC = true := (pns_low (pnm_mem hi)).1
theorem up_name {i : Nat} (hi : i < 12) : ∃ c l u v, TL.tl (pnm i) = c :: l ∧ Unicode.upperOf c = u :: v ∧ lowC u = false := by
  have key : ((List.range 12).all fun i => match TL.tl (pnm i) with | [] => false | c :: _ => match Unicode.upperOf c with | [] => false | u :: _ => !lowC u) = true := by decide +kernel
  have := List.all_eq_true.mp key i (List.mem_range.mpr hi)
  revert this
  cases e1 : TL.tl (pnm i) with
  | nil => intro h; cases h
  | cons c l =>
    dsimp only
    cases e2 : Unicode.upperOf c with
    | nil => intro h; cases h
    | cons u v => exact fun h => ⟨c, l, u, v, rfl, e2, by simpa using h⟩
theorem up_ten {c : Nat} (h : softC c = true ∨ c = 61) : 10 ∉ Unicode.upperOf c := by
  have key : ((List.range 123).all fun c => !(softC c || decide (c = 61)) || decide (10 ∉ Unicode.upperOf c)) = true := by decide +kernel
  have hc : c < 123 := by
    rcases h with h | h
    · unfold softC lowC at h
      simp only [Bool.or_eq_true, Bool.and_eq_true, decide_eq_true_eq] at h
      omega
    · omega
  have := List.all_eq_true.mp key c (List.mem_range.mpr hc)
  rcases h with h | h
  · rw [h] at this
    simpa using this
  · subst h
    simpa using this
theorem line_txt {b : BP} {i : Nat} : line b.vs i = pnm i ++ (" = " : PySem.Str) ++ txt b i := rfl
theorem kil_val {is : List Nat} {i : Nat} (hi : i < 12) (hn : i ∉ is) {r : PySem.Str} (hr : r.length ≤ 900) (h10 : 10 ∉ TL.tl r) (bad : okV (pnm i) (valOf i r) = false) : Kil is (pnm i ++ (" = " : PySem.Str) ++ r) := by
  have l1 := pnm_len hi
  refine ⟨by rw [slen_app, slen_app, sg_len]; omega, nl_app (nl_app (pnm_clean hi).1 (by decide +kernel)) h10, .inr (.inr ⟨i, r, hi, hn, ?_, hr, bad⟩)⟩
  exact TL.partition_app (y := " = ") (s := 32) (S := [61, 32]) rfl (pnm_clean hi).2.1
theorem len1 : (" " : PySem.Str).length = 1 ∧ ("\t" : PySem.Str).length = 1 ∧ ("=" : PySem.Str).length = 1 := by decide +kernel
theorem bend_kil {b : BP} (o : b.Ok) {is : List Nat} {i : Nat} (hi : i < 12) (hn : i ∉ is) {s : PySem.Str} (h : s ∈ bendsL (line b.vs i) (pnm i)) : Kil is s := by
  obtain ⟨hs, hl⟩ := tx_soft o hi
  have h10 : 10 ∉ TL.tl (txt b i) := soft_no hs rfl
  have n10 := (pnm_clean hi).1
  have l1 := pnm_len hi
  have hlow := pnm_low hi
  have hbad := fun {r : PySem.Str} => val_bad o hi (r := r)
  have e1 := line_txt (b := b) (i := i)
  have l3 := sg_len
  generalize txt b i = t at hs hl h10 hbad e1
  rw [e1] at h
  unfold bendsL at h
  simp only [List.mem_cons, List.not_mem_nil, or_false] at h
  obtain ⟨k1, k2, k3⟩ := len1
  have ll : (pnm i ++ (" = " : PySem.Str) ++ t).length ≤ 123 := by rw [slen_app, slen_app]; omega
  have l10 : 10 ∉ TL.tl (pnm i ++ (" = " : PySem.Str) ++ t) := nl_app (nl_app n10 (by decide +kernel)) h10
  rcases h with rfl | rfl | rfl | rfl | rfl | rfl | rfl | rfl | rfl | rfl | rfl | rfl
  · rw [app_assoc _ t]
    exact kil_val hi hn (by rw [slen_app]; omega) (nl_app h10 (by decide +kernel)) (hbad (.inl (.inl rfl)))
  · refine ⟨by rw [slen_app]; omega, nl_app (by decide +kernel) l10,   .inl (off_head (c := 32) (l := TL.tl (pnm i ++ (" = " : PySem.Str) ++ t)) ?_ rfl)⟩
    rw [TL.tl_append, show TL.tl (" " : PySem.Str) = [32] by decide +kernel]; rfl
  · rw [repl_line hlow hs]
    refine ⟨by rw [slen_app, slen_app]; omega, nl_app (nl_app n10 (by decide +kernel)) h10, .inl (off_eq (n := TL.tl (pnm i)) (t := TL.tl t) ?_ hlow)⟩
    rw [TL.tl_append, TL.tl_append, show TL.tl ("=" : PySem.Str) = [61] by decide +kernel, List.append_assoc]; rfl
  · rw [repl_line hlow hs, show (" =  " : PySem.Str) = (" = " : PySem.Str) ++ (" " : PySem.Str) by decide +kernel, ← app_assoc (pnm i), app_assoc _ (" " : PySem.Str)]
    exact kil_val hi hn (by rw [slen_app]; omega) (nl_app (by decide +kernel) h10) (hbad (.inl (.inr (.inr rfl))))
  · have hu := PyProof.Rows.len_upper (pnm i ++ (" = " : PySem.Str) ++ t)
    refine ⟨by omega, ?_, .inl ?_⟩
    · rw [tl_upper]
      intro z
      obtain ⟨c, hc, hz⟩ := List.mem_flatMap.mp z
      refine up_ten ?_ hz
      rw [TL.tl_append, TL.tl_append] at hc
      rcases List.mem_append.mp hc with hc | hc
      · rcases List.mem_append.mp hc with hc | hc
        · exact .inl (List.all_eq_true.mp (low_soft hlow) c hc)
        · rw [show TL.tl (" = " : PySem.Str) = [32, 61, 32] by decide +kernel] at hc
          simp only [List.mem_cons, List.not_mem_nil, or_false] at hc
          rcases hc with rfl | rfl | rfl
          · exact .inl rfl
          · exact .inr rfl
          · exact .inl rfl
      · exact .inl (List.all_eq_true.mp hs c hc)
    · obtain ⟨c, l, u, v, a1, a2, a3⟩ := up_name hi
      refine off_head (c := u) (l := v ++ (l ++ (TL.tl (" = " : PySem.Str) ++ TL.tl t)).flatMap Unicode.upperOf) ?_ a3
      rw [tl_upper, TL.tl_append, TL.tl_append, a1, List.append_assoc]
      show (c :: (l ++ _)).flatMap Unicode.upperOf = _
      rw [List.flatMap_cons, a2]; rfl
  · exact ⟨by omega, n10, .inl (off_low hlow)⟩
  · have := kil_val hi hn (r := "") (by decide +kernel) (by decide +kernel) (hbad (.inr (.inl rfl)))
    rw [app_nil] at this
    exact this
  · have := kil_val hi hn (r := "maybe") (by decide +kernel) (by decide +kernel) (hbad (.inr (.inr (.inl rfl))))
    rw [app_assoc, show (" = " : PySem.Str) ++ ("maybe" : PySem.Str) = (" = maybe" : PySem.Str) by decide +kernel] at this
    exact this
  · exact ⟨by decide +kernel, by decide +kernel, .inl (.inr (by decide +kernel))⟩
  · exact ⟨by decide +kernel, by decide +kernel, .inl (off_low (by decide +kernel))⟩
  · have := kil_val hi hn (r := "True") (by decide +kernel) (by decide +kernel) (hbad (.inr (.inr (.inr rfl))))
    rw [app_assoc, show (" = " : PySem.Str) ++ ("True" : PySem.Str) = (" = True" : PySem.Str) by decide +kernel] at this
    exact this
  · rw [app_assoc _ t]
    exact kil_val hi hn (by rw [slen_app]; omega) (nl_app h10 (by decide +kernel)) (hbad (.inl (.inr (.inl rfl))))
/-- a line told twice -/
theorem dup_kil {b : BP} (o : b.Ok) {is : List Nat} {i : Nat} (hi : i < 12) (hm : i ∈ is) : Kil is (line b.vs i) := by
  obtain ⟨hs, hl⟩ := tx_soft o hi
  have l1 := pnm_len hi
  have l3 := sg_len
  refine ⟨by rw [line_txt, slen_app, slen_app]; omega, by rw [line_txt]; exact nl_app (nl_app (pnm_clean hi).1 (by decide +kernel)) (soft_no hs rfl), .inr (.inl ⟨i, hm, by rw [line_part hi]⟩)⟩
theorem nil_kil (is : List Nat) : Kil is "" := ⟨by decide +kernel, by decide +kernel, .inl (off_low (by decide +kernel))⟩

theorem is_part_no {p : PySem.Str} (hp : p ∉ pns) (S : Sto) : m_is_part [.str p] S = .ok (.bl false) S := by
  refine rn_eq (s_run ?_)
  unfold ms_is_part
  refine s_ret <| g_andV <| run_eq (a := .bl true) rfl ⟨_, rfl, g_T <| g_op <| g_var rfl <| g_c <| run_eq (inTS false pns p S) ⟨?_, rfl⟩⟩
  rw [Bool.false_xor, decide_eq_false hp]
theorem value_any {i : Nat} (hi : i < 12) (r : PySem.Str) (S : Sto) : m_value_of [.str (pnm i), .str r] S = .ok (valOf i r) S := by
  refine rn_eq (s_run ?_)
  unfold ms_value_of
  have ht : mTest (mOp (opIn false) (mVar 0) (mTup (mCons (mC (.str "writer")) (mCons (mC (.str "cleaner")) (mCons (mC (.str "reader")) (mCons (mC (.str "horizon")) (mCons (mC (.str "follower")) mNil))))))) [.val (.str (pnm i)), .val (.str r)] S = .ok (!kindB i) S := rn_eq <| g_test <| g_op <| g_var rfl <| g_tup <| g_cons <| g_c <| g_cons <| g_c <| g_cons <| g_c <| g_cons <| g_c <| g_cons <| g_c <| g_nil <| run_eq (inTS false ["writer", "cleaner", "reader", "horizon", "follower"] (pnm i) S) <| g_bl ⟨by rw [kind_mem hi, Bool.false_xor], rfl⟩
  refine s_seq ?_
  unfold valOf
  cases hk : kindB i with
  | false =>
    rw [hk] at ht
    refine if_t ht ?_
    exact s_ret <| g_var rfl ⟨rfl, rfl⟩
  | true =>
    rw [hk] at ht
    refine if_f ht ?_
    dsimp only
    rw [if_pos rfl]
    by_cases h1 : r = "yes"
    · refine s_seq <| if_t (eqs_e rfl (decide_eq_true h1)) ?_
      rw [if_pos h1]
      exact s_ret <| g_c ⟨rfl, rfl⟩
    · rw [if_neg h1]
      refine s_seq <| if_f (eqs_e rfl (decide_eq_false h1)) ?_
      dsimp only
      by_cases h2 : r = "no"
      · refine s_ret <| g_if <| run_eq (eqs_e (a := r) (b := "no") (r := true) rfl (decide_eq_true h2)) ?_
        rw [if_pos rfl, if_pos h2]
        exact g_c ⟨rfl, rfl⟩
      · refine s_ret <| g_if <| run_eq (eqs_e (a := r) (b := "no") (r := false) rfl (decide_eq_false h2)) ?_
        rw [if_neg (by decide), if_neg h2]
        exact g_var rfl ⟨rfl, rfl⟩
theorem or_tt {mt mu : MT} {δ : MR.Env} {S : Sto} (h1 : mt δ S = .ok true S) : mOr mt mu δ S = .ok true S := rn_eq (g_or (run_eq h1 (by rw [if_pos rfl]; exact ⟨rfl, rfl⟩)))
theorem or_rr {mt mu : MT} {δ : MR.Env} {S : Sto} {b : Bool} (h1 : mt δ S = .ok false S) (h2 : mu δ S = .ok b S) : mOr mt mu δ S = .ok b S := rn_eq (g_or (run_eq h1 (by rw [if_neg (by decide)]; exact run_eq h2 ⟨rfl, rfl⟩)))
abbrev dF (vs : List D) (is : List Nat) : Option D := some (.dic (kvK (psOf vs is)) (kvD (psOf vs is)))
abbrev isPart5 : MT := mNot (mTest (mCall 1 m_is_part (mCons (mVar 5) mNil)))
/-- one good line is taken in -/
theorem good_line {S : Sto} {vs : List D} (g : GVs vs) {is : List Nat} {i k : Nat} {T : PySem.Str} {ls : List D} {P : EndP} {v5 v6 v7 v8 : MR.Slot} (h12 : ∀ j ∈ is, j < 12) (hl : is.length ≤ 100) (hi : i < 12) (hni : i ∉ is)
    (q : ∀ v5 v6 v7 v8, P.nx [.val (.str T), .val (.lst ls), .val (.ref S.length), .val (.int (k : Int)), .val (.str (line vs i)), v5, v6, v7, v8] (S ++ [dF vs (is ++ [i])])) :
    RunS ((mSeq (mAsg (mM1 opPart (mVar 4) (mC (.str " = "))) (mGTup 3 (mGCons (mGName 5) (mGCons (mGName 6) (mGCons (mGName 7) mGNil)))))
    (mSeq (mIfS (mOr (mTest (mOp (opEq false) (mVar 6) (mC (.str "")))) (mOr (mNot (mTest (mCall 1 m_is_part (mCons (mVar 5) mNil)))) (mTest (mOp (opDIn false) (mVar 5) (mVar 2))))) (mRaise 1 "at" (mCons (mVar 3) mNil)) mNext)
    (mSeq (mAsg (mCall 2 m_value_of (mCons (mVar 5) (mCons (mVar 7) mNil))) (mGName 8))
    (mSeq (mIfS (mNot (mTest (mCall 2 m_is_allowed (mCons (mVar 5) (mCons (mVar 8) mNil))))) (mRaise 1 "at" (mCons (mVar 3) mNil)) mNext)
    (mSetD (mVar 8) (mVar 2) (mVar 5)))))) [.val (.str T), .val (.lst ls), .val (.ref S.length), .val (.int (k : Int)), .val (.str (line vs i)), v5, v6, v7, v8] (S ++ [dF vs is])) P := by
  have ok := gvs_ok g
  have e1 : ∀ x y : Option D, (S ++ [x]).set S.length y = S ++ [y] := fun x y => by
    rw [List.set_append_right _ _ (Nat.le_refl _), Nat.sub_self]; rfl
  have e2 : ∀ x : Option D, (S ++ [x])[S.length]? = some x := fun x => by
    rw [List.getElem?_append_right (Nat.le_refl _), Nat.sub_self]; rfl
  refine s_seq <| s_asg <| g_m1 rfl <| g_c <| run_eq (part_e ok hi _) ⟨_, rfl, ?_⟩
  dsimp only [List.set]
  have hgv : GoodV i (vs.getD i .non) := by rw [getD_at g.len hi]; exact g.good i hi
  have c1 : ∀ {δ : MR.Env}, δ[5]? = some (.val (.str (pnm i))) → δ[2]? = some (.val (.ref S.length)) → mTest (mOp (opDIn false) (mVar 5) (mVar 2)) δ (S ++ [dF vs is]) = .ok false (S ++ [dF vs is]) := fun a1 a2 => rn_eq <| g_test <| g_op <| g_var a1 <| g_var a2 <| run_eq (dd_e false h12 hi (e2 _)) <| g_bl ⟨by rw [decide_eq_false hni]; rfl, rfl⟩
  have c2 : ∀ {δ : MR.Env} (S : Sto), δ[5]? = some (.val (.str (pnm i))) → isPart5 δ S = .ok false S := fun S a1 => rn_eq <| g_not <| g_test <| g_call <| g_cons <| g_var a1 <| g_nil <| run_eq (is_part_e (pnm_mem hi) _) <| g_bl ⟨rfl, rfl⟩
  refine s_seq ?_
  refine if_f (or_f (eqs_e (a := " = ") rfl (by decide +kernel)) (or_f (c2 _ rfl) (c1 rfl rfl))) ?_
  dsimp only
  refine s_seq <| s_asgN <| g_call <| g_cons <| g_var rfl <| g_cons <| g_var rfl <| g_nil <| run_eq (value_of_e hi hgv _) ?_
  dsimp only [List.set]
  refine s_seq ?_
  refine if_f (rn_eq <| g_not <| g_test <| g_call <| g_cons <| g_var rfl <| g_cons <| g_var rfl <| g_nil <| run_eq (allowed_e (pnm_mem hi) hgv.small _) <| g_bl ⟨by rw [hgv.ok]; rfl, rfl⟩) ?_
  dsimp only
  refine s_setD (n := S.length) (k := .inr (pnm i)) (ks := kvK (psOf vs is)) (ds := kvD (psOf vs is)) <| g_var rfl <| g_var rfl <| g_var rfl ⟨rfl, rfl, e2 _, ?_, ?_⟩
  · unfold kvK psOf
    rw [List.length_map, List.length_map]; omega
  · rw [put_new2 h12 hi hni, e1]
    exact q _ _ _ _
/-- a line that ends it -/
theorem kil_line {S : Sto} {vs : List D} {is : List Nat} {k : Nat} {T s : PySem.Str} {ls : List D} {P : EndP} {v5 v6 v7 v8 : MR.Slot} (h12 : ∀ j ∈ is, j < 12) (hk : Kil is s)
    (q : ∀ δ, P.ex 1 ["at"] [.int (k : Int)] δ (S ++ [dF vs is])) :
    RunS ((mSeq (mAsg (mM1 opPart (mVar 4) (mC (.str " = "))) (mGTup 3 (mGCons (mGName 5) (mGCons (mGName 6) (mGCons (mGName 7) mGNil)))))
    (mSeq (mIfS (mOr (mTest (mOp (opEq false) (mVar 6) (mC (.str "")))) (mOr (mNot (mTest (mCall 1 m_is_part (mCons (mVar 5) mNil)))) (mTest (mOp (opDIn false) (mVar 5) (mVar 2))))) (mRaise 1 "at" (mCons (mVar 3) mNil)) mNext)
    (mSeq (mAsg (mCall 2 m_value_of (mCons (mVar 5) (mCons (mVar 7) mNil))) (mGName 8))
    (mSeq (mIfS (mNot (mTest (mCall 2 m_is_allowed (mCons (mVar 5) (mCons (mVar 8) mNil))))) (mRaise 1 "at" (mCons (mVar 3) mNil)) mNext)
    (mSetD (mVar 8) (mVar 2) (mVar 5)))))) [.val (.str T), .val (.lst ls), .val (.ref S.length), .val (.int (k : Int)), .val (.str s), v5, v6, v7, v8] (S ++ [dF vs is])) P := by
  obtain ⟨hl, _, hc⟩ := hk
  have e2 : ∀ x : Option D, (S ++ [x])[S.length]? = some x := fun x => by
    rw [List.getElem?_append_right (Nat.le_refl _), Nat.sub_self]; rfl
  have hp : opPart (.str s) (.str " = ") (S ++ [dF vs is]) = .ok (.tup [.str (Txt.partition s " = ").1, .str (Txt.partition s " = ").2.1, .str (Txt.partition s " = ").2.2]) (S ++ [dF vs is]) := by
    unfold opPart
    dsimp only
    rw [if_pos ⟨by decide +kernel, by omega⟩]
  refine s_seq <| s_asg <| g_m1 rfl <| g_c <| run_eq hp ⟨_, rfl, ?_⟩
  dsimp only [List.set]
  unfold Off at hc
  have c1 : ∀ {δ : MR.Env} {i : Nat}, i < 12 → δ[5]? = some (.val (.str (pnm i))) → δ[2]? = some (.val (.ref S.length)) → mTest (mOp (opDIn false) (mVar 5) (mVar 2)) δ (S ++ [dF vs is]) = .ok (decide (i ∈ is)) (S ++ [dF vs is]) := fun hi a1 a2 => rn_eq <| g_test <| g_op <| g_var a1 <| g_var a2 <| run_eq (dd_e false h12 hi (e2 _)) <| g_bl ⟨by rw [Bool.false_xor], rfl⟩
  have c2 : ∀ {δ : MR.Env} {i : Nat} (S : Sto), i < 12 → δ[5]? = some (.val (.str (pnm i))) → isPart5 δ S = .ok false S := fun S hi a1 => rn_eq <| g_not <| g_test <| g_call <| g_cons <| g_var a1 <| g_nil <| run_eq (is_part_e (pnm_mem hi) _) <| g_bl ⟨rfl, rfl⟩
  generalize Txt.partition s " = " = pq at hc
  obtain ⟨p, g, r⟩ := pq
  dsimp only at hc ⊢
  refine s_seq ?_
  by_cases hg : g = ""
  · refine if_t (or_tt (eqs_e (a := g) rfl (decide_eq_true hg))) ?_
    exact s_raise <| g_cons <| g_var rfl <| g_nil <| q _
  have hc' : p ∉ pns ∨ (∃ j, j ∈ is ∧ p = pnm j) ∨ ∃ i r', i < 12 ∧ i ∉ is ∧ (p, g, r) = (pnm i, (" = " : PySem.Str), r') ∧ r'.length ≤ 900 ∧ okV (pnm i) (valOf i r') = false := by
    rcases hc with (h | h) | h | h
    · exact absurd h hg
    · exact .inl h
    · exact .inr (.inl h)
    · exact .inr (.inr h)
  rcases hc' with hn | ⟨j, hj, rfl⟩ | ⟨i, r', hi, hni, e, hr, hv⟩
  · refine if_t (or_rr (eqs_e (a := g) rfl (decide_eq_false hg)) (or_tt (rn_eq <| g_not <| g_test <| g_call <| g_cons <| g_var rfl <| g_nil <| run_eq (is_part_no hn _) <| g_bl ⟨rfl, rfl⟩))) ?_
    exact s_raise <| g_cons <| g_var rfl <| g_nil <| q _
  · have ht := c1 (h12 j hj) (δ := [.val (.str T), .val (.lst ls), .val (.ref S.length), .val (.int (k : Int)), .val (.str s), .val (.str (pnm j)), .val (.str g), .val (.str r), v8]) rfl rfl
    rw [decide_eq_true hj] at ht
    refine if_t (or_rr (eqs_e (a := g) rfl (decide_eq_false hg)) (or_rr (c2 _ (h12 j hj) rfl) ht)) ?_
    exact s_raise <| g_cons <| g_var rfl <| g_nil <| q _
  · cases e
    have ht := c1 hi (δ := [.val (.str T), .val (.lst ls), .val (.ref S.length), .val (.int (k : Int)), .val (.str s), .val (.str (pnm i)), .val (.str " = "), .val (.str r), v8]) rfl rfl
    rw [decide_eq_false hni] at ht
    refine if_f (or_f (eqs_e (a := " = ") rfl (decide_eq_false hg)) (or_f (c2 _ hi rfl) ht)) ?_
    dsimp only
    refine s_seq <| s_asgN <| g_call <| g_cons <| g_var rfl <| g_cons <| g_var rfl <| g_nil <| run_eq (value_any hi r _) ?_
    dsimp only [List.set]
    have hs : smallD (valOf i r) = true := by
      unfold valOf
      split
      · split
        · rfl
        · split
          · rfl
          · exact decide_eq_true hr
      · exact decide_eq_true hr
    refine s_seq ?_
    refine if_t (rn_eq <| g_not <| g_test <| g_call <| g_cons <| g_var rfl <| g_cons <| g_var rfl <| g_nil <| run_eq (allowed_e (pnm_mem hi) hs _) <| g_bl ⟨by rw [hv]; rfl, rfl⟩) ?_
    exact s_raise <| g_cons <| g_var rfl <| g_nil <| q _

theorem LS_at {ws : WS} {k : Nat} {w : PySem.Str} (h : k < (LS ws).length) (e : ws[k]? = some w) : (LS ws)[k] = .str w := by
  obtain ⟨h2, e2⟩ := List.getElem?_eq_some_iff.mp e
  show (ws.map D.str)[k]'_ = _
  rw [List.getElem_map, e2]
theorem take_snoc {is : List Nat} {k : Nat} (h : k < is.length) : is.take k ++ [is[k]] = is.take (k + 1) := by rw [List.take_add_one, List.getElem?_eq_getElem h]; rfl
theorem nodup_take {is : List Nat} (hnd : is.Nodup) {k : Nat} (h : k < is.length) : is[k] ∉ is.take k := fun z => by
  obtain ⟨j, hj, e⟩ := List.getElem_of_mem z
  rw [List.getElem_take] at e
  rw [List.length_take] at hj
  exact List.pairwise_iff_getElem.mp hnd j k (by omega) h (by omega) e
theorem read_kil {S : Sto} {vs : List D} (g : GVs vs) (t : Tx vs) {is : List Nat} (hnd : is.Nodup) (h12 : ∀ i ∈ is, i < 12) {s : PySem.Str} (hk : Kil is s) {rest : WS} (hr : ∀ x ∈ rest, x.length ≤ 913 ∧ 10 ∉ TL.tl x) (hlen : is.length + 1 + rest.length ≤ 20) :
    m_read_book [.str (Txt.join "\n" (is.map (line vs) ++ s :: rest))] S = .ex 1 ["at"] [.int (is.length : Int)] (S ++ [dF vs is]) := by
  have ok := gvs_ok g
  have hall : ∀ x ∈ is.map (line vs) ++ s :: rest, x.length ≤ 913 ∧ 10 ∉ TL.tl x := fun x hx => by
    rcases List.mem_append.mp hx with hx | hx
    · obtain ⟨i, hi, rfl⟩ := List.mem_map.mp hx
      exact ⟨line_len ok (h12 i hi), line_nl t (h12 i hi)⟩
    · rcases List.mem_cons.mp hx with rfl | hx
      · exact ⟨hk.1, hk.2.1⟩
      · exact hr x hx
  have hsp := splitN_e (ws := is.map (line vs) ++ s :: rest) (by simp) (fun x hx => (hall x hx).1) (by rw [List.length_append, List.length_map, List.length_cons]; omega) (fun x hx => (hall x hx).2) S
  have hget : ∀ k (h : k < is.length), (is.map (line vs) ++ s :: rest)[k]? = some (line vs is[k]) := fun k h => by
    rw [List.getElem?_append_left (by rw [List.length_map]; exact h), List.getElem?_map, List.getElem?_eq_getElem h]; rfl
  have hgs : (is.map (line vs) ++ s :: rest)[is.length]? = some s := by
    rw [List.getElem?_append_right (by rw [List.length_map]; exact Nat.le_refl _), List.length_map, Nat.sub_self]; rfl
  have hL : (LS (is.map (line vs) ++ s :: rest)).length = is.length + 1 + rest.length := by rw [List.length_map, List.length_append, List.length_map, List.length_cons]; omega
  generalize hT : Txt.join "\n" (is.map (line vs) ++ s :: rest) = T at hsp
  generalize hW : is.map (line vs) ++ s :: rest = W at hsp hget hgs hL
  refine rx_eq (s_run ?_)
  unfold ms_read_book
  refine s_seq <| if_f rfl ?_
  dsimp only
  refine s_seq <| s_asgN <| g_m1 rfl <| g_c <| run_eq hsp ?_
  refine s_seq <| s_asgC <| run_eq (a := .dic [] []) rfl ?_
  dsimp only [startD, List.set, List.map, List.replicate, List.append]
  refine s_seq <| s_for <| g_enum <| g_cons <| g_var rfl <| g_nil ⟨_, rfl, ?_⟩
  refine s_loopE (fun k δ S' => k ≤ is.length ∧ S' = S ++ [dF vs (is.take k)] ∧ ∃ v3 v4 v5 v6 v7 v8, δ = [.val (.str T), .val (.lst (LS W)), .val (.ref S.length), v3, v4, v5, v6, v7, v8]) ⟨Nat.zero_le _, rfl, _, _, _, _, _, _, rfl⟩ ?_ ?_
  · rintro k hk' δ S' ⟨hkl, rfl, v3, v4, v5, v6, v7, v8, rfl⟩
    by_cases hlt : k < is.length
    · rw [LS_at hk' (hget k hlt)]
      have hni := nodup_take hnd hlt
      have htk := take_snoc hlt
      have hi : is[k] < 12 := h12 _ (List.getElem_mem hlt)
      generalize is[k] = i at hi hni htk
      refine ⟨_, rfl, ?_⟩
      dsimp only [List.set]
      refine good_line g (fun j hj => h12 j (List.mem_of_mem_take hj)) (by rw [List.length_take]; omega) hi hni fun v5 v6 v7 v8 => ?_
      rw [htk]
      exact ⟨hlt, rfl, _, _, _, _, _, _, rfl⟩
    · have e : k = is.length := by omega
      subst e
      rw [LS_at hk' hgs, List.take_length]
      refine ⟨_, rfl, ?_⟩
      dsimp only [List.set]
      exact kil_line h12 hk fun δ => ⟨rfl, rfl, rfl, rfl⟩
  · rintro δ S' ⟨h, _⟩
    rw [hL] at h
    omega
theorem read_miss {S : Sto} {vs : List D} (g : GVs vs) (t : Tx vs) {is : List Nat} (hne : is ≠ []) (hnd : is.Nodup) (h12 : ∀ i ∈ is, i < 12) {m : Nat} (hm : m < 12) (hmi : m ∉ is) (hlen : is.length ≤ 20) :
    m_read_book [.str (Txt.join "\n" (is.map (line vs)))] S = .ex 1 ["at"] [.int (is.length : Int)] (S ++ [dF vs is]) := by
  have ok := gvs_ok g
  have e2 : ∀ x : Option D, (S ++ [x])[S.length]? = some x := fun x => by
    rw [List.getElem?_append_right (Nat.le_refl _), Nat.sub_self]; rfl
  have hsp := splitN_e (ws := is.map (line vs)) (fun z => hne (List.map_eq_nil_iff.mp z)) (fun x hx => by
    obtain ⟨i, hi, rfl⟩ := List.mem_map.mp hx
    exact line_len ok (h12 i hi)) (by rw [List.length_map]; exact hlen) (fun x hx => by
    obtain ⟨i, hi, rfl⟩ := List.mem_map.mp hx
    exact line_nl t (h12 i hi)) S
  have hL : (LS (is.map (line vs))).length = is.length := by rw [List.length_map, List.length_map]
  have hget : ∀ k (h : k < is.length), (is.map (line vs))[k]? = some (line vs is[k]) := fun k h => by rw [List.getElem?_map, List.getElem?_eq_getElem h]; rfl
  generalize hT : Txt.join "\n" (is.map (line vs)) = T at hsp
  generalize hW : is.map (line vs) = W at hsp hget hL
  refine rx_eq (s_run ?_)
  unfold ms_read_book
  refine s_seq <| if_f rfl ?_
  dsimp only
  refine s_seq <| s_asgN <| g_m1 rfl <| g_c <| run_eq hsp ?_
  refine s_seq <| s_asgC <| run_eq (a := .dic [] []) rfl ?_
  dsimp only [startD, List.set, List.map, List.replicate, List.append]
  refine s_seq <| s_for <| g_enum <| g_cons <| g_var rfl <| g_nil ⟨_, rfl, ?_⟩
  refine s_loopE (fun k δ S' => k ≤ is.length ∧ S' = S ++ [dF vs (is.take k)] ∧ ∃ v3 v4 v5 v6 v7 v8, δ = [.val (.str T), .val (.lst (LS W)), .val (.ref S.length), v3, v4, v5, v6, v7, v8]) ⟨Nat.zero_le _, rfl, _, _, _, _, _, _, rfl⟩ ?_ ?_
  · rintro k hk' δ S' ⟨hkl, rfl, v3, v4, v5, v6, v7, v8, rfl⟩
    have hlt : k < is.length := by rw [hL] at hk'; exact hk'
    rw [LS_at hk' (hget k hlt)]
    have hni := nodup_take hnd hlt
    have htk := take_snoc hlt
    have hi : is[k] < 12 := h12 _ (List.getElem_mem hlt)
    generalize is[k] = i at hi hni htk
    refine ⟨_, rfl, ?_⟩
    dsimp only [List.set]
    refine good_line g (fun j hj => h12 j (List.mem_of_mem_take hj)) (by rw [List.length_take]; omega) hi hni fun v5 v6 v7 v8 => ?_
    rw [htk]
    exact ⟨hlt, rfl, _, _, _, _, _, _, rfl⟩
  · rintro δ S' ⟨_, rfl, v3, v4, v5, v6, v7, v8, rfl⟩
    rw [hL, List.take_length]
    dsimp only
    refine s_seq <| s_for <| g_iTup <| g_c ⟨LS pns, rfl, ?_⟩
    rw [pns_range]
    refine s_loop (fun ds δ S' => S' = S ++ [dF vs is] ∧ (∀ d ∈ ds, ∃ i, i < 12 ∧ d = .str (pnm i)) ∧ D.str (pnm m) ∈ ds ∧ ∃ v3 v4 v5 v6 v7 v8, δ = [.val (.str T), .val (.lst (LS W)), .val (.ref S.length), v3, v4, v5, v6, v7, v8]) ?_ ?_ _ _ _ ⟨rfl, fun d hd => (by obtain ⟨i, hi, rfl⟩ := List.mem_map.mp hd; exact ⟨i, List.mem_range.mp hi, rfl⟩), List.mem_map.mpr ⟨m, List.mem_range.mpr hm, rfl⟩, _, _, _, _, _, _, rfl⟩
    · rintro d ds δ S' ⟨rfl, hd, hmd, v3, v4, v5, v6, v7, v8, rfl⟩
      obtain ⟨i, hi, rfl⟩ := hd _ List.mem_cons_self
      refine ⟨_, rfl, ?_⟩
      dsimp only [List.set]
      have ht : mTest (mOp (opDIn true) (mVar 5) (mVar 2)) [.val (.str T), .val (.lst (LS W)), .val (.ref S.length), v3, v4, .val (.str (pnm i)), v6, v7, v8] (S ++ [dF vs is]) = .ok (!decide (i ∈ is)) (S ++ [dF vs is]) := rn_eq <| g_test <| g_op <| g_var rfl <| g_var rfl <| run_eq (dd_e true h12 hi (e2 _)) <| g_bl ⟨by rw [Bool.true_xor], rfl⟩
      by_cases hii : i ∈ is
      · rw [decide_eq_true hii] at ht
        refine if_f ht ⟨rfl, fun x hx => hd x (List.mem_cons_of_mem _ hx), ?_, _, _, _, _, _, _, rfl⟩
        rcases List.mem_cons.mp hmd with h | h
        · exact absurd (pnm_inj hm hi (D.str.inj h) ▸ hii) hmi
        · exact h
      · rw [decide_eq_false hii] at ht
        refine if_t ht ?_
        have hlen2 : mCB fLen (mCons (mVar 1) mNil) [.val (.str T), .val (.lst (LS W)), .val (.ref S.length), v3, v4, .val (.str (pnm i)), v6, v7, v8] (S ++ [dF vs is]) = .ok (.int (is.length : Int)) (S ++ [dF vs is]) := rn_eq <| g_cb <| g_cons <| g_var rfl <| g_nil <| g_lenL ⟨by rw [hL], rfl⟩
        unfold mRaiseF
        refine runS_bnd (run_to (a := [.int (is.length : Int)]) (S' := S ++ [dF vs is]) ?_ ?_)
        · exact rn_eq <| g_cons <| run_eq hlen2 <| g_nil ⟨rfl, rfl⟩
        refine runS_bnd (run_to (a := [.str (pnm i)]) (S' := S ++ [dF vs is]) ?_ ?_)
        · exact rn_eq <| g_cons <| g_var rfl <| g_nil ⟨rfl, rfl⟩
        exact ⟨rfl, rfl, rfl, rfl⟩
    · rintro δ S' ⟨_, _, h, _⟩
      cases h
theorem refused_x {a d : D} {S S' : Sto} (h : m_read_book [a] S = .ex 1 ["at"] [d] S') : m__law_refused [a] S = .ok (.lst [d]) S' := by
  refine run_ok' (s_run ?_)
  unfold ms__law_refused
  dsimp only [startD, List.map, List.replicate, List.append]
  refine s_seq <| s_tryX (δ1 := [.val a, .no]) (S1 := S') (c := 1) (ns := ["at"]) (ds := [d]) ?_ rfl ?_
  · show bndS (bnd (.ok [a] S) fun ds S => m_read_book ds S) _ _ = _
    show bndS (m_read_book [a] S) _ _ = _
    rw [h]; rfl
  · have e2 : (mRet (mIf (mTest (mIsX 1 t_isx_BadText)) (mLst (mCons (mXf 1 1 "at") mNil)) (mLst (mCons (mUn unNeg (mC (.int 1))) mNil)))) [.val a, .exn 1 ["at"] [d]] S' = .ok (.rt (.lst [d])) S' := rfl
    show RunS (offX 1 ((mRet (mIf (mTest (mIsX 1 t_isx_BadText)) (mLst (mCons (mXf 1 1 "at") mNil)) (mLst (mCons (mUn unNeg (mC (.int 1))) mNil)))) [.val a, .exn 1 ["at"] [d]] S')) _
    rw [e2]
    exact ⟨rfl, rfl⟩
theorem refused_n {a v : D} {S S' : Sto} (h : m_read_book [a] S = .ok v S') : m__law_refused [a] S = .ok (.lst []) S' := by
  refine run_ok' (s_run ?_)
  unfold ms__law_refused
  dsimp only [startD, List.map, List.replicate, List.append]
  refine s_seq <| s_tryN (δ1 := [.val a, .no]) (S1 := S') ?_ ?_
  · show bndS (m_read_book [a] S) _ _ = _
    rw [h]; rfl
  · dsimp only
    exact s_ret <| g_lst <| g_nil ⟨rfl, rfl⟩

theorem g_sl {S : Sto} {δ : MR.Env} {me : ME} {mlo mhi : MO} {f : D → Option Int → Option Int → Sto → Out D} {Q : D → Sto → Prop} {X : XQ} (q : Rn (me δ S) (fun d S => Rn (mlo δ S) (fun l S => Rn (mhi δ S) (fun h S => Rn (f d l h S) Q X) X) X) X) : Rn (mSl f me mlo mhi δ S) Q X :=
  run_bnd' (run_mono q (fun d S h => run_bnd' (run_mono h (fun l S h => run_bnd' h) fun _ _ _ _ z => z)) fun _ _ _ _ z => z)
theorem g_part {S : Sto} {δ : MR.Env} {me : ME} {QO : Option Int → Sto → Prop} {X : XQ} (q : Rn (me δ S) (fun d S => ∃ i : Int, d = .int i ∧ QO (some i) S) X) : Rn (mPart me δ S) QO X :=
  run_bnd' (run_mono q (fun d S ⟨i, e, h⟩ => by subst e; exact h) fun _ _ _ _ z => z)
theorem g_nopart {S : Sto} {δ : MR.Env} {QO : Option Int → Sto → Prop} {X : XQ} (q : QO none S) : Rn (mNoPart δ S) QO X := q

theorem refl_ne {d : D} {S : Sto} (ok : okN 9 (.lst [d]) = true) : opEq true (.lst [d]) (.lst [d]) S = .ok (.bl false) S := by
  show (if okN 9 (.lst [d]) && okN 9 (.lst [d]) then Out.ok (D.bl (xor true (eqD (.lst [d]) (.lst [d])))) S else .bad) = _
  rw [ok, eqD_self]; rfl
theorem same_c {d : D} {me m2 : ME} {δ : MR.Env} {S S' : Sto} (h1 : me δ S = .ok (.lst [d]) S') (h2 : m2 δ S' = .ok d S') (ok : okN 9 (.lst [d]) = true) : mTest (mOp (opEq true) me (mLst (mCons m2 mNil))) δ S = .ok false S' :=
  run_ok' <| g_test <| g_op <| run_to h1 <| g_lst <| g_cons <| run_to h2 <| g_nil <| run_to (refl_ne ok) <| g_bl ⟨rfl, rfl⟩
theorem same_c0 {me : ME} {δ : MR.Env} {S S' : Sto} (h1 : me δ S = .ok (.lst []) S') : mTest (mOp (opEq true) me (mLst mNil)) δ S = .ok false S' :=
  run_ok' <| g_test <| g_op <| run_to h1 <| g_lst <| g_nil <| run_to (a := .bl false) (S' := S') rfl <| g_bl ⟨rfl, rfl⟩
theorem if_ff {mt : MT} {ms : MS} {δ : MR.Env} {S S' : Sto} {P : EndP} (h : mt δ S = .ok false S') (q : P.nx δ S') : RunS (mIfS mt ms mNext δ S) P := s_ifS (run_to h (g_F (s_next q)))
theorem or_ff {mt mu : MT} {δ : MR.Env} {S S1 S2 : Sto} (h1 : mt δ S = .ok false S1) (h2 : mu δ S1 = .ok false S2) : mOr mt mu δ S = .ok false S2 := run_ok' (g_or (run_to h1 (by rw [if_neg (by decide)]; exact run_to h2 ⟨rfl, rfl⟩)))
theorem ask_e {me : ME} {δ : MR.Env} {S S' : Sto} {d r : D} (h1 : me δ S = .ok d S) (h2 : m__law_refused [d] S = .ok r S') : mCall 1 m__law_refused (mCons me mNil) δ S = .ok r S' := run_ok' <| g_call <| g_cons <| run_to h1 <| g_nil <| run_to h2 ⟨rfl, rfl⟩
theorem join_at {me : ME} {δ : MR.Env} {S : Sto} {ws : WS} (h1 : me δ S = .ok (.lst (LS ws)) S) (h : ∀ x ∈ ws, x.length ≤ 913) (hl : ws.length ≤ 20) : mM1 opJoin (mC (.str "\n")) me δ S = .ok (.str (Txt.join "\n" ws)) S := rn_eq <| g_m1 rfl <| run_eq h1 <| run_eq (joinN_e h hl S) ⟨rfl, rfl⟩
theorem cat_e {ma mb : ME} {δ : MR.Env} {S : Sto} {xs ys : WS} (h1 : ma δ S = .ok (.lst (LS xs)) S) (h2 : mb δ S = .ok (.lst (LS ys)) S) (hl : xs.length + ys.length ≤ 100) : mOp opPlus ma mb δ S = .ok (.lst (LS (xs ++ ys))) S := by
  have e : LS (xs ++ ys) = LS xs ++ LS ys := List.map_append
  refine rn_eq <| g_op <| run_eq h1 <| run_eq h2 <| g_catL (by rw [List.length_map, List.length_map]; omega) ⟨by rw [e], rfl⟩
theorem one_e {me : ME} {δ : MR.Env} {S : Sto} {s : PySem.Str} (h : me δ S = .ok (.str s) S) : mLst (mCons me mNil) δ S = .ok (.lst (LS [s])) S := rn_eq <| g_lst <| g_cons <| run_eq h <| g_nil ⟨rfl, rfl⟩
theorem tk_e {me mk : ME} {δ : MR.Env} {S : Sto} {ws : WS} {a : Nat} (h1 : me δ S = .ok (.lst (LS ws)) S) (h2 : mk δ S = .ok (.int (a : Int)) S) : mSl slL me mNoPart (mPart mk) δ S = .ok (.lst (LS (ws.take a))) S := by
  refine rn_eq <| g_sl <| run_eq h1 <| g_nopart <| g_part <| run_eq h2 ⟨_, rfl, ?_⟩
  show Rn (Out.ok (D.lst (cutD (LS ws) none (some (a : Int)))) S) _ _
  rw [cut_take0]
  exact ⟨by unfold LS; rw [List.map_take], rfl⟩
theorem dr_e {me mk : ME} {δ : MR.Env} {S : Sto} {ws : WS} {a : Nat} (h1 : me δ S = .ok (.lst (LS ws)) S) (h2 : mk δ S = .ok (.int (a : Int)) S) : mSl slL me (mPart mk) mNoPart δ S = .ok (.lst (LS (ws.drop a))) S := by
  refine rn_eq <| g_sl <| run_eq h1 <| g_part <| run_eq h2 ⟨_, rfl, g_nopart ?_⟩
  show Rn (Out.ok (D.lst (cutD (LS ws) (some (a : Int)) none)) S) _ _
  rw [cut_drop0]
  exact ⟨by unfold LS; rw [List.map_drop], rfl⟩
theorem nx_e {me : ME} {δ : MR.Env} {S : Sto} {a : Nat} (h : me δ S = .ok (.int (a : Int)) S) : mOp opPlus me (mC (.int 1)) δ S = .ok (.int ((a + 1 : Nat) : Int)) S := rn_eq <| g_op <| run_eq h <| g_c <| g_plusI ⟨rfl, rfl⟩
def isOf (a t : Nat) : List Nat := if t ≤ a then (List.range 12).take t ++ a :: ((List.range 12).take a).drop t else (List.range 12).take t
def reOf (a t : Nat) : List Nat := if t ≤ a then (List.range 12).drop (a + 1) else (List.range 12).drop t
theorem dup_facts {a t : Nat} (ha : a < 12) (ht : t < 12) : (List.range 12).take t ++ [a] ++ (List.range 12).drop t = isOf a t ++ a :: reOf a t ∧ (isOf a t).Nodup ∧ (∀ i ∈ isOf a t, i < 12) ∧ a ∈ isOf a t ∧ ((isOf a t).length : Int) = (if (a : Int) < (t : Int) - 1 then (t : Int) - 1 else (a : Int)) + 1 ∧ (∀ i ∈ reOf a t, i < 12) ∧ (isOf a t).length + 1 + (reOf a t).length ≤ 20 := by
  have key : ((List.range 12).all fun a => (List.range 12).all fun t => decide ((List.range 12).take t ++ [a] ++ (List.range 12).drop t = isOf a t ++ a :: reOf a t ∧ (isOf a t).Nodup ∧ (∀ i ∈ isOf a t, i < 12) ∧ a ∈ isOf a t ∧ ((isOf a t).length : Int) = (if (a : Int) < (t : Int) - 1 then (t : Int) - 1 else (a : Int)) + 1 ∧ (∀ i ∈ reOf a t, i < 12) ∧ (isOf a t).length + 1 + (reOf a t).length ≤ 20)) = true := by decide +kernel
  exact of_decide_eq_true (List.all_eq_true.mp (List.all_eq_true.mp key a (List.mem_range.mpr ha)) t (List.mem_range.mpr ht))
theorem cut_facts {a : Nat} (ha : a < 12) : ((List.range 12).take a).Nodup ∧ (∀ i ∈ (List.range 12).take a, i < 12) ∧ a ∉ (List.range 12).take a ∧ ((List.range 12).take a).length = a ∧ (∀ i ∈ (List.range 12).drop (a + 1), i < 12) ∧ ((List.range 12).drop (a + 1)).length = 11 - a ∧ ((List.range 12).take a ++ (List.range 12).drop (a + 1)).Nodup ∧ ((List.range 12).take a ++ (List.range 12).drop (a + 1)).length = 11 ∧ a ∉ (List.range 12).take a ++ (List.range 12).drop (a + 1) := by
  have key : ((List.range 12).all fun a => decide (((List.range 12).take a).Nodup ∧ (∀ i ∈ (List.range 12).take a, i < 12) ∧ a ∉ (List.range 12).take a ∧ ((List.range 12).take a).length = a ∧ (∀ i ∈ (List.range 12).drop (a + 1), i < 12) ∧ ((List.range 12).drop (a + 1)).length = 11 - a ∧ ((List.range 12).take a ++ (List.range 12).drop (a + 1)).Nodup ∧ ((List.range 12).take a ++ (List.range 12).drop (a + 1)).length = 11 ∧ a ∉ (List.range 12).take a ++ (List.range 12).drop (a + 1))) = true := by decide +kernel
  exact of_decide_eq_true (List.all_eq_true.mp key a (List.mem_range.mpr ha))
theorem rows_take (vs : List D) (a : Nat) : (lines vs).take a = ((List.range 12).take a).map (line vs) := by unfold lines; rw [List.map_take]
theorem rows_drop (vs : List D) (a : Nat) : (lines vs).drop a = ((List.range 12).drop a).map (line vs) := by unfold lines; rw [List.map_drop]
theorem lines_ok {vs : List D} (g : GVs vs) (t : Tx vs) {is : List Nat} (h : ∀ i ∈ is, i < 12) : ∀ x ∈ is.map (line vs), x.length ≤ 913 ∧ 10 ∉ TL.tl x := fun x hx => by
  obtain ⟨i, hi, rfl⟩ := List.mem_map.mp hx
  exact ⟨line_len (gvs_ok g) (h i hi), line_nl t (h i hi)⟩
theorem ask_bend {b : BP} (o : b.Ok) {a : Nat} (ha : a < 12) {s : PySem.Str} (hs : s ∈ bendsL (line b.vs a) (pnm a)) (S : Sto) : (∀ x ∈ (lines b.vs).take a ++ [s] ++ (lines b.vs).drop (a + 1), x.length ≤ 913) ∧ ((lines b.vs).take a ++ [s] ++ (lines b.vs).drop (a + 1)).length ≤ 20 ∧ ∃ T, m__law_refused [.str (Txt.join "\n" ((lines b.vs).take a ++ [s] ++ (lines b.vs).drop (a + 1)))] S = .ok (.lst [.int (a : Int)]) (S ++ [T]) := by
  have g := bp_gv o
  have t := bp_tx o
  obtain ⟨f1, f2, f3, f4, f5, f6, _⟩ := cut_facts ha
  have hk := bend_kil o ha f3 hs
  have hr := lines_ok g t f5
  have hl := lines_ok g t f2
  have e : (lines b.vs).take a ++ [s] ++ (lines b.vs).drop (a + 1) = ((List.range 12).take a).map (line b.vs) ++ s :: ((List.range 12).drop (a + 1)).map (line b.vs) := by rw [rows_take, rows_drop, List.append_assoc]; rfl
  rw [e]
  refine ⟨fun x hx => ?_, by rw [List.length_append, List.length_cons, List.length_map, List.length_map]; omega, dF b.vs ((List.range 12).take a), ?_⟩
  · rcases List.mem_append.mp hx with h | h
    · exact (hl x h).1
    · rcases List.mem_cons.mp h with rfl | h
      · exact hk.1
      · exact (hr x h).1
  · have := refused_x (read_kil (S := S) g t f1 f2 hk hr (by rw [List.length_map]; omega))
    rw [f4] at this
    exact this
theorem ask_dup {b : BP} (o : b.Ok) {a c : Nat} (ha : a < 12) (hc : c < 12) (S : Sto) : (∀ x ∈ (lines b.vs).take c ++ [line b.vs a] ++ (lines b.vs).drop c, x.length ≤ 913) ∧ ((lines b.vs).take c ++ [line b.vs a] ++ (lines b.vs).drop c).length ≤ 20 ∧ ∃ T, m__law_refused [.str (Txt.join "\n" ((lines b.vs).take c ++ [line b.vs a] ++ (lines b.vs).drop c))] S = .ok (.lst [.int ((if (a : Int) < (c : Int) - 1 then (c : Int) - 1 else (a : Int)) + 1)]) (S ++ [T]) := by
  have g := bp_gv o
  have t := bp_tx o
  obtain ⟨f1, f2, f3, f4, f5, f6, f7⟩ := dup_facts ha hc
  have hk := dup_kil o ha f4
  have hr := lines_ok g t f6
  have hl := lines_ok g t f3
  have e : (lines b.vs).take c ++ [line b.vs a] ++ (lines b.vs).drop c = (isOf a c).map (line b.vs) ++ line b.vs a :: (reOf a c).map (line b.vs) := by
    have := congrArg (List.map (line b.vs)) f1
    rw [List.map_append, List.map_append, List.map_append, List.map_cons] at this
    rw [rows_take, rows_drop]
    exact this
  rw [e]
  refine ⟨fun x hx => ?_, by rw [List.length_append, List.length_cons, List.length_map, List.length_map]; omega, dF b.vs (isOf a c), ?_⟩
  · rcases List.mem_append.mp hx with h | h
    · exact (hl x h).1
    · rcases List.mem_cons.mp h with rfl | h
      · exact hk.1
      · exact (hr x h).1
  · have := refused_x (read_kil (S := S) g t f2 f3 hk hr (by rw [List.length_map]; omega))
    rw [f5] at this
    exact this
theorem ask_miss {b : BP} (o : b.Ok) {a : Nat} (ha : a < 12) (S : Sto) : (∀ x ∈ (lines b.vs).take a ++ (lines b.vs).drop (a + 1), x.length ≤ 913) ∧ ((lines b.vs).take a ++ (lines b.vs).drop (a + 1)).length ≤ 20 ∧ ∃ T, m__law_refused [.str (Txt.join "\n" ((lines b.vs).take a ++ (lines b.vs).drop (a + 1)))] S = .ok (.lst [.int 11]) (S ++ [T]) := by
  have g := bp_gv o
  have t := bp_tx o
  obtain ⟨_, f2, _, _, f5, _, f7, f8, f9⟩ := cut_facts ha
  have h12 : ∀ i ∈ (List.range 12).take a ++ (List.range 12).drop (a + 1), i < 12 := fun i hi => (List.mem_append.mp hi).elim (f2 i) (f5 i)
  have e : (lines b.vs).take a ++ (lines b.vs).drop (a + 1) = ((List.range 12).take a ++ (List.range 12).drop (a + 1)).map (line b.vs) := by rw [rows_take, rows_drop, List.map_append]
  rw [e]
  refine ⟨fun x hx => (lines_ok g t h12 x hx).1, by rw [List.length_map, f8]; decide, dF b.vs ((List.range 12).take a ++ (List.range 12).drop (a + 1)), ?_⟩
  have := refused_x (read_miss (S := S) g t (is := (List.range 12).take a ++ (List.range 12).drop (a + 1)) (fun z => by rw [z] at f8; cases f8) f7 h12 ha f9 (by rw [f8]; decide))
  rw [f8] at this
  exact this
theorem N_snoc : ∀ {ws : WS} (w : PySem.Str), ws ≠ [] → Txt.join "\n" (ws ++ [w]) = Txt.join "\n" ws ++ "\n" ++ w
  | [], _, h => absurd rfl h
  | [x], w, _ => by show Txt.join "\n" [x, w] = _; rw [TL.join_eq, TL.join_eq]; rfl
  | x :: y :: r, w, _ => by
    have ih := N_snoc (ws := y :: r) w (List.cons_ne_nil _ _)
    have e : ∀ r : WS, Txt.join "\n" (x :: y :: r) = x ++ "\n" ++ Txt.join "\n" (y :: r) := fun r => by rw [TL.join_eq, TL.join_eq]; rfl
    rw [e, show x :: y :: r ++ [w] = x :: y :: (r ++ [w]) from rfl, e, show y :: (r ++ [w]) = y :: r ++ [w] from rfl, ih]
    apply TL.ext_tl
    simp only [TL.tl_append, List.append_assoc]
theorem ask_end {b : BP} (o : b.Ok) (S : Sto) : ∃ T, m__law_refused [.str (Txt.join "\n" (lines b.vs) ++ ("\n" : PySem.Str))] S = .ok (.lst [.int 12]) (S ++ [T]) := by
  have g := bp_gv o
  have t := bp_tx o
  have e : Txt.join "\n" (lines b.vs) ++ ("\n" : PySem.Str) = Txt.join "\n" ((List.range 12).map (line b.vs) ++ ("" : PySem.Str) :: ([] : WS)) := by
    rw [show (List.range 12).map (line b.vs) ++ ("" : PySem.Str) :: ([] : WS) = lines b.vs ++ ([("" : PySem.Str)] : WS) from rfl, N_snoc _ (by unfold lines; intro z; have := congrArg List.length z; simp at this), app_nil]
  rw [e]
  exact ⟨_, refused_x (read_kil (S := S) g t (is := List.range 12) List.nodup_range (fun i hi => List.mem_range.mp hi) (nil_kil _) (rest := []) (fun x hx => by cases hx) (by decide))⟩
theorem ask_nil {b : BP} (o : b.Ok) (S : Sto) : ∃ T, m__law_refused [.str ""] S = .ok (.lst [.int 0]) (S ++ [T]) :=
  ⟨_, refused_x (read_kil (S := S) (bp_gv o) (bp_tx o) (is := []) List.nodup_nil (fun i hi => by cases hi) (nil_kil _) (rest := []) (fun x hx => by cases hx) (by decide))⟩
theorem ask_all {b : BP} (o : b.Ok) (S : Sto) : ∃ T, m__law_refused [.str (Txt.join "\n" (lines b.vs))] S = .ok (.lst []) (S ++ T) :=
  ⟨_, refused_n (read_book_e (S := S) (bp_gv o) (bp_tx o) (is := List.range 12) (.refl _))⟩
def OddD (ls : WS) (d : D) : Prop := d = .non ∨ d = .int 1 ∨ d = .bl true ∨ d = .lst (LS ls) ∨ d = .tup [.str "a"] ∨ d = .dic [] []
theorem ask_odd {ls : WS} {d : D} (h : OddD ls d) (S : Sto) : m__law_refused [d] S = .ok (.lst [.non]) S := by
  refine refused_x ?_
  rcases h with rfl | rfl | rfl | rfl | rfl | rfl <;> rfl

section
variable {δ : MR.Env} {S : Sto} {ma mb mc mo me : ME} {ml : MA} {mt mu : MT} {d e x y z : D} {ds es as : List D}
theorem e_c : mC d δ S = .ok d S := rfl
theorem e_v {i : Nat} (h : δ[i]? = some (.val d)) : mVar i δ S = .ok d S := rn_eq (g_var h ⟨rfl, rfl⟩)
end

theorem s_parB {ml : MA} {i j : Nat} {δ : MR.Env} {S : Sto} {P : EndP} {d e : D} (h : ml δ S = .ok [d, e] S) (q : P.nx ((δ.set i (.val d)).set j (.val e)) S) : RunS (mPar i j ml δ S) P := by
  unfold mPar
  rw [h]
  exact q
theorem plus_e {ma mb : ME} {δ : MR.Env} {S : Sto} {x y : PySem.Str} (h1 : ma δ S = .ok (.str x) S) (h2 : mb δ S = .ok (.str y) S) (hl : x.length + y.length ≤ 16777216) : mOp opPlus ma mb δ S = .ok (.str (x ++ y)) S := rn_eq <| g_op <| run_eq h1 <| run_eq h2 <| g_plusS hl ⟨rfl, rfl⟩
theorem repl_e {mo : ME} {δ : MR.Env} {S : Sto} {x y z : PySem.Str} (h1 : mo δ S = .ok (.str x) S) (hx : x.length ≤ 913) (hz : z.length ≤ 4) : mRepl mo y z δ S = .ok (.str (Txt.replace x y z)) S := by
  unfold mRepl
  rw [h1]
  show (if x.length + (x.length + 1) * z.length ≤ 16777216 then Out.ok (D.str (Txt.replace x y z)) S else .bad) = _
  have : (x.length + 1) * z.length ≤ 914 * 4 := Nat.mul_le_mul (by omega) hz
  rw [if_pos (by omega)]
theorem upper_e {mo : ME} {δ : MR.Env} {S : Sto} {x : PySem.Str} (h1 : mo δ S = .ok (.str x) S) (hx : x.length ≤ 913) : mUpper mo δ S = .ok (.str (Txt.upper x)) S := by
  unfold mUpper
  rw [h1]
  show (if x.length ≤ 5592405 then Out.ok (D.str (Txt.upper x)) S else .bad) = _
  rw [if_pos (by omega)]
theorem body_run {b : BP} (o : b.Ok) {S : Sto} {p : Nat} {ns : List Int} {v1 v4 v5 v6 v7 v8 v9 v10 : MR.Slot} {P : EndP} (hp : PlS S p) (q : ∀ v4 v5 v6 v7 v8 v9 v10 S', P.nx [.val (.scr ns), v1, .val (.ref p), .val (.lst (LS (lines b.vs))), v4, v5, v6, v7, v8, v9, v10] S') :
    RunS ((mSeq (mAsg (mCall 2 m__law_take (mCons (mVar 2) (mCons (mC (.int 12)) mNil))) (mGName 4))
    (mSeq (mPar 5 6 (mCons (mOp opIx (mVar 3) (mVar 4)) (mCons (mOp opIx (mCall 0 m__law_names mNil) (mVar 4)) mNil)))
    (mSeq (mAsg (mLst (mCons (mOp opPlus (mVar 5) (mC (.str " "))) (mCons (mOp opPlus (mC (.str " ")) (mVar 5)) (mCons (mRepl (mVar 5) " = " "=") (mCons (mRepl (mVar 5) " = " " =  ") mNil))))) (mGName 7))
    (mSeq (mAsg (mOp opPlus (mVar 7) (mLst (mCons (mUpper (mVar 5)) mNil))) (mGName 7))
    (mSeq (mAsg (mOp opPlus (mVar 7) (mLst (mCons (mVar 6) (mCons (mOp opPlus (mVar 6) (mC (.str " = "))) (mCons (mOp opPlus (mVar 6) (mC (.str " = maybe"))) (mCons (mC (.str "part = yes")) (mCons (mC (.str "")) (mCons (mOp opPlus (mVar 6) (mC (.str " = True"))) mNil)))))))) (mGName 7))
    (mSeq (mAsg (mOp opPlus (mVar 7) (mLst (mCons (mOp opPlus (mVar 5) (mC (.str "	"))) mNil))) (mGName 7))
    (mSeq (mFor (mIList (mVar 7)) (mGName 8) (mIfS (mTest (mOp (opEq true) (mCall 1 m__law_refused (mCons (mM1 opJoin (mC (.str "\n")) (mOp opPlus (mOp opPlus (mSl slL (mVar 3) mNoPart (mPart (mVar 4))) (mLst (mCons (mVar 8) mNil))) (mSl slL (mVar 3) (mPart (mOp opPlus (mVar 4) (mC (.int 1)))) mNoPart))) mNil)) (mLst (mCons (mVar 4) mNil)))) (mRet (mC (.bl false))) mNext))
    (mSeq (mAsg (mCall 2 m__law_take (mCons (mVar 2) (mCons (mC (.int 12)) mNil))) (mGName 9))
    (mSeq (mIfS (mTest (mOp (opEq true) (mCall 1 m__law_refused (mCons (mM1 opJoin (mC (.str "\n")) (mOp opPlus (mOp opPlus (mSl slL (mVar 3) mNoPart (mPart (mVar 9))) (mLst (mCons (mVar 5) mNil))) (mSl slL (mVar 3) (mPart (mVar 9)) mNoPart))) mNil)) (mLst (mCons (mOp opPlus (mCB fMx2 (mCons (mCB fInt (mCons (mVar 4) mNil)) (mCons (mOp opMinus (mCB fInt (mCons (mVar 9) mNil)) (mC (.int 1))) mNil))) (mC (.int 1))) mNil)))) (mRet (mC (.bl false))) mNext)
    (mSeq (mIfS (mOr (mTest (mOp (opEq true) (mCall 1 m__law_refused (mCons (mM1 opJoin (mC (.str "\n")) (mOp opPlus (mSl slL (mVar 3) mNoPart (mPart (mVar 4))) (mSl slL (mVar 3) (mPart (mOp opPlus (mVar 4) (mC (.int 1)))) mNoPart))) mNil)) (mLst (mCons (mC (.int 11)) mNil)))) (mTest (mOp (opEq true) (mCall 1 m__law_refused (mCons (mOp opPlus (mM1 opJoin (mC (.str "\n")) (mVar 3)) (mC (.str "\n"))) mNil)) (mLst (mCons (mC (.int 12)) mNil))))) (mRet (mC (.bl false))) mNext)
    (mSeq (mFor (mIList (mLst (mCons (mC .non) (mCons (mC (.int 1)) (mCons (mC (.bl true)) (mCons (mVar 3) (mCons (mTup (mCons (mC (.str "a")) mNil)) (mCons mDNew mNil)))))))) (mGName 10) (mIfS (mTest (mOp (opEq true) (mCall 1 m__law_refused (mCons (mVar 10) mNil)) (mLst (mCons (mC .non) mNil)))) (mRet (mC (.bl false))) mNext))
    (mIfS (mOr (mTest (mOp (opEq true) (mCall 1 m__law_refused (mCons (mC (.str "")) mNil)) (mLst (mCons (mC (.int 0)) mNil)))) (mTest (mOp (opEq true) (mCall 1 m__law_refused (mCons (mM1 opJoin (mC (.str "\n")) (mVar 3)) mNil)) (mLst mNil)))) (mRet (mC (.bl false))) mNext)))))))))))) [.val (.scr ns), v1, .val (.ref p), .val (.lst (LS (lines b.vs))), v4, v5, v6, v7, v8, v9, v10] S) P := by
  have g := bp_gv o
  refine s_seq <| s_asgN <| g_call <| g_cons <| g_var rfl <| g_cons <| g_c <| g_nil <| take_run hp (by decide) (by decide) fun r S1 h0 h1 hp1 _ => ?_
  obtain ⟨a, rfl⟩ := Int.eq_ofNat_of_zero_le h0
  have ha : a < 12 := by omega
  dsimp only [List.set]
  have hrl : (lines b.vs).length = 12 := by unfold lines; rw [List.length_map, List.length_range]
  have e5 : ∀ {δ : MR.Env} {S : Sto}, δ[3]? = some (.val (.lst (LS (lines b.vs)))) → δ[4]? = some (.val (.int (a : Int))) → mOp opIx (mVar 3) (mVar 4) δ S = .ok (.str (line b.vs a)) S := fun h3 h4 => rn_eq <| g_op <| g_var h3 <| g_var h4 <| run_eq (ixl (by
    rw [List.getElem?_map]; unfold lines; rw [List.getElem?_map, List.getElem?_range ha]; rfl)) ⟨rfl, rfl⟩
  have e6 : ∀ {δ : MR.Env} {S : Sto}, δ[4]? = some (.val (.int (a : Int))) → mOp opIx (mCall 0 m__law_names mNil) (mVar 4) δ S = .ok (.str (pnm a)) S := fun h4 => rn_eq <| g_op <| g_call <| g_nil <| run_eq (a := .lst (LS pns)) rfl <| g_var h4 <| run_eq (ixl (by
    rw [pns_range, List.getElem?_map, List.getElem?_range ha]; rfl)) ⟨rfl, rfl⟩
  refine s_seq <| s_parB (d := .str (line b.vs a)) (e := .str (pnm a)) (rn_eq <| g_cons <| run_eq (e5 rfl rfl) <| g_cons <| run_eq (e6 rfl) <| g_nil ⟨rfl, rfl⟩) ?_
  dsimp only [List.set]
  have hll := line_len (gvs_ok g) ha
  have hnl := pnm_len ha
  have hb := fun {s : PySem.Str} (h : s ∈ bendsL (line b.vs a) (pnm a)) => ask_bend o ha h
  have hd := fun {c : Nat} (h : c < 12) => ask_dup o ha h
  have hm := ask_miss o ha
  have he := ask_end o
  have hn := ask_nil o
  have hal := ask_all o
  have hjl : ∀ x ∈ lines b.vs, x.length ≤ 913 := fun x hx => by
    obtain ⟨i, hi, rfl⟩ := List.mem_map.mp hx
    exact line_len (gvs_ok g) (List.mem_range.mp hi)
  generalize line b.vs a = L at hll hb hd
  generalize pnm a = N at hnl hb
  generalize lines b.vs = R at hrl hb hd hm he hal hjl q
  obtain ⟨k1, k2, k3⟩ := len1
  refine s_seq <| s_asgN <| run_eq (a := .lst (LS [L ++ (" " : PySem.Str), (" " : PySem.Str) ++ L, Txt.replace L " = " "=", Txt.replace L " = " " =  "])) (rn_eq <| g_lst <| g_cons <| run_eq (plus_e (e_v rfl) e_c (by omega)) <| g_cons <| run_eq (plus_e e_c (e_v rfl) (by omega)) <| g_cons <| run_eq (repl_e (e_v rfl) hll (by omega)) <| g_cons <| run_eq (repl_e (e_v rfl) hll (by decide +kernel)) <| g_nil ⟨rfl, rfl⟩) ?_
  dsimp only [List.set]
  refine s_seq <| s_asgN <| run_eq (cat_e (xs := [L ++ (" " : PySem.Str), (" " : PySem.Str) ++ L, Txt.replace L " = " "=", Txt.replace L " = " " =  "]) (e_v rfl) (one_e (upper_e (e_v rfl) hll)) (Nat.le_of_ble_eq_true rfl)) ?_
  dsimp only [List.set]
  refine s_seq <| s_asgN <| run_eq (cat_e (xs := [L ++ (" " : PySem.Str), (" " : PySem.Str) ++ L, Txt.replace L " = " "=", Txt.replace L " = " " =  "] ++ [Txt.upper L]) (ys := [N, N ++ (" = " : PySem.Str), N ++ (" = maybe" : PySem.Str), "part = yes", "", N ++ (" = True" : PySem.Str)]) (e_v rfl) (rn_eq <| g_lst <| g_cons <| g_var rfl <| g_cons <| run_eq (plus_e (e_v rfl) e_c (by rw [sg_len]; omega)) <| g_cons <| run_eq (plus_e (e_v rfl) e_c (by rw [show (" = maybe" : PySem.Str).length = 8 by decide +kernel]; omega)) <| g_cons <| g_c <| g_cons <| g_c <| g_cons <| run_eq (plus_e (e_v rfl) e_c (by rw [show (" = True" : PySem.Str).length = 7 by decide +kernel]; omega)) <| g_nil ⟨rfl, rfl⟩) (Nat.le_of_ble_eq_true rfl)) ?_
  dsimp only [List.set]
  refine s_seq <| s_asgN <| run_eq (cat_e (xs := [L ++ (" " : PySem.Str), (" " : PySem.Str) ++ L, Txt.replace L " = " "=", Txt.replace L " = " " =  "] ++ [Txt.upper L] ++ [N, N ++ (" = " : PySem.Str), N ++ (" = maybe" : PySem.Str), "part = yes", "", N ++ (" = True" : PySem.Str)]) (e_v rfl) (one_e (plus_e (e_v rfl) e_c (by omega))) (Nat.le_of_ble_eq_true rfl)) ?_
  dsimp only [List.set]
  rw [show ([L ++ (" " : PySem.Str), (" " : PySem.Str) ++ L, Txt.replace L " = " "=", Txt.replace L " = " " =  "] ++ [Txt.upper L] ++ [N, N ++ (" = " : PySem.Str), N ++ (" = maybe" : PySem.Str), "part = yes", "", N ++ (" = True" : PySem.Str)] ++ [L ++ ("\t" : PySem.Str)] : WS) = bendsL L N from rfl]
  generalize bendsL L N = B at hb
  refine s_seq <| s_for <| g_iList <| g_var rfl ⟨_, .inl rfl, ?_⟩
  refine s_loop (fun ds δ S' => (∀ d ∈ ds, ∃ s, s ∈ B ∧ d = .str s) ∧ PlS S' p ∧ ∃ v8, δ = [.val (.scr ns), v1, .val (.ref p), .val (.lst (LS R)), .val (.int (a : Int)), .val (.str L), .val (.str N), .val (.lst (LS B)), v8, v9, v10]) ?_ ?_ _ _ _ ⟨fun d hd => (by obtain ⟨s, hs, rfl⟩ := List.mem_map.mp hd; exact ⟨s, hs, rfl⟩), hp1, _, rfl⟩
  · rintro d ds δ S2 ⟨hds, hp2, v8, rfl⟩
    obtain ⟨s, hs, rfl⟩ := hds _ List.mem_cons_self
    refine ⟨_, rfl, ?_⟩
    dsimp only [List.set]
    obtain ⟨j1, j2, T, j3⟩ := hb hs S2
    refine if_ff (same_c (ask_e (join_at (cat_e (cat_e (tk_e (e_v rfl) (e_v rfl)) (one_e (e_v rfl)) ?_) (dr_e (e_v rfl) (nx_e (e_v rfl))) ?_) j1 j2) j3) (e_v rfl) rfl) ⟨fun x hx => hds x (List.mem_cons_of_mem _ hx), hp2.app, _, rfl⟩
    · rw [List.length_take]; show _ + 1 ≤ 100; omega
    · rw [List.length_append, List.length_take, List.length_drop]; show _ + 1 + _ ≤ 100; omega
  rintro δ S2 ⟨_, hp2, v8', rfl⟩
  dsimp only
  refine s_seq <| s_asgN <| g_call <| g_cons <| g_var rfl <| g_cons <| g_c <| g_nil <| take_run hp2 (by decide) (by decide) fun r S3 h2 h3 hp3 _ => ?_
  obtain ⟨c, rfl⟩ := Int.eq_ofNat_of_zero_le h2
  have hc : c < 12 := by omega
  dsimp only [List.set]
  obtain ⟨j1, j2, T3, j3⟩ := hd hc S3
  refine s_seq <| if_ff (same_c (ask_e (join_at (cat_e (cat_e (tk_e (e_v rfl) (e_v rfl)) (one_e (e_v rfl)) ?_) (dr_e (e_v rfl) (e_v rfl)) ?_) j1 j2) j3) ?_ rfl) ?_
  · rw [List.length_take]; show _ + 1 ≤ 100; omega
  · rw [List.length_append, List.length_take, List.length_drop]; show _ + 1 + _ ≤ 100; omega
  · refine rn_eq <| g_op <| g_cb <| g_cons <| g_cb <| g_cons <| g_var rfl <| g_nil <| run_eq (a := .int (a : Int)) rfl <| g_cons <| g_op <| g_cb <| g_cons <| g_var rfl <| g_nil <| run_eq (a := .int (c : Int)) rfl <| g_c <| g_minus <| g_nil ?_
    refine run_eq (a := .int (if (a : Int) < (c : Int) - 1 then (c : Int) - 1 else (a : Int))) rfl <| g_c <| g_plusI ⟨rfl, rfl⟩
  dsimp only
  obtain ⟨j1, j2, T4, j3⟩ := hm (S3 ++ [T3])
  obtain ⟨T5, j4⟩ := he (S3 ++ [T3] ++ [T4])
  refine s_seq <| if_ff (or_ff (same_c (ask_e (join_at (cat_e (tk_e (e_v rfl) (e_v rfl)) (dr_e (e_v rfl) (nx_e (e_v rfl))) ?_) j1 j2) j3) e_c rfl) (same_c (ask_e (plus_e (join_at (e_v rfl) hjl (by omega)) e_c ?_) j4) e_c rfl)) ?_
  · rw [List.length_take, List.length_drop]; omega
  · have h1 := N_len R
    have h2 := sum_le hjl
    rw [show ("\n" : PySem.Str).length = 1 by decide +kernel]
    omega
  dsimp only
  refine s_seq <| s_for <| g_iList <| run_eq (a := .lst [.non, .int 1, .bl true, .lst (LS R), .tup [.str "a"], .dic [] []]) rfl ⟨_, .inl rfl, ?_⟩
  refine s_loop (fun ds δ S' => (∀ d ∈ ds, OddD R d) ∧ ∃ v10, δ = [.val (.scr ns), v1, .val (.ref p), .val (.lst (LS R)), .val (.int (a : Int)), .val (.str L), .val (.str N), .val (.lst (LS B)), v8', .val (.int (c : Int)), v10]) ?_ ?_ _ _ _ ⟨fun d hd => (by
    simp only [List.mem_cons, List.not_mem_nil, or_false] at hd
    exact hd), _, rfl⟩
  · rintro d ds δ S6 ⟨hds, v10', rfl⟩
    refine ⟨_, rfl, ?_⟩
    dsimp only [List.set]
    exact if_ff (same_c (ask_e (e_v rfl) (ask_odd (hds d List.mem_cons_self) S6)) e_c rfl) ⟨fun x hx => hds x (List.mem_cons_of_mem _ hx), _, rfl⟩
  rintro δ S6 ⟨_, v10', rfl⟩
  dsimp only
  obtain ⟨T7, j5⟩ := hn S6
  obtain ⟨T8, j6⟩ := hal (S6 ++ [T7])
  exact if_ff (or_ff (same_c (ask_e e_c j5) e_c rfl) (same_c0 (ask_e (join_at (e_v rfl) hjl (by omega)) j6))) (q _ _ _ _ _ _ _ _)
theorem law_ok (ns : List Int) : ∃ S, m_law [.scr ns] [] = .ok (.bl true) S := by
  have h : Rn (m_law [.scr ns] []) (fun d _ => d = .bl true) noXQ := by
    refine s_run ?_
    unfold ms_law
    have hm : (LI ns).length = ns.length := List.length_map ..
    refine s_seq <| s_for <| g_rng1 <| g_cons <| g_cb <| g_cons <| g_c <| g_cons <| g_cb <| g_cons <| g_c <| g_cons <| g_cb <| g_cons <| g_var rfl <| g_nil <| g_len (ds := LI ns) rfl (fun b z => nomatch z) rfl <| g_nil ?_
    refine run_eq (a := .int (if ((LI ns).length : Int) < 8 then ((LI ns).length : Int) else 8)) rfl <| g_nil ?_
    obtain ⟨N, hN⟩ : ∃ N : Int, N = (if ((LI ns).length : Int) < 8 then ((LI ns).length : Int) else 8) := ⟨_, rfl⟩
    have hN2 : N ≤ 8 := by rw [hN]; split <;> omega
    rw [← hN]
    refine run_eq (a := .int (if N > 1 then N else 1)) rfl <| g_nil ⟨_, rfl, by split <;> omega, by split <;> omega, ?_⟩
    have hT : (if N > 1 then N else 1).toNat ≤ 8 := by split <;> omega
    generalize (if N > 1 then N else 1).toNat = T at hT
    refine s_loopR (fun k δ S' => ∃ v1 v2 v3 v4 v5 v6 v7 v8 v9 v10, δ = [.val (.scr ns), v1, v2, v3, v4, v5, v6, v7, v8, v9, v10]) ⟨_, _, _, _, _, _, _, _, _, _, rfl⟩ ?_ ?_
    · rintro k hk δ S ⟨v1, v2, v3, v4, v5, v6, v7, v8, v9, v10, rfl⟩
      refine ⟨_, rfl, ?_⟩
      rw [Int.zero_add]
      dsimp only [List.set]
      refine s_seq <| s_asgN <| g_call <| g_cons <| g_var rfl <| g_cons <| g_var rfl <| g_nil ?_
      refine pool_run (by omega) (by omega) fun S1 hp1 _ => ?_
      refine s_seq <| s_asgN <| g_call <| g_cons <| g_call <| g_cons <| g_var rfl <| g_nil <| qparts_run hp1 fun b S2 ob hp2 n2 => g_nil <| run_eq (law_lines_e (bp_gv ob) _) ?_
      dsimp only [List.set]
      refine body_run ob hp2 ?_
      intro v4 v5 v6 v7 v8 v9 v10 S'
      exact ⟨_, _, _, _, _, _, _, _, _, _, rfl⟩
    · rintro δ S _
      with_reducible refine s_ret ?_
      exact g_c rfl
  obtain ⟨d, S, e, rfl⟩ := run_ok h
  exact ⟨S, e⟩

end
end Law
namespace Law
open PySem PySem.Spec PyProof.Rows L2 TP MR
section
variable {P : Program} {w : World} {K : PySem.W.Frag} {mg : Str → Option Value} {base : Heap}
def sp_law (K : PySem.W.Frag) : Sp := fun vs H Q _ => ∃ (a : Addr) (ns : List Int), vs = [.ref a] ∧ SqL K H a (ns.map V.int) ∧ ns.length ≤ 63 ∧ ∀ H', Q (.bl true) H'
theorem all_mk {l : PySem.W.OpenLaw} {w : World} {K : PySem.W.Frag} {h : Heap} {mg : Str → Option Value} {fa : Addr} (X : K.In h) (G : h.Ns mainGlobals mg) (hfa : mg "law" = some (.ref fa))
    {a_WRITER_WORDS : Addr}
    {a_CLEANER_WORDS : Addr}
    {a_READER_WORDS : Addr}
    {a_PARTS : Addr}
    {a_Book : Addr}
    {a_BadText : Addr}
    {a_BadBook : Addr}
    {a_UnknownPart : Addr}
    {a_PagesError : Addr}
    {a_CHOICES : Addr}
    {a_CHOICES_0 : Addr}
    {a_CHOICES_1 : Addr}
    {t_SIGN : Tok}
    {od_WRITER_WORDS : Option Addr} {nn_WRITER_WORDS : Nat} {sl_WRITER_WORDS : Array (Option Value)} {t0_WRITER_WORDS t1_WRITER_WORDS t2_WRITER_WORDS t3_WRITER_WORDS t4_WRITER_WORDS t5_WRITER_WORDS : Tok}
    {od_CLEANER_WORDS : Option Addr} {nn_CLEANER_WORDS : Nat} {sl_CLEANER_WORDS : Array (Option Value)} {t0_CLEANER_WORDS t1_CLEANER_WORDS t2_CLEANER_WORDS t3_CLEANER_WORDS t4_CLEANER_WORDS t5_CLEANER_WORDS : Tok}
    {od_READER_WORDS : Option Addr} {nn_READER_WORDS : Nat} {sl_READER_WORDS : Array (Option Value)} {t0_READER_WORDS t1_READER_WORDS t2_READER_WORDS t3_READER_WORDS t4_READER_WORDS t5_READER_WORDS : Tok}
    {od_PARTS : Option Addr} {nn_PARTS : Nat} {sl_PARTS : Array (Option Value)} {t0_PARTS t1_PARTS t2_PARTS t3_PARTS t4_PARTS t5_PARTS t6_PARTS t7_PARTS t8_PARTS t9_PARTS t10_PARTS t11_PARTS : Tok}
    {dh0_CHOICES dh1_CHOICES : Int} {dt0_CHOICES dt1_CHOICES : Tok} {ep_CHOICES : Nat}
    {od_CHOICES_0 : Option Addr} {nn_CHOICES_0 : Nat} {sl_CHOICES_0 : Array (Option Value)} {t0_CHOICES_0 t1_CHOICES_0 : Tok}
    {od_CHOICES_1 : Option Addr} {nn_CHOICES_1 : Nat} {sl_CHOICES_1 : Array (Option Value)} {t0_CHOICES_1 t1_CHOICES_1 t2_CHOICES_1 : Tok}
    {nm_BadText q_BadText : Str} {N_BadText : Addr} {bs_BadText bm_BadText : List Value} {sn_BadText : List Str} {sub_BadText : List Value} {ab_BadText : Bool} {col_BadText : Option Bool} {dd_BadText : Option Addr} {k0_BadText k1_BadText k2_BadText k3_BadText k5_BadText : Option Value}
    {fi_BadText : Addr}
    {oc_BadText kV_BadText dc_BadText pm_BadText ct_BadText : Value} {od_BadText an_BadText : Option Addr} {cda_BadText cc_BadText : Addr} {sl_BadText : Array (Option Value)} {ccl_BadText : Value} {cdd_BadText : Option Addr} {vs_BadText : Array Value} {ccs_BadText : Array (Option Value)} {file_BadText : Str} {tf_BadText : Tok} {cl_BadText : Value} {cld_BadText : Option Addr} {csl_BadText : Array (Option Value)}
    {nm_BadBook q_BadBook : Str} {N_BadBook : Addr} {bs_BadBook bm_BadBook : List Value} {sn_BadBook : List Str} {sub_BadBook : List Value} {ab_BadBook : Bool} {col_BadBook : Option Bool} {dd_BadBook : Option Addr} {k0_BadBook k1_BadBook k2_BadBook k3_BadBook k5_BadBook : Option Value}
    {fi_BadBook : Addr}
    {oc_BadBook kV_BadBook dc_BadBook pm_BadBook ct_BadBook : Value} {od_BadBook an_BadBook : Option Addr} {cda_BadBook cc_BadBook : Addr} {sl_BadBook : Array (Option Value)} {ccl_BadBook : Value} {cdd_BadBook : Option Addr} {vs_BadBook : Array Value} {ccs_BadBook : Array (Option Value)} {file_BadBook : Str} {tf_BadBook : Tok} {cl_BadBook : Value} {cld_BadBook : Option Addr} {csl_BadBook : Array (Option Value)}
    {nm_UnknownPart q_UnknownPart : Str} {N_UnknownPart : Addr} {bs_UnknownPart bm_UnknownPart : List Value} {sn_UnknownPart : List Str} {sub_UnknownPart : List Value} {ab_UnknownPart : Bool} {col_UnknownPart : Option Bool} {dd_UnknownPart : Option Addr} {k0_UnknownPart k1_UnknownPart k2_UnknownPart k3_UnknownPart k5_UnknownPart : Option Value}
    {fi_UnknownPart : Addr}
    {oc_UnknownPart kV_UnknownPart dc_UnknownPart pm_UnknownPart ct_UnknownPart : Value} {od_UnknownPart an_UnknownPart : Option Addr} {cda_UnknownPart cc_UnknownPart : Addr} {sl_UnknownPart : Array (Option Value)} {ccl_UnknownPart : Value} {cdd_UnknownPart : Option Addr} {vs_UnknownPart : Array Value} {ccs_UnknownPart : Array (Option Value)} {file_UnknownPart : Str} {tf_UnknownPart : Tok} {cl_UnknownPart : Value} {cld_UnknownPart : Option Addr} {csl_UnknownPart : Array (Option Value)}
    {f_words_of : Addr} {od_words_of an_words_of : Option Addr} {sl_words_of : Array (Option Value)} {oc_words_of kV_words_of dc_words_of pm_words_of cd_words_of ct_words_of : Value}
    {f_all_there : Addr} {od_all_there an_all_there : Option Addr} {sl_all_there : Array (Option Value)} {oc_all_there kV_all_there dc_all_there pm_all_there cd_all_there ct_all_there : Value}
    {f_is_ahead : Addr} {od_is_ahead an_is_ahead : Option Addr} {sl_is_ahead : Array (Option Value)} {oc_is_ahead kV_is_ahead dc_is_ahead pm_is_ahead cd_is_ahead ct_is_ahead : Value}
    {f_is_locked_well : Addr} {od_is_locked_well an_is_locked_well : Option Addr} {sl_is_locked_well : Array (Option Value)} {oc_is_locked_well kV_is_locked_well dc_is_locked_well pm_is_locked_well cd_is_locked_well ct_is_locked_well : Value}
    {f_is_writer : Addr} {od_is_writer an_is_writer : Option Addr} {sl_is_writer : Array (Option Value)} {oc_is_writer kV_is_writer dc_is_writer pm_is_writer cd_is_writer ct_is_writer : Value}
    {f_is_cleaner : Addr} {od_is_cleaner an_is_cleaner : Option Addr} {sl_is_cleaner : Array (Option Value)} {oc_is_cleaner kV_is_cleaner dc_is_cleaner pm_is_cleaner cd_is_cleaner ct_is_cleaner : Value}
    {f_is_reader : Addr} {od_is_reader an_is_reader : Option Addr} {sl_is_reader : Array (Option Value)} {oc_is_reader kV_is_reader dc_is_reader pm_is_reader cd_is_reader ct_is_reader : Value}
    {f_is_part : Addr} {od_is_part an_is_part : Option Addr} {sl_is_part : Array (Option Value)} {oc_is_part kV_is_part dc_is_part pm_is_part cd_is_part ct_is_part : Value}
    {f_is_allowed : Addr} {od_is_allowed an_is_allowed : Option Addr} {sl_is_allowed : Array (Option Value)} {oc_is_allowed kV_is_allowed dc_is_allowed pm_is_allowed cd_is_allowed ct_is_allowed : Value}
    {f_BookU_initU : Addr} {od_BookU_initU an_BookU_initU : Option Addr} {sl_BookU_initU : Array (Option Value)} {oc_BookU_initU dc_BookU_initU pm_BookU_initU cd_BookU_initU ct_BookU_initU : Value}
    {kD_BookU_initU : Addr}
    {tk_BookU_initU_horizon : Tok}
    {tk_BookU_initU_follower : Tok}
    {f_value_of : Addr} {od_value_of an_value_of : Option Addr} {sl_value_of : Array (Option Value)} {oc_value_of kV_value_of dc_value_of pm_value_of cd_value_of ct_value_of : Value}
    {f_read_book : Addr} {od_read_book an_read_book : Option Addr} {sl_read_book : Array (Option Value)} {oc_read_book kV_read_book dc_read_book pm_read_book cd_read_book ct_read_book : Value}
    {f__law_pool : Addr} {od__law_pool an__law_pool : Option Addr} {sl__law_pool : Array (Option Value)} {oc__law_pool kV__law_pool dc__law_pool pm__law_pool cd__law_pool ct__law_pool : Value}
    {f__law_take : Addr} {od__law_take an__law_take : Option Addr} {sl__law_take : Array (Option Value)} {oc__law_take kV__law_take dc__law_take pm__law_take cd__law_take ct__law_take : Value}
    {f__law_locked : Addr} {od__law_locked an__law_locked : Option Addr} {sl__law_locked : Array (Option Value)} {oc__law_locked kV__law_locked dc__law_locked pm__law_locked cd__law_locked ct__law_locked : Value}
    {f__law_writing : Addr} {od__law_writing an__law_writing : Option Addr} {sl__law_writing : Array (Option Value)} {oc__law_writing kV__law_writing dc__law_writing pm__law_writing cd__law_writing ct__law_writing : Value}
    {f__law_cleaning : Addr} {od__law_cleaning an__law_cleaning : Option Addr} {sl__law_cleaning : Array (Option Value)} {oc__law_cleaning kV__law_cleaning dc__law_cleaning pm__law_cleaning cd__law_cleaning ct__law_cleaning : Value}
    {f__law_reading : Addr} {od__law_reading an__law_reading : Option Addr} {sl__law_reading : Array (Option Value)} {oc__law_reading kV__law_reading dc__law_reading pm__law_reading cd__law_reading ct__law_reading : Value}
    {f__law_parts : Addr} {od__law_parts an__law_parts : Option Addr} {sl__law_parts : Array (Option Value)} {oc__law_parts kV__law_parts dc__law_parts pm__law_parts cd__law_parts ct__law_parts : Value}
    {f__law_names : Addr} {od__law_names an__law_names : Option Addr} {sl__law_names : Array (Option Value)} {oc__law_names kV__law_names dc__law_names pm__law_names cd__law_names ct__law_names : Value}
    {f__law_lines : Addr} {od__law_lines an__law_lines : Option Addr} {sl__law_lines : Array (Option Value)} {oc__law_lines kV__law_lines dc__law_lines pm__law_lines cd__law_lines ct__law_lines : Value}
    {f__law_refused : Addr} {od__law_refused an__law_refused : Option Addr} {sl__law_refused : Array (Option Value)} {oc__law_refused kV__law_refused dc__law_refused pm__law_refused cd__law_refused ct__law_refused : Value}
    {f_law : Addr} {od_law an_law : Option Addr} {sl_law : Array (Option Value)} {oc_law kV_law dc_law pm_law cd_law ct_law : Value}
    (x_Book : PySem.W.nsIn K mainGlobals "Book" = some (some (.ref a_Book)))
    (x_BadText : PySem.W.nsIn K mainGlobals "BadText" = some (some (.ref a_BadText)))
    (x_BadBook : PySem.W.nsIn K mainGlobals "BadBook" = some (some (.ref a_BadBook)))
    (x_UnknownPart : PySem.W.nsIn K mainGlobals "UnknownPart" = some (some (.ref a_UnknownPart)))
    (x_PagesError : PySem.W.nsIn K mainGlobals "PagesError" = some (some (.ref a_PagesError)))
    (x_CHOICES : PySem.W.nsIn K mainGlobals "CHOICES" = some (some (.ref a_CHOICES)))
    (z_len : PySem.W.nsIn K mainGlobals "len" = some none)
    (z_isinstance : PySem.W.nsIn K mainGlobals "isinstance" = some none)
    (z_int : PySem.W.nsIn K mainGlobals "int" = some none)
    (z_bool : PySem.W.nsIn K mainGlobals "bool" = some none)
    (z_range : PySem.W.nsIn K mainGlobals "range" = some none)
    (z_list : PySem.W.nsIn K mainGlobals "list" = some none)
    (z_tuple : PySem.W.nsIn K mainGlobals "tuple" = some none)
    (z_str : PySem.W.nsIn K mainGlobals "str" = some none)
    (z_set : PySem.W.nsIn K mainGlobals "set" = some none)
    (z_all : PySem.W.nsIn K mainGlobals "all" = some none)
    (z_zip : PySem.W.nsIn K mainGlobals "zip" = some none)
    (z_enumerate : PySem.W.nsIn K mainGlobals "enumerate" = some none)
    (z_max : PySem.W.nsIn K mainGlobals "max" = some none)
    (z_min : PySem.W.nsIn K mainGlobals "min" = some none)
    (x_SIGN : PySem.W.nsIn K mainGlobals "SIGN" = some (some (.str " = " t_SIGN)))
    (x_WRITER_WORDS : PySem.W.nsIn K mainGlobals "WRITER_WORDS" = some (some (.ref a_WRITER_WORDS)))
    (y_WRITER_WORDS : K.lookup a_WRITER_WORDS = some ⟨.type "tuple", od_WRITER_WORDS, .seq #[.str "change" t0_WRITER_WORDS, .str "enter" t1_WRITER_WORDS, .str "commit" t2_WRITER_WORDS, .str "clear" t3_WRITER_WORDS, .str "lock" t4_WRITER_WORDS, .str "unlock" t5_WRITER_WORDS] nn_WRITER_WORDS, sl_WRITER_WORDS⟩)
    (x_CLEANER_WORDS : PySem.W.nsIn K mainGlobals "CLEANER_WORDS" = some (some (.ref a_CLEANER_WORDS)))
    (y_CLEANER_WORDS : K.lookup a_CLEANER_WORDS = some ⟨.type "tuple", od_CLEANER_WORDS, .seq #[.str "look" t0_CLEANER_WORDS, .str "set" t1_CLEANER_WORDS, .str "remove" t2_CLEANER_WORDS, .str "again" t3_CLEANER_WORDS, .str "lock" t4_CLEANER_WORDS, .str "unlock" t5_CLEANER_WORDS] nn_CLEANER_WORDS, sl_CLEANER_WORDS⟩)
    (x_READER_WORDS : PySem.W.nsIn K mainGlobals "READER_WORDS" = some (some (.ref a_READER_WORDS)))
    (y_READER_WORDS : K.lookup a_READER_WORDS = some ⟨.type "tuple", od_READER_WORDS, .seq #[.str "entry" t0_READER_WORDS, .str "mark" t1_READER_WORDS, .str "page" t2_READER_WORDS, .str "hold" t3_READER_WORDS, .str "take" t4_READER_WORDS, .str "tell" t5_READER_WORDS] nn_READER_WORDS, sl_READER_WORDS⟩)
    (x_PARTS : PySem.W.nsIn K mainGlobals "PARTS" = some (some (.ref a_PARTS)))
    (y_PARTS : K.lookup a_PARTS = some ⟨.type "tuple", od_PARTS, .seq #[.str "writer" t0_PARTS, .str "cleaner" t1_PARTS, .str "reader" t2_PARTS, .str "horizon" t3_PARTS, .str "pins" t4_PARTS, .str "cleared" t5_PARTS, .str "sets" t6_PARTS, .str "force" t7_PARTS, .str "ahead" t8_PARTS, .str "first" t9_PARTS, .str "waits" t10_PARTS, .str "follower" t11_PARTS] nn_PARTS, sl_PARTS⟩)
    (yd_CHOICES : K.lookup a_CHOICES = some { cls := .type "dict", dict := none, data := .dict #[⟨dh0_CHOICES, .str "horizon" dt0_CHOICES, .ref a_CHOICES_0⟩, ⟨dh1_CHOICES, .str "follower" dt1_CHOICES, .ref a_CHOICES_1⟩] ep_CHOICES, slots := #[] })
    (y_CHOICES_0 : K.lookup a_CHOICES_0 = some ⟨.type "tuple", od_CHOICES_0, .seq #[.str "all" t0_CHOICES_0, .str "none" t1_CHOICES_0] nn_CHOICES_0, sl_CHOICES_0⟩)
    (y_CHOICES_1 : K.lookup a_CHOICES_1 = some ⟨.type "tuple", od_CHOICES_1, .seq #[.str "trust" t0_CHOICES_1, .str "wait" t1_CHOICES_1, .str "look" t2_CHOICES_1] nn_CHOICES_1, sl_CHOICES_1⟩)
    (hh0_CHOICES : dh0_CHOICES = hashStr w "horizon")
    (hh1_CHOICES : dh1_CHOICES = hashStr w "follower")
    (ns_CHOICES : (a_CHOICES == sysModules) = false)
    (gget : PySem.W.specialIn K (.builtin "object.__class__") "__get__" = some (some (.builtin "getset_descriptor.__get__")))
    (gtak : PySem.W.takesIn K (.builtin "object.__class__") = some true)
    (pg_Book : PySem.W.plainGet K a_Book Str.empty = true)
    (hd_Book : PySem.W.hasDictIn K a_Book = true)
    (po_Book : PySem.W.plainOver K a_Book = true)
    (sa_Book : PySem.W.findIn K (.ref a_Book) "__setattr__" = some (some (.builtin "object.__setattr__")))
    (ca_Book : PySem.W.findIn K (.ref a_Book) "__class__" = some (some (.builtin "object.__class__")))
    (cm_Book : PySem.W.mroIn K a_Book (.type "object") = some true)
    (sf_Book : PySem.W.selfFirst K a_Book = true)
    (nq_Book : PySem.W.noSeq K a_Book = true)
    (ne_Book : PySem.W.findIn K (.ref a_Book) "__ne__" = some (some (.builtin "object.__ne__")))
    (mk_Book : PySem.W.makesIn K a_Book = true)
    (kc_Book : PySem.W.keepIn K (.ref a_Book) = true)
    (na_Book_chosen : PySem.W.findIn K (.ref a_Book) "chosen" = some none)
    (kt_Book : (askedK.all fun T => PySem.W.kitOne K (.ref a_Book) (.type T) == some false) = true)
    (tk_Book : (kinds.all fun t => PySem.W.kitOne K (.type t) (.ref a_Book) == some false) = true)
    (nt_Book : (kinds.all fun t => PySem.W.notFirst K a_Book (.type t)) = true)
    (nc_Book_Book : PySem.W.notFirst K a_Book (.ref a_Book) = true)
    (qt_PagesError_BadText : PySem.W.exmOne K (.ref a_BadText) (.ref a_PagesError) = some true)
    (qt_PagesError_BadBook : PySem.W.exmOne K (.ref a_BadBook) (.ref a_PagesError) = some true)
    (qt_PagesError_UnknownPart : PySem.W.exmOne K (.ref a_UnknownPart) (.ref a_PagesError) = some false)
    (qx_BadText_BadText : PySem.W.kitOne K (.ref a_BadText) (.ref a_BadText) = some true)
    (qx_BadText_BadBook : PySem.W.kitOne K (.ref a_BadBook) (.ref a_BadText) = some false)
    (ec_BadText : K.lookup a_BadText = some (excClassObj nm_BadText q_BadText a_BadText N_BadText bs_BadText bm_BadText true sn_BadText sub_BadText ab_BadText col_BadText dd_BadText k0_BadText k1_BadText k2_BadText k3_BadText k5_BadText "ValueError.__new__"))
    (er_BadText : PySem.HandSPX.refsVE bm_BadText = true)
    (es_BadText : PySem.W.findIn K (.ref a_BadText) "__setattr__" = some (some (.builtin "object.__setattr__")))
    (ex_BadText : PySem.W.subIn K (.ref a_BadText) (.type "BaseException") = some true)
    (et_BadText : PySem.W.typeIn K (.ref a_BadText) = some (.type "type"))
    (ek_BadText : PySem.W.keepIn K (.ref a_BadText) = true)
    (eg_BadText : PySem.W.findIn K (.ref a_BadText) "__getattribute__" = some (some (.builtin "BaseException.__getattribute__")))
    (ey_BadText : PySem.W.findIn K (.ref a_BadText) "__getattr__" = some none)
    (eh_BadText : PySem.W.hasDictIn K a_BadText = true)
    (ea_BadText : PySem.W.findIn K (.ref a_BadText) "__class__" = some (some (.builtin "object.__class__")))
    (eo_BadText : PySem.W.mroIn K a_BadText (.type "object") = some true)
    (en_BadText : PySem.W.findIn K (.ref a_BadText) "at" = some none)
    (el_BadText : PySem.W.ks_superIn K a_BadText a_BadText "__init__" = some (some vin))
    (em_BadText : PySem.W.mroIn K a_BadText (.ref a_BadText) = some true)
    (ev_BadText : PySem.W.mroIn K a_BadText (.type "ValueError") = some true)
    (ei_BadText : PySem.W.findIn K (.ref a_BadText) "__init__" = some (some (.ref fi_BadText)))
    (ej_BadText : PySem.W.typeIn K (.ref fi_BadText) = some (.type "function"))
    (il_BadText : K.lookup fi_BadText = some ⟨oc_BadText, od_BadText, .func (PySem.W.ksFn "__init__" "BadText.__init__" (defArgs (inClass (topS 5) 0)) (defBody (inClass (topS 5) 0)) (defScope (inClass (topS 5) 0)) .none kV_BadText dc_BadText pm_BadText an_BadText (.ref cda_BadText) ct_BadText cc_BadText), sl_BadText⟩)
    (ic_BadText : PySem.W.codeIn K (.ref cda_BadText) "BadText.__init__" = true)
    (id_BadText : K.lookup cda_BadText = some ⟨ccl_BadText, cdd_BadText, .fields vs_BadText, ccs_BadText⟩)
    (ie_BadText : vs_BadText[2]? = some (.str file_BadText tf_BadText))
    (if_BadText : ((l.prog.main.file : Str) == file_BadText) = true)
    (ig_BadText : K.lookup cc_BadText = some ⟨cl_BadText, cld_BadText, .cell (some (.ref a_BadText)), csl_BadText⟩)
    (ec_BadBook : K.lookup a_BadBook = some (excClassObj nm_BadBook q_BadBook a_BadBook N_BadBook bs_BadBook bm_BadBook true sn_BadBook sub_BadBook ab_BadBook col_BadBook dd_BadBook k0_BadBook k1_BadBook k2_BadBook k3_BadBook k5_BadBook "ValueError.__new__"))
    (er_BadBook : PySem.HandSPX.refsVE bm_BadBook = true)
    (es_BadBook : PySem.W.findIn K (.ref a_BadBook) "__setattr__" = some (some (.builtin "object.__setattr__")))
    (ex_BadBook : PySem.W.subIn K (.ref a_BadBook) (.type "BaseException") = some true)
    (et_BadBook : PySem.W.typeIn K (.ref a_BadBook) = some (.type "type"))
    (ek_BadBook : PySem.W.keepIn K (.ref a_BadBook) = true)
    (eg_BadBook : PySem.W.findIn K (.ref a_BadBook) "__getattribute__" = some (some (.builtin "BaseException.__getattribute__")))
    (ey_BadBook : PySem.W.findIn K (.ref a_BadBook) "__getattr__" = some none)
    (eh_BadBook : PySem.W.hasDictIn K a_BadBook = true)
    (ea_BadBook : PySem.W.findIn K (.ref a_BadBook) "__class__" = some (some (.builtin "object.__class__")))
    (eo_BadBook : PySem.W.mroIn K a_BadBook (.type "object") = some true)
    (en_BadBook : PySem.W.findIn K (.ref a_BadBook) "part" = some none)
    (el_BadBook : PySem.W.ks_superIn K a_BadBook a_BadBook "__init__" = some (some vin))
    (em_BadBook : PySem.W.mroIn K a_BadBook (.ref a_BadBook) = some true)
    (ev_BadBook : PySem.W.mroIn K a_BadBook (.type "ValueError") = some true)
    (ei_BadBook : PySem.W.findIn K (.ref a_BadBook) "__init__" = some (some (.ref fi_BadBook)))
    (ej_BadBook : PySem.W.typeIn K (.ref fi_BadBook) = some (.type "function"))
    (il_BadBook : K.lookup fi_BadBook = some ⟨oc_BadBook, od_BadBook, .func (PySem.W.ksFn "__init__" "BadBook.__init__" (defArgs (inClass (topS 3) 0)) (defBody (inClass (topS 3) 0)) (defScope (inClass (topS 3) 0)) .none kV_BadBook dc_BadBook pm_BadBook an_BadBook (.ref cda_BadBook) ct_BadBook cc_BadBook), sl_BadBook⟩)
    (ic_BadBook : PySem.W.codeIn K (.ref cda_BadBook) "BadBook.__init__" = true)
    (id_BadBook : K.lookup cda_BadBook = some ⟨ccl_BadBook, cdd_BadBook, .fields vs_BadBook, ccs_BadBook⟩)
    (ie_BadBook : vs_BadBook[2]? = some (.str file_BadBook tf_BadBook))
    (if_BadBook : ((l.prog.main.file : Str) == file_BadBook) = true)
    (ig_BadBook : K.lookup cc_BadBook = some ⟨cl_BadBook, cld_BadBook, .cell (some (.ref a_BadBook)), csl_BadBook⟩)
    (ec_UnknownPart : K.lookup a_UnknownPart = some (excClassObj nm_UnknownPart q_UnknownPart a_UnknownPart N_UnknownPart bs_UnknownPart bm_UnknownPart true sn_UnknownPart sub_UnknownPart ab_UnknownPart col_UnknownPart dd_UnknownPart k0_UnknownPart k1_UnknownPart k2_UnknownPart k3_UnknownPart k5_UnknownPart "LookupError.__new__"))
    (er_UnknownPart : bm_UnknownPart = TP.keTail)
    (es_UnknownPart : PySem.W.findIn K (.ref a_UnknownPart) "__setattr__" = some (some (.builtin "object.__setattr__")))
    (ex_UnknownPart : PySem.W.subIn K (.ref a_UnknownPart) (.type "BaseException") = some true)
    (et_UnknownPart : PySem.W.typeIn K (.ref a_UnknownPart) = some (.type "type"))
    (ek_UnknownPart : PySem.W.keepIn K (.ref a_UnknownPart) = true)
    (eg_UnknownPart : PySem.W.findIn K (.ref a_UnknownPart) "__getattribute__" = some (some (.builtin "BaseException.__getattribute__")))
    (ey_UnknownPart : PySem.W.findIn K (.ref a_UnknownPart) "__getattr__" = some none)
    (eh_UnknownPart : PySem.W.hasDictIn K a_UnknownPart = true)
    (ea_UnknownPart : PySem.W.findIn K (.ref a_UnknownPart) "__class__" = some (some (.builtin "object.__class__")))
    (eo_UnknownPart : PySem.W.mroIn K a_UnknownPart (.type "object") = some true)
    (en_UnknownPart : PySem.W.findIn K (.ref a_UnknownPart) "part" = some none)
    (el_UnknownPart : PySem.W.ks_superIn K a_UnknownPart a_UnknownPart "__init__" = some (some kin_))
    (em_UnknownPart : PySem.W.mroIn K a_UnknownPart (.ref a_UnknownPart) = some true)
    (ev_UnknownPart : PySem.W.mroIn K a_UnknownPart (.type "KeyError") = some true)
    (ei_UnknownPart : PySem.W.findIn K (.ref a_UnknownPart) "__init__" = some (some (.ref fi_UnknownPart)))
    (ej_UnknownPart : PySem.W.typeIn K (.ref fi_UnknownPart) = some (.type "function"))
    (il_UnknownPart : K.lookup fi_UnknownPart = some ⟨oc_UnknownPart, od_UnknownPart, .func (PySem.W.ksFn "__init__" "UnknownPart.__init__" (defArgs (inClass (topS 4) 0)) (defBody (inClass (topS 4) 0)) (defScope (inClass (topS 4) 0)) .none kV_UnknownPart dc_UnknownPart pm_UnknownPart an_UnknownPart (.ref cda_UnknownPart) ct_UnknownPart cc_UnknownPart), sl_UnknownPart⟩)
    (ic_UnknownPart : PySem.W.codeIn K (.ref cda_UnknownPart) "UnknownPart.__init__" = true)
    (id_UnknownPart : K.lookup cda_UnknownPart = some ⟨ccl_UnknownPart, cdd_UnknownPart, .fields vs_UnknownPart, ccs_UnknownPart⟩)
    (ie_UnknownPart : vs_UnknownPart[2]? = some (.str file_UnknownPart tf_UnknownPart))
    (if_UnknownPart : ((l.prog.main.file : Str) == file_UnknownPart) = true)
    (ig_UnknownPart : K.lookup cc_UnknownPart = some ⟨cl_UnknownPart, cld_UnknownPart, .cell (some (.ref a_UnknownPart)), csl_UnknownPart⟩)
    (z_super : PySem.W.nsIn K mainGlobals "super" = some none)
    (z_opq : PySem.W.nsIn K cStatics "thirdparty.any" = some none)
    (z_top : (l.prog.main.scope.names.lookup ("super" : Str)).isSome = false)
    (a_words_of : PySem.W.nsIn K mainGlobals "words_of" = some (some (.ref f_words_of)))
    (l_words_of : K.lookup f_words_of = some ⟨oc_words_of, od_words_of, .func (PySem.W.fnOf "words_of" "words_of" (defArgs s_words_of) (defBody s_words_of) (defScope s_words_of) .none kV_words_of dc_words_of pm_words_of an_words_of cd_words_of ct_words_of), sl_words_of⟩)
    (c_words_of : PySem.W.codeIn K cd_words_of "words_of" = true)
    (k_words_of : PySem.W.keepIn K (.ref f_words_of) = true)
    (a_all_there : PySem.W.nsIn K mainGlobals "all_there" = some (some (.ref f_all_there)))
    (l_all_there : K.lookup f_all_there = some ⟨oc_all_there, od_all_there, .func (PySem.W.fnOf "all_there" "all_there" (defArgs s_all_there) (defBody s_all_there) (defScope s_all_there) .none kV_all_there dc_all_there pm_all_there an_all_there cd_all_there ct_all_there), sl_all_there⟩)
    (c_all_there : PySem.W.codeIn K cd_all_there "all_there" = true)
    (k_all_there : PySem.W.keepIn K (.ref f_all_there) = true)
    (a_is_ahead : PySem.W.nsIn K mainGlobals "is_ahead" = some (some (.ref f_is_ahead)))
    (l_is_ahead : K.lookup f_is_ahead = some ⟨oc_is_ahead, od_is_ahead, .func (PySem.W.fnOf "is_ahead" "is_ahead" (defArgs s_is_ahead) (defBody s_is_ahead) (defScope s_is_ahead) .none kV_is_ahead dc_is_ahead pm_is_ahead an_is_ahead cd_is_ahead ct_is_ahead), sl_is_ahead⟩)
    (c_is_ahead : PySem.W.codeIn K cd_is_ahead "is_ahead" = true)
    (k_is_ahead : PySem.W.keepIn K (.ref f_is_ahead) = true)
    (a_is_locked_well : PySem.W.nsIn K mainGlobals "is_locked_well" = some (some (.ref f_is_locked_well)))
    (l_is_locked_well : K.lookup f_is_locked_well = some ⟨oc_is_locked_well, od_is_locked_well, .func (PySem.W.fnOf "is_locked_well" "is_locked_well" (defArgs s_is_locked_well) (defBody s_is_locked_well) (defScope s_is_locked_well) .none kV_is_locked_well dc_is_locked_well pm_is_locked_well an_is_locked_well cd_is_locked_well ct_is_locked_well), sl_is_locked_well⟩)
    (c_is_locked_well : PySem.W.codeIn K cd_is_locked_well "is_locked_well" = true)
    (k_is_locked_well : PySem.W.keepIn K (.ref f_is_locked_well) = true)
    (a_is_writer : PySem.W.nsIn K mainGlobals "is_writer" = some (some (.ref f_is_writer)))
    (l_is_writer : K.lookup f_is_writer = some ⟨oc_is_writer, od_is_writer, .func (PySem.W.fnOf "is_writer" "is_writer" (defArgs s_is_writer) (defBody s_is_writer) (defScope s_is_writer) .none kV_is_writer dc_is_writer pm_is_writer an_is_writer cd_is_writer ct_is_writer), sl_is_writer⟩)
    (c_is_writer : PySem.W.codeIn K cd_is_writer "is_writer" = true)
    (k_is_writer : PySem.W.keepIn K (.ref f_is_writer) = true)
    (a_is_cleaner : PySem.W.nsIn K mainGlobals "is_cleaner" = some (some (.ref f_is_cleaner)))
    (l_is_cleaner : K.lookup f_is_cleaner = some ⟨oc_is_cleaner, od_is_cleaner, .func (PySem.W.fnOf "is_cleaner" "is_cleaner" (defArgs s_is_cleaner) (defBody s_is_cleaner) (defScope s_is_cleaner) .none kV_is_cleaner dc_is_cleaner pm_is_cleaner an_is_cleaner cd_is_cleaner ct_is_cleaner), sl_is_cleaner⟩)
    (c_is_cleaner : PySem.W.codeIn K cd_is_cleaner "is_cleaner" = true)
    (k_is_cleaner : PySem.W.keepIn K (.ref f_is_cleaner) = true)
    (a_is_reader : PySem.W.nsIn K mainGlobals "is_reader" = some (some (.ref f_is_reader)))
    (l_is_reader : K.lookup f_is_reader = some ⟨oc_is_reader, od_is_reader, .func (PySem.W.fnOf "is_reader" "is_reader" (defArgs s_is_reader) (defBody s_is_reader) (defScope s_is_reader) .none kV_is_reader dc_is_reader pm_is_reader an_is_reader cd_is_reader ct_is_reader), sl_is_reader⟩)
    (c_is_reader : PySem.W.codeIn K cd_is_reader "is_reader" = true)
    (k_is_reader : PySem.W.keepIn K (.ref f_is_reader) = true)
    (a_is_part : PySem.W.nsIn K mainGlobals "is_part" = some (some (.ref f_is_part)))
    (l_is_part : K.lookup f_is_part = some ⟨oc_is_part, od_is_part, .func (PySem.W.fnOf "is_part" "is_part" (defArgs s_is_part) (defBody s_is_part) (defScope s_is_part) .none kV_is_part dc_is_part pm_is_part an_is_part cd_is_part ct_is_part), sl_is_part⟩)
    (c_is_part : PySem.W.codeIn K cd_is_part "is_part" = true)
    (k_is_part : PySem.W.keepIn K (.ref f_is_part) = true)
    (a_is_allowed : PySem.W.nsIn K mainGlobals "is_allowed" = some (some (.ref f_is_allowed)))
    (l_is_allowed : K.lookup f_is_allowed = some ⟨oc_is_allowed, od_is_allowed, .func (PySem.W.fnOf "is_allowed" "is_allowed" (defArgs s_is_allowed) (defBody s_is_allowed) (defScope s_is_allowed) .none kV_is_allowed dc_is_allowed pm_is_allowed an_is_allowed cd_is_allowed ct_is_allowed), sl_is_allowed⟩)
    (c_is_allowed : PySem.W.codeIn K cd_is_allowed "is_allowed" = true)
    (k_is_allowed : PySem.W.keepIn K (.ref f_is_allowed) = true)
    (a_BookU_initU : PySem.W.findIn K (.ref a_Book) "__init__" = some (some (.ref f_BookU_initU)))
    (l_BookU_initU : K.lookup f_BookU_initU = some ⟨oc_BookU_initU, od_BookU_initU, .func (PySem.W.fnOf "__init__" "Book.__init__" (defArgs s_BookU_initU) (defBody s_BookU_initU) (defScope s_BookU_initU) .none (.ref kD_BookU_initU) dc_BookU_initU pm_BookU_initU an_BookU_initU cd_BookU_initU ct_BookU_initU), sl_BookU_initU⟩)
    (kd_BookU_initU_horizon : PySem.W.nsIn K kD_BookU_initU "horizon" = some (some (.str "all" tk_BookU_initU_horizon)))
    (kd_BookU_initU_pins : PySem.W.nsIn K kD_BookU_initU "pins" = some (some (.bool true)))
    (kd_BookU_initU_cleared : PySem.W.nsIn K kD_BookU_initU "cleared" = some (some (.bool true)))
    (kd_BookU_initU_sets : PySem.W.nsIn K kD_BookU_initU "sets" = some (some (.bool true)))
    (kd_BookU_initU_force : PySem.W.nsIn K kD_BookU_initU "force" = some (some (.bool true)))
    (kd_BookU_initU_ahead : PySem.W.nsIn K kD_BookU_initU "ahead" = some (some (.bool true)))
    (kd_BookU_initU_first : PySem.W.nsIn K kD_BookU_initU "first" = some (some (.bool false)))
    (kd_BookU_initU_waits : PySem.W.nsIn K kD_BookU_initU "waits" = some (some (.bool true)))
    (kd_BookU_initU_follower : PySem.W.nsIn K kD_BookU_initU "follower" = some (some (.str "wait" tk_BookU_initU_follower)))
    (c_BookU_initU : PySem.W.codeIn K cd_BookU_initU "Book.__init__" = true)
    (k_BookU_initU : PySem.W.keepIn K (.ref f_BookU_initU) = true)
    (i_BookU_initU : PySem.W.isFn K (.ref f_BookU_initU) = true)
    (j_BookU_initU : PySem.W.fnIn K f_BookU_initU = true)
    (a_value_of : PySem.W.nsIn K mainGlobals "value_of" = some (some (.ref f_value_of)))
    (l_value_of : K.lookup f_value_of = some ⟨oc_value_of, od_value_of, .func (PySem.W.fnOf "value_of" "value_of" (defArgs s_value_of) (defBody s_value_of) (defScope s_value_of) .none kV_value_of dc_value_of pm_value_of an_value_of cd_value_of ct_value_of), sl_value_of⟩)
    (c_value_of : PySem.W.codeIn K cd_value_of "value_of" = true)
    (k_value_of : PySem.W.keepIn K (.ref f_value_of) = true)
    (a_read_book : PySem.W.nsIn K mainGlobals "read_book" = some (some (.ref f_read_book)))
    (l_read_book : K.lookup f_read_book = some ⟨oc_read_book, od_read_book, .func (PySem.W.fnOf "read_book" "read_book" (defArgs s_read_book) (defBody s_read_book) (defScope s_read_book) .none kV_read_book dc_read_book pm_read_book an_read_book cd_read_book ct_read_book), sl_read_book⟩)
    (c_read_book : PySem.W.codeIn K cd_read_book "read_book" = true)
    (k_read_book : PySem.W.keepIn K (.ref f_read_book) = true)
    (a__law_pool : PySem.W.nsIn K mainGlobals "_law_pool" = some (some (.ref f__law_pool)))
    (l__law_pool : K.lookup f__law_pool = some ⟨oc__law_pool, od__law_pool, .func (PySem.W.fnOf "_law_pool" "_law_pool" (defArgs s__law_pool) (defBody s__law_pool) (defScope s__law_pool) .none kV__law_pool dc__law_pool pm__law_pool an__law_pool cd__law_pool ct__law_pool), sl__law_pool⟩)
    (c__law_pool : PySem.W.codeIn K cd__law_pool "_law_pool" = true)
    (k__law_pool : PySem.W.keepIn K (.ref f__law_pool) = true)
    (a__law_take : PySem.W.nsIn K mainGlobals "_law_take" = some (some (.ref f__law_take)))
    (l__law_take : K.lookup f__law_take = some ⟨oc__law_take, od__law_take, .func (PySem.W.fnOf "_law_take" "_law_take" (defArgs s__law_take) (defBody s__law_take) (defScope s__law_take) .none kV__law_take dc__law_take pm__law_take an__law_take cd__law_take ct__law_take), sl__law_take⟩)
    (c__law_take : PySem.W.codeIn K cd__law_take "_law_take" = true)
    (k__law_take : PySem.W.keepIn K (.ref f__law_take) = true)
    (a__law_locked : PySem.W.nsIn K mainGlobals "_law_locked" = some (some (.ref f__law_locked)))
    (l__law_locked : K.lookup f__law_locked = some ⟨oc__law_locked, od__law_locked, .func (PySem.W.fnOf "_law_locked" "_law_locked" (defArgs s__law_locked) (defBody s__law_locked) (defScope s__law_locked) .none kV__law_locked dc__law_locked pm__law_locked an__law_locked cd__law_locked ct__law_locked), sl__law_locked⟩)
    (c__law_locked : PySem.W.codeIn K cd__law_locked "_law_locked" = true)
    (k__law_locked : PySem.W.keepIn K (.ref f__law_locked) = true)
    (a__law_writing : PySem.W.nsIn K mainGlobals "_law_writing" = some (some (.ref f__law_writing)))
    (l__law_writing : K.lookup f__law_writing = some ⟨oc__law_writing, od__law_writing, .func (PySem.W.fnOf "_law_writing" "_law_writing" (defArgs s__law_writing) (defBody s__law_writing) (defScope s__law_writing) .none kV__law_writing dc__law_writing pm__law_writing an__law_writing cd__law_writing ct__law_writing), sl__law_writing⟩)
    (c__law_writing : PySem.W.codeIn K cd__law_writing "_law_writing" = true)
    (k__law_writing : PySem.W.keepIn K (.ref f__law_writing) = true)
    (a__law_cleaning : PySem.W.nsIn K mainGlobals "_law_cleaning" = some (some (.ref f__law_cleaning)))
    (l__law_cleaning : K.lookup f__law_cleaning = some ⟨oc__law_cleaning, od__law_cleaning, .func (PySem.W.fnOf "_law_cleaning" "_law_cleaning" (defArgs s__law_cleaning) (defBody s__law_cleaning) (defScope s__law_cleaning) .none kV__law_cleaning dc__law_cleaning pm__law_cleaning an__law_cleaning cd__law_cleaning ct__law_cleaning), sl__law_cleaning⟩)
    (c__law_cleaning : PySem.W.codeIn K cd__law_cleaning "_law_cleaning" = true)
    (k__law_cleaning : PySem.W.keepIn K (.ref f__law_cleaning) = true)
    (a__law_reading : PySem.W.nsIn K mainGlobals "_law_reading" = some (some (.ref f__law_reading)))
    (l__law_reading : K.lookup f__law_reading = some ⟨oc__law_reading, od__law_reading, .func (PySem.W.fnOf "_law_reading" "_law_reading" (defArgs s__law_reading) (defBody s__law_reading) (defScope s__law_reading) .none kV__law_reading dc__law_reading pm__law_reading an__law_reading cd__law_reading ct__law_reading), sl__law_reading⟩)
    (c__law_reading : PySem.W.codeIn K cd__law_reading "_law_reading" = true)
    (k__law_reading : PySem.W.keepIn K (.ref f__law_reading) = true)
    (a__law_parts : PySem.W.nsIn K mainGlobals "_law_parts" = some (some (.ref f__law_parts)))
    (l__law_parts : K.lookup f__law_parts = some ⟨oc__law_parts, od__law_parts, .func (PySem.W.fnOf "_law_parts" "_law_parts" (defArgs s__law_parts) (defBody s__law_parts) (defScope s__law_parts) .none kV__law_parts dc__law_parts pm__law_parts an__law_parts cd__law_parts ct__law_parts), sl__law_parts⟩)
    (c__law_parts : PySem.W.codeIn K cd__law_parts "_law_parts" = true)
    (k__law_parts : PySem.W.keepIn K (.ref f__law_parts) = true)
    (a__law_names : PySem.W.nsIn K mainGlobals "_law_names" = some (some (.ref f__law_names)))
    (l__law_names : K.lookup f__law_names = some ⟨oc__law_names, od__law_names, .func (PySem.W.fnOf "_law_names" "_law_names" (defArgs s__law_names) (defBody s__law_names) (defScope s__law_names) .none kV__law_names dc__law_names pm__law_names an__law_names cd__law_names ct__law_names), sl__law_names⟩)
    (c__law_names : PySem.W.codeIn K cd__law_names "_law_names" = true)
    (k__law_names : PySem.W.keepIn K (.ref f__law_names) = true)
    (a__law_lines : PySem.W.nsIn K mainGlobals "_law_lines" = some (some (.ref f__law_lines)))
    (l__law_lines : K.lookup f__law_lines = some ⟨oc__law_lines, od__law_lines, .func (PySem.W.fnOf "_law_lines" "_law_lines" (defArgs s__law_lines) (defBody s__law_lines) (defScope s__law_lines) .none kV__law_lines dc__law_lines pm__law_lines an__law_lines cd__law_lines ct__law_lines), sl__law_lines⟩)
    (c__law_lines : PySem.W.codeIn K cd__law_lines "_law_lines" = true)
    (k__law_lines : PySem.W.keepIn K (.ref f__law_lines) = true)
    (a__law_refused : PySem.W.nsIn K mainGlobals "_law_refused" = some (some (.ref f__law_refused)))
    (l__law_refused : K.lookup f__law_refused = some ⟨oc__law_refused, od__law_refused, .func (PySem.W.fnOf "_law_refused" "_law_refused" (defArgs s__law_refused) (defBody s__law_refused) (defScope s__law_refused) .none kV__law_refused dc__law_refused pm__law_refused an__law_refused cd__law_refused ct__law_refused), sl__law_refused⟩)
    (c__law_refused : PySem.W.codeIn K cd__law_refused "_law_refused" = true)
    (k__law_refused : PySem.W.keepIn K (.ref f__law_refused) = true)
    (a_law : PySem.W.nsIn K mainGlobals "law" = some (some (.ref f_law)))
    (l_law : K.lookup f_law = some ⟨oc_law, od_law, .func (PySem.W.fnOf "law" "law" (defArgs s_law) (defBody s_law) (defScope s_law) .none kV_law dc_law pm_law an_law cd_law ct_law), sl_law⟩)
    (c_law : PySem.W.codeIn K cd_law "law" = true)
    (k_law : PySem.W.keepIn K (.ref f_law) = true)
    : ∃ fd : FuncData, (∀ (s : Shared) (v : Value), BindsTo s fd ⟨[v], []⟩ [("script", v)]) ∧ ∀ base : Heap, K.In base → base.Ns mainGlobals mg → TP.FnOk l.prog w K mg base (L2.CX l.prog w) 9 fa fd ["script"] (sp_law K) := by
  have e := hfa.symm.trans (PySem.W.mg_of X G a_law)
  cases e
  have E_BadText : ErrI l.prog K mg "BadText" a_BadText "at" := ⟨PySem.W.mg_of X G x_BadText, ⟨eg_BadText, ey_BadText, ex_BadText, eh_BadText⟩, ⟨eg_BadText, ey_BadText, ex_BadText, eh_BadText, ea_BadText, gget, gtak, eo_BadText⟩, en_BadText, fi_BadText, _, "BadText.__init__",
    ⟨⟨⟨_, _, _, _, _, _, _, _, _, _, _, _, _, _, _, ec_BadText, er_BadText⟩, es_BadText, ex_BadText, et_BadText, ek_BadText⟩, en_BadText, PySem.W.mg_none_of X G z_super, z_opq, el_BadText, em_BadText, ev_BadText, z_top,
      ⟨_, _, _, _, _, _, _, _, _, _, _, _, _, _, _, _, _, _, _, _, _, _, _, _, _, _, _, _, _, _, _, _, _, rfl, il_BadText, ic_BadText, rfl, rfl, id_BadText, ie_BadText, if_BadText, ig_BadText, rfl, rfl, rfl, rfl, by decide, by decide, rfl⟩⟩, ei_BadText, ej_BadText, .all fun us hl => match us, hl with | [_, _], _ => rfl⟩
  have E_BadBook : ErrI l.prog K mg "BadBook" a_BadBook "part" := ⟨PySem.W.mg_of X G x_BadBook, ⟨eg_BadBook, ey_BadBook, ex_BadBook, eh_BadBook⟩, ⟨eg_BadBook, ey_BadBook, ex_BadBook, eh_BadBook, ea_BadBook, gget, gtak, eo_BadBook⟩, en_BadBook, fi_BadBook, _, "BadBook.__init__",
    ⟨⟨⟨_, _, _, _, _, _, _, _, _, _, _, _, _, _, _, ec_BadBook, er_BadBook⟩, es_BadBook, ex_BadBook, et_BadBook, ek_BadBook⟩, en_BadBook, PySem.W.mg_none_of X G z_super, z_opq, el_BadBook, em_BadBook, ev_BadBook, z_top,
      ⟨_, _, _, _, _, _, _, _, _, _, _, _, _, _, _, _, _, _, _, _, _, _, _, _, _, _, _, _, _, _, _, _, _, rfl, il_BadBook, ic_BadBook, rfl, rfl, id_BadBook, ie_BadBook, if_BadBook, ig_BadBook, rfl, rfl, rfl, rfl, by decide, by decide, rfl⟩⟩, ei_BadBook, ej_BadBook, .all fun us hl => match us, hl with | [_, _], _ => rfl⟩
  have E_UnknownPart : ErrK l.prog K mg "UnknownPart" a_UnknownPart "part" := ⟨PySem.W.mg_of X G x_UnknownPart, ⟨eg_UnknownPart, ey_UnknownPart, ex_UnknownPart, eh_UnknownPart⟩, ⟨eg_UnknownPart, ey_UnknownPart, ex_UnknownPart, eh_UnknownPart, ea_UnknownPart, gget, gtak, eo_UnknownPart⟩, en_UnknownPart, fi_UnknownPart, _, "UnknownPart.__init__",
    ⟨⟨⟨_, _, _, _, _, _, _, _, _, _, _, _, _, _, _, ec_UnknownPart, er_UnknownPart⟩, es_UnknownPart, ex_UnknownPart, et_UnknownPart, ek_UnknownPart⟩, en_UnknownPart, PySem.W.mg_none_of X G z_super, z_opq, el_UnknownPart, em_UnknownPart, ev_UnknownPart, z_top,
      ⟨_, _, _, _, _, _, _, _, _, _, _, _, _, _, _, _, _, _, _, _, _, _, _, _, _, _, _, _, _, _, _, _, _, rfl, il_UnknownPart, ic_UnknownPart, rfl, rfl, id_UnknownPart, ie_UnknownPart, if_UnknownPart, ig_UnknownPart, rfl, rfl, rfl, rfl, by decide, by decide, rfl⟩⟩, ei_UnknownPart, ej_UnknownPart, .all fun us hl => match us, hl with | [_, _], _ => rfl⟩
  have C_Book : OwnC K a_Book := ⟨⟨pg_Book, hd_Book, po_Book, sa_Book⟩, ca_Book, gget, gtak, cm_Book, sf_Book, nq_Book, ne_Book⟩
  have D_CHOICES : DTab l.prog w K a_CHOICES [(.inr "horizon", .ref a_CHOICES_0), (.inr "follower", .ref a_CHOICES_1)] := dtab_mk [("horizon", dh0_CHOICES, dt0_CHOICES, .ref a_CHOICES_0), ("follower", dh1_CHOICES, dt1_CHOICES, .ref a_CHOICES_1)] yd_CHOICES (fun x hx => by simp only [List.mem_cons, List.not_mem_nil, or_false] at hx; rcases hx with rfl | rfl; exact hh0_CHOICES; exact hh1_CHOICES) (by show (["horizon", "follower"] : List Str).Nodup; decide +kernel) (.cons ⟨rfl, rfl⟩ (.cons ⟨rfl, rfl⟩ .nil)) ns_CHOICES
  have T : Txt l.prog w K mg a_WRITER_WORDS a_CLEANER_WORDS a_READER_WORDS a_PARTS a_Book a_BadText a_BadBook a_UnknownPart a_PagesError a_CHOICES a_CHOICES_0 a_CHOICES_1 := ⟨PySem.W.mg_none_of X G z_len, PySem.W.mg_none_of X G z_isinstance, PySem.W.mg_none_of X G z_int, PySem.W.mg_none_of X G z_bool, PySem.W.mg_none_of X G z_range, PySem.W.mg_none_of X G z_list, PySem.W.mg_none_of X G z_tuple, PySem.W.mg_none_of X G z_str, PySem.W.mg_none_of X G z_set, PySem.W.mg_none_of X G z_all, PySem.W.mg_none_of X G z_zip, PySem.W.mg_none_of X G z_enumerate, PySem.W.mg_none_of X G z_max, PySem.W.mg_none_of X G z_min, PySem.W.mg_of X G x_WRITER_WORDS, PySem.W.mg_of X G x_CLEANER_WORDS, PySem.W.mg_of X G x_READER_WORDS, PySem.W.mg_of X G x_PARTS, PySem.W.mg_of X G x_Book, PySem.W.mg_of X G x_PagesError, PySem.W.mg_of X G x_CHOICES, ⟨_, PySem.W.mg_of X G x_SIGN⟩, E_BadText, PySem.W.mg_of X G x_BadText, E_BadBook, PySem.W.mg_of X G x_BadBook, E_UnknownPart, PySem.W.mg_of X G x_UnknownPart, C_Book, na_Book_chosen, D_CHOICES⟩
  have FC : MR.ClsG K (Gam w a_Book a_BadText a_BadBook a_UnknownPart a_PagesError a_CHOICES) 1 := ⟨⟨fun c h => match c, h with | 0, _ => C_Book | n + 1, h => absurd h (by omega), fun c d h h2 => match c, h, d, h2 with | 0, _, 0, _ => (by show PySem.W.kitOne K (.ref a_Book) (.ref a_Book) = some true; unfold PySem.W.kitOne; rw [beq_self_eq_true]; rfl) | 0, _, n + 1, h => absurd h (by omega) | n + 1, h, _, _ => absurd h (by omega), fun c h => match c, h with | 0, _ => MR.all_some kt_Book | n + 1, h => absurd h (by omega), fun c h => match c, h with | 0, _ => MR.all_some tk_Book | n + 1, h => absurd h (by omega)⟩, fun c h => match c, h with | 0, _ => MR.all_true nt_Book | n + 1, h => absurd h (by omega), fun c d h h2 => match c, h, d, h2 with | 0, _, 0, _ => nc_Book_Book | 0, _, n + 1, h => absurd h (by omega) | n + 1, h, _, _ => absurd h (by omega)⟩
  have hR_WRITER_WORDS : ∀ wd : MR.Wd, MR.Rep K (Gam w a_Book a_BadText a_BadBook a_UnknownPart a_PagesError a_CHOICES) wd (.tup [.str "change", .str "enter", .str "commit", .str "clear", .str "lock", .str "unlock"]) (.ref a_WRITER_WORDS) := fun wd => by simp only [MR.Rep, MR.RepC]; exact ⟨a_WRITER_WORDS, [.str "change", .str "enter", .str "commit", .str "clear", .str "lock", .str "unlock"], rfl, .inr ⟨_, _, _, y_WRITER_WORDS, rfl, rfl, by rw [sizeLine_eq]; show 6 ≤ 16777216; decide, (.cons ⟨_, rfl⟩ (.cons ⟨_, rfl⟩ (.cons ⟨_, rfl⟩ (.cons ⟨_, rfl⟩ (.cons ⟨_, rfl⟩ (.cons ⟨_, rfl⟩ .nil))))))⟩, by rw [sizeLine_eq]; show 6 ≤ 16777216; decide, (MR.reps_cons (by simp only [MR.RepC]) (MR.reps_cons (by simp only [MR.RepC]) (MR.reps_cons (by simp only [MR.RepC]) (MR.reps_cons (by simp only [MR.RepC]) (MR.reps_cons (by simp only [MR.RepC]) (MR.reps_cons (by simp only [MR.RepC]) MR.reps_nil))))))⟩
  have K_WRITER_WORDS : ∀ {xa : XT} {W : WX}, MR.SimE K (Gam w a_Book a_BadText a_BadBook a_UnknownPart a_PagesError a_CHOICES) xa W (tC (.ref a_WRITER_WORDS)) (MR.mC k_WRITER_WORDS) := fun {xa W} => ⟨fun w0 w σ δ Q o e n p => MR.Post.now p o _ (hR_WRITER_WORDS w)⟩
  have hR_CLEANER_WORDS : ∀ wd : MR.Wd, MR.Rep K (Gam w a_Book a_BadText a_BadBook a_UnknownPart a_PagesError a_CHOICES) wd (.tup [.str "look", .str "set", .str "remove", .str "again", .str "lock", .str "unlock"]) (.ref a_CLEANER_WORDS) := fun wd => by simp only [MR.Rep, MR.RepC]; exact ⟨a_CLEANER_WORDS, [.str "look", .str "set", .str "remove", .str "again", .str "lock", .str "unlock"], rfl, .inr ⟨_, _, _, y_CLEANER_WORDS, rfl, rfl, by rw [sizeLine_eq]; show 6 ≤ 16777216; decide, (.cons ⟨_, rfl⟩ (.cons ⟨_, rfl⟩ (.cons ⟨_, rfl⟩ (.cons ⟨_, rfl⟩ (.cons ⟨_, rfl⟩ (.cons ⟨_, rfl⟩ .nil))))))⟩, by rw [sizeLine_eq]; show 6 ≤ 16777216; decide, (MR.reps_cons (by simp only [MR.RepC]) (MR.reps_cons (by simp only [MR.RepC]) (MR.reps_cons (by simp only [MR.RepC]) (MR.reps_cons (by simp only [MR.RepC]) (MR.reps_cons (by simp only [MR.RepC]) (MR.reps_cons (by simp only [MR.RepC]) MR.reps_nil))))))⟩
  have K_CLEANER_WORDS : ∀ {xa : XT} {W : WX}, MR.SimE K (Gam w a_Book a_BadText a_BadBook a_UnknownPart a_PagesError a_CHOICES) xa W (tC (.ref a_CLEANER_WORDS)) (MR.mC k_CLEANER_WORDS) := fun {xa W} => ⟨fun w0 w σ δ Q o e n p => MR.Post.now p o _ (hR_CLEANER_WORDS w)⟩
  have hR_READER_WORDS : ∀ wd : MR.Wd, MR.Rep K (Gam w a_Book a_BadText a_BadBook a_UnknownPart a_PagesError a_CHOICES) wd (.tup [.str "entry", .str "mark", .str "page", .str "hold", .str "take", .str "tell"]) (.ref a_READER_WORDS) := fun wd => by simp only [MR.Rep, MR.RepC]; exact ⟨a_READER_WORDS, [.str "entry", .str "mark", .str "page", .str "hold", .str "take", .str "tell"], rfl, .inr ⟨_, _, _, y_READER_WORDS, rfl, rfl, by rw [sizeLine_eq]; show 6 ≤ 16777216; decide, (.cons ⟨_, rfl⟩ (.cons ⟨_, rfl⟩ (.cons ⟨_, rfl⟩ (.cons ⟨_, rfl⟩ (.cons ⟨_, rfl⟩ (.cons ⟨_, rfl⟩ .nil))))))⟩, by rw [sizeLine_eq]; show 6 ≤ 16777216; decide, (MR.reps_cons (by simp only [MR.RepC]) (MR.reps_cons (by simp only [MR.RepC]) (MR.reps_cons (by simp only [MR.RepC]) (MR.reps_cons (by simp only [MR.RepC]) (MR.reps_cons (by simp only [MR.RepC]) (MR.reps_cons (by simp only [MR.RepC]) MR.reps_nil))))))⟩
  have K_READER_WORDS : ∀ {xa : XT} {W : WX}, MR.SimE K (Gam w a_Book a_BadText a_BadBook a_UnknownPart a_PagesError a_CHOICES) xa W (tC (.ref a_READER_WORDS)) (MR.mC k_READER_WORDS) := fun {xa W} => ⟨fun w0 w σ δ Q o e n p => MR.Post.now p o _ (hR_READER_WORDS w)⟩
  have hR_PARTS : ∀ wd : MR.Wd, MR.Rep K (Gam w a_Book a_BadText a_BadBook a_UnknownPart a_PagesError a_CHOICES) wd (.tup [.str "writer", .str "cleaner", .str "reader", .str "horizon", .str "pins", .str "cleared", .str "sets", .str "force", .str "ahead", .str "first", .str "waits", .str "follower"]) (.ref a_PARTS) := fun wd => by simp only [MR.Rep, MR.RepC]; exact ⟨a_PARTS, [.str "writer", .str "cleaner", .str "reader", .str "horizon", .str "pins", .str "cleared", .str "sets", .str "force", .str "ahead", .str "first", .str "waits", .str "follower"], rfl, .inr ⟨_, _, _, y_PARTS, rfl, rfl, by rw [sizeLine_eq]; show 12 ≤ 16777216; decide, (.cons ⟨_, rfl⟩ (.cons ⟨_, rfl⟩ (.cons ⟨_, rfl⟩ (.cons ⟨_, rfl⟩ (.cons ⟨_, rfl⟩ (.cons ⟨_, rfl⟩ (.cons ⟨_, rfl⟩ (.cons ⟨_, rfl⟩ (.cons ⟨_, rfl⟩ (.cons ⟨_, rfl⟩ (.cons ⟨_, rfl⟩ (.cons ⟨_, rfl⟩ .nil))))))))))))⟩, by rw [sizeLine_eq]; show 12 ≤ 16777216; decide, (MR.reps_cons (by simp only [MR.RepC]) (MR.reps_cons (by simp only [MR.RepC]) (MR.reps_cons (by simp only [MR.RepC]) (MR.reps_cons (by simp only [MR.RepC]) (MR.reps_cons (by simp only [MR.RepC]) (MR.reps_cons (by simp only [MR.RepC]) (MR.reps_cons (by simp only [MR.RepC]) (MR.reps_cons (by simp only [MR.RepC]) (MR.reps_cons (by simp only [MR.RepC]) (MR.reps_cons (by simp only [MR.RepC]) (MR.reps_cons (by simp only [MR.RepC]) (MR.reps_cons (by simp only [MR.RepC]) MR.reps_nil))))))))))))⟩
  have K_PARTS : ∀ {xa : XT} {W : WX}, MR.SimE K (Gam w a_Book a_BadText a_BadBook a_UnknownPart a_PagesError a_CHOICES) xa W (tC (.ref a_PARTS)) (MR.mC k_PARTS) := fun {xa W} => ⟨fun w0 w σ δ Q o e n p => MR.Post.now p o _ (hR_PARTS w)⟩
  have hR_CHOICES_0 : ∀ wd : MR.Wd, MR.Rep K (Gam w a_Book a_BadText a_BadBook a_UnknownPart a_PagesError a_CHOICES) wd (.tup [.str "all", .str "none"]) (.ref a_CHOICES_0) := fun wd => by simp only [MR.Rep, MR.RepC]; exact ⟨a_CHOICES_0, [.str "all", .str "none"], rfl, .inr ⟨_, _, _, y_CHOICES_0, rfl, rfl, by rw [sizeLine_eq]; show 2 ≤ 16777216; decide, (.cons ⟨_, rfl⟩ (.cons ⟨_, rfl⟩ .nil))⟩, by rw [sizeLine_eq]; show 2 ≤ 16777216; decide, (MR.reps_cons (by simp only [MR.RepC]) (MR.reps_cons (by simp only [MR.RepC]) MR.reps_nil))⟩
  have hR_CHOICES_1 : ∀ wd : MR.Wd, MR.Rep K (Gam w a_Book a_BadText a_BadBook a_UnknownPart a_PagesError a_CHOICES) wd (.tup [.str "trust", .str "wait", .str "look"]) (.ref a_CHOICES_1) := fun wd => by simp only [MR.Rep, MR.RepC]; exact ⟨a_CHOICES_1, [.str "trust", .str "wait", .str "look"], rfl, .inr ⟨_, _, _, y_CHOICES_1, rfl, rfl, by rw [sizeLine_eq]; show 3 ≤ 16777216; decide, (.cons ⟨_, rfl⟩ (.cons ⟨_, rfl⟩ (.cons ⟨_, rfl⟩ .nil)))⟩, by rw [sizeLine_eq]; show 3 ≤ 16777216; decide, (MR.reps_cons (by simp only [MR.RepC]) (MR.reps_cons (by simp only [MR.RepC]) (MR.reps_cons (by simp only [MR.RepC]) MR.reps_nil)))⟩
  have X0 : Cxt K w a_WRITER_WORDS a_CLEANER_WORDS a_READER_WORDS a_PARTS a_Book a_BadText a_BadBook a_UnknownPart a_PagesError a_CHOICES a_CHOICES_0 a_CHOICES_1 := ⟨FC, K_WRITER_WORDS, K_CLEANER_WORDS, K_READER_WORDS, K_PARTS, (fun w => (MR.reps_cons (hR_CHOICES_0 w) (MR.reps_cons (hR_CHOICES_1 w) MR.reps_nil))), (by intro p hp; unfold tab_PagesError at hp; rcases List.mem_cons.mp hp with rfl | hp; exact qt_PagesError_BadText; rcases List.mem_cons.mp hp with rfl | hp; exact qt_PagesError_BadBook; rcases List.mem_cons.mp hp with rfl | hp; exact qt_PagesError_UnknownPart; cases hp), ⟨.own _, by intro p hp; unfold t_isx_BadText at hp; rcases List.mem_cons.mp hp with rfl | hp; exact ⟨E_BadText.is_, qx_BadText_BadText⟩; rcases List.mem_cons.mp hp with rfl | hp; exact ⟨E_BadBook.is_, qx_BadText_BadBook⟩; cases hp⟩⟩
  have F_words_of := fun_mk (st := s_words_of) l_words_of c_words_of k_words_of
  have FI_words_of : FunI K mg "words_of" s_words_of ["value", "known"] := ⟨_, _, PySem.W.mg_of X G a_words_of, F_words_of, F_words_of.binds (ps := ["value", "known"]) fun _ _ _ _ _ _ us hl => match us, hl with | [_, _], _ => rfl⟩
  have F_all_there := fun_mk (st := s_all_there) l_all_there c_all_there k_all_there
  have FI_all_there : FunI K mg "all_there" s_all_there ["found", "needed"] := ⟨_, _, PySem.W.mg_of X G a_all_there, F_all_there, F_all_there.binds (ps := ["found", "needed"]) fun _ _ _ _ _ _ us hl => match us, hl with | [_, _], _ => rfl⟩
  have F_is_ahead := fun_mk (st := s_is_ahead) l_is_ahead c_is_ahead k_is_ahead
  have FI_is_ahead : FunI K mg "is_ahead" s_is_ahead ["found", "one", "other"] := ⟨_, _, PySem.W.mg_of X G a_is_ahead, F_is_ahead, F_is_ahead.binds (ps := ["found", "one", "other"]) fun _ _ _ _ _ _ us hl => match us, hl with | [_, _, _], _ => rfl⟩
  have F_is_locked_well := fun_mk (st := s_is_locked_well) l_is_locked_well c_is_locked_well k_is_locked_well
  have FI_is_locked_well : FunI K mg "is_locked_well" s_is_locked_well ["found"] := ⟨_, _, PySem.W.mg_of X G a_is_locked_well, F_is_locked_well, F_is_locked_well.binds (ps := ["found"]) fun _ _ _ _ _ _ us hl => match us, hl with | [_], _ => rfl⟩
  have F_is_writer := fun_mk (st := s_is_writer) l_is_writer c_is_writer k_is_writer
  have FI_is_writer : FunI K mg "is_writer" s_is_writer ["value"] := ⟨_, _, PySem.W.mg_of X G a_is_writer, F_is_writer, F_is_writer.binds (ps := ["value"]) fun _ _ _ _ _ _ us hl => match us, hl with | [_], _ => rfl⟩
  have F_is_cleaner := fun_mk (st := s_is_cleaner) l_is_cleaner c_is_cleaner k_is_cleaner
  have FI_is_cleaner : FunI K mg "is_cleaner" s_is_cleaner ["value"] := ⟨_, _, PySem.W.mg_of X G a_is_cleaner, F_is_cleaner, F_is_cleaner.binds (ps := ["value"]) fun _ _ _ _ _ _ us hl => match us, hl with | [_], _ => rfl⟩
  have F_is_reader := fun_mk (st := s_is_reader) l_is_reader c_is_reader k_is_reader
  have FI_is_reader : FunI K mg "is_reader" s_is_reader ["value"] := ⟨_, _, PySem.W.mg_of X G a_is_reader, F_is_reader, F_is_reader.binds (ps := ["value"]) fun _ _ _ _ _ _ us hl => match us, hl with | [_], _ => rfl⟩
  have F_is_part := fun_mk (st := s_is_part) l_is_part c_is_part k_is_part
  have FI_is_part : FunI K mg "is_part" s_is_part ["value"] := ⟨_, _, PySem.W.mg_of X G a_is_part, F_is_part, F_is_part.binds (ps := ["value"]) fun _ _ _ _ _ _ us hl => match us, hl with | [_], _ => rfl⟩
  have F_is_allowed := fun_mk (st := s_is_allowed) l_is_allowed c_is_allowed k_is_allowed
  have FI_is_allowed : FunI K mg "is_allowed" s_is_allowed ["part", "value"] := ⟨_, _, PySem.W.mg_of X G a_is_allowed, F_is_allowed, F_is_allowed.binds (ps := ["part", "value"]) fun _ _ _ _ _ _ us hl => match us, hl with | [_, _], _ => rfl⟩
  have HD_BookU_initU : ∀ p ∈ (["horizon", "pins", "cleared", "sets", "force", "ahead", "first", "waits", "follower"] : List Str).zip ([.str "all" tk_BookU_initU_horizon, .bool true, .bool true, .bool true, .bool true, .bool true, .bool false, .bool true, .str "wait" tk_BookU_initU_follower] : List Value), PySem.W.nsIn K kD_BookU_initU p.1 = some (some p.2) := by
    intro p hp
    simp only [List.zip_cons_cons, List.zip_nil_left, List.mem_cons, List.not_mem_nil, or_false] at hp
    rcases hp with rfl | rfl | rfl | rfl | rfl | rfl | rfl | rfl | rfl
    · exact kd_BookU_initU_horizon
    · exact kd_BookU_initU_pins
    · exact kd_BookU_initU_cleared
    · exact kd_BookU_initU_sets
    · exact kd_BookU_initU_force
    · exact kd_BookU_initU_ahead
    · exact kd_BookU_initU_first
    · exact kd_BookU_initU_waits
    · exact kd_BookU_initU_follower
  have FI_BookU_initU_np : StPI K mg "Book" a_Book "Book.__init__" s_BookU_initU [.str "all", .bl true, .bl true, .bl true, .bl true, .bl true, .bl false, .bl true, .str "wait"] "self" ["writer", "cleaner", "reader", "horizon", "pins", "cleared", "sets", "force", "ahead", "first", "waits", "follower"] ["horizon", "pins", "cleared", "sets", "force", "ahead", "first", "waits", "follower"] := stp_mk (its := [.str "all" tk_BookU_initU_horizon, .bool true, .bool true, .bool true, .bool true, .bool true, .bool false, .bool true, .str "wait" tk_BookU_initU_follower]) (PySem.W.mg_of X G x_Book) ⟨mk_Book, a_BookU_initU, i_BookU_initU, kc_Book⟩ l_BookU_initU c_BookU_initU (.cons ⟨_, rfl⟩ (.cons rfl (.cons rfl (.cons rfl (.cons rfl (.cons rfl (.cons rfl (.cons rfl (.cons ⟨_, rfl⟩ .nil))))))))) rfl rfl rfl rfl rfl (by decide +kernel) HD_BookU_initU rfl
  have F_value_of := fun_mk (st := s_value_of) l_value_of c_value_of k_value_of
  have FI_value_of : FunI K mg "value_of" s_value_of ["part", "text"] := ⟨_, _, PySem.W.mg_of X G a_value_of, F_value_of, F_value_of.binds (ps := ["part", "text"]) fun _ _ _ _ _ _ us hl => match us, hl with | [_, _], _ => rfl⟩
  have F_read_book := fun_mk (st := s_read_book) l_read_book c_read_book k_read_book
  have FI_read_book : FunI K mg "read_book" s_read_book ["text"] := ⟨_, _, PySem.W.mg_of X G a_read_book, F_read_book, F_read_book.binds (ps := ["text"]) fun _ _ _ _ _ _ us hl => match us, hl with | [_], _ => rfl⟩
  have F__law_pool := fun_mk (st := s__law_pool) l__law_pool c__law_pool k__law_pool
  have FI__law_pool : FunI K mg "_law_pool" s__law_pool ["script", "k"] := ⟨_, _, PySem.W.mg_of X G a__law_pool, F__law_pool, F__law_pool.binds (ps := ["script", "k"]) fun _ _ _ _ _ _ us hl => match us, hl with | [_, _], _ => rfl⟩
  have F__law_take := fun_mk (st := s__law_take) l__law_take c__law_take k__law_take
  have FI__law_take : FunI K mg "_law_take" s__law_take ["pool", "many"] := ⟨_, _, PySem.W.mg_of X G a__law_take, F__law_take, F__law_take.binds (ps := ["pool", "many"]) fun _ _ _ _ _ _ us hl => match us, hl with | [_, _], _ => rfl⟩
  have F__law_locked := fun_mk (st := s__law_locked) l__law_locked c__law_locked k__law_locked
  have FI__law_locked : FunI K mg "_law_locked" s__law_locked ["pool", "row"] := ⟨_, _, PySem.W.mg_of X G a__law_locked, F__law_locked, F__law_locked.binds (ps := ["pool", "row"]) fun _ _ _ _ _ _ us hl => match us, hl with | [_, _], _ => rfl⟩
  have F__law_writing := fun_mk (st := s__law_writing) l__law_writing c__law_writing k__law_writing
  have FI__law_writing : FunI K mg "_law_writing" s__law_writing ["pool"] := ⟨_, _, PySem.W.mg_of X G a__law_writing, F__law_writing, F__law_writing.binds (ps := ["pool"]) fun _ _ _ _ _ _ us hl => match us, hl with | [_], _ => rfl⟩
  have F__law_cleaning := fun_mk (st := s__law_cleaning) l__law_cleaning c__law_cleaning k__law_cleaning
  have FI__law_cleaning : FunI K mg "_law_cleaning" s__law_cleaning ["pool"] := ⟨_, _, PySem.W.mg_of X G a__law_cleaning, F__law_cleaning, F__law_cleaning.binds (ps := ["pool"]) fun _ _ _ _ _ _ us hl => match us, hl with | [_], _ => rfl⟩
  have F__law_reading := fun_mk (st := s__law_reading) l__law_reading c__law_reading k__law_reading
  have FI__law_reading : FunI K mg "_law_reading" s__law_reading ["pool"] := ⟨_, _, PySem.W.mg_of X G a__law_reading, F__law_reading, F__law_reading.binds (ps := ["pool"]) fun _ _ _ _ _ _ us hl => match us, hl with | [_], _ => rfl⟩
  have F__law_parts := fun_mk (st := s__law_parts) l__law_parts c__law_parts k__law_parts
  have FI__law_parts : FunI K mg "_law_parts" s__law_parts ["pool"] := ⟨_, _, PySem.W.mg_of X G a__law_parts, F__law_parts, F__law_parts.binds (ps := ["pool"]) fun _ _ _ _ _ _ us hl => match us, hl with | [_], _ => rfl⟩
  have F__law_names := fun_mk (st := s__law_names) l__law_names c__law_names k__law_names
  have FI__law_names : FunI K mg "_law_names" s__law_names [] := ⟨_, _, PySem.W.mg_of X G a__law_names, F__law_names, F__law_names.binds (ps := []) fun _ _ _ _ _ _ us hl => match us, hl with | [], _ => rfl⟩
  have F__law_lines := fun_mk (st := s__law_lines) l__law_lines c__law_lines k__law_lines
  have FI__law_lines : FunI K mg "_law_lines" s__law_lines ["p"] := ⟨_, _, PySem.W.mg_of X G a__law_lines, F__law_lines, F__law_lines.binds (ps := ["p"]) fun _ _ _ _ _ _ us hl => match us, hl with | [_], _ => rfl⟩
  have F__law_refused := fun_mk (st := s__law_refused) l__law_refused c__law_refused k__law_refused
  have FI__law_refused : FunI K mg "_law_refused" s__law_refused ["text"] := ⟨_, _, PySem.W.mg_of X G a__law_refused, F__law_refused, F__law_refused.binds (ps := ["text"]) fun _ _ _ _ _ _ us hl => match us, hl with | [_], _ => rfl⟩
  have F_law := fun_mk (st := s_law) l_law c_law k_law
  refine ⟨PySem.W.fnOf "law" "law" (defArgs s_law) (defBody s_law) (defScope s_law) .none kV_law dc_law pm_law an_law cd_law ct_law, fun s v => .of_eq rfl, fun base hb hn => ?_⟩
  have I_words_of : FnZ l.prog w K mg base 1 "words_of" ["value", "known"] (spM K (Gam w a_Book a_BadText a_BadBook a_UnknownPart a_PagesError a_CHOICES) 2 m_words_of) := FI_words_of.okZ sc_words_of (fun _ _ _ _ h => MR.spM_len h) (d_words_of T) (fun H vs Q E h => MR.spM_run (xa := ⟨0, .none, none, 0⟩) (q_words_of X0) h)
  have I_all_there : FnZ l.prog w K mg base 1 "all_there" ["found", "needed"] (spM K (Gam w a_Book a_BadText a_BadBook a_UnknownPart a_PagesError a_CHOICES) 2 m_all_there) := FI_all_there.okZ sc_all_there (fun _ _ _ _ h => MR.spM_len h) (d_all_there T) (fun H vs Q E h => MR.spM_run (xa := ⟨0, .none, none, 0⟩) (q_all_there X0) h)
  have I_is_ahead : FnZ l.prog w K mg base 1 "is_ahead" ["found", "one", "other"] (spM K (Gam w a_Book a_BadText a_BadBook a_UnknownPart a_PagesError a_CHOICES) 3 m_is_ahead) := FI_is_ahead.okZ sc_is_ahead (fun _ _ _ _ h => MR.spM_len h) (d_is_ahead T) (fun H vs Q E h => MR.spM_run (xa := ⟨0, .none, none, 0⟩) (q_is_ahead X0) h)
  have I_is_locked_well : FnZ l.prog w K mg base 2 "is_locked_well" ["found"] (spM K (Gam w a_Book a_BadText a_BadBook a_UnknownPart a_PagesError a_CHOICES) 1 m_is_locked_well) := FI_is_locked_well.okZ sc_is_locked_well (fun _ _ _ _ h => MR.spM_len h) (d_is_locked_well T I_is_ahead) (fun H vs Q E h => MR.spM_run (xa := ⟨0, .none, none, 0⟩) (q_is_locked_well X0) h)
  have I_is_writer : FnZ l.prog w K mg base 3 "is_writer" ["value"] (spM K (Gam w a_Book a_BadText a_BadBook a_UnknownPart a_PagesError a_CHOICES) 1 m_is_writer) := FI_is_writer.okZ sc_is_writer (fun _ _ _ _ h => MR.spM_len h) (d_is_writer T I_words_of I_all_there I_is_ahead I_is_locked_well) (fun H vs Q E h => MR.spM_run (xa := ⟨0, .none, none, 0⟩) (q_is_writer X0) h)
  have I_is_cleaner : FnZ l.prog w K mg base 3 "is_cleaner" ["value"] (spM K (Gam w a_Book a_BadText a_BadBook a_UnknownPart a_PagesError a_CHOICES) 1 m_is_cleaner) := FI_is_cleaner.okZ sc_is_cleaner (fun _ _ _ _ h => MR.spM_len h) (d_is_cleaner T I_words_of I_all_there I_is_ahead I_is_locked_well) (fun H vs Q E h => MR.spM_run (xa := ⟨0, .none, none, 0⟩) (q_is_cleaner X0) h)
  have I_is_reader : FnZ l.prog w K mg base 2 "is_reader" ["value"] (spM K (Gam w a_Book a_BadText a_BadBook a_UnknownPart a_PagesError a_CHOICES) 1 m_is_reader) := FI_is_reader.okZ sc_is_reader (fun _ _ _ _ h => MR.spM_len h) (d_is_reader T I_words_of I_all_there I_is_ahead) (fun H vs Q E h => MR.spM_run (xa := ⟨0, .none, none, 0⟩) (q_is_reader X0) h)
  have I_is_part : FnZ l.prog w K mg base 1 "is_part" ["value"] (spM K (Gam w a_Book a_BadText a_BadBook a_UnknownPart a_PagesError a_CHOICES) 1 m_is_part) := FI_is_part.okZ sc_is_part (fun _ _ _ _ h => MR.spM_len h) (d_is_part T) (fun H vs Q E h => MR.spM_run (xa := ⟨0, .none, none, 0⟩) (q_is_part X0) h)
  have I_is_allowed : FnZ l.prog w K mg base 4 "is_allowed" ["part", "value"] (spM K (Gam w a_Book a_BadText a_BadBook a_UnknownPart a_PagesError a_CHOICES) 2 m_is_allowed) := FI_is_allowed.okZ sc_is_allowed (fun _ _ _ _ h => MR.spM_len h) (d_is_allowed T I_is_writer I_is_cleaner I_is_reader) (fun H vs Q E h => MR.spM_run (xa := ⟨0, .none, none, 0⟩) (q_is_allowed X0) h)
  have I_BookU_initU_np : MakP l.prog w K mg base 5 "Book" a_Book ["writer", "cleaner", "reader", "horizon", "pins", "cleared", "sets", "force", "ahead", "first", "waits", "follower"] ["horizon", "pins", "cleared", "sets", "force", "ahead", "first", "waits", "follower"] [.str "all", .bl true, .bl true, .bl true, .bl true, .bl true, .bl false, .bl true, .str "wait"] (spI K (Gam w a_Book a_BadText a_BadBook a_UnknownPart a_PagesError a_CHOICES) 0 12 m_BookU_initU) := FI_BookU_initU_np.okZ sc_BookU_initU rfl (d_BookU_initU T I_is_allowed) (fun H vs Q E h => MR.spI_run (fun _ => q_BookU_initU X0) h)
  have I_value_of : FnZ l.prog w K mg base 1 "value_of" ["part", "text"] (spM K (Gam w a_Book a_BadText a_BadBook a_UnknownPart a_PagesError a_CHOICES) 2 m_value_of) := FI_value_of.okZ sc_value_of (fun _ _ _ _ h => MR.spM_len h) (d_value_of T) (fun H vs Q E h => MR.spM_run (xa := ⟨0, .none, none, 0⟩) (q_value_of X0) h)
  have I_read_book : FnZ l.prog w K mg base 7 "read_book" ["text"] (spM K (Gam w a_Book a_BadText a_BadBook a_UnknownPart a_PagesError a_CHOICES) 1 m_read_book) := FI_read_book.okZ sc_read_book (fun _ _ _ _ h => MR.spM_len h) (d_read_book T I_is_part I_is_allowed I_BookU_initU_np I_value_of) (fun H vs Q E h => MR.spM_run (xa := ⟨0, .none, none, 0⟩) (q_read_book X0) h)
  have I__law_pool : FnZ l.prog w K mg base 1 "_law_pool" ["script", "k"] (spM K (Gam w a_Book a_BadText a_BadBook a_UnknownPart a_PagesError a_CHOICES) 2 m__law_pool) := FI__law_pool.okZ sc__law_pool (fun _ _ _ _ h => MR.spM_len h) (d__law_pool T) (fun H vs Q E h => MR.spM_run (xa := ⟨0, .none, none, 0⟩) (q__law_pool X0) h)
  have I__law_take : FnZ l.prog w K mg base 1 "_law_take" ["pool", "many"] (spM K (Gam w a_Book a_BadText a_BadBook a_UnknownPart a_PagesError a_CHOICES) 2 m__law_take) := FI__law_take.okZ sc__law_take (fun _ _ _ _ h => MR.spM_len h) (d__law_take T) (fun H vs Q E h => MR.spM_run (xa := ⟨0, .none, none, 0⟩) (q__law_take X0) h)
  have I__law_locked : FnZ l.prog w K mg base 2 "_law_locked" ["pool", "row"] (spM K (Gam w a_Book a_BadText a_BadBook a_UnknownPart a_PagesError a_CHOICES) 2 m__law_locked) := FI__law_locked.okZ sc__law_locked (fun _ _ _ _ h => MR.spM_len h) (d__law_locked T I__law_take) (fun H vs Q E h => MR.spM_run (xa := ⟨0, .none, none, 0⟩) (q__law_locked X0) h)
  have I__law_writing : FnZ l.prog w K mg base 3 "_law_writing" ["pool"] (spM K (Gam w a_Book a_BadText a_BadBook a_UnknownPart a_PagesError a_CHOICES) 1 m__law_writing) := FI__law_writing.okZ sc__law_writing (fun _ _ _ _ h => MR.spM_len h) (d__law_writing T I__law_take I__law_locked) (fun H vs Q E h => MR.spM_run (xa := ⟨0, .none, none, 0⟩) (q__law_writing X0) h)
  have I__law_cleaning : FnZ l.prog w K mg base 3 "_law_cleaning" ["pool"] (spM K (Gam w a_Book a_BadText a_BadBook a_UnknownPart a_PagesError a_CHOICES) 1 m__law_cleaning) := FI__law_cleaning.okZ sc__law_cleaning (fun _ _ _ _ h => MR.spM_len h) (d__law_cleaning T I__law_take I__law_locked) (fun H vs Q E h => MR.spM_run (xa := ⟨0, .none, none, 0⟩) (q__law_cleaning X0) h)
  have I__law_reading : FnZ l.prog w K mg base 2 "_law_reading" ["pool"] (spM K (Gam w a_Book a_BadText a_BadBook a_UnknownPart a_PagesError a_CHOICES) 1 m__law_reading) := FI__law_reading.okZ sc__law_reading (fun _ _ _ _ h => MR.spM_len h) (d__law_reading T I__law_take) (fun H vs Q E h => MR.spM_run (xa := ⟨0, .none, none, 0⟩) (q__law_reading X0) h)
  have I__law_parts : FnZ l.prog w K mg base 4 "_law_parts" ["pool"] (spM K (Gam w a_Book a_BadText a_BadBook a_UnknownPart a_PagesError a_CHOICES) 1 m__law_parts) := FI__law_parts.okZ sc__law_parts (fun _ _ _ _ h => MR.spM_len h) (d__law_parts T I__law_take I__law_writing I__law_cleaning I__law_reading) (fun H vs Q E h => MR.spM_run (xa := ⟨0, .none, none, 0⟩) (q__law_parts X0) h)
  have I__law_names : FnZ l.prog w K mg base 1 "_law_names" [] (spM K (Gam w a_Book a_BadText a_BadBook a_UnknownPart a_PagesError a_CHOICES) 0 m__law_names) := FI__law_names.okZ sc__law_names (fun _ _ _ _ h => MR.spM_len h) (d__law_names T) (fun H vs Q E h => MR.spM_run (xa := ⟨0, .none, none, 0⟩) (q__law_names X0) h)
  have I__law_lines : FnZ l.prog w K mg base 2 "_law_lines" ["p"] (spM K (Gam w a_Book a_BadText a_BadBook a_UnknownPart a_PagesError a_CHOICES) 1 m__law_lines) := FI__law_lines.okZ sc__law_lines (fun _ _ _ _ h => MR.spM_len h) (d__law_lines T I__law_names) (fun H vs Q E h => MR.spM_run (xa := ⟨0, .none, none, 0⟩) (q__law_lines X0) h)
  have I__law_refused : FnZ l.prog w K mg base 8 "_law_refused" ["text"] (spM K (Gam w a_Book a_BadText a_BadBook a_UnknownPart a_PagesError a_CHOICES) 1 m__law_refused) := FI__law_refused.okZ sc__law_refused (fun _ _ _ _ h => MR.spM_len h) (d__law_refused T I_read_book) (fun H vs Q E h => MR.spM_run (xa := ⟨0, .none, none, 0⟩) (q__law_refused X0) h)
  exact TP.okG F_law sc_law (fun vs _ _ _ h => by obtain ⟨_, _, rfl, _⟩ := h; rfl) (fun cdv A outer s H vs Q E hr h => ⟨_, d_law T I__law_pool I__law_take I__law_parts I__law_names I__law_lines I__law_refused fa cdv A outer s H E hr, by obtain ⟨a, ns, rfl, hS, hl, hq⟩ := h; exact MR.spM_run (xa := ⟨0, .none, none, 0⟩) (q_law X0) (MR.law_in hS hl (law_ok ns) hq)⟩)
theorem walk {l : PySem.W.OpenLaw} {q : Program} {loose : List Str} {XP : (Str → Option Value) → Heap → Prop} {YP : World → Heap → Prop} {d : DefRec} {K : Params → PySem.W.Frag} (hn : l.most = some 63) (hdf : d.params.defaults = [])
    (hY : ∀ (w : World) (h : Heap), YP w h → (K w.params).In h)
    (F : ∀ (w : World) (mg : Str → Option Value) (fa : Addr) (h : Heap), (K w.params).In h → h.Ns mainGlobals mg → mg d.name = some (.ref fa) →
      ∃ fd : FuncData, (∀ (s : Shared) (u : Value), BindsTo s fd ⟨[u], []⟩ [("script", u)]) ∧ ∀ base : Heap, (K w.params).In base → base.Ns mainGlobals mg → TP.FnOk l.prog w (K w.params) mg base (L2.CX l.prog w) 9 fa fd ["script"] (sp_law (K w.params))) :
    PySem.W.WalkO q loose XP YP l.row.toRowW d [] (fun f vs => PySem.call f vs) :=
  TP.walk_top (n := 63) (k := 9) (x := "script") (CX := fun w => L2.CX l.prog w) (sp := fun w => sp_law (K w.params)) hn (by decide) hdf ⟨⟨rfl, by decide, by decide⟩, rfl⟩ hY F (fun _ _ a ns hl _ hS => ⟨a, ns, rfl, hS, hl, fun _ => rfl⟩) fun _ _ _ _ _ ⟨_, _, _, _, _, _, _, _, _, _, _, _, z⟩ => z

end
end Law
local macro_rules | `(tactic| walk_at "zz") => `(tactic| first | k_is | exact rfl | kernel_rfl! | decide +kernel)
open PySem PySem.W PyProof.Rows in
set_option maxRecDepth 100000 in
set_option maxHeartbeats 0 in
theorem PySem.Challenge.cw_trustedpages_k73_texts_refused_holds : PySem.Challenge.rw_trustedpages_k73_texts_refused.Holds := by
  w_on; o_law; k_head; (case hw => w_witness2)
  k_fill
  refine Law.walk (l := PySem.Challenge.rw_trustedpages_k73_texts_refused) rfl rfl (fun w h Y => PySem.W.kIn_of Y) ?F
  case F =>
    intro w mg fa h KX G hmg
    refine' Law.all_mk KX G hmg ?x_Book ?x_BadText ?x_BadBook ?x_UnknownPart ?x_PagesError ?x_CHOICES ?z_len ?z_isinstance ?z_int ?z_bool ?z_range ?z_list ?z_tuple ?z_str ?z_set ?z_all ?z_zip ?z_enumerate ?z_max ?z_min ?x_SIGN ?x_WRITER_WORDS ?y_WRITER_WORDS ?x_CLEANER_WORDS ?y_CLEANER_WORDS ?x_READER_WORDS ?y_READER_WORDS ?x_PARTS ?y_PARTS ?yd_CHOICES ?y_CHOICES_0 ?y_CHOICES_1 ?hh0_CHOICES ?hh1_CHOICES ?ns_CHOICES ?gget ?gtak ?pg_Book ?hd_Book ?po_Book ?sa_Book ?ca_Book ?cm_Book ?sf_Book ?nq_Book ?ne_Book ?mk_Book ?kc_Book ?na_Book_chosen ?kt_Book ?tk_Book ?nt_Book ?nc_Book_Book ?qt_PagesError_BadText ?qt_PagesError_BadBook ?qt_PagesError_UnknownPart ?qx_BadText_BadText ?qx_BadText_BadBook ?ec_BadText ?er_BadText ?es_BadText ?ex_BadText ?et_BadText ?ek_BadText ?eg_BadText ?ey_BadText ?eh_BadText ?ea_BadText ?eo_BadText ?en_BadText ?el_BadText ?em_BadText ?ev_BadText ?ei_BadText ?ej_BadText ?il_BadText ?ic_BadText ?id_BadText ?ie_BadText ?if_BadText ?ig_BadText ?ec_BadBook ?er_BadBook ?es_BadBook ?ex_BadBook ?et_BadBook ?ek_BadBook ?eg_BadBook ?ey_BadBook ?eh_BadBook ?ea_BadBook ?eo_BadBook ?en_BadBook ?el_BadBook ?em_BadBook ?ev_BadBook ?ei_BadBook ?ej_BadBook ?il_BadBook ?ic_BadBook ?id_BadBook ?ie_BadBook ?if_BadBook ?ig_BadBook ?ec_UnknownPart ?er_UnknownPart ?es_UnknownPart ?ex_UnknownPart ?et_UnknownPart ?ek_UnknownPart ?eg_UnknownPart ?ey_UnknownPart ?eh_UnknownPart ?ea_UnknownPart ?eo_UnknownPart ?en_UnknownPart ?el_UnknownPart ?em_UnknownPart ?ev_UnknownPart ?ei_UnknownPart ?ej_UnknownPart ?il_UnknownPart ?ic_UnknownPart ?id_UnknownPart ?ie_UnknownPart ?if_UnknownPart ?ig_UnknownPart ?z_super ?z_opq ?z_top ?a_words_of ?l_words_of ?c_words_of ?k_words_of ?a_all_there ?l_all_there ?c_all_there ?k_all_there ?a_is_ahead ?l_is_ahead ?c_is_ahead ?k_is_ahead ?a_is_locked_well ?l_is_locked_well ?c_is_locked_well ?k_is_locked_well ?a_is_writer ?l_is_writer ?c_is_writer ?k_is_writer ?a_is_cleaner ?l_is_cleaner ?c_is_cleaner ?k_is_cleaner ?a_is_reader ?l_is_reader ?c_is_reader ?k_is_reader ?a_is_part ?l_is_part ?c_is_part ?k_is_part ?a_is_allowed ?l_is_allowed ?c_is_allowed ?k_is_allowed ?a_BookU_initU ?l_BookU_initU ?kd_BookU_initU_horizon ?kd_BookU_initU_pins ?kd_BookU_initU_cleared ?kd_BookU_initU_sets ?kd_BookU_initU_force ?kd_BookU_initU_ahead ?kd_BookU_initU_first ?kd_BookU_initU_waits ?kd_BookU_initU_follower ?c_BookU_initU ?k_BookU_initU ?i_BookU_initU ?j_BookU_initU ?a_value_of ?l_value_of ?c_value_of ?k_value_of ?a_read_book ?l_read_book ?c_read_book ?k_read_book ?a__law_pool ?l__law_pool ?c__law_pool ?k__law_pool ?a__law_take ?l__law_take ?c__law_take ?k__law_take ?a__law_locked ?l__law_locked ?c__law_locked ?k__law_locked ?a__law_writing ?l__law_writing ?c__law_writing ?k__law_writing ?a__law_cleaning ?l__law_cleaning ?c__law_cleaning ?k__law_cleaning ?a__law_reading ?l__law_reading ?c__law_reading ?k__law_reading ?a__law_parts ?l__law_parts ?c__law_parts ?k__law_parts ?a__law_names ?l__law_names ?c__law_names ?k__law_names ?a__law_lines ?l__law_lines ?c__law_lines ?k__law_lines ?a__law_refused ?l__law_refused ?c__law_refused ?k__law_refused ?a_law ?l_law ?c_law ?k_law
    case x_Book | x_BadText | x_BadBook | x_UnknownPart | x_PagesError | x_CHOICES | z_len | z_isinstance | z_int | z_bool | z_range | z_list | z_tuple | z_str | z_set | z_all | z_zip | z_enumerate | z_max | z_min | x_SIGN | x_WRITER_WORDS | y_WRITER_WORDS | x_CLEANER_WORDS | y_CLEANER_WORDS | x_READER_WORDS | y_READER_WORDS | x_PARTS | y_PARTS | yd_CHOICES | y_CHOICES_0 | y_CHOICES_1 | hh0_CHOICES | hh1_CHOICES | ns_CHOICES | gget | gtak | pg_Book | hd_Book | po_Book => walk_at "zz"
    case sa_Book | ca_Book | cm_Book | sf_Book | nq_Book | ne_Book | mk_Book | kc_Book | na_Book_chosen | kt_Book | tk_Book | nt_Book | nc_Book_Book | qt_PagesError_BadText | qt_PagesError_BadBook | qt_PagesError_UnknownPart | qx_BadText_BadText | qx_BadText_BadBook | ec_BadText | er_BadText | es_BadText | ex_BadText | et_BadText | ek_BadText | eg_BadText | ey_BadText | eh_BadText | ea_BadText | eo_BadText | en_BadText | el_BadText | em_BadText | ev_BadText | ei_BadText | ej_BadText | il_BadText | ic_BadText | id_BadText | ie_BadText | if_BadText => walk_at "zz"
    case ig_BadText | ec_BadBook | er_BadBook | es_BadBook | ex_BadBook | et_BadBook | ek_BadBook | eg_BadBook | ey_BadBook | eh_BadBook | ea_BadBook | eo_BadBook | en_BadBook | el_BadBook | em_BadBook | ev_BadBook | ei_BadBook | ej_BadBook | il_BadBook | ic_BadBook | id_BadBook | ie_BadBook | if_BadBook | ig_BadBook | ec_UnknownPart | er_UnknownPart | es_UnknownPart | ex_UnknownPart | et_UnknownPart | ek_UnknownPart | eg_UnknownPart | ey_UnknownPart | eh_UnknownPart | ea_UnknownPart | eo_UnknownPart | en_UnknownPart | el_UnknownPart | em_UnknownPart | ev_UnknownPart | ei_UnknownPart => walk_at "zz"
    case ej_UnknownPart | il_UnknownPart | ic_UnknownPart | id_UnknownPart | ie_UnknownPart | if_UnknownPart | ig_UnknownPart | z_super | z_opq | z_top | a_words_of | l_words_of | c_words_of | k_words_of | a_all_there | l_all_there | c_all_there | k_all_there | a_is_ahead | l_is_ahead | c_is_ahead | k_is_ahead | a_is_locked_well | l_is_locked_well | c_is_locked_well | k_is_locked_well | a_is_writer | l_is_writer | c_is_writer | k_is_writer | a_is_cleaner | l_is_cleaner | c_is_cleaner | k_is_cleaner | a_is_reader | l_is_reader | c_is_reader | k_is_reader | a_is_part | l_is_part => walk_at "zz"
    case c_is_part | k_is_part | a_is_allowed | l_is_allowed | c_is_allowed | k_is_allowed | a_BookU_initU | l_BookU_initU | kd_BookU_initU_horizon | kd_BookU_initU_pins | kd_BookU_initU_cleared | kd_BookU_initU_sets | kd_BookU_initU_force | kd_BookU_initU_ahead | kd_BookU_initU_first | kd_BookU_initU_waits | kd_BookU_initU_follower | c_BookU_initU | k_BookU_initU | i_BookU_initU | j_BookU_initU | a_value_of | l_value_of | c_value_of | k_value_of | a_read_book | l_read_book | c_read_book | k_read_book | a__law_pool | l__law_pool | c__law_pool | k__law_pool | a__law_take | l__law_take | c__law_take | k__law_take | a__law_locked | l__law_locked | c__law_locked => walk_at "zz"
    case k__law_locked | a__law_writing | l__law_writing | c__law_writing | k__law_writing | a__law_cleaning | l__law_cleaning | c__law_cleaning | k__law_cleaning | a__law_reading | l__law_reading | c__law_reading | k__law_reading | a__law_parts | l__law_parts | c__law_parts | k__law_parts | a__law_names | l__law_names | c__law_names | k__law_names | a__law_lines | l__law_lines | c__law_lines | k__law_lines | a__law_refused | l__law_refused | c__law_refused | k__law_refused | a_law | l_law | c_law | k_law => walk_at "zz"
