import PyProof.Rows.All
import Wide.All
import OpenK.AllK
import Wide.FinOn
import HandS.ForMost
import HandS.ForExc
import HandS.IsInst
import HandS.Strs
import HandS.Wide
import HandS.EndBits
import PySem.Challenge.RW_trustedpages_k14_orders_of_words
set_option Elab.async false
set_option linter.all false
set_option maxRecDepth 100000
set_option maxHeartbeats 4000000
namespace TP
open PySem PySem.Spec PyProof.Rows L2

/-! ### operators, whatever the kinds of the operands -/
def rPlus : R2 := fun x y H Q => rI0 (fun i j => .int (i + j)) x y H Q ∨ (∃ i j, x = .str i ∧ y = .str j ∧ i.length + j.length ≤ sizeLine ∧ Q (.str (i ++ j)) H) ∨ rCat x y H Q
def rMinus : R2 := rI0 fun i j => .int (i - j)
def rTimes : R2 := fun x y H Q => rI CMul (fun i j => .int (i * j)) x y H Q ∨ rRep x y H Q
def rRest : R2 := rI (fun _ j => 0 < j) fun i j => .int (i % j)
def rQuot : R2 := rI CDivW fun i j => .int (i / j)
def rPow : R2 := rI CPow fun i j => .int (i ^ j.toNat)
def rLess : R2 := rI0 fun i j => .bl (decide (i < j))
def rLeq : R2 := rI0 fun i j => .bl (decide (i ≤ j))
def rMore : R2 := rI0 fun i j => .bl (decide (j < i))
def rGeq : R2 := rI0 fun i j => .bl (decide (j ≤ i))
def rSame (K : PySem.W.Frag) : R2 := fun x y H Q => rEq x y H Q ∨ rEqD K x y H Q
def rUnlike (K : PySem.W.Frag) : R2 := fun x y H Q => rNe x y H Q ∨ rNeD K x y H Q
def rIsNo : R2 := fun x y H Q => y = .non ∧ Q (.bl (decide (x = .non))) H
def rIsntNo : R2 := fun x y H Q => y = .non ∧ Q (.bl (!decide (x = .non))) H
def rNeg : V → Hp → VK → Prop := rU fun i => .int (-i)
def rLen (K : PySem.W.Frag) : List V → Hp → VK → Prop := fun xs H Q => ∃ x n, xs = [x] ∧ LenV K x H n ∧ Q (.int n) H
def rInt1 : List V → Hp → VK → Prop := fun xs H Q => (∃ i, xs = [.int i] ∧ Q (.int i) H) ∨ ∃ k, xs = [.bl k] ∧ Q (.int (if k then 1 else 0)) H
def rListOf (K : PySem.W.Frag) : List V → Hp → VK → Prop := fun xs H Q => ∃ p ys, xs = [.ref p] ∧ (SqL K H p ys ∨ SqT K H p ys) ∧ ∀ l, H l = none → Q (.ref l) (upd H l (.lst ys))
def rTupleOf (K : PySem.W.Frag) : List V → Hp → VK → Prop := fun xs H Q => ∃ p ys, xs = [.ref p] ∧ ((SqL K H p ys ∧ ∀ l, H l = none → Q (.ref l) (upd H l (.tup ys))) ∨ (SqT K H p ys ∧ Q (.ref p) H))
def rSplit : V → List V → Hp → VK → Prop := fun x xs H Q => ∃ a b, x = .str a ∧ xs = [.str b] ∧ (b.length == 0) = false ∧ a.length + 2 ≤ sizeLine ∧ rNewStrs (Txt.split a b) H Q
def rJoin (K : PySem.W.Frag) : V → List V → Hp → VK → Prop := fun x xs H Q => ∃ a p, ∃ ys : List Str, x = .str a ∧ xs = [.ref p] ∧ (SqL K H p (ys.map V.str) ∨ SqT K H p (ys.map V.str)) ∧
    (ys.map (·.length)).sum + ys.length * a.length ≤ 16777216 ∧ Q (.str (Txt.join a ys)) H
section
variable {X : Cx}
theorem op_plus : OpR X (binaryOp .Add) rPlus := op_add.or (op_add_str.or op_cat)
theorem op_minus : OpR X (binaryOp .Sub) rMinus := op_sub
theorem op_times : OpR X (binaryOp .Mult) rTimes := op_mul.or op_rep
theorem op_rest : OpR X (binaryOp .Mod) rRest := op_mod
theorem op_quot : OpR X (binaryOp .FloorDiv) rQuot := op_fdivW
theorem op_power : OpR X (binaryOp .Pow) rPow := op_pow
theorem op_less : OpR X (compareOp .Lt) rLess := op_lt
theorem op_leq : OpR X (compareOp .LtE) rLeq := op_le
theorem op_more : OpR X (compareOp .Gt) rMore := op_gt
theorem op_geq : OpR X (compareOp .GtE) rGeq := op_ge
theorem op_same (hu : X.A.units + 64 < cLine) : OpR X (compareOp .Eq) (rSame X.K) := op_eq.or (op_eqD hu)
theorem op_unlike (hu : X.A.units + 64 < cLine) : OpR X (compareOp .NotEq) (rUnlike X.K) := op_ne.or (op_neD hu)
theorem op_isno : OpR X (compareOp .Is) rIsNo := op_isN
theorem op_isntno : OpR X (compareOp .IsNot) rIsntNo := op_notN
theorem un_minus : UnR X (unaryOp .USub) rNeg := un_neg
theorem cr_len : CallR X (.builtin "len") (rLen X.K) := call_len
theorem cr_int1 : CallR X (.type "int") rInt1 := call_int1
theorem cr_list : CallR X (.type "list") (rListOf X.K) := call_list_of
theorem cr_tuple : CallR X (.type "tuple") (rTupleOf X.K) := call_tuple_of
end

/-! ### a def as it stands (FunI), a def that keeps its promise (FnI) -/
structure FunI (K : PySem.W.Frag) (mg : Str → Option Value) (x : Str) (st : Stmt) (ps : List Str) : Prop where
  ex : ∃ (f : Addr) (fd : FuncData), mg x = some (.ref f) ∧ Fun K x x st f fd ∧ Binds K fd ps []
structure FnI (P : Program) (w : World) (K : PySem.W.Frag) (mg : Str → Option Value) (base : Heap) (CX : CXT) (k : Nat) (x : Str) (ps : List Str) (sp : Sp) : Prop where
  ex : ∃ (f : Addr) (fd : FuncData), mg x = some (.ref f) ∧ PySem.W.keepIn K (.ref f) = true ∧ FnOk P w K mg base CX k f fd ps sp ∧ Binds K fd ps []
section
variable {P : Program} {w : World} {K : PySem.W.Frag} {mg : Str → Option Value} {base : Heap}
theorem FunI.ok {x : Str} {st : Stmt} {N ps : List Str} {k : Nat} {sp : Sp} (F : FunI K mg x st ps) (S : FnScope N ps (defScope st)) (len : ∀ vs H Q E, sp vs H Q E → vs.length = ps.length) {t : TS}
    (hd : ∀ (f : Addr) (cdv : Value) (A : Around) (outer : List Env) (s : Shared) (H : Hp) (E : XK), Room k (A.deeper (envOfC x (defScope st) s.heap.objs.size f cdv)) →
      PSs (cxOf CX0 P w K mg base N x (defScope st) f cdv A outer s H E).nox (defBody st) t)
    (hb : ∀ (H : Hp) (vs : List V) (Q : VK) (E : XK), sp vs H Q E → t { nx := fun _ H' => Q .non H', rt := Q } (start N vs) H) : FnI P w K mg base CX0 (k + 1) x ps sp := by
  obtain ⟨f, fd, hm, F, b⟩ := F.ex
  exact ⟨f, fd, hm, F.kp, F.ok S len fun cdv A outer s H vs Q E hr h => ⟨t, hd f cdv A outer s H E hr, hb H vs Q E h⟩, b⟩
end
section
variable {X : Cx} {CX : CXT} {k j : Nat} {ps : List Str} {sp : Sp} {E : XK} {x : Str} {p pos : Pos} {e : Expr} {es : List Expr} {t : TA}
theorem pe_callI (I : FnI X.prog X.w X.K X.mg X.base CX k x ps sp) (hr : Room j X.A) (hk : k ≤ j) (hx : Passes CX X E) (ha : PA X (e :: es) t) (hg : Gl X x := by rfl)
    (hdb : (x == ("__debug__" : Str)) = false := by decide) (he : starEach (e :: es) X.env = (false, eval e X.env) :: starEach es X.env := by rfl) (hpl : (backTo pos (starEach es X.env)).any (·.1) = false := by rfl) :
    PE X (.Call (.Name x p) (e :: es) [] pos) (tCall sp [] E t) := by
  obtain ⟨f, fd, hm, kp, F, b⟩ := I.ex
  exact pe_call F (hr.mono hk) hg hm kp b .nil hx ha hdb he hpl
theorem pe_callI0 (I : FnI X.prog X.w X.K X.mg X.base CX k x ps sp) (hr : Room j X.A) (hk : k ≤ j) (hx : Passes CX X E) (hg : Gl X x := by rfl)
    (hdb : (x == ("__debug__" : Str)) = false := by decide) : PE X (.Call (.Name x p) [] [] pos) (tCall sp [] E tNil) := by
  obtain ⟨f, fd, hm, kp, F, b⟩ := I.ex
  exact pe_call0 F (hr.mono hk) hg hm kp b .nil hx hdb
end
def tTru (K : PySem.W.Frag) (ta : TE) : TT := fun σ H Q => ta σ H fun x H' => ∃ k, TruV K x H' k ∧ Q k H'
theorem pe_globI {X : Cx} {x : Str} {i : Int} {pos : Pos} (h : ∃ t, X.mg x = some (.int i t)) (hg : Gl X x := by rfl) (hd : (x == ("__debug__" : Str)) = false := by decide) : PE X (.Name x pos) (tC (.int i)) := by
  obtain ⟨t, h⟩ := h
  exact pe_glob hg h ⟨t, rfl⟩ hd
theorem pe_globA {X : Cx} {x : Str} {a : Addr} {pos : Pos} (h : X.mg x = some (.ref a)) (hg : Gl X x := by rfl) (hd : (x == ("__debug__" : Str)) = false := by decide) : PE X (.Name x pos) (tC (.ref a)) := pe_glob hg h rfl hd
end TP

namespace TP
open PySem PySem.Spec PyProof.Rows L2
/-! ### set(xs), xs a list of keys of one kind: what is in it, and how many -/
def met {κ : Type} [DecidableEq κ] : List κ → List κ
  | [] => []
  | x :: r => if x ∈ met r then met r else x :: met r
/-- the keys met in the first i ones, in turn -/
def metTo {κ : Type} [DecidableEq κ] (f : Nat → κ) : Nat → List κ
  | 0 => []
  | i + 1 => if f i ∈ metTo f i then metTo f i else f i :: metTo f i
section
variable {κ : Type} [DecidableEq κ]
theorem metTo_len (f : Nat → κ) : ∀ i, (metTo f i).length ≤ i
  | 0 => Nat.le_refl _
  | i + 1 => by
    have ih := metTo_len f i
    unfold metTo
    split
    · omega
    · simp only [List.length_cons]; omega
theorem metTo_mem (f : Nat → κ) (k : κ) : ∀ i, k ∈ metTo f i ↔ ∃ j, j < i ∧ f j = k
  | 0 => by simp [metTo]
  | i + 1 => by
    have ih := metTo_mem f k i
    have step : (∃ j, j < i + 1 ∧ f j = k) ↔ (∃ j, j < i ∧ f j = k) ∨ f i = k := by
      constructor
      · rintro ⟨j, hj, e⟩
        by_cases q : j = i
        · subst q; exact .inr e
        · exact .inl ⟨j, by omega, e⟩
      · rintro (⟨j, hj, e⟩ | e)
        · exact ⟨j, by omega, e⟩
        · exact ⟨i, by omega, e⟩
    rw [step, ← ih]
    show k ∈ (if f i ∈ metTo f i then metTo f i else f i :: metTo f i) ↔ _
    split
    · rename_i h
      constructor
      · exact .inl
      · rintro (q | q)
        · exact q
        · rw [← q]; exact h
    · simp only [List.mem_cons]
      constructor
      · rintro (q | q)
        · exact .inr q.symm
        · exact .inl q
      · rintro (q | q)
        · exact .inr q
        · exact .inl q.symm
theorem metTo_nodup (f : Nat → κ) : ∀ i, (metTo f i).Nodup
  | 0 => List.nodup_nil
  | i + 1 => by
    unfold metTo
    split
    · exact metTo_nodup f i
    · rename_i h
      exact List.nodup_cons.mpr ⟨h, metTo_nodup f i⟩
theorem metTo_full (f : Nat → κ) : ∀ i, (metTo f i).length = i ↔ ∀ a b, a < b → b < i → f a ≠ f b
  | 0 => by simp [metTo]
  | i + 1 => by
    have ih := metTo_full f i
    have le := metTo_len f i
    have mm := metTo_mem f (f i) i
    show (if f i ∈ metTo f i then metTo f i else f i :: metTo f i).length = i + 1 ↔ _
    split
    · rename_i h
      constructor
      · intro q; omega
      · intro q
        obtain ⟨j, hj, e⟩ := mm.mp h
        exact absurd e (q j i hj (Nat.lt_succ_self _))
    · rename_i h
      constructor
      · intro q a b hab hb
        have q' : (metTo f i).length = i := by simpa using q
        by_cases z : b = i
        · subst z
          exact fun e => h (mm.mpr ⟨a, hab, e⟩)
        · exact ih.mp q' a b hab (by omega)
      · intro q
        have q' := ih.mpr fun a b hab hb => q a b hab (by omega)
        simp only [List.length_cons, q']
theorem metTo_list (xs : List κ) (d : κ) : (metTo (fun i => xs.getD i d) xs.length).length = xs.length ↔ xs.Nodup := by
  rw [metTo_full]
  constructor
  · intro h
    rw [List.nodup_iff_pairwise_ne, List.pairwise_iff_getElem]
    intro i j hi hj hij
    have z := h i j hij hj
    simpa [List.getD, hi, hj] using z
  · intro h a b hab hb e
    rw [List.nodup_iff_pairwise_ne, List.pairwise_iff_getElem] at h
    have ha : a < xs.length := by omega
    exact h a b ha hb hab (by simpa [List.getD, ha, hb] using e)
end
abbrev nset (led : Bool) : Obj := { cls := .type "set", dict := none, data := .set #[] 0 (.fresh 0 0 led) }
section
variable {prog : Program} {w : World} {κ : Type} [DecidableEq κ]
theorem setOf_as {knd : PySem.KeyKind prog w κ} {h : Heap} {a : Addr} {S S' : κ → Bool} {n n' : Nat} (hS : h.SetOf knd a S n) (e : ∀ k, S k = S' k) (en : n = n') : h.SetOf knd a S' n' := by
  obtain rfl : S = S' := funext e
  subst en
  exact hS
section
variable {A : Around} {R : Result → Shared → Prop} {I : Addr} {fp wr : List Addr} {G : Array GenState → Array GenState → Prop} {n : Nat} {P : Nat → Value → Prop} {St : Nat → Shared → Prop}
theorem set_loop (knd : PySem.KeyKind prog w κ) (W : WalksS prog w A.in1 I fp wr G n P St) (a : Addr) (hf : a ∉ fp) (f : Nat → κ) (hval : ∀ i v, P i v → knd.is (f i) v = true ∧ v.scannable = true) (hb : n + 1 < scanBound) :
    ∀ (k i : Nat) (s : Shared), n - i = k → i ≤ n → St i s → s.heap.SetOf knd a (fun z => decide (z ∈ metTo f i)) (metTo f i).length →
      (∀ s', Moved (a :: wr) G s s' → s'.heap.SetOf knd a (fun z => decide (z ∈ metTo f n)) (metTo f n).length → R (.ok (.ret .none)) s') →
      codeAny (model prog w) A (.builtin "set.update.loop" ⟨[.ref a, .ref I], []⟩) R s := by
  have hw : a ∉ wr := fun h => hf (W.sub _ h)
  have sub : ∀ b ∈ wr, b ∈ a :: wr := fun b hb => List.mem_cons_of_mem _ hb
  have stay : ∀ {s s' : Shared} {i : Nat}, Moved wr G s s' → s.heap.SetOf knd a (fun z => decide (z ∈ metTo f i)) (metTo f i).length → s'.heap.SetOf knd a (fun z => decide (z ∈ metTo f i)) (metTo f i).length := fun hm hS => by
    obtain ⟨o, es, ep, t, ho, rest⟩ := hS
    exact ⟨o, es, ep, t, hm.heap a _ hw ho, rest⟩
  intro k
  induction k with
  | zero =>
    intro i s hk hi hst hS hR
    obtain rfl : i = n := by omega
    refine codeAny_builtin F.entry_set_update_loop ?_
    rw [Around.under_plainId F.plain_set_update_loop _]
    refine wpAny_bind (m := pyNext (.ref I)) (W.done s _ _ hst fun s' hm => ?_)
    exact wpAny_pure (hR s' (hm.mono sub) (stay hm hS))
  | succ k ih =>
    intro i s hk hi hst hS hR
    have hlt : i < n := by omega
    refine codeAny_builtin F.entry_set_update_loop ?_
    rw [Around.under_plainId F.plain_set_update_loop _]
    refine wpAny_bind (m := pyNext (.ref I)) (W.item i s _ _ hlt hst fun v s' hP hst' hm => ?_)
    obtain ⟨hv, hsc⟩ := hval i v hP
    have hS' := stay hm hS
    refine wpAny_bind (m := holding [v] (setAdd a v)) (wpAny_holding ?_)
    unfold setAdd
    refine wpAny_holding (wpAny_bind (knd.pyHash (k := f i) hv ?_))
    have room : (metTo f i).length + 1 < scanBound := by have := metTo_len f i; omega
    refine wpAny_setAddHashed_of (knd := knd) (s := { s' with toks := s'.toks + 1 }) hv hsc hS' room fun h' hsb hS2 => ?_
    have hSi : h'.SetOf knd a (fun z => decide (z ∈ metTo f (i + 1))) (metTo f (i + 1)).length := by
      refine setOf_as hS2 (fun z => ?_) ?_
      · rw [← Bool.decide_or]
        refine decide_eq_decide.mpr ?_
        show _ ↔ z ∈ (if f i ∈ metTo f i then metTo f i else f i :: metTo f i)
        split
        · rename_i q
          constructor
          · rintro (h | h)
            · exact h
            · rw [h]; exact q
          · exact .inl
        · rw [List.mem_cons]
          exact Or.comm
      · show _ = (if f i ∈ metTo f i then metTo f i else f i :: metTo f i).length
        by_cases q : f i ∈ metTo f i
        · simp [q]
        · simp [q]
    refine wpAny_pure ⟨plainId_quiet F.plain_set_update_loop _, ih (i + 1) _ (by omega) hlt (W.frame _ s' _ _ hst' (Nat.le_succ _) fun b hb o e => ?_) hSi fun s'' hm'' hS'' => ?_⟩
    · rw [hsb.2 b (fun h : b = a => hf (h ▸ hb))]; exact e
    · refine hR s'' (Moved.trans W.gtrans ((hm.mono sub).then_heap (Nat.le_succ _) fun b o hb e => ?_) hm'') hS''
      rw [hsb.2 b (fun h : b = a => hb (h ▸ List.mem_cons_self))]; exact e
end
section
variable {A : Around} {E : Value → Shared → Prop} {s : Shared}
/-- set(xs) -/
theorem call_set_keys (knd : PySem.KeyKind prog w κ) {l : Addr} {items : Array Value} {Q : Value → Shared → Prop} (f : Nat → κ)
    (hh : A.handled = none) (hl : s.heap.IsList l items) (hi : ∀ (i : Nat) v, items[i]? = some v → knd.is (f i) v = true ∧ v.scannable = true) (hb : items.size + 1 < scanBound)
    (h : ∀ (h' : Heap) (tk : Nat), h'.SetOf knd s.heap.objs.size (fun z => decide (z ∈ metTo f items.size)) (metTo f items.size).length →
      (∀ b o, b < s.heap.objs.size → s.heap.get? b = some o → h'.get? b = some o) → Q (.ref s.heap.objs.size) { s with heap := h', toks := tk }) :
    wpAny (model prog w) A (call (.type "set") [.ref l]) Q E s := by
  obtain ⟨c, tl, hmro⟩ := PySem.F.called_set.mro
  have hmade := PySem.F.called_set.made
  have hsub := PySem.F.called_set.sub
  refine wpAny_call (codeAny_of_tree ?_)
  refine wpAny_pure ⟨Code.quiet_builtin _ (by decide +kernel), codeAny_builtin PySem.F.entry_type_call ?_⟩
  rw [Around.under_plain (weight_type_call_type "set" [.ref l] []) rfl]
  have h1 := PySem.F.called_set.notType
  have h2 := PySem.F.called_set.canCreate
  have hct := PySem.F.typeCall_set_1 (.ref l)
  repeat (any_goals (first | assumption | wp_step))
  refine codeAny_mono (code_set_new_1 (.ref l) (E := E) (Q₁ := fun obj s₁ => ∃ led : Bool, obj = .ref s.heap.objs.size ∧ s₁ = { s with heap := s.heap.push (nset led) }) fun led => ⟨led, rfl, rfl⟩) fun r s₁ hr => ?_
  cases r with
  | error e => exact hr
  | ok fl =>
    cases fl with
    | ret obj =>
      obtain ⟨led, rfl, rfl⟩ := hr
      have hS : (s.heap.push (nset led)).get? s.heap.objs.size = some (nset led) := Heap.get?_push_size _ rfl
      have hT : Shared.TypeIs { s with heap := s.heap.push (nset led) } (.ref s.heap.objs.size) "set" := ⟨_, hS, rfl⟩
      have hli := PySem.F.called_set.init.lookup
      have hbi := PySem.F.called_set.init.bind (.ref s.heap.objs.size)
      repeat (any_goals (first | assumption | wp_step))
      refine codeAny_mono (codeAny_call_builtin (R := wants (fun r s₂ => r = .none ∧ ∃ h' tk, s₂ = { s with heap := h', toks := tk } ∧ h'.SetOf knd s.heap.objs.size (fun z => decide (z ∈ metTo f items.size)) (metTo f items.size).length ∧
          (∀ b o, b < s.heap.objs.size → s.heap.get? b = some o → h'.get? b = some o)) E) PySem.F.called_set.init.plain PySem.F.entry_set_init (check_set_init_1 hT ?_)) fun r₂ s₂ hr₂ => ?_
      · obtain ⟨⟨ocls, odict, odata, oslots⟩, hol, hcl, nl, hdl⟩ := hl
        simp only at hcl hdl
        subst hcl hdl
        have hol' : (s.heap.push (nset led)).get? l = some { cls := .type "list", dict := odict, data := .seq items nl, slots := oslots } := Heap.get?_push_of_some _ hol
        have hsls := PySem.F.sub_list_set
        have hslf := PySem.F.sub_list_frozenset
        have hne : (Value.type "list" == Value.type "dict") = false := by decide
        have hl1 : (s.heap.push (nset led)).IsList l items := ⟨_, hol', rfl, nl, rfl⟩
        unfold Builtin.«set.__init__» noKeywords Builtin.Frozenset.updateFrom
        generalize hPI : pyIter = PI
        wp_walk
        subst hPI
        refine wpAny_pyIter_list hl1 (wpAny_bind (wpAny_runValue ?_))
        have hlS : l < s.heap.objs.size := Heap.lt_size hol
        have hh3 : A.in1.in1.in1.handled = none := by simp [hh]
        have sz : (s.heap.push (nset led)).objs.size = s.heap.objs.size + 1 := Heap.size_push _ _
        have hneI : l ≠ (s.heap.push (nset led)).objs.size := by rw [sz]; exact Nat.ne_of_lt (Nat.lt_succ_of_lt hlS)
        have hSf : s.heap.objs.size ∉ [(s.heap.push (nset led)).objs.size, l] := by
          rw [sz]
          intro q
          rcases List.mem_cons.mp q with q | q
          · exact absurd q (Nat.ne_of_lt (Nat.lt_succ_self _))
          · exact absurd (List.mem_singleton.mp q) (Nat.ne_of_gt hlS)
        refine set_loop knd ((Walks.list hh3 _ l hneI items).toS) s.heap.objs.size hSf f hi hb (items.size - 0) 0 _ (by omega) (Nat.zero_le _) ⟨⟨_, Heap.get?_push_size _ rfl, rfl, rfl⟩, (hl1.push _)⟩ ?hS0 ?hR
        case hS0 =>
          refine setOf_as ((setObjOf_fresh (knd := knd) led).setOf (Heap.get?_push_of_some _ hS) (by unfold scanBound; omega)) (fun z => ?_) rfl
          simp [metTo]
        case hR =>
          intro s' hm hS'
          obtain ⟨h', g', d', tk', os'⟩ := s'
          obtain rfl : g' = s.gens := hm.gens
          obtain rfl : d' = s.drawn := hm.drawn
          obtain rfl : os' = s.os := hm.os
          refine wpAny_pure (wpAny_pure ⟨rfl, h', tk', rfl, hS', fun b o hb e => ?_⟩)
          refine hm.heap b o (fun q => ?_) (Heap.get?_push_of_some _ (Heap.get?_push_of_some _ e))
          rcases List.mem_cons.mp q with q | q
          · exact absurd q (Nat.ne_of_lt hb)
          · have q' := List.mem_singleton.mp q
            rw [sz] at q'
            exact absurd q' (Nat.ne_of_lt (Nat.lt_succ_of_lt hb))
      · cases r₂ with
        | error e => exact hr₂
        | ok fl₂ =>
          cases fl₂ with
          | ret r =>
            obtain ⟨rfl, h', tk, rfl, hS', hk'⟩ := hr₂
            repeat (any_goals (first | assumption | wp_step))
            exact h _ _ hS' hk'
          | _ => exact hr₂.elim
    | _ => exact hr.elim
end
end
/-- len(set(xs)), xs a list of texts -/
theorem strAt : ∀ {xs : List Str} {us : List Value}, Vals (xs.map V.str) us → ∀ (i : Nat) v, us[i]? = some v → ∃ t, v = .str (xs.getD i Str.empty) t
  | [], _, .nil, i, v, h => by simp at h
  | x :: xs, _, .cons r t, 0, v, h => by
    obtain ⟨k, rfl⟩ := r
    obtain rfl := Option.some.inj h
    exact ⟨k, rfl⟩
  | x :: xs, _, .cons r t, i + 1, v, h => strAt t i v h
def tLenSetS (K : PySem.W.Frag) (ta : TE) : TE := fun σ H Q => ta σ H fun x H1 => ∃ l, ∃ xs : List Str, x = .ref l ∧ SqL K H1 l (xs.map V.str) ∧ xs.length ≤ 1000 ∧ ∀ n : Nat, (n = xs.length ↔ xs.Nodup) → Q (.int n) H1
theorem pe_lenSetS {X : Cx} {a : Expr} {ta : TE} {p p2 q pos : Pos} (hc : X.calm = true) (hg : Gl X "len") (hm : X.mg "len" = none) (hg2 : Gl X "set") (hm2 : X.mg "set" = none) (ha : PE X a ta)
    (na : starEach [a] X.env = (false, eval a X.env) :: starEach [] X.env := by rfl) : PE X (.Call (.Name "len" p) [.Call (.Name "set" p2) [a] [] q] [] pos) (tLenSetS X.K ta) := by
  refine ⟨fun pins s σ H Q I h => ?_⟩
  refine Call_ (ld_blt I hg hm boot_len (callWith_builtin1 (args_cons ?_ rfl) rfl rfl))
  refine Call_ (ld_blt I hg2 hm2 boot_set (callWith_type1 (args_cons (thn (ha.run pins s σ H _ I h) fun v s1 ⟨x, H1, I1, r1, q1⟩ => args_nil ?_) na) na rfl))
  obtain ⟨l, xs, rfl, hq, h1, q1⟩ := q1
  cases r1
  obtain ⟨its, r, pl, hz⟩ := I1.list hq
  have hl : its.toArray.size = xs.length := by rw [List.size_toArray, ← r.length, List.length_map]
  refine call_set_keys (PySem.strKind X.prog X.w) (fun i => xs.getD i Str.empty) (I1.ok.hd hc) pl.isList (fun i v hv => ?_) (by rw [hl]; unfold scanBound; omega) fun h' tk hS hk => args_nil ?_
  · obtain ⟨t, rfl⟩ := strAt r i v (by simpa using hv)
    exact ⟨strKind_is _ _ _ _, rfl⟩
  · rw [hl] at hS
    have hN := metTo_list xs Str.empty
    have hle := metTo_len (fun i => xs.getD i Str.empty) xs.length
    obtain ⟨o, es, ep, t, ho, hex, hd, _, _, _, hf, hn⟩ := hS
    have I2 : Inv X pins σ H1 { s1 with heap := h', toks := tk } := I1.kept fun b o e => hk b o (Heap.lt_size e) e
    exact call_len_set ho hex hd hf (by rw [hn]; omega) ⟨.int _, H1, I2.tok _, ⟨_, by rw [hn]⟩, q1 _ hN⟩
end TP

namespace TP
open PySem PySem.Spec PyProof.Rows L2
/-! ### readings, step by step: each lemma takes one head away -/
section
variable {σ : L2.St} {H : Hp} {Q : VK} {QB : Bool → Hp → Prop} {QA : List V → Hp → Prop} {D : Ends} {ta tb te to : TE} {tt tu : TT} {tl tr : TA} {ts us : TS} {x y v : V} {i j : Int} {K : PySem.W.Frag}
theorem go_var {n : Nat} (h : σ[n]? = some (some v)) (q : Q v H) : tVar n σ H Q := ⟨v, h, q⟩
theorem go_c (q : Q v H) : tC v σ H Q := q
theorem go_op {r : R2} (q : ta σ H fun x H1 => tb σ H1 fun y H2 => r x y H2 Q) : tOp r ta tb σ H Q := q
theorem go_un {r : V → Hp → VK → Prop} (q : ta σ H fun x H1 => r x H1 Q) : tUn r ta σ H Q := q
theorem go_lenSet (q : ta σ H fun x H1 => ∃ l, ∃ xs : List Str, x = .ref l ∧ SqL K H1 l (xs.map V.str) ∧ xs.length ≤ 1000 ∧ ∀ n : Nat, (n = xs.length ↔ xs.Nodup) → Q (.int n) H1) : tLenSetS K ta σ H Q := q
theorem go_nil (q : QA [] H) : tNil σ H QA := q
theorem go_cons (q : ta σ H fun x H1 => tl σ H1 fun xs H2 => QA (x :: xs) H2) : tCons ta tl σ H QA := q
theorem go_tup (q : tl σ H fun xs H1 => xs.length ≤ sizeLine ∧ ∀ p, H1 p = none → Q (.ref p) (upd H1 p (.tup xs))) : tTup tl σ H Q := q
theorem go_lst (q : tl σ H fun xs H1 => xs.length ≤ sizeLine ∧ ∀ p, H1 p = none → Q (.ref p) (upd H1 p (.lst xs))) : tLst tl σ H Q := q
theorem go_call {sp : Sp} {dvs : List V} {E : XK} (q : tl σ H fun vs H1 => sp (vs ++ dvs) H1 Q E) : tCall sp dvs E tl σ H Q := q
theorem go_cb {r : List V → Hp → VK → Prop} (q : tl σ H fun vs H1 => r vs H1 Q) : tCB r tl σ H Q := q
theorem go_bm {T : String} {r : V → List V → Hp → VK → Prop} (q : to σ H fun x H1 => tyV K T x H1 ∧ tl σ H1 fun xs H2 => r x xs H2 Q) : tBM K T r to tl σ H Q := q
theorem go_m1 {r : V → List V → Hp → VK → Prop} (q : to σ H fun x H1 => (∃ a, x = .str a) ∧ te σ H1 fun y H2 => r x [y] H2 Q) : tM1 r to te σ H Q := q
theorem go_sl {r : V → Option Int → Option Int → Hp → VK → Prop} {tlo thi : TO} (q : te σ H fun x H1 => tlo σ H1 fun l H2 => thi σ H2 fun u H3 => r x l u H3 Q) : tSl r te tlo thi σ H Q := q
theorem go_nopart {QO : Option Int → Hp → Prop} (q : QO none H) : tNoPart σ H QO := q
theorem go_part {QO : Option Int → Hp → Prop} (q : te σ H fun x H1 => ∃ i, x = .int i ∧ QO (some i) H1) : tPart te σ H QO := q
theorem go_notV (q : ta σ H fun x H1 => ∃ c, x = .bl c ∧ Q (.bl (!c)) H1) : tNotV ta σ H Q := q
theorem go_andV (q : ta σ H fun x H1 => ∃ c, x = .bl c ∧ if c = true then tb σ H1 Q else Q (.bl false) H1) : tAndV ta tb σ H Q := q
theorem go_orV (q : ta σ H fun x H1 => ∃ c, x = .bl c ∧ if c = true then Q (.bl true) H1 else tb σ H1 Q) : tOrV ta tb σ H Q := q
theorem go_ifE (q : tt σ H fun c H1 => if c = true then ta σ H1 Q else tb σ H1 Q) : tIf tt ta tb σ H Q := q
theorem go_test (q : ta σ H fun x H1 => ∃ k, x = .bl k ∧ QB k H1) : tTest ta σ H QB := q
theorem go_B (q : ta σ H fun x H1 => ∃ k, x = .bl k ∧ QB k H1) : tB ta σ H QB := q
theorem go_tru (q : ta σ H fun x H1 => ∃ k, TruV K x H1 k ∧ QB k H1) : tTru K ta σ H QB := q
theorem go_and (q : tt σ H fun c H1 => if c = true then tu σ H1 QB else QB false H1) : tAnd tt tu σ H QB := q
theorem go_or (q : tt σ H fun c H1 => if c = true then QB true H1 else tu σ H1 QB) : tOr tt tu σ H QB := q
theorem go_not (q : tt σ H fun c H1 => QB (!c) H1) : tNot tt σ H QB := q
theorem go_yes (q : QB true H) : tYes σ H QB := q
theorem go_bl {QQ : Bool → Prop} {b : Bool} (q : QQ b) : ∃ k, V.bl b = V.bl k ∧ QQ k := ⟨b, rfl, q⟩
theorem go_intx {QQ : Int → Prop} {b : Int} (q : QQ b) : ∃ k, V.int b = V.int k ∧ QQ k := ⟨b, rfl, q⟩
theorem go_strx {QQ : Prop} {b : Str} (q : QQ) : (∃ a, V.str b = V.str a) ∧ QQ := ⟨⟨b, rfl⟩, q⟩
theorem go_seq (q : ts { D with nx := us D } σ H) : tSeq ts us D σ H := q
theorem go_cut (M : L2.St → Hp → Prop) (h1 : (∀ σ2 H2, M σ2 H2 → us D σ2 H2) → ts { D with nx := us D } σ H) (h2 : ∀ σ2 H2, M σ2 H2 → us D σ2 H2) : tSeq ts us D σ H := h1 h2
theorem go_next (q : D.nx σ H) : tNext D σ H := q
theorem go_asg {g : TG} (q : te σ H fun x H1 => g x σ H1 D.nx) : tAsg te g D σ H := q
theorem go_name {n : Nat} {QS : L2.St → Hp → Prop} (q : QS (σ.set n (some v)) H) : gName n v σ H QS := q
theorem go_gsub {ti : TE} {tst : TSet} {QS : L2.St → Hp → Prop} (q : to σ H fun o H1 => ti σ H1 fun i H2 => tst o i v H2 fun H3 => QS σ H3) : gSub to ti tst v σ H QS := q
theorem go_drop (q : te σ H fun _ H1 => D.nx σ H1) : tDrop te D σ H := q
theorem go_ret (q : te σ H D.rt) : tRet te D σ H := q
theorem go_retN (q : D.rt .non H) : tRetN D σ H := q
theorem go_ifS (q : tt σ H fun b H1 => if b = true then ts D σ H1 else us D σ H1) : tIfS tt ts us D σ H := q
theorem go_aug {n : Nat} {ti : TIp} (h : σ[n]? = some (some x)) (q : te σ H fun y H1 => ti x y H1 fun z H2 => D.nx (σ.set n (some z)) H2) : tAug n te ti D σ H := ⟨x, h, q⟩
theorem go_ipI {f : Int → Int → Int} (q : Q (.int (f i j)) H) : ipI f (.int i) (.int j) H Q := ⟨i, j, rfl, rfl, q⟩
theorem go_T {A B : Prop} (q : A) : if true = true then A else B := iteT q
theorem go_F {A B : Prop} (q : B) : if false = true then A else B := iteF q
theorem go_nT {A B : Prop} (q : B) : if (!true) = true then A else B := iteF q
theorem go_nF {A B : Prop} (q : A) : if (!false) = true then A else B := iteT q
/-! what the operators ask of values -/
theorem go_plusI (q : Q (.int (i + j)) H) : rPlus (.int i) (.int j) H Q := .inl ⟨i, j, rfl, rfl, q⟩
theorem go_plusS {a b : Str} (h : a.length + b.length ≤ sizeLine) (q : Q (.str (a ++ b)) H) : rPlus (.str a) (.str b) H Q := .inr (.inl ⟨a, b, rfl, rfl, h, q⟩)
theorem go_plusL {a b : Addr} {xs ys : List V} (ha : H a = some (.lst xs)) (hb : H b = some (.lst ys)) (h : xs.length + ys.length ≤ sizeLine) (q : ∀ p, H p = none → Q (.ref p) (upd H p (.lst (xs ++ ys)))) : rPlus (.ref a) (.ref b) H Q :=
  .inr (.inr ⟨a, b, xs, ys, rfl, rfl, ha, hb, h, q⟩)
theorem go_minus (q : Q (.int (i - j)) H) : rMinus (.int i) (.int j) H Q := ⟨i, j, rfl, rfl, q⟩
theorem go_times (h : CMul i j) (q : Q (.int (i * j)) H) : rTimes (.int i) (.int j) H Q := .inl ⟨i, j, rfl, rfl, h, q⟩
theorem go_rest (h : 0 < j) (q : Q (.int (i % j)) H) : rRest (.int i) (.int j) H Q := ⟨i, j, rfl, rfl, h, q⟩
theorem go_quot (h : CDivW i j) (q : Q (.int (i / j)) H) : rQuot (.int i) (.int j) H Q := ⟨i, j, rfl, rfl, h, q⟩
theorem go_pow (h : CPow i j) (q : Q (.int (i ^ j.toNat)) H) : rPow (.int i) (.int j) H Q := ⟨i, j, rfl, rfl, h, q⟩
theorem go_less (q : Q (.bl (decide (i < j))) H) : rLess (.int i) (.int j) H Q := ⟨i, j, rfl, rfl, q⟩
theorem go_leq (q : Q (.bl (decide (i ≤ j))) H) : rLeq (.int i) (.int j) H Q := ⟨i, j, rfl, rfl, q⟩
theorem go_more (q : Q (.bl (decide (j < i))) H) : rMore (.int i) (.int j) H Q := ⟨i, j, rfl, rfl, q⟩
theorem go_geq (q : Q (.bl (decide (j ≤ i))) H) : rGeq (.int i) (.int j) H Q := ⟨i, j, rfl, rfl, q⟩
theorem go_neg (q : Q (.int (-i)) H) : rNeg (.int i) H Q := ⟨i, rfl, q⟩
theorem go_isno (q : Q (.bl (decide (x = .non))) H) : rIsNo x .non H Q := ⟨rfl, q⟩
theorem go_isntno (q : Q (.bl (!decide (x = .non))) H) : rIsntNo x .non H Q := ⟨rfl, q⟩
theorem go_sameI (q : Q (.bl (decide (i = j))) H) : rSame K (.int i) (.int j) H Q := .inl ⟨rfl, by
  have e : decide (V.int i = V.int j) = decide (i = j) := decide_eq_decide.mpr ⟨fun h => V.int.inj h, fun h => congrArg _ h⟩
  rw [e]; exact q⟩
theorem go_sameB {a b : Bool} (q : Q (.bl (a == b)) H) : rSame K (.bl a) (.bl b) H Q := .inl ⟨rfl, by
  have e : decide (V.bl a = V.bl b) = (a == b) := by cases a <;> cases b <;> decide
  rw [e]; exact q⟩
theorem go_unB {a b : Bool} (q : Q (.bl (a != b)) H) : rUnlike K (.bl a) (.bl b) H Q := .inl ⟨rfl, by
  have e : (!decide (V.bl a = V.bl b)) = (a != b) := by cases a <;> cases b <;> decide
  rw [e]; exact q⟩
theorem go_sameS {a b : Str} (q : Q (.bl (decide (a = b))) H) : rSame K (.str a) (.str b) H Q := .inl ⟨rfl, by
  have e : decide (V.str a = V.str b) = decide (a = b) := decide_eq_decide.mpr ⟨fun h => V.str.inj h, fun h => congrArg _ h⟩
  rw [e]; exact q⟩
theorem go_unI (q : Q (.bl (!decide (i = j))) H) : rUnlike K (.int i) (.int j) H Q := .inl ⟨rfl, by
  have e : decide (V.int i = V.int j) = decide (i = j) := decide_eq_decide.mpr ⟨fun h => V.int.inj h, fun h => congrArg _ h⟩
  rw [e]; exact q⟩
theorem go_unS {a b : Str} (q : Q (.bl (!decide (a = b))) H) : rUnlike K (.str a) (.str b) H Q := .inl ⟨rfl, by
  have e : decide (V.str a = V.str b) = decide (a = b) := decide_eq_decide.mpr ⟨fun h => V.str.inj h, fun h => congrArg _ h⟩
  rw [e]; exact q⟩
theorem go_int1 (q : Q (.int i) H) : rInt1 [.int i] H Q := .inl ⟨i, rfl, q⟩
theorem go_lenL {a : Addr} {xs : List V} (h : SqL K H a xs) (q : Q (.int xs.length) H) : rLen K [.ref a] H Q := ⟨_, xs.length, rfl, .inl ⟨xs, h, rfl⟩, q⟩
theorem go_lenT {a : Addr} {xs : List V} (h : SqT K H a xs) (q : Q (.int xs.length) H) : rLen K [.ref a] H Q := ⟨_, xs.length, rfl, .inr ⟨xs, h, rfl⟩, q⟩
theorem go_ixL {a : Addr} {xs : List V} (h : SqL K H a xs) (e : atI xs i = some v) (q : Q v H) : rIx K (.ref a) (.int i) H Q := .inl ⟨a, xs, i, v, rfl, rfl, h, e, q⟩
theorem go_ixT {a : Addr} {xs : List V} (h : SqT K H a xs) (e : atI xs i = some v) (q : Q v H) : rIx K (.ref a) (.int i) H Q := .inr (.inl ⟨a, xs, i, v, rfl, rfl, h, e, q⟩)
theorem go_setL {a : Addr} {xs : List V} {k : Int} {m : Nat} {QH : Hp → Prop} (h : H a = some (.lst xs)) (e : ixN xs.length k = some m) (q : QH (upd H a (.lst (xs.set m v)))) : rSetL (.ref a) (.int k) v H QH := ⟨a, xs, k, m, rfl, rfl, h, e, q⟩
theorem go_slL {a : Addr} {xs : List V} {lo hi : Option Int} (h : SqL K H a xs) (q : ∀ p, H p = none → Q (.ref p) (upd H p (.lst (cutV xs lo hi)))) : rSlL K (.ref a) lo hi H Q := ⟨a, xs, rfl, h, q⟩
theorem go_inL {a : Addr} {xs : List V} (h : SqL K H a xs) (fx : flatV x = true) (fa : xs.all flatV = true) (q : Q (.bl (inV x xs)) H) : rIn K false x (.ref a) H Q := ⟨a, xs, rfl, .inl h, fx, fa, q⟩
theorem go_inT {a : Addr} {xs : List V} (h : SqT K H a xs) (fx : flatV x = true) (fa : xs.all flatV = true) (q : Q (.bl (inV x xs)) H) : rIn K false x (.ref a) H Q := ⟨a, xs, rfl, .inr h, fx, fa, q⟩
theorem go_ninL {a : Addr} {xs : List V} (h : SqL K H a xs) (fx : flatV x = true) (fa : xs.all flatV = true) (q : Q (.bl (!inV x xs)) H) : rIn K true x (.ref a) H Q := ⟨a, xs, rfl, .inl h, fx, fa, q⟩
theorem go_ninT {a : Addr} {xs : List V} (h : SqT K H a xs) (fx : flatV x = true) (fa : xs.all flatV = true) (q : Q (.bl (!inV x xs)) H) : rIn K true x (.ref a) H Q := ⟨a, xs, rfl, .inr h, fx, fa, q⟩
theorem go_isi {a c : V} {t u : Value} {b : Bool} (k : ClsV c u) (h : TyX K H a t) (e : PySem.W.kitOne K t u = some b) (q : Q (.bl b) H) : rIsi K [a, c] H Q := ⟨a, c, t, u, b, rfl, k, h, e, q⟩
theorem go_split {a b : Str} (h : (b.length == 0) = false) (h2 : a.length + 2 ≤ sizeLine) (q : ∀ p, H p = none → Q (.ref p) (upd H p (.lst ((Txt.split a b).map V.str)))) : rSplit (.str a) [.str b] H Q := ⟨a, b, rfl, rfl, h, h2, q⟩
theorem go_joinL {a : Str} {p : Addr} {ys : List Str} (h : SqL K H p (ys.map V.str)) (h2 : (ys.map (·.length)).sum + ys.length * a.length ≤ 16777216) (q : Q (.str (Txt.join a ys)) H) : rJoin K (.str a) [.ref p] H Q := ⟨a, p, ys, rfl, rfl, .inl h, h2, q⟩
theorem go_listL {a : Addr} {xs : List V} (h : SqL K H a xs) (q : ∀ p, H p = none → Q (.ref p) (upd H p (.lst xs))) : rListOf K [.ref a] H Q := ⟨a, xs, rfl, .inl h, q⟩
theorem go_listT {a : Addr} {xs : List V} (h : SqT K H a xs) (q : ∀ p, H p = none → Q (.ref p) (upd H p (.lst xs))) : rListOf K [.ref a] H Q := ⟨a, xs, rfl, .inr h, q⟩
theorem go_tupleL {a : Addr} {xs : List V} (h : SqL K H a xs) (q : ∀ p, H p = none → Q (.ref p) (upd H p (.tup xs))) : rTupleOf K [.ref a] H Q := ⟨a, xs, rfl, .inl ⟨h, q⟩⟩
theorem go_append {a : Addr} {xs : List V} (h : H a = some (.lst xs)) (hz : xs.length < sizeLine) (q : Q .non (upd H a (.lst (xs ++ [y])))) : rAppend (.ref a) [y] H Q := ⟨a, xs, y, rfl, rfl, h, hz, q⟩
theorem go_tyL {a : Addr} {xs : List V} {QQ : Prop} (h : SqL K H a xs) (q : QQ) : tyV K "list" (.ref a) H ∧ QQ := ⟨.inl ⟨rfl, xs, h⟩, q⟩
theorem go_all {a : Addr} {bs : List Bool} (h : SqL K H a (bs.map V.bl)) (q : Q (.bl (bs.all id)) H) : rAll K [.ref a] H Q := ⟨a, bs, rfl, h, q⟩
theorem go_any {a : Addr} {bs : List Bool} (h : SqL K H a (bs.map V.bl)) (q : Q (.bl (bs.any id)) H) : rAny K [.ref a] H Q := ⟨a, bs, rfl, h, q⟩
end
/-! ### heaps -/
theorem Same.new {H : Hp} {p : Addr} {o : HO} (h : H p = none) : Same H (upd H p o) := fun a u e => by
  rw [upd_ne (ne_of_none e h)]; exact e
theorem Same.none {H H' : Hp} (e : Same H H') {l : Addr} (h : H' l = Option.none) : H l = Option.none := e.free h
theorem Same.sqT {K : PySem.W.Frag} {H H' : Hp} {a : Addr} {xs : List V} (e : Same H H') (h : SqT K H a xs) : SqT K H' a xs := by
  rcases h with (h | ⟨o, h⟩) | h
  · exact .inl (.inl (e _ _ h))
  · exact .inl (.inr ⟨o, e _ _ h⟩)
  · exact .inr h
theorem sz1000 {n : Nat} (h : n ≤ 100000) : n ≤ sizeLine := Nat.le_trans h (by decide)
theorem sz1000l {n : Nat} (h : n < 100000) : n < sizeLine := Nat.lt_of_lt_of_le h (by decide)
theorem sIx_pos {n d : Nat} {k : Int} (h : 0 ≤ k) : HT.sIx n d (some k) = min k.toNat n := by
  show (if k < 0 then (k + (n : Int)).toNat else min k.toNat n) = _
  rw [if_neg (by omega)]
theorem cut_take {xs : List V} {k : Int} (h : 0 ≤ k) : cutV xs none (some k) = xs.take k.toNat := by
  unfold cutV
  rw [sIx_pos h]
  show (xs.drop 0).take (min k.toNat xs.length - 0) = _
  rw [List.drop_zero, Nat.sub_zero, List.take_eq_take_iff]
  omega
theorem cut_drop {xs : List V} {k : Int} (h : 0 ≤ k) : cutV xs (some k) none = xs.drop k.toNat := by
  unfold cutV
  rw [sIx_pos h]
  show (xs.drop (min k.toNat xs.length)).take (xs.length - min k.toNat xs.length) = _
  rcases Nat.lt_or_ge k.toNat xs.length with q | q
  · rw [Nat.min_eq_left (Nat.le_of_lt q)]
    exact List.take_of_length_le (by rw [List.length_drop]; omega)
  · rw [Nat.min_eq_right q, List.drop_of_length_le (Nat.le_refl _), List.drop_of_length_le q]
    simp
/-! ### loops and comprehensions: what they walk, then their own question -/
def LcR (J : It) (g : TG) (tt : TT) (te : TE) (vs : List Nat) (σ : L2.St) (H1 : Hp) (D : Addr) (Q : VK) : Prop := ∃ W : Nat → Nat → Hp → Prop, (∃ m, W 0 m (upd H1 D (.lst []))) ∧ ∀ i m H, W i m H →
  (J.stop i H ∧ Q (.ref D) H) ∨ (J.go i H ∧ ∃ Nx : Hp → Prop, (∀ H', Nx H' → ∃ m', m' < m ∧ W (i + 1) m' H') ∧ ∀ x H', J.yld i H x H' → g x (wipe σ vs) H' fun σ2 H2 => wipe σ2 vs = wipe σ vs ∧ tt σ2 H2 fun b H3 =>
    if b = true then te σ2 H3 fun y H4 => ∃ acc, H4 D = some (.lst acc) ∧ acc.length < sizeLine ∧ Nx (upd H4 D (.lst (acc ++ [y]))) else Nx H3)
def ForR (J : It) (g : TG) (tb : TS) (D : Ends) (σ : L2.St) (H1 : Hp) : Prop := ∃ W : Nat → Nat → L2.St → Hp → Prop, (∃ m, W 0 m σ H1) ∧ ∀ i m σ H, W i m σ H →
  (J.stop i H ∧ D.nx σ H) ∨ (J.go i H ∧ ∃ N : L2.St → Hp → Prop, (∀ σ' H', N σ' H' → ∃ m', m' < m ∧ W (i + 1) m' σ' H') ∧ ∀ x H', J.yld i H x H' → g x σ H' fun σ2 H2 => tb { D with nx := N, ct := N, bk := D.nx } σ2 H2)
section
variable {σ : L2.St} {H : Hp} {Q : VK} {D : Ends} {te : TE} {tt : TT} {tl : TA} {tb : TS} {g : TG} {wi : TI} {vs : List Nat} {K : PySem.W.Frag} {R : It → Hp → Prop} {i j : Int}
theorem go_lc (q : wi σ H fun J H1 => ∀ A, H1 A = none → LcR J g tt te vs σ H1 A Q) : tLc wi g tt te vs σ H Q := q
theorem go_for (q : wi σ H fun J H1 => ForR J g tb D σ H1) : tFor wi g tb D σ H := q
theorem go_ilist (q : te σ H fun x H1 => ∃ a, x = .ref a ∧ (∃ xs, SqL K H1 a xs) ∧ R (Itl K a) H1) : iList K te σ H R := q
theorem go_itup (q : te σ H fun x H1 => ∃ a, x = .ref a ∧ (∃ xs, SqT K H1 a xs) ∧ R (Itt K a) H1) : iTup K te σ H R := q
theorem go_irng1 (q : tl σ H fun vs H1 => ∃ j : Int, vs = [.int j] ∧ -(2 ^ 62) ≤ j ∧ j < 2 ^ 62 ∧ R (Itr 0 j.toNat) H1) : iRng1 tl σ H R := q
theorem go_irng2 (q : tl σ H fun vs H1 => ∃ i j : Int, vs = [.int i, .int j] ∧ (-(2 ^ 62) ≤ i ∧ i < 2 ^ 62 ∧ -(2 ^ 62) ≤ j ∧ j < 2 ^ 62) ∧ R (Itr i (j - i).toNat) H1) : iRng2 tl σ H R := q
theorem go_seqAt {a : Addr} {xs : List V} {RR : Addr → Prop} (h : SqL K H a xs) (q : RR a) : ∃ b, V.ref a = .ref b ∧ (∃ xs, SqL K H b xs) ∧ RR b := ⟨a, rfl, ⟨xs, h⟩, q⟩
theorem go_tupAt {a : Addr} {xs : List V} {RR : Addr → Prop} (h : SqT K H a xs) (q : RR a) : ∃ b, V.ref a = .ref b ∧ (∃ xs, SqT K H b xs) ∧ RR b := ⟨a, rfl, ⟨xs, h⟩, q⟩
theorem go_rng1 {RR : Int → Prop} (h1 : -(2 ^ 62) ≤ j) (h2 : j < 2 ^ 62) (q : RR j) : ∃ k : Int, [V.int j] = [.int k] ∧ -(2 ^ 62) ≤ k ∧ k < 2 ^ 62 ∧ RR k := ⟨j, rfl, h1, h2, q⟩
theorem go_rng2 {RR : Int → Int → Prop} (h : -(2 ^ 62) ≤ i ∧ i < 2 ^ 62 ∧ -(2 ^ 62) ≤ j ∧ j < 2 ^ 62) (q : RR i j) : ∃ a b : Int, [V.int i, V.int j] = [.int a, .int b] ∧ (-(2 ^ 62) ≤ a ∧ a < 2 ^ 62 ∧ -(2 ^ 62) ≤ b ∧ b < 2 ^ 62) ∧ RR a b := ⟨i, j, rfl, h, q⟩
end
/-! a comprehension whose turns leave all that stood: what it makes is a function of the items -/
section
variable {σ : L2.St} {H : Hp} {Q : VK} {D : Addr} {te : TE} {tt : TT} {g : TG} {vs : List Nat} {K : PySem.W.Frag} {a : Addr}
/-- one turn, item x: kept or not by c, giving f x -/
def Turn1 (g : TG) (tt : TT) (te : TE) (vs : List Nat) (σ : L2.St) (H0 : Hp) (x : V) (c : Bool) (y : V) : Prop :=
  ∀ (H' : Hp) (A : Addr) (acc : List V) (Nx : Hp → Prop), Same H0 H' → H0 A = none → H' A = some (.lst acc) → acc.length < sizeLine →
    (∀ H2, Same H' H2 → Nx (if c then upd H2 A (.lst (acc ++ [y])) else H2)) →
    g x (wipe σ vs) H' fun σ2 H2 => wipe σ2 vs = wipe σ vs ∧ tt σ2 H2 fun b H3 => if b = true then te σ2 H3 fun y H4 => ∃ acc, H4 A = some (.lst acc) ∧ acc.length < sizeLine ∧ Nx (upd H4 A (.lst (acc ++ [y]))) else Nx H3
theorem take_snoc {α : Type} {l : List α} {i : Nat} {x : α} (h : l[i]? = some x) : l.take (i + 1) = l.take i ++ [x] := by
  rw [List.take_succ, h]; rfl
theorem lcr_seq {J : It} {xs : List V} {c : V → Bool} {f : V → V} (hD : H D = none) (hlen : xs.length ≤ 100000)
    (core : ∀ (Pv : Nat → Hp → Prop), Pv 0 (upd H D (.lst [])) → (∀ i H1, i ≤ xs.length → Pv i H1 → Same H H1) →
      (∀ i x H1, xs[i]? = some x → Pv i H1 → g x (wipe σ vs) H1 fun σ2 H2 => wipe σ2 vs = wipe σ vs ∧ tt σ2 H2 fun b H3 => if b = true then te σ2 H3 fun y H4 => ∃ acc, H4 D = some (.lst acc) ∧ acc.length < sizeLine ∧ Pv (i + 1) (upd H4 D (.lst (acc ++ [y]))) else Pv (i + 1) H3) →
      (∀ H1, Pv xs.length H1 → Q (.ref D) H1) → LcR J g tt te vs σ H D Q)
    (turn : ∀ x ∈ xs, Turn1 g tt te vs σ H x (c x) (f x)) (q : ∀ H', Same H H' → H' D = some (.lst ((xs.filter c).map f)) → Q (.ref D) H') : LcR J g tt te vs σ H D Q := by
  refine core (fun i H1 => Same H H1 ∧ H1 D = some (.lst (((xs.take i).filter c).map f))) ⟨Same.new hD, upd_same⟩ (fun i H1 _ h => h.1) (fun i x H1 hx h => ?_) (fun H1 h => q H1 h.1 (by rw [h.2, List.take_length]))
  have hm : x ∈ xs := List.mem_of_getElem? hx
  have hl : (((xs.take i).filter c).map f).length < sizeLine := sz1000l (by
    have := List.length_filter_le c (xs.take i)
    have hi := (List.getElem?_eq_some_iff.mp hx).1
    rw [List.length_take] at this
    rw [List.length_map]
    omega)
  refine turn x hm H1 D _ _ h.1 hD h.2 hl fun H2 s2 => ?_
  have s := h.1.trans s2
  rw [take_snoc hx, List.filter_append, List.map_append]
  cases e : c x with
  | true =>
    refine ⟨fun b o z => ?_, ?_⟩
    · show upd H2 D _ b = _
      rw [upd_ne (ne_of_none z hD)]
      exact s b o z
    · show upd H2 D _ D = _
      rw [upd_same]
      simp [e]
  | false =>
    refine ⟨s, ?_⟩
    show H2 D = _
    rw [s2 _ _ h.2]
    simp [e]
theorem lcr_list {xs : List V} (c : V → Bool) (f : V → V) (hS : SqL K H a xs) (hD : H D = none) (hlen : xs.length ≤ 100000)
    (turn : ∀ x ∈ xs, Turn1 g tt te vs σ H x (c x) (f x)) (q : ∀ H', Same H H' → H' D = some (.lst ((xs.filter c).map f)) → Q (.ref D) H') : LcR (Itl K a) g tt te vs σ H D Q :=
  lcr_seq hD hlen (fun Pv h0 hk hs hd => lc_list (K := K) (a := a) (xs := xs) Pv h0 (fun i H1 hi h => (hk i H1 hi h).seq hS) hs hd) turn q
theorem lcr_tup {xs : List V} (c : V → Bool) (f : V → V) (hS : SqT K H a xs) (hD : H D = none) (hlen : xs.length ≤ 100000)
    (turn : ∀ x ∈ xs, Turn1 g tt te vs σ H x (c x) (f x)) (q : ∀ H', Same H H' → H' D = some (.lst ((xs.filter c).map f)) → Q (.ref D) H') : LcR (Itt K a) g tt te vs σ H D Q :=
  lcr_seq hD hlen (fun Pv h0 hk hs hd => lc_tup (K := K) (a := a) (xs := xs) Pv h0 (fun i H1 hi h => Same.sqT (hk i H1 hi h) hS) hs hd) turn q
theorem lcr_range {lo : Int} {n : Nat} (c : V → Bool) (f : V → V) (hD : H D = none) (hlen : n ≤ 100000)
    (turn : ∀ k : Nat, k < n → Turn1 g tt te vs σ H (.int (lo + k)) (c (.int (lo + k))) (f (.int (lo + k)))) (q : ∀ H', Same H H' → H' D = some (.lst ((((List.range n).map fun k : Nat => V.int (lo + k)).filter c).map f)) → Q (.ref D) H') :
    LcR (Itr lo n) g tt te vs σ H D Q := by
  have len : ((List.range n).map fun k : Nat => V.int (lo + k)).length = n := by simp
  refine lcr_seq (xs := (List.range n).map fun k : Nat => V.int (lo + k)) (c := c) (f := f) hD (by rw [len]; exact hlen) (fun Pv h0 hk hs hd => lc_range (lo := lo) (n := n) Pv h0 (fun i H1 hi h => ?_) fun H1 h => hd H1 (by rw [len]; exact h)) (fun x hx => ?_) q
  · exact hs i _ H1 (by simp [hi]) h
  · obtain ⟨k, hk, rfl⟩ := List.mem_map.mp hx
    exact turn k (List.mem_range.mp hk)
end
end TP

namespace TP
open PySem PySem.Spec PyProof.Rows L2
/-! ### == of lists and tuples of flat things -/
def okV : V → Bool
  | .non => true
  | .bl _ => true
  | .int _ => true
  | .str x => PyData.canLay0 (.str x)
  | _ => false
def dV : V → PyData
  | .bl b => .bool b
  | .int i => .int i
  | .str x => .str x
  | _ => .none
def eqL : List V → List V → Bool
  | [], [] => true
  | x :: xs, y :: ys => eqV x y && eqL xs ys
  | _, _ => false
section
variable {K : PySem.W.Frag} {H : Hp} {Q : VK}
theorem dp_flat : ∀ {v : V}, okV v = true → Dp K H v (dV v)
  | .non, _ => .non
  | .bl b, _ => .bl b
  | .int i, _ => .int i
  | .str x, _ => .str x
theorem dpall_flat : ∀ {xs : List V}, xs.all okV = true → DpAll K H xs (xs.map dV)
  | [], _ => .nil
  | x :: r, h => by
    rw [List.all_cons, Bool.and_eq_true] at h
    exact .cons (dp_flat h.1) (dpall_flat h.2)
theorem lay_flat : ∀ {xs : List V}, xs.all okV = true → PyData.canLayAll0 (xs.map dV) = true
  | [], _ => by simp [PyData.canLayAll0]
  | x :: r, h => by
    rw [List.all_cons, Bool.and_eq_true] at h
    rw [List.map_cons, PyData.canLayAll0, lay_flat h.2, Bool.and_true]
    cases x <;> first | rfl | exact h.1 | (simp [dV, PyData.canLay0])
theorem depth_flat : ∀ {xs : List V}, PyData.depthAll (xs.map dV) = 0
  | [] => by simp [PyData.depthAll]
  | x :: r => by
    rw [List.map_cons, PyData.depthAll, depth_flat (xs := r)]
    cases x <;> simp [dV, PyData.depth]
theorem shaped_l {xs : List V} (h : xs.all okV = true) : SeqAt.shaped (.list (xs.map dV)) = true := by
  unfold SeqAt.shaped
  rw [PyData.canLay0, lay_flat h, PyData.depth, depth_flat]
  decide
theorem shaped_t {xs : List V} (h : xs.all okV = true) : SeqAt.shaped (.tuple (xs.map dV)) = true := by
  unfold SeqAt.shaped
  rw [PyData.canLay0, lay_flat h, PyData.depth, depth_flat]
  decide
theorem eqv_flat : ∀ {x y : V}, okV x = true → okV y = true → PyData.eqv (dV x) (dV y) = eqV x y := by
  intro x y hx hy
  cases x <;> first | cases hx | skip
  all_goals (cases y <;> first | cases hy | skip)
  all_goals simp [dV, PyData.eqv, eqV]
theorem eqvAll_flat : ∀ {xs ys : List V}, xs.all okV = true → ys.all okV = true → PyData.eqvAll (xs.map dV) (ys.map dV) = eqL xs ys
  | [], [], _, _ => by simp [PyData.eqvAll, eqL]
  | [], y :: ys, _, _ => by simp [PyData.eqvAll, eqL]
  | x :: xs, [], _, _ => by simp [PyData.eqvAll, eqL]
  | x :: xs, y :: ys, h, h2 => by
    rw [List.all_cons, Bool.and_eq_true] at h h2
    rw [List.map_cons, List.map_cons, PyData.eqvAll, eqv_flat h.1 h2.1, eqvAll_flat h.2 h2.2, eqL]
theorem eqv_ll {xs ys : List V} (h : xs.all okV = true) (h2 : ys.all okV = true) : PyData.eqv (.list (xs.map dV)) (.list (ys.map dV)) = eqL xs ys := by
  rw [PyData.eqv, eqvAll_flat h h2]
theorem eqv_tt {xs ys : List V} (h : xs.all okV = true) (h2 : ys.all okV = true) : PyData.eqv (.tuple (xs.map dV)) (.tuple (ys.map dV)) = eqL xs ys := by
  rw [PyData.eqv, eqvAll_flat h h2]
theorem go_sameLL {a b : Addr} {xs ys : List V} (ha : SqL K H a xs) (hb : SqL K H b ys) (fa : xs.all okV = true) (fb : ys.all okV = true) (q : Q (.bl (eqL xs ys)) H) : rSame K (.ref a) (.ref b) H Q :=
  .inr ⟨_, _, .lst ha (dpall_flat fa), .lst hb (dpall_flat fb), shaped_l fa, shaped_l fb, by rw [eqv_ll fa fb]; exact q⟩
theorem go_unLL {a b : Addr} {xs ys : List V} (ha : SqL K H a xs) (hb : SqL K H b ys) (fa : xs.all okV = true) (fb : ys.all okV = true) (q : Q (.bl (!eqL xs ys)) H) : rUnlike K (.ref a) (.ref b) H Q :=
  .inr ⟨_, _, .lst ha (dpall_flat fa), .lst hb (dpall_flat fb), shaped_l fa, shaped_l fb, by rw [eqv_ll fa fb]; exact q⟩
theorem go_sameTT {a b : Addr} {xs ys : List V} (ha : SqT K H a xs) (hb : SqT K H b ys) (fa : xs.all okV = true) (fb : ys.all okV = true) (q : Q (.bl (eqL xs ys)) H) : rSame K (.ref a) (.ref b) H Q :=
  .inr ⟨_, _, .tup ha (dpall_flat fa), .tup hb (dpall_flat fb), shaped_t fa, shaped_t fb, by rw [eqv_tt fa fb]; exact q⟩
theorem eqV_refl : ∀ {v : V}, okV v = true → eqV v v = true
  | .non, _ => rfl
  | .bl b, _ => by cases b <;> rfl
  | .int i, _ => by simp [eqV]
  | .str x, _ => by simp [eqV]
theorem eqL_refl : ∀ {xs : List V}, xs.all okV = true → eqL xs xs = true
  | [], _ => rfl
  | x :: r, h => by
    rw [List.all_cons, Bool.and_eq_true] at h
    rw [eqL, eqV_refl h.1, eqL_refl h.2]; rfl
end
theorem eqL_ints : ∀ xs ys : List Int, eqL (xs.map V.int) (ys.map V.int) = decide (xs = ys)
  | [], [] => rfl
  | [], y :: ys => by simp [eqL]
  | x :: xs, [] => by simp [eqL]
  | x :: xs, y :: ys => by
    rw [List.map_cons, List.map_cons, eqL, eqL_ints xs ys]
    simp [eqV]
    by_cases h : x = y <;> simp [h]
theorem eqL_strs : ∀ xs ys : List Str, eqL (xs.map V.str) (ys.map V.str) = decide (xs = ys)
  | [], [] => rfl
  | [], y :: ys => by simp [eqL]
  | x :: xs, [] => by simp [eqL]
  | x :: xs, y :: ys => by
    rw [List.map_cons, List.map_cons, eqL, eqL_strs xs ys]
    simp [eqV]
    by_cases h : x = y <;> simp [h]
theorem ok_ints (xs : List Int) : (xs.map V.int).all okV = true := by
  rw [List.all_eq_true]; intro x hx; obtain ⟨z, _, rfl⟩ := List.mem_map.mp hx; rfl
theorem ok_bls (xs : List Bool) : (xs.map V.bl).all okV = true := by
  rw [List.all_eq_true]; intro x hx; obtain ⟨z, _, rfl⟩ := List.mem_map.mp hx; rfl
end TP

namespace Law
open PySem PySem.Spec PyProof.Rows L2 TP
def topS (i : Nat) : Stmt := PySem.Challenge.pw_trustedpages_k14_orders_of_words.main.body.getD i (.Pass ⟨0, 0, 0, 0⟩)
structure Txt (K : PySem.W.Frag) (mg : Str → Option Value) (a_WRITER_WORDS : Addr) (a_CLEANER_WORDS : Addr) (a_READER_WORDS : Addr) : Prop where
  n_len : mg "len" = none
  n_set : mg "set" = none
  n_all : mg "all" = none
  n_isinstance : mg "isinstance" = none
  n_str : mg "str" = none
  n_int : mg "int" = none
  n_range : mg "range" = none
  n_list : mg "list" = none
  n_tuple : mg "tuple" = none
  g_WRITER_WORDS : mg "WRITER_WORDS" = some (.ref a_WRITER_WORDS)
  g_CLEANER_WORDS : mg "CLEANER_WORDS" = some (.ref a_CLEANER_WORDS)
  g_READER_WORDS : mg "READER_WORDS" = some (.ref a_READER_WORDS)
section
variable {P : Program} {w : World} {K : PySem.W.Frag} {mg : Str → Option Value} {base : Heap} {a_WRITER_WORDS a_CLEANER_WORDS a_READER_WORDS : Addr}
abbrev s_words_of : Stmt := (topS 4)
abbrev N_words_of : List Str := ["value", "known", "found", "word"]
theorem sc_words_of : FnScope N_words_of ["value", "known"] (defScope s_words_of) := ⟨rfl, rfl, rfl, by decide +kernel, rfl, by decide +kernel, by decide +kernel⟩
def t_words_of (K : PySem.W.Frag) : TS :=
    (tSeq (tIfS (tNot (tB (tCB (rIsi K) (tCons (tVar 0) (tCons (tC (.ty "str")) tNil))))) (tRet (tC .non)) tNext)
    (tSeq (tAsg (tM1 rSplit (tVar 0) (tC (.str " "))) (gName 2))
    (tSeq (tIfS (tOr (tTest (tOp (rUnlike K) (tLenSetS K (tVar 2)) (tCB (rLen K) (tCons (tVar 2) tNil)))) (tNot (tB (tCB (rAll K) (tCons (tLc (iList K (tVar 2)) (gName 3) tYes (tOp (rIn K false) (tVar 3) (tVar 1)) [3]) tNil))))) (tRet (tC .non)) tNext)
    (tRet (tVar 2)))))
theorem d_words_of (T : Txt K mg a_WRITER_WORDS a_CLEANER_WORDS a_READER_WORDS) (f : Addr) (cdv : Value) (A : Around) (outer : List Env) (s : Shared) (H : Hp) (E : XK) (hr : Room 0 (A.deeper (envOfC "words_of" (defScope s_words_of) s.heap.objs.size f cdv))) :
    PSs (cxOf CX0 P w K mg base N_words_of "words_of" (defScope s_words_of) f cdv A outer s H E).nox (defBody s_words_of) (t_words_of K) :=
  have nd := sc_words_of.nd
  (pss_cons (ps_if (pt_not (pt_val (pe_callB call_isi (by rfl) T.n_isinstance (by decide +kernel) (pa_cons (pv 0) (pa_cons (pe_bltn (by rfl) T.n_str boot_str rfl) pa_nil))))) (pss_one (ps_ret pe_non)) pss_nil)
    (pss_cons (ps_asg (pe_split (pv 0) pe_str) (pg_name (i := 2) nd rfl (Or.inl rfl)))
    (pss_cons (ps_if (PW.pt (pw_or (pt_cmpR (op_unlike hr.units) (pe_lenSetS rfl (by rfl) T.n_len (by rfl) T.n_set (pv 2)) (pe_callB cr_len (by rfl) T.n_len (by decide +kernel) (pa_cons (pv 2) pa_nil)) (nomark _)) (pw_or1 (pt_not (pt_val (pe_callB (cr_all rfl) (by rfl) T.n_all (by decide +kernel) (pa_cons (pe_lc (own := [("word", 3)]) (g := (gName 3)) (tt := tYes) rfl nd (pi_list (pv 2)) (blkOk_by (own := [("word", 3)]) (N := N_words_of) (sc := defScope s_words_of) (by decide +kernel)) (fun _ _ _ _ _ => (pg_name (i := 3) nd rfl (Or.inl rfl))) (fun _ _ _ _ _ => pts_nil) (fun _ _ _ _ _ => (pe_cmpR op_in_seq (pv 3) (pv 1) (by rfl)))) pa_nil))))))) (pss_one (ps_ret pe_non)) pss_nil)
    (pss_one (ps_ret (pv 2))))))
abbrev s_all_there : Stmt := (topS 5)
abbrev N_all_there : List Str := ["found", "needed", "word"]
theorem sc_all_there : FnScope N_all_there ["found", "needed"] (defScope s_all_there) := ⟨rfl, rfl, rfl, by decide +kernel, rfl, by decide +kernel, by decide +kernel⟩
def t_all_there (K : PySem.W.Frag) : TS :=
    (tRet (tCB (rAll K) (tCons (tLc (iTup K (tVar 1)) (gName 2) tYes (tOp (rIn K false) (tVar 2) (tVar 0)) [2]) tNil)))
theorem d_all_there (T : Txt K mg a_WRITER_WORDS a_CLEANER_WORDS a_READER_WORDS) (f : Addr) (cdv : Value) (A : Around) (outer : List Env) (s : Shared) (H : Hp) (E : XK) (hr : Room 0 (A.deeper (envOfC "all_there" (defScope s_all_there) s.heap.objs.size f cdv))) :
    PSs (cxOf CX0 P w K mg base N_all_there "all_there" (defScope s_all_there) f cdv A outer s H E).nox (defBody s_all_there) (t_all_there K) :=
  have nd := sc_all_there.nd
  (pss_one (ps_ret (pe_callB (cr_all rfl) (by rfl) T.n_all (by decide +kernel) (pa_cons (pe_lc (own := [("word", 2)]) (g := (gName 2)) (tt := tYes) rfl nd (pi_tup (pv 1)) (blkOk_by (own := [("word", 2)]) (N := N_all_there) (sc := defScope s_all_there) (by decide +kernel)) (fun _ _ _ _ _ => (pg_name (i := 2) nd rfl (Or.inl rfl))) (fun _ _ _ _ _ => pts_nil) (fun _ _ _ _ _ => (pe_cmpR op_in_seq (pv 2) (pv 0) (by rfl)))) pa_nil))))
abbrev s_is_ahead : Stmt := (topS 6)
abbrev N_is_ahead : List Str := ["found", "one", "other"]
theorem sc_is_ahead : FnScope N_is_ahead ["found", "one", "other"] (defScope s_is_ahead) := ⟨rfl, rfl, rfl, by decide +kernel, rfl, by decide +kernel, by decide +kernel⟩
def t_is_ahead (K : PySem.W.Frag) : TS :=
    (tRet (tOrV (tOp (rIn K true) (tVar 1) (tVar 0)) (tOrV (tOp (rIn K true) (tVar 2) (tVar 0)) (tOp rLess (tBM K "list" (rIndex K) (tVar 0) (tCons (tVar 1) tNil)) (tBM K "list" (rIndex K) (tVar 0) (tCons (tVar 2) tNil))))))
theorem d_is_ahead (T : Txt K mg a_WRITER_WORDS a_CLEANER_WORDS a_READER_WORDS) (f : Addr) (cdv : Value) (A : Around) (outer : List Env) (s : Shared) (H : Hp) (E : XK) (hr : Room 0 (A.deeper (envOfC "is_ahead" (defScope s_is_ahead) s.heap.objs.size f cdv))) :
    PSs (cxOf CX0 P w K mg base N_is_ahead "is_ahead" (defScope s_is_ahead) f cdv A outer s H E).nox (defBody s_is_ahead) (t_is_ahead K) :=
  have nd := sc_is_ahead.nd
  (pss_one (ps_ret (pe_or (pe_cmpR op_notIn_seq (pv 1) (pv 0) (by rfl)) (pe_or (pe_cmpR op_notIn_seq (pv 2) (pv 0) (by rfl)) (pe_one (pe_cmpR op_less (pe_bm PySem.F.plainAttrs_list PySem.F.slot_list_index PySem.F.type_list_index mt_index (pv 0) (pa_cons (pv 1) pa_nil)) (pe_bm PySem.F.plainAttrs_list PySem.F.slot_list_index PySem.F.type_list_index mt_index (pv 0) (pa_cons (pv 2) pa_nil)) (nomark _)))))))
abbrev s_is_locked_well : Stmt := (topS 7)
abbrev N_is_locked_well : List Str := ["found"]
theorem sc_is_locked_well : FnScope N_is_locked_well ["found"] (defScope s_is_locked_well) := ⟨rfl, rfl, rfl, by decide +kernel, rfl, by decide +kernel, by decide +kernel⟩
def t_is_locked_well (K : PySem.W.Frag) (sp_is_ahead : Sp) : TS :=
    (tRet (tAndV (tOp (rSame K) (tOp (rIn K false) (tC (.str "lock")) (tVar 0)) (tOp (rIn K false) (tC (.str "unlock")) (tVar 0))) (tCall sp_is_ahead [] E0 (tCons (tVar 0) (tCons (tC (.str "lock")) (tCons (tC (.str "unlock")) tNil))))))
theorem d_is_locked_well {sp_is_ahead : Sp} (T : Txt K mg a_WRITER_WORDS a_CLEANER_WORDS a_READER_WORDS) (I_is_ahead : FnI P w K mg base CX0 1 "is_ahead" ["found", "one", "other"] sp_is_ahead) (f : Addr) (cdv : Value) (A : Around) (outer : List Env) (s : Shared) (H : Hp) (E : XK) (hr : Room 1 (A.deeper (envOfC "is_locked_well" (defScope s_is_locked_well) s.heap.objs.size f cdv))) :
    PSs (cxOf CX0 P w K mg base N_is_locked_well "is_locked_well" (defScope s_is_locked_well) f cdv A outer s H E).nox (defBody s_is_locked_well) (t_is_locked_well K sp_is_ahead) :=
  have nd := sc_is_locked_well.nd
  (pss_one (ps_ret (pe_and (pe_cmpR (op_same hr.units) (pe_cmpR op_in_seq pe_str (pv 0) (by rfl)) (pe_cmpR op_in_seq pe_str (pv 0) (by rfl)) (nomark _)) (pe_one (pe_callI I_is_ahead hr (by decide) pass0 (pa_cons (pv 0) (pa_cons pe_str (pa_cons pe_str pa_nil))))))))
abbrev s_is_writer : Stmt := (topS 8)
abbrev N_is_writer : List Str := ["value", "found"]
theorem sc_is_writer : FnScope N_is_writer ["value"] (defScope s_is_writer) := ⟨rfl, rfl, rfl, by decide +kernel, rfl, by decide +kernel, by decide +kernel⟩
def t_is_writer (K : PySem.W.Frag) (a_WRITER_WORDS : Addr) (sp_words_of : Sp) (sp_all_there : Sp) (sp_is_ahead : Sp) (sp_is_locked_well : Sp) : TS :=
    (tSeq (tAsg (tCall sp_words_of [] E0 (tCons (tVar 0) (tCons (tC (.ref a_WRITER_WORDS)) tNil))) (gName 1))
    (tSeq (tIfS (tOr (tTest (tOp rIsNo (tVar 1) (tC .non))) (tNot (tB (tCall sp_all_there [] E0 (tCons (tVar 1) (tCons (tTup (tCons (tC (.str "change")) (tCons (tC (.str "enter")) (tCons (tC (.str "commit")) tNil)))) tNil)))))) (tRet (tC (.bl false))) tNext)
    (tRet (tAndV (tCall sp_is_ahead [] E0 (tCons (tVar 1) (tCons (tC (.str "change")) (tCons (tC (.str "enter")) tNil)))) (tAndV (tCall sp_is_ahead [] E0 (tCons (tVar 1) (tCons (tC (.str "change")) (tCons (tC (.str "commit")) tNil)))) (tCall sp_is_locked_well [] E0 (tCons (tVar 1) tNil)))))))
theorem d_is_writer {sp_words_of : Sp} {sp_all_there : Sp} {sp_is_ahead : Sp} {sp_is_locked_well : Sp} (T : Txt K mg a_WRITER_WORDS a_CLEANER_WORDS a_READER_WORDS) (I_words_of : FnI P w K mg base CX0 1 "words_of" ["value", "known"] sp_words_of) (I_all_there : FnI P w K mg base CX0 1 "all_there" ["found", "needed"] sp_all_there) (I_is_ahead : FnI P w K mg base CX0 1 "is_ahead" ["found", "one", "other"] sp_is_ahead) (I_is_locked_well : FnI P w K mg base CX0 2 "is_locked_well" ["found"] sp_is_locked_well) (f : Addr) (cdv : Value) (A : Around) (outer : List Env) (s : Shared) (H : Hp) (E : XK) (hr : Room 2 (A.deeper (envOfC "is_writer" (defScope s_is_writer) s.heap.objs.size f cdv))) :
    PSs (cxOf CX0 P w K mg base N_is_writer "is_writer" (defScope s_is_writer) f cdv A outer s H E).nox (defBody s_is_writer) (t_is_writer K a_WRITER_WORDS sp_words_of sp_all_there sp_is_ahead sp_is_locked_well) :=
  have nd := sc_is_writer.nd
  (pss_cons (ps_asg (pe_callI I_words_of hr (by decide) pass0 (pa_cons (pv 0) (pa_cons (pe_globA T.g_WRITER_WORDS) pa_nil))) (pg_name (i := 1) nd rfl (Or.inl rfl)))
    (pss_cons (ps_if (PW.pt (pw_or (pt_cmpR op_isno (pv 1) pe_non (nomark _)) (pw_or1 (pt_not (pt_val (pe_callI I_all_there hr (by decide) pass0 (pa_cons (pv 1) (pa_cons (pe_tup (pa_cons pe_str (pa_cons pe_str (pa_cons pe_str pa_nil)))) pa_nil)))))))) (pss_one (ps_ret pe_bl)) pss_nil)
    (pss_one (ps_ret (pe_and (pe_callI I_is_ahead hr (by decide) pass0 (pa_cons (pv 1) (pa_cons pe_str (pa_cons pe_str pa_nil)))) (pe_and (pe_callI I_is_ahead hr (by decide) pass0 (pa_cons (pv 1) (pa_cons pe_str (pa_cons pe_str pa_nil)))) (pe_one (pe_callI I_is_locked_well hr (by decide) pass0 (pa_cons (pv 1) pa_nil)))))))))
abbrev s_is_cleaner : Stmt := (topS 9)
abbrev N_is_cleaner : List Str := ["value", "found"]
theorem sc_is_cleaner : FnScope N_is_cleaner ["value"] (defScope s_is_cleaner) := ⟨rfl, rfl, rfl, by decide +kernel, rfl, by decide +kernel, by decide +kernel⟩
def t_is_cleaner (K : PySem.W.Frag) (a_CLEANER_WORDS : Addr) (sp_words_of : Sp) (sp_all_there : Sp) (sp_is_ahead : Sp) (sp_is_locked_well : Sp) : TS :=
    (tSeq (tAsg (tCall sp_words_of [] E0 (tCons (tVar 0) (tCons (tC (.ref a_CLEANER_WORDS)) tNil))) (gName 1))
    (tSeq (tIfS (tOr (tTest (tOp rIsNo (tVar 1) (tC .non))) (tOr (tNot (tB (tCall sp_all_there [] E0 (tCons (tVar 1) (tCons (tTup (tCons (tC (.str "look")) (tCons (tC (.str "set")) tNil))) tNil))))) (tNot (tB (tCall sp_is_locked_well [] E0 (tCons (tVar 1) tNil)))))) (tRet (tC (.bl false))) tNext)
    (tRet (tAndV (tCall sp_is_ahead [] E0 (tCons (tVar 1) (tCons (tC (.str "look")) (tCons (tC (.str "set")) tNil)))) (tAndV (tCall sp_is_ahead [] E0 (tCons (tVar 1) (tCons (tC (.str "remove")) (tCons (tC (.str "look")) tNil)))) (tCall sp_is_ahead [] E0 (tCons (tVar 1) (tCons (tC (.str "set")) (tCons (tC (.str "again")) tNil)))))))))
theorem d_is_cleaner {sp_words_of : Sp} {sp_all_there : Sp} {sp_is_ahead : Sp} {sp_is_locked_well : Sp} (T : Txt K mg a_WRITER_WORDS a_CLEANER_WORDS a_READER_WORDS) (I_words_of : FnI P w K mg base CX0 1 "words_of" ["value", "known"] sp_words_of) (I_all_there : FnI P w K mg base CX0 1 "all_there" ["found", "needed"] sp_all_there) (I_is_ahead : FnI P w K mg base CX0 1 "is_ahead" ["found", "one", "other"] sp_is_ahead) (I_is_locked_well : FnI P w K mg base CX0 2 "is_locked_well" ["found"] sp_is_locked_well) (f : Addr) (cdv : Value) (A : Around) (outer : List Env) (s : Shared) (H : Hp) (E : XK) (hr : Room 2 (A.deeper (envOfC "is_cleaner" (defScope s_is_cleaner) s.heap.objs.size f cdv))) :
    PSs (cxOf CX0 P w K mg base N_is_cleaner "is_cleaner" (defScope s_is_cleaner) f cdv A outer s H E).nox (defBody s_is_cleaner) (t_is_cleaner K a_CLEANER_WORDS sp_words_of sp_all_there sp_is_ahead sp_is_locked_well) :=
  have nd := sc_is_cleaner.nd
  (pss_cons (ps_asg (pe_callI I_words_of hr (by decide) pass0 (pa_cons (pv 0) (pa_cons (pe_globA T.g_CLEANER_WORDS) pa_nil))) (pg_name (i := 1) nd rfl (Or.inl rfl)))
    (pss_cons (ps_if (PW.pt (pw_or (pt_cmpR op_isno (pv 1) pe_non (nomark _)) (pw_or (pt_not (pt_val (pe_callI I_all_there hr (by decide) pass0 (pa_cons (pv 1) (pa_cons (pe_tup (pa_cons pe_str (pa_cons pe_str pa_nil))) pa_nil))))) (pw_or1 (pt_not (pt_val (pe_callI I_is_locked_well hr (by decide) pass0 (pa_cons (pv 1) pa_nil)))))))) (pss_one (ps_ret pe_bl)) pss_nil)
    (pss_one (ps_ret (pe_and (pe_callI I_is_ahead hr (by decide) pass0 (pa_cons (pv 1) (pa_cons pe_str (pa_cons pe_str pa_nil)))) (pe_and (pe_callI I_is_ahead hr (by decide) pass0 (pa_cons (pv 1) (pa_cons pe_str (pa_cons pe_str pa_nil)))) (pe_one (pe_callI I_is_ahead hr (by decide) pass0 (pa_cons (pv 1) (pa_cons pe_str (pa_cons pe_str pa_nil)))))))))))
abbrev s_is_reader : Stmt := (topS 10)
abbrev N_is_reader : List Str := ["value", "found"]
theorem sc_is_reader : FnScope N_is_reader ["value"] (defScope s_is_reader) := ⟨rfl, rfl, rfl, by decide +kernel, rfl, by decide +kernel, by decide +kernel⟩
def t_is_reader (K : PySem.W.Frag) (a_READER_WORDS : Addr) (sp_words_of : Sp) (sp_all_there : Sp) (sp_is_ahead : Sp) : TS :=
    (tSeq (tAsg (tCall sp_words_of [] E0 (tCons (tVar 0) (tCons (tC (.ref a_READER_WORDS)) tNil))) (gName 1))
    (tSeq (tIfS (tOr (tTest (tOp rIsNo (tVar 1) (tC .non))) (tOr (tNot (tB (tCall sp_all_there [] E0 (tCons (tVar 1) (tCons (tTup (tCons (tC (.str "entry")) (tCons (tC (.str "mark")) (tCons (tC (.str "page")) tNil)))) tNil))))) (tTest (tOp (rUnlike K) (tOp (rIx K) (tVar 1) (tUn rNeg (tC (.int 1)))) (tC (.str "page")))))) (tRet (tC (.bl false))) tNext)
    (tSeq (tIfS (tOr (tTest (tOp (rUnlike K) (tOp (rIn K false) (tC (.str "take")) (tVar 1)) (tOp (rIn K false) (tC (.str "tell")) (tVar 1)))) (tTest (tOp (rSame K) (tOp (rIn K false) (tC (.str "hold")) (tVar 1)) (tOp (rIn K false) (tC (.str "take")) (tVar 1))))) (tRet (tC (.bl false))) tNext)
    (tRet (tCall sp_is_ahead [] E0 (tCons (tVar 1) (tCons (tC (.str "take")) (tCons (tC (.str "tell")) tNil))))))))
theorem d_is_reader {sp_words_of : Sp} {sp_all_there : Sp} {sp_is_ahead : Sp} (T : Txt K mg a_WRITER_WORDS a_CLEANER_WORDS a_READER_WORDS) (I_words_of : FnI P w K mg base CX0 1 "words_of" ["value", "known"] sp_words_of) (I_all_there : FnI P w K mg base CX0 1 "all_there" ["found", "needed"] sp_all_there) (I_is_ahead : FnI P w K mg base CX0 1 "is_ahead" ["found", "one", "other"] sp_is_ahead) (f : Addr) (cdv : Value) (A : Around) (outer : List Env) (s : Shared) (H : Hp) (E : XK) (hr : Room 1 (A.deeper (envOfC "is_reader" (defScope s_is_reader) s.heap.objs.size f cdv))) :
    PSs (cxOf CX0 P w K mg base N_is_reader "is_reader" (defScope s_is_reader) f cdv A outer s H E).nox (defBody s_is_reader) (t_is_reader K a_READER_WORDS sp_words_of sp_all_there sp_is_ahead) :=
  have nd := sc_is_reader.nd
  (pss_cons (ps_asg (pe_callI I_words_of hr (by decide) pass0 (pa_cons (pv 0) (pa_cons (pe_globA T.g_READER_WORDS) pa_nil))) (pg_name (i := 1) nd rfl (Or.inl rfl)))
    (pss_cons (ps_if (PW.pt (pw_or (pt_cmpR op_isno (pv 1) pe_non (nomark _)) (pw_or (pt_not (pt_val (pe_callI I_all_there hr (by decide) pass0 (pa_cons (pv 1) (pa_cons (pe_tup (pa_cons pe_str (pa_cons pe_str (pa_cons pe_str pa_nil)))) pa_nil))))) (pw_or1 (pt_cmpR (op_unlike hr.units) (pe_ix ix_seq (pv 1) (pe_un un_minus pe_int) (fun _ _ => rfl)) pe_str (nomark _)))))) (pss_one (ps_ret pe_bl)) pss_nil)
    (pss_cons (ps_if (PW.pt (pw_or (pt_cmpR (op_unlike hr.units) (pe_cmpR op_in_seq pe_str (pv 1) (by rfl)) (pe_cmpR op_in_seq pe_str (pv 1) (by rfl)) (nomark _)) (pw_or1 (pt_cmpR (op_same hr.units) (pe_cmpR op_in_seq pe_str (pv 1) (by rfl)) (pe_cmpR op_in_seq pe_str (pv 1) (by rfl)) (nomark _))))) (pss_one (ps_ret pe_bl)) pss_nil)
    (pss_one (ps_ret (pe_callI I_is_ahead hr (by decide) pass0 (pa_cons (pv 1) (pa_cons pe_str (pa_cons pe_str pa_nil)))))))))
abbrev s__law_pot : Stmt := (topS 12)
abbrev N__law_pot : List Str := ["script", "cell"]
theorem sc__law_pot : FnScope N__law_pot ["script"] (defScope s__law_pot) := ⟨rfl, rfl, rfl, by decide +kernel, rfl, by decide +kernel, by decide +kernel⟩
def t__law_pot (K : PySem.W.Frag) : TS :=
    (tRet (tLst (tCons (tLc (iList K (tSl (rSlL K) (tVar 0) tNoPart (tPart (tC (.int 63))))) (gName 1) tYes (tCB rInt1 (tCons (tVar 1) tNil)) [1]) (tCons (tC (.int 0)) (tCons (tC (.int 7)) tNil)))))
theorem d__law_pot (T : Txt K mg a_WRITER_WORDS a_CLEANER_WORDS a_READER_WORDS) (f : Addr) (cdv : Value) (A : Around) (outer : List Env) (s : Shared) (H : Hp) (E : XK) (hr : Room 0 (A.deeper (envOfC "_law_pot" (defScope s__law_pot) s.heap.objs.size f cdv))) :
    PSs (cxOf CX0 P w K mg base N__law_pot "_law_pot" (defScope s__law_pot) f cdv A outer s H E).nox (defBody s__law_pot) (t__law_pot K) :=
  have nd := sc__law_pot.nd
  (pss_one (ps_ret (pe_lst (pa_cons (pe_lc (own := [("cell", 1)]) (g := (gName 1)) (tt := tYes) rfl nd (pi_list (pe_slice sl_list (pv 0) po_none (po_some pe_int))) (blkOk_by (own := [("cell", 1)]) (N := N__law_pot) (sc := defScope s__law_pot) (by decide +kernel)) (fun _ _ _ _ _ => (pg_name (i := 1) nd rfl (Or.inl rfl))) (fun _ _ _ _ _ => pts_nil) (fun _ _ _ _ _ => (pe_callTy cr_int1 (by rfl) T.n_int (by decide +kernel) (pa_cons (pv 1) pa_nil)))) (pa_cons pe_int (pa_cons pe_int pa_nil))))))
abbrev s__law_draw : Stmt := (topS 13)
abbrev N__law_draw : List Str := ["pot", "many", "cells", "at", "cell"]
theorem sc__law_draw : FnScope N__law_draw ["pot", "many"] (defScope s__law_draw) := ⟨rfl, rfl, rfl, by decide +kernel, rfl, by decide +kernel, by decide +kernel⟩
def t__law_draw (K : PySem.W.Frag) : TS :=
    (tSeq (tAsg (tOp (rIx K) (tVar 0) (tC (.int 0))) (gName 2))
    (tSeq (tAsg (tOp (rIx K) (tVar 0) (tC (.int 1))) (gName 3))
    (tSeq (tAsg (tC (.int 0)) (gName 4))
    (tSeq (tIfS (tTest (tOp rLess (tVar 3) (tCB (rLen K) (tCons (tVar 2) tNil)))) (tSeq (tAsg (tOp (rIx K) (tVar 2) (tVar 3)) (gName 4))
    (tSeq (tIfS (tTest (tOp rGeq (tVar 4) (tOp rPow (tC (.int 10)) (tC (.int 18))))) (tSeq (tAsg (tOp rQuot (tVar 4) (tVar 1)) (gSub (tVar 2) (tVar 3) rSetL))
    (tRet (tOp rRest (tCB rInt1 (tCons (tVar 4) tNil)) (tVar 1)))) tNext)
    (tAsg (tOp rPlus (tVar 3) (tC (.int 1))) (gSub (tVar 0) (tC (.int 1)) rSetL)))) tNext)
    (tSeq (tAsg (tOp rRest (tCB rInt1 (tCons (tOp rPlus (tOp rPlus (tOp rTimes (tOp (rIx K) (tVar 0) (tC (.int 2))) (tC (.int 48271))) (tOp rTimes (tVar 4) (tC (.int 69621)))) (tC (.int 11))) tNil)) (tC (.int 2147483647))) (gSub (tVar 0) (tC (.int 2)) rSetL))
    (tRet (tOp rRest (tCB rInt1 (tCons (tOp rPlus (tOp rQuot (tOp rTimes (tOp (rIx K) (tVar 0) (tC (.int 2))) (tC (.int 16807))) (tC (.int 128))) (tOp (rIx K) (tVar 0) (tC (.int 2)))) tNil)) (tVar 1))))))))
theorem d__law_draw (T : Txt K mg a_WRITER_WORDS a_CLEANER_WORDS a_READER_WORDS) (f : Addr) (cdv : Value) (A : Around) (outer : List Env) (s : Shared) (H : Hp) (E : XK) (hr : Room 0 (A.deeper (envOfC "_law_draw" (defScope s__law_draw) s.heap.objs.size f cdv))) :
    PSs (cxOf CX0 P w K mg base N__law_draw "_law_draw" (defScope s__law_draw) f cdv A outer s H E).nox (defBody s__law_draw) (t__law_draw K) :=
  have nd := sc__law_draw.nd
  (pss_cons (ps_asg (pe_ix ix_seq (pv 0) pe_int (fun _ _ => rfl)) (pg_name (i := 2) nd rfl (Or.inl rfl)))
    (pss_cons (ps_asg (pe_ix ix_seq (pv 0) pe_int (fun _ _ => rfl)) (pg_name (i := 3) nd rfl (Or.inl rfl)))
    (pss_cons (ps_asg pe_int (pg_name (i := 4) nd rfl (Or.inl rfl)))
    (pss_cons (ps_if (pt_cmpR op_less (pv 3) (pe_callB cr_len (by rfl) T.n_len (by decide +kernel) (pa_cons (pv 2) pa_nil)) (nomark _)) (pss_cons (ps_asg (pe_ix ix_seq (pv 2) (pv 3) (fun _ _ => rfl)) (pg_name (i := 4) nd rfl (Or.inl rfl)))
    (pss_cons (ps_if (pt_cmpR op_geq (pv 4) (pe_op op_power pe_int pe_int) (nomark _)) (pss_cons (ps_asg (pe_op op_quot (pv 4) (pv 1)) (pg_sub (pv 2) (pv 3) set_list))
    (pss_one (ps_ret (pe_op op_rest (pe_callTy cr_int1 (by rfl) T.n_int (by decide +kernel) (pa_cons (pv 4) pa_nil)) (pv 1))))) pss_nil)
    (pss_one (ps_asg (pe_op op_plus (pv 3) pe_int) (pg_sub (pv 0) pe_int set_list))))) pss_nil)
    (pss_cons (ps_asg (pe_op op_rest (pe_callTy cr_int1 (by rfl) T.n_int (by decide +kernel) (pa_cons (pe_op op_plus (pe_op op_plus (pe_op op_times (pe_ix ix_seq (pv 0) pe_int (fun _ _ => rfl)) pe_int) (pe_op op_times (pv 4) pe_int)) pe_int) pa_nil)) pe_int) (pg_sub (pv 0) pe_int set_list))
    (pss_one (ps_ret (pe_op op_rest (pe_callTy cr_int1 (by rfl) T.n_int (by decide +kernel) (pa_cons (pe_op op_plus (pe_op op_quot (pe_op op_times (pe_ix ix_seq (pv 0) pe_int (fun _ _ => rfl)) pe_int) pe_int) (pe_ix ix_seq (pv 0) pe_int (fun _ _ => rfl))) pa_nil)) (pv 1)))))))))
abbrev s__law_put_in : Stmt := (topS 14)
abbrev N__law_put_in : List Str := ["pot", "order", "word", "least", "at"]
theorem sc__law_put_in : FnScope N__law_put_in ["pot", "order", "word", "least"] (defScope s__law_put_in) := ⟨rfl, rfl, rfl, by decide +kernel, rfl, by decide +kernel, by decide +kernel⟩
def t__law_put_in (K : PySem.W.Frag) (sp__law_draw : Sp) : TS :=
    (tSeq (tAsg (tOp rPlus (tVar 3) (tCall sp__law_draw [] E0 (tCons (tVar 0) (tCons (tOp rMinus (tOp rPlus (tCB (rLen K) (tCons (tVar 1) tNil)) (tC (.int 1))) (tVar 3)) tNil)))) (gName 4))
    (tRet (tOp rPlus (tOp rPlus (tSl (rSlL K) (tVar 1) tNoPart (tPart (tVar 4))) (tLst (tCons (tVar 2) tNil))) (tSl (rSlL K) (tVar 1) (tPart (tVar 4)) tNoPart))))
theorem d__law_put_in {sp__law_draw : Sp} (T : Txt K mg a_WRITER_WORDS a_CLEANER_WORDS a_READER_WORDS) (I__law_draw : FnI P w K mg base CX0 1 "_law_draw" ["pot", "many"] sp__law_draw) (f : Addr) (cdv : Value) (A : Around) (outer : List Env) (s : Shared) (H : Hp) (E : XK) (hr : Room 1 (A.deeper (envOfC "_law_put_in" (defScope s__law_put_in) s.heap.objs.size f cdv))) :
    PSs (cxOf CX0 P w K mg base N__law_put_in "_law_put_in" (defScope s__law_put_in) f cdv A outer s H E).nox (defBody s__law_put_in) (t__law_put_in K sp__law_draw) :=
  have nd := sc__law_put_in.nd
  (pss_cons (ps_asg (pe_op op_plus (pv 3) (pe_callI I__law_draw hr (by decide) pass0 (pa_cons (pv 0) (pa_cons (pe_op op_minus (pe_op op_plus (pe_callB cr_len (by rfl) T.n_len (by decide +kernel) (pa_cons (pv 1) pa_nil)) pe_int) (pv 3)) pa_nil)))) (pg_name (i := 4) nd rfl (Or.inl rfl)))
    (pss_one (ps_ret (pe_op op_plus (pe_op op_plus (pe_slice sl_list (pv 1) po_none (po_some (pv 4))) (pe_lst (pa_cons (pv 2) pa_nil))) (pe_slice sl_list (pv 1) (po_some (pv 4)) po_none)))))
abbrev s__law_locked : Stmt := (topS 15)
abbrev N__law_locked : List Str := ["pot", "order", "at"]
theorem sc__law_locked : FnScope N__law_locked ["pot", "order"] (defScope s__law_locked) := ⟨rfl, rfl, rfl, by decide +kernel, rfl, by decide +kernel, by decide +kernel⟩
def t__law_locked (K : PySem.W.Frag) (sp__law_draw : Sp) (sp__law_put_in : Sp) : TS :=
    (tSeq (tIfS (tTest (tOp (rSame K) (tCall sp__law_draw [] E0 (tCons (tVar 0) (tCons (tC (.int 4)) tNil))) (tC (.int 0)))) (tRet (tVar 1)) tNext)
    (tSeq (tAsg (tCall sp__law_put_in [] E0 (tCons (tVar 0) (tCons (tVar 1) (tCons (tC (.str "unlock")) (tCons (tC (.int 0)) tNil))))) (gName 1))
    (tSeq (tAsg (tCall sp__law_draw [] E0 (tCons (tVar 0) (tCons (tOp rPlus (tBM K "list" (rIndex K) (tVar 1) (tCons (tC (.str "unlock")) tNil)) (tC (.int 1))) tNil))) (gName 2))
    (tRet (tOp rPlus (tOp rPlus (tSl (rSlL K) (tVar 1) tNoPart (tPart (tVar 2))) (tLst (tCons (tC (.str "lock")) tNil))) (tSl (rSlL K) (tVar 1) (tPart (tVar 2)) tNoPart))))))
theorem d__law_locked {sp__law_draw : Sp} {sp__law_put_in : Sp} (T : Txt K mg a_WRITER_WORDS a_CLEANER_WORDS a_READER_WORDS) (I__law_draw : FnI P w K mg base CX0 1 "_law_draw" ["pot", "many"] sp__law_draw) (I__law_put_in : FnI P w K mg base CX0 2 "_law_put_in" ["pot", "order", "word", "least"] sp__law_put_in) (f : Addr) (cdv : Value) (A : Around) (outer : List Env) (s : Shared) (H : Hp) (E : XK) (hr : Room 2 (A.deeper (envOfC "_law_locked" (defScope s__law_locked) s.heap.objs.size f cdv))) :
    PSs (cxOf CX0 P w K mg base N__law_locked "_law_locked" (defScope s__law_locked) f cdv A outer s H E).nox (defBody s__law_locked) (t__law_locked K sp__law_draw sp__law_put_in) :=
  have nd := sc__law_locked.nd
  (pss_cons (ps_if (pt_cmpR (op_same hr.units) (pe_callI I__law_draw hr (by decide) pass0 (pa_cons (pv 0) (pa_cons pe_int pa_nil))) pe_int (nomark _)) (pss_one (ps_ret (pv 1))) pss_nil)
    (pss_cons (ps_asg (pe_callI I__law_put_in hr (by decide) pass0 (pa_cons (pv 0) (pa_cons (pv 1) (pa_cons pe_str (pa_cons pe_int pa_nil))))) (pg_name (i := 1) nd rfl (Or.inl rfl)))
    (pss_cons (ps_asg (pe_callI I__law_draw hr (by decide) pass0 (pa_cons (pv 0) (pa_cons (pe_op op_plus (pe_bm PySem.F.plainAttrs_list PySem.F.slot_list_index PySem.F.type_list_index mt_index (pv 1) (pa_cons pe_str pa_nil)) pe_int) pa_nil))) (pg_name (i := 2) nd rfl (Or.inl rfl)))
    (pss_one (ps_ret (pe_op op_plus (pe_op op_plus (pe_slice sl_list (pv 1) po_none (po_some (pv 2))) (pe_lst (pa_cons pe_str pa_nil))) (pe_slice sl_list (pv 1) (po_some (pv 2)) po_none)))))))
abbrev s__law_writer_words : Stmt := (topS 16)
abbrev N__law_writer_words : List Str := ["pot", "order"]
theorem sc__law_writer_words : FnScope N__law_writer_words ["pot"] (defScope s__law_writer_words) := ⟨rfl, rfl, rfl, by decide +kernel, rfl, by decide +kernel, by decide +kernel⟩
def t__law_writer_words (K : PySem.W.Frag) (sp__law_draw : Sp) (sp__law_put_in : Sp) (sp__law_locked : Sp) : TS :=
    (tSeq (tAsg (tCall sp__law_put_in [] E0 (tCons (tVar 0) (tCons (tLst (tCons (tC (.str "change")) tNil)) (tCons (tC (.str "enter")) (tCons (tC (.int 1)) tNil))))) (gName 1))
    (tSeq (tAsg (tCall sp__law_put_in [] E0 (tCons (tVar 0) (tCons (tVar 1) (tCons (tC (.str "commit")) (tCons (tC (.int 1)) tNil))))) (gName 1))
    (tSeq (tIfS (tTest (tOp rMore (tCall sp__law_draw [] E0 (tCons (tVar 0) (tCons (tC (.int 4)) tNil))) (tC (.int 0)))) (tAsg (tCall sp__law_put_in [] E0 (tCons (tVar 0) (tCons (tVar 1) (tCons (tC (.str "clear")) (tCons (tC (.int 0)) tNil))))) (gName 1)) tNext)
    (tRet (tCall sp__law_locked [] E0 (tCons (tVar 0) (tCons (tVar 1) tNil)))))))
theorem d__law_writer_words {sp__law_draw : Sp} {sp__law_put_in : Sp} {sp__law_locked : Sp} (T : Txt K mg a_WRITER_WORDS a_CLEANER_WORDS a_READER_WORDS) (I__law_draw : FnI P w K mg base CX0 1 "_law_draw" ["pot", "many"] sp__law_draw) (I__law_put_in : FnI P w K mg base CX0 2 "_law_put_in" ["pot", "order", "word", "least"] sp__law_put_in) (I__law_locked : FnI P w K mg base CX0 3 "_law_locked" ["pot", "order"] sp__law_locked) (f : Addr) (cdv : Value) (A : Around) (outer : List Env) (s : Shared) (H : Hp) (E : XK) (hr : Room 3 (A.deeper (envOfC "_law_writer_words" (defScope s__law_writer_words) s.heap.objs.size f cdv))) :
    PSs (cxOf CX0 P w K mg base N__law_writer_words "_law_writer_words" (defScope s__law_writer_words) f cdv A outer s H E).nox (defBody s__law_writer_words) (t__law_writer_words K sp__law_draw sp__law_put_in sp__law_locked) :=
  have nd := sc__law_writer_words.nd
  (pss_cons (ps_asg (pe_callI I__law_put_in hr (by decide) pass0 (pa_cons (pv 0) (pa_cons (pe_lst (pa_cons pe_str pa_nil)) (pa_cons pe_str (pa_cons pe_int pa_nil))))) (pg_name (i := 1) nd rfl (Or.inl rfl)))
    (pss_cons (ps_asg (pe_callI I__law_put_in hr (by decide) pass0 (pa_cons (pv 0) (pa_cons (pv 1) (pa_cons pe_str (pa_cons pe_int pa_nil))))) (pg_name (i := 1) nd rfl (Or.inl rfl)))
    (pss_cons (ps_if (pt_cmpR op_more (pe_callI I__law_draw hr (by decide) pass0 (pa_cons (pv 0) (pa_cons pe_int pa_nil))) pe_int (nomark _)) (pss_one (ps_asg (pe_callI I__law_put_in hr (by decide) pass0 (pa_cons (pv 0) (pa_cons (pv 1) (pa_cons pe_str (pa_cons pe_int pa_nil))))) (pg_name (i := 1) nd rfl (Or.inl rfl)))) pss_nil)
    (pss_one (ps_ret (pe_callI I__law_locked hr (by decide) pass0 (pa_cons (pv 0) (pa_cons (pv 1) pa_nil))))))))
abbrev s__law_cleaner_words : Stmt := (topS 17)
abbrev N__law_cleaner_words : List Str := ["pot", "order"]
theorem sc__law_cleaner_words : FnScope N__law_cleaner_words ["pot"] (defScope s__law_cleaner_words) := ⟨rfl, rfl, rfl, by decide +kernel, rfl, by decide +kernel, by decide +kernel⟩
def t__law_cleaner_words (K : PySem.W.Frag) (sp__law_draw : Sp) (sp__law_locked : Sp) : TS :=
    (tSeq (tAsg (tLst (tCons (tC (.str "look")) (tCons (tC (.str "set")) tNil))) (gName 1))
    (tSeq (tIfS (tTest (tOp (rSame K) (tCall sp__law_draw [] E0 (tCons (tVar 0) (tCons (tC (.int 2)) tNil))) (tC (.int 1)))) (tAsg (tOp rPlus (tLst (tCons (tC (.str "remove")) tNil)) (tVar 1)) (gName 1)) tNext)
    (tSeq (tIfS (tTest (tOp (rSame K) (tCall sp__law_draw [] E0 (tCons (tVar 0) (tCons (tC (.int 3)) tNil))) (tC (.int 0)))) (tAsg (tOp rPlus (tVar 1) (tLst (tCons (tC (.str "again")) tNil))) (gName 1)) tNext)
    (tRet (tCall sp__law_locked [] E0 (tCons (tVar 0) (tCons (tVar 1) tNil)))))))
theorem d__law_cleaner_words {sp__law_draw : Sp} {sp__law_locked : Sp} (T : Txt K mg a_WRITER_WORDS a_CLEANER_WORDS a_READER_WORDS) (I__law_draw : FnI P w K mg base CX0 1 "_law_draw" ["pot", "many"] sp__law_draw) (I__law_locked : FnI P w K mg base CX0 3 "_law_locked" ["pot", "order"] sp__law_locked) (f : Addr) (cdv : Value) (A : Around) (outer : List Env) (s : Shared) (H : Hp) (E : XK) (hr : Room 3 (A.deeper (envOfC "_law_cleaner_words" (defScope s__law_cleaner_words) s.heap.objs.size f cdv))) :
    PSs (cxOf CX0 P w K mg base N__law_cleaner_words "_law_cleaner_words" (defScope s__law_cleaner_words) f cdv A outer s H E).nox (defBody s__law_cleaner_words) (t__law_cleaner_words K sp__law_draw sp__law_locked) :=
  have nd := sc__law_cleaner_words.nd
  (pss_cons (ps_asg (pe_lst (pa_cons pe_str (pa_cons pe_str pa_nil))) (pg_name (i := 1) nd rfl (Or.inl rfl)))
    (pss_cons (ps_if (pt_cmpR (op_same hr.units) (pe_callI I__law_draw hr (by decide) pass0 (pa_cons (pv 0) (pa_cons pe_int pa_nil))) pe_int (nomark _)) (pss_one (ps_asg (pe_op op_plus (pe_lst (pa_cons pe_str pa_nil)) (pv 1)) (pg_name (i := 1) nd rfl (Or.inl rfl)))) pss_nil)
    (pss_cons (ps_if (pt_cmpR (op_same hr.units) (pe_callI I__law_draw hr (by decide) pass0 (pa_cons (pv 0) (pa_cons pe_int pa_nil))) pe_int (nomark _)) (pss_one (ps_asg (pe_op op_plus (pv 1) (pe_lst (pa_cons pe_str pa_nil))) (pg_name (i := 1) nd rfl (Or.inl rfl)))) pss_nil)
    (pss_one (ps_ret (pe_callI I__law_locked hr (by decide) pass0 (pa_cons (pv 0) (pa_cons (pv 1) pa_nil))))))))
abbrev s__law_reader_words : Stmt := (topS 18)
abbrev N__law_reader_words : List Str := ["pot", "order"]
theorem sc__law_reader_words : FnScope N__law_reader_words ["pot"] (defScope s__law_reader_words) := ⟨rfl, rfl, rfl, by decide +kernel, rfl, by decide +kernel, by decide +kernel⟩
def t__law_reader_words (K : PySem.W.Frag) (sp__law_draw : Sp) (sp__law_put_in : Sp) : TS :=
    (tSeq (tAsg (tCall sp__law_put_in [] E0 (tCons (tVar 0) (tCons (tLst (tCons (tC (.str "entry")) tNil)) (tCons (tC (.str "mark")) (tCons (tC (.int 0)) tNil))))) (gName 1))
    (tSeq (tIfS (tTest (tOp rMore (tCall sp__law_draw [] E0 (tCons (tVar 0) (tCons (tC (.int 3)) tNil))) (tC (.int 0)))) (tRet (tOp rPlus (tCall sp__law_put_in [] E0 (tCons (tVar 0) (tCons (tVar 1) (tCons (tC (.str "hold")) (tCons (tC (.int 0)) tNil))))) (tLst (tCons (tC (.str "page")) tNil)))) tNext)
    (tSeq (tAsg (tCall sp__law_put_in [] E0 (tCons (tVar 0) (tCons (tVar 1) (tCons (tC (.str "take")) (tCons (tC (.int 0)) tNil))))) (gName 1))
    (tRet (tOp rPlus (tCall sp__law_put_in [] E0 (tCons (tVar 0) (tCons (tVar 1) (tCons (tC (.str "tell")) (tCons (tOp rPlus (tBM K "list" (rIndex K) (tVar 1) (tCons (tC (.str "take")) tNil)) (tC (.int 1))) tNil))))) (tLst (tCons (tC (.str "page")) tNil)))))))
theorem d__law_reader_words {sp__law_draw : Sp} {sp__law_put_in : Sp} (T : Txt K mg a_WRITER_WORDS a_CLEANER_WORDS a_READER_WORDS) (I__law_draw : FnI P w K mg base CX0 1 "_law_draw" ["pot", "many"] sp__law_draw) (I__law_put_in : FnI P w K mg base CX0 2 "_law_put_in" ["pot", "order", "word", "least"] sp__law_put_in) (f : Addr) (cdv : Value) (A : Around) (outer : List Env) (s : Shared) (H : Hp) (E : XK) (hr : Room 2 (A.deeper (envOfC "_law_reader_words" (defScope s__law_reader_words) s.heap.objs.size f cdv))) :
    PSs (cxOf CX0 P w K mg base N__law_reader_words "_law_reader_words" (defScope s__law_reader_words) f cdv A outer s H E).nox (defBody s__law_reader_words) (t__law_reader_words K sp__law_draw sp__law_put_in) :=
  have nd := sc__law_reader_words.nd
  (pss_cons (ps_asg (pe_callI I__law_put_in hr (by decide) pass0 (pa_cons (pv 0) (pa_cons (pe_lst (pa_cons pe_str pa_nil)) (pa_cons pe_str (pa_cons pe_int pa_nil))))) (pg_name (i := 1) nd rfl (Or.inl rfl)))
    (pss_cons (ps_if (pt_cmpR op_more (pe_callI I__law_draw hr (by decide) pass0 (pa_cons (pv 0) (pa_cons pe_int pa_nil))) pe_int (nomark _)) (pss_one (ps_ret (pe_op op_plus (pe_callI I__law_put_in hr (by decide) pass0 (pa_cons (pv 0) (pa_cons (pv 1) (pa_cons pe_str (pa_cons pe_int pa_nil))))) (pe_lst (pa_cons pe_str pa_nil))))) pss_nil)
    (pss_cons (ps_asg (pe_callI I__law_put_in hr (by decide) pass0 (pa_cons (pv 0) (pa_cons (pv 1) (pa_cons pe_str (pa_cons pe_int pa_nil))))) (pg_name (i := 1) nd rfl (Or.inl rfl)))
    (pss_one (ps_ret (pe_op op_plus (pe_callI I__law_put_in hr (by decide) pass0 (pa_cons (pv 0) (pa_cons (pv 1) (pa_cons pe_str (pa_cons (pe_op op_plus (pe_bm PySem.F.plainAttrs_list PySem.F.slot_list_index PySem.F.type_list_index mt_index (pv 1) (pa_cons pe_str pa_nil)) pe_int) pa_nil))))) (pe_lst (pa_cons pe_str pa_nil))))))))
abbrev s__law_ahead : Stmt := (topS 19)
abbrev N__law_ahead : List Str := ["order", "one", "other"]
theorem sc__law_ahead : FnScope N__law_ahead ["order", "one", "other"] (defScope s__law_ahead) := ⟨rfl, rfl, rfl, by decide +kernel, rfl, by decide +kernel, by decide +kernel⟩
def t__law_ahead (K : PySem.W.Frag) : TS :=
    (tRet (tOrV (tOp (rIn K true) (tVar 1) (tVar 0)) (tOrV (tOp (rIn K true) (tVar 2) (tVar 0)) (tOp rLess (tBM K "list" (rIndex K) (tVar 0) (tCons (tVar 1) tNil)) (tBM K "list" (rIndex K) (tVar 0) (tCons (tVar 2) tNil))))))
theorem d__law_ahead (T : Txt K mg a_WRITER_WORDS a_CLEANER_WORDS a_READER_WORDS) (f : Addr) (cdv : Value) (A : Around) (outer : List Env) (s : Shared) (H : Hp) (E : XK) (hr : Room 0 (A.deeper (envOfC "_law_ahead" (defScope s__law_ahead) s.heap.objs.size f cdv))) :
    PSs (cxOf CX0 P w K mg base N__law_ahead "_law_ahead" (defScope s__law_ahead) f cdv A outer s H E).nox (defBody s__law_ahead) (t__law_ahead K) :=
  have nd := sc__law_ahead.nd
  (pss_one (ps_ret (pe_or (pe_cmpR op_notIn_seq (pv 1) (pv 0) (by rfl)) (pe_or (pe_cmpR op_notIn_seq (pv 2) (pv 0) (by rfl)) (pe_one (pe_cmpR op_less (pe_bm PySem.F.plainAttrs_list PySem.F.slot_list_index PySem.F.type_list_index mt_index (pv 0) (pa_cons (pv 1) pa_nil)) (pe_bm PySem.F.plainAttrs_list PySem.F.slot_list_index PySem.F.type_list_index mt_index (pv 0) (pa_cons (pv 2) pa_nil)) (nomark _)))))))
abbrev s__law_fits : Stmt := (topS 20)
abbrev N__law_fits : List Str := ["text", "needed", "free", "order", "word", "other"]
theorem sc__law_fits : FnScope N__law_fits ["text", "needed", "free"] (defScope s__law_fits) := ⟨rfl, rfl, rfl, by decide +kernel, rfl, by decide +kernel, by decide +kernel⟩
def t__law_fits (K : PySem.W.Frag) (sp__law_ahead : Sp) : TS :=
    (tSeq (tAsg (tM1 rSplit (tVar 0) (tC (.str " "))) (gName 3))
    (tSeq (tFor (iList K (tVar 3)) (gName 4) (tIfS (tOr (tTest (tOp (rIn K true) (tVar 4) (tOp rPlus (tVar 1) (tVar 2)))) (tTest (tOp (rUnlike K) (tCB (rLen K) (tCons (tLc (iList K (tVar 3)) (gName 5) (tTest (tOp (rSame K) (tVar 5) (tVar 4))) (tVar 5) [5]) tNil)) (tC (.int 1))))) (tRet (tC (.bl false))) tNext))
    (tSeq (tIfS (tTest (tOp (rUnlike K) (tLc (iList K (tVar 1)) (gName 4) (tTest (tOp (rIn K true) (tVar 4) (tVar 3))) (tVar 4) [4]) (tLst tNil))) (tRet (tC (.bl false))) tNext)
    (tRet (tAndV (tOp (rSame K) (tOp (rIn K false) (tC (.str "lock")) (tVar 3)) (tOp (rIn K false) (tC (.str "unlock")) (tVar 3))) (tCall sp__law_ahead [] E0 (tCons (tVar 3) (tCons (tC (.str "lock")) (tCons (tC (.str "unlock")) tNil)))))))))
theorem d__law_fits {sp__law_ahead : Sp} (T : Txt K mg a_WRITER_WORDS a_CLEANER_WORDS a_READER_WORDS) (I__law_ahead : FnI P w K mg base CX0 1 "_law_ahead" ["order", "one", "other"] sp__law_ahead) (f : Addr) (cdv : Value) (A : Around) (outer : List Env) (s : Shared) (H : Hp) (E : XK) (hr : Room 1 (A.deeper (envOfC "_law_fits" (defScope s__law_fits) s.heap.objs.size f cdv))) :
    PSs (cxOf CX0 P w K mg base N__law_fits "_law_fits" (defScope s__law_fits) f cdv A outer s H E).nox (defBody s__law_fits) (t__law_fits K sp__law_ahead) :=
  have nd := sc__law_fits.nd
  (pss_cons (ps_asg (pe_split (pv 0) pe_str) (pg_name (i := 3) nd rfl (Or.inr rfl)))
    (pss_cons (ps_for PassesOwn.never rfl (pi_list (pv 3)) (pg_name (i := 4) nd rfl (Or.inr rfl)) (pss_one (ps_if (PW.pt (pw_or (pt_cmpR op_notIn_seq (pv 4) (pe_op op_plus (pv 1) (pv 2)) (by rfl)) (pw_or1 (pt_cmpR (op_unlike hr.units) (pe_callB cr_len (by rfl) T.n_len (by decide +kernel) (pa_cons (pe_lc (own := [("other", 5)]) (g := (gName 5)) (tt := (tTest (tOp (rSame K) (tVar 5) (tVar 4)))) rfl nd (pi_list (pv 3)) (blkOk_by (own := [("other", 5)]) (N := N__law_fits) (sc := defScope s__law_fits) (by decide +kernel)) (fun _ _ _ _ _ => (pg_name (i := 5) nd rfl (Or.inl rfl))) (fun _ _ _ _ _ => (pts_one (pt_cmpR (op_same hr.units) (pv 5) (pv 4) (nomark _)))) (fun _ _ _ _ _ => (pv 5))) pa_nil)) pe_int (nomark _))))) (pss_one (ps_ret pe_bl)) pss_nil)))
    (pss_cons (ps_if (pt_cmpR (op_unlike hr.units) (pe_lc (own := [("word", 4)]) (g := (gName 4)) (tt := (tTest (tOp (rIn K true) (tVar 4) (tVar 3)))) rfl nd (pi_list (pv 1)) (blkOk_by (own := [("word", 4)]) (N := N__law_fits) (sc := defScope s__law_fits) (by decide +kernel)) (fun _ _ _ _ _ => (pg_name (i := 4) nd rfl (Or.inl rfl))) (fun _ _ _ _ _ => (pts_one (pt_cmpR op_notIn_seq (pv 4) (pv 3) (by rfl)))) (fun _ _ _ _ _ => (pv 4))) (pe_lst pa_nil) (nomark _)) (pss_one (ps_ret pe_bl)) pss_nil)
    (pss_one (ps_ret (pe_and (pe_cmpR (op_same hr.units) (pe_cmpR op_in_seq pe_str (pv 3) (by rfl)) (pe_cmpR op_in_seq pe_str (pv 3) (by rfl)) (nomark _)) (pe_one (pe_callI I__law_ahead hr (by decide) pass0 (pa_cons (pv 3) (pa_cons pe_str (pa_cons pe_str pa_nil)))))))))))
abbrev s__law_is_writer : Stmt := (topS 21)
abbrev N__law_is_writer : List Str := ["text", "order"]
theorem sc__law_is_writer : FnScope N__law_is_writer ["text"] (defScope s__law_is_writer) := ⟨rfl, rfl, rfl, by decide +kernel, rfl, by decide +kernel, by decide +kernel⟩
def t__law_is_writer (K : PySem.W.Frag) (sp__law_ahead : Sp) (sp__law_fits : Sp) : TS :=
    (tSeq (tIfS (tNot (tB (tCall sp__law_fits [] E0 (tCons (tVar 0) (tCons (tLst (tCons (tC (.str "change")) (tCons (tC (.str "enter")) (tCons (tC (.str "commit")) tNil)))) (tCons (tLst (tCons (tC (.str "clear")) (tCons (tC (.str "lock")) (tCons (tC (.str "unlock")) tNil)))) tNil)))))) (tRet (tC (.bl false))) tNext)
    (tSeq (tAsg (tM1 rSplit (tVar 0) (tC (.str " "))) (gName 1))
    (tRet (tAndV (tCall sp__law_ahead [] E0 (tCons (tVar 1) (tCons (tC (.str "change")) (tCons (tC (.str "enter")) tNil)))) (tCall sp__law_ahead [] E0 (tCons (tVar 1) (tCons (tC (.str "change")) (tCons (tC (.str "commit")) tNil))))))))
theorem d__law_is_writer {sp__law_ahead : Sp} {sp__law_fits : Sp} (T : Txt K mg a_WRITER_WORDS a_CLEANER_WORDS a_READER_WORDS) (I__law_ahead : FnI P w K mg base CX0 1 "_law_ahead" ["order", "one", "other"] sp__law_ahead) (I__law_fits : FnI P w K mg base CX0 2 "_law_fits" ["text", "needed", "free"] sp__law_fits) (f : Addr) (cdv : Value) (A : Around) (outer : List Env) (s : Shared) (H : Hp) (E : XK) (hr : Room 2 (A.deeper (envOfC "_law_is_writer" (defScope s__law_is_writer) s.heap.objs.size f cdv))) :
    PSs (cxOf CX0 P w K mg base N__law_is_writer "_law_is_writer" (defScope s__law_is_writer) f cdv A outer s H E).nox (defBody s__law_is_writer) (t__law_is_writer K sp__law_ahead sp__law_fits) :=
  have nd := sc__law_is_writer.nd
  (pss_cons (ps_if (pt_not (pt_val (pe_callI I__law_fits hr (by decide) pass0 (pa_cons (pv 0) (pa_cons (pe_lst (pa_cons pe_str (pa_cons pe_str (pa_cons pe_str pa_nil)))) (pa_cons (pe_lst (pa_cons pe_str (pa_cons pe_str (pa_cons pe_str pa_nil)))) pa_nil)))))) (pss_one (ps_ret pe_bl)) pss_nil)
    (pss_cons (ps_asg (pe_split (pv 0) pe_str) (pg_name (i := 1) nd rfl (Or.inl rfl)))
    (pss_one (ps_ret (pe_and (pe_callI I__law_ahead hr (by decide) pass0 (pa_cons (pv 1) (pa_cons pe_str (pa_cons pe_str pa_nil)))) (pe_one (pe_callI I__law_ahead hr (by decide) pass0 (pa_cons (pv 1) (pa_cons pe_str (pa_cons pe_str pa_nil))))))))))
abbrev s__law_is_cleaner : Stmt := (topS 22)
abbrev N__law_is_cleaner : List Str := ["text", "order"]
theorem sc__law_is_cleaner : FnScope N__law_is_cleaner ["text"] (defScope s__law_is_cleaner) := ⟨rfl, rfl, rfl, by decide +kernel, rfl, by decide +kernel, by decide +kernel⟩
def t__law_is_cleaner (K : PySem.W.Frag) (sp__law_ahead : Sp) (sp__law_fits : Sp) : TS :=
    (tSeq (tIfS (tNot (tB (tCall sp__law_fits [] E0 (tCons (tVar 0) (tCons (tLst (tCons (tC (.str "look")) (tCons (tC (.str "set")) tNil))) (tCons (tLst (tCons (tC (.str "remove")) (tCons (tC (.str "again")) (tCons (tC (.str "lock")) (tCons (tC (.str "unlock")) tNil))))) tNil)))))) (tRet (tC (.bl false))) tNext)
    (tSeq (tAsg (tM1 rSplit (tVar 0) (tC (.str " "))) (gName 1))
    (tSeq (tIfS (tOr (tNot (tB (tCall sp__law_ahead [] E0 (tCons (tVar 1) (tCons (tC (.str "look")) (tCons (tC (.str "set")) tNil)))))) (tNot (tB (tCall sp__law_ahead [] E0 (tCons (tVar 1) (tCons (tC (.str "remove")) (tCons (tC (.str "look")) tNil))))))) (tRet (tC (.bl false))) tNext)
    (tRet (tCall sp__law_ahead [] E0 (tCons (tVar 1) (tCons (tC (.str "set")) (tCons (tC (.str "again")) tNil))))))))
theorem d__law_is_cleaner {sp__law_ahead : Sp} {sp__law_fits : Sp} (T : Txt K mg a_WRITER_WORDS a_CLEANER_WORDS a_READER_WORDS) (I__law_ahead : FnI P w K mg base CX0 1 "_law_ahead" ["order", "one", "other"] sp__law_ahead) (I__law_fits : FnI P w K mg base CX0 2 "_law_fits" ["text", "needed", "free"] sp__law_fits) (f : Addr) (cdv : Value) (A : Around) (outer : List Env) (s : Shared) (H : Hp) (E : XK) (hr : Room 2 (A.deeper (envOfC "_law_is_cleaner" (defScope s__law_is_cleaner) s.heap.objs.size f cdv))) :
    PSs (cxOf CX0 P w K mg base N__law_is_cleaner "_law_is_cleaner" (defScope s__law_is_cleaner) f cdv A outer s H E).nox (defBody s__law_is_cleaner) (t__law_is_cleaner K sp__law_ahead sp__law_fits) :=
  have nd := sc__law_is_cleaner.nd
  (pss_cons (ps_if (pt_not (pt_val (pe_callI I__law_fits hr (by decide) pass0 (pa_cons (pv 0) (pa_cons (pe_lst (pa_cons pe_str (pa_cons pe_str pa_nil))) (pa_cons (pe_lst (pa_cons pe_str (pa_cons pe_str (pa_cons pe_str (pa_cons pe_str pa_nil))))) pa_nil)))))) (pss_one (ps_ret pe_bl)) pss_nil)
    (pss_cons (ps_asg (pe_split (pv 0) pe_str) (pg_name (i := 1) nd rfl (Or.inl rfl)))
    (pss_cons (ps_if (PW.pt (pw_or (pt_not (pt_val (pe_callI I__law_ahead hr (by decide) pass0 (pa_cons (pv 1) (pa_cons pe_str (pa_cons pe_str pa_nil)))))) (pw_or1 (pt_not (pt_val (pe_callI I__law_ahead hr (by decide) pass0 (pa_cons (pv 1) (pa_cons pe_str (pa_cons pe_str pa_nil))))))))) (pss_one (ps_ret pe_bl)) pss_nil)
    (pss_one (ps_ret (pe_callI I__law_ahead hr (by decide) pass0 (pa_cons (pv 1) (pa_cons pe_str (pa_cons pe_str pa_nil)))))))))
abbrev s__law_is_reader : Stmt := (topS 23)
abbrev N__law_is_reader : List Str := ["text", "order"]
theorem sc__law_is_reader : FnScope N__law_is_reader ["text"] (defScope s__law_is_reader) := ⟨rfl, rfl, rfl, by decide +kernel, rfl, by decide +kernel, by decide +kernel⟩
def t__law_is_reader (K : PySem.W.Frag) (sp__law_ahead : Sp) (sp__law_fits : Sp) : TS :=
    (tSeq (tIfS (tNot (tB (tCall sp__law_fits [] E0 (tCons (tVar 0) (tCons (tLst (tCons (tC (.str "entry")) (tCons (tC (.str "mark")) (tCons (tC (.str "page")) tNil)))) (tCons (tLst (tCons (tC (.str "hold")) (tCons (tC (.str "take")) (tCons (tC (.str "tell")) tNil)))) tNil)))))) (tRet (tC (.bl false))) tNext)
    (tSeq (tAsg (tM1 rSplit (tVar 0) (tC (.str " "))) (gName 1))
    (tSeq (tIfS (tOr (tTest (tOp (rSame K) (tOp (rIn K false) (tC (.str "hold")) (tVar 1)) (tOp (rIn K false) (tC (.str "take")) (tVar 1)))) (tTest (tOp (rUnlike K) (tOp (rIn K false) (tC (.str "take")) (tVar 1)) (tOp (rIn K false) (tC (.str "tell")) (tVar 1))))) (tRet (tC (.bl false))) tNext)
    (tRet (tAndV (tOp (rSame K) (tOp (rIx K) (tVar 1) (tUn rNeg (tC (.int 1)))) (tC (.str "page"))) (tCall sp__law_ahead [] E0 (tCons (tVar 1) (tCons (tC (.str "take")) (tCons (tC (.str "tell")) tNil)))))))))
theorem d__law_is_reader {sp__law_ahead : Sp} {sp__law_fits : Sp} (T : Txt K mg a_WRITER_WORDS a_CLEANER_WORDS a_READER_WORDS) (I__law_ahead : FnI P w K mg base CX0 1 "_law_ahead" ["order", "one", "other"] sp__law_ahead) (I__law_fits : FnI P w K mg base CX0 2 "_law_fits" ["text", "needed", "free"] sp__law_fits) (f : Addr) (cdv : Value) (A : Around) (outer : List Env) (s : Shared) (H : Hp) (E : XK) (hr : Room 2 (A.deeper (envOfC "_law_is_reader" (defScope s__law_is_reader) s.heap.objs.size f cdv))) :
    PSs (cxOf CX0 P w K mg base N__law_is_reader "_law_is_reader" (defScope s__law_is_reader) f cdv A outer s H E).nox (defBody s__law_is_reader) (t__law_is_reader K sp__law_ahead sp__law_fits) :=
  have nd := sc__law_is_reader.nd
  (pss_cons (ps_if (pt_not (pt_val (pe_callI I__law_fits hr (by decide) pass0 (pa_cons (pv 0) (pa_cons (pe_lst (pa_cons pe_str (pa_cons pe_str (pa_cons pe_str pa_nil)))) (pa_cons (pe_lst (pa_cons pe_str (pa_cons pe_str (pa_cons pe_str pa_nil)))) pa_nil)))))) (pss_one (ps_ret pe_bl)) pss_nil)
    (pss_cons (ps_asg (pe_split (pv 0) pe_str) (pg_name (i := 1) nd rfl (Or.inl rfl)))
    (pss_cons (ps_if (PW.pt (pw_or (pt_cmpR (op_same hr.units) (pe_cmpR op_in_seq pe_str (pv 1) (by rfl)) (pe_cmpR op_in_seq pe_str (pv 1) (by rfl)) (nomark _)) (pw_or1 (pt_cmpR (op_unlike hr.units) (pe_cmpR op_in_seq pe_str (pv 1) (by rfl)) (pe_cmpR op_in_seq pe_str (pv 1) (by rfl)) (nomark _))))) (pss_one (ps_ret pe_bl)) pss_nil)
    (pss_one (ps_ret (pe_and (pe_cmpR (op_same hr.units) (pe_ix ix_seq (pv 1) (pe_un un_minus pe_int) (fun _ _ => rfl)) pe_str (nomark _)) (pe_one (pe_callI I__law_ahead hr (by decide) pass0 (pa_cons (pv 1) (pa_cons pe_str (pa_cons pe_str pa_nil)))))))))))
abbrev s__law_spoilt : Stmt := (topS 24)
abbrev N__law_spoilt : List Str := ["pot", "order", "strange", "k", "word", "at", "mate", "kept"]
theorem sc__law_spoilt : FnScope N__law_spoilt ["pot", "order"] (defScope s__law_spoilt) := ⟨rfl, rfl, rfl, by decide +kernel, rfl, by decide +kernel, by decide +kernel⟩
def t__law_spoilt (K : PySem.W.Frag) (sp__law_draw : Sp) : TS :=
    (tSeq (tAsg (tLst (tCons (tC (.str "clear")) (tCons (tC (.str "lock")) (tCons (tC (.str "unlock")) (tCons (tC (.str "again")) (tCons (tC (.str "remove")) (tCons (tC (.str "hold")) (tCons (tC (.str "tell")) (tCons (tC (.str "")) (tCons (tC (.str "Lock")) (tCons (tC (.str "page")) (tCons (tC (.str "enter")) (tCons (tC (.str "set")) tNil))))))))))))) (gName 2))
    (tSeq (tFor (iRng1 (tCons (tCall sp__law_draw [] E0 (tCons (tVar 0) (tCons (tC (.int 4)) tNil))) tNil)) (gName 3) (tSeq (tAsg (tCall sp__law_draw [] E0 (tCons (tVar 0) (tCons (tC (.int 4)) tNil))) (gName 4))
    (tSeq (tAsg (tCall sp__law_draw [] E0 (tCons (tVar 0) (tCons (tOp rPlus (tCB (rLen K) (tCons (tVar 1) tNil)) (tC (.int 1))) tNil))) (gName 5))
    (tSeq (tAsg (tCall sp__law_draw [] E0 (tCons (tVar 0) (tCons (tOp rPlus (tCB (rLen K) (tCons (tVar 1) tNil)) (tC (.int 1))) tNil))) (gName 6))
    (tIfS (tTest (tOp (rSame K) (tVar 4) (tC (.int 0)))) (tAsg (tOp rPlus (tOp rPlus (tSl (rSlL K) (tVar 1) tNoPart (tPart (tVar 5))) (tLst (tCons (tOp (rIx K) (tVar 2) (tCall sp__law_draw [] E0 (tCons (tVar 0) (tCons (tC (.int 12)) tNil)))) tNil))) (tSl (rSlL K) (tVar 1) (tPart (tVar 5)) tNoPart)) (gName 1)) (tIfS (tTest (tOp (rSame K) (tVar 4) (tC (.int 1)))) (tAsg (tOp rPlus (tSl (rSlL K) (tVar 1) tNoPart (tPart (tVar 5))) (tSl (rSlL K) (tVar 1) (tPart (tOp rPlus (tVar 5) (tC (.int 1)))) tNoPart)) (gName 1)) (tIfS (tAnd (tTest (tOp rLess (tVar 5) (tCB (rLen K) (tCons (tVar 1) tNil)))) (tTest (tOp rLess (tVar 6) (tCB (rLen K) (tCons (tVar 1) tNil))))) (tSeq (tAsg (tOp (rIx K) (tVar 1) (tVar 5)) (gName 7))
    (tSeq (tAsg (tOp rPlus (tOp rPlus (tSl (rSlL K) (tVar 1) tNoPart (tPart (tVar 5))) (tLst (tCons (tOp (rIx K) (tVar 1) (tVar 6)) tNil))) (tSl (rSlL K) (tVar 1) (tPart (tOp rPlus (tVar 5) (tC (.int 1)))) tNoPart)) (gName 1))
    (tAsg (tOp rPlus (tOp rPlus (tSl (rSlL K) (tVar 1) tNoPart (tPart (tVar 6))) (tLst (tCons (tVar 7) tNil))) (tSl (rSlL K) (tVar 1) (tPart (tOp rPlus (tVar 6) (tC (.int 1)))) tNoPart)) (gName 1)))) tNext)))))))
    (tRet (tVar 1))))
theorem d__law_spoilt {sp__law_draw : Sp} (T : Txt K mg a_WRITER_WORDS a_CLEANER_WORDS a_READER_WORDS) (I__law_draw : FnI P w K mg base CX0 1 "_law_draw" ["pot", "many"] sp__law_draw) (f : Addr) (cdv : Value) (A : Around) (outer : List Env) (s : Shared) (H : Hp) (E : XK) (hr : Room 1 (A.deeper (envOfC "_law_spoilt" (defScope s__law_spoilt) s.heap.objs.size f cdv))) :
    PSs (cxOf CX0 P w K mg base N__law_spoilt "_law_spoilt" (defScope s__law_spoilt) f cdv A outer s H E).nox (defBody s__law_spoilt) (t__law_spoilt K sp__law_draw) :=
  have nd := sc__law_spoilt.nd
  (pss_cons (ps_asg (pe_lst (pa_cons pe_str (pa_cons pe_str (pa_cons pe_str (pa_cons pe_str (pa_cons pe_str (pa_cons pe_str (pa_cons pe_str (pa_cons pe_str (pa_cons pe_str (pa_cons pe_str (pa_cons pe_str (pa_cons pe_str pa_nil))))))))))))) (pg_name (i := 2) nd rfl (Or.inl rfl)))
    (pss_cons (ps_for PassesOwn.never rfl (pi_range1 (by rfl) T.n_range (pa_cons (pe_callI I__law_draw hr (by decide) pass0 (pa_cons (pv 0) (pa_cons pe_int pa_nil))) pa_nil)) (pg_name (i := 3) nd rfl (Or.inl rfl)) (pss_cons (ps_asg (pe_callI I__law_draw hr (by decide) pass0 (pa_cons (pv 0) (pa_cons pe_int pa_nil))) (pg_name (i := 4) nd rfl (Or.inl rfl)))
    (pss_cons (ps_asg (pe_callI I__law_draw hr (by decide) pass0 (pa_cons (pv 0) (pa_cons (pe_op op_plus (pe_callB cr_len (by rfl) T.n_len (by decide +kernel) (pa_cons (pv 1) pa_nil)) pe_int) pa_nil))) (pg_name (i := 5) nd rfl (Or.inl rfl)))
    (pss_cons (ps_asg (pe_callI I__law_draw hr (by decide) pass0 (pa_cons (pv 0) (pa_cons (pe_op op_plus (pe_callB cr_len (by rfl) T.n_len (by decide +kernel) (pa_cons (pv 1) pa_nil)) pe_int) pa_nil))) (pg_name (i := 6) nd rfl (Or.inl rfl)))
    (pss_one (ps_if (pt_cmpR (op_same hr.units) (pv 4) pe_int (nomark _)) (pss_one (ps_asg (pe_op op_plus (pe_op op_plus (pe_slice sl_list (pv 1) po_none (po_some (pv 5))) (pe_lst (pa_cons (pe_ix ix_seq (pv 2) (pe_callI I__law_draw hr (by decide) pass0 (pa_cons (pv 0) (pa_cons pe_int pa_nil))) (fun _ _ => rfl)) pa_nil))) (pe_slice sl_list (pv 1) (po_some (pv 5)) po_none)) (pg_name (i := 1) nd rfl (Or.inl rfl)))) (pss_one (ps_if (pt_cmpR (op_same hr.units) (pv 4) pe_int (nomark _)) (pss_one (ps_asg (pe_op op_plus (pe_slice sl_list (pv 1) po_none (po_some (pv 5))) (pe_slice sl_list (pv 1) (po_some (pe_op op_plus (pv 5) pe_int)) po_none)) (pg_name (i := 1) nd rfl (Or.inl rfl)))) (pss_one (ps_if (PW.pt (pw_and (pt_cmpR op_less (pv 5) (pe_callB cr_len (by rfl) T.n_len (by decide +kernel) (pa_cons (pv 1) pa_nil)) (nomark _)) (pw_and1 (pt_cmpR op_less (pv 6) (pe_callB cr_len (by rfl) T.n_len (by decide +kernel) (pa_cons (pv 1) pa_nil)) (nomark _))))) (pss_cons (ps_asg (pe_ix ix_seq (pv 1) (pv 5) (fun _ _ => rfl)) (pg_name (i := 7) nd rfl (Or.inl rfl)))
    (pss_cons (ps_asg (pe_op op_plus (pe_op op_plus (pe_slice sl_list (pv 1) po_none (po_some (pv 5))) (pe_lst (pa_cons (pe_ix ix_seq (pv 1) (pv 6) (fun _ _ => rfl)) pa_nil))) (pe_slice sl_list (pv 1) (po_some (pe_op op_plus (pv 5) pe_int)) po_none)) (pg_name (i := 1) nd rfl (Or.inl rfl)))
    (pss_one (ps_asg (pe_op op_plus (pe_op op_plus (pe_slice sl_list (pv 1) po_none (po_some (pv 6))) (pe_lst (pa_cons (pv 7) pa_nil))) (pe_slice sl_list (pv 1) (po_some (pe_op op_plus (pv 6) pe_int)) po_none)) (pg_name (i := 1) nd rfl (Or.inl rfl)))))) pss_nil))))))))))
    (pss_one (ps_ret (pv 1)))))
abbrev s_law : Stmt := (topS 25)
abbrev N_law : List Str := ["script", "pot", "order", "k", "kind", "good", "text", "odd"]
theorem sc_law : FnScope N_law ["script"] (defScope s_law) := ⟨rfl, rfl, rfl, by decide +kernel, rfl, by decide +kernel, by decide +kernel⟩
def t_law (K : PySem.W.Frag) (sp_is_writer : Sp) (sp_is_cleaner : Sp) (sp_is_reader : Sp) (sp__law_pot : Sp) (sp__law_draw : Sp) (sp__law_writer_words : Sp) (sp__law_cleaner_words : Sp) (sp__law_reader_words : Sp) (sp__law_is_writer : Sp) (sp__law_is_cleaner : Sp) (sp__law_is_reader : Sp) (sp__law_spoilt : Sp) : TS :=
    (tSeq (tAsg (tCall sp__law_pot [] E0 (tCons (tVar 0) tNil)) (gName 1))
    (tSeq (tAsg (tLst tNil) (gName 2))
    (tSeq (tFor (iRng1 (tCons (tC (.int 4)) tNil)) (gName 3) (tSeq (tAsg (tCall sp__law_draw [] E0 (tCons (tVar 1) (tCons (tC (.int 3)) tNil))) (gName 4))
    (tSeq (tIfS (tTest (tOp (rSame K) (tVar 4) (tC (.int 0)))) (tAsg (tCall sp__law_writer_words [] E0 (tCons (tVar 1) tNil)) (gName 2)) (tIfS (tTest (tOp (rSame K) (tVar 4) (tC (.int 1)))) (tAsg (tCall sp__law_cleaner_words [] E0 (tCons (tVar 1) tNil)) (gName 2)) (tAsg (tCall sp__law_reader_words [] E0 (tCons (tVar 1) tNil)) (gName 2))))
    (tSeq (tAsg (tM1 (rJoin K) (tC (.str " ")) (tVar 2)) (gName 5))
    (tSeq (tIfS (tTest (tOp (rUnlike K) (tLst (tCons (tCall sp_is_writer [] E0 (tCons (tVar 5) tNil)) (tCons (tCall sp_is_cleaner [] E0 (tCons (tVar 5) tNil)) (tCons (tCall sp_is_reader [] E0 (tCons (tVar 5) tNil)) tNil)))) (tLst (tCons (tOp (rSame K) (tVar 4) (tC (.int 0))) (tCons (tOp (rSame K) (tVar 4) (tC (.int 1))) (tCons (tOp (rSame K) (tVar 4) (tC (.int 2))) tNil)))))) (tRet (tC (.bl false))) tNext)
    (tSeq (tAsg (tM1 (rJoin K) (tC (.str " ")) (tCall sp__law_spoilt [] E0 (tCons (tVar 1) (tCons (tVar 2) tNil)))) (gName 6))
    (tSeq (tIfS (tTest (tOp (rUnlike K) (tCall sp_is_writer [] E0 (tCons (tVar 6) tNil)) (tCall sp__law_is_writer [] E0 (tCons (tVar 6) tNil)))) (tRet (tC (.bl false))) tNext)
    (tSeq (tIfS (tTest (tOp (rUnlike K) (tCall sp_is_cleaner [] E0 (tCons (tVar 6) tNil)) (tCall sp__law_is_cleaner [] E0 (tCons (tVar 6) tNil)))) (tRet (tC (.bl false))) tNext)
    (tSeq (tIfS (tTest (tOp (rUnlike K) (tCall sp_is_reader [] E0 (tCons (tVar 6) tNil)) (tCall sp__law_is_reader [] E0 (tCons (tVar 6) tNil)))) (tRet (tC (.bl false))) tNext)
    (tIfS (tOr (tB (tCall sp_is_writer [] E0 (tCons (tOp rPlus (tVar 5) (tC (.str " "))) tNil))) (tOr (tB (tCall sp_is_cleaner [] E0 (tCons (tOp rPlus (tC (.str " ")) (tVar 5)) tNil))) (tOr (tB (tCall sp_is_reader [] E0 (tCons (tOp rPlus (tVar 5) (tC (.str "\n"))) tNil))) (tB (tCall sp_is_reader [] E0 (tCons (tOp rPlus (tVar 5) (tC (.str " page"))) tNil)))))) (tRet (tC (.bl false))) tNext))))))))))
    (tSeq (tAsg (tOp (rIx K) (tLst (tCons (tC .non) (tCons (tC (.bl true)) (tCons (tC (.int 5)) (tCons (tCB (rListOf K) (tCons (tVar 2) tNil)) (tCons (tCB (rTupleOf K) (tCons (tVar 2) tNil)) (tCons (tC (.str "")) (tCons (tC (.str " ")) tNil)))))))) (tCall sp__law_draw [] E0 (tCons (tVar 1) (tCons (tC (.int 7)) tNil)))) (gName 7))
    (tRet (tAndV (tNotV (tCall sp_is_writer [] E0 (tCons (tVar 7) tNil))) (tAndV (tNotV (tCall sp_is_cleaner [] E0 (tCons (tVar 7) tNil))) (tNotV (tCall sp_is_reader [] E0 (tCons (tVar 7) tNil))))))))))
theorem d_law {sp_is_writer : Sp} {sp_is_cleaner : Sp} {sp_is_reader : Sp} {sp__law_pot : Sp} {sp__law_draw : Sp} {sp__law_writer_words : Sp} {sp__law_cleaner_words : Sp} {sp__law_reader_words : Sp} {sp__law_is_writer : Sp} {sp__law_is_cleaner : Sp} {sp__law_is_reader : Sp} {sp__law_spoilt : Sp} (T : Txt K mg a_WRITER_WORDS a_CLEANER_WORDS a_READER_WORDS) (I_is_writer : FnI P w K mg base CX0 3 "is_writer" ["value"] sp_is_writer) (I_is_cleaner : FnI P w K mg base CX0 3 "is_cleaner" ["value"] sp_is_cleaner) (I_is_reader : FnI P w K mg base CX0 2 "is_reader" ["value"] sp_is_reader) (I__law_pot : FnI P w K mg base CX0 1 "_law_pot" ["script"] sp__law_pot) (I__law_draw : FnI P w K mg base CX0 1 "_law_draw" ["pot", "many"] sp__law_draw) (I__law_writer_words : FnI P w K mg base CX0 4 "_law_writer_words" ["pot"] sp__law_writer_words) (I__law_cleaner_words : FnI P w K mg base CX0 4 "_law_cleaner_words" ["pot"] sp__law_cleaner_words) (I__law_reader_words : FnI P w K mg base CX0 3 "_law_reader_words" ["pot"] sp__law_reader_words) (I__law_is_writer : FnI P w K mg base CX0 3 "_law_is_writer" ["text"] sp__law_is_writer) (I__law_is_cleaner : FnI P w K mg base CX0 3 "_law_is_cleaner" ["text"] sp__law_is_cleaner) (I__law_is_reader : FnI P w K mg base CX0 3 "_law_is_reader" ["text"] sp__law_is_reader) (I__law_spoilt : FnI P w K mg base CX0 2 "_law_spoilt" ["pot", "order"] sp__law_spoilt) (f : Addr) (cdv : Value) (A : Around) (outer : List Env) (s : Shared) (H : Hp) (E : XK) (hr : Room 4 (A.deeper (envOfC "law" (defScope s_law) s.heap.objs.size f cdv))) :
    PSs (cxOf CX0 P w K mg base N_law "law" (defScope s_law) f cdv A outer s H E).nox (defBody s_law) (t_law K sp_is_writer sp_is_cleaner sp_is_reader sp__law_pot sp__law_draw sp__law_writer_words sp__law_cleaner_words sp__law_reader_words sp__law_is_writer sp__law_is_cleaner sp__law_is_reader sp__law_spoilt) :=
  have nd := sc_law.nd
  (pss_cons (ps_asg (pe_callI I__law_pot hr (by decide) pass0 (pa_cons (pv 0) pa_nil)) (pg_name (i := 1) nd rfl (Or.inl rfl)))
    (pss_cons (ps_asg (pe_lst pa_nil) (pg_name (i := 2) nd rfl (Or.inl rfl)))
    (pss_cons (ps_for PassesOwn.never rfl (pi_range1 (by rfl) T.n_range (pa_cons pe_int pa_nil)) (pg_name (i := 3) nd rfl (Or.inl rfl)) (pss_cons (ps_asg (pe_callI I__law_draw hr (by decide) pass0 (pa_cons (pv 1) (pa_cons pe_int pa_nil))) (pg_name (i := 4) nd rfl (Or.inl rfl)))
    (pss_cons (ps_if (pt_cmpR (op_same hr.units) (pv 4) pe_int (nomark _)) (pss_one (ps_asg (pe_callI I__law_writer_words hr (by decide) pass0 (pa_cons (pv 1) pa_nil)) (pg_name (i := 2) nd rfl (Or.inl rfl)))) (pss_one (ps_if (pt_cmpR (op_same hr.units) (pv 4) pe_int (nomark _)) (pss_one (ps_asg (pe_callI I__law_cleaner_words hr (by decide) pass0 (pa_cons (pv 1) pa_nil)) (pg_name (i := 2) nd rfl (Or.inl rfl)))) (pss_one (ps_asg (pe_callI I__law_reader_words hr (by decide) pass0 (pa_cons (pv 1) pa_nil)) (pg_name (i := 2) nd rfl (Or.inl rfl)))))))
    (pss_cons (ps_asg (pe_join pe_str (pv 2)) (pg_name (i := 5) nd rfl (Or.inl rfl)))
    (pss_cons (ps_if (pt_cmpR (op_unlike hr.units) (pe_lst (pa_cons (pe_callI I_is_writer hr (by decide) pass0 (pa_cons (pv 5) pa_nil)) (pa_cons (pe_callI I_is_cleaner hr (by decide) pass0 (pa_cons (pv 5) pa_nil)) (pa_cons (pe_callI I_is_reader hr (by decide) pass0 (pa_cons (pv 5) pa_nil)) pa_nil)))) (pe_lst (pa_cons (pe_cmpR (op_same hr.units) (pv 4) pe_int (nomark _)) (pa_cons (pe_cmpR (op_same hr.units) (pv 4) pe_int (nomark _)) (pa_cons (pe_cmpR (op_same hr.units) (pv 4) pe_int (nomark _)) pa_nil)))) (nomark _)) (pss_one (ps_ret pe_bl)) pss_nil)
    (pss_cons (ps_asg (pe_join pe_str (pe_callI I__law_spoilt hr (by decide) pass0 (pa_cons (pv 1) (pa_cons (pv 2) pa_nil)))) (pg_name (i := 6) nd rfl (Or.inl rfl)))
    (pss_cons (ps_if (pt_cmpR (op_unlike hr.units) (pe_callI I_is_writer hr (by decide) pass0 (pa_cons (pv 6) pa_nil)) (pe_callI I__law_is_writer hr (by decide) pass0 (pa_cons (pv 6) pa_nil)) (nomark _)) (pss_one (ps_ret pe_bl)) pss_nil)
    (pss_cons (ps_if (pt_cmpR (op_unlike hr.units) (pe_callI I_is_cleaner hr (by decide) pass0 (pa_cons (pv 6) pa_nil)) (pe_callI I__law_is_cleaner hr (by decide) pass0 (pa_cons (pv 6) pa_nil)) (nomark _)) (pss_one (ps_ret pe_bl)) pss_nil)
    (pss_cons (ps_if (pt_cmpR (op_unlike hr.units) (pe_callI I_is_reader hr (by decide) pass0 (pa_cons (pv 6) pa_nil)) (pe_callI I__law_is_reader hr (by decide) pass0 (pa_cons (pv 6) pa_nil)) (nomark _)) (pss_one (ps_ret pe_bl)) pss_nil)
    (pss_one (ps_if (PW.pt (pw_or (pt_val (pe_callI I_is_writer hr (by decide) pass0 (pa_cons (pe_op op_plus (pv 5) pe_str) pa_nil))) (pw_or (pt_val (pe_callI I_is_cleaner hr (by decide) pass0 (pa_cons (pe_op op_plus pe_str (pv 5)) pa_nil))) (pw_or (pt_val (pe_callI I_is_reader hr (by decide) pass0 (pa_cons (pe_op op_plus (pv 5) pe_str) pa_nil))) (pw_or1 (pt_val (pe_callI I_is_reader hr (by decide) pass0 (pa_cons (pe_op op_plus (pv 5) pe_str) pa_nil)))))))) (pss_one (ps_ret pe_bl)) pss_nil)))))))))))
    (pss_cons (ps_asg (pe_ix ix_seq (pe_lst (pa_cons pe_non (pa_cons pe_bl (pa_cons pe_int (pa_cons (pe_callTy cr_list (by rfl) T.n_list (by decide +kernel) (pa_cons (pv 2) pa_nil)) (pa_cons (pe_callTy cr_tuple (by rfl) T.n_tuple (by decide +kernel) (pa_cons (pv 2) pa_nil)) (pa_cons pe_str (pa_cons pe_str pa_nil)))))))) (pe_callI I__law_draw hr (by decide) pass0 (pa_cons (pv 1) (pa_cons pe_int pa_nil))) (fun _ _ => rfl)) (pg_name (i := 7) nd rfl (Or.inl rfl)))
    (pss_one (ps_ret (pe_and (pe_not (pe_callI I_is_writer hr (by decide) pass0 (pa_cons (pv 7) pa_nil))) (pe_and (pe_not (pe_callI I_is_cleaner hr (by decide) pass0 (pa_cons (pv 7) pa_nil))) (pe_one (pe_not (pe_callI I_is_reader hr (by decide) pass0 (pa_cons (pv 7) pa_nil))))))))))))
end
end Law

namespace Law
open PySem PySem.Spec PyProof.Rows L2 TP
section
variable {P : Program} {w : World} {K : PySem.W.Frag} {mg : Str → Option Value} {base : Heap}
local macro_rules | `(tactic| walk_at "step") => `(tactic| first
  | with_reducible refine go_seq ?_ | with_reducible refine go_asg ?_ | with_reducible refine go_name ?_ | with_reducible refine go_ret ?_ | with_reducible refine go_retN ?_ | with_reducible refine go_ifS ?_
  | ((with_reducible refine' go_var ?gv ?_); (case gv => first | rfl | assumption)) | with_reducible refine go_c ?_ | with_reducible refine go_op ?_ | with_reducible refine go_un ?_ | with_reducible refine go_nil ?_ | with_reducible refine go_cons ?_
  | with_reducible refine go_tup ?_ | with_reducible refine go_lst ?_ | with_reducible refine go_call ?_ | with_reducible refine go_cb ?_ | with_reducible refine go_bm ?_ | with_reducible refine go_m1 ?_ | with_reducible refine go_sl ?_
  | with_reducible refine go_nopart ?_ | with_reducible refine go_part ?_ | with_reducible refine go_notV ?_ | with_reducible refine go_andV ?_ | with_reducible refine go_orV ?_ | with_reducible refine go_ifE ?_
  | with_reducible refine go_test ?_ | with_reducible refine go_B ?_ | with_reducible refine go_tru ?_ | with_reducible refine go_and ?_ | with_reducible refine go_or ?_ | with_reducible refine go_not ?_ | with_reducible refine go_yes ?_
  | with_reducible refine go_bl ?_ | with_reducible refine go_intx ?_ | with_reducible refine go_strx ?_ | with_reducible refine go_next ?_ | with_reducible refine go_gsub ?_ | with_reducible refine go_drop ?_
  | ((with_reducible refine' go_aug ?gv ?_); (case gv => first | rfl | assumption)) | with_reducible refine go_ipI ?_ | with_reducible refine go_T ?_ | with_reducible refine go_F ?_ | with_reducible refine go_nT ?_ | with_reducible refine go_nF ?_
  | with_reducible refine go_plusI ?_ | with_reducible refine go_minus ?_ | with_reducible refine go_less ?_ | with_reducible refine go_leq ?_ | with_reducible refine go_more ?_ | with_reducible refine go_geq ?_ | with_reducible refine go_neg ?_
  | with_reducible refine go_isno ?_ | with_reducible refine go_isntno ?_ | with_reducible refine go_sameI ?_ | with_reducible refine go_sameB ?_ | with_reducible refine go_unB ?_ | with_reducible refine go_sameS ?_ | with_reducible refine go_unI ?_ | with_reducible refine go_unS ?_
  | with_reducible refine go_int1 ?_ | with_reducible refine go_lc ?_ | with_reducible refine go_for ?_ | with_reducible refine go_ilist ?_ | with_reducible refine go_itup ?_ | with_reducible refine go_irng1 ?_ | with_reducible refine go_irng2 ?_)
local macro_rules | `(tactic| walk_at "go") => `(tactic| repeat walk_at "step")
local macro_rules | `(tactic| walk_at "rd") => `(tactic| first
  | assumption
  | exact upd_same
  | (refine Same.new (by assumption) _ _ ?_; walk_at "rd")
  | (refine (by assumption : Same _ _) _ _ ?_; walk_at "rd"))
local macro_rules | `(tactic| walk_at "st") => `(tactic| repeat (first | with_reducible refine go_seq ?_ | with_reducible refine go_name ?_ | with_reducible refine go_next ?_ | with_reducible refine go_plusI ?_ | with_reducible refine go_T ?_ | with_reducible refine go_F ?_))
local macro_rules | `(tactic| walk_at "len") => `(tactic| (intro vs H Q E h; (repeat (obtain ⟨_, h⟩ := h)); all_goals (subst_vars; rfl)))

/-! ### the pot: what is drawn from, and all that stands beside it (R) -/
def PotAt (pot : Addr) (R H : Hp) : Prop := ∃ (c : Addr) (cs : List Int) (pl sd : Int), H pot = some (.lst [.ref c, .int pl, .int sd]) ∧ H c = some (.lst (cs.map V.int)) ∧ 0 ≤ pl ∧ cs.length ≤ 63 ∧ R pot = none ∧ R c = none ∧ Same R H
theorem PotAt.same {pot : Addr} {R H : Hp} (h : PotAt pot R H) : Same R H := by
  obtain ⟨_, _, _, _, _, _, _, _, _, _, s⟩ := h
  exact s
/-- the heap has grown: so may what is known beside the pot -/
theorem PotAt.grow {pot : Addr} {R H H1 : Hp} (h : PotAt pot R H) (e : Same H H1) : ∃ R1, PotAt pot R1 H1 ∧ Same R R1 ∧ ∀ a o, H a = none → H1 a = some o → R1 a = some o := by
  obtain ⟨c, cs, pl, sd, h1, h2, h3, h4, r1, r2, s⟩ := h
  refine ⟨fun a => if a = pot ∨ a = c then none else H1 a, ⟨c, cs, pl, sd, e _ _ h1, e _ _ h2, h3, h4, if_pos (.inl rfl), if_pos (.inr rfl), fun a o q => ?_⟩, fun a o q => ?_, fun a o q q1 => ?_⟩
  · by_cases z : a = pot ∨ a = c
    · simp [z] at q
    · simpa [z] using q
  · have z : ¬ (a = pot ∨ a = c) := by
      rintro (z | z)
      · rw [z, r1] at q; cases q
      · rw [z, r2] at q; cases q
    show (if a = pot ∨ a = c then none else H1 a) = _
    rw [if_neg z]
    exact e _ _ (s _ _ q)
  · have z : ¬ (a = pot ∨ a = c) := by
      rintro (z | z)
      · rw [z, h1] at q; cases q
      · rw [z, h2] at q; cases q
    show (if a = pot ∨ a = c then none else H1 a) = _
    rw [if_neg z]
    exact q1
/-- less may be known -/
theorem PotAt.less {pot : Addr} {R R' H : Hp} (h : PotAt pot R H) (e : Same R' R) : PotAt pot R' H := by
  obtain ⟨c, cs, pl, sd, h1, h2, h3, h4, r1, r2, s⟩ := h
  exact ⟨c, cs, pl, sd, h1, h2, h3, h4, e.free r1, e.free r2, e.trans s⟩
def sp_pot (K : PySem.W.Frag) : Sp := fun vs H Q _ => ∃ (a : Addr) (ns : List Int), vs = [.ref a] ∧ SqL K H a (ns.map V.int) ∧ ∀ (p : Addr) (H' : Hp), H p = none → Same H H' → PotAt p H H' → Q (.ref p) H'
def sp_draw : Sp := fun vs H Q _ => ∃ (pot : Addr) (many : Int) (R : Hp), vs = [.ref pot, .int many] ∧ 0 < many ∧ many < 2 ^ 64 ∧ PotAt pot R H ∧ ∀ (r : Int) (H' : Hp), 0 ≤ r → r < many → PotAt pot R H' → Q (.int r) H'

theorem pu_pot {H : Hp} {vs : List V} {Q : VK} {E : XK} (h : sp_pot K vs H Q E) : t__law_pot K { nx := fun _ H' => Q .non H', rt := Q } (start N__law_pot vs) H := by
  obtain ⟨a, ns, rfl, hS, k⟩ := h
  unfold t__law_pot
  walk_at "go"
  refine go_slL hS fun q hq => go_seqAt (SqL.of upd_same) fun D hD => ?_
  have e0 : Same H (upd H q (.lst (cutV (ns.map V.int) none (some 63)))) := Same.new hq
  have cut : cutV (ns.map V.int) none (some 63) = (ns.take 63).map V.int := by
    rw [cut_take (by decide), ← List.map_take]
    rfl
  rw [cut] at e0 hD ⊢
  refine lcr_list (fun _ => true) id (SqL.of upd_same) hD (by rw [List.length_map, List.length_take]; omega) (fun x hx => ?_) fun H1 s1 hD1 => ?_
  · obtain ⟨z, _, rfl⟩ := List.mem_map.mp hx
    intro H' A acc Nx s hA hH hl k
    walk_at "go"
    refine ⟨rfl, ?_⟩
    walk_at "go"
    exact ⟨acc, hH, hl, k H' (Same.refl _)⟩
  · rw [List.map_id, List.filter_eq_self.mpr fun _ _ => rfl] at hD1
    walk_at "go"
    refine ⟨by show 3 ≤ sizeLine; decide, fun p hp => ?_⟩
    have s2 := (e0.trans s1).trans (Same.new (o := .lst [.ref D, .int 0, .int 7]) hp)
    have hDH : H D = none := e0.free hD
    have hpH : H p = none := (e0.trans s1).free hp
    exact k p _ hpH s2 ⟨D, ns.take 63, 0, 7, upd_same, by rw [upd_ne (ne_of_none hD1 hp)]; exact hD1, by decide, by rw [List.length_take]; omega, hpH, hDH, s2⟩
theorem big_mod {i m : Int} (h : 0 < m) : 0 ≤ i % m ∧ i % m < m := ⟨Int.emod_nonneg _ (by omega), Int.emod_lt_of_pos _ h⟩
theorem wide64 {i m : Int} (h : 0 < m) (h2 : m < 2 ^ 64) : CDivW i m := wide_div (b := 64) h (by omega) (by decide) (by decide)
theorem pu_draw {H : Hp} {vs : List V} {Q : VK} {E : XK} (h : sp_draw vs H Q E) : t__law_draw K { nx := fun _ H' => Q .non H', rt := Q } (start N__law_draw vs) H := by
  obtain ⟨pot, many, R, rfl, m0, m1, ⟨c, cs, pl, sd, h1, h2, h3, h4, r1, r2, s⟩, k⟩ := h
  have npc : pot ≠ c := fun z => by
    rw [z, h2] at h1
    have := HO.lst.inj (Option.some.inj h1)
    cases cs with
    | nil => cases this
    | cons a r => cases this
  -- the end, from whatever cell: pot[2] is put, a number is told
  have fin : ∀ (σ : L2.St) (H' : Hp) (cell pl' : Int) (cs' : List Int), σ[0]? = some (some (.ref pot)) → σ[1]? = some (some (.int many)) → σ[4]? = some (some (.int cell)) → H' pot = some (.lst [.ref c, .int pl', .int sd]) → H' c = some (.lst (cs'.map V.int)) → 0 ≤ pl' → cs'.length ≤ 63 → Same R H' →
      tSeq (tAsg (tOp rRest (tCB rInt1 (tCons (tOp rPlus (tOp rPlus (tOp rTimes (tOp (rIx K) (tVar 0) (tC (.int 2))) (tC (.int 48271))) (tOp rTimes (tVar 4) (tC (.int 69621)))) (tC (.int 11))) tNil)) (tC (.int 2147483647))) (gSub (tVar 0) (tC (.int 2)) rSetL))
        (tRet (tOp rRest (tCB rInt1 (tCons (tOp rPlus (tOp rQuot (tOp rTimes (tOp (rIx K) (tVar 0) (tC (.int 2))) (tC (.int 16807))) (tC (.int 128))) (tOp (rIx K) (tVar 0) (tC (.int 2)))) tNil)) (tVar 1))) { nx := fun _ H' => Q .non H', rt := Q } σ H' := by
    intro σ H' cell pl' cs' v0 v1 v4 g1 g2 g3 g4 gs
    have small : ∀ {i j : Int}, -(2 ^ 64) < j → j < 2 ^ 64 → CMul i j := fun a b => .inr ⟨a, b⟩
    walk_at "go"
    refine go_ixL (SqL.of g1) rfl ?_
    walk_at "go"
    refine go_times (small (by decide) (by decide)) ?_
    walk_at "go"
    refine go_times (small (by decide) (by decide)) ?_
    walk_at "go"
    refine go_rest (by decide) ?_
    walk_at "go"
    refine go_setL g1 (m := 2) rfl ?_
    walk_at "go"
    refine go_ixL (SqL.of upd_same) rfl ?_
    walk_at "go"
    refine go_times (small (by decide) (by decide)) ?_
    walk_at "go"
    refine go_quot (wide64 (by decide) (by decide)) ?_
    walk_at "go"
    refine go_ixL (SqL.of upd_same) rfl ?_
    walk_at "go"
    refine go_rest m0 ?_
    refine k _ _ (big_mod m0).1 (big_mod m0).2 ⟨c, cs', pl', _, upd_same, by rw [upd_ne npc.symm]; exact g2, g3, g4, r1, r2, fun a o q => ?_⟩
    rw [upd_ne (fun z => by rw [z, r1] at q; cases q)]
    exact gs a o q
  unfold t__law_draw
  walk_at "go"
  refine go_ixL (SqL.of h1) rfl ?_
  walk_at "go"
  refine go_ixL (SqL.of h1) rfl ?_
  walk_at "go"
  refine go_lenL (SqL.of h2) ?_
  walk_at "go"
  rw [List.length_map]
  refine ite2 (fun q => ?_) (fun q => ?_)
  · have q1 : pl < (cs.length : Int) := of_decide_eq_true q
    obtain ⟨z, hz⟩ : ∃ z, cs[pl.toNat]? = some z := ⟨_, List.getElem?_eq_getElem (by omega)⟩
    have hz' : (cs.map V.int)[pl.toNat]? = some (.int z) := by rw [List.getElem?_map, hz]; rfl
    have hat : atI (cs.map V.int) pl = some (.int z) := by
      have := atI_nat (xs := cs.map V.int) (j := pl.toNat) hz'
      rwa [Int.toNat_of_nonneg h3] at this
    walk_at "go"
    refine go_ixL (SqL.of h2) hat ?_
    walk_at "go"
    refine go_pow ⟨by decide, by decide, by decide⟩ ?_
    walk_at "go"
    refine ite2 (fun q2 => ?_) (fun q2 => ?_)
    · walk_at "go"
      refine go_quot (wide64 m0 m1) ?_
      walk_at "go"
      refine go_setL (m := pl.toNat) h2 ?_ ?_
      · rw [List.length_map]
        unfold ixN
        rw [if_pos h3, if_pos q1]
      walk_at "go"
      refine go_rest m0 ?_
      refine k _ _ (big_mod m0).1 (big_mod m0).2 ⟨c, cs.set pl.toNat (z / many), pl, sd, by rw [upd_ne npc]; exact h1, ?_, h3, by rw [List.length_set]; exact h4, r1, r2, fun a o q => ?_⟩
      · rw [upd_same, List.map_set]
      · rw [upd_ne (fun z => by rw [z, r2] at q; cases q)]
        exact s a o q
    · walk_at "go"
      refine go_setL (m := 1) h1 rfl ?_
      refine fin _ _ z (pl + 1) cs ?_ ?_ ?_ upd_same (by rw [upd_ne npc.symm]; exact h2) (by omega) h4 fun a o q => ?_
      any_goals rfl
      rw [upd_ne (fun z => by rw [z, r1] at q; cases q)]
      exact s a o q
  · refine go_next ?_
    refine fin _ _ 0 pl cs ?_ ?_ ?_ h1 h2 h3 h4 s <;> rfl

/-! ### lists of texts -/
abbrev sts (ws : List Str) : List V := ws.map V.str
theorem in_strs (a : Str) : ∀ ws : List Str, inV (.str a) (sts ws) = decide (a ∈ ws)
  | [] => by simp [inV]
  | w :: r => by
    have ih := in_strs a r
    show (eqV (.str w) (.str a) || inV (.str a) (sts r)) = _
    rw [ih]
    show ((w == a) || decide (a ∈ r)) = _
    by_cases e : a = w
    · subst e; simp
    · have e' : ¬ w = a := fun z => e z.symm
      simp [e, e']
theorem flat_strs (ws : List Str) : (sts ws).all flatV = true := by
  rw [List.all_eq_true]
  intro x hx
  obtain ⟨w, _, rfl⟩ := List.mem_map.mp hx
  rfl
theorem go_index {K : PySem.W.Frag} {H : Hp} {Q : VK} {p : Addr} {ws : List Str} {a : Str} (h : SqL K H p (sts ws)) (ha : a ∈ ws) (q : Q (.int (ws.idxOf a)) H) : rIndex K (.ref p) [.str a] H Q := by
  have lt := List.idxOf_lt_length_iff.mpr ha
  refine ⟨p, sts ws, .str a, ws.idxOf a, .str a, rfl, rfl, h, rfl, flat_strs ws, ?_, beq_self_eq_true a, fun m z hm hz => ?_, q⟩
  · rw [List.getElem?_map, List.getElem?_eq_getElem lt, List.getElem_idxOf]
    rfl
  · obtain ⟨y, hy, rfl⟩ : ∃ y, ws[m]? = some y ∧ V.str y = z := by simpa [List.getElem?_map] using hz
    obtain ⟨hl, e⟩ := List.getElem?_eq_some_iff.mp hy
    show (y == a) = false
    have := List.not_of_lt_findIdx (p := (· == a)) (xs := ws) (i := m) hm
    simpa [e] using this
/-- some value that is no text -/
def NotStr (K : PySem.W.Frag) (H : Hp) (v : V) : Prop := ∃ t, TyX K H v t ∧ PySem.W.kitOne K t (.type "str") = some false
/-! ### orders -/
def ahead (ws : List Str) (a b : Str) : Bool := !decide (a ∈ ws) || (!decide (b ∈ ws) || decide ((ws.idxOf a : Int) < ws.idxOf b))
def lockedWell (ws : List Str) : Bool := (decide (("lock" : Str) ∈ ws) == decide (("unlock" : Str) ∈ ws)) && ahead ws "lock" "unlock"
def kn (ks ws : List Str) : Bool := decide ws.Nodup && ws.all fun x => decide (x ∈ ks)
def allIn (nd ws : List Str) : Bool := nd.all fun x => decide (x ∈ ws)
def wWords : List Str := ["change", "enter", "commit", "clear", "lock", "unlock"]
def cWords : List Str := ["look", "set", "remove", "again", "lock", "unlock"]
def rWords : List Str := ["entry", "mark", "page", "hold", "take", "tell"]
def isW (ws : List Str) : Bool := kn wWords ws && (allIn ["change", "enter", "commit"] ws && (ahead ws "change" "enter" && (ahead ws "change" "commit" && lockedWell ws)))
def isC (ws : List Str) : Bool := kn cWords ws && (allIn ["look", "set"] ws && (lockedWell ws && (ahead ws "look" "set" && (ahead ws "remove" "look" && ahead ws "set" "again"))))
def isR (ws : List Str) : Bool := kn rWords ws && (allIn ["entry", "mark", "page"] ws && (decide (ws.getLast? = some ("page" : Str)) && (!(decide (("take" : Str) ∈ ws) != decide (("tell" : Str) ∈ ws)) && (!(decide (("hold" : Str) ∈ ws) == decide (("take" : Str) ∈ ws)) && ahead ws "take" "tell"))))
def sp_is_ahead (K : PySem.W.Frag) : Sp := fun vs H Q _ => ∃ (p : Addr) (ws : List Str) (a b : Str), vs = [.ref p, .str a, .str b] ∧ SqL K H p (sts ws) ∧ Q (.bl (ahead ws a b)) H
def sp_is_locked_well (K : PySem.W.Frag) : Sp := fun vs H Q _ => ∃ (p : Addr) (ws : List Str), vs = [.ref p] ∧ SqL K H p (sts ws) ∧ Q (.bl (lockedWell ws)) H
def sp_all_there (K : PySem.W.Frag) : Sp := fun vs H Q _ => ∃ (p t : Addr) (ws nd : List Str), vs = [.ref p, .ref t] ∧ SqL K H p (sts ws) ∧ SqT K H t (sts nd) ∧ nd.length ≤ 100 ∧ ∀ H', Same H H' → Q (.bl (allIn nd ws)) H'
def sp_words_of (K : PySem.W.Frag) : Sp := fun vs H Q _ => ∃ (v : V) (t : Addr) (ks : List Str), vs = [v, .ref t] ∧ SqT K H t (sts ks) ∧
  ((∃ z : Str, v = .str z ∧ z.length ≤ 900 ∧ (kn ks (Txt.split z " ") = true → ∀ (p : Addr) (H' : Hp), H p = none → Same H H' → H' p = some (.lst (sts (Txt.split z " "))) → Q (.ref p) H') ∧ (kn ks (Txt.split z " ") = false → ∀ H', Same H H' → Q .non H')) ∨ (NotStr K H v ∧ Q .non H))
/-- is_writer, is_cleaner, is_reader -/
def sp_is (f : List Str → Bool) (K : PySem.W.Frag) : Sp := fun vs H Q _ => ∃ v : V, vs = [v] ∧ ((∃ z : Str, v = .str z ∧ z.length ≤ 900 ∧ ∀ H', Same H H' → Q (.bl (f (Txt.split z " "))) H') ∨ (NotStr K H v ∧ ∀ H', Same H H' → Q (.bl false) H'))

theorem pu_is_ahead {H : Hp} {vs : List V} {Q : VK} {E : XK} (h : sp_is_ahead K vs H Q E) : t_is_ahead K { nx := fun _ H' => Q .non H', rt := Q } (start N_is_ahead vs) H := by
  obtain ⟨p, ws, a, b, rfl, hS, k⟩ := h
  unfold t_is_ahead
  walk_at "go"
  refine go_ninL hS rfl (flat_strs ws) ?_
  rw [in_strs]
  walk_at "go"
  unfold ahead at k
  by_cases ha : a ∈ ws
  · simp only [ha, decide_true, Bool.not_true, Bool.false_or] at k ⊢
    walk_at "go"
    refine go_ninL hS rfl (flat_strs ws) ?_
    rw [in_strs]
    walk_at "go"
    by_cases hb : b ∈ ws
    · simp only [hb, decide_true, Bool.not_true, Bool.false_or] at k ⊢
      walk_at "go"
      refine go_tyL hS ?_
      walk_at "go"
      refine go_index hS ha ?_
      walk_at "go"
      refine go_tyL hS ?_
      walk_at "go"
      refine go_index hS hb ?_
      walk_at "go"
      exact k
    · simp only [hb, decide_false, Bool.not_false, Bool.true_or] at k ⊢
      walk_at "go"
      exact k
  · simp only [ha, decide_false, Bool.not_false, Bool.true_or] at k ⊢
    walk_at "go"
    exact k
theorem pu_is_locked_well {H : Hp} {vs : List V} {Q : VK} {E : XK} (h : sp_is_locked_well K vs H Q E) : t_is_locked_well K (sp_is_ahead K) { nx := fun _ H' => Q .non H', rt := Q } (start N_is_locked_well vs) H := by
  obtain ⟨p, ws, rfl, hS, k⟩ := h
  unfold t_is_locked_well
  walk_at "go"
  refine go_inL hS rfl (flat_strs ws) ?_
  rw [in_strs]
  walk_at "go"
  refine go_inL hS rfl (flat_strs ws) ?_
  rw [in_strs]
  walk_at "go"
  unfold lockedWell at k
  cases e : (decide (("lock" : Str) ∈ ws) == decide (("unlock" : Str) ∈ ws)) with
  | false =>
    rw [e] at k
    walk_at "go"
    exact k
  | true =>
    rw [e] at k
    walk_at "go"
    exact ⟨p, ws, "lock", "unlock", rfl, hS, k⟩
/-- [word in known for word in found]: a turn -/
theorem turn_in {K : PySem.W.Frag} {σ : L2.St} {H : Hp} {i j : Nat} {q : Addr} {ws : List Str} {a : Str} {tg : Nat} (hj : ∀ v, ((wipe σ [i]).set i (some v))[i]? = some (some v)) (hq : ∀ v, ((wipe σ [i]).set i (some v))[j]? = some (some (.ref q)))
    (hw : ∀ v, wipe ((wipe σ [i]).set i (some v)) [i] = wipe σ [i]) (hS : SqL K H q (sts ws) ∨ SqT K H q (sts ws)) : Turn1 (gName i) tYes (tOp (rIn K false) (tVar i) (tVar j)) [i] σ H (.str a) true (.bl (decide (a ∈ ws))) := by
  intro H' A acc Nx s hA hH hl k
  refine go_name ⟨hw _, go_yes (go_T (go_op (go_var (hj _) (go_var (hq _) ?_))))⟩
  have fin : ∃ acc, H' A = some (.lst acc) ∧ acc.length < sizeLine ∧ Nx (upd H' A (.lst (acc ++ [.bl (decide (a ∈ ws))]))) := ⟨acc, hH, hl, k H' (Same.refl _)⟩
  rcases hS with hS | hS
  · refine go_inL (s.seq hS) rfl (flat_strs ws) ?_
    rw [in_strs]; exact fin
  · refine go_inT (Same.sqT s hS) rfl (flat_strs ws) ?_
    rw [in_strs]; exact fin
theorem map_in (ws : List Str) (ks : List Str) (g : V → V) (hg : ∀ a, g (.str a) = .bl (decide (a ∈ ks))) : ((sts ws).filter fun _ => true).map g = (ws.map fun a => decide (a ∈ ks)).map V.bl := by
  rw [List.filter_eq_self.mpr fun _ _ => rfl, List.map_map, List.map_map]
  exact List.map_congr_left fun a _ => hg a
def inB (ks : List Str) : V → V
  | .str a => .bl (decide (a ∈ ks))
  | _ => .non
theorem pu_all_there {H : Hp} {vs : List V} {Q : VK} {E : XK} (h : sp_all_there K vs H Q E) : t_all_there K { nx := fun _ H' => Q .non H', rt := Q } (start N_all_there vs) H := by
  obtain ⟨p, t, ws, nd, rfl, hS, hT, hl, k⟩ := h
  unfold t_all_there
  walk_at "go"
  refine go_tupAt hT fun D hD => ?_
  refine lcr_tup (fun _ => true) (inB ws) hT hD (by rw [List.length_map]; omega) (fun x hx => ?_) fun H1 s1 h1 => ?_
  · obtain ⟨a, _, rfl⟩ := List.mem_map.mp hx
    exact turn_in (tg := 0) (q := p) (ws := ws) (fun _ => rfl) (fun _ => rfl) (fun _ => rfl) (.inl hS)
  · rw [map_in nd ws (inB ws) fun _ => rfl] at h1
    walk_at "go"
    refine go_all (SqL.of h1) ?_
    have e : (nd.map fun a => decide (a ∈ ws)).all id = allIn nd ws := by
      unfold allIn
      rw [List.all_map]
      rfl
    rw [e]
    exact k H1 s1

theorem pu_words_of {H : Hp} {vs : List V} {Q : VK} {E : XK} (h : sp_words_of K vs H Q E) : t_words_of K { nx := fun _ H' => Q .non H', rt := Q } (start N_words_of vs) H := by
  obtain ⟨v, t, ks, rfl, hT, h⟩ := h
  unfold t_words_of
  rcases h with ⟨z, rfl, hz, k1, k2⟩ | ⟨⟨ty, hv, hn⟩, k⟩
  · walk_at "go"
    refine go_isi (.ty "str") (.base (.str z)) (kit_ty (r := true) (by decide +kernel)) ?_
    walk_at "go"
    refine go_split rfl (sz1000 (by omega)) fun p hp => ?_
    have s0 : Same H (upd H p (.lst (sts (Txt.split z " ")))) := Same.new hp
    generalize hW : Txt.split z " " = ws at *
    have hl : ws.length ≤ 1000 := by
      have := split_le z " "
      rw [hW] at this
      omega
    walk_at "go"
    refine go_lenSet ?_
    walk_at "go"
    refine ⟨p, ws, rfl, SqL.of upd_same, hl, fun n hN => ?_⟩
    walk_at "go"
    refine go_lenL (SqL.of upd_same) ?_
    walk_at "go"
    rw [List.length_map]
    by_cases nd : ws.Nodup
    · have e : (!decide ((n : Int) = (ws.length : Int))) = false := by rw [hN.mpr nd]; simp
      rw [e]
      walk_at "go"
      refine go_seqAt (SqL.of upd_same) fun D hD => ?_
      refine lcr_list (fun _ => true) (inB ks) (SqL.of upd_same) hD (by rw [List.length_map]; omega) (fun x hx => ?_) fun H1 s1 h1 => ?_
      · obtain ⟨a, _, rfl⟩ := List.mem_map.mp hx
        exact turn_in (tg := 0) (q := t) (ws := ks) (fun _ => rfl) (fun _ => rfl) (fun _ => rfl) (.inr (Same.sqT s0 hT))
      · rw [map_in ws ks (inB ks) fun _ => rfl] at h1
        walk_at "go"
        refine go_all (SqL.of h1) ?_
        have e2 : (ws.map fun a => decide (a ∈ ks)).all id = ws.all fun x => decide (x ∈ ks) := by
          rw [List.all_map]
          rfl
        rw [e2]
        walk_at "go"
        have e3 : kn ks ws = ws.all fun x => decide (x ∈ ks) := by unfold kn; simp [nd]
        cases q : (ws.all fun x => decide (x ∈ ks)) with
        | true =>
          walk_at "go"
          exact k1 (e3.trans q) p H1 hp (s0.trans s1) (s1 _ _ upd_same)
        | false =>
          walk_at "go"
          exact k2 (e3.trans q) H1 (s0.trans s1)
    · have e : (!decide ((n : Int) = (ws.length : Int))) = true := by
        have : ¬ n = ws.length := fun q => nd (hN.mp q)
        simp; omega
      rw [e]
      walk_at "go"
      exact k2 (by unfold kn; simp [nd]) _ s0
  · walk_at "go"
    refine go_isi (.ty "str") hv hn ?_
    walk_at "go"
    exact k
/-- no text: None, truths, ints, lists, tuples -/
theorem NotStr.non {K : PySem.W.Frag} {H : Hp} : NotStr K H .non := ⟨_, .base .non, kit_ty (by decide +kernel)⟩
theorem NotStr.bl {K : PySem.W.Frag} {H : Hp} {b : Bool} : NotStr K H (.bl b) := ⟨_, .base (.bl b), kit_ty (by decide +kernel)⟩
theorem NotStr.int {K : PySem.W.Frag} {H : Hp} {i : Int} : NotStr K H (.int i) := ⟨_, .base (.int i), kit_ty (by decide +kernel)⟩
theorem NotStr.lst {K : PySem.W.Frag} {H : Hp} {a : Addr} {xs : List V} (h : H a = some (.lst xs)) : NotStr K H (.ref a) := ⟨_, .base (.lst h), kit_ty (by decide +kernel)⟩
theorem NotStr.tup {K : PySem.W.Frag} {H : Hp} {a : Addr} {xs : List V} (h : H a = some (.tup xs)) : NotStr K H (.ref a) := ⟨_, .base (.tup h), kit_ty (by decide +kernel)⟩
/-- the three tests begin alike: words_of -/
theorem pu_is {aW : Addr} {ks : List Str} {f : List Str → Bool} {H : Hp} {v : V} {Q : VK} {E E' : XK} {R : VK} (hT : SqT K H aW (sts ks)) (hf : ∀ ws, kn ks ws = false → f ws = false) (h : sp_is f K [v] H Q E)
    (hN : ∀ H', Same H H' → Q (.bl false) H' → R .non H') (hS : ∀ (ws : List Str) (p : Addr) (H' : Hp), ws ≠ [] → kn ks ws = true → H p = none → Same H H' → H' p = some (.lst (sts ws)) → (∀ H2, Same H' H2 → Q (.bl (f ws)) H2) → R (.ref p) H') : sp_words_of K [v, .ref aW] H R E' := by
  obtain ⟨v', e, h⟩ := h
  cases e
  refine ⟨v, aW, ks, rfl, hT, ?_⟩
  rcases h with ⟨z, rfl, hz, k⟩ | ⟨hn, k⟩
  · refine .inl ⟨z, rfl, hz, fun q p H' hp s hH => hS _ p H' (fun e => ?_) q hp s hH fun H2 s2 => k H2 (s.trans s2), fun q H' s => hN H' s ?_⟩
    · have : (Txt.split z " ").length ≠ 0 := by
        unfold Txt.split
        split
        · simp
        · split
          · simp
          · rw [length_partsBetween]; omega
      rw [e] at this
      exact this rfl
    · have := k H' s
      rwa [hf _ q] at this
  · exact .inr ⟨hn, hN H (Same.refl _) (k H (Same.refl _))⟩
theorem pu_is_writer {a_WRITER_WORDS : Addr} (hT : ∀ H, SqT K H a_WRITER_WORDS (sts wWords)) {H : Hp} {vs : List V} {Q : VK} {E : XK} (h : sp_is isW K vs H Q E) :
    t_is_writer K a_WRITER_WORDS (sp_words_of K) (sp_all_there K) (sp_is_ahead K) (sp_is_locked_well K) { nx := fun _ H' => Q .non H', rt := Q } (start N_is_writer vs) H := by
  obtain ⟨v, rfl⟩ : ∃ v, vs = [v] := by obtain ⟨v, e, _⟩ := h; exact ⟨v, e⟩
  unfold t_is_writer
  walk_at "go"
  refine pu_is (hT H) (fun ws q => by unfold isW; rw [q]; rfl) h (fun H' s q => ?_) fun ws p H' _ kn1 hp s hH k => ?_
  · walk_at "go"
    exact q
  · have hS : SqL K H' p (sts ws) := SqL.of hH
    unfold isW at k
    rw [kn1, Bool.true_and] at k
    walk_at "go"
    rw [decide_eq_false (show ¬ V.ref p = V.non from fun z => by cases z)]
    walk_at "go"
    refine ⟨sz1000 (by decide), fun t ht => ?_⟩
    have s1 : Same H' (upd H' t (.tup (sts ["change", "enter", "commit"]))) := Same.new ht
    walk_at "go"
    refine ⟨p, t, ws, ["change", "enter", "commit"], rfl, s1.seq hS, SqT.of upd_same, by decide, fun H2 s2 => ?_⟩
    have s3 := s1.trans s2
    walk_at "go"
    cases q1 : allIn ["change", "enter", "commit"] ws with
    | false =>
      rw [q1] at k
      walk_at "go"
      exact k H2 s3
    | true =>
      rw [q1, Bool.true_and] at k
      walk_at "go"
      refine ⟨p, ws, "change", "enter", rfl, s3.seq hS, ?_⟩
      walk_at "go"
      cases q2 : ahead ws "change" "enter" with
      | false =>
        rw [q2] at k
        walk_at "go"
        exact k H2 s3
      | true =>
        rw [q2, Bool.true_and] at k
        walk_at "go"
        refine ⟨p, ws, "change", "commit", rfl, s3.seq hS, ?_⟩
        walk_at "go"
        cases q3 : ahead ws "change" "commit" with
        | false =>
          rw [q3] at k
          walk_at "go"
          exact k H2 s3
        | true =>
          rw [q3, Bool.true_and] at k
          walk_at "go"
          exact ⟨p, ws, rfl, s3.seq hS, k H2 s3⟩
theorem pu_is_cleaner {a_CLEANER_WORDS : Addr} (hT : ∀ H, SqT K H a_CLEANER_WORDS (sts cWords)) {H : Hp} {vs : List V} {Q : VK} {E : XK} (h : sp_is isC K vs H Q E) :
    t_is_cleaner K a_CLEANER_WORDS (sp_words_of K) (sp_all_there K) (sp_is_ahead K) (sp_is_locked_well K) { nx := fun _ H' => Q .non H', rt := Q } (start N_is_cleaner vs) H := by
  obtain ⟨v, rfl⟩ : ∃ v, vs = [v] := by obtain ⟨v, e, _⟩ := h; exact ⟨v, e⟩
  unfold t_is_cleaner
  walk_at "go"
  refine pu_is (hT H) (fun ws q => by unfold isC; rw [q]; rfl) h (fun H' s q => ?_) fun ws p H' _ kn1 hp s hH k => ?_
  · walk_at "go"
    exact q
  · have hS : SqL K H' p (sts ws) := SqL.of hH
    unfold isC at k
    rw [kn1, Bool.true_and] at k
    walk_at "go"
    rw [decide_eq_false (show ¬ V.ref p = V.non from fun z => by cases z)]
    walk_at "go"
    refine ⟨sz1000 (by decide), fun t ht => ?_⟩
    have s1 : Same H' (upd H' t (.tup (sts ["look", "set"]))) := Same.new ht
    walk_at "go"
    refine ⟨p, t, ws, ["look", "set"], rfl, s1.seq hS, SqT.of upd_same, by decide, fun H2 s2 => ?_⟩
    have s3 := s1.trans s2
    walk_at "go"
    cases q1 : allIn ["look", "set"] ws with
    | false =>
      rw [q1] at k
      walk_at "go"
      exact k H2 s3
    | true =>
      rw [q1, Bool.true_and] at k
      walk_at "go"
      refine ⟨p, ws, rfl, s3.seq hS, ?_⟩
      walk_at "go"
      cases q0 : lockedWell ws with
      | false =>
        rw [q0] at k
        walk_at "go"
        exact k H2 s3
      | true =>
        rw [q0, Bool.true_and] at k
        walk_at "go"
        refine ⟨p, ws, "look", "set", rfl, s3.seq hS, ?_⟩
        walk_at "go"
        cases q2 : ahead ws "look" "set" with
        | false =>
          rw [q2] at k
          walk_at "go"
          exact k H2 s3
        | true =>
          rw [q2, Bool.true_and] at k
          walk_at "go"
          refine ⟨p, ws, "remove", "look", rfl, s3.seq hS, ?_⟩
          walk_at "go"
          cases q3 : ahead ws "remove" "look" with
          | false =>
            rw [q3] at k
            walk_at "go"
            exact k H2 s3
          | true =>
            rw [q3, Bool.true_and] at k
            walk_at "go"
            exact ⟨p, ws, "set", "again", rfl, s3.seq hS, k H2 s3⟩
theorem at_last {xs : List V} {v : V} (h : xs.getLast? = some v) : atI xs (-1) = some v := by
  have hl : 0 < xs.length := by
    cases xs with
    | nil => cases h
    | cons a r => simp
  unfold atI ixN
  rw [if_neg (by decide), if_pos (by omega)]
  show xs[((-1 : Int) + xs.length).toNat]? = some v
  rw [← h, List.getLast?_eq_getElem?]
  congr 1
  omega
theorem pu_is_reader {a_READER_WORDS : Addr} (hT : ∀ H, SqT K H a_READER_WORDS (sts rWords)) {H : Hp} {vs : List V} {Q : VK} {E : XK} (h : sp_is isR K vs H Q E) :
    t_is_reader K a_READER_WORDS (sp_words_of K) (sp_all_there K) (sp_is_ahead K) { nx := fun _ H' => Q .non H', rt := Q } (start N_is_reader vs) H := by
  obtain ⟨v, rfl⟩ : ∃ v, vs = [v] := by obtain ⟨v, e, _⟩ := h; exact ⟨v, e⟩
  unfold t_is_reader
  walk_at "go"
  refine pu_is (hT H) (fun ws q => by unfold isR; rw [q]; rfl) h (fun H' s q => ?_) fun ws p H' ne kn1 hp s hH k => ?_
  · walk_at "go"
    exact q
  · have hS : SqL K H' p (sts ws) := SqL.of hH
    unfold isR at k
    rw [kn1, Bool.true_and] at k
    walk_at "go"
    rw [decide_eq_false (show ¬ V.ref p = V.non from fun z => by cases z)]
    walk_at "go"
    refine ⟨sz1000 (by decide), fun t ht => ?_⟩
    have s1 : Same H' (upd H' t (.tup (sts ["entry", "mark", "page"]))) := Same.new ht
    walk_at "go"
    refine ⟨p, t, ws, ["entry", "mark", "page"], rfl, s1.seq hS, SqT.of upd_same, by decide, fun H2 s2 => ?_⟩
    have s3 := s1.trans s2
    walk_at "go"
    cases q1 : allIn ["entry", "mark", "page"] ws with
    | false =>
      rw [q1] at k
      walk_at "go"
      exact k H2 s3
    | true =>
      rw [q1, Bool.true_and] at k
      walk_at "go"
      obtain ⟨l, hl⟩ : ∃ l, ws.getLast? = some l := ⟨_, List.getLast?_eq_some_getLast ne⟩
      refine go_ixL (s3.seq hS) (at_last (v := .str l) (by rw [List.getLast?_map, hl]; rfl)) ?_
      walk_at "go"
      rw [hl] at k
      by_cases ep : l = ("page" : Str)
      · subst ep
        simp only [decide_true, Bool.true_and, Bool.not_true] at k ⊢
        walk_at "go"
        refine go_inL (s3.seq hS) rfl (flat_strs ws) ?_
        rw [in_strs]
        walk_at "go"
        refine go_inL (s3.seq hS) rfl (flat_strs ws) ?_
        rw [in_strs]
        walk_at "go"
        cases q2 : (decide (("take" : Str) ∈ ws) != decide (("tell" : Str) ∈ ws)) with
        | true =>
          rw [q2] at k
          walk_at "go"
          exact k H2 s3
        | false =>
          rw [q2, Bool.not_false, Bool.true_and] at k
          walk_at "go"
          refine go_inL (s3.seq hS) rfl (flat_strs ws) ?_
          rw [in_strs]
          walk_at "go"
          refine go_inL (s3.seq hS) rfl (flat_strs ws) ?_
          rw [in_strs]
          walk_at "go"
          cases q3 : (decide (("hold" : Str) ∈ ws) == decide (("take" : Str) ∈ ws)) with
          | true =>
            rw [q3] at k
            walk_at "go"
            exact k H2 s3
          | false =>
            rw [q3, Bool.not_false, Bool.true_and] at k
            walk_at "go"
            exact ⟨p, ws, "take", "tell", rfl, s3.seq hS, k H2 s3⟩
      · have e1 : decide (some l = some ("page" : Str)) = false := decide_eq_false fun z => ep (Option.some.inj z)
        rw [e1] at k
        rw [decide_eq_false ep]
        walk_at "go"
        exact k H2 s3

/-! ### the law's own defs -/
theorem pu__law_ahead {H : Hp} {vs : List V} {Q : VK} {E : XK} (h : sp_is_ahead K vs H Q E) : t__law_ahead K { nx := fun _ H' => Q .non H', rt := Q } (start N__law_ahead vs) H := pu_is_ahead h
def ins (ws : List Str) (x : Str) (n : Nat) : List Str := ws.take n ++ x :: ws.drop n
def inss (ws : List Str) (x : Str) (l : Nat) : List (List Str) := (List.range (ws.length + 1 - l)).map fun k => ins ws x (l + k)
/-- a new list of these words, beside the pot -/
def NewL (pot : Addr) (R : Hp) (Q : VK) (S : List Str → Prop) : Prop := ∀ (p : Addr) (ws : List Str) (R' H' : Hp), S ws → Same R R' → PotAt pot R' H' → R' p = some (.lst (sts ws)) → Q (.ref p) H'
def sp_put_in : Sp := fun vs H Q _ => ∃ (pot o : Addr) (ws : List Str) (x : Str) (l : Nat) (R : Hp), vs = [.ref pot, .ref o, .str x, .int l] ∧ PotAt pot R H ∧ R o = some (.lst (sts ws)) ∧ l ≤ ws.length ∧ ws.length ≤ 100 ∧ NewL pot R Q fun ws' => ws' ∈ inss ws x l
theorem ins_sts (ws : List Str) (x : Str) (n : Nat) : ((sts ws).take n ++ [V.str x]) ++ (sts ws).drop n = sts (ins ws x n) := by
  unfold ins sts
  rw [List.map_append, List.map_cons, List.map_take, List.map_drop, List.append_assoc]
  rfl
theorem mem_inss {ws : List Str} {x : Str} {l n : Nat} (h : l ≤ n) (h2 : n ≤ ws.length) : ins ws x n ∈ inss ws x l := List.mem_map.mpr ⟨n - l, List.mem_range.mpr (by omega), by rw [Nat.add_sub_cancel' h]⟩
/-- order[:at] + [x] + order[at:] -/
theorem go_ins {σ : L2.St} {H : Hp} {Q : VK} {o a : Nat} {p : Addr} {xs : List V} {n : Int} {tw : TE} {v : V} (ho : σ[o]? = some (some (.ref p))) (ha : σ[a]? = some (some (.int n))) (hn : 0 ≤ n) (hH : H p = some (.lst xs)) (hl : xs.length ≤ 1000)
    (hw : ∀ H1 Q1, Q1 v H1 → tw σ H1 Q1) (q : ∀ p' H', Same H H' → H p' = none → H' p' = some (.lst ((xs.take n.toNat ++ [v]) ++ xs.drop n.toNat)) → Q (.ref p') H') :
    tOp rPlus (tOp rPlus (tSl (rSlL K) (tVar o) tNoPart (tPart (tVar a))) (tLst (tCons tw tNil))) (tSl (rSlL K) (tVar o) (tPart (tVar a)) tNoPart) σ H Q := by
  have l1 : (xs.take n.toNat).length ≤ 1000 := by rw [List.length_take]; omega
  have l2 : (xs.drop n.toNat).length ≤ 1000 := by rw [List.length_drop]; omega
  walk_at "go"
  refine go_slL (SqL.of hH) fun p1 h1 => ?_
  rw [cut_take hn]
  walk_at "go"
  refine hw _ _ ?_
  walk_at "go"
  refine ⟨sz1000 (by show 1 ≤ 100000; decide), fun p2 h2 => ?_⟩
  refine go_plusL (xs := xs.take n.toNat) (ys := [v]) (by walk_at "rd") (by walk_at "rd") (sz1000 (by show _ + 1 ≤ _; omega)) fun p3 h3 => ?_
  walk_at "go"
  refine go_slL (xs := xs) (SqL.of (by walk_at "rd")) fun p4 h4 => ?_
  rw [cut_drop hn]
  refine go_plusL (xs := xs.take n.toNat ++ [v]) (ys := xs.drop n.toNat) (by walk_at "rd") (by walk_at "rd") (sz1000 (by rw [List.length_append]; show _ + 1 + _ ≤ _; omega)) fun p5 h5 => ?_
  have s4 := (((Same.new (o := .lst (xs.take n.toNat)) h1).trans (Same.new (o := .lst [v]) h2)).trans (Same.new (o := .lst (xs.take n.toNat ++ [v])) h3)).trans (Same.new (o := .lst (xs.drop n.toNat)) h4)
  exact q p5 _ (s4.trans (Same.new h5)) (s4.free h5) upd_same
theorem pu__law_put_in {H : Hp} {vs : List V} {Q : VK} {E : XK} (h : sp_put_in vs H Q E) : t__law_put_in K sp_draw { nx := fun _ H' => Q .non H', rt := Q } (start N__law_put_in vs) H := by
  obtain ⟨pot, o, ws, x, l, R, rfl, hp, ho, hl, h100, k⟩ := h
  unfold t__law_put_in
  walk_at "go"
  refine go_lenL (SqL.of (hp.same _ _ ho)) ?_
  walk_at "go"
  rw [List.length_map]
  refine ⟨pot, _, R, rfl, by omega, by omega, hp, fun r H1 r0 r1 hp1 => ?_⟩
  walk_at "st"
  refine go_ret (go_ins (n := (l : Int) + r) (v := .str x) (p := o) (xs := sts ws) (by rfl) (by rfl) (by omega) (hp1.same _ _ ho) (by rw [List.length_map]; omega) ?_ fun p H2 s2 h0 h2 => ?_)
  · exact fun _ _ q => go_var rfl q
  obtain ⟨R2, hp2, sR, new⟩ := hp1.grow s2
  rw [ins_sts] at h2
  exact k p _ R2 H2 (mem_inss (by omega) (by omega)) sR hp2 (new _ _ h0 h2)
def lockAll (ws : List Str) : List (List Str) := ws :: (inss ws "unlock" 0).flatMap fun u => (List.range (u.idxOf ("unlock" : Str) + 1)).map fun n => ins u "lock" n
def sp_locked : Sp := fun vs H Q _ => ∃ (pot o : Addr) (ws : List Str) (R : Hp), vs = [.ref pot, .ref o] ∧ PotAt pot R H ∧ R o = some (.lst (sts ws)) ∧ ws.length ≤ 50 ∧ NewL pot R Q fun ws' => ws' ∈ lockAll ws
theorem pu__law_locked {H : Hp} {vs : List V} {Q : VK} {E : XK} (h : sp_locked vs H Q E) : t__law_locked K sp_draw sp_put_in { nx := fun _ H' => Q .non H', rt := Q } (start N__law_locked vs) H := by
  obtain ⟨pot, o, ws, R, rfl, hp, ho, h50, k⟩ := h
  unfold t__law_locked
  walk_at "go"
  refine ⟨pot, _, R, rfl, by decide, by decide, hp, fun r H1 r0 r1 hp1 => ?_⟩
  walk_at "go"
  refine ite2 (fun _ => ?_) (fun _ => ?_)
  · walk_at "go"
    exact k o ws R H1 List.mem_cons_self (Same.refl _) hp1 ho
  · walk_at "go"
    refine ⟨pot, o, ws, "unlock", 0, R, rfl, hp1, ho, Nat.zero_le _, by omega, fun p u R2 H2 hu s2 hp2 h2 => ?_⟩
    have hmem : ("unlock" : Str) ∈ u := by
      obtain ⟨m, _, rfl⟩ := List.mem_map.mp hu
      unfold ins
      simp
    have hlen : u.length ≤ 100 := by
      obtain ⟨m, hm, rfl⟩ := List.mem_map.mp hu
      unfold ins
      rw [List.length_append, List.length_cons, List.length_take, List.length_drop]
      omega
    have hix := List.idxOf_lt_length_iff.mpr hmem
    walk_at "go"
    refine go_tyL (SqL.of (hp2.same _ _ h2)) ?_
    walk_at "go"
    refine go_index (SqL.of (hp2.same _ _ h2)) hmem ?_
    walk_at "go"
    refine ⟨pot, _, R2, rfl, by omega, by omega, hp2, fun r3 H3 r30 r31 hp3 => ?_⟩
    walk_at "st"
    refine go_ret (go_ins (n := r3) (v := .str "lock") (p := p) (xs := sts u) (by rfl) (by rfl) r30 (hp3.same _ _ h2) (by rw [List.length_map]; omega) ?_ fun p4 H4 s4 h40 h4 => ?_)
    · exact fun _ _ q => q
    obtain ⟨R4, hp4, sR, new⟩ := hp3.grow s4
    rw [ins_sts] at h4
    refine k p4 _ R4 H4 (List.mem_cons_of_mem _ (List.mem_flatMap.mpr ⟨u, hu, List.mem_map.mpr ⟨r3.toNat, List.mem_range.mpr (by omega), rfl⟩⟩)) (s2.trans sR) hp4 (new _ _ h40 h4)
def wAll : List (List Str) := let a := (inss ["change"] "enter" 1).flatMap fun u => inss u "commit" 1; (a ++ a.flatMap fun u => inss u "clear" 0).flatMap lockAll
def cAll : List (List Str) := ([["look", "set"], ["remove", "look", "set"], ["look", "set", "again"], ["remove", "look", "set", "again"]] : List (List Str)).flatMap lockAll
def rAll1 : List (List Str) := (inss ["entry"] "mark" 0).flatMap fun u => inss u "hold" 0
def rAll2 : List (List Str) := ((inss ["entry"] "mark" 0).flatMap fun u => inss u "take" 0).flatMap fun u => inss u "tell" (u.idxOf ("take" : Str) + 1)
def rAll : List (List Str) := (rAll1 ++ rAll2).map fun u => u ++ [("page" : Str)]
def sp_words (all : List (List Str)) : Sp := fun vs H Q _ => ∃ (pot : Addr) (R : Hp), vs = [.ref pot] ∧ PotAt pot R H ∧ NewL pot R Q fun ws' => ws' ∈ all
theorem small2 : ∀ u ∈ (inss ["change"] "enter" 1).flatMap (fun u => inss u "commit" 1), u.length ≤ 10 := by decide +kernel
theorem pu__law_writer_words {H : Hp} {vs : List V} {Q : VK} {E : XK} (h : sp_words wAll vs H Q E) : t__law_writer_words K sp_draw sp_put_in sp_locked { nx := fun _ H' => Q .non H', rt := Q } (start N__law_writer_words vs) H := by
  obtain ⟨pot, R, rfl, hp, k⟩ := h
  unfold t__law_writer_words
  walk_at "go"
  refine ⟨sz1000 (by decide), fun p0 h0 => ?_⟩
  obtain ⟨R0, hp0, s0, n0⟩ := hp.grow (Same.new (o := .lst (sts ["change"])) h0)
  walk_at "go"
  refine ⟨pot, p0, ["change"], "enter", 1, R0, rfl, hp0, n0 _ _ h0 upd_same, by decide, by decide, fun p1 u1 R1 H1 hu1 s1 hp1 h1 => ?_⟩
  walk_at "go"
  have e1 : u1 = ([("change" : Str), "enter"] : List Str) := by
    have : u1 ∈ ([["change", "enter"]] : List (List Str)) := hu1
    simpa using this
  subst e1
  refine ⟨pot, p1, _, "commit", 1, R1, rfl, hp1, h1, by decide, by decide, fun p2 u2 R2 H2 hu2 s2 hp2 h2 => ?_⟩
  have m2 : u2 ∈ (inss ["change"] "enter" 1).flatMap fun u => inss u "commit" 1 := List.mem_flatMap.mpr ⟨_, hu1, hu2⟩
  have l2 := small2 u2 m2
  have s02 := (s0.trans s1).trans s2
  walk_at "go"
  refine ⟨pot, _, R2, rfl, by decide, by decide, hp2, fun r H3 r0 r1 hp3 => ?_⟩
  walk_at "go"
  refine ite2 (fun _ => ?_) (fun _ => ?_)
  · walk_at "go"
    refine ⟨pot, p2, u2, "clear", 0, R2, rfl, hp3, h2, Nat.zero_le _, by omega, fun p4 u4 R4 H4 hu4 s4 hp4 h4 => ?_⟩
    have l4 : u4.length ≤ 50 := by
      obtain ⟨m, hm, rfl⟩ := List.mem_map.mp hu4
      unfold ins
      rw [List.length_append, List.length_cons, List.length_take, List.length_drop]
      omega
    walk_at "go"
    refine ⟨pot, p4, u4, R4, rfl, hp4, h4, l4, fun p5 u5 R5 H5 hu5 s5 hp5 h5 => ?_⟩
    exact k p5 u5 R5 H5 (List.mem_flatMap.mpr ⟨u4, List.mem_append_right _ (List.mem_flatMap.mpr ⟨u2, m2, hu4⟩), hu5⟩) ((s02.trans s4).trans s5) hp5 h5
  · walk_at "go"
    refine ⟨pot, p2, u2, R2, rfl, hp3, h2, by omega, fun p5 u5 R5 H5 hu5 s5 hp5 h5 => ?_⟩
    exact k p5 u5 R5 H5 (List.mem_flatMap.mpr ⟨u2, List.mem_append_left _ m2, hu5⟩) (s02.trans s5) hp5 h5

theorem pu__law_cleaner_words {H : Hp} {vs : List V} {Q : VK} {E : XK} (h : sp_words cAll vs H Q E) : t__law_cleaner_words K sp_draw sp_locked { nx := fun _ H' => Q .non H', rt := Q } (start N__law_cleaner_words vs) H := by
  obtain ⟨pot, R, rfl, hp, k⟩ := h
  -- the end: maybe again, then the lock
  have fin : ∀ (H2 R2 : Hp) (p : Addr) (ws : List Str), PotAt pot R2 H2 → Same R R2 → R2 p = some (.lst (sts ws)) → ws ∈ ([["look", "set"], ["remove", "look", "set"]] : List (List Str)) →
      tSeq (tIfS (tTest (tOp (rSame K) (tCall sp_draw [] E0 (tCons (tVar 0) (tCons (tC (.int 3)) tNil))) (tC (.int 0)))) (tAsg (tOp rPlus (tVar 1) (tLst (tCons (tC (.str "again")) tNil))) (gName 1)) tNext)
        (tRet (tCall sp_locked [] E0 (tCons (tVar 0) (tCons (tVar 1) tNil)))) { nx := fun _ H' => Q .non H', rt := Q } [some (.ref pot), some (.ref p)] H2 := by
    intro H2 R2 p ws hp2 s2 h2 hm
    have wl : ws.length ≤ 3 := by
      rcases List.mem_cons.mp hm with e | e
      · rw [e]; decide
      · rw [List.mem_singleton.mp e]; decide
    walk_at "go"
    refine ⟨pot, _, R2, rfl, by decide, by decide, hp2, fun r3 H3 _ _ hp3 => ?_⟩
    walk_at "go"
    refine ite2 (fun _ => ?_) (fun _ => ?_)
    · walk_at "go"
      refine ⟨sz1000 (by decide), fun p4 h4 => ?_⟩
      have h3 := hp3.same _ _ h2
      refine go_plusL (xs := sts ws) (ys := [.str "again"]) (by walk_at "rd") (by walk_at "rd") (sz1000 (by rw [List.length_map]; show _ + 1 ≤ _; omega)) fun p5 h5 => ?_
      have s35 := (Same.new (o := .lst [.str "again"]) h4).trans (Same.new (o := .lst (sts ws ++ [.str "again"])) h5)
      obtain ⟨R5, hp5, s5, n5⟩ := hp3.grow s35
      have g5 := n5 p5 _ ((Same.new (o := .lst [.str "again"]) h4).free h5) upd_same
      walk_at "go"
      refine ⟨pot, p5, ws ++ [("again" : Str)], R5, rfl, hp5, by rw [g5]; simp [sts], by simp; omega, fun p6 u6 R6 H6 hu6 s6 hp6 h6 => ?_⟩
      refine k p6 u6 R6 H6 ?_ ((s2.trans s5).trans s6) hp6 h6
      refine List.mem_flatMap.mpr ⟨_, ?_, hu6⟩
      rcases List.mem_cons.mp hm with e | e
      · rw [e]; decide
      · rw [List.mem_singleton.mp e]; decide
    · walk_at "go"
      refine ⟨pot, p, ws, R2, rfl, hp3, h2, by omega, fun p6 u6 R6 H6 hu6 s6 hp6 h6 => ?_⟩
      refine k p6 u6 R6 H6 ?_ (s2.trans s6) hp6 h6
      refine List.mem_flatMap.mpr ⟨_, ?_, hu6⟩
      rcases List.mem_cons.mp hm with e | e
      · rw [e]; decide
      · rw [List.mem_singleton.mp e]; decide
  unfold t__law_cleaner_words
  walk_at "go"
  refine ⟨sz1000 (by decide), fun p0 h0 => ?_⟩
  obtain ⟨R0, hp0, s0, n0⟩ := hp.grow (Same.new (o := .lst (sts ["look", "set"])) h0)
  have g0 : R0 p0 = some (.lst (sts ["look", "set"])) := n0 _ _ h0 upd_same
  walk_at "go"
  refine ⟨pot, _, R0, rfl, by decide, by decide, hp0, fun r H1 r0 r1 hp1 => ?_⟩
  walk_at "go"
  refine ite2 (fun _ => ?_) (fun _ => ?_)
  · walk_at "go"
    refine ⟨sz1000 (by decide), fun p4 h4 => ?_⟩
    have h1 := hp1.same _ _ g0
    walk_at "go"
    refine go_plusL (xs := [.str "remove"]) (ys := sts ["look", "set"]) (by walk_at "rd") (by walk_at "rd") (sz1000 (by decide)) fun p5 h5 => ?_
    have s35 := (Same.new (o := .lst [.str "remove"]) h4).trans (Same.new (o := .lst ([.str "remove"] ++ sts ["look", "set"])) h5)
    obtain ⟨R5, hp5, s5, n5⟩ := hp1.grow s35
    have g5 := n5 p5 _ ((Same.new (o := .lst [.str "remove"]) h4).free h5) upd_same
    walk_at "st"
    exact fin _ R5 p5 ["remove", "look", "set"] hp5 (s0.trans s5) g5 (by decide)
  · refine go_next ?_
    exact fin _ R0 p0 ["look", "set"] hp1 s0 g0 (by decide)
theorem len2 : ∀ u ∈ inss ["entry"] "mark" 0, u.length = 2 := by decide +kernel
theorem len3 : ∀ u ∈ (inss ["entry"] "mark" 0).flatMap (fun u => inss u "take" 0), u.length = 3 ∧ ("take" : Str) ∈ u := by decide +kernel
theorem len4 : ∀ u ∈ rAll1 ++ rAll2, u.length ≤ 4 := by decide +kernel
/-- .. + ['page'] -/
theorem go_page {H : Hp} {Q : VK} {σ : L2.St} {pot p : Addr} {R R1 : Hp} {u : List Str} (k : NewL pot R Q fun ws' => ws' ∈ rAll) (hm : u ∈ rAll1 ++ rAll2) (s1 : Same R R1) (hp1 : PotAt pot R1 H) (h1 : R1 p = some (.lst (sts u))) :
    tLst (tCons (tC (.str "page")) tNil) σ H fun y H2 => rPlus (.ref p) y H2 Q := by
  walk_at "go"
  refine ⟨sz1000 (by decide), fun p4 h4 => ?_⟩
  have h3 := hp1.same _ _ h1
  have hl := len4 u hm
  refine go_plusL (xs := sts u) (ys := [.str "page"]) (by walk_at "rd") (by walk_at "rd") (sz1000 (by rw [List.length_map]; show _ + 1 ≤ _; omega)) fun p5 h5 => ?_
  have s35 := (Same.new (o := .lst [.str "page"]) h4).trans (Same.new (o := .lst (sts u ++ [.str "page"])) h5)
  obtain ⟨R5, hp5, s5, n5⟩ := hp1.grow s35
  have g5 := n5 p5 _ ((Same.new (o := .lst [.str "page"]) h4).free h5) upd_same
  exact k p5 (u ++ [("page" : Str)]) R5 _ (List.mem_map.mpr ⟨u, hm, rfl⟩) (s1.trans s5) hp5 (by rw [g5]; simp [sts])
theorem pu__law_reader_words {H : Hp} {vs : List V} {Q : VK} {E : XK} (h : sp_words rAll vs H Q E) : t__law_reader_words K sp_draw sp_put_in { nx := fun _ H' => Q .non H', rt := Q } (start N__law_reader_words vs) H := by
  obtain ⟨pot, R, rfl, hp, k⟩ := h
  unfold t__law_reader_words
  walk_at "go"
  refine ⟨sz1000 (by decide), fun p0 h0 => ?_⟩
  obtain ⟨R0, hp0, s0, n0⟩ := hp.grow (Same.new (o := .lst (sts ["entry"])) h0)
  walk_at "go"
  refine ⟨pot, p0, ["entry"], "mark", 0, R0, rfl, hp0, n0 _ _ h0 upd_same, by decide, by decide, fun p1 u1 R1 H1 hu1 s1 hp1 h1 => ?_⟩
  have l1 := len2 u1 hu1
  walk_at "go"
  refine ⟨pot, _, R1, rfl, by decide, by decide, hp1, fun r H2 r0 r1 hp2 => ?_⟩
  walk_at "go"
  refine ite2 (fun _ => ?_) (fun _ => ?_)
  · walk_at "go"
    refine ⟨pot, p1, u1, "hold", 0, R1, rfl, hp2, h1, Nat.zero_le _, by omega, fun p3 u3 R3 H3 hu3 s3 hp3 h3 => ?_⟩
    refine go_page k (List.mem_append_left _ (List.mem_flatMap.mpr ⟨u1, hu1, hu3⟩)) ((s0.trans s1).trans s3) hp3 h3
  · walk_at "go"
    refine ⟨pot, p1, u1, "take", 0, R1, rfl, hp2, h1, Nat.zero_le _, by omega, fun p3 u3 R3 H3 hu3 s3 hp3 h3 => ?_⟩
    have m3 : u3 ∈ (inss ["entry"] "mark" 0).flatMap fun u => inss u "take" 0 := List.mem_flatMap.mpr ⟨u1, hu1, hu3⟩
    obtain ⟨l3, t3⟩ := len3 u3 m3
    have ix3 := List.idxOf_lt_length_iff.mpr t3
    walk_at "go"
    refine go_tyL (SqL.of (hp3.same _ _ h3)) ?_
    walk_at "go"
    refine go_index (SqL.of (hp3.same _ _ h3)) t3 ?_
    walk_at "go"
    refine ⟨pot, p3, u3, "tell", u3.idxOf ("take" : Str) + 1, R3, rfl, hp3, h3, by omega, by omega, fun p4 u4 R4 H4 hu4 s4 hp4 h4 => ?_⟩
    exact go_page k (List.mem_append_right _ (List.mem_flatMap.mpr ⟨u3, m3, hu4⟩)) (((s0.trans s1).trans s3).trans s4) hp4 h4

/-! ### the law's own tests -/
def okStr (x : Str) : Bool := okV (.str x)
def once (ws : List Str) (x : Str) : Bool := decide (((ws.filter fun y => decide (y = x)).length : Int) = 1)
def fits (ws nd fr : List Str) : Bool := (ws.all fun x => decide (x ∈ nd ++ fr) && once ws x) && (allIn nd ws && lockedWell ws)
def sp_fits (K : PySem.W.Frag) : Sp := fun vs H Q _ => ∃ (z : Str) (n f : Addr) (nd fr : List Str), vs = [.str z, .ref n, .ref f] ∧ z.length ≤ 900 ∧ H n = some (.lst (sts nd)) ∧ H f = some (.lst (sts fr)) ∧ nd.length ≤ 10 ∧ fr.length ≤ 10 ∧ nd.all okStr = true ∧ ∀ H', Same H H' → Q (.bl (fits (Txt.split z " ") nd fr)) H'
def eqB (a : Str) : V → Bool
  | .str b => decide (b = a)
  | _ => false
theorem filter_sts (p : V → Bool) (q : Str → Bool) (h : ∀ b, p (.str b) = q b) (ws : List Str) : ((sts ws).filter p).map id = sts (ws.filter q) := by
  rw [List.map_id]
  unfold sts
  rw [List.filter_map]
  congr 1
  exact List.filter_congr fun x _ => h x
theorem pu__law_fits {H : Hp} {vs : List V} {Q : VK} {E : XK} (h : sp_fits K vs H Q E) : t__law_fits K (sp_is_ahead K) { nx := fun _ H' => Q .non H', rt := Q } (start N__law_fits vs) H := by
  obtain ⟨z, n, f, nd, fr, rfl, hz, hn, hf, ln, lf, okn, k⟩ := h
  unfold t__law_fits
  walk_at "go"
  refine go_split rfl (sz1000 (by omega)) fun p hp => ?_
  have s0 : Same H (upd H p (.lst (sts (Txt.split z " ")))) := Same.new hp
  have hl : (Txt.split z " ").length ≤ 1000 := by have := split_le z " "; omega
  generalize hW : Txt.split z " " = ws at *
  walk_at "go"
  refine go_seqAt (SqL.of upd_same) ?_
  refine for_list (K := K) (a := p) (xs := sts ws) (fun i σ H' => ∃ v, σ = [some (.str z), some (.ref n), some (.ref f), some (.ref p), v, none] ∧ Same (upd H p (.lst (sts ws))) H' ∧ ((ws.take i).all fun x => decide (x ∈ nd ++ fr) && once ws x) = true)
    ⟨none, rfl, Same.refl _, rfl⟩ (fun i σ H' _ ⟨_, _, s, _⟩ => s.seq (SqL.of upd_same)) ?_ ?_
  · rintro i x σ H' hx ⟨v, rfl, s, ok⟩
    obtain ⟨a, ha, rfl⟩ : ∃ a, ws[i]? = some a ∧ V.str a = x := by simpa [List.getElem?_map] using hx
    have s1 := s0.trans s
    have hpH := s _ _ (upd_same (H := H) (a := p) (o := .lst (sts ws)))
    have hnH := s1 _ _ hn
    have hfH := s1 _ _ hf
    have bad : (decide (a ∈ nd ++ fr) && once ws a) = false → ∀ H2, Same H' H2 → Q (.bl false) H2 := fun e H2 s2 => by
      have := k H2 (s1.trans s2)
      have e2 : fits ws nd fr = false := by
        unfold fits
        have : (ws.all fun x => decide (x ∈ nd ++ fr) && once ws x) = false := by
          rw [List.all_eq_false]
          exact ⟨a, List.mem_of_getElem? ha, by rw [e]; decide⟩
        rw [this]; rfl
      rwa [e2] at this
    walk_at "go"
    refine go_plusL (by walk_at "rd") (by walk_at "rd") (sz1000 (by rw [List.length_map, List.length_map]; omega)) fun q hq => ?_
    have e1 : sts nd ++ sts fr = sts (nd ++ fr) := (List.map_append ..).symm
    rw [e1]
    refine go_ninL (SqL.of upd_same) rfl (flat_strs _) ?_
    rw [in_strs]
    have s2 : Same H' (upd H' q (.lst (sts (nd ++ fr)))) := Same.new hq
    walk_at "go"
    by_cases m : a ∈ nd ++ fr
    · rw [decide_eq_true m]
      walk_at "go"
      refine go_seqAt (xs := sts ws) (SqL.of (by walk_at "rd")) fun D hD => ?_
      refine lcr_list (eqB a) id (SqL.of (s2 _ _ hpH)) hD (by rw [List.length_map]; omega) (fun y hy => ?_) fun H1 t1 h1 => ?_
      · obtain ⟨b, _, rfl⟩ := List.mem_map.mp hy
        intro H2 A acc Nx s3 hA hH hl k2
        walk_at "go"
        refine ⟨rfl, ?_⟩
        walk_at "go"
        show if decide (b = a) = true then _ else _
        refine ite2 (fun e => ?_) (fun e => ?_)
        · walk_at "go"
          have := k2 H2 (Same.refl _)
          rw [show eqB a (.str b) = true from e] at this
          exact ⟨acc, hH, hl, this⟩
        · have := k2 H2 (Same.refl _)
          rw [show eqB a (.str b) = false from (Bool.eq_false_iff.mpr e)] at this
          exact this
      · rw [filter_sts (eqB a) (fun y => decide (y = a)) (fun _ => rfl)] at h1
        walk_at "go"
        refine go_lenL (SqL.of h1) ?_
        walk_at "go"
        rw [List.length_map]
        cases e : once ws a with
        | true =>
          have e' : decide (((ws.filter fun y => decide (y = a)).length : Int) = 1) = true := e
          rw [e']
          walk_at "go"
          refine ⟨_, rfl, s.trans (s2.trans t1), ?_⟩
          rw [take_snoc ha, List.all_append, ok, List.all_cons, decide_eq_true m, e]
          rfl
        | false =>
          have e' : decide (((ws.filter fun y => decide (y = a)).length : Int) = 1) = false := e
          rw [e']
          walk_at "go"
          exact bad (by rw [e, Bool.and_false]) _ (s2.trans t1)
    · rw [decide_eq_false m]
      walk_at "go"
      exact bad (by rw [decide_eq_false m]; rfl) _ s2
  · rintro σ H' ⟨v, rfl, s, ok⟩
    have s1 := s0.trans s
    have hpH := s _ _ (upd_same (H := H) (a := p) (o := .lst (sts ws)))
    have hnH := s1 _ _ hn
    rw [List.length_map, List.take_length] at ok
    unfold fits at k
    rw [ok, Bool.true_and] at k
    walk_at "go"
    refine go_seqAt (SqL.of hnH) fun D hD => ?_
    refine lcr_list (fun y => !inV y (sts ws)) id (SqL.of hnH) hD (by rw [List.length_map]; omega) (fun y hy => ?_) fun H1 t1 h1 => ?_
    · obtain ⟨b, _, rfl⟩ := List.mem_map.mp hy
      intro H2 A acc Nx s3 hA hH hl k2
      walk_at "go"
      refine ⟨rfl, ?_⟩
      walk_at "go"
      refine go_ninL (SqL.of (s3 _ _ hpH)) rfl (flat_strs _) ?_
      walk_at "go"
      have := k2 H2 (Same.refl _)
      refine ite2 (fun e => ?_) (fun e => ?_)
      · walk_at "go"
        rw [e] at this
        exact ⟨acc, hH, hl, this⟩
      · rw [Bool.eq_false_iff.mpr e] at this
        exact this
    · rw [filter_sts _ (fun y => !decide (y ∈ ws)) (fun b => by rw [in_strs])] at h1
      walk_at "go"
      refine ⟨sz1000 (by decide), fun e he => ?_⟩
      have okf : (sts (nd.filter fun y => !decide (y ∈ ws))).all okV = true := by
        rw [List.all_eq_true]
        intro x hx
        obtain ⟨b, hb, rfl⟩ := List.mem_map.mp hx
        exact List.all_eq_true.mp okn b (List.mem_filter.mp hb).1
      refine go_unLL (xs := sts (nd.filter fun y => !decide (y ∈ ws))) (ys := []) (SqL.of (by walk_at "rd")) (SqL.of upd_same) okf rfl ?_
      have s2 := t1.trans (Same.new (o := .lst []) he)
      have e3 : eqL (sts (nd.filter fun y => !decide (y ∈ ws))) [] = allIn nd ws := by
        have : eqL (sts (nd.filter fun y => !decide (y ∈ ws))) (sts []) = _ := eqL_strs _ []
        refine this.trans ?_
        unfold allIn
        rw [Bool.eq_iff_iff]
        simp [List.filter_eq_nil_iff]
      rw [e3]
      walk_at "go"
      have hS : SqL K (upd H1 e (.lst [])) p (sts ws) := SqL.of (s2 _ _ hpH)
      cases c : allIn nd ws with
      | false =>
        rw [c] at k
        walk_at "go"
        exact k _ (s1.trans s2)
      | true =>
        rw [c, Bool.true_and] at k
        walk_at "go"
        refine go_inL hS rfl (flat_strs ws) ?_
        rw [in_strs]
        walk_at "go"
        refine go_inL hS rfl (flat_strs ws) ?_
        rw [in_strs]
        walk_at "go"
        have k' := k _ (s1.trans s2)
        unfold lockedWell at k'
        cases e : (decide (("lock" : Str) ∈ ws) == decide (("unlock" : Str) ∈ ws)) with
        | false =>
          rw [e] at k'
          walk_at "go"
          exact k'
        | true =>
          rw [e] at k'
          walk_at "go"
          exact ⟨p, ws, "lock", "unlock", rfl, hS, k'⟩
def lawW (ws : List Str) : Bool := fits ws ["change", "enter", "commit"] ["clear", "lock", "unlock"] && (ahead ws "change" "enter" && ahead ws "change" "commit")
def lawC (ws : List Str) : Bool := fits ws ["look", "set"] ["remove", "again", "lock", "unlock"] && (ahead ws "look" "set" && (ahead ws "remove" "look" && ahead ws "set" "again"))
def lawR (ws : List Str) : Bool := fits ws ["entry", "mark", "page"] ["hold", "take", "tell"] && (!(decide (("hold" : Str) ∈ ws) == decide (("take" : Str) ∈ ws)) && (!(decide (("take" : Str) ∈ ws) != decide (("tell" : Str) ∈ ws)) && (decide (ws.getLast? = some ("page" : Str)) && ahead ws "take" "tell")))
def sp_law_is (f : List Str → Bool) : Sp := fun vs H Q _ => ∃ z : Str, vs = [.str z] ∧ z.length ≤ 900 ∧ ∀ H', Same H H' → Q (.bl (f (Txt.split z " "))) H'
/-- the three begin alike -/
theorem pu_fits {na nb : List Str} {H : Hp} {z : Str} {σ : L2.St} {R : VK} {ta tb : TA} (v0 : σ[0]? = some (some (.str z))) (hz : z.length ≤ 900) (la : na.length ≤ 10) (lb : nb.length ≤ 10) (oka : na.all okStr = true)
    (ha : ∀ H Q, Q (sts na) H → ta σ H Q) (hb : ∀ H Q, Q (sts nb) H → tb σ H Q) (hR : ∀ H', Same H H' → R (.bl (fits (Txt.split z " ") na nb)) H') :
    tCall (sp_fits K) [] E0 (tCons (tVar 0) (tCons (tLst ta) (tCons (tLst tb) tNil))) σ H R := by
  walk_at "go"
  refine ha _ _ ⟨sz1000 (by rw [List.length_map]; omega), fun p hp => ?_⟩
  walk_at "go"
  refine hb _ _ ⟨sz1000 (by rw [List.length_map]; omega), fun q hq => ?_⟩
  walk_at "go"
  have s2 := (Same.new (o := .lst (sts na)) hp).trans (Same.new (o := .lst (sts nb)) hq)
  exact ⟨z, p, q, na, nb, rfl, hz, by walk_at "rd", by walk_at "rd", la, lb, oka, fun H' s => hR H' (s2.trans s)⟩
theorem pu__law_is_writer {H : Hp} {vs : List V} {Q : VK} {E : XK} (h : sp_law_is lawW vs H Q E) : t__law_is_writer K (sp_is_ahead K) (sp_fits K) { nx := fun _ H' => Q .non H', rt := Q } (start N__law_is_writer vs) H := by
  obtain ⟨z, rfl, hz, k⟩ := h
  unfold t__law_is_writer
  refine go_seq (go_ifS (go_not (go_B (pu_fits (na := ["change", "enter", "commit"]) (nb := ["clear", "lock", "unlock"]) rfl hz (by decide) (by decide) (by decide +kernel) (fun _ _ q => q) (fun _ _ q => q) fun H1 s1 => ?_))))
  unfold lawW at k
  walk_at "go"
  cases c : fits (Txt.split z " ") ["change", "enter", "commit"] ["clear", "lock", "unlock"] with
  | false =>
    rw [c] at k
    walk_at "go"
    exact k H1 s1
  | true =>
    rw [c, Bool.true_and] at k
    walk_at "go"
    refine go_split rfl (sz1000 (by omega)) fun p hp => ?_
    have s2 := s1.trans (Same.new (o := .lst (sts (Txt.split z " "))) hp)
    walk_at "go"
    refine ⟨p, _, "change", "enter", rfl, SqL.of upd_same, ?_⟩
    walk_at "go"
    cases c2 : ahead (Txt.split z " ") "change" "enter" with
    | false =>
      rw [c2] at k
      walk_at "go"
      exact k _ s2
    | true =>
      rw [c2, Bool.true_and] at k
      walk_at "go"
      exact ⟨p, _, "change", "commit", rfl, SqL.of upd_same, k _ s2⟩
theorem pu__law_is_cleaner {H : Hp} {vs : List V} {Q : VK} {E : XK} (h : sp_law_is lawC vs H Q E) : t__law_is_cleaner K (sp_is_ahead K) (sp_fits K) { nx := fun _ H' => Q .non H', rt := Q } (start N__law_is_cleaner vs) H := by
  obtain ⟨z, rfl, hz, k⟩ := h
  unfold t__law_is_cleaner
  refine go_seq (go_ifS (go_not (go_B (pu_fits (na := ["look", "set"]) (nb := ["remove", "again", "lock", "unlock"]) rfl hz (by decide) (by decide) (by decide +kernel) (fun _ _ q => q) (fun _ _ q => q) fun H1 s1 => ?_))))
  unfold lawC at k
  walk_at "go"
  cases c : fits (Txt.split z " ") ["look", "set"] ["remove", "again", "lock", "unlock"] with
  | false =>
    rw [c] at k
    walk_at "go"
    exact k H1 s1
  | true =>
    rw [c, Bool.true_and] at k
    walk_at "go"
    refine go_split rfl (sz1000 (by omega)) fun p hp => ?_
    have s2 := s1.trans (Same.new (o := .lst (sts (Txt.split z " "))) hp)
    walk_at "go"
    refine ⟨p, _, "look", "set", rfl, SqL.of upd_same, ?_⟩
    walk_at "go"
    cases c2 : ahead (Txt.split z " ") "look" "set" with
    | false =>
      rw [c2] at k
      walk_at "go"
      exact k _ s2
    | true =>
      rw [c2, Bool.true_and] at k
      walk_at "go"
      refine ⟨p, _, "remove", "look", rfl, SqL.of upd_same, ?_⟩
      walk_at "go"
      cases c3 : ahead (Txt.split z " ") "remove" "look" with
      | false =>
        rw [c3] at k
        walk_at "go"
        exact k _ s2
      | true =>
        rw [c3, Bool.true_and] at k
        walk_at "go"
        exact ⟨p, _, "set", "again", rfl, SqL.of upd_same, k _ s2⟩
theorem pu__law_is_reader {H : Hp} {vs : List V} {Q : VK} {E : XK} (h : sp_law_is lawR vs H Q E) : t__law_is_reader K (sp_is_ahead K) (sp_fits K) { nx := fun _ H' => Q .non H', rt := Q } (start N__law_is_reader vs) H := by
  obtain ⟨z, rfl, hz, k⟩ := h
  unfold t__law_is_reader
  refine go_seq (go_ifS (go_not (go_B (pu_fits (na := ["entry", "mark", "page"]) (nb := ["hold", "take", "tell"]) rfl hz (by decide) (by decide) (by decide +kernel) (fun _ _ q => q) (fun _ _ q => q) fun H1 s1 => ?_))))
  unfold lawR at k
  walk_at "go"
  have ne : Txt.split z " " ≠ [] := fun e => by
    have : (Txt.split z " ").length ≠ 0 := by
      unfold Txt.split
      split
      · simp
      · split
        · simp
        · rw [length_partsBetween]; omega
    rw [e] at this
    exact this rfl
  cases c : fits (Txt.split z " ") ["entry", "mark", "page"] ["hold", "take", "tell"] with
  | false =>
    rw [c] at k
    walk_at "go"
    exact k H1 s1
  | true =>
    rw [c, Bool.true_and] at k
    walk_at "go"
    refine go_split rfl (sz1000 (by omega)) fun p hp => ?_
    have s2 := s1.trans (Same.new (o := .lst (sts (Txt.split z " "))) hp)
    generalize Txt.split z " " = ws at *
    have hS : SqL K (upd H1 p (.lst (sts ws))) p (sts ws) := SqL.of upd_same
    walk_at "go"
    refine go_inL hS rfl (flat_strs ws) ?_
    rw [in_strs]
    walk_at "go"
    refine go_inL hS rfl (flat_strs ws) ?_
    rw [in_strs]
    walk_at "go"
    cases q2 : (decide (("hold" : Str) ∈ ws) == decide (("take" : Str) ∈ ws)) with
    | true =>
      rw [q2] at k
      walk_at "go"
      exact k _ s2
    | false =>
      rw [q2, Bool.not_false, Bool.true_and] at k
      walk_at "go"
      refine go_inL hS rfl (flat_strs ws) ?_
      rw [in_strs]
      walk_at "go"
      refine go_inL hS rfl (flat_strs ws) ?_
      rw [in_strs]
      walk_at "go"
      cases q3 : (decide (("take" : Str) ∈ ws) != decide (("tell" : Str) ∈ ws)) with
      | true =>
        rw [q3] at k
        walk_at "go"
        exact k _ s2
      | false =>
        rw [q3, Bool.not_false, Bool.true_and] at k
        walk_at "go"
        obtain ⟨l, hl⟩ : ∃ l, ws.getLast? = some l := ⟨_, List.getLast?_eq_some_getLast ne⟩
        refine go_ixL hS (at_last (v := .str l) (by rw [List.getLast?_map, hl]; rfl)) ?_
        walk_at "go"
        rw [hl] at k
        by_cases ep : l = ("page" : Str)
        · rw [decide_eq_true ep]
          rw [ep, decide_eq_true rfl, Bool.true_and] at k
          walk_at "go"
          exact ⟨p, ws, "take", "tell", rfl, hS, k _ s2⟩
        · have e1 : decide (some l = some ("page" : Str)) = false := decide_eq_false fun z => ep (Option.some.inj z)
          rw [e1] at k
          rw [decide_eq_false ep]
          walk_at "go"
          exact k _ s2
/-! ### both tests are one -/
theorem once_nodup {ws : List Str} : ws.Nodup ↔ ∀ x ∈ ws, once ws x = true := by
  rw [List.nodup_iff_count]
  unfold once
  constructor
  · intro h x hx
    have h1 := h x
    have h2 := List.count_pos_iff.mpr hx
    rw [List.count_eq_length_filter] at h1 h2
    have e : (ws.filter fun y => decide (y = x)) = ws.filter (· == x) := List.filter_congr fun y _ => by by_cases h : y = x <;> simp [h]
    rw [e]
    exact decide_eq_true (by omega)
  · intro h x
    by_cases hx : x ∈ ws
    · have h1 := of_decide_eq_true (h x hx)
      rw [List.count_eq_length_filter]
      have e : (ws.filter fun y => decide (y = x)) = ws.filter (· == x) := List.filter_congr fun y _ => by by_cases h : y = x <;> simp [h]
      rw [e] at h1
      omega
    · rw [List.count_eq_zero.mpr hx]
      omega
theorem fits_is {ws nd fr ks : List Str} (h : ∀ x, x ∈ ks ↔ x ∈ nd ++ fr) : fits ws nd fr = (kn ks ws && (allIn nd ws && lockedWell ws)) := by
  unfold fits kn
  congr 1
  rw [Bool.eq_iff_iff, List.all_eq_true, Bool.and_eq_true, decide_eq_true_iff, once_nodup, List.all_eq_true]
  constructor
  · intro q
    refine ⟨fun x hx => ?_, fun x hx => ?_⟩
    · have := q x hx
      rw [Bool.and_eq_true] at this
      exact this.2
    · have := q x hx
      rw [Bool.and_eq_true, decide_eq_true_iff] at this
      exact decide_eq_true ((h x).mpr this.1)
  · rintro ⟨q1, q2⟩ x hx
    rw [q1 x hx, Bool.and_true]
    exact decide_eq_true ((h x).mp (of_decide_eq_true (q2 x hx)))
theorem lawW_is (ws : List Str) : lawW ws = isW ws := by
  unfold lawW isW
  rw [fits_is (ks := wWords) (fun x => by unfold wWords; simp)]
  cases kn wWords ws <;> cases allIn ["change", "enter", "commit"] ws <;> cases lockedWell ws <;> cases ahead ws "change" "enter" <;> cases ahead ws "change" "commit" <;> rfl
theorem lawC_is (ws : List Str) : lawC ws = isC ws := by
  unfold lawC isC
  rw [fits_is (ks := cWords) (fun x => by unfold cWords; simp)]
  cases kn cWords ws <;> cases allIn ["look", "set"] ws <;> cases lockedWell ws <;> rfl
theorem no_lock {ws : List Str} (h : kn rWords ws = true) : lockedWell ws = true := by
  unfold kn at h
  rw [Bool.and_eq_true, List.all_eq_true] at h
  have no : ∀ x : Str, x ∉ rWords → x ∉ ws := fun x hx hm => hx (of_decide_eq_true (h.2 x hm))
  have h1 : ("lock" : Str) ∉ ws := no _ (by decide +kernel)
  have h2 : ("unlock" : Str) ∉ ws := no _ (by decide +kernel)
  unfold lockedWell ahead
  simp [h1, h2]
theorem lawR_is (ws : List Str) : lawR ws = isR ws := by
  unfold lawR isR
  rw [fits_is (ks := rWords) (fun x => by unfold rWords; simp)]
  cases q : kn rWords ws with
  | false => rfl
  | true =>
    rw [no_lock q]
    cases allIn ["entry", "mark", "page"] ws <;> cases (decide (("hold" : Str) ∈ ws) == decide (("take" : Str) ∈ ws)) <;> cases (decide (("take" : Str) ∈ ws) != decide (("tell" : Str) ∈ ws)) <;> cases decide (ws.getLast? = some ("page" : Str)) <;> cases ahead ws "take" "tell" <;> rfl

/-! ### an order spoilt -/
def shortAll (n m : Nat) (ws : List Str) : Prop := ws.length ≤ n ∧ ∀ x ∈ ws, x.length ≤ m
def strange : List Str := ["clear", "lock", "unlock", "again", "remove", "hold", "tell", "", "Lock", "page", "enter", "set"]
def sp_spoilt : Sp := fun vs H Q _ => ∃ (pot o : Addr) (ws : List Str) (R : Hp), vs = [.ref pot, .ref o] ∧ PotAt pot R H ∧ R o = some (.lst (sts ws)) ∧ shortAll 20 10 ws ∧ NewL pot R Q fun ws' => shortAll 30 10 ws'
theorem shortAll.take {n m : Nat} {ws : List Str} (h : shortAll n m ws) (k : Nat) : shortAll n m (ws.take k) := ⟨Nat.le_trans (List.length_take_le' ..) h.1, fun x hx => h.2 x (List.mem_of_mem_take hx)⟩
theorem strange_short : ∀ x ∈ strange, x.length ≤ 10 := by decide +kernel
theorem pu__law_spoilt {H : Hp} {vs : List V} {Q : VK} {E : XK} (h : sp_spoilt vs H Q E) : t__law_spoilt K sp_draw { nx := fun _ H' => Q .non H', rt := Q } (start N__law_spoilt vs) H := by
  obtain ⟨pot, o, ws, R, rfl, hp, ho, hw, k⟩ := h
  unfold t__law_spoilt
  walk_at "go"
  refine ⟨sz1000 (by decide), fun q hq => ?_⟩
  obtain ⟨R0, hp0, s0, n0⟩ := hp.grow (Same.new (o := .lst (sts strange)) hq)
  have g0 : R0 q = some (.lst (sts strange)) := n0 _ _ hq upd_same
  walk_at "go"
  refine ⟨pot, _, R0, rfl, by decide, by decide, hp0, fun r H1 r0 r1 hp1 => ?_⟩
  walk_at "go"
  refine go_rng1 (by omega) (by omega) ?_
  refine for_range (lo := 0) (n := r.toNat) (fun i σ H' => ∃ (p : Addr) (u : List Str) (R' : Hp) (a b c d e : Option V), σ = [some (.ref pot), some (.ref p), some (.ref q), a, b, c, d, e] ∧ PotAt pot R' H' ∧ Same R0 R' ∧ R' p = some (.lst (sts u)) ∧ shortAll (20 + i) 10 u)
    ⟨o, ws, R0, none, none, none, none, none, rfl, hp1, Same.refl _, s0 _ _ ho, hw⟩ ?_ ?_
  · rintro i σ H2 hi ⟨p, u, R2, a, b, c, d, e, rfl, hp2, s2, h2, hu⟩
    have ul : u.length ≤ 30 := by have := hu.1; omega
    have next : ∀ (p' : Addr) (u' : List Str) (R' H' : Hp) (a b c d e : Option V), PotAt pot R' H' → Same R2 R' → R' p' = some (.lst (sts u')) → shortAll (20 + (i + 1)) 10 u' →
        ∃ (p : Addr) (u : List Str) (R'' : Hp) (a' b' c' d' e' : Option V), [some (.ref pot), some (.ref p'), some (.ref q), a, b, c, d, e] = [some (.ref pot), some (.ref p), some (.ref q), a', b', c', d', e'] ∧ PotAt pot R'' H' ∧ Same R0 R'' ∧ R'' p = some (.lst (sts u)) ∧ shortAll (20 + (i + 1)) 10 u :=
      fun p' u' R' H' a b c d e x1 x2 x3 x4 => ⟨p', u', R', a, b, c, d, e, rfl, x1, s2.trans x2, x3, x4⟩
    walk_at "go"
    refine ⟨pot, _, R2, rfl, by decide, by decide, hp2, fun w H3 w0 w1 hp3 => ?_⟩
    walk_at "go"
    refine go_lenL (SqL.of (hp3.same _ _ h2)) ?_
    walk_at "go"
    rw [List.length_map]
    refine ⟨pot, _, R2, rfl, by omega, by omega, hp3, fun at' H4 a0 a1 hp4 => ?_⟩
    walk_at "go"
    refine go_lenL (SqL.of (hp4.same _ _ h2)) ?_
    walk_at "go"
    rw [List.length_map]
    refine ⟨pot, _, R2, rfl, by omega, by omega, hp4, fun mt H5 m0 m1 hp5 => ?_⟩
    have h5 := hp5.same _ _ h2
    walk_at "go"
    refine ite2 (fun _ => ?_) (fun _ => ?_)
    · -- a strange word put in
      walk_at "go"
      refine go_slL (SqL.of h5) fun p1 f1 => ?_
      rw [cut_take a0]
      obtain ⟨R6, hp6, s6, n6⟩ := hp5.grow (Same.new (o := .lst ((sts u).take at'.toNat)) f1)
      have g6 := n6 _ _ f1 upd_same
      walk_at "go"
      refine ⟨pot, _, R6, rfl, by decide, by decide, hp6, fun sw H7 z0 z1 hp7 => ?_⟩
      walk_at "go"
      obtain ⟨x, hx⟩ : ∃ x, strange[sw.toNat]? = some x := ⟨_, List.getElem?_eq_getElem (by show sw.toNat < 12; omega)⟩
      have hat : atI (sts strange) sw = some (.str x) := by
        have := atI_nat (xs := sts strange) (j := sw.toNat) (v := .str x) (by rw [List.getElem?_map, hx]; rfl)
        rwa [Int.toNat_of_nonneg z0] at this
      refine go_ixL (SqL.of (hp7.same _ _ (s6 _ _ (s2 _ _ g0)))) hat ?_
      walk_at "go"
      refine ⟨sz1000 (by show 1 ≤ 100000; decide), fun p2 f2 => ?_⟩
      have h7 := hp7.same _ _ (s6 _ _ h2)
      have g7 := hp7.same _ _ g6
      have lt : ((sts u).take at'.toNat).length ≤ 30 := by rw [List.length_take, List.length_map]; omega
      refine go_plusL (xs := (sts u).take at'.toNat) (ys := [.str x]) (by walk_at "rd") (by walk_at "rd") (sz1000 (by show _ + 1 ≤ _; omega)) fun p3 f3 => ?_
      walk_at "go"
      refine go_slL (xs := sts u) (SqL.of (by walk_at "rd")) fun p4 f4 => ?_
      rw [cut_drop a0]
      have ld : ((sts u).drop at'.toNat).length ≤ 30 := by rw [List.length_drop, List.length_map]; omega
      refine go_plusL (xs := (sts u).take at'.toNat ++ [.str x]) (ys := (sts u).drop at'.toNat) (by walk_at "rd") (by walk_at "rd") (sz1000 (by rw [List.length_append]; show _ + 1 + _ ≤ _; omega)) fun p5 f5 => ?_
      have sA := ((Same.new (o := .lst [.str x]) f2).trans (Same.new (o := .lst ((sts u).take at'.toNat ++ [.str x])) f3)).trans (Same.new (o := .lst ((sts u).drop at'.toNat)) f4)
      obtain ⟨R8, hp8, s8, n8⟩ := hp7.grow (sA.trans (Same.new (o := .lst ((sts u).take at'.toNat ++ [.str x] ++ (sts u).drop at'.toNat)) f5))
      have g8 := n8 p5 _ (sA.free f5) upd_same
      rw [ins_sts] at g8
      refine next p5 (ins u x at'.toNat) R8 _ _ _ _ _ _ hp8 (s6.trans s8) g8 ⟨?_, fun y hy => ?_⟩
      · unfold ins
        rw [List.length_append, List.length_cons, List.length_take, List.length_drop]
        have := hu.1
        omega
      · unfold ins at hy
        rcases List.mem_append.mp hy with hy | hy
        · exact hu.2 y (List.mem_of_mem_take hy)
        · rcases List.mem_cons.mp hy with hy | hy
          · rw [hy]; exact strange_short x (List.mem_of_getElem? hx)
          · exact hu.2 y (List.mem_of_mem_drop hy)
    walk_at "go"
    refine ite2 (fun _ => ?_) (fun _ => ?_)
    · -- a word taken out
      walk_at "go"
      refine go_slL (SqL.of h5) fun p1 f1 => ?_
      rw [cut_take a0]
      walk_at "go"
      refine go_slL (xs := sts u) (SqL.of (by walk_at "rd")) fun p2 f2 => ?_
      rw [cut_drop (by omega)]
      refine go_plusL (xs := (sts u).take at'.toNat) (ys := (sts u).drop (at' + 1).toNat) (by walk_at "rd") (by walk_at "rd") (sz1000 (by rw [List.length_take, List.length_drop, List.length_map]; omega)) fun p3 f3 => ?_
      have sA := (Same.new (o := .lst ((sts u).take at'.toNat)) f1).trans (Same.new (o := .lst ((sts u).drop (at' + 1).toNat)) f2)
      obtain ⟨R8, hp8, s8, n8⟩ := hp5.grow (sA.trans (Same.new (o := .lst ((sts u).take at'.toNat ++ (sts u).drop (at' + 1).toNat)) f3))
      have g8 := n8 p3 _ (sA.free f3) upd_same
      walk_at "st"
      refine next p3 (u.take at'.toNat ++ u.drop (at' + 1).toNat) R8 _ _ _ _ _ _ hp8 s8 (by rw [g8]; simp [sts]) ⟨?_, fun y hy => ?_⟩
      · rw [List.length_append, List.length_take, List.length_drop]
        have := hu.1
        omega
      · rcases List.mem_append.mp hy with hy | hy
        · exact hu.2 y (List.mem_of_mem_take hy)
        · exact hu.2 y (List.mem_of_mem_drop hy)
    walk_at "go"
    refine go_lenL (SqL.of h5) ?_
    walk_at "go"
    rw [List.length_map]
    refine ite2 (fun q1 => ?_) (fun _ => ?_)
    · have b1 : at' < (u.length : Int) := of_decide_eq_true q1
      walk_at "go"
      refine go_lenL (SqL.of h5) ?_
      walk_at "go"
      rw [List.length_map]
      refine ite2 (fun q2 => ?_) (fun _ => ?_)
      · have b2 : mt < (u.length : Int) := of_decide_eq_true q2
        obtain ⟨x, hx⟩ : ∃ x, u[at'.toNat]? = some x := ⟨_, List.getElem?_eq_getElem (by omega)⟩
        obtain ⟨y, hy⟩ : ∃ y, u[mt.toNat]? = some y := ⟨_, List.getElem?_eq_getElem (by omega)⟩
        have hax : atI (sts u) at' = some (.str x) := by
          have := atI_nat (xs := sts u) (j := at'.toNat) (v := .str x) (by rw [List.getElem?_map, hx]; rfl)
          rwa [Int.toNat_of_nonneg a0] at this
        have hay : atI (sts u) mt = some (.str y) := by
          have := atI_nat (xs := sts u) (j := mt.toNat) (v := .str y) (by rw [List.getElem?_map, hy]; rfl)
          rwa [Int.toNat_of_nonneg m0] at this
        -- a word put in the place of another one
        have put : ∀ (σ : L2.St) (H' : Hp) (Q' : VK) (ti : Nat) (tw : TE) (p : Addr) (u : List Str) (n : Int) (x : Str), σ[1]? = some (some (.ref p)) → σ[ti]? = some (some (.int n)) → 0 ≤ n → H' p = some (.lst (sts u)) → u.length ≤ 50 → (∀ H1 Q1, Same H' H1 → Q1 (.str x) H1 → tw σ H1 Q1) →
            (∀ p' H2, Same H' H2 → H' p' = none → H2 p' = some (.lst (sts (u.take n.toNat ++ x :: u.drop (n + 1).toNat))) → Q' (.ref p') H2) →
            tOp rPlus (tOp rPlus (tSl (rSlL K) (tVar 1) tNoPart (tPart (tVar ti))) (tLst (tCons tw tNil))) (tSl (rSlL K) (tVar 1) (tPart (tOp rPlus (tVar ti) (tC (.int 1)))) tNoPart) σ H' Q' := by
          intro σ H' Q' ti tw p u n x v1 v2 n0 hH ul hw k'
          walk_at "go"
          refine go_slL (SqL.of hH) fun p1 f1 => ?_
          rw [cut_take n0]
          walk_at "go"
          refine hw _ _ (Same.new f1) ?_
          walk_at "go"
          refine ⟨sz1000 (by show 1 ≤ 100000; decide), fun p2 f2 => ?_⟩
          refine go_plusL (xs := (sts u).take n.toNat) (ys := [.str x]) (by walk_at "rd") (by walk_at "rd") (sz1000 (by rw [List.length_take, List.length_map]; show _ + 1 ≤ _; omega)) fun p3 f3 => ?_
          walk_at "go"
          refine go_slL (xs := sts u) (SqL.of (by walk_at "rd")) fun p4 f4 => ?_
          rw [cut_drop (by omega)]
          refine go_plusL (xs := (sts u).take n.toNat ++ [.str x]) (ys := (sts u).drop (n + 1).toNat) (by walk_at "rd") (by walk_at "rd") (sz1000 (by rw [List.length_append, List.length_take, List.length_drop, List.length_map]; show _ + 1 + _ ≤ _; omega)) fun p5 f5 => ?_
          have sA := (((Same.new (o := .lst ((sts u).take n.toNat)) f1).trans (Same.new (o := .lst [.str x]) f2)).trans (Same.new (o := .lst ((sts u).take n.toNat ++ [.str x])) f3)).trans (Same.new (o := .lst ((sts u).drop (n + 1).toNat)) f4)
          exact k' p5 _ (sA.trans (Same.new f5)) (sA.free f5) (by rw [upd_same]; simp [sts])
        have short : ∀ {u : List Str} {n : Int} {x : Str}, shortAll (20 + i) 10 u → 0 ≤ n → n < (u.length : Int) → x.length ≤ 10 → shortAll (20 + i) 10 (u.take n.toNat ++ x :: u.drop (n + 1).toNat) ∧ (u.take n.toNat ++ x :: u.drop (n + 1).toNat).length = u.length := by
          intro u n x hu n0 n1 hx
          have e : (u.take n.toNat ++ x :: u.drop (n + 1).toNat).length = u.length := by
            rw [List.length_append, List.length_cons, List.length_take, List.length_drop]
            omega
          refine ⟨⟨by rw [e]; exact hu.1, fun y hy => ?_⟩, e⟩
          rcases List.mem_append.mp hy with hy | hy
          · exact hu.2 y (List.mem_of_mem_take hy)
          · rcases List.mem_cons.mp hy with hy | hy
            · rw [hy]; exact hx
            · exact hu.2 y (List.mem_of_mem_drop hy)
        refine go_seq (go_asg (go_op (go_var rfl (go_var rfl (go_ixL (SqL.of h5) hax ?_)))))
        walk_at "st"
        refine go_asg (put _ _ _ 5 _ p u at' y rfl rfl a0 h5 (by omega) ?_ ?_)
        · exact fun H1 Q1 s1 q => go_op (go_var rfl (go_var rfl (go_ixL (SqL.of (s1 _ _ h5)) hay q)))
        intro p6 H6 s6 f6 h6
        obtain ⟨R6, hp6, t6, n6⟩ := hp5.grow s6
        have g6 := n6 _ _ f6 h6
        have sh1 := short hu a0 b1 (hu.2 y (List.mem_of_getElem? hy))
        walk_at "st"
        refine go_asg (put _ _ _ 6 _ p6 _ mt x rfl rfl m0 h6 (by rw [sh1.2]; omega) ?_ ?_)
        · exact fun H1 Q1 s1 q => go_var rfl q
        intro p7 H7 s7 f7 h7
        obtain ⟨R7, hp7, t7, n7⟩ := hp6.grow s7
        have g7 := n7 _ _ f7 h7
        have sh2 := short sh1.1 m0 (by rw [sh1.2]; exact b2) (hu.2 x (List.mem_of_getElem? hx))
        walk_at "st"
        exact next p7 _ R7 H7 _ _ _ _ _ hp7 (t6.trans t7) g7 ⟨Nat.le_trans sh2.1.1 (by omega), sh2.1.2⟩
      · walk_at "go"
        exact next p u R2 _ _ _ _ _ _ hp5 (Same.refl _) h2 ⟨Nat.le_trans hu.1 (by omega), hu.2⟩
    · walk_at "go"
      exact next p u R2 _ _ _ _ _ _ hp5 (Same.refl _) h2 ⟨Nat.le_trans hu.1 (by omega), hu.2⟩
  · rintro σ H2 ⟨p, u, R2, a, b, c, d, e, rfl, hp2, s2, h2, hu⟩
    walk_at "go"
    exact k p u R2 H2 ⟨Nat.le_trans hu.1 (by omega), hu.2⟩ (s0.trans s2) hp2 h2

/-! ### the law -/
def J (ws : List Str) : Str := Txt.join " " ws
def sW (z : Str) : Bool := isW (Txt.split z " ")
def sC (z : Str) : Bool := isC (Txt.split z " ")
def sR (z : Str) : Bool := isR (Txt.split z " ")
def okw (x : Str) : Bool := decide (x.length ≤ 10) && x.cps.toList.all (fun c => decide (c ≠ 32))
theorem gW : (wAll.all fun ws => isW ws && (ws.all okw && decide (ws.length ≤ 6))) = true := by decide +kernel
theorem gC : (cAll.all fun ws => isC ws && (ws.all okw && decide (ws.length ≤ 6))) = true := by decide +kernel
theorem gR : (rAll.all fun ws => isR ws && (ws.all okw && decide (ws.length ≤ 6))) = true := by decide +kernel
theorem joinL_snoc {S x : List Nat} : ∀ {l : List (List Nat)}, l ≠ [] → TL.joinL S (l ++ [x]) = TL.joinL S l ++ S ++ x
  | [], h => absurd rfl h
  | [p], _ => by
    show p ++ (S ++ x) = p ++ S ++ x
    rw [List.append_assoc]
  | p :: q :: r, _ => by
    have ih := joinL_snoc (S := S) (x := x) (l := q :: r) (by simp)
    show p ++ (S ++ TL.joinL S (q :: r ++ [x])) = (p ++ (S ++ TL.joinL S (q :: r))) ++ S ++ x
    rw [ih]
    simp only [List.append_assoc]
theorem tlJ (ws : List Str) : TL.tl (J ws) = TL.joinL [32] (ws.map TL.tl) := by
  unfold J
  rw [TL.join_eq, TL.tl_join]
  rfl
theorem J_snoc {ws : List Str} (h : ws ≠ []) (x : Str) : J (ws ++ [x]) = J ws ++ (" " ++ x) := by
  refine TL.ext_tl ?_
  rw [TL.tl_append, TL.tl_append, tlJ, tlJ, List.map_append, List.map_singleton, joinL_snoc (by simpa using h)]
  simp only [List.append_assoc]
  rfl
theorem J_cons {ws : List Str} (h : ws ≠ []) : J (("" : Str) :: ws) = " " ++ J ws := by
  refine TL.ext_tl ?_
  rw [TL.tl_append, tlJ, tlJ]
  cases ws with
  | nil => exact absurd rfl h
  | cons p r => rfl
theorem J_last {ws : List Str} {l : Str} (x : Str) : J (ws ++ [l ++ x]) = J (ws ++ [l]) ++ x := by
  refine TL.ext_tl ?_
  rw [TL.tl_append, tlJ, tlJ, List.map_append, List.map_append, List.map_singleton, List.map_singleton, TL.tl_append]
  by_cases h : ws = []
  · subst h; rfl
  · rw [joinL_snoc (by simpa using h), joinL_snoc (by simpa using h)]
    simp only [List.append_assoc]
theorem splitJ {ws : List Str} (h : ws ≠ []) (hb : ∀ x ∈ ws, 32 ∉ TL.tl x) : Txt.split (J ws) " " = ws := TL.split_join (y := " ") (s := 32) (S := []) rfl (by decide +kernel) h hb
theorem kn_no {ks ws : List Str} {x : Str} (hx : x ∈ ws) (hk : x ∉ ks) : kn ks ws = false := by
  unfold kn
  rw [Bool.and_eq_false_iff]
  refine .inr (List.all_eq_false.mpr ⟨x, hx, by simpa using hk⟩)
theorem kn_dup {ks ws : List Str} (h : ¬ ws.Nodup) : kn ks ws = false := by unfold kn; simp [h]
theorem isW_no {ws : List Str} (h : kn wWords ws = false) : isW ws = false := by unfold isW; rw [h]; rfl
theorem isC_no {ws : List Str} (h : kn cWords ws = false) : isC ws = false := by unfold isC; rw [h]; rfl
theorem isR_no {ws : List Str} (h : kn rWords ws = false) : isR ws = false := by unfold isR; rw [h]; rfl
theorem isW_has {ws : List Str} (h : isW ws = true) : ("change" : Str) ∈ ws := by
  unfold isW allIn at h
  simp only [Bool.and_eq_true, List.all_eq_true, decide_eq_true_eq] at h
  exact h.2.1 _ List.mem_cons_self
theorem isC_has {ws : List Str} (h : isC ws = true) : ("look" : Str) ∈ ws := by
  unfold isC allIn at h
  simp only [Bool.and_eq_true, List.all_eq_true, decide_eq_true_eq] at h
  exact h.2.1 _ List.mem_cons_self
theorem isR_has {ws : List Str} (h : isR ws = true) : ("page" : Str) ∈ ws ∧ ("entry" : Str) ∈ ws := by
  unfold isR allIn at h
  simp only [Bool.and_eq_true, List.all_eq_true, decide_eq_true_eq] at h
  exact ⟨h.2.1 _ (by simp), h.2.1 _ (by simp)⟩
theorem nl_no : ∀ x : Str, (x ++ ("\n" : Str)) ∉ rWords := by
  intro x hx
  have h2 : ∀ y ∈ rWords, (TL.tl y).getLast? ≠ some 10 := by decide +kernel
  refine h2 _ hx ?_
  rw [TL.tl_append]
  show (TL.tl x ++ [10]).getLast? = some 10
  simp
theorem sum_short : ∀ {ws : List Str} {m : Nat}, (∀ x ∈ ws, x.length ≤ m) → (ws.map (·.length)).sum ≤ ws.length * m
  | [], _, _ => by simp
  | x :: r, m, h => by
    have ih := sum_short (ws := r) (m := m) fun y hy => h y (List.mem_cons_of_mem _ hy)
    have hx := h x List.mem_cons_self
    rw [List.map_cons, List.sum_cons, List.length_cons, Nat.add_mul]
    omega
theorem join_short {ws : List Str} {n m : Nat} (h : shortAll n m ws) : (J ws).length ≤ n * m + n := by
  unfold J Txt.join
  rw [size_glued]
  have h1 := sum_short h.2
  have h2 : ws.length * m ≤ n * m := Nat.mul_le_mul_right m h.1
  have h3 : ((" " : Str)).length = 1 := rfl
  rw [h3]
  have := h.1
  omega
theorem join_fits {ws : List Str} (h : shortAll 30 10 ws) : (ws.map (·.length)).sum + ws.length * ((" " : Str)).length ≤ 16777216 := by
  have h1 := sum_short h.2
  have h3 : ((" " : Str)).length = 1 := rfl
  rw [h3]
  have := h.1
  omega
structure GP (k : Nat) (ws : List Str) : Prop where
  w : sW (J ws) = decide (k = 0)
  c : sC (J ws) = decide (k = 1)
  r : sR (J ws) = decide (k = 2)
  w1 : sW (J ws ++ " ") = false
  c1 : sC (" " ++ J ws) = false
  r1 : sR (J ws ++ "\n") = false
  r2 : sR (J ws ++ " page") = false
  sh : shortAll 20 10 ws
/-- a good order: all that the law asks of it -/
theorem GP.of {k : Nat} {ws : List Str} (hw : isW ws = decide (k = 0)) (hc : isC ws = decide (k = 1)) (hr : isR ws = decide (k = 2)) (hn : ("change" : Str) ∈ ws ∨ ("look" : Str) ∈ ws ∨ ("page" : Str) ∈ ws) (hl : ws.length ≤ 6) (ok : ws.all okw = true) : GP k ws := by
  have ne : ws ≠ [] := by rintro rfl; simp at hn
  have okx : ∀ x ∈ ws, x.length ≤ 10 ∧ 32 ∉ TL.tl x := fun x hx => by
    have := List.all_eq_true.mp ok x hx
    unfold okw at this
    simp only [Bool.and_eq_true, decide_eq_true_eq, List.all_eq_true] at this
    exact ⟨this.1, fun z => this.2 32 z rfl⟩
  have sp := splitJ ne fun x hx => (okx x hx).2
  have e1 : (J ws ++ " ") = J (ws ++ [("" : Str)]) := by rw [J_snoc ne]; rfl
  have e2 : (J ws ++ " page") = J (ws ++ [("page" : Str)]) := by rw [J_snoc ne]; rfl
  have nb : ∀ {x : Str}, 32 ∉ TL.tl x → ∀ y ∈ ws ++ [x], 32 ∉ TL.tl y := fun hx y hy => by
    rcases List.mem_append.mp hy with q | q
    · exact (okx y q).2
    · rw [List.mem_singleton.mp q]; exact hx
  obtain ⟨i, l, rfl⟩ : ∃ i l, ws = i ++ [l] := ⟨_, _, (List.dropLast_concat_getLast ne).symm⟩
  refine ⟨?_, ?_, ?_, ?_, ?_, ?_, ?_, ⟨Nat.le_trans hl (by decide), fun x hx => (okx x hx).1⟩⟩
  · unfold sW; rw [sp]; exact hw
  · unfold sC; rw [sp]; exact hc
  · unfold sR; rw [sp]; exact hr
  · unfold sW
    rw [e1, splitJ (by simp) (nb (by decide +kernel))]
    exact isW_no (kn_no (x := "") (by simp) (by decide +kernel))
  · unfold sC
    rw [← J_cons ne, splitJ (by simp) (fun y hy => ?_)]
    · exact isC_no (kn_no (x := "") List.mem_cons_self (by decide +kernel))
    · rcases List.mem_cons.mp hy with q | q
      · rw [q]; decide +kernel
      · exact (okx y q).2
  · unfold sR
    rw [← J_last, splitJ (by simp) (fun y hy => ?_)]
    · exact isR_no (kn_no (x := l ++ ("\n" : Str)) (by simp) (nl_no l))
    · rcases List.mem_append.mp hy with q | q
      · exact (okx y (List.mem_append_left _ q)).2
      · rw [List.mem_singleton.mp q, TL.tl_append]
        intro z
        rcases List.mem_append.mp z with z | z
        · exact (okx l (by simp)).2 z
        · revert z; decide +kernel
  · unfold sR
    rw [e2, splitJ (by simp) (nb (by decide +kernel))]
    rcases hn with h | h | h
    · exact isR_no (kn_no (x := "change") (List.mem_append_left _ h) (by decide +kernel))
    · exact isR_no (kn_no (x := "look") (List.mem_append_left _ h) (by decide +kernel))
    · refine isR_no (kn_dup fun nd => ?_)
      rw [List.nodup_append] at nd
      exact nd.2.2 _ h _ List.mem_cons_self rfl
theorem GP.w0 {ws : List Str} (h : ws ∈ wAll) : GP 0 ws := by
  have := List.all_eq_true.mp gW ws h
  rw [Bool.and_eq_true, Bool.and_eq_true] at this
  have m := isW_has this.1
  refine GP.of (by rw [this.1]; rfl) (isC_no (kn_no m (by decide +kernel))) (isR_no (kn_no m (by decide +kernel))) (.inl m) (of_decide_eq_true this.2.2) this.2.1
theorem GP.c0 {ws : List Str} (h : ws ∈ cAll) : GP 1 ws := by
  have := List.all_eq_true.mp gC ws h
  rw [Bool.and_eq_true, Bool.and_eq_true] at this
  have m := isC_has this.1
  refine GP.of (isW_no (kn_no m (by decide +kernel))) (by rw [this.1]; rfl) (isR_no (kn_no m (by decide +kernel))) (.inr (.inl m)) (of_decide_eq_true this.2.2) this.2.1
theorem GP.r0 {ws : List Str} (h : ws ∈ rAll) : GP 2 ws := by
  have := List.all_eq_true.mp gR ws h
  rw [Bool.and_eq_true, Bool.and_eq_true] at this
  have m := (isR_has this.1).1
  refine GP.of (isW_no (kn_no m (by decide +kernel))) (isC_no (kn_no m (by decide +kernel))) (by rw [this.1]; rfl) (.inr (.inr m)) (of_decide_eq_true this.2.2) this.2.1

def b3 (a b c : Bool) : List V := [.bl a, .bl b, .bl c]
theorem b3_ok (a b c : Bool) : (b3 a b c).all okV = true := rfl
theorem ss_of {f : List Str → Bool} {z : Str} {H : Hp} {Q : VK} {E : XK} (hz : z.length ≤ 900) (q : ∀ H', Same H H' → Q (.bl (f (Txt.split z " "))) H') : sp_is f K ([.str z] ++ []) H Q E := ⟨_, rfl, .inl ⟨z, rfl, hz, q⟩⟩
def sp_law (K : PySem.W.Frag) : Sp := fun vs H Q _ => ∃ (a : Addr) (ns : List Int), vs = [.ref a] ∧ SqL K H a (ns.map V.int) ∧ ∀ H', Q (.bl true) H'
theorem pu_law {H : Hp} {vs : List V} {Q : VK} {E : XK} (h : sp_law K vs H Q E) :
    t_law K (sp_is isW K) (sp_is isC K) (sp_is isR K) (sp_pot K) sp_draw (sp_words wAll) (sp_words cAll) (sp_words rAll) (sp_law_is lawW) (sp_law_is lawC) (sp_law_is lawR) sp_spoilt { nx := fun _ H' => Q .non H', rt := Q } (start N_law vs) H := by
  obtain ⟨a, ns, rfl, hS, k⟩ := h
  unfold t_law
  walk_at "go"
  refine ⟨a, ns, rfl, hS, fun pot H1 f1 s1 hp1 => ?_⟩
  walk_at "go"
  refine ⟨sz1000 (by decide), fun o ho => ?_⟩
  obtain ⟨R0, hp0, s0, n0⟩ := hp1.grow (Same.new (o := .lst []) ho)
  have g0 : R0 o = some (.lst (sts [])) := n0 _ _ ho upd_same
  walk_at "go"
  refine go_rng1 (by decide) (by decide) ?_
  refine for_range (lo := 0) (n := 4) (fun i σ H' => ∃ (p : Addr) (u : List Str) (R' : Hp) (v3 v4 v5 v6 : Option V), σ = [some (.ref a), some (.ref pot), some (.ref p), v3, v4, v5, v6, none] ∧ PotAt pot R' H' ∧ R' p = some (.lst (sts u)))
    ⟨o, [], R0, none, none, none, none, rfl, hp0, g0⟩ ?_ ?_
  · rintro i σ H2 hi ⟨p, u, R2, v3, v4, v5, v6, rfl, hp2, h2⟩
    walk_at "go"
    refine ⟨pot, _, R2, rfl, by decide, by decide, hp2, fun kd H3 k0 k1 hp3 => ?_⟩
    refine go_name ?_
    with_reducible refine go_cut (fun σ' H' => ∃ (p : Addr) (u : List Str) (R' : Hp), σ' = [some (.ref a), some (.ref pot), some (.ref p), some (.int (0 + i)), some (.int kd), v5, v6, none] ∧ PotAt pot R' H' ∧ R' p = some (.lst (sts u)) ∧ GP kd.toNat u) (fun key => ?_) ?_
    · walk_at "go"
      refine ite2 (fun q => ?_) (fun q => ?_)
      · have e : kd = 0 := of_decide_eq_true q
        walk_at "go"
        refine ⟨pot, R2, rfl, hp3, fun p4 u4 R4 H4 hu4 _ hp4 h4 => ?_⟩
        walk_at "st"
        exact key _ _ ⟨p4, u4, R4, rfl, hp4, h4, by rw [e]; exact GP.w0 hu4⟩
      walk_at "go"
      refine ite2 (fun q2 => ?_) (fun q2 => ?_)
      · have e : kd = 1 := of_decide_eq_true q2
        walk_at "go"
        refine ⟨pot, R2, rfl, hp3, fun p4 u4 R4 H4 hu4 _ hp4 h4 => ?_⟩
        walk_at "st"
        exact key _ _ ⟨p4, u4, R4, rfl, hp4, h4, by rw [e]; exact GP.c0 hu4⟩
      · have e1 : ¬ kd = 0 := fun z => q (decide_eq_true z)
        have e2 : ¬ kd = 1 := fun z => q2 (decide_eq_true z)
        have e : kd = 2 := by omega
        walk_at "go"
        refine ⟨pot, R2, rfl, hp3, fun p4 u4 R4 H4 hu4 _ hp4 h4 => ?_⟩
        walk_at "st"
        exact key _ _ ⟨p4, u4, R4, rfl, hp4, h4, by rw [e]; exact GP.r0 hu4⟩
    · rintro σ4 H4 ⟨p4, u4, R4, rfl, hp4, h4, gp⟩
      have jl : (J u4).length ≤ 220 := join_short gp.sh
      have sh : shortAll 30 10 u4 := ⟨Nat.le_trans gp.sh.1 (by decide), gp.sh.2⟩
      walk_at "go"
      refine go_joinL (ys := u4) (SqL.of (hp4.same _ _ h4)) (join_fits sh) ?_
      walk_at "go"
      refine ss_of (f := isW) (z := J u4) (by omega) fun H5 t5 => ?_
      walk_at "go"
      refine ss_of (f := isC) (z := J u4) (by omega) fun H6 t6 => ?_
      walk_at "go"
      refine ss_of (f := isR) (z := J u4) (by omega) fun H7 t7 => ?_
      walk_at "go"
      refine ⟨sz1000 (by show 3 ≤ 100000; decide), fun l1 f1 => ?_⟩
      walk_at "go"
      refine ⟨sz1000 (by show 3 ≤ 100000; decide), fun l2 f2 => ?_⟩
      have eW : isW (Txt.split (J u4) " ") = decide (kd = 0) := by
        refine gp.w.trans (decide_eq_decide.mpr ⟨fun h => ?_, fun h => ?_⟩) <;> omega
      have eC : isC (Txt.split (J u4) " ") = decide (kd = 1) := by
        refine gp.c.trans (decide_eq_decide.mpr ⟨fun h => ?_, fun h => ?_⟩) <;> omega
      have eR : isR (Txt.split (J u4) " ") = decide (kd = 2) := by
        refine gp.r.trans (decide_eq_decide.mpr ⟨fun h => ?_, fun h => ?_⟩) <;> omega
      rw [eW, eC, eR] at f2 ⊢
      have sA := (((t5.trans t6).trans t7).trans (Same.new (o := .lst (b3 (decide (kd = 0)) (decide (kd = 1)) (decide (kd = 2)))) f1)).trans (Same.new (o := .lst (b3 (decide (kd = 0)) (decide (kd = 1)) (decide (kd = 2)))) f2)
      refine go_unLL (xs := b3 (decide (kd = 0)) (decide (kd = 1)) (decide (kd = 2))) (ys := b3 (decide (kd = 0)) (decide (kd = 1)) (decide (kd = 2))) (SqL.of (by walk_at "rd")) (SqL.of upd_same) (b3_ok _ _ _) (b3_ok _ _ _) ?_
      rw [eqL_refl (b3_ok _ _ _)]
      obtain ⟨R8, hp8, s8, _⟩ := hp4.grow sA
      have h8 := s8 _ _ h4
      walk_at "go"
      refine ⟨pot, p4, u4, R8, rfl, hp8, h8, gp.sh, fun p9 u9 R9 H9 sh9 s9 hp9 h9 => ?_⟩
      have jl9 : (J u9).length ≤ 330 := join_short sh9
      walk_at "go"
      refine go_joinL (ys := u9) (SqL.of (hp9.same _ _ h9)) (join_fits sh9) ?_
      walk_at "go"
      refine ss_of (f := isW) (z := J u9) (by omega) fun HA tA => ?_
      walk_at "go"
      refine ⟨J u9, rfl, by omega, fun HB tB => ?_⟩
      walk_at "go"
      rw [lawW_is, bne_self_eq_false]
      walk_at "go"
      refine ss_of (f := isC) (z := J u9) (by omega) fun HC tC => ?_
      walk_at "go"
      refine ⟨J u9, rfl, by omega, fun HD tD => ?_⟩
      walk_at "go"
      rw [lawC_is, bne_self_eq_false]
      walk_at "go"
      refine ss_of (f := isR) (z := J u9) (by omega) fun HE tE => ?_
      walk_at "go"
      refine ⟨J u9, rfl, by omega, fun HF tF => ?_⟩
      walk_at "go"
      rw [lawR_is, bne_self_eq_false]
      walk_at "go"
      refine go_plusS (sz1000 (by show (J u4).length + 1 ≤ _; omega)) ?_
      walk_at "go"
      refine ss_of (f := isW) (z := J u4 ++ " ") (by rw [Str.length_append]; show _ + 1 ≤ _; omega) fun HG tG => ?_
      rw [show isW (Txt.split (J u4 ++ " ") " ") = false from gp.w1]
      walk_at "go"
      refine go_plusS (sz1000 (by show 1 + (J u4).length ≤ _; omega)) ?_
      walk_at "go"
      refine ss_of (f := isC) (z := " " ++ J u4) (by rw [Str.length_append]; show 1 + _ ≤ _; omega) fun HH tH => ?_
      rw [show isC (Txt.split (" " ++ J u4) " ") = false from gp.c1]
      walk_at "go"
      refine go_plusS (sz1000 (by show (J u4).length + 1 ≤ _; omega)) ?_
      walk_at "go"
      refine ss_of (f := isR) (z := J u4 ++ "\n") (by rw [Str.length_append]; show _ + 1 ≤ _; omega) fun HI tI => ?_
      rw [show isR (Txt.split (J u4 ++ "\n") " ") = false from gp.r1]
      walk_at "go"
      refine go_plusS (sz1000 (by show (J u4).length + 5 ≤ _; omega)) ?_
      walk_at "go"
      refine ss_of (f := isR) (z := J u4 ++ " page") (by rw [Str.length_append]; show _ + 5 ≤ _; omega) fun HJ tJ => ?_
      rw [show isR (Txt.split (J u4 ++ " page") " ") = false from gp.r2]
      walk_at "go"
      have sB := ((((((((tA.trans tB).trans tC).trans tD).trans tE).trans tF).trans tG).trans tH).trans tI).trans tJ
      obtain ⟨RA, hpA, sRA, _⟩ := hp9.grow sB
      exact ⟨p4, u4, RA, _, _, _, _, rfl, hpA, sRA _ _ (s9 _ _ h8)⟩
  · rintro σ H2 ⟨p, u, R2, v3, v4, v5, v6, rfl, hp2, h2⟩
    have h2' := hp2.same _ _ h2
    walk_at "go"
    refine go_listL (xs := sts u) (SqL.of h2') fun q1 f1 => ?_
    walk_at "go"
    refine go_tupleL (xs := sts u) (SqL.of (by walk_at "rd")) fun q2 f2 => ?_
    walk_at "go"
    refine ⟨sz1000 (by show 7 ≤ 100000; decide), fun q3 f3 => ?_⟩
    have sA := ((Same.new (o := .lst (sts u)) f1).trans (Same.new (o := .tup (sts u)) f2)).trans (Same.new (o := .lst [.non, .bl true, .int 5, .ref q1, .ref q2, .str "", .str " "]) f3)
    obtain ⟨R3, hp3, s3, n3⟩ := hp2.grow sA
    have gq1 := n3 q1 (.lst (sts u)) f1 (by walk_at "rd")
    have gq2 := n3 q2 (.tup (sts u)) ((Same.new (o := .lst (sts u)) f1).free f2) (by walk_at "rd")
    have gq3 := n3 q3 _ (((Same.new (o := .lst (sts u)) f1).trans (Same.new (o := .tup (sts u)) f2)).free f3) upd_same
    walk_at "go"
    refine ⟨pot, _, R3, rfl, by decide, by decide, hp3, fun r H4 r0 r1 hp4 => ?_⟩
    obtain ⟨v, hv⟩ : ∃ v, ([.non, .bl true, .int 5, .ref q1, .ref q2, .str "", .str " "] : List V)[r.toNat]? = some v := ⟨_, List.getElem?_eq_getElem (by show r.toNat < 7; omega)⟩
    have hat : atI ([.non, .bl true, .int 5, .ref q1, .ref q2, .str "", .str " "] : List V) r = some v := by
      have := atI_nat hv
      rwa [Int.toNat_of_nonneg r0] at this
    refine go_ixL (SqL.of (hp4.same _ _ gq3)) hat ?_
    -- whatever it is, the three tests tell False
    have no : ∀ (f : List Str → Bool), f (Txt.split "" " ") = false → f (Txt.split " " " ") = false → ∀ (H5 : Hp) (Q5 : VK) (E5 : XK), Same H4 H5 → (∀ H', Same H5 H' → Q5 (.bl false) H') → sp_is f K ([v] ++ []) H5 Q5 E5 := by
      intro f e1 e2 H5 Q5 E5 s5 q
      have hm := List.mem_of_getElem? hv
      simp only [List.mem_cons, List.not_mem_nil, or_false] at hm
      rcases hm with rfl | rfl | rfl | rfl | rfl | rfl | rfl
      · exact ⟨_, rfl, .inr ⟨NotStr.non, q⟩⟩
      · exact ⟨_, rfl, .inr ⟨NotStr.bl, q⟩⟩
      · exact ⟨_, rfl, .inr ⟨NotStr.int, q⟩⟩
      · exact ⟨_, rfl, .inr ⟨NotStr.lst (s5 _ _ (hp4.same _ _ gq1)), q⟩⟩
      · exact ⟨_, rfl, .inr ⟨NotStr.tup (s5 _ _ (hp4.same _ _ gq2)), q⟩⟩
      · exact ss_of (by decide) fun H' s' => by rw [e1]; exact q H' s'
      · exact ss_of (by decide) fun H' s' => by rw [e2]; exact q H' s'
    walk_at "go"
    refine no isW (by decide +kernel) (by decide +kernel) _ _ _ (Same.refl _) fun H5 t5 => ?_
    walk_at "go"
    refine no isC (by decide +kernel) (by decide +kernel) _ _ _ t5 fun H6 t6 => ?_
    walk_at "go"
    refine no isR (by decide +kernel) (by decide +kernel) _ _ _ (t5.trans t6) fun H7 t7 => ?_
    walk_at "go"
    exact k H7

theorem all_mk {l : PySem.W.OpenLaw} {w : World} {K : PySem.W.Frag} {h : Heap} {mg : Str → Option Value} {fa : Addr} (X : K.In h) (G : h.Ns mainGlobals mg) (hfa : mg "law" = some (.ref fa))
    {f_is_ahead : Addr} {od_is_ahead an_is_ahead : Option Addr} {sl_is_ahead : Array (Option Value)} {oc_is_ahead kV_is_ahead dc_is_ahead pm_is_ahead cd_is_ahead ct_is_ahead : Value}
    {f_is_locked_well : Addr} {od_is_locked_well an_is_locked_well : Option Addr} {sl_is_locked_well : Array (Option Value)} {oc_is_locked_well kV_is_locked_well dc_is_locked_well pm_is_locked_well cd_is_locked_well ct_is_locked_well : Value}
    {f_all_there : Addr} {od_all_there an_all_there : Option Addr} {sl_all_there : Array (Option Value)} {oc_all_there kV_all_there dc_all_there pm_all_there cd_all_there ct_all_there : Value}
    {f_words_of : Addr} {od_words_of an_words_of : Option Addr} {sl_words_of : Array (Option Value)} {oc_words_of kV_words_of dc_words_of pm_words_of cd_words_of ct_words_of : Value}
    {f_is_writer : Addr} {od_is_writer an_is_writer : Option Addr} {sl_is_writer : Array (Option Value)} {oc_is_writer kV_is_writer dc_is_writer pm_is_writer cd_is_writer ct_is_writer : Value}
    {f_is_cleaner : Addr} {od_is_cleaner an_is_cleaner : Option Addr} {sl_is_cleaner : Array (Option Value)} {oc_is_cleaner kV_is_cleaner dc_is_cleaner pm_is_cleaner cd_is_cleaner ct_is_cleaner : Value}
    {f_is_reader : Addr} {od_is_reader an_is_reader : Option Addr} {sl_is_reader : Array (Option Value)} {oc_is_reader kV_is_reader dc_is_reader pm_is_reader cd_is_reader ct_is_reader : Value}
    {f__law_pot : Addr} {od__law_pot an__law_pot : Option Addr} {sl__law_pot : Array (Option Value)} {oc__law_pot kV__law_pot dc__law_pot pm__law_pot cd__law_pot ct__law_pot : Value}
    {f__law_draw : Addr} {od__law_draw an__law_draw : Option Addr} {sl__law_draw : Array (Option Value)} {oc__law_draw kV__law_draw dc__law_draw pm__law_draw cd__law_draw ct__law_draw : Value}
    {f__law_put_in : Addr} {od__law_put_in an__law_put_in : Option Addr} {sl__law_put_in : Array (Option Value)} {oc__law_put_in kV__law_put_in dc__law_put_in pm__law_put_in cd__law_put_in ct__law_put_in : Value}
    {f__law_locked : Addr} {od__law_locked an__law_locked : Option Addr} {sl__law_locked : Array (Option Value)} {oc__law_locked kV__law_locked dc__law_locked pm__law_locked cd__law_locked ct__law_locked : Value}
    {f__law_writer_words : Addr} {od__law_writer_words an__law_writer_words : Option Addr} {sl__law_writer_words : Array (Option Value)} {oc__law_writer_words kV__law_writer_words dc__law_writer_words pm__law_writer_words cd__law_writer_words ct__law_writer_words : Value}
    {f__law_cleaner_words : Addr} {od__law_cleaner_words an__law_cleaner_words : Option Addr} {sl__law_cleaner_words : Array (Option Value)} {oc__law_cleaner_words kV__law_cleaner_words dc__law_cleaner_words pm__law_cleaner_words cd__law_cleaner_words ct__law_cleaner_words : Value}
    {f__law_reader_words : Addr} {od__law_reader_words an__law_reader_words : Option Addr} {sl__law_reader_words : Array (Option Value)} {oc__law_reader_words kV__law_reader_words dc__law_reader_words pm__law_reader_words cd__law_reader_words ct__law_reader_words : Value}
    {f__law_ahead : Addr} {od__law_ahead an__law_ahead : Option Addr} {sl__law_ahead : Array (Option Value)} {oc__law_ahead kV__law_ahead dc__law_ahead pm__law_ahead cd__law_ahead ct__law_ahead : Value}
    {f__law_fits : Addr} {od__law_fits an__law_fits : Option Addr} {sl__law_fits : Array (Option Value)} {oc__law_fits kV__law_fits dc__law_fits pm__law_fits cd__law_fits ct__law_fits : Value}
    {f__law_is_writer : Addr} {od__law_is_writer an__law_is_writer : Option Addr} {sl__law_is_writer : Array (Option Value)} {oc__law_is_writer kV__law_is_writer dc__law_is_writer pm__law_is_writer cd__law_is_writer ct__law_is_writer : Value}
    {f__law_is_cleaner : Addr} {od__law_is_cleaner an__law_is_cleaner : Option Addr} {sl__law_is_cleaner : Array (Option Value)} {oc__law_is_cleaner kV__law_is_cleaner dc__law_is_cleaner pm__law_is_cleaner cd__law_is_cleaner ct__law_is_cleaner : Value}
    {f__law_is_reader : Addr} {od__law_is_reader an__law_is_reader : Option Addr} {sl__law_is_reader : Array (Option Value)} {oc__law_is_reader kV__law_is_reader dc__law_is_reader pm__law_is_reader cd__law_is_reader ct__law_is_reader : Value}
    {f__law_spoilt : Addr} {od__law_spoilt an__law_spoilt : Option Addr} {sl__law_spoilt : Array (Option Value)} {oc__law_spoilt kV__law_spoilt dc__law_spoilt pm__law_spoilt cd__law_spoilt ct__law_spoilt : Value}
    {f_law : Addr} {od_law an_law : Option Addr} {sl_law : Array (Option Value)} {oc_law kV_law dc_law pm_law cd_law ct_law : Value}
    {a_WRITER_WORDS : Addr} {od_WRITER_WORDS : Option Addr} {nn_WRITER_WORDS : Nat} {sl_WRITER_WORDS : Array (Option Value)} {t0_WRITER_WORDS t1_WRITER_WORDS t2_WRITER_WORDS t3_WRITER_WORDS t4_WRITER_WORDS t5_WRITER_WORDS : Tok}
    {a_CLEANER_WORDS : Addr} {od_CLEANER_WORDS : Option Addr} {nn_CLEANER_WORDS : Nat} {sl_CLEANER_WORDS : Array (Option Value)} {t0_CLEANER_WORDS t1_CLEANER_WORDS t2_CLEANER_WORDS t3_CLEANER_WORDS t4_CLEANER_WORDS t5_CLEANER_WORDS : Tok}
    {a_READER_WORDS : Addr} {od_READER_WORDS : Option Addr} {nn_READER_WORDS : Nat} {sl_READER_WORDS : Array (Option Value)} {t0_READER_WORDS t1_READER_WORDS t2_READER_WORDS t3_READER_WORDS t4_READER_WORDS t5_READER_WORDS : Tok}
    (a_is_ahead : PySem.W.nsIn K mainGlobals "is_ahead" = some (some (.ref f_is_ahead)))
    (l_is_ahead : K.lookup f_is_ahead = some ⟨oc_is_ahead, od_is_ahead, .func (PySem.W.fnOf "is_ahead" "is_ahead" (defArgs s_is_ahead) (defBody s_is_ahead) (defScope s_is_ahead) .none kV_is_ahead dc_is_ahead pm_is_ahead an_is_ahead cd_is_ahead ct_is_ahead), sl_is_ahead⟩)
    (c_is_ahead : PySem.W.codeIn K cd_is_ahead "is_ahead" = true)
    (k_is_ahead : PySem.W.keepIn K (.ref f_is_ahead) = true)
    (a_is_locked_well : PySem.W.nsIn K mainGlobals "is_locked_well" = some (some (.ref f_is_locked_well)))
    (l_is_locked_well : K.lookup f_is_locked_well = some ⟨oc_is_locked_well, od_is_locked_well, .func (PySem.W.fnOf "is_locked_well" "is_locked_well" (defArgs s_is_locked_well) (defBody s_is_locked_well) (defScope s_is_locked_well) .none kV_is_locked_well dc_is_locked_well pm_is_locked_well an_is_locked_well cd_is_locked_well ct_is_locked_well), sl_is_locked_well⟩)
    (c_is_locked_well : PySem.W.codeIn K cd_is_locked_well "is_locked_well" = true)
    (k_is_locked_well : PySem.W.keepIn K (.ref f_is_locked_well) = true)
    (a_all_there : PySem.W.nsIn K mainGlobals "all_there" = some (some (.ref f_all_there)))
    (l_all_there : K.lookup f_all_there = some ⟨oc_all_there, od_all_there, .func (PySem.W.fnOf "all_there" "all_there" (defArgs s_all_there) (defBody s_all_there) (defScope s_all_there) .none kV_all_there dc_all_there pm_all_there an_all_there cd_all_there ct_all_there), sl_all_there⟩)
    (c_all_there : PySem.W.codeIn K cd_all_there "all_there" = true)
    (k_all_there : PySem.W.keepIn K (.ref f_all_there) = true)
    (a_words_of : PySem.W.nsIn K mainGlobals "words_of" = some (some (.ref f_words_of)))
    (l_words_of : K.lookup f_words_of = some ⟨oc_words_of, od_words_of, .func (PySem.W.fnOf "words_of" "words_of" (defArgs s_words_of) (defBody s_words_of) (defScope s_words_of) .none kV_words_of dc_words_of pm_words_of an_words_of cd_words_of ct_words_of), sl_words_of⟩)
    (c_words_of : PySem.W.codeIn K cd_words_of "words_of" = true)
    (k_words_of : PySem.W.keepIn K (.ref f_words_of) = true)
    (a_is_writer : PySem.W.nsIn K mainGlobals "is_writer" = some (some (.ref f_is_writer)))
    (l_is_writer : K.lookup f_is_writer = some ⟨oc_is_writer, od_is_writer, .func (PySem.W.fnOf "is_writer" "is_writer" (defArgs s_is_writer) (defBody s_is_writer) (defScope s_is_writer) .none kV_is_writer dc_is_writer pm_is_writer an_is_writer cd_is_writer ct_is_writer), sl_is_writer⟩)
    (c_is_writer : PySem.W.codeIn K cd_is_writer "is_writer" = true)
    (k_is_writer : PySem.W.keepIn K (.ref f_is_writer) = true)
    (a_is_cleaner : PySem.W.nsIn K mainGlobals "is_cleaner" = some (some (.ref f_is_cleaner)))
    (l_is_cleaner : K.lookup f_is_cleaner = some ⟨oc_is_cleaner, od_is_cleaner, .func (PySem.W.fnOf "is_cleaner" "is_cleaner" (defArgs s_is_cleaner) (defBody s_is_cleaner) (defScope s_is_cleaner) .none kV_is_cleaner dc_is_cleaner pm_is_cleaner an_is_cleaner cd_is_cleaner ct_is_cleaner), sl_is_cleaner⟩)
    (c_is_cleaner : PySem.W.codeIn K cd_is_cleaner "is_cleaner" = true)
    (k_is_cleaner : PySem.W.keepIn K (.ref f_is_cleaner) = true)
    (a_is_reader : PySem.W.nsIn K mainGlobals "is_reader" = some (some (.ref f_is_reader)))
    (l_is_reader : K.lookup f_is_reader = some ⟨oc_is_reader, od_is_reader, .func (PySem.W.fnOf "is_reader" "is_reader" (defArgs s_is_reader) (defBody s_is_reader) (defScope s_is_reader) .none kV_is_reader dc_is_reader pm_is_reader an_is_reader cd_is_reader ct_is_reader), sl_is_reader⟩)
    (c_is_reader : PySem.W.codeIn K cd_is_reader "is_reader" = true)
    (k_is_reader : PySem.W.keepIn K (.ref f_is_reader) = true)
    (a__law_pot : PySem.W.nsIn K mainGlobals "_law_pot" = some (some (.ref f__law_pot)))
    (l__law_pot : K.lookup f__law_pot = some ⟨oc__law_pot, od__law_pot, .func (PySem.W.fnOf "_law_pot" "_law_pot" (defArgs s__law_pot) (defBody s__law_pot) (defScope s__law_pot) .none kV__law_pot dc__law_pot pm__law_pot an__law_pot cd__law_pot ct__law_pot), sl__law_pot⟩)
    (c__law_pot : PySem.W.codeIn K cd__law_pot "_law_pot" = true)
    (k__law_pot : PySem.W.keepIn K (.ref f__law_pot) = true)
    (a__law_draw : PySem.W.nsIn K mainGlobals "_law_draw" = some (some (.ref f__law_draw)))
    (l__law_draw : K.lookup f__law_draw = some ⟨oc__law_draw, od__law_draw, .func (PySem.W.fnOf "_law_draw" "_law_draw" (defArgs s__law_draw) (defBody s__law_draw) (defScope s__law_draw) .none kV__law_draw dc__law_draw pm__law_draw an__law_draw cd__law_draw ct__law_draw), sl__law_draw⟩)
    (c__law_draw : PySem.W.codeIn K cd__law_draw "_law_draw" = true)
    (k__law_draw : PySem.W.keepIn K (.ref f__law_draw) = true)
    (a__law_put_in : PySem.W.nsIn K mainGlobals "_law_put_in" = some (some (.ref f__law_put_in)))
    (l__law_put_in : K.lookup f__law_put_in = some ⟨oc__law_put_in, od__law_put_in, .func (PySem.W.fnOf "_law_put_in" "_law_put_in" (defArgs s__law_put_in) (defBody s__law_put_in) (defScope s__law_put_in) .none kV__law_put_in dc__law_put_in pm__law_put_in an__law_put_in cd__law_put_in ct__law_put_in), sl__law_put_in⟩)
    (c__law_put_in : PySem.W.codeIn K cd__law_put_in "_law_put_in" = true)
    (k__law_put_in : PySem.W.keepIn K (.ref f__law_put_in) = true)
    (a__law_locked : PySem.W.nsIn K mainGlobals "_law_locked" = some (some (.ref f__law_locked)))
    (l__law_locked : K.lookup f__law_locked = some ⟨oc__law_locked, od__law_locked, .func (PySem.W.fnOf "_law_locked" "_law_locked" (defArgs s__law_locked) (defBody s__law_locked) (defScope s__law_locked) .none kV__law_locked dc__law_locked pm__law_locked an__law_locked cd__law_locked ct__law_locked), sl__law_locked⟩)
    (c__law_locked : PySem.W.codeIn K cd__law_locked "_law_locked" = true)
    (k__law_locked : PySem.W.keepIn K (.ref f__law_locked) = true)
    (a__law_writer_words : PySem.W.nsIn K mainGlobals "_law_writer_words" = some (some (.ref f__law_writer_words)))
    (l__law_writer_words : K.lookup f__law_writer_words = some ⟨oc__law_writer_words, od__law_writer_words, .func (PySem.W.fnOf "_law_writer_words" "_law_writer_words" (defArgs s__law_writer_words) (defBody s__law_writer_words) (defScope s__law_writer_words) .none kV__law_writer_words dc__law_writer_words pm__law_writer_words an__law_writer_words cd__law_writer_words ct__law_writer_words), sl__law_writer_words⟩)
    (c__law_writer_words : PySem.W.codeIn K cd__law_writer_words "_law_writer_words" = true)
    (k__law_writer_words : PySem.W.keepIn K (.ref f__law_writer_words) = true)
    (a__law_cleaner_words : PySem.W.nsIn K mainGlobals "_law_cleaner_words" = some (some (.ref f__law_cleaner_words)))
    (l__law_cleaner_words : K.lookup f__law_cleaner_words = some ⟨oc__law_cleaner_words, od__law_cleaner_words, .func (PySem.W.fnOf "_law_cleaner_words" "_law_cleaner_words" (defArgs s__law_cleaner_words) (defBody s__law_cleaner_words) (defScope s__law_cleaner_words) .none kV__law_cleaner_words dc__law_cleaner_words pm__law_cleaner_words an__law_cleaner_words cd__law_cleaner_words ct__law_cleaner_words), sl__law_cleaner_words⟩)
    (c__law_cleaner_words : PySem.W.codeIn K cd__law_cleaner_words "_law_cleaner_words" = true)
    (k__law_cleaner_words : PySem.W.keepIn K (.ref f__law_cleaner_words) = true)
    (a__law_reader_words : PySem.W.nsIn K mainGlobals "_law_reader_words" = some (some (.ref f__law_reader_words)))
    (l__law_reader_words : K.lookup f__law_reader_words = some ⟨oc__law_reader_words, od__law_reader_words, .func (PySem.W.fnOf "_law_reader_words" "_law_reader_words" (defArgs s__law_reader_words) (defBody s__law_reader_words) (defScope s__law_reader_words) .none kV__law_reader_words dc__law_reader_words pm__law_reader_words an__law_reader_words cd__law_reader_words ct__law_reader_words), sl__law_reader_words⟩)
    (c__law_reader_words : PySem.W.codeIn K cd__law_reader_words "_law_reader_words" = true)
    (k__law_reader_words : PySem.W.keepIn K (.ref f__law_reader_words) = true)
    (a__law_ahead : PySem.W.nsIn K mainGlobals "_law_ahead" = some (some (.ref f__law_ahead)))
    (l__law_ahead : K.lookup f__law_ahead = some ⟨oc__law_ahead, od__law_ahead, .func (PySem.W.fnOf "_law_ahead" "_law_ahead" (defArgs s__law_ahead) (defBody s__law_ahead) (defScope s__law_ahead) .none kV__law_ahead dc__law_ahead pm__law_ahead an__law_ahead cd__law_ahead ct__law_ahead), sl__law_ahead⟩)
    (c__law_ahead : PySem.W.codeIn K cd__law_ahead "_law_ahead" = true)
    (k__law_ahead : PySem.W.keepIn K (.ref f__law_ahead) = true)
    (a__law_fits : PySem.W.nsIn K mainGlobals "_law_fits" = some (some (.ref f__law_fits)))
    (l__law_fits : K.lookup f__law_fits = some ⟨oc__law_fits, od__law_fits, .func (PySem.W.fnOf "_law_fits" "_law_fits" (defArgs s__law_fits) (defBody s__law_fits) (defScope s__law_fits) .none kV__law_fits dc__law_fits pm__law_fits an__law_fits cd__law_fits ct__law_fits), sl__law_fits⟩)
    (c__law_fits : PySem.W.codeIn K cd__law_fits "_law_fits" = true)
    (k__law_fits : PySem.W.keepIn K (.ref f__law_fits) = true)
    (a__law_is_writer : PySem.W.nsIn K mainGlobals "_law_is_writer" = some (some (.ref f__law_is_writer)))
    (l__law_is_writer : K.lookup f__law_is_writer = some ⟨oc__law_is_writer, od__law_is_writer, .func (PySem.W.fnOf "_law_is_writer" "_law_is_writer" (defArgs s__law_is_writer) (defBody s__law_is_writer) (defScope s__law_is_writer) .none kV__law_is_writer dc__law_is_writer pm__law_is_writer an__law_is_writer cd__law_is_writer ct__law_is_writer), sl__law_is_writer⟩)
    (c__law_is_writer : PySem.W.codeIn K cd__law_is_writer "_law_is_writer" = true)
    (k__law_is_writer : PySem.W.keepIn K (.ref f__law_is_writer) = true)
    (a__law_is_cleaner : PySem.W.nsIn K mainGlobals "_law_is_cleaner" = some (some (.ref f__law_is_cleaner)))
    (l__law_is_cleaner : K.lookup f__law_is_cleaner = some ⟨oc__law_is_cleaner, od__law_is_cleaner, .func (PySem.W.fnOf "_law_is_cleaner" "_law_is_cleaner" (defArgs s__law_is_cleaner) (defBody s__law_is_cleaner) (defScope s__law_is_cleaner) .none kV__law_is_cleaner dc__law_is_cleaner pm__law_is_cleaner an__law_is_cleaner cd__law_is_cleaner ct__law_is_cleaner), sl__law_is_cleaner⟩)
    (c__law_is_cleaner : PySem.W.codeIn K cd__law_is_cleaner "_law_is_cleaner" = true)
    (k__law_is_cleaner : PySem.W.keepIn K (.ref f__law_is_cleaner) = true)
    (a__law_is_reader : PySem.W.nsIn K mainGlobals "_law_is_reader" = some (some (.ref f__law_is_reader)))
    (l__law_is_reader : K.lookup f__law_is_reader = some ⟨oc__law_is_reader, od__law_is_reader, .func (PySem.W.fnOf "_law_is_reader" "_law_is_reader" (defArgs s__law_is_reader) (defBody s__law_is_reader) (defScope s__law_is_reader) .none kV__law_is_reader dc__law_is_reader pm__law_is_reader an__law_is_reader cd__law_is_reader ct__law_is_reader), sl__law_is_reader⟩)
    (c__law_is_reader : PySem.W.codeIn K cd__law_is_reader "_law_is_reader" = true)
    (k__law_is_reader : PySem.W.keepIn K (.ref f__law_is_reader) = true)
    (a__law_spoilt : PySem.W.nsIn K mainGlobals "_law_spoilt" = some (some (.ref f__law_spoilt)))
    (l__law_spoilt : K.lookup f__law_spoilt = some ⟨oc__law_spoilt, od__law_spoilt, .func (PySem.W.fnOf "_law_spoilt" "_law_spoilt" (defArgs s__law_spoilt) (defBody s__law_spoilt) (defScope s__law_spoilt) .none kV__law_spoilt dc__law_spoilt pm__law_spoilt an__law_spoilt cd__law_spoilt ct__law_spoilt), sl__law_spoilt⟩)
    (c__law_spoilt : PySem.W.codeIn K cd__law_spoilt "_law_spoilt" = true)
    (k__law_spoilt : PySem.W.keepIn K (.ref f__law_spoilt) = true)
    (a_law : PySem.W.nsIn K mainGlobals "law" = some (some (.ref f_law)))
    (l_law : K.lookup f_law = some ⟨oc_law, od_law, .func (PySem.W.fnOf "law" "law" (defArgs s_law) (defBody s_law) (defScope s_law) .none kV_law dc_law pm_law an_law cd_law ct_law), sl_law⟩)
    (c_law : PySem.W.codeIn K cd_law "law" = true)
    (k_law : PySem.W.keepIn K (.ref f_law) = true)
    (z_len : PySem.W.nsIn K mainGlobals "len" = some none)
    (z_set : PySem.W.nsIn K mainGlobals "set" = some none)
    (z_all : PySem.W.nsIn K mainGlobals "all" = some none)
    (z_isinstance : PySem.W.nsIn K mainGlobals "isinstance" = some none)
    (z_str : PySem.W.nsIn K mainGlobals "str" = some none)
    (z_int : PySem.W.nsIn K mainGlobals "int" = some none)
    (z_range : PySem.W.nsIn K mainGlobals "range" = some none)
    (z_list : PySem.W.nsIn K mainGlobals "list" = some none)
    (z_tuple : PySem.W.nsIn K mainGlobals "tuple" = some none)
    (x_WRITER_WORDS : PySem.W.nsIn K mainGlobals "WRITER_WORDS" = some (some (.ref a_WRITER_WORDS)))
    (y_WRITER_WORDS : K.lookup a_WRITER_WORDS = some ⟨.type "tuple", od_WRITER_WORDS, .seq #[.str "change" t0_WRITER_WORDS, .str "enter" t1_WRITER_WORDS, .str "commit" t2_WRITER_WORDS, .str "clear" t3_WRITER_WORDS, .str "lock" t4_WRITER_WORDS, .str "unlock" t5_WRITER_WORDS] nn_WRITER_WORDS, sl_WRITER_WORDS⟩)
    (x_CLEANER_WORDS : PySem.W.nsIn K mainGlobals "CLEANER_WORDS" = some (some (.ref a_CLEANER_WORDS)))
    (y_CLEANER_WORDS : K.lookup a_CLEANER_WORDS = some ⟨.type "tuple", od_CLEANER_WORDS, .seq #[.str "look" t0_CLEANER_WORDS, .str "set" t1_CLEANER_WORDS, .str "remove" t2_CLEANER_WORDS, .str "again" t3_CLEANER_WORDS, .str "lock" t4_CLEANER_WORDS, .str "unlock" t5_CLEANER_WORDS] nn_CLEANER_WORDS, sl_CLEANER_WORDS⟩)
    (x_READER_WORDS : PySem.W.nsIn K mainGlobals "READER_WORDS" = some (some (.ref a_READER_WORDS)))
    (y_READER_WORDS : K.lookup a_READER_WORDS = some ⟨.type "tuple", od_READER_WORDS, .seq #[.str "entry" t0_READER_WORDS, .str "mark" t1_READER_WORDS, .str "page" t2_READER_WORDS, .str "hold" t3_READER_WORDS, .str "take" t4_READER_WORDS, .str "tell" t5_READER_WORDS] nn_READER_WORDS, sl_READER_WORDS⟩)
    : ∃ fd : FuncData, (∀ (s : Shared) (v : Value), BindsTo s fd ⟨[v], []⟩ [("script", v)]) ∧ ∀ base : Heap, K.In base → base.Ns mainGlobals mg → FnOk l.prog w K mg base CX0 5 fa fd ["script"] (sp_law K) := by
  have e := hfa.symm.trans (PySem.W.mg_of X G a_law)
  cases e
  have T : Txt K mg a_WRITER_WORDS a_CLEANER_WORDS a_READER_WORDS := ⟨PySem.W.mg_none_of X G z_len, PySem.W.mg_none_of X G z_set, PySem.W.mg_none_of X G z_all, PySem.W.mg_none_of X G z_isinstance, PySem.W.mg_none_of X G z_str, PySem.W.mg_none_of X G z_int, PySem.W.mg_none_of X G z_range, PySem.W.mg_none_of X G z_list, PySem.W.mg_none_of X G z_tuple, PySem.W.mg_of X G x_WRITER_WORDS, PySem.W.mg_of X G x_CLEANER_WORDS, PySem.W.mg_of X G x_READER_WORDS⟩
  have hT_WRITER_WORDS : ∀ H, SqT K H a_WRITER_WORDS (sts ["change", "enter", "commit", "clear", "lock", "unlock"]) := fun H => .inr ⟨_, _, _, y_WRITER_WORDS, rfl, rfl, by rw [sizeLine_eq]; show 6 ≤ 16777216; decide, (.cons ⟨_, rfl⟩ (.cons ⟨_, rfl⟩ (.cons ⟨_, rfl⟩ (.cons ⟨_, rfl⟩ (.cons ⟨_, rfl⟩ (.cons ⟨_, rfl⟩ .nil))))))⟩
  have hT_CLEANER_WORDS : ∀ H, SqT K H a_CLEANER_WORDS (sts ["look", "set", "remove", "again", "lock", "unlock"]) := fun H => .inr ⟨_, _, _, y_CLEANER_WORDS, rfl, rfl, by rw [sizeLine_eq]; show 6 ≤ 16777216; decide, (.cons ⟨_, rfl⟩ (.cons ⟨_, rfl⟩ (.cons ⟨_, rfl⟩ (.cons ⟨_, rfl⟩ (.cons ⟨_, rfl⟩ (.cons ⟨_, rfl⟩ .nil))))))⟩
  have hT_READER_WORDS : ∀ H, SqT K H a_READER_WORDS (sts ["entry", "mark", "page", "hold", "take", "tell"]) := fun H => .inr ⟨_, _, _, y_READER_WORDS, rfl, rfl, by rw [sizeLine_eq]; show 6 ≤ 16777216; decide, (.cons ⟨_, rfl⟩ (.cons ⟨_, rfl⟩ (.cons ⟨_, rfl⟩ (.cons ⟨_, rfl⟩ (.cons ⟨_, rfl⟩ (.cons ⟨_, rfl⟩ .nil))))))⟩
  have F_is_ahead := fun_mk (st := s_is_ahead) l_is_ahead c_is_ahead k_is_ahead
  have FI_is_ahead : FunI K mg "is_ahead" s_is_ahead ["found", "one", "other"] := ⟨_, _, PySem.W.mg_of X G a_is_ahead, F_is_ahead, F_is_ahead.binds (ps := ["found", "one", "other"]) fun _ _ _ _ _ _ us hl => match us, hl with | [_, _, _], _ => rfl⟩
  have F_is_locked_well := fun_mk (st := s_is_locked_well) l_is_locked_well c_is_locked_well k_is_locked_well
  have FI_is_locked_well : FunI K mg "is_locked_well" s_is_locked_well ["found"] := ⟨_, _, PySem.W.mg_of X G a_is_locked_well, F_is_locked_well, F_is_locked_well.binds (ps := ["found"]) fun _ _ _ _ _ _ us hl => match us, hl with | [_], _ => rfl⟩
  have F_all_there := fun_mk (st := s_all_there) l_all_there c_all_there k_all_there
  have FI_all_there : FunI K mg "all_there" s_all_there ["found", "needed"] := ⟨_, _, PySem.W.mg_of X G a_all_there, F_all_there, F_all_there.binds (ps := ["found", "needed"]) fun _ _ _ _ _ _ us hl => match us, hl with | [_, _], _ => rfl⟩
  have F_words_of := fun_mk (st := s_words_of) l_words_of c_words_of k_words_of
  have FI_words_of : FunI K mg "words_of" s_words_of ["value", "known"] := ⟨_, _, PySem.W.mg_of X G a_words_of, F_words_of, F_words_of.binds (ps := ["value", "known"]) fun _ _ _ _ _ _ us hl => match us, hl with | [_, _], _ => rfl⟩
  have F_is_writer := fun_mk (st := s_is_writer) l_is_writer c_is_writer k_is_writer
  have FI_is_writer : FunI K mg "is_writer" s_is_writer ["value"] := ⟨_, _, PySem.W.mg_of X G a_is_writer, F_is_writer, F_is_writer.binds (ps := ["value"]) fun _ _ _ _ _ _ us hl => match us, hl with | [_], _ => rfl⟩
  have F_is_cleaner := fun_mk (st := s_is_cleaner) l_is_cleaner c_is_cleaner k_is_cleaner
  have FI_is_cleaner : FunI K mg "is_cleaner" s_is_cleaner ["value"] := ⟨_, _, PySem.W.mg_of X G a_is_cleaner, F_is_cleaner, F_is_cleaner.binds (ps := ["value"]) fun _ _ _ _ _ _ us hl => match us, hl with | [_], _ => rfl⟩
  have F_is_reader := fun_mk (st := s_is_reader) l_is_reader c_is_reader k_is_reader
  have FI_is_reader : FunI K mg "is_reader" s_is_reader ["value"] := ⟨_, _, PySem.W.mg_of X G a_is_reader, F_is_reader, F_is_reader.binds (ps := ["value"]) fun _ _ _ _ _ _ us hl => match us, hl with | [_], _ => rfl⟩
  have F__law_pot := fun_mk (st := s__law_pot) l__law_pot c__law_pot k__law_pot
  have FI__law_pot : FunI K mg "_law_pot" s__law_pot ["script"] := ⟨_, _, PySem.W.mg_of X G a__law_pot, F__law_pot, F__law_pot.binds (ps := ["script"]) fun _ _ _ _ _ _ us hl => match us, hl with | [_], _ => rfl⟩
  have F__law_draw := fun_mk (st := s__law_draw) l__law_draw c__law_draw k__law_draw
  have FI__law_draw : FunI K mg "_law_draw" s__law_draw ["pot", "many"] := ⟨_, _, PySem.W.mg_of X G a__law_draw, F__law_draw, F__law_draw.binds (ps := ["pot", "many"]) fun _ _ _ _ _ _ us hl => match us, hl with | [_, _], _ => rfl⟩
  have F__law_put_in := fun_mk (st := s__law_put_in) l__law_put_in c__law_put_in k__law_put_in
  have FI__law_put_in : FunI K mg "_law_put_in" s__law_put_in ["pot", "order", "word", "least"] := ⟨_, _, PySem.W.mg_of X G a__law_put_in, F__law_put_in, F__law_put_in.binds (ps := ["pot", "order", "word", "least"]) fun _ _ _ _ _ _ us hl => match us, hl with | [_, _, _, _], _ => rfl⟩
  have F__law_locked := fun_mk (st := s__law_locked) l__law_locked c__law_locked k__law_locked
  have FI__law_locked : FunI K mg "_law_locked" s__law_locked ["pot", "order"] := ⟨_, _, PySem.W.mg_of X G a__law_locked, F__law_locked, F__law_locked.binds (ps := ["pot", "order"]) fun _ _ _ _ _ _ us hl => match us, hl with | [_, _], _ => rfl⟩
  have F__law_writer_words := fun_mk (st := s__law_writer_words) l__law_writer_words c__law_writer_words k__law_writer_words
  have FI__law_writer_words : FunI K mg "_law_writer_words" s__law_writer_words ["pot"] := ⟨_, _, PySem.W.mg_of X G a__law_writer_words, F__law_writer_words, F__law_writer_words.binds (ps := ["pot"]) fun _ _ _ _ _ _ us hl => match us, hl with | [_], _ => rfl⟩
  have F__law_cleaner_words := fun_mk (st := s__law_cleaner_words) l__law_cleaner_words c__law_cleaner_words k__law_cleaner_words
  have FI__law_cleaner_words : FunI K mg "_law_cleaner_words" s__law_cleaner_words ["pot"] := ⟨_, _, PySem.W.mg_of X G a__law_cleaner_words, F__law_cleaner_words, F__law_cleaner_words.binds (ps := ["pot"]) fun _ _ _ _ _ _ us hl => match us, hl with | [_], _ => rfl⟩
  have F__law_reader_words := fun_mk (st := s__law_reader_words) l__law_reader_words c__law_reader_words k__law_reader_words
  have FI__law_reader_words : FunI K mg "_law_reader_words" s__law_reader_words ["pot"] := ⟨_, _, PySem.W.mg_of X G a__law_reader_words, F__law_reader_words, F__law_reader_words.binds (ps := ["pot"]) fun _ _ _ _ _ _ us hl => match us, hl with | [_], _ => rfl⟩
  have F__law_ahead := fun_mk (st := s__law_ahead) l__law_ahead c__law_ahead k__law_ahead
  have FI__law_ahead : FunI K mg "_law_ahead" s__law_ahead ["order", "one", "other"] := ⟨_, _, PySem.W.mg_of X G a__law_ahead, F__law_ahead, F__law_ahead.binds (ps := ["order", "one", "other"]) fun _ _ _ _ _ _ us hl => match us, hl with | [_, _, _], _ => rfl⟩
  have F__law_fits := fun_mk (st := s__law_fits) l__law_fits c__law_fits k__law_fits
  have FI__law_fits : FunI K mg "_law_fits" s__law_fits ["text", "needed", "free"] := ⟨_, _, PySem.W.mg_of X G a__law_fits, F__law_fits, F__law_fits.binds (ps := ["text", "needed", "free"]) fun _ _ _ _ _ _ us hl => match us, hl with | [_, _, _], _ => rfl⟩
  have F__law_is_writer := fun_mk (st := s__law_is_writer) l__law_is_writer c__law_is_writer k__law_is_writer
  have FI__law_is_writer : FunI K mg "_law_is_writer" s__law_is_writer ["text"] := ⟨_, _, PySem.W.mg_of X G a__law_is_writer, F__law_is_writer, F__law_is_writer.binds (ps := ["text"]) fun _ _ _ _ _ _ us hl => match us, hl with | [_], _ => rfl⟩
  have F__law_is_cleaner := fun_mk (st := s__law_is_cleaner) l__law_is_cleaner c__law_is_cleaner k__law_is_cleaner
  have FI__law_is_cleaner : FunI K mg "_law_is_cleaner" s__law_is_cleaner ["text"] := ⟨_, _, PySem.W.mg_of X G a__law_is_cleaner, F__law_is_cleaner, F__law_is_cleaner.binds (ps := ["text"]) fun _ _ _ _ _ _ us hl => match us, hl with | [_], _ => rfl⟩
  have F__law_is_reader := fun_mk (st := s__law_is_reader) l__law_is_reader c__law_is_reader k__law_is_reader
  have FI__law_is_reader : FunI K mg "_law_is_reader" s__law_is_reader ["text"] := ⟨_, _, PySem.W.mg_of X G a__law_is_reader, F__law_is_reader, F__law_is_reader.binds (ps := ["text"]) fun _ _ _ _ _ _ us hl => match us, hl with | [_], _ => rfl⟩
  have F__law_spoilt := fun_mk (st := s__law_spoilt) l__law_spoilt c__law_spoilt k__law_spoilt
  have FI__law_spoilt : FunI K mg "_law_spoilt" s__law_spoilt ["pot", "order"] := ⟨_, _, PySem.W.mg_of X G a__law_spoilt, F__law_spoilt, F__law_spoilt.binds (ps := ["pot", "order"]) fun _ _ _ _ _ _ us hl => match us, hl with | [_, _], _ => rfl⟩
  have F_law := fun_mk (st := s_law) l_law c_law k_law
  refine ⟨PySem.W.fnOf "law" "law" (defArgs s_law) (defBody s_law) (defScope s_law) .none kV_law dc_law pm_law an_law cd_law ct_law, fun s v => .of_eq rfl, fun base hb hn => ?_⟩
  have I_is_ahead : FnI l.prog w K mg base CX0 1 "is_ahead" ["found", "one", "other"] (sp_is_ahead K) := FI_is_ahead.ok sc_is_ahead (by walk_at "len") (d_is_ahead T) (fun H vs Q E h => pu_is_ahead h)
  have I_is_locked_well : FnI l.prog w K mg base CX0 2 "is_locked_well" ["found"] (sp_is_locked_well K) := FI_is_locked_well.ok sc_is_locked_well (by walk_at "len") (d_is_locked_well T I_is_ahead) (fun H vs Q E h => pu_is_locked_well h)
  have I_all_there : FnI l.prog w K mg base CX0 1 "all_there" ["found", "needed"] (sp_all_there K) := FI_all_there.ok sc_all_there (by walk_at "len") (d_all_there T) (fun H vs Q E h => pu_all_there h)
  have I_words_of : FnI l.prog w K mg base CX0 1 "words_of" ["value", "known"] (sp_words_of K) := FI_words_of.ok sc_words_of (by walk_at "len") (d_words_of T) (fun H vs Q E h => pu_words_of h)
  have I_is_writer : FnI l.prog w K mg base CX0 3 "is_writer" ["value"] (sp_is isW K) := FI_is_writer.ok sc_is_writer (by walk_at "len") (d_is_writer T I_words_of I_all_there I_is_ahead I_is_locked_well) (fun H vs Q E h => pu_is_writer hT_WRITER_WORDS h)
  have I_is_cleaner : FnI l.prog w K mg base CX0 3 "is_cleaner" ["value"] (sp_is isC K) := FI_is_cleaner.ok sc_is_cleaner (by walk_at "len") (d_is_cleaner T I_words_of I_all_there I_is_ahead I_is_locked_well) (fun H vs Q E h => pu_is_cleaner hT_CLEANER_WORDS h)
  have I_is_reader : FnI l.prog w K mg base CX0 2 "is_reader" ["value"] (sp_is isR K) := FI_is_reader.ok sc_is_reader (by walk_at "len") (d_is_reader T I_words_of I_all_there I_is_ahead) (fun H vs Q E h => pu_is_reader hT_READER_WORDS h)
  have I__law_pot : FnI l.prog w K mg base CX0 1 "_law_pot" ["script"] (sp_pot K) := FI__law_pot.ok sc__law_pot (by walk_at "len") (d__law_pot T) (fun H vs Q E h => pu_pot h)
  have I__law_draw : FnI l.prog w K mg base CX0 1 "_law_draw" ["pot", "many"] (sp_draw) := FI__law_draw.ok sc__law_draw (by walk_at "len") (d__law_draw T) (fun H vs Q E h => pu_draw h)
  have I__law_put_in : FnI l.prog w K mg base CX0 2 "_law_put_in" ["pot", "order", "word", "least"] (sp_put_in) := FI__law_put_in.ok sc__law_put_in (by walk_at "len") (d__law_put_in T I__law_draw) (fun H vs Q E h => pu__law_put_in h)
  have I__law_locked : FnI l.prog w K mg base CX0 3 "_law_locked" ["pot", "order"] (sp_locked) := FI__law_locked.ok sc__law_locked (by walk_at "len") (d__law_locked T I__law_draw I__law_put_in) (fun H vs Q E h => pu__law_locked h)
  have I__law_writer_words : FnI l.prog w K mg base CX0 4 "_law_writer_words" ["pot"] (sp_words wAll) := FI__law_writer_words.ok sc__law_writer_words (by walk_at "len") (d__law_writer_words T I__law_draw I__law_put_in I__law_locked) (fun H vs Q E h => pu__law_writer_words h)
  have I__law_cleaner_words : FnI l.prog w K mg base CX0 4 "_law_cleaner_words" ["pot"] (sp_words cAll) := FI__law_cleaner_words.ok sc__law_cleaner_words (by walk_at "len") (d__law_cleaner_words T I__law_draw I__law_locked) (fun H vs Q E h => pu__law_cleaner_words h)
  have I__law_reader_words : FnI l.prog w K mg base CX0 3 "_law_reader_words" ["pot"] (sp_words rAll) := FI__law_reader_words.ok sc__law_reader_words (by walk_at "len") (d__law_reader_words T I__law_draw I__law_put_in) (fun H vs Q E h => pu__law_reader_words h)
  have I__law_ahead : FnI l.prog w K mg base CX0 1 "_law_ahead" ["order", "one", "other"] (sp_is_ahead K) := FI__law_ahead.ok sc__law_ahead (by walk_at "len") (d__law_ahead T) (fun H vs Q E h => pu__law_ahead h)
  have I__law_fits : FnI l.prog w K mg base CX0 2 "_law_fits" ["text", "needed", "free"] (sp_fits K) := FI__law_fits.ok sc__law_fits (by walk_at "len") (d__law_fits T I__law_ahead) (fun H vs Q E h => pu__law_fits h)
  have I__law_is_writer : FnI l.prog w K mg base CX0 3 "_law_is_writer" ["text"] (sp_law_is lawW) := FI__law_is_writer.ok sc__law_is_writer (by walk_at "len") (d__law_is_writer T I__law_ahead I__law_fits) (fun H vs Q E h => pu__law_is_writer h)
  have I__law_is_cleaner : FnI l.prog w K mg base CX0 3 "_law_is_cleaner" ["text"] (sp_law_is lawC) := FI__law_is_cleaner.ok sc__law_is_cleaner (by walk_at "len") (d__law_is_cleaner T I__law_ahead I__law_fits) (fun H vs Q E h => pu__law_is_cleaner h)
  have I__law_is_reader : FnI l.prog w K mg base CX0 3 "_law_is_reader" ["text"] (sp_law_is lawR) := FI__law_is_reader.ok sc__law_is_reader (by walk_at "len") (d__law_is_reader T I__law_ahead I__law_fits) (fun H vs Q E h => pu__law_is_reader h)
  have I__law_spoilt : FnI l.prog w K mg base CX0 2 "_law_spoilt" ["pot", "order"] (sp_spoilt) := FI__law_spoilt.ok sc__law_spoilt (by walk_at "len") (d__law_spoilt T I__law_draw) (fun H vs Q E h => pu__law_spoilt h)
  exact F_law.ok sc_law (by walk_at "len") (fun cdv A outer s H vs Q E hr h => ⟨_, d_law T I_is_writer I_is_cleaner I_is_reader I__law_pot I__law_draw I__law_writer_words I__law_cleaner_words I__law_reader_words I__law_is_writer I__law_is_cleaner I__law_is_reader I__law_spoilt fa cdv A outer s H E hr, pu_law h⟩)
theorem walk {l : PySem.W.OpenLaw} {q : Program} {loose : List Str} {XP : (Str → Option Value) → Heap → Prop} {YP : World → Heap → Prop} {d : DefRec} {K : Params → PySem.W.Frag} (hn : l.most = some 63) (hdf : d.params.defaults = [])
    (hY : ∀ (w : World) (h : Heap), YP w h → (K w.params).In h)
    (F : ∀ (w : World) (mg : Str → Option Value) (fa : Addr) (h : Heap), (K w.params).In h → h.Ns mainGlobals mg → mg d.name = some (.ref fa) →
      ∃ fd : FuncData, (∀ (s : Shared) (u : Value), BindsTo s fd ⟨[u], []⟩ [("script", u)]) ∧ ∀ base : Heap, (K w.params).In base → base.Ns mainGlobals mg → FnOk l.prog w (K w.params) mg base CX0 5 fa fd ["script"] (sp_law (K w.params))) :
    PySem.W.WalkO q loose XP YP l.row.toRowW d [] (fun f vs => PySem.call f vs) :=
  L2.walk_of (n := 63) (k := 5) (x := "script") (CX := fun _ => CX0) (sp := fun w => sp_law (K w.params)) hn (by decide) hdf ⟨rfl, by decide, by decide⟩ hY F (fun _ _ a ns hl _ hS => ⟨a, ns, rfl, hS, fun _ => rfl⟩) fun _ _ _ _ _ z => z

end
end Law
open PySem PySem.W PyProof.Rows in
set_option maxRecDepth 100000 in
set_option maxHeartbeats 0 in
theorem PySem.Challenge.cw_trustedpages_k14_orders_of_words_holds : PySem.Challenge.rw_trustedpages_k14_orders_of_words.Holds := by
  w_on; o_law; k_head; (case hw => w_witness2)
  k_fill
  refine Law.walk (l := PySem.Challenge.rw_trustedpages_k14_orders_of_words) rfl rfl (fun w h Y => PySem.W.kIn_of Y) ?F
  case F =>
    intro w mg fa h KX G hmg
    refine' Law.all_mk KX G hmg ?a_is_ahead ?l_is_ahead ?c_is_ahead ?k_is_ahead ?a_is_locked_well ?l_is_locked_well ?c_is_locked_well ?k_is_locked_well ?a_all_there ?l_all_there ?c_all_there ?k_all_there ?a_words_of ?l_words_of ?c_words_of ?k_words_of ?a_is_writer ?l_is_writer ?c_is_writer ?k_is_writer ?a_is_cleaner ?l_is_cleaner ?c_is_cleaner ?k_is_cleaner ?a_is_reader ?l_is_reader ?c_is_reader ?k_is_reader ?a__law_pot ?l__law_pot ?c__law_pot ?k__law_pot ?a__law_draw ?l__law_draw ?c__law_draw ?k__law_draw ?a__law_put_in ?l__law_put_in ?c__law_put_in ?k__law_put_in ?a__law_locked ?l__law_locked ?c__law_locked ?k__law_locked ?a__law_writer_words ?l__law_writer_words ?c__law_writer_words ?k__law_writer_words ?a__law_cleaner_words ?l__law_cleaner_words ?c__law_cleaner_words ?k__law_cleaner_words ?a__law_reader_words ?l__law_reader_words ?c__law_reader_words ?k__law_reader_words ?a__law_ahead ?l__law_ahead ?c__law_ahead ?k__law_ahead ?a__law_fits ?l__law_fits ?c__law_fits ?k__law_fits ?a__law_is_writer ?l__law_is_writer ?c__law_is_writer ?k__law_is_writer ?a__law_is_cleaner ?l__law_is_cleaner ?c__law_is_cleaner ?k__law_is_cleaner ?a__law_is_reader ?l__law_is_reader ?c__law_is_reader ?k__law_is_reader ?a__law_spoilt ?l__law_spoilt ?c__law_spoilt ?k__law_spoilt ?a_law ?l_law ?c_law ?k_law ?z_len ?z_set ?z_all ?z_isinstance ?z_str ?z_int ?z_range ?z_list ?z_tuple ?x_WRITER_WORDS ?y_WRITER_WORDS ?x_CLEANER_WORDS ?y_CLEANER_WORDS ?x_READER_WORDS ?y_READER_WORDS
    (case a_is_ahead => k_is)
    (case l_is_ahead => k_is)
    (case c_is_ahead => k_is)
    (case k_is_ahead => k_is)
    (case a_is_locked_well => k_is)
    (case l_is_locked_well => k_is)
    (case c_is_locked_well => k_is)
    (case k_is_locked_well => k_is)
    (case a_all_there => k_is)
    (case l_all_there => k_is)
    (case c_all_there => k_is)
    (case k_all_there => k_is)
    (case a_words_of => k_is)
    (case l_words_of => k_is)
    (case c_words_of => k_is)
    (case k_words_of => k_is)
    (case a_is_writer => k_is)
    (case l_is_writer => k_is)
    (case c_is_writer => k_is)
    (case k_is_writer => k_is)
    (case a_is_cleaner => k_is)
    (case l_is_cleaner => k_is)
    (case c_is_cleaner => k_is)
    (case k_is_cleaner => k_is)
    (case a_is_reader => k_is)
    (case l_is_reader => k_is)
    (case c_is_reader => k_is)
    (case k_is_reader => k_is)
    (case a__law_pot => k_is)
    (case l__law_pot => k_is)
    (case c__law_pot => k_is)
    (case k__law_pot => k_is)
    (case a__law_draw => k_is)
    (case l__law_draw => k_is)
    (case c__law_draw => k_is)
    (case k__law_draw => k_is)
    (case a__law_put_in => k_is)
    (case l__law_put_in => k_is)
    (case c__law_put_in => k_is)
    (case k__law_put_in => k_is)
    (case a__law_locked => k_is)
    (case l__law_locked => k_is)
    (case c__law_locked => k_is)
    (case k__law_locked => k_is)
    (case a__law_writer_words => k_is)
    (case l__law_writer_words => k_is)
    (case c__law_writer_words => k_is)
    (case k__law_writer_words => k_is)
    (case a__law_cleaner_words => k_is)
    (case l__law_cleaner_words => k_is)
    (case c__law_cleaner_words => k_is)
    (case k__law_cleaner_words => k_is)
    (case a__law_reader_words => k_is)
    (case l__law_reader_words => k_is)
    (case c__law_reader_words => k_is)
    (case k__law_reader_words => k_is)
    (case a__law_ahead => k_is)
    (case l__law_ahead => k_is)
    (case c__law_ahead => k_is)
    (case k__law_ahead => k_is)
    (case a__law_fits => k_is)
    (case l__law_fits => k_is)
    (case c__law_fits => k_is)
    (case k__law_fits => k_is)
    (case a__law_is_writer => k_is)
    (case l__law_is_writer => k_is)
    (case c__law_is_writer => k_is)
    (case k__law_is_writer => k_is)
    (case a__law_is_cleaner => k_is)
    (case l__law_is_cleaner => k_is)
    (case c__law_is_cleaner => k_is)
    (case k__law_is_cleaner => k_is)
    (case a__law_is_reader => k_is)
    (case l__law_is_reader => k_is)
    (case c__law_is_reader => k_is)
    (case k__law_is_reader => k_is)
    (case a__law_spoilt => k_is)
    (case l__law_spoilt => k_is)
    (case c__law_spoilt => k_is)
    (case k__law_spoilt => k_is)
    (case a_law => k_is)
    (case l_law => k_is)
    (case c_law => k_is)
    (case k_law => k_is)
    (case z_len => k_is)
    (case z_set => k_is)
    (case z_all => k_is)
    (case z_isinstance => k_is)
    (case z_str => k_is)
    (case z_int => k_is)
    (case z_range => k_is)
    (case z_list => k_is)
    (case z_tuple => k_is)
    (case x_WRITER_WORDS => k_is)
    (case y_WRITER_WORDS => k_is)
    (case x_CLEANER_WORDS => k_is)
    (case y_CLEANER_WORDS => k_is)
    (case x_READER_WORDS => k_is)
    (case y_READER_WORDS => k_is)
