import PyProof.Rows.All
import Wide.All
import OpenK.AllK
import Wide.FinOn
import HandS.ForMost
import HandS.ForExc
import HandS.IsInst
import HandS.Strs
import HandS.Wide
import HandS.EndBits
import HandS.ExcInit
import HandS.ExcSuper
import HandS.ExcField
import HandS.ExcIs
import KE.KSuper
import KE.KOpsOwn
import HandS.ClsMeth
import KE.KExcIs
import PyProof.InstNe
import HandS.Defaults
import HandS.Walk
import PySem.Challenge.RW_trustedpages_k12_marks_joined_and_cut
set_option Elab.async false
set_option linter.all false
set_option maxRecDepth 100000
set_option maxHeartbeats 4000000
namespace TP
open PySem PySem.Spec PyProof.Rows L2

/-! ### operators, whatever the kinds of the operands -/
def rPlus : R2 := fun x y H Q => rI0 (fun i j => .int (i + j)) x y H Q ∨ (∃ i j, x = .str i ∧ y = .str j ∧ i.length + j.length ≤ sizeLine ∧ Q (.str (i ++ j)) H) ∨ rCat x y H Q
def rMinus : R2 := rI0 fun i j => .int (i - j)
def rTimes : R2 := fun x y H Q => rI CMul (fun i j => .int (i * j)) x y H Q ∨ rRep x y H Q
def rRest : R2 := rI (fun _ j => 0 < j) fun i j => .int (i % j)
def rQuot : R2 := rI CDivW fun i j => .int (i / j)
def rPow : R2 := rI CPow fun i j => .int (i ^ j.toNat)
def rLess : R2 := rI0 fun i j => .bl (decide (i < j))
def rLeq : R2 := rI0 fun i j => .bl (decide (i ≤ j))
def rMore : R2 := rI0 fun i j => .bl (decide (j < i))
def rGeq : R2 := rI0 fun i j => .bl (decide (j ≤ i))
def rSame (K : PySem.W.Frag) : R2 := fun x y H Q => rEq x y H Q ∨ rEqD K x y H Q
def rUnlike (K : PySem.W.Frag) : R2 := fun x y H Q => rNe x y H Q ∨ rNeD K x y H Q
def rIsNo : R2 := fun x y H Q => y = .non ∧ Q (.bl (decide (x = .non))) H
def rIsntNo : R2 := fun x y H Q => y = .non ∧ Q (.bl (!decide (x = .non))) H
def rNeg : V → Hp → VK → Prop := rU fun i => .int (-i)
def rLen (K : PySem.W.Frag) : List V → Hp → VK → Prop := fun xs H Q => ∃ x n, xs = [x] ∧ LenV K x H n ∧ Q (.int n) H
def rInt1 : List V → Hp → VK → Prop := fun xs H Q => (∃ i, xs = [.int i] ∧ Q (.int i) H) ∨ ∃ k, xs = [.bl k] ∧ Q (.int (if k then 1 else 0)) H
def rListOf (K : PySem.W.Frag) : List V → Hp → VK → Prop := fun xs H Q => ∃ p ys, xs = [.ref p] ∧ (SqL K H p ys ∨ SqT K H p ys) ∧ ∀ l, H l = none → Q (.ref l) (upd H l (.lst ys))
def rTupleOf (K : PySem.W.Frag) : List V → Hp → VK → Prop := fun xs H Q => ∃ p ys, xs = [.ref p] ∧ ((SqL K H p ys ∧ ∀ l, H l = none → Q (.ref l) (upd H l (.tup ys))) ∨ (SqT K H p ys ∧ Q (.ref p) H))
def rSplit : V → List V → Hp → VK → Prop := fun x xs H Q => ∃ a b, x = .str a ∧ xs = [.str b] ∧ (b.length == 0) = false ∧ a.length + 2 ≤ sizeLine ∧ rNewStrs (Txt.split a b) H Q
def rJoin (K : PySem.W.Frag) : V → List V → Hp → VK → Prop := fun x xs H Q => ∃ a p, ∃ ys : List Str, x = .str a ∧ xs = [.ref p] ∧ (SqL K H p (ys.map V.str) ∨ SqT K H p (ys.map V.str)) ∧
    (ys.map (·.length)).sum + ys.length * a.length ≤ 16777216 ∧ Q (.str (Txt.join a ys)) H
section
variable {X : Cx}
theorem op_plus : OpR X (binaryOp .Add) rPlus := op_add.or (op_add_str.or op_cat)
theorem op_minus : OpR X (binaryOp .Sub) rMinus := op_sub
theorem op_times : OpR X (binaryOp .Mult) rTimes := op_mul.or op_rep
theorem op_rest : OpR X (binaryOp .Mod) rRest := op_mod
theorem op_quot : OpR X (binaryOp .FloorDiv) rQuot := op_fdivW
theorem op_power : OpR X (binaryOp .Pow) rPow := op_pow
theorem op_less : OpR X (compareOp .Lt) rLess := op_lt
theorem op_leq : OpR X (compareOp .LtE) rLeq := op_le
theorem op_more : OpR X (compareOp .Gt) rMore := op_gt
theorem op_geq : OpR X (compareOp .GtE) rGeq := op_ge
theorem op_same (hu : X.A.units + 64 < cLine) : OpR X (compareOp .Eq) (rSame X.K) := op_eq.or (op_eqD hu)
theorem op_unlike (hu : X.A.units + 64 < cLine) : OpR X (compareOp .NotEq) (rUnlike X.K) := op_ne.or (op_neD hu)
theorem op_isno : OpR X (compareOp .Is) rIsNo := op_isN
theorem op_isntno : OpR X (compareOp .IsNot) rIsntNo := op_notN
theorem un_minus : UnR X (unaryOp .USub) rNeg := un_neg
theorem cr_len : CallR X (.builtin "len") (rLen X.K) := call_len
theorem cr_int1 : CallR X (.type "int") rInt1 := call_int1
theorem cr_list : CallR X (.type "list") (rListOf X.K) := call_list_of
theorem cr_tuple : CallR X (.type "tuple") (rTupleOf X.K) := call_tuple_of
end

/-! ### a def as it stands (FunI), a def that keeps its promise (FnI) -/
structure FunI (K : PySem.W.Frag) (mg : Str → Option Value) (x : Str) (st : Stmt) (ps : List Str) : Prop where
  ex : ∃ (f : Addr) (fd : FuncData), mg x = some (.ref f) ∧ Fun K x x st f fd ∧ Binds K fd ps []
structure FnI (P : Program) (w : World) (K : PySem.W.Frag) (mg : Str → Option Value) (base : Heap) (CX : CXT) (k : Nat) (x : Str) (ps : List Str) (sp : Sp) : Prop where
  ex : ∃ (f : Addr) (fd : FuncData), mg x = some (.ref f) ∧ PySem.W.keepIn K (.ref f) = true ∧ FnOk P w K mg base CX k f fd ps sp ∧ Binds K fd ps []
section
variable {P : Program} {w : World} {K : PySem.W.Frag} {mg : Str → Option Value} {base : Heap}
theorem FunI.ok {x : Str} {st : Stmt} {N ps : List Str} {k : Nat} {sp : Sp} (F : FunI K mg x st ps) (S : FnScope N ps (defScope st)) (len : ∀ vs H Q E, sp vs H Q E → vs.length = ps.length) {t : TS}
    (hd : ∀ (f : Addr) (cdv : Value) (A : Around) (outer : List Env) (s : Shared) (H : Hp) (E : XK), Room k (A.deeper (envOfC x (defScope st) s.heap.objs.size f cdv)) →
      PSs (cxOf CX0 P w K mg base N x (defScope st) f cdv A outer s H E).nox (defBody st) t)
    (hb : ∀ (H : Hp) (vs : List V) (Q : VK) (E : XK), sp vs H Q E → t { nx := fun _ H' => Q .non H', rt := Q } (start N vs) H) : FnI P w K mg base CX0 (k + 1) x ps sp := by
  obtain ⟨f, fd, hm, F, b⟩ := F.ex
  exact ⟨f, fd, hm, F.kp, F.ok S len fun cdv A outer s H vs Q E hr h => ⟨t, hd f cdv A outer s H E hr, hb H vs Q E h⟩, b⟩
end
section
variable {X : Cx} {CX : CXT} {k j : Nat} {ps : List Str} {sp : Sp} {E : XK} {x : Str} {p pos : Pos} {e : Expr} {es : List Expr} {t : TA}
theorem pe_callI (I : FnI X.prog X.w X.K X.mg X.base CX k x ps sp) (hr : Room j X.A) (hk : k ≤ j) (hx : Passes CX X E) (ha : PA X (e :: es) t) (hg : Gl X x := by rfl)
    (hdb : (x == ("__debug__" : Str)) = false := by decide) (he : starEach (e :: es) X.env = (false, eval e X.env) :: starEach es X.env := by rfl) (hpl : (backTo pos (starEach es X.env)).any (·.1) = false := by rfl) :
    PE X (.Call (.Name x p) (e :: es) [] pos) (tCall sp [] E t) := by
  obtain ⟨f, fd, hm, kp, F, b⟩ := I.ex
  exact pe_call F (hr.mono hk) hg hm kp b .nil hx ha hdb he hpl
theorem pe_callI0 (I : FnI X.prog X.w X.K X.mg X.base CX k x ps sp) (hr : Room j X.A) (hk : k ≤ j) (hx : Passes CX X E) (hg : Gl X x := by rfl)
    (hdb : (x == ("__debug__" : Str)) = false := by decide) : PE X (.Call (.Name x p) [] [] pos) (tCall sp [] E tNil) := by
  obtain ⟨f, fd, hm, kp, F, b⟩ := I.ex
  exact pe_call0 F (hr.mono hk) hg hm kp b .nil hx hdb
end
def tTru (K : PySem.W.Frag) (ta : TE) : TT := fun σ H Q => ta σ H fun x H' => ∃ k, TruV K x H' k ∧ Q k H'
theorem pe_globI {X : Cx} {x : Str} {i : Int} {pos : Pos} (h : ∃ t, X.mg x = some (.int i t)) (hg : Gl X x := by rfl) (hd : (x == ("__debug__" : Str)) = false := by decide) : PE X (.Name x pos) (tC (.int i)) := by
  obtain ⟨t, h⟩ := h
  exact pe_glob hg h ⟨t, rfl⟩ hd
theorem pe_globA {X : Cx} {x : Str} {a : Addr} {pos : Pos} (h : X.mg x = some (.ref a)) (hg : Gl X x := by rfl) (hd : (x == ("__debug__" : Str)) = false := by decide) : PE X (.Name x pos) (tC (.ref a)) := pe_glob hg h rfl hd
end TP

namespace TP
open PySem PySem.Spec PyProof.Rows L2
/-! ### set(xs), xs a list of keys of one kind: what is in it, and how many -/
def met {κ : Type} [DecidableEq κ] : List κ → List κ
  | [] => []
  | x :: r => if x ∈ met r then met r else x :: met r
/-- the keys met in the first i ones, in turn -/
def metTo {κ : Type} [DecidableEq κ] (f : Nat → κ) : Nat → List κ
  | 0 => []
  | i + 1 => if f i ∈ metTo f i then metTo f i else f i :: metTo f i
section
variable {κ : Type} [DecidableEq κ]
theorem metTo_len (f : Nat → κ) : ∀ i, (metTo f i).length ≤ i
  | 0 => Nat.le_refl _
  | i + 1 => by
    have ih := metTo_len f i
    unfold metTo
    split
    · omega
    · simp only [List.length_cons]; omega
theorem metTo_mem (f : Nat → κ) (k : κ) : ∀ i, k ∈ metTo f i ↔ ∃ j, j < i ∧ f j = k
  | 0 => by simp [metTo]
  | i + 1 => by
    have ih := metTo_mem f k i
    have step : (∃ j, j < i + 1 ∧ f j = k) ↔ (∃ j, j < i ∧ f j = k) ∨ f i = k := by
      constructor
      · rintro ⟨j, hj, e⟩
        by_cases q : j = i
        · subst q; exact .inr e
        · exact .inl ⟨j, by omega, e⟩
      · rintro (⟨j, hj, e⟩ | e)
        · exact ⟨j, by omega, e⟩
        · exact ⟨i, by omega, e⟩
    rw [step, ← ih]
    show k ∈ (if f i ∈ metTo f i then metTo f i else f i :: metTo f i) ↔ _
    split
    · rename_i h
      constructor
      · exact .inl
      · rintro (q | q)
        · exact q
        · rw [← q]; exact h
    · simp only [List.mem_cons]
      constructor
      · rintro (q | q)
        · exact .inr q.symm
        · exact .inl q
      · rintro (q | q)
        · exact .inr q
        · exact .inl q.symm
theorem metTo_nodup (f : Nat → κ) : ∀ i, (metTo f i).Nodup
  | 0 => List.nodup_nil
  | i + 1 => by
    unfold metTo
    split
    · exact metTo_nodup f i
    · rename_i h
      exact List.nodup_cons.mpr ⟨h, metTo_nodup f i⟩
theorem metTo_full (f : Nat → κ) : ∀ i, (metTo f i).length = i ↔ ∀ a b, a < b → b < i → f a ≠ f b
  | 0 => by simp [metTo]
  | i + 1 => by
    have ih := metTo_full f i
    have le := metTo_len f i
    have mm := metTo_mem f (f i) i
    show (if f i ∈ metTo f i then metTo f i else f i :: metTo f i).length = i + 1 ↔ _
    split
    · rename_i h
      constructor
      · intro q; omega
      · intro q
        obtain ⟨j, hj, e⟩ := mm.mp h
        exact absurd e (q j i hj (Nat.lt_succ_self _))
    · rename_i h
      constructor
      · intro q a b hab hb
        have q' : (metTo f i).length = i := by simpa using q
        by_cases z : b = i
        · subst z
          exact fun e => h (mm.mpr ⟨a, hab, e⟩)
        · exact ih.mp q' a b hab (by omega)
      · intro q
        have q' := ih.mpr fun a b hab hb => q a b hab (by omega)
        simp only [List.length_cons, q']
theorem metTo_list (xs : List κ) (d : κ) : (metTo (fun i => xs.getD i d) xs.length).length = xs.length ↔ xs.Nodup := by
  rw [metTo_full]
  constructor
  · intro h
    rw [List.nodup_iff_pairwise_ne, List.pairwise_iff_getElem]
    intro i j hi hj hij
    have z := h i j hij hj
    simpa [List.getD, hi, hj] using z
  · intro h a b hab hb e
    rw [List.nodup_iff_pairwise_ne, List.pairwise_iff_getElem] at h
    have ha : a < xs.length := by omega
    exact h a b ha hb hab (by simpa [List.getD, ha, hb] using e)
end
abbrev nset (led : Bool) : Obj := { cls := .type "set", dict := none, data := .set #[] 0 (.fresh 0 0 led) }
section
variable {prog : Program} {w : World} {κ : Type} [DecidableEq κ]
theorem setOf_as {knd : PySem.KeyKind prog w κ} {h : Heap} {a : Addr} {S S' : κ → Bool} {n n' : Nat} (hS : h.SetOf knd a S n) (e : ∀ k, S k = S' k) (en : n = n') : h.SetOf knd a S' n' := by
  obtain rfl : S = S' := funext e
  subst en
  exact hS
section
variable {A : Around} {R : Result → Shared → Prop} {I : Addr} {fp wr : List Addr} {G : Array GenState → Array GenState → Prop} {n : Nat} {P : Nat → Value → Prop} {St : Nat → Shared → Prop}
theorem set_loop (knd : PySem.KeyKind prog w κ) (W : WalksS prog w A.in1 I fp wr G n P St) (a : Addr) (hf : a ∉ fp) (f : Nat → κ) (hval : ∀ i v, P i v → knd.is (f i) v = true ∧ v.scannable = true) (hb : n + 1 < scanBound) :
    ∀ (k i : Nat) (s : Shared), n - i = k → i ≤ n → St i s → s.heap.SetOf knd a (fun z => decide (z ∈ metTo f i)) (metTo f i).length →
      (∀ s', Moved (a :: wr) G s s' → s'.heap.SetOf knd a (fun z => decide (z ∈ metTo f n)) (metTo f n).length → R (.ok (.ret .none)) s') →
      codeAny (model prog w) A (.builtin "set.update.loop" ⟨[.ref a, .ref I], []⟩) R s := by
  have hw : a ∉ wr := fun h => hf (W.sub _ h)
  have sub : ∀ b ∈ wr, b ∈ a :: wr := fun b hb => List.mem_cons_of_mem _ hb
  have stay : ∀ {s s' : Shared} {i : Nat}, Moved wr G s s' → s.heap.SetOf knd a (fun z => decide (z ∈ metTo f i)) (metTo f i).length → s'.heap.SetOf knd a (fun z => decide (z ∈ metTo f i)) (metTo f i).length := fun hm hS => by
    obtain ⟨o, es, ep, t, ho, rest⟩ := hS
    exact ⟨o, es, ep, t, hm.heap a _ hw ho, rest⟩
  intro k
  induction k with
  | zero =>
    intro i s hk hi hst hS hR
    obtain rfl : i = n := by omega
    refine codeAny_builtin F.entry_set_update_loop ?_
    rw [Around.under_plainId F.plain_set_update_loop _]
    refine wpAny_bind (m := pyNext (.ref I)) (W.done s _ _ hst fun s' hm => ?_)
    exact wpAny_pure (hR s' (hm.mono sub) (stay hm hS))
  | succ k ih =>
    intro i s hk hi hst hS hR
    have hlt : i < n := by omega
    refine codeAny_builtin F.entry_set_update_loop ?_
    rw [Around.under_plainId F.plain_set_update_loop _]
    refine wpAny_bind (m := pyNext (.ref I)) (W.item i s _ _ hlt hst fun v s' hP hst' hm => ?_)
    obtain ⟨hv, hsc⟩ := hval i v hP
    have hS' := stay hm hS
    refine wpAny_bind (m := holding [v] (setAdd a v)) (wpAny_holding ?_)
    unfold setAdd
    refine wpAny_holding (wpAny_bind (knd.pyHash (k := f i) hv ?_))
    have room : (metTo f i).length + 1 < scanBound := by have := metTo_len f i; omega
    refine wpAny_setAddHashed_of (knd := knd) (s := { s' with toks := s'.toks + 1 }) hv hsc hS' room fun h' hsb hS2 => ?_
    have hSi : h'.SetOf knd a (fun z => decide (z ∈ metTo f (i + 1))) (metTo f (i + 1)).length := by
      refine setOf_as hS2 (fun z => ?_) ?_
      · rw [← Bool.decide_or]
        refine decide_eq_decide.mpr ?_
        show _ ↔ z ∈ (if f i ∈ metTo f i then metTo f i else f i :: metTo f i)
        split
        · rename_i q
          constructor
          · rintro (h | h)
            · exact h
            · rw [h]; exact q
          · exact .inl
        · rw [List.mem_cons]
          exact Or.comm
      · show _ = (if f i ∈ metTo f i then metTo f i else f i :: metTo f i).length
        by_cases q : f i ∈ metTo f i
        · simp [q]
        · simp [q]
    refine wpAny_pure ⟨plainId_quiet F.plain_set_update_loop _, ih (i + 1) _ (by omega) hlt (W.frame _ s' _ _ hst' (Nat.le_succ _) fun b hb o e => ?_) hSi fun s'' hm'' hS'' => ?_⟩
    · rw [hsb.2 b (fun h : b = a => hf (h ▸ hb))]; exact e
    · refine hR s'' (Moved.trans W.gtrans ((hm.mono sub).then_heap (Nat.le_succ _) fun b o hb e => ?_) hm'') hS''
      rw [hsb.2 b (fun h : b = a => hb (h ▸ List.mem_cons_self))]; exact e
end
section
variable {A : Around} {E : Value → Shared → Prop} {s : Shared}
/-- set(xs) -/
theorem call_set_keys (knd : PySem.KeyKind prog w κ) {l : Addr} {items : Array Value} {Q : Value → Shared → Prop} (f : Nat → κ)
    (hh : A.handled = none) (hl : s.heap.IsList l items) (hi : ∀ (i : Nat) v, items[i]? = some v → knd.is (f i) v = true ∧ v.scannable = true) (hb : items.size + 1 < scanBound)
    (h : ∀ (h' : Heap) (tk : Nat), h'.SetOf knd s.heap.objs.size (fun z => decide (z ∈ metTo f items.size)) (metTo f items.size).length →
      (∀ b o, b < s.heap.objs.size → s.heap.get? b = some o → h'.get? b = some o) → Q (.ref s.heap.objs.size) { s with heap := h', toks := tk }) :
    wpAny (model prog w) A (call (.type "set") [.ref l]) Q E s := by
  obtain ⟨c, tl, hmro⟩ := PySem.F.called_set.mro
  have hmade := PySem.F.called_set.made
  have hsub := PySem.F.called_set.sub
  refine wpAny_call (codeAny_of_tree ?_)
  refine wpAny_pure ⟨Code.quiet_builtin _ (by decide +kernel), codeAny_builtin PySem.F.entry_type_call ?_⟩
  rw [Around.under_plain (weight_type_call_type "set" [.ref l] []) rfl]
  have h1 := PySem.F.called_set.notType
  have h2 := PySem.F.called_set.canCreate
  have hct := PySem.F.typeCall_set_1 (.ref l)
  repeat (any_goals (first | assumption | wp_step))
  refine codeAny_mono (code_set_new_1 (.ref l) (E := E) (Q₁ := fun obj s₁ => ∃ led : Bool, obj = .ref s.heap.objs.size ∧ s₁ = { s with heap := s.heap.push (nset led) }) fun led => ⟨led, rfl, rfl⟩) fun r s₁ hr => ?_
  cases r with
  | error e => exact hr
  | ok fl =>
    cases fl with
    | ret obj =>
      obtain ⟨led, rfl, rfl⟩ := hr
      have hS : (s.heap.push (nset led)).get? s.heap.objs.size = some (nset led) := Heap.get?_push_size _ rfl
      have hT : Shared.TypeIs { s with heap := s.heap.push (nset led) } (.ref s.heap.objs.size) "set" := ⟨_, hS, rfl⟩
      have hli := PySem.F.called_set.init.lookup
      have hbi := PySem.F.called_set.init.bind (.ref s.heap.objs.size)
      repeat (any_goals (first | assumption | wp_step))
      refine codeAny_mono (codeAny_call_builtin (R := wants (fun r s₂ => r = .none ∧ ∃ h' tk, s₂ = { s with heap := h', toks := tk } ∧ h'.SetOf knd s.heap.objs.size (fun z => decide (z ∈ metTo f items.size)) (metTo f items.size).length ∧
          (∀ b o, b < s.heap.objs.size → s.heap.get? b = some o → h'.get? b = some o)) E) PySem.F.called_set.init.plain PySem.F.entry_set_init (check_set_init_1 hT ?_)) fun r₂ s₂ hr₂ => ?_
      · obtain ⟨⟨ocls, odict, odata, oslots⟩, hol, hcl, nl, hdl⟩ := hl
        simp only at hcl hdl
        subst hcl hdl
        have hol' : (s.heap.push (nset led)).get? l = some { cls := .type "list", dict := odict, data := .seq items nl, slots := oslots } := Heap.get?_push_of_some _ hol
        have hsls := PySem.F.sub_list_set
        have hslf := PySem.F.sub_list_frozenset
        have hne : (Value.type "list" == Value.type "dict") = false := by decide
        have hl1 : (s.heap.push (nset led)).IsList l items := ⟨_, hol', rfl, nl, rfl⟩
        unfold Builtin.«set.__init__» noKeywords Builtin.Frozenset.updateFrom
        generalize hPI : pyIter = PI
        wp_walk
        subst hPI
        refine wpAny_pyIter_list hl1 (wpAny_bind (wpAny_runValue ?_))
        have hlS : l < s.heap.objs.size := Heap.lt_size hol
        have hh3 : A.in1.in1.in1.handled = none := by simp [hh]
        have sz : (s.heap.push (nset led)).objs.size = s.heap.objs.size + 1 := Heap.size_push _ _
        have hneI : l ≠ (s.heap.push (nset led)).objs.size := by rw [sz]; exact Nat.ne_of_lt (Nat.lt_succ_of_lt hlS)
        have hSf : s.heap.objs.size ∉ [(s.heap.push (nset led)).objs.size, l] := by
          rw [sz]
          intro q
          rcases List.mem_cons.mp q with q | q
          · exact absurd q (Nat.ne_of_lt (Nat.lt_succ_self _))
          · exact absurd (List.mem_singleton.mp q) (Nat.ne_of_gt hlS)
        refine set_loop knd ((Walks.list hh3 _ l hneI items).toS) s.heap.objs.size hSf f hi hb (items.size - 0) 0 _ (by omega) (Nat.zero_le _) ⟨⟨_, Heap.get?_push_size _ rfl, rfl, rfl⟩, (hl1.push _)⟩ ?hS0 ?hR
        case hS0 =>
          refine setOf_as ((setObjOf_fresh (knd := knd) led).setOf (Heap.get?_push_of_some _ hS) (by unfold scanBound; omega)) (fun z => ?_) rfl
          simp [metTo]
        case hR =>
          intro s' hm hS'
          obtain ⟨h', g', d', tk', os'⟩ := s'
          obtain rfl : g' = s.gens := hm.gens
          obtain rfl : d' = s.drawn := hm.drawn
          obtain rfl : os' = s.os := hm.os
          refine wpAny_pure (wpAny_pure ⟨rfl, h', tk', rfl, hS', fun b o hb e => ?_⟩)
          refine hm.heap b o (fun q => ?_) (Heap.get?_push_of_some _ (Heap.get?_push_of_some _ e))
          rcases List.mem_cons.mp q with q | q
          · exact absurd q (Nat.ne_of_lt hb)
          · have q' := List.mem_singleton.mp q
            rw [sz] at q'
            exact absurd q' (Nat.ne_of_lt (Nat.lt_succ_of_lt hb))
      · cases r₂ with
        | error e => exact hr₂
        | ok fl₂ =>
          cases fl₂ with
          | ret r =>
            obtain ⟨rfl, h', tk, rfl, hS', hk'⟩ := hr₂
            repeat (any_goals (first | assumption | wp_step))
            exact h _ _ hS' hk'
          | _ => exact hr₂.elim
    | _ => exact hr.elim
end
end
/-- len(set(xs)), xs a list of texts -/
theorem strAt : ∀ {xs : List Str} {us : List Value}, Vals (xs.map V.str) us → ∀ (i : Nat) v, us[i]? = some v → ∃ t, v = .str (xs.getD i Str.empty) t
  | [], _, .nil, i, v, h => by simp at h
  | x :: xs, _, .cons r t, 0, v, h => by
    obtain ⟨k, rfl⟩ := r
    obtain rfl := Option.some.inj h
    exact ⟨k, rfl⟩
  | x :: xs, _, .cons r t, i + 1, v, h => strAt t i v h
def tLenSetS (K : PySem.W.Frag) (ta : TE) : TE := fun σ H Q => ta σ H fun x H1 => ∃ l, ∃ xs : List Str, x = .ref l ∧ SqL K H1 l (xs.map V.str) ∧ xs.length ≤ 1000 ∧ ∀ n : Nat, (n = xs.length ↔ xs.Nodup) → Q (.int n) H1
theorem pe_lenSetS {X : Cx} {a : Expr} {ta : TE} {p p2 q pos : Pos} (hc : X.calm = true) (hg : Gl X "len") (hm : X.mg "len" = none) (hg2 : Gl X "set") (hm2 : X.mg "set" = none) (ha : PE X a ta)
    (na : starEach [a] X.env = (false, eval a X.env) :: starEach [] X.env := by rfl) : PE X (.Call (.Name "len" p) [.Call (.Name "set" p2) [a] [] q] [] pos) (tLenSetS X.K ta) := by
  refine ⟨fun pins s σ H Q I h => ?_⟩
  refine Call_ (ld_blt I hg hm boot_len (callWith_builtin1 (args_cons ?_ rfl) rfl rfl))
  refine Call_ (ld_blt I hg2 hm2 boot_set (callWith_type1 (args_cons (thn (ha.run pins s σ H _ I h) fun v s1 ⟨x, H1, I1, r1, q1⟩ => args_nil ?_) na) na rfl))
  obtain ⟨l, xs, rfl, hq, h1, q1⟩ := q1
  cases r1
  obtain ⟨its, r, pl, hz⟩ := I1.list hq
  have hl : its.toArray.size = xs.length := by rw [List.size_toArray, ← r.length, List.length_map]
  refine call_set_keys (PySem.strKind X.prog X.w) (fun i => xs.getD i Str.empty) (I1.ok.hd hc) pl.isList (fun i v hv => ?_) (by rw [hl]; unfold scanBound; omega) fun h' tk hS hk => args_nil ?_
  · obtain ⟨t, rfl⟩ := strAt r i v (by simpa using hv)
    exact ⟨strKind_is _ _ _ _, rfl⟩
  · rw [hl] at hS
    have hN := metTo_list xs Str.empty
    have hle := metTo_len (fun i => xs.getD i Str.empty) xs.length
    obtain ⟨o, es, ep, t, ho, hex, hd, _, _, _, hf, hn⟩ := hS
    have I2 : Inv X pins σ H1 { s1 with heap := h', toks := tk } := I1.kept fun b o e => hk b o (Heap.lt_size e) e
    exact call_len_set ho hex hd hf (by rw [hn]; omega) ⟨.int _, H1, I2.tok _, ⟨_, by rw [hn]⟩, q1 _ hN⟩
end TP

namespace TP
open PySem PySem.Spec PyProof.Rows L2
/-! ### readings, step by step: each lemma takes one head away -/
section
variable {σ : L2.St} {H : Hp} {Q : VK} {QB : Bool → Hp → Prop} {QA : List V → Hp → Prop} {D : Ends} {ta tb te to : TE} {tt tu : TT} {tl tr : TA} {ts us : TS} {x y v : V} {i j : Int} {K : PySem.W.Frag}
theorem go_var {n : Nat} (h : σ[n]? = some (some v)) (q : Q v H) : tVar n σ H Q := ⟨v, h, q⟩
theorem go_c (q : Q v H) : tC v σ H Q := q
theorem go_op {r : R2} (q : ta σ H fun x H1 => tb σ H1 fun y H2 => r x y H2 Q) : tOp r ta tb σ H Q := q
theorem go_un {r : V → Hp → VK → Prop} (q : ta σ H fun x H1 => r x H1 Q) : tUn r ta σ H Q := q
theorem go_lenSet (q : ta σ H fun x H1 => ∃ l, ∃ xs : List Str, x = .ref l ∧ SqL K H1 l (xs.map V.str) ∧ xs.length ≤ 1000 ∧ ∀ n : Nat, (n = xs.length ↔ xs.Nodup) → Q (.int n) H1) : tLenSetS K ta σ H Q := q
theorem go_nil (q : QA [] H) : tNil σ H QA := q
theorem go_cons (q : ta σ H fun x H1 => tl σ H1 fun xs H2 => QA (x :: xs) H2) : tCons ta tl σ H QA := q
theorem go_tup (q : tl σ H fun xs H1 => xs.length ≤ sizeLine ∧ ∀ p, H1 p = none → Q (.ref p) (upd H1 p (.tup xs))) : tTup tl σ H Q := q
theorem go_lst (q : tl σ H fun xs H1 => xs.length ≤ sizeLine ∧ ∀ p, H1 p = none → Q (.ref p) (upd H1 p (.lst xs))) : tLst tl σ H Q := q
theorem go_call {sp : Sp} {dvs : List V} {E : XK} (q : tl σ H fun vs H1 => sp (vs ++ dvs) H1 Q E) : tCall sp dvs E tl σ H Q := q
theorem go_cb {r : List V → Hp → VK → Prop} (q : tl σ H fun vs H1 => r vs H1 Q) : tCB r tl σ H Q := q
theorem go_bm {T : String} {r : V → List V → Hp → VK → Prop} (q : to σ H fun x H1 => tyV K T x H1 ∧ tl σ H1 fun xs H2 => r x xs H2 Q) : tBM K T r to tl σ H Q := q
theorem go_m1 {r : V → List V → Hp → VK → Prop} (q : to σ H fun x H1 => (∃ a, x = .str a) ∧ te σ H1 fun y H2 => r x [y] H2 Q) : tM1 r to te σ H Q := q
theorem go_sl {r : V → Option Int → Option Int → Hp → VK → Prop} {tlo thi : TO} (q : te σ H fun x H1 => tlo σ H1 fun l H2 => thi σ H2 fun u H3 => r x l u H3 Q) : tSl r te tlo thi σ H Q := q
theorem go_nopart {QO : Option Int → Hp → Prop} (q : QO none H) : tNoPart σ H QO := q
theorem go_part {QO : Option Int → Hp → Prop} (q : te σ H fun x H1 => ∃ i, x = .int i ∧ QO (some i) H1) : tPart te σ H QO := q
theorem go_notV (q : ta σ H fun x H1 => ∃ c, x = .bl c ∧ Q (.bl (!c)) H1) : tNotV ta σ H Q := q
theorem go_andV (q : ta σ H fun x H1 => ∃ c, x = .bl c ∧ if c = true then tb σ H1 Q else Q (.bl false) H1) : tAndV ta tb σ H Q := q
theorem go_orV (q : ta σ H fun x H1 => ∃ c, x = .bl c ∧ if c = true then Q (.bl true) H1 else tb σ H1 Q) : tOrV ta tb σ H Q := q
theorem go_ifE (q : tt σ H fun c H1 => if c = true then ta σ H1 Q else tb σ H1 Q) : tIf tt ta tb σ H Q := q
theorem go_test (q : ta σ H fun x H1 => ∃ k, x = .bl k ∧ QB k H1) : tTest ta σ H QB := q
theorem go_B (q : ta σ H fun x H1 => ∃ k, x = .bl k ∧ QB k H1) : tB ta σ H QB := q
theorem go_tru (q : ta σ H fun x H1 => ∃ k, TruV K x H1 k ∧ QB k H1) : tTru K ta σ H QB := q
theorem go_and (q : tt σ H fun c H1 => if c = true then tu σ H1 QB else QB false H1) : tAnd tt tu σ H QB := q
theorem go_or (q : tt σ H fun c H1 => if c = true then QB true H1 else tu σ H1 QB) : tOr tt tu σ H QB := q
theorem go_not (q : tt σ H fun c H1 => QB (!c) H1) : tNot tt σ H QB := q
theorem go_yes (q : QB true H) : tYes σ H QB := q
theorem go_bl {QQ : Bool → Prop} {b : Bool} (q : QQ b) : ∃ k, V.bl b = V.bl k ∧ QQ k := ⟨b, rfl, q⟩
theorem go_intx {QQ : Int → Prop} {b : Int} (q : QQ b) : ∃ k, V.int b = V.int k ∧ QQ k := ⟨b, rfl, q⟩
theorem go_strx {QQ : Prop} {b : Str} (q : QQ) : (∃ a, V.str b = V.str a) ∧ QQ := ⟨⟨b, rfl⟩, q⟩
theorem go_seq (q : ts { D with nx := us D } σ H) : tSeq ts us D σ H := q
theorem go_cut (M : L2.St → Hp → Prop) (h1 : (∀ σ2 H2, M σ2 H2 → us D σ2 H2) → ts { D with nx := us D } σ H) (h2 : ∀ σ2 H2, M σ2 H2 → us D σ2 H2) : tSeq ts us D σ H := h1 h2
theorem go_next (q : D.nx σ H) : tNext D σ H := q
theorem go_asg {g : TG} (q : te σ H fun x H1 => g x σ H1 D.nx) : tAsg te g D σ H := q
theorem go_name {n : Nat} {QS : L2.St → Hp → Prop} (q : QS (σ.set n (some v)) H) : gName n v σ H QS := q
theorem go_gsub {ti : TE} {tst : TSet} {QS : L2.St → Hp → Prop} (q : to σ H fun o H1 => ti σ H1 fun i H2 => tst o i v H2 fun H3 => QS σ H3) : gSub to ti tst v σ H QS := q
theorem go_drop (q : te σ H fun _ H1 => D.nx σ H1) : tDrop te D σ H := q
theorem go_ret (q : te σ H D.rt) : tRet te D σ H := q
theorem go_retN (q : D.rt .non H) : tRetN D σ H := q
theorem go_ifS (q : tt σ H fun b H1 => if b = true then ts D σ H1 else us D σ H1) : tIfS tt ts us D σ H := q
theorem go_aug {n : Nat} {ti : TIp} (h : σ[n]? = some (some x)) (q : te σ H fun y H1 => ti x y H1 fun z H2 => D.nx (σ.set n (some z)) H2) : tAug n te ti D σ H := ⟨x, h, q⟩
theorem go_ipI {f : Int → Int → Int} (q : Q (.int (f i j)) H) : ipI f (.int i) (.int j) H Q := ⟨i, j, rfl, rfl, q⟩
theorem go_T {A B : Prop} (q : A) : if true = true then A else B := iteT q
theorem go_F {A B : Prop} (q : B) : if false = true then A else B := iteF q
theorem go_nT {A B : Prop} (q : B) : if (!true) = true then A else B := iteF q
theorem go_nF {A B : Prop} (q : A) : if (!false) = true then A else B := iteT q
/-! what the operators ask of values -/
theorem go_plusI (q : Q (.int (i + j)) H) : rPlus (.int i) (.int j) H Q := .inl ⟨i, j, rfl, rfl, q⟩
theorem go_plusS {a b : Str} (h : a.length + b.length ≤ sizeLine) (q : Q (.str (a ++ b)) H) : rPlus (.str a) (.str b) H Q := .inr (.inl ⟨a, b, rfl, rfl, h, q⟩)
theorem go_plusL {a b : Addr} {xs ys : List V} (ha : H a = some (.lst xs)) (hb : H b = some (.lst ys)) (h : xs.length + ys.length ≤ sizeLine) (q : ∀ p, H p = none → Q (.ref p) (upd H p (.lst (xs ++ ys)))) : rPlus (.ref a) (.ref b) H Q :=
  .inr (.inr ⟨a, b, xs, ys, rfl, rfl, ha, hb, h, q⟩)
theorem go_minus (q : Q (.int (i - j)) H) : rMinus (.int i) (.int j) H Q := ⟨i, j, rfl, rfl, q⟩
theorem go_times (h : CMul i j) (q : Q (.int (i * j)) H) : rTimes (.int i) (.int j) H Q := .inl ⟨i, j, rfl, rfl, h, q⟩
theorem go_rest (h : 0 < j) (q : Q (.int (i % j)) H) : rRest (.int i) (.int j) H Q := ⟨i, j, rfl, rfl, h, q⟩
theorem go_quot (h : CDivW i j) (q : Q (.int (i / j)) H) : rQuot (.int i) (.int j) H Q := ⟨i, j, rfl, rfl, h, q⟩
theorem go_pow (h : CPow i j) (q : Q (.int (i ^ j.toNat)) H) : rPow (.int i) (.int j) H Q := ⟨i, j, rfl, rfl, h, q⟩
theorem go_less (q : Q (.bl (decide (i < j))) H) : rLess (.int i) (.int j) H Q := ⟨i, j, rfl, rfl, q⟩
theorem go_leq (q : Q (.bl (decide (i ≤ j))) H) : rLeq (.int i) (.int j) H Q := ⟨i, j, rfl, rfl, q⟩
theorem go_more (q : Q (.bl (decide (j < i))) H) : rMore (.int i) (.int j) H Q := ⟨i, j, rfl, rfl, q⟩
theorem go_geq (q : Q (.bl (decide (j ≤ i))) H) : rGeq (.int i) (.int j) H Q := ⟨i, j, rfl, rfl, q⟩
theorem go_neg (q : Q (.int (-i)) H) : rNeg (.int i) H Q := ⟨i, rfl, q⟩
theorem go_isno (q : Q (.bl (decide (x = .non))) H) : rIsNo x .non H Q := ⟨rfl, q⟩
theorem go_isntno (q : Q (.bl (!decide (x = .non))) H) : rIsntNo x .non H Q := ⟨rfl, q⟩
theorem go_sameI (q : Q (.bl (decide (i = j))) H) : rSame K (.int i) (.int j) H Q := .inl ⟨rfl, by
  have e : decide (V.int i = V.int j) = decide (i = j) := decide_eq_decide.mpr ⟨fun h => V.int.inj h, fun h => congrArg _ h⟩
  rw [e]; exact q⟩
theorem go_sameB {a b : Bool} (q : Q (.bl (a == b)) H) : rSame K (.bl a) (.bl b) H Q := .inl ⟨rfl, by
  have e : decide (V.bl a = V.bl b) = (a == b) := by cases a <;> cases b <;> decide
  rw [e]; exact q⟩
theorem go_unB {a b : Bool} (q : Q (.bl (a != b)) H) : rUnlike K (.bl a) (.bl b) H Q := .inl ⟨rfl, by
  have e : (!decide (V.bl a = V.bl b)) = (a != b) := by cases a <;> cases b <;> decide
  rw [e]; exact q⟩
theorem go_sameS {a b : Str} (q : Q (.bl (decide (a = b))) H) : rSame K (.str a) (.str b) H Q := .inl ⟨rfl, by
  have e : decide (V.str a = V.str b) = decide (a = b) := decide_eq_decide.mpr ⟨fun h => V.str.inj h, fun h => congrArg _ h⟩
  rw [e]; exact q⟩
theorem go_unI (q : Q (.bl (!decide (i = j))) H) : rUnlike K (.int i) (.int j) H Q := .inl ⟨rfl, by
  have e : decide (V.int i = V.int j) = decide (i = j) := decide_eq_decide.mpr ⟨fun h => V.int.inj h, fun h => congrArg _ h⟩
  rw [e]; exact q⟩
theorem go_unS {a b : Str} (q : Q (.bl (!decide (a = b))) H) : rUnlike K (.str a) (.str b) H Q := .inl ⟨rfl, by
  have e : decide (V.str a = V.str b) = decide (a = b) := decide_eq_decide.mpr ⟨fun h => V.str.inj h, fun h => congrArg _ h⟩
  rw [e]; exact q⟩
theorem go_int1 (q : Q (.int i) H) : rInt1 [.int i] H Q := .inl ⟨i, rfl, q⟩
theorem go_lenL {a : Addr} {xs : List V} (h : SqL K H a xs) (q : Q (.int xs.length) H) : rLen K [.ref a] H Q := ⟨_, xs.length, rfl, .inl ⟨xs, h, rfl⟩, q⟩
theorem go_lenT {a : Addr} {xs : List V} (h : SqT K H a xs) (q : Q (.int xs.length) H) : rLen K [.ref a] H Q := ⟨_, xs.length, rfl, .inr ⟨xs, h, rfl⟩, q⟩
theorem go_ixL {a : Addr} {xs : List V} (h : SqL K H a xs) (e : atI xs i = some v) (q : Q v H) : rIx K (.ref a) (.int i) H Q := .inl ⟨a, xs, i, v, rfl, rfl, h, e, q⟩
theorem go_ixT {a : Addr} {xs : List V} (h : SqT K H a xs) (e : atI xs i = some v) (q : Q v H) : rIx K (.ref a) (.int i) H Q := .inr (.inl ⟨a, xs, i, v, rfl, rfl, h, e, q⟩)
theorem go_setL {a : Addr} {xs : List V} {k : Int} {m : Nat} {QH : Hp → Prop} (h : H a = some (.lst xs)) (e : ixN xs.length k = some m) (q : QH (upd H a (.lst (xs.set m v)))) : rSetL (.ref a) (.int k) v H QH := ⟨a, xs, k, m, rfl, rfl, h, e, q⟩
theorem go_slL {a : Addr} {xs : List V} {lo hi : Option Int} (h : SqL K H a xs) (q : ∀ p, H p = none → Q (.ref p) (upd H p (.lst (cutV xs lo hi)))) : rSlL K (.ref a) lo hi H Q := ⟨a, xs, rfl, h, q⟩
theorem go_inL {a : Addr} {xs : List V} (h : SqL K H a xs) (fx : flatV x = true) (fa : xs.all flatV = true) (q : Q (.bl (inV x xs)) H) : rIn K false x (.ref a) H Q := ⟨a, xs, rfl, .inl h, fx, fa, q⟩
theorem go_inT {a : Addr} {xs : List V} (h : SqT K H a xs) (fx : flatV x = true) (fa : xs.all flatV = true) (q : Q (.bl (inV x xs)) H) : rIn K false x (.ref a) H Q := ⟨a, xs, rfl, .inr h, fx, fa, q⟩
theorem go_ninL {a : Addr} {xs : List V} (h : SqL K H a xs) (fx : flatV x = true) (fa : xs.all flatV = true) (q : Q (.bl (!inV x xs)) H) : rIn K true x (.ref a) H Q := ⟨a, xs, rfl, .inl h, fx, fa, q⟩
theorem go_ninT {a : Addr} {xs : List V} (h : SqT K H a xs) (fx : flatV x = true) (fa : xs.all flatV = true) (q : Q (.bl (!inV x xs)) H) : rIn K true x (.ref a) H Q := ⟨a, xs, rfl, .inr h, fx, fa, q⟩
theorem go_isi {a c : V} {t u : Value} {b : Bool} (k : ClsV c u) (h : TyX K H a t) (e : PySem.W.kitOne K t u = some b) (q : Q (.bl b) H) : rIsi K [a, c] H Q := ⟨a, c, t, u, b, rfl, k, h, e, q⟩
theorem go_split {a b : Str} (h : (b.length == 0) = false) (h2 : a.length + 2 ≤ sizeLine) (q : ∀ p, H p = none → Q (.ref p) (upd H p (.lst ((Txt.split a b).map V.str)))) : rSplit (.str a) [.str b] H Q := ⟨a, b, rfl, rfl, h, h2, q⟩
theorem go_joinL {a : Str} {p : Addr} {ys : List Str} (h : SqL K H p (ys.map V.str)) (h2 : (ys.map (·.length)).sum + ys.length * a.length ≤ 16777216) (q : Q (.str (Txt.join a ys)) H) : rJoin K (.str a) [.ref p] H Q := ⟨a, p, ys, rfl, rfl, .inl h, h2, q⟩
theorem go_listL {a : Addr} {xs : List V} (h : SqL K H a xs) (q : ∀ p, H p = none → Q (.ref p) (upd H p (.lst xs))) : rListOf K [.ref a] H Q := ⟨a, xs, rfl, .inl h, q⟩
theorem go_listT {a : Addr} {xs : List V} (h : SqT K H a xs) (q : ∀ p, H p = none → Q (.ref p) (upd H p (.lst xs))) : rListOf K [.ref a] H Q := ⟨a, xs, rfl, .inr h, q⟩
theorem go_tupleL {a : Addr} {xs : List V} (h : SqL K H a xs) (q : ∀ p, H p = none → Q (.ref p) (upd H p (.tup xs))) : rTupleOf K [.ref a] H Q := ⟨a, xs, rfl, .inl ⟨h, q⟩⟩
theorem go_append {a : Addr} {xs : List V} (h : H a = some (.lst xs)) (hz : xs.length < sizeLine) (q : Q .non (upd H a (.lst (xs ++ [y])))) : rAppend (.ref a) [y] H Q := ⟨a, xs, y, rfl, rfl, h, hz, q⟩
theorem go_tyL {a : Addr} {xs : List V} {QQ : Prop} (h : SqL K H a xs) (q : QQ) : tyV K "list" (.ref a) H ∧ QQ := ⟨.inl ⟨rfl, xs, h⟩, q⟩
theorem go_all {a : Addr} {bs : List Bool} (h : SqL K H a (bs.map V.bl)) (q : Q (.bl (bs.all id)) H) : rAll K [.ref a] H Q := ⟨a, bs, rfl, h, q⟩
theorem go_any {a : Addr} {bs : List Bool} (h : SqL K H a (bs.map V.bl)) (q : Q (.bl (bs.any id)) H) : rAny K [.ref a] H Q := ⟨a, bs, rfl, h, q⟩
end
/-! ### heaps -/
theorem Same.new {H : Hp} {p : Addr} {o : HO} (h : H p = none) : Same H (upd H p o) := fun a u e => by
  rw [upd_ne (ne_of_none e h)]; exact e
theorem Same.none {H H' : Hp} (e : Same H H') {l : Addr} (h : H' l = Option.none) : H l = Option.none := e.free h
theorem Same.sqT {K : PySem.W.Frag} {H H' : Hp} {a : Addr} {xs : List V} (e : Same H H') (h : SqT K H a xs) : SqT K H' a xs := by
  rcases h with (h | ⟨o, h⟩) | h
  · exact .inl (.inl (e _ _ h))
  · exact .inl (.inr ⟨o, e _ _ h⟩)
  · exact .inr h
theorem sz1000 {n : Nat} (h : n ≤ 100000) : n ≤ sizeLine := Nat.le_trans h (by decide)
theorem sz1000l {n : Nat} (h : n < 100000) : n < sizeLine := Nat.lt_of_lt_of_le h (by decide)
theorem sIx_pos {n d : Nat} {k : Int} (h : 0 ≤ k) : HT.sIx n d (some k) = min k.toNat n := by
  show (if k < 0 then (k + (n : Int)).toNat else min k.toNat n) = _
  rw [if_neg (by omega)]
theorem cut_take {xs : List V} {k : Int} (h : 0 ≤ k) : cutV xs none (some k) = xs.take k.toNat := by
  unfold cutV
  rw [sIx_pos h]
  show (xs.drop 0).take (min k.toNat xs.length - 0) = _
  rw [List.drop_zero, Nat.sub_zero, List.take_eq_take_iff]
  omega
theorem cut_drop {xs : List V} {k : Int} (h : 0 ≤ k) : cutV xs (some k) none = xs.drop k.toNat := by
  unfold cutV
  rw [sIx_pos h]
  show (xs.drop (min k.toNat xs.length)).take (xs.length - min k.toNat xs.length) = _
  rcases Nat.lt_or_ge k.toNat xs.length with q | q
  · rw [Nat.min_eq_left (Nat.le_of_lt q)]
    exact List.take_of_length_le (by rw [List.length_drop]; omega)
  · rw [Nat.min_eq_right q, List.drop_of_length_le (Nat.le_refl _), List.drop_of_length_le q]
    simp
/-! ### loops and comprehensions: what they walk, then their own question -/
def LcR (J : It) (g : TG) (tt : TT) (te : TE) (vs : List Nat) (σ : L2.St) (H1 : Hp) (D : Addr) (Q : VK) : Prop := ∃ W : Nat → Nat → Hp → Prop, (∃ m, W 0 m (upd H1 D (.lst []))) ∧ ∀ i m H, W i m H →
  (J.stop i H ∧ Q (.ref D) H) ∨ (J.go i H ∧ ∃ Nx : Hp → Prop, (∀ H', Nx H' → ∃ m', m' < m ∧ W (i + 1) m' H') ∧ ∀ x H', J.yld i H x H' → g x (wipe σ vs) H' fun σ2 H2 => wipe σ2 vs = wipe σ vs ∧ tt σ2 H2 fun b H3 =>
    if b = true then te σ2 H3 fun y H4 => ∃ acc, H4 D = some (.lst acc) ∧ acc.length < sizeLine ∧ Nx (upd H4 D (.lst (acc ++ [y]))) else Nx H3)
def ForR (J : It) (g : TG) (tb : TS) (D : Ends) (σ : L2.St) (H1 : Hp) : Prop := ∃ W : Nat → Nat → L2.St → Hp → Prop, (∃ m, W 0 m σ H1) ∧ ∀ i m σ H, W i m σ H →
  (J.stop i H ∧ D.nx σ H) ∨ (J.go i H ∧ ∃ N : L2.St → Hp → Prop, (∀ σ' H', N σ' H' → ∃ m', m' < m ∧ W (i + 1) m' σ' H') ∧ ∀ x H', J.yld i H x H' → g x σ H' fun σ2 H2 => tb { D with nx := N, ct := N, bk := D.nx } σ2 H2)
section
variable {σ : L2.St} {H : Hp} {Q : VK} {D : Ends} {te : TE} {tt : TT} {tl : TA} {tb : TS} {g : TG} {wi : TI} {vs : List Nat} {K : PySem.W.Frag} {R : It → Hp → Prop} {i j : Int}
theorem go_lc (q : wi σ H fun J H1 => ∀ A, H1 A = none → LcR J g tt te vs σ H1 A Q) : tLc wi g tt te vs σ H Q := q
theorem go_for (q : wi σ H fun J H1 => ForR J g tb D σ H1) : tFor wi g tb D σ H := q
theorem go_ilist (q : te σ H fun x H1 => ∃ a, x = .ref a ∧ (∃ xs, SqL K H1 a xs) ∧ R (Itl K a) H1) : iList K te σ H R := q
theorem go_itup (q : te σ H fun x H1 => ∃ a, x = .ref a ∧ (∃ xs, SqT K H1 a xs) ∧ R (Itt K a) H1) : iTup K te σ H R := q
theorem go_irng1 (q : tl σ H fun vs H1 => ∃ j : Int, vs = [.int j] ∧ -(2 ^ 62) ≤ j ∧ j < 2 ^ 62 ∧ R (Itr 0 j.toNat) H1) : iRng1 tl σ H R := q
theorem go_irng2 (q : tl σ H fun vs H1 => ∃ i j : Int, vs = [.int i, .int j] ∧ (-(2 ^ 62) ≤ i ∧ i < 2 ^ 62 ∧ -(2 ^ 62) ≤ j ∧ j < 2 ^ 62) ∧ R (Itr i (j - i).toNat) H1) : iRng2 tl σ H R := q
theorem go_seqAt {a : Addr} {xs : List V} {RR : Addr → Prop} (h : SqL K H a xs) (q : RR a) : ∃ b, V.ref a = .ref b ∧ (∃ xs, SqL K H b xs) ∧ RR b := ⟨a, rfl, ⟨xs, h⟩, q⟩
theorem go_tupAt {a : Addr} {xs : List V} {RR : Addr → Prop} (h : SqT K H a xs) (q : RR a) : ∃ b, V.ref a = .ref b ∧ (∃ xs, SqT K H b xs) ∧ RR b := ⟨a, rfl, ⟨xs, h⟩, q⟩
theorem go_rng1 {RR : Int → Prop} (h1 : -(2 ^ 62) ≤ j) (h2 : j < 2 ^ 62) (q : RR j) : ∃ k : Int, [V.int j] = [.int k] ∧ -(2 ^ 62) ≤ k ∧ k < 2 ^ 62 ∧ RR k := ⟨j, rfl, h1, h2, q⟩
theorem go_rng2 {RR : Int → Int → Prop} (h : -(2 ^ 62) ≤ i ∧ i < 2 ^ 62 ∧ -(2 ^ 62) ≤ j ∧ j < 2 ^ 62) (q : RR i j) : ∃ a b : Int, [V.int i, V.int j] = [.int a, .int b] ∧ (-(2 ^ 62) ≤ a ∧ a < 2 ^ 62 ∧ -(2 ^ 62) ≤ b ∧ b < 2 ^ 62) ∧ RR a b := ⟨i, j, rfl, h, q⟩
end
/-! a comprehension whose turns leave all that stood: what it makes is a function of the items -/
section
variable {σ : L2.St} {H : Hp} {Q : VK} {D : Addr} {te : TE} {tt : TT} {g : TG} {vs : List Nat} {K : PySem.W.Frag} {a : Addr}
/-- one turn, item x: kept or not by c, giving f x -/
def Turn1 (g : TG) (tt : TT) (te : TE) (vs : List Nat) (σ : L2.St) (H0 : Hp) (x : V) (c : Bool) (y : V) : Prop :=
  ∀ (H' : Hp) (A : Addr) (acc : List V) (Nx : Hp → Prop), Same H0 H' → H0 A = none → H' A = some (.lst acc) → acc.length < sizeLine →
    (∀ H2, Same H' H2 → Nx (if c then upd H2 A (.lst (acc ++ [y])) else H2)) →
    g x (wipe σ vs) H' fun σ2 H2 => wipe σ2 vs = wipe σ vs ∧ tt σ2 H2 fun b H3 => if b = true then te σ2 H3 fun y H4 => ∃ acc, H4 A = some (.lst acc) ∧ acc.length < sizeLine ∧ Nx (upd H4 A (.lst (acc ++ [y]))) else Nx H3
theorem take_snoc {α : Type} {l : List α} {i : Nat} {x : α} (h : l[i]? = some x) : l.take (i + 1) = l.take i ++ [x] := by
  rw [List.take_succ, h]; rfl
theorem lcr_seq {J : It} {xs : List V} {c : V → Bool} {f : V → V} (hD : H D = none) (hlen : xs.length ≤ 100000)
    (core : ∀ (Pv : Nat → Hp → Prop), Pv 0 (upd H D (.lst [])) → (∀ i H1, i ≤ xs.length → Pv i H1 → Same H H1) →
      (∀ i x H1, xs[i]? = some x → Pv i H1 → g x (wipe σ vs) H1 fun σ2 H2 => wipe σ2 vs = wipe σ vs ∧ tt σ2 H2 fun b H3 => if b = true then te σ2 H3 fun y H4 => ∃ acc, H4 D = some (.lst acc) ∧ acc.length < sizeLine ∧ Pv (i + 1) (upd H4 D (.lst (acc ++ [y]))) else Pv (i + 1) H3) →
      (∀ H1, Pv xs.length H1 → Q (.ref D) H1) → LcR J g tt te vs σ H D Q)
    (turn : ∀ x ∈ xs, Turn1 g tt te vs σ H x (c x) (f x)) (q : ∀ H', Same H H' → H' D = some (.lst ((xs.filter c).map f)) → Q (.ref D) H') : LcR J g tt te vs σ H D Q := by
  refine core (fun i H1 => Same H H1 ∧ H1 D = some (.lst (((xs.take i).filter c).map f))) ⟨Same.new hD, upd_same⟩ (fun i H1 _ h => h.1) (fun i x H1 hx h => ?_) (fun H1 h => q H1 h.1 (by rw [h.2, List.take_length]))
  have hm : x ∈ xs := List.mem_of_getElem? hx
  have hl : (((xs.take i).filter c).map f).length < sizeLine := sz1000l (by
    have := List.length_filter_le c (xs.take i)
    have hi := (List.getElem?_eq_some_iff.mp hx).1
    rw [List.length_take] at this
    rw [List.length_map]
    omega)
  refine turn x hm H1 D _ _ h.1 hD h.2 hl fun H2 s2 => ?_
  have s := h.1.trans s2
  rw [take_snoc hx, List.filter_append, List.map_append]
  cases e : c x with
  | true =>
    refine ⟨fun b o z => ?_, ?_⟩
    · show upd H2 D _ b = _
      rw [upd_ne (ne_of_none z hD)]
      exact s b o z
    · show upd H2 D _ D = _
      rw [upd_same]
      simp [e]
  | false =>
    refine ⟨s, ?_⟩
    show H2 D = _
    rw [s2 _ _ h.2]
    simp [e]
theorem lcr_list {xs : List V} (c : V → Bool) (f : V → V) (hS : SqL K H a xs) (hD : H D = none) (hlen : xs.length ≤ 100000)
    (turn : ∀ x ∈ xs, Turn1 g tt te vs σ H x (c x) (f x)) (q : ∀ H', Same H H' → H' D = some (.lst ((xs.filter c).map f)) → Q (.ref D) H') : LcR (Itl K a) g tt te vs σ H D Q :=
  lcr_seq hD hlen (fun Pv h0 hk hs hd => lc_list (K := K) (a := a) (xs := xs) Pv h0 (fun i H1 hi h => (hk i H1 hi h).seq hS) hs hd) turn q
theorem lcr_tup {xs : List V} (c : V → Bool) (f : V → V) (hS : SqT K H a xs) (hD : H D = none) (hlen : xs.length ≤ 100000)
    (turn : ∀ x ∈ xs, Turn1 g tt te vs σ H x (c x) (f x)) (q : ∀ H', Same H H' → H' D = some (.lst ((xs.filter c).map f)) → Q (.ref D) H') : LcR (Itt K a) g tt te vs σ H D Q :=
  lcr_seq hD hlen (fun Pv h0 hk hs hd => lc_tup (K := K) (a := a) (xs := xs) Pv h0 (fun i H1 hi h => Same.sqT (hk i H1 hi h) hS) hs hd) turn q
theorem lcr_range {lo : Int} {n : Nat} (c : V → Bool) (f : V → V) (hD : H D = none) (hlen : n ≤ 100000)
    (turn : ∀ k : Nat, k < n → Turn1 g tt te vs σ H (.int (lo + k)) (c (.int (lo + k))) (f (.int (lo + k)))) (q : ∀ H', Same H H' → H' D = some (.lst ((((List.range n).map fun k : Nat => V.int (lo + k)).filter c).map f)) → Q (.ref D) H') :
    LcR (Itr lo n) g tt te vs σ H D Q := by
  have len : ((List.range n).map fun k : Nat => V.int (lo + k)).length = n := by simp
  refine lcr_seq (xs := (List.range n).map fun k : Nat => V.int (lo + k)) (c := c) (f := f) hD (by rw [len]; exact hlen) (fun Pv h0 hk hs hd => lc_range (lo := lo) (n := n) Pv h0 (fun i H1 hi h => ?_) fun H1 h => hd H1 (by rw [len]; exact h)) (fun x hx => ?_) q
  · exact hs i _ H1 (by simp [hi]) h
  · obtain ⟨k, hk, rfl⟩ := List.mem_map.mp hx
    exact turn k (List.mem_range.mp hk)
end
end TP

namespace TP
open PySem PySem.Spec PyProof.Rows L2
/-! ### == of lists and tuples of flat things -/
def okV : V → Bool
  | .non => true
  | .bl _ => true
  | .int _ => true
  | .str x => PyData.canLay0 (.str x)
  | _ => false
def dV : V → PyData
  | .bl b => .bool b
  | .int i => .int i
  | .str x => .str x
  | _ => .none
def eqL : List V → List V → Bool
  | [], [] => true
  | x :: xs, y :: ys => eqV x y && eqL xs ys
  | _, _ => false
section
variable {K : PySem.W.Frag} {H : Hp} {Q : VK}
theorem dp_flat : ∀ {v : V}, okV v = true → Dp K H v (dV v)
  | .non, _ => .non
  | .bl b, _ => .bl b
  | .int i, _ => .int i
  | .str x, _ => .str x
theorem dpall_flat : ∀ {xs : List V}, xs.all okV = true → DpAll K H xs (xs.map dV)
  | [], _ => .nil
  | x :: r, h => by
    rw [List.all_cons, Bool.and_eq_true] at h
    exact .cons (dp_flat h.1) (dpall_flat h.2)
theorem lay_flat : ∀ {xs : List V}, xs.all okV = true → PyData.canLayAll0 (xs.map dV) = true
  | [], _ => by simp [PyData.canLayAll0]
  | x :: r, h => by
    rw [List.all_cons, Bool.and_eq_true] at h
    rw [List.map_cons, PyData.canLayAll0, lay_flat h.2, Bool.and_true]
    cases x <;> first | rfl | exact h.1 | (simp [dV, PyData.canLay0])
theorem depth_flat : ∀ {xs : List V}, PyData.depthAll (xs.map dV) = 0
  | [] => by simp [PyData.depthAll]
  | x :: r => by
    rw [List.map_cons, PyData.depthAll, depth_flat (xs := r)]
    cases x <;> simp [dV, PyData.depth]
theorem shaped_l {xs : List V} (h : xs.all okV = true) : SeqAt.shaped (.list (xs.map dV)) = true := by
  unfold SeqAt.shaped
  rw [PyData.canLay0, lay_flat h, PyData.depth, depth_flat]
  decide
theorem shaped_t {xs : List V} (h : xs.all okV = true) : SeqAt.shaped (.tuple (xs.map dV)) = true := by
  unfold SeqAt.shaped
  rw [PyData.canLay0, lay_flat h, PyData.depth, depth_flat]
  decide
theorem eqv_flat : ∀ {x y : V}, okV x = true → okV y = true → PyData.eqv (dV x) (dV y) = eqV x y := by
  intro x y hx hy
  cases x <;> first | cases hx | skip
  all_goals (cases y <;> first | cases hy | skip)
  all_goals simp [dV, PyData.eqv, eqV]
theorem eqvAll_flat : ∀ {xs ys : List V}, xs.all okV = true → ys.all okV = true → PyData.eqvAll (xs.map dV) (ys.map dV) = eqL xs ys
  | [], [], _, _ => by simp [PyData.eqvAll, eqL]
  | [], y :: ys, _, _ => by simp [PyData.eqvAll, eqL]
  | x :: xs, [], _, _ => by simp [PyData.eqvAll, eqL]
  | x :: xs, y :: ys, h, h2 => by
    rw [List.all_cons, Bool.and_eq_true] at h h2
    rw [List.map_cons, List.map_cons, PyData.eqvAll, eqv_flat h.1 h2.1, eqvAll_flat h.2 h2.2, eqL]
theorem eqv_ll {xs ys : List V} (h : xs.all okV = true) (h2 : ys.all okV = true) : PyData.eqv (.list (xs.map dV)) (.list (ys.map dV)) = eqL xs ys := by
  rw [PyData.eqv, eqvAll_flat h h2]
theorem eqv_tt {xs ys : List V} (h : xs.all okV = true) (h2 : ys.all okV = true) : PyData.eqv (.tuple (xs.map dV)) (.tuple (ys.map dV)) = eqL xs ys := by
  rw [PyData.eqv, eqvAll_flat h h2]
theorem go_sameLL {a b : Addr} {xs ys : List V} (ha : SqL K H a xs) (hb : SqL K H b ys) (fa : xs.all okV = true) (fb : ys.all okV = true) (q : Q (.bl (eqL xs ys)) H) : rSame K (.ref a) (.ref b) H Q :=
  .inr ⟨_, _, .lst ha (dpall_flat fa), .lst hb (dpall_flat fb), shaped_l fa, shaped_l fb, by rw [eqv_ll fa fb]; exact q⟩
theorem go_unLL {a b : Addr} {xs ys : List V} (ha : SqL K H a xs) (hb : SqL K H b ys) (fa : xs.all okV = true) (fb : ys.all okV = true) (q : Q (.bl (!eqL xs ys)) H) : rUnlike K (.ref a) (.ref b) H Q :=
  .inr ⟨_, _, .lst ha (dpall_flat fa), .lst hb (dpall_flat fb), shaped_l fa, shaped_l fb, by rw [eqv_ll fa fb]; exact q⟩
theorem go_sameTT {a b : Addr} {xs ys : List V} (ha : SqT K H a xs) (hb : SqT K H b ys) (fa : xs.all okV = true) (fb : ys.all okV = true) (q : Q (.bl (eqL xs ys)) H) : rSame K (.ref a) (.ref b) H Q :=
  .inr ⟨_, _, .tup ha (dpall_flat fa), .tup hb (dpall_flat fb), shaped_t fa, shaped_t fb, by rw [eqv_tt fa fb]; exact q⟩
theorem eqV_refl : ∀ {v : V}, okV v = true → eqV v v = true
  | .non, _ => rfl
  | .bl b, _ => by cases b <;> rfl
  | .int i, _ => by simp [eqV]
  | .str x, _ => by simp [eqV]
theorem eqL_refl : ∀ {xs : List V}, xs.all okV = true → eqL xs xs = true
  | [], _ => rfl
  | x :: r, h => by
    rw [List.all_cons, Bool.and_eq_true] at h
    rw [eqL, eqV_refl h.1, eqL_refl h.2]; rfl
end
theorem eqL_ints : ∀ xs ys : List Int, eqL (xs.map V.int) (ys.map V.int) = decide (xs = ys)
  | [], [] => rfl
  | [], y :: ys => by simp [eqL]
  | x :: xs, [] => by simp [eqL]
  | x :: xs, y :: ys => by
    rw [List.map_cons, List.map_cons, eqL, eqL_ints xs ys]
    simp [eqV]
    by_cases h : x = y <;> simp [h]
theorem eqL_strs : ∀ xs ys : List Str, eqL (xs.map V.str) (ys.map V.str) = decide (xs = ys)
  | [], [] => rfl
  | [], y :: ys => by simp [eqL]
  | x :: xs, [] => by simp [eqL]
  | x :: xs, y :: ys => by
    rw [List.map_cons, List.map_cons, eqL, eqL_strs xs ys]
    simp [eqV]
    by_cases h : x = y <;> simp [h]
theorem ok_ints (xs : List Int) : (xs.map V.int).all okV = true := by
  rw [List.all_eq_true]; intro x hx; obtain ⟨z, _, rfl⟩ := List.mem_map.mp hx; rfl
theorem ok_bls (xs : List Bool) : (xs.map V.bl).all okV = true := by
  rw [List.all_eq_true]; intro x hx; obtain ⟨z, _, rfl⟩ := List.mem_map.mp hx; rfl
end TP

namespace TP
open PySem PySem.Spec PyProof.Rows L2
/-! ### super().__init__(..) of an error over ValueError -/
abbrev vin : Value := .builtin "ValueError.__init__"
abbrev vw (x : Addr) : Obj := { cls := .type "method-wrapper", dict := none, data := .fields #[vin, .ref x], slots := #[] }
abbrev supO (D x C : Addr) : Obj := { cls := .type "super", dict := none, data := .fields #[.ref D, .ref x, .ref C], slots := #[] }
theorem v_type : typeOf vin = pure (.type "wrapper_descriptor") := by show builtinType _ = _; rw [builtinType_eq_fast]; kernel_rfl
theorem v_nac : (kfb_private% "nameAndClass") vin = (pure (("__init__" : Str), Value.type "ValueError") : Sem (Str × Value)) := by kernel_rfl
section
variable {P : Program} {w : World} {M : Model} {A : Around} {E : Value → Shared → Prop} {h : Heap} {g : Array GenState} {d : Drawn} {t : Nat} {os : OsState}
theorem v_bound {x C : Addr} {R : Fin → Shared → Prop} (hin : W.Looks M h (isInstance (.ref x) (.type "ValueError")) true) (hq : R (.done (.ret (.ref h.objs.size))) ⟨h.push (vw x), g, d, t, os⟩) :
    wpAny M A (Builtin.«wrapper_descriptor.__get__» ⟨[vin, .ref x, .ref C], []⟩) R E ⟨h, g, d, t, os⟩ := by
  unfold Builtin.«wrapper_descriptor.__get__»
  refine wpAny_bind (wpAny_of_eq (a := (vin, some (.ref x), some (.ref C))) (by first | rfl | kernel_rfl) ?_)
  refine wpAny_bind (m := (kfb_private% "checkInstance") vin (.ref x)) ?_
  refine wpAny_bind (m := (kfb_private% "nameAndClass") vin) (wpAny_of_eq v_nac ?_)
  refine wpAny_bind (m := isInstance (.ref x) (.type "ValueError")) (hin.at (W.KFB.if_not rfl (wpAny_pure ?_)))
  exact wpAny_bind (wpAny_newObj_type (wpAny_pure hq))
theorem v_ga {so D x C : Addr} {l₀ l : List Value} {K : W.Frag} {tk : Tok} {Q : Fin → Shared → Prop} (hso : h.get? so = some (supO D x C)) (hno : W.Looks (model P w) h (opaqueClassAbove (.ref C)) none)
    (hC : W.Looks (model P w) h (mroOf (.ref C)) l₀) (hl : (l₀.dropWhile (· != .ref D)).drop 1 = l) (X : K.In h) (hf : W.alongIn K "__init__" l = some (some vin)) (hxC : x ≠ C) (hin : W.Looks (model P w) h (isInstance (.ref x) (.type "ValueError")) true)
    (hq : Q (.done (.ret (.ref h.objs.size))) ⟨h.push (vw x), g, d, t, os⟩) : wpAny (model P w) A (Builtin.«super.__getattribute__» ⟨[.ref so, .str "__init__" tk], []⟩) Q E ⟨h, g, d, t, os⟩ := by
  have lk := ESX.slot_wd.lookup
  have ne : (Value.ref x == Value.ref C) = false := by simp [hxC]
  have nc : (("__init__" : Str) == ("__class__" : Str)) = false := by decide
  have ty := v_type
  have tI : Shared.TypeIs ⟨h, g, d, t, os⟩ vin "wrapper_descriptor" := v_type
  have dt : (supO D x C).data = .fields #[.ref D, .ref x, .ref C] := rfl
  have a0 : (#[.ref D, .ref x, .ref C] : Array Value)[0]? = some (.ref D) := rfl
  have a1 : (#[.ref D, .ref x, .ref C] : Array Value)[1]? = some (.ref x) := rfl
  have a2 : (#[.ref D, .ref x, .ref C] : Array Value)[2]? = some (.ref C) := rfl
  unfold Builtin.«super.__getattribute__»
  repeat (first
    | (with_reducible refine wpAny_field hso dt a0 ?_) | (with_reducible refine wpAny_field hso dt a1 ?_) | (with_reducible refine wpAny_field hso dt a2 ?_) | (with_reducible refine ks_wpAny_notOpaque hno ?_)
    | (with_reducible refine W.Looks.at hC ?_; rw [hl]) | (refine ks_forIn_along X (fun _ _ => rfl) rfl ?_ hf) | (with_reducible refine wpAny_call_entry ESX.slot_wd tI ESX.entry_wd ?_ (ESX.args_wd _ _ _)) | (with_reducible refine v_bound hin ?_)
    | (with_reducible refine ⟨_, rfl, ?_⟩) | (simp only [nc, ne, Bool.or_false, Bool.false_eq_true, if_false]) | wp_step | dsimp only)
  all_goals exact hq
theorem v_method {so D x C : Addr} {l₀ l : List Value} {K : W.Frag} {pl : Sem Bool} {Q : Value × List Value → Shared → Prop} (hso : h.get? so = some (supO D x C)) (hno : W.Looks (model P w) h (opaqueClassAbove (.ref C)) none)
    (hC : W.Looks (model P w) h (mroOf (.ref C)) l₀) (hl : (l₀.dropWhile (· != .ref D)).drop 1 = l) (X : K.In h) (hf : W.alongIn K "__init__" l = some (some vin)) (hxC : x ≠ C) (hin : W.Looks (model P w) h (isInstance (.ref x) (.type "ValueError")) true)
    (hq : Q (.ref h.objs.size, []) ⟨h.push (vw x), g, d, t + 1, os⟩) : wpAny (model P w) A (getMethod (.ref so) "__init__" pl) Q E ⟨h, g, d, t, os⟩ := by
  have lk := F.ks_slot_super_ga.lookup
  have can := F.ks_canon_super_ga
  have hT : ∀ t', (⟨h, g, d, t', os⟩ : Shared).TypeIs (.ref so) "super" := fun _ => ⟨_, hso, rfl⟩
  unfold getMethod
  refine wpAny_bind (wpAny_specialOf (hT _) lk ?_)
  refine W.KFB.if_so can ?_
  unfold getAttr getAttrBy
  refine wpAny_bind (wpAny_bind (wpAny_mkText (wpAny_holding (wpAny_bind (wpAny_typeOf (hT _) (wpAny_bind (wpAny_of_eq lk ?_)))))))
  show wpAny _ _ (getAttrByItsOwn (.ref so) (.str "__init__" t) (.type "super") (.builtin "super.__getattribute__") true false) _ _ _
  unfold getAttrByItsOwn hookBefore callGetattribute boundAndCalled
  refine wpAny_bind (wpAny_of_eq (show (if onTheHeap (.type "super") then typeLookup (.type "super") "__getattr__" else pure none) = pure none from rfl) ?_)
  refine wpAny_bind (wpAny_attempt (wpAny_holding (wpAny_bind (m := bindSpecial (.builtin "super.__getattribute__") (.ref so)) (wpAny_of_eq (F.ks_slot_super_ga.bind _) ?_))))
  refine wpAny_mono (Q := fun v s' => v = .ref h.objs.size ∧ s' = ⟨h.push (vw x), g, d, t + 1, os⟩) (E := fun _ _ => False) (wpAny_call_entry F.ks_slot_super_ga (hT _) F.ks_entry_super_ga (v_ga hso hno hC hl X hf hxC hin ⟨_, rfl, rfl, rfl⟩) (F.ks_gaArgs_super _ _)) (fun v s' hv => ?_) fun _ _ z => z.elim
  obtain ⟨rfl, rfl⟩ := hv
  exact wpAny_pure (wpAny_pure hq)
end
section
variable {P : Program} {w : World} {M : Model} {A : Around} {E : Value → Shared → Prop} {s : Shared}
theorem v_with {pos : Pos} {u x : Addr} {args : List (Bool × Sem Value)} {Q : Value → Shared → Prop} (hp : args.any (·.1) = false)
    (h : wpAny M A (evalArgs (.ref u) true args []) (fun a s₁ => s₁.heap.get? u = some (vw x) ∧ wpAny M A (call (.ref u) ([] ++ a.pos) a.kw) Q E s₁) E s) : wpAny M A (callWith pos (.ref u) [] args []) Q E s := by
  unfold callWith
  refine wpAny_bind (wpAny_holding (wpAny_mono h (fun a s₁ h₁ => wpAny_bind (wpAny_standAt ?_)) fun _ _ z => z))
  obtain ⟨ho, hc⟩ := h₁
  simp only [hp, List.any_nil, Bool.or_false]
  refine wpAny_bind (m := keeperOf (.ref u)) ?_
  unfold keeperOf
  refine wpAny_bind (wpAny_load ho ?_)
  have e1 : (Value.type "method-wrapper" != Value.type "method") = true := by decide
  have e2 : (Value.type "method-wrapper" == Value.type "builtin_function_or_method" || Value.type "method-wrapper" == Value.type "method-wrapper") = true := by decide
  simp only [vw, e1, e2, if_true]
  exact wpAny_pure (wpAny_bind (wpAny_mono hc (fun r s₂ hr => wpAny_bind (wpAny_holding (wpAny_point (wpAny_pure hr)))) fun _ _ z => z))
end
section
variable {P : Program} {w : World} {A : Around} {E : Value → Shared → Prop} {h : Heap} {g : Array GenState} {d : Drawn} {t : Nat} {os : OsState}
variable {nm q : Str} {C N : Addr} {bs bm : List Value} {hdct : Bool} {sn : List Str} {sub : List Value} {ab : Bool} {col : Option Bool} {dd : Option Addr} {k0 k1 k2 k3 k5 : Option Value}
theorem v_call {u e t0 : Addr} {rest : List Value} {Q : Value → Shared → Prop} (hC : h.get? C = some (excClassObj nm q C N bs bm hdct sn sub ab col dd k0 k1 k2 k3 k5 "ValueError.__new__")) (he : h.get? e = some (HandSPX.excO C t0)) (hu : h.get? u = some (vw e)) (hr : rest.length ≤ sizeLine)
    (hq : ∀ h' t1, (∀ b o, b ≠ e → h.get? b = some o → h'.get? b = some o) → h'.get? e = some (HandSPX.excO C t1) → Q .none ⟨h', g, d, t, os⟩) : wpAny (model P w) A (call (.ref u) rest) Q E ⟨h, g, d, t, os⟩ := by
  have FB := F.excBase_ValueError
  refine wpAny_call (codeAny_of_tree ?_)
  show wpAny _ A.in1 (callAny (.ref u) ⟨rest, []⟩) _ _ _
  simp only [callAny]
  refine wpAny_bind (wpAny_load hu ?_)
  have e3 : (Value.type "method-wrapper" == Value.type "method" || Value.type "method-wrapper" == Value.type "builtin_function_or_method" || Value.type "method-wrapper" == Value.type "method-wrapper") = true := by decide
  simp only [vw, e3, if_true]
  refine W.KFB.if_so (by decide) (wpAny_bind (ESX.check_bound FB hC he rfl (wpAny_bind (wpAny_pure (wpAny_pure ?_)))))
  refine ⟨Code.quiet_builtin _ (by decide +kernel), codeAny_builtin FB.initEntry ?_⟩
  rw [Around.under_plainId FB.init.plain _]
  wp_walk
  refine hq _ h.objs.size (fun b o hb ho => ?_) ?_
  · rw [Heap.get?_update_other _ _ (Ne.symm hb)]
    exact Heap.get?_push_of_some _ ho
  · rw [Heap.get?_update_self _ (Heap.get?_push_of_some _ he) rfl]
    rfl
end
end TP

namespace TP
open PySem PySem.Spec PyProof.Rows L2
/-! ### def __init__(self, f): super().__init__('..'); self.f = f -/
def iniBody (fld txt : Str) (n3 : Nat) (p0 p1 p2 p3 p4 p5 q0 q1 q2 q3 : Pos) : List Stmt :=
  [.Expr (.Call (.Attribute (.Call (.Name "super" p0) [] [] p1) "__init__" p2) [.Constant (.str txt) n3 p3] [] p4) p5, .Assign [.Attribute (.Name "self" q0) fld q1] (.Name fld q2) q3]
def iniScope (fld : Str) : Scope := { kind := .function, names := [(PySem.Str.ofString "self", .local), (fld, .local), (PySem.Str.ofString "__class__", .free), (PySem.Str.ofString "super", .globalImplicit)], isGenerator := false, isCoroutine := false, more := [] }
theorem meth_eq {o : Expr} {name : Str} {apos pos : Pos} {args : List Expr} {env : Env} (hf : methodCallForm (args.length + 0) (backTo pos (starEach args env)) [] = true) (hl : (apos.endLine == pos.line) = true) :
    eval (.Call (.Attribute o name apos) args [] pos) env = (do
      let ov ← attributeBase o name env (eval o env)
      standAt apos.atName
      let (f, first) ← holding [ov] (getMethod ov name (do return (← importBound o env).getD true))
      callWith pos f first (backTo pos (starEach args env)) []) := by
  have e : ∀ ov, methodCall o name apos pos env ov (args.length + 0) (backTo pos (starEach args env)) [] = (do
      let (f, first) ← holding [ov] (getMethod ov name (do return (← importBound o env).getD true))
      callWith pos f first (backTo pos (starEach args env)) []) := fun ov => by
    unfold methodCall calleeOf methodCallPos
    rw [hf]
    simp [hl]
  show (attributeBase o name env (eval o env) >>= fun ov => standAt apos.atName >>= fun _ => methodCall o name apos pos env ov (args.length + 0) (backTo pos (starEach args env)) []) = _
  simp only [e]
/-- what the written part says of an error's class at C and of its __init__ at fI -/
structure IniTxt (P : Program) (K : PySem.W.Frag) (mg : Str → Option Value) (C fI : Addr) (fld qual : Str) (fd : FuncData) : Prop where
  oex : OexC K C
  no : PySem.W.findIn K (.ref C) fld = some none
  sup : mg "super" = none
  opq : PySem.W.nsIn K cStatics "thirdparty.any" = some none
  along : PySem.W.ks_superIn K C C "__init__" = some (some vin)
  mine : PySem.W.mroIn K C (.ref C) = some true
  isV : PySem.W.mroIn K C (.type "ValueError") = some true
  top : (P.main.scope.names.lookup ("super" : Str)).isSome = false
  code : ∃ (oc : Value) (od : Option Addr) (params : Arguments) (kV doc pm : Value) (an : Option Addr) (cda : Addr) (ct : Value) (cc : Addr) (osl : Array (Option Value)) (ar : Arg) (ccl : Value) (cdd : Option Addr) (vs : Array Value) (ccs : Array (Option Value)) (file : Str) (tf : Tok) (cl : Value) (cld : Option Addr) (csl : Array (Option Value))
      (txt : Str) (n3 : Nat) (p0 p1 p2 p3 p4 p5 q0 q1 q2 q3 : Pos),
    fd = PySem.W.ksFn "__init__" qual params (iniBody fld txt n3 p0 p1 p2 p3 p4 p5 q0 q1 q2 q3) (iniScope fld) .none kV doc pm an (.ref cda) ct cc ∧ K.lookup fI = some ⟨oc, od, .func fd, osl⟩ ∧ PySem.W.codeIn K (.ref cda) qual = true ∧
    (params.posonlyargs ++ params.args).head? = some ar ∧ ar.arg = "self" ∧ K.lookup cda = some ⟨ccl, cdd, .fields vs, ccs⟩ ∧ vs[2]? = some (.str file tf) ∧ ((P.main.file : Str) == file) = true ∧ K.lookup cc = some ⟨cl, cld, .cell (some (.ref C)), csl⟩ ∧
    (iniScope fld).names.lookup ("super" : Str) = some .globalImplicit ∧ (iniScope fld).names.lookup ("__class__" : Str) = some .free ∧ (iniScope fld).names.lookup ("self" : Str) = some .local ∧ (iniScope fld).names.lookup fld = some .local ∧ (fld == ("__debug__" : Str)) = false ∧ (fld ≠ "self") ∧ (p2.endLine == p4.line) = true
def sp_exi (C : Addr) (fld : Str) : Sp := fun vs H Q _ => ∃ (a : Addr) (v : V), vs = [.ref a, v] ∧ H a = some (exo a C none) ∧ ∀ dx, H dx = none → dx ≠ a → Q .non (upd (upd H dx (exd dx [(fld, v)])) a (exo a C (some dx)))
theorem exc_init_ok {P : Program} {w : World} {K : PySem.W.Frag} {mg : Str → Option Value} {base : Heap} {C fI : Addr} {fld qual : Str} {fd : FuncData} (T : IniTxt P K mg C fI fld qual fd) : FnOk P w K mg base CX0 2 fI fd ["self", fld] (sp_exi C fld) := by
  obtain ⟨oc, od, params, kV, doc, pm, an, cda, ct, cc, osl, ar, ccl, cdd, vs0, ccs, file, tf, cl, cld, csl, txt, n3, p0, p1, p2, p3, p4, p5, q0, q1, q2, q3, rfl, hlk, hcd, hpar, harg, hcode, hvs, hfile, hcell, ssup, scls, sself, sfld, hdb, hne, hln⟩ := T.code
  have sk : (iniScope fld).kind = .function := rfl
  have snoc : ∀ x ∈ (iniScope fld).names, x.2 ≠ .cell := fun x hx => by
    simp only [iniScope, List.mem_cons, List.not_mem_nil, or_false] at hx
    rcases hx with rfl | rfl | rfl | rfl <;> (intro z; cases z)
  refine ⟨fun vs H Q E h => by obtain ⟨a, v, rfl, _⟩ := h; rfl, fun A outer s H args us vs Q E hr e0 hb hv hsp => ?_⟩
  obtain ⟨a, v, rfl, ha, k⟩ := hsp
  obtain ⟨u, rfl, ru⟩ : ∃ u, us = [.ref a, u] ∧ RelV v u := by
    cases hv with
    | cons r1 r2 =>
      cases r2 with
      | cons r3 r4 =>
        cases r4
        cases r1
        exact ⟨_, rfl, r3⟩
  have KX : K.In s.heap := e0.mod.kin.keeps fun b o e => (e0.bs b o e).1
  have lim : s.heap.NoLimit := e0.mod.nolimit.keeps fun b o e => (e0.bs b o e).1
  obtain ⟨t1, hoa⟩ := exo_at e0.hok ha
  obtain ⟨nm, q, N, bs, bm, sn, sub, ab, col, dd, k0, k1, k2, k3, k5, hC, hbm⟩ := T.oex.cls
  have hcl : PySem.W.clsIn K C = some { name := nm, bases := bs, mro := .ref C :: bm, ns := N, qualname := q, hasDict := true, slotNames := sn, subclasses := sub, abstract := ab, collection := col, hasDel := false } := by unfold PySem.W.clsIn; rw [hC]
  have hal : PySem.W.alongIn K "__init__" bm = some (some vin) := by
    have z := T.along
    unfold PySem.W.ks_superIn at z
    rw [hcl, Option.bind_some, ESX.drop_own] at z
    exact z
  obtain ⟨mb, hmb, hmb2⟩ := e0.mod.blt
  refine ks_codeAny_call_defAt (binds := [("self", .ref a), (fld, u)]) hr.depth (KX _ _ hlk) rfl lim (PySem.W.codeRec_of KX hcd) rfl hb snoc (fun y hy => ?_) (fun h₁ hns hk₁ => ?_) rfl rfl rfl
  · rcases List.mem_cons.mp hy with rfl | hy
    · exact sself
    · rw [List.mem_singleton.mp hy]; exact sfld
  have X₁ : K.In h₁ := KX.keeps hk₁
  have hbk : ∀ b o, base.get? b = some o → h₁.get? b = some o := fun b o e => hk₁ b o (e0.bs b o e).1
  have hx₁ := hk₁ _ _ hoa
  have I₁ : PySem.W.InstAt h₁ a (HandSPX.excO C t1) C none := ⟨hx₁, rfl, rfl, trivial⟩
  have hself : (List.reverse [(("self" : Str), Value.ref a), (fld, u)]).lookup ("self" : Str) = some (.ref a) := by
    have e : (("self" : Str) == fld) = false := by simpa using fun z : ("self" : Str) = fld => hne z.symm
    simp [List.lookup, e]
  have hfld : (List.reverse [(("self" : Str), Value.ref a), (fld, u)]).lookup fld = some u := by simp [List.lookup]
  obtain ⟨oD, hD1, hD2⟩ : ∃ oD, h₁.get? C = some oD ∧ oD.data = .cls { name := nm, bases := bs, mro := .ref C :: bm, ns := N, qualname := q, hasDict := true, slotNames := sn, subclasses := sub, abstract := ab, collection := col, hasDel := false } := ⟨_, X₁ _ _ hC, rfl⟩
  obtain ⟨hp, g, d, tk, os⟩ := s
  -- super().__init__('..')
  refine ks_wpAt_execs_cons (ks_wpAt_Expr_any (ks_wpAt_MethodCall ?_ (meth_eq rfl hln)) rfl rfl)
  refine ks_wpAt_super_base ssup scls (by decide) rfl (X₁ _ _ hlk) rfl hpar rfl (X₁ _ _ hcode) rfl hvs hfile T.top ?_
  refine PySem.W.ks_loadName_global sk ssup (Calls.loadGlobal_builtin (e0.mod.glob.keeps hbk) T.sup (hmb.keeps hbk) ((hmb2 "super" (by decide)).trans (by decide +kernel)) ⟨rfl, ?_⟩)
  refine wpAny_loadName_free sk scls rfl ⟨_, X₁ _ _ hcell, rfl⟩ ?_
  rw [harg]
  refine wpAny_loadName_local sk sself hns hself ?_
  refine ks_wpAny_isType_cls hD1 hD2 ⟨rfl, ?_⟩
  refine ks_wpAny_call_super hD1 hD2 hx₁ rfl (fun c e => by cases e) (PySem.W.looks_mroIn X₁ T.mine) (fun h₂ hso k₂ => ?_)
  have X₂ : K.In h₂ := X₁.keeps k₂
  have I₂ : PySem.W.InstAt h₂ a (HandSPX.excO C t1) C none := ⟨k₂ _ _ hx₁, rfl, rfl, trivial⟩
  have hmr : PySem.W.Looks (model P w) h₂ (mroOf (.ref C)) (.ref C :: bm) := (PySem.W.looks_clsIn X₂ hcl).andThen .now
  refine v_method hso (PySem.W.looks_opaque X₂ T.opq) hmr (ESX.drop_own C bm) X₂ hal (PySem.W.ks_ne X₂ I₂ hcl) (I₂.type.andThen (PySem.W.looks_mroIn X₂ T.isV)) ?_
  refine v_with (x := a) rfl (Calls.evalArgs_plain (Calls.spliced_cons (Calls.Constant_str (k := n3) (pos := p3) (Calls.spliced_nil ⟨Heap.get?_push_size _ rfl, ?_⟩))))
  have k₃ : ∀ b o, h₂.get? b = some o → (h₂.push (vw a)).get? b = some o := fun b o e => Heap.get?_push_of_some _ e
  refine v_call (X₂.keeps k₃ _ _ hC) (k₃ _ _ (k₂ _ _ hx₁)) (Heap.get?_push_size _ rfl) (by show 1 ≤ sizeLine; decide) (fun h₄ t4 k₄ hx₄ => ?_)
  -- self.f = f
  have keep4 : ∀ b o, b ≠ a → h₁.get? b = some o → h₄.get? b = some o := fun b o n e => k₄ b o n (k₃ _ _ (k₂ _ _ e))
  have nLa : hp.objs.size ≠ a := Nat.ne_of_gt (Heap.lt_size hoa)
  have X₄ : K.In h₄ := fun b o e => keep4 b o (fun z => by
    have q1 := X₁ _ _ e
    rw [z, hx₁] at q1
    have := e0.hok
    have hb := (e0.mod.kin _ _ e)
    rw [z] at hb
    have := (e0.bs _ _ hb).2
    rw [ha] at this
    cases this) (X₁ _ _ e)
  have hns4 : h₄.Ns hp.objs.size (fun y => (List.reverse [(("self" : Str), Value.ref a), (fld, u)]).lookup y) := by
    obtain ⟨o, es, ep, ho, rest⟩ := hns
    exact ⟨o, es, ep, keep4 _ _ nLa ho, rest⟩
  refine wpAt_of_wpAny (wpAny_execs_cons (plainObj_wpAny_Assign_Attribute (wpAny_Name (wpAny_loadName_local sk sfld hns4 hfld (wpAny_Name (wpAny_loadName_local sk sself hns4 hself ?_) (by decide))) hdb)))
  refine PySem.W.set_plain X₄ (ox := HandSPX.excO C t4) (od := none) ⟨hx₄, rfl, rfl, trivial⟩ T.oex.sa ?_
  refine HandSPX.exc_osa X₄ hx₄ hcl (show HandSPX.refsVE (.ref C :: bm) = true from hbm) rfl T.no (fun h₅ tk₅ dx k₅ dn dne hx₅ hn₅ => ?_)
  have z : hp.objs.size < h₁.objs.size := hns.lt
  have big : hp.objs.size ≤ dx := by
    obtain ⟨o, es, ep, ho, rest⟩ := hns4
    exact Nat.le_of_lt (Nat.lt_of_lt_of_le (Heap.lt_size ho) dn)
  refine wpAny_execs_nil ?_
  have hnd : H dx = none := e0.hok.fresh big
  have keep5 : ∀ b o, b ≠ a → hp.get? b = some o → h₅.get? b = some o := fun b o n e => k₅ b o n (keep4 b o n (hk₁ _ _ e))
  have nd : ∀ {b : Addr} {o : Obj}, hp.get? b = some o → b ≠ dx := fun {b o} q => Nat.ne_of_lt (Nat.lt_of_lt_of_le (Heap.lt_size q) big)
  have na : ∀ {b : Addr}, H b = none → b ≠ a := fun {b} n z => by
    rw [z, ha] at n
    cases n
  have U : Un (frs outer) [] H (upd (upd H dx (exd dx [(fld, v)])) a (exo a C (some dx))) hp h₅ := {
    keep := fun b o q n _ _ => keep5 b o (na n) q
    slot := fun b o q n _ _ => ⟨o.slots, keep5 b o (na n) q⟩
    free := fun b o q n _ => by rw [upd_ne (na n), upd_ne (nd q)]; exact n
    there := fun b o q _ => by
      by_cases e : b = a
      · exact ⟨_, by rw [e]; exact hx₅⟩
      · exact ⟨o, keep5 b o e q⟩
    tups := fun b xs q => by rw [upd_ne (at_ne ha q exo_tup), upd_ne (ne_of_none q hnd)]; exact q
    frzs := fun b o y q => by rw [upd_ne (at_ne ha q exo_frz), upd_ne (ne_of_none q hnd)]; exact q
    tbls := fun b ps q => ⟨#[], by rw [upd_ne (at_ne ha q exo_tbl), upd_ne (ne_of_none q hnd), q]; simp⟩ }
  refine ⟨.non, _, rfl, e0.bare, U, fun b o q => ?_, rfl, k dx hnd dne⟩
  by_cases e1 : b = a
  · subst e1
    rw [upd_same] at q
    cases q
    exact exo_ok hx₅
  · rw [upd_ne e1] at q
    by_cases e2 : b = dx
    · subst e2
      rw [upd_same] at q
      cases q
      exact exd_ok hn₅ (relO_put (fs := []) ru fun _ => True.intro)
    · rw [upd_ne e2] at q
      refine (e0.hok b o q).stay (fun c y hc z => keep5 c y ?_ z) (fun c hc => ?_) (fun c xs hc => ?_)
      · rcases hc with hc | hc
        · rw [hc]; exact e1
        · exact at_ne ha hc exo_own
      · rw [upd_ne (at_ne ha hc exo_own), upd_ne (ne_of_none hc hnd)]; exact hc
      · rw [upd_ne (at_ne ha hc exo_tup), upd_ne (ne_of_none hc hnd)]; exact hc
end TP

namespace TP
open PySem PySem.Spec PyProof.Rows L2
/-! ### methods of an own class: as they stand (MunI), keeping a promise (MthI) -/
structure MunI (K : PySem.W.Frag) (C : Addr) (m qual : Str) (st : Stmt) (ps : List Str) : Prop where
  ex : ∃ (f : Addr) (fd : FuncData), Meth K C m f ∧ Fun K m qual st f fd ∧ Binds K fd ps [] ∧ PySem.W.fnIn K f = true
structure MthI (P : Program) (w : World) (K : PySem.W.Frag) (mg : Str → Option Value) (base : Heap) (CX : CXT) (k : Nat) (C : Addr) (m : Str) (ps : List Str) (sp : Sp) : Prop where
  ex : ∃ (f : Addr) (fd : FuncData), Meth K C m f ∧ FnOk P w K mg base CX k f fd ps sp ∧ Binds K fd ps [] ∧ PySem.W.fnIn K f = true
section
variable {P : Program} {w : World} {K : PySem.W.Frag} {mg : Str → Option Value} {base : Heap} {C : Addr}
theorem MunI.ok {m qual : Str} {st : Stmt} {N ps : List Str} {k : Nat} {sp : Sp} (F : MunI K C m qual st ps) (S : FnScope N ps (defScope st)) (len : ∀ vs H Q E, sp vs H Q E → vs.length = ps.length) {t : TS}
    (hd : ∀ (f : Addr) (cdv : Value) (A : Around) (outer : List Env) (s : Shared) (H : Hp) (E : XK), Room k (A.deeper (envOfC qual (defScope st) s.heap.objs.size f cdv)) → PSs (cxOf CX0 P w K mg base N qual (defScope st) f cdv A outer s H E).nox (defBody st) t)
    (hb : ∀ (H : Hp) (vs : List V) (Q : VK) (E : XK), sp vs H Q E → t { nx := fun _ H' => Q .non H', rt := Q } (start N vs) H) : MthI P w K mg base CX0 (k + 1) C m ps sp := by
  obtain ⟨f, fd, hm, F, b, fi⟩ := F.ex
  exact ⟨f, fd, hm, F.ok S len fun cdv A outer s H vs Q E hr h => ⟨t, hd f cdv A outer s H E hr, hb H vs Q E h⟩, b, fi⟩
/-- .. one that may raise -/
theorem MunI.okX {m qual : Str} {st : Stmt} {N ps : List Str} {k : Nat} {sp : Sp} (F : MunI K C m qual st ps) (S : FnScope N ps (defScope st)) (len : ∀ vs H Q E, sp vs H Q E → vs.length = ps.length) {t : XK → TS}
    (hd : ∀ (f : Addr) (cdv : Value) (A : Around) (outer : List Env) (s : Shared) (H : Hp) (E : XK), Room k (A.deeper (envOfC qual (defScope st) s.heap.objs.size f cdv)) → PSs (cxOf (L2.CX P w) P w K mg base N qual (defScope st) f cdv A outer s H E) (defBody st) (t E))
    (hb : ∀ (H : Hp) (vs : List V) (Q : VK) (E : XK), sp vs H Q E → t E { nx := fun _ H' => Q .non H', rt := Q } (start N vs) H) : MthI P w K mg base (L2.CX P w) (k + 1) C m ps sp := by
  obtain ⟨f, fd, hm, F, b, fi⟩ := F.ex
  exact ⟨f, fd, hm, F.okX S len fun cdv A outer s H vs Q E hr h => ⟨t E, hd f cdv A outer s H E hr, hb H vs Q E h⟩, b, fi⟩
theorem FunI.okX {x : Str} {st : Stmt} {N ps : List Str} {k : Nat} {sp : Sp} (F : FunI K mg x st ps) (S : FnScope N ps (defScope st)) (len : ∀ vs H Q E, sp vs H Q E → vs.length = ps.length) {t : XK → TS}
    (hd : ∀ (f : Addr) (cdv : Value) (A : Around) (outer : List Env) (s : Shared) (H : Hp) (E : XK), Room k (A.deeper (envOfC x (defScope st) s.heap.objs.size f cdv)) → PSs (cxOf (L2.CX P w) P w K mg base N x (defScope st) f cdv A outer s H E) (defBody st) (t E))
    (hb : ∀ (H : Hp) (vs : List V) (Q : VK) (E : XK), sp vs H Q E → t E { nx := fun _ H' => Q .non H', rt := Q } (start N vs) H) : FnI P w K mg base (L2.CX P w) (k + 1) x ps sp := by
  obtain ⟨f, fd, hm, F, b⟩ := F.ex
  exact ⟨f, fd, hm, F.kp, F.okX S len fun cdv A outer s H vs Q E hr h => ⟨t E, hd f cdv A outer s H E hr, hb H vs Q E h⟩, b⟩
end
section
variable {X : Cx} {CX : CXT} {k j : Nat} {C : Addr} {ps : List Str} {sp : Sp} {E : XK} {m : Str} {pos apos : Pos} {o e : Expr} {es : List Expr} {ta : TE} {t : TA}
theorem pe_methI {pl : Sem Bool} (he : PE X o ta) (c : Cls X.K C) (I : MthI X.prog X.w X.K X.mg X.base CX k C m ps sp) (hr : Room j X.A) (hk : k ≤ j) (hx : Passes CX X E) (ha : PA X (e :: es) t)
    (hst : starEach (e :: es) X.env = (false, eval e X.env) :: starEach es X.env := by rfl) (hpl : (backTo pos (starEach es X.env)).any (·.1) = false := by rfl)
    (ht : eval (.Call (.Attribute o m apos) (e :: es) [] pos) X.env = (do
      let ov ← eval o X.env
      standAt apos.atName
      let (f, first) ← holding [ov] (getMethod ov m pl)
      callWith pos f first (backTo pos (starEach (e :: es) X.env)) (backToKw pos (keywordEach [] X.env))) := by rfl) : PE X (.Call (.Attribute o m apos) (e :: es) [] pos) (tMeth C m sp [] E ta t) := by
  obtain ⟨f, fd, hm, F, b, _⟩ := I.ex
  exact pe_meth he c hm F (hr.mono hk) b .nil hx ha hst hpl ht
theorem pe_methI0 {pl : Sem Bool} (he : PE X o ta) (c : Cls X.K C) (I : MthI X.prog X.w X.K X.mg X.base CX k C m ps sp) (hr : Room j X.A) (hk : k ≤ j) (hx : Passes CX X E)
    (ht : eval (.Call (.Attribute o m apos) [] [] pos) X.env = (do
      let ov ← eval o X.env
      standAt apos.atName
      let (f, first) ← holding [ov] (getMethod ov m pl)
      callWith pos f first (backTo pos (starEach [] X.env)) (backToKw pos (keywordEach [] X.env))) := by rfl) : PE X (.Call (.Attribute o m apos) [] [] pos) (tMeth C m sp [] E ta tNil) := by
  obtain ⟨f, fd, hm, F, b, _⟩ := I.ex
  exact pe_meth0 he c hm F (hr.mono hk) b .nil hx ht
end
/-! ### an own class's special methods, by values -/
section
variable {X : Cx} {CX : CXT} {k j : Nat} {C : Addr} {ps : List Str} {sp : Sp} {E : XK} {pins : List (Addr × Obj)} {σ : L2.St} {H : Hp} {s : Shared}
/-- the callee runs a unit deeper -/
theorem run_in1 {f : Addr} {fd : FuncData} {Q : VK} {us : List Value} {vs : List V} (F : FnOk X.prog X.w X.K X.mg X.base CX k f fd ps sp) (hr : Room (k + 1) X.A) (hb : Binds X.K fd ps []) (hx : Passes CX X E) (I : Inv X pins σ H s) (r : Vals vs us) (h : sp vs H Q E) :
    wpAny (model X.prog X.w) X.A.in1 (call (.ref f) us) (EP X pins σ Q) X.xe s := by
  have hl : (us ++ []).length = ps.length := by rw [List.append_nil, ← r.length]; exact F.len _ _ _ _ h
  have hb' := hb s us I.kIn hl
  rw [List.append_nil] at hb'
  refine wpAny_call (codeAny_mono (F.run X.A.in1 X.stack s H ⟨us, []⟩ us vs Q E hr.in1 I.env0.in1 hb' r h) fun r s' hq => ?_)
  cases r with
  | error e => exact hx pins σ H s e s' I hq
  | ok fl =>
    cases fl with
    | ret u => exact I.after hq
    | next => exact False.elim hq
    | brk => exact False.elim hq
    | cont => exact False.elim hq
theorem run_at {f : Addr} {fd : FuncData} {Q : VK} {us : List Value} {vs : List V} (F : FnOk X.prog X.w X.K X.mg X.base CX k f fd ps sp) (hr : Room k X.A) (hb : Binds X.K fd ps []) (hx : Passes CX X E) (I : Inv X pins σ H s) (r : Vals vs us) (h : sp vs H Q E) :
    wpAny (model X.prog X.w) X.A (call (.ref f) us) (EP X pins σ Q) X.xe s := run_fn F hr hb .nil hx I r (by rw [List.append_nil]; exact h)
theorem relref (a : Addr) : RelV (.ref a) (.ref a) := rfl
theorem inst_of {a dx : Addr} {fs : List (Str × V)} (I : Inv X pins σ H s) (e : H a = some (.ins C dx fs)) : ∃ ox od, PySem.W.InstAt s.heap a ox C (some od) := by
  obtain ⟨mA, O, _⟩ := ins_get I.hok e
  obtain ⟨od, J, _⟩ := O.look
  exact ⟨_, od, J⟩
/-- v in o -/
def rInO (C : Addr) (sp : Sp) (E : XK) (neg : Bool) : R2 := fun v y H Q => ∃ a dx fs, y = .ref a ∧ H a = some (.ins C dx fs) ∧ sp [.ref a, v] H (fun r H' => ∃ b, r = .bl b ∧ Q (.bl (if neg then !b else b)) H') E
theorem op_inO (M : MthI X.prog X.w X.K X.mg X.base CX k C "__contains__" ps sp) (hr : Room j X.A) (hk : k ≤ j) (hx : Passes CX X E) : OpR X (compareOp .In) (rInO C sp E false) := by
  intro pins s σ H x y v u Q I rx ry h
  obtain ⟨f, fd, hm, F, b, _⟩ := M.ex
  obtain ⟨a, dx, fs, rfl, ha, q⟩ := h
  cases ry
  obtain ⟨ox, od, J⟩ := inst_of I ha
  obtain ⟨m, fr⟩ := I.fr
  refine PySem.W.in_K fr I.ok.mod.kin J hm.at_ hm.fn (thn (run_at F (hr.mono hk) b hx I (.cons (relref a) (.cons rx .nil)) q) fun r s1 ⟨z, H1, I1, r1, bb, e, q1⟩ => ?_)
  subst e
  cases r1
  exact wpAny_truthy_bool ⟨.bl bb, H1, I1, rfl, q1⟩
theorem op_ninO (M : MthI X.prog X.w X.K X.mg X.base CX k C "__contains__" ps sp) (hr : Room j X.A) (hk : k ≤ j) (hx : Passes CX X E) : OpR X (compareOp .NotIn) (rInO C sp E true) := by
  intro pins s σ H x y v u Q I rx ry h
  obtain ⟨f, fd, hm, F, b, _⟩ := M.ex
  obtain ⟨a, dx, fs, rfl, ha, q⟩ := h
  cases ry
  obtain ⟨ox, od, J⟩ := inst_of I ha
  obtain ⟨m, fr⟩ := I.fr
  refine PySem.W.notIn_K fr I.ok.mod.kin J hm.at_ hm.fn (thn (run_at F (hr.mono hk) b hx I (.cons (relref a) (.cons rx .nil)) q) fun r s1 ⟨z, H1, I1, r1, bb, e, q1⟩ => ?_)
  subst e
  cases r1
  exact wpAny_truthy_bool ⟨.bl (!bb), H1, I1, rfl, q1⟩
/-- len(o) -/
def rLenO (C : Addr) (sp : Sp) (E : XK) : List V → Hp → VK → Prop := fun xs H Q => ∃ a dx fs, xs = [.ref a] ∧ H a = some (.ins C dx fs) ∧ sp [.ref a] H (fun r H' => ∃ n : Int, r = .int n ∧ 0 ≤ n ∧ n < 2 ^ 63 ∧ Q (.int n) H') E
theorem cr_lenO (M : MthI X.prog X.w X.K X.mg X.base CX k C "__len__" ps sp) (hr : Room j X.A) (hk : k + 1 ≤ j) (hx : Passes CX X E) : CallR X (.builtin "len") (rLenO C sp E) := by
  intro pins s σ H xs us Q I r h
  obtain ⟨f, fd, hm, F, b, _⟩ := M.ex
  obtain ⟨a, dx, fs, rfl, ha, q⟩ := h
  obtain ⟨u, rfl, rx⟩ := vals1 r
  cases rx
  obtain ⟨ox, od, J⟩ := inst_of I ha
  obtain ⟨m, fr⟩ := I.fr
  refine PySem.W.len_K fr I.ok.mod.kin J hm.at_ hm.fn (thn (run_in1 F (hr.mono hk) b hx I (.cons (relref a) .nil) q) fun r s1 ⟨z, H1, I1, r1, n, e, n0, n1, q1⟩ => ?_)
  subst e
  obtain ⟨t, rfl⟩ := r1
  exact ⟨⟨n0, n1⟩, .int n, H1, I1.tok _, ⟨_, rfl⟩, q1⟩
/-- o[i] -/
def rGetO (C : Addr) (sp : Sp) (E : XK) : R2 := fun x i H Q => ∃ a dx fs, x = .ref a ∧ H a = some (.ins C dx fs) ∧ sp [.ref a, i] H Q E
theorem pe_ixO {a b : Expr} {ta tb : TE} {pos : Pos} (M : MthI X.prog X.w X.K X.mg X.base CX k C "__getitem__" ps sp) (hr : Room j X.A) (hk : k + 1 ≤ j) (hx : Passes CX X E) (ha : PE X a ta) (hb : PE X b tb)
    (hs : ∀ o i, subscripted b true o i = runValue (.builtin "lifetime.subscript" ⟨[o, i], []⟩)) : PE X (.Subscript a b pos) (tOp (rGetO C sp E) ta tb) := by
  obtain ⟨f, fd, hm, F, bd, fi⟩ := M.ex
  refine ⟨fun pins s σ H Q I h => ?_⟩
  refine Subscript_ (binT ha hb I h fun v u s2 x y H2 I2 rx ry q => ?_)
  obtain ⟨a, dx, fs, rfl, ha, q⟩ := q
  cases rx
  obtain ⟨ox, od, J⟩ := inst_of I2 ha
  obtain ⟨m, fr⟩ := I2.fr
  exact PySem.W.sub_K fr I2.ok.mod.kin J hm.at_ fi hm.fn (run_in1 F (hr.mono hk) bd hx I2 (.cons (relref a) (.cons ry .nil)) q) (hs _ _)
/-- o[i] = v -/
def rSetO (C : Addr) (sp : Sp) (E : XK) : TSet := fun o i v H Q => ∃ a dx fs, o = .ref a ∧ H a = some (.ins C dx fs) ∧ sp [.ref a, i, v] H (fun _ H' => Q H') E
theorem set_own (M : MthI X.prog X.w X.K X.mg X.base CX k C "__setitem__" ps sp) (hq : PySem.W.noSeq X.K C = true) (hr : Room j X.A) (hk : k ≤ j) (hx : Passes CX X E) : PSet X (rSetO C sp E) := by
  intro pins s σ H o i v ov iv u Q I ro ri rv h
  obtain ⟨f, fd, hm, F, b, _⟩ := M.ex
  obtain ⟨a, dx, fs, rfl, ha, q⟩ := h
  cases ro
  obtain ⟨ox, od, J⟩ := inst_of I ha
  obtain ⟨m, fr⟩ := I.fr
  exact PySem.W.ksp_setItem fr I.ok.mod.kin J hq hm.at_ hm.fn (thn (run_at F (hr.mono hk) b hx I (.cons (relref a) (.cons ri (.cons rv .nil))) q) fun r s1 ⟨z, H1, I1, r1, q1⟩ => ⟨H1, I1, q1⟩)
end
end TP

namespace TP
open PySem PySem.Spec PyProof.Rows L2
/-! ### calls, all in one way: a callee may raise; W says what is then wished, at the caller's slots (noW: nothing is raised) -/
abbrev noW : WX := fun _ _ _ _ => False
/-- what leaves a def -/
abbrev wOut (E : XK) : WX := fun cls d _ H => E cls d H
theorem fnOk_up {P : Program} {w : World} {K : PySem.W.Frag} {mg : Str → Option Value} {base : Heap} {CX : CXT} {k : Nat} {f : Addr} {fd : FuncData} {ps : List Str} {sp : Sp} (F : FnOk P w K mg base CX0 k f fd ps sp) : FnOk P w K mg base CX k f fd ps sp :=
  ⟨F.len, fun A outer s H args us vs Q E hr e0 hb hv hs => codeAny_mono (F.run A outer s H args us vs Q E hr e0 hb hv hs) fun r s' h => by
    cases r with
    | error e => exact False.elim h
    | ok fl => cases fl <;> exact h⟩
structure FnZ (P : Program) (w : World) (K : PySem.W.Frag) (mg : Str → Option Value) (base : Heap) (k : Nat) (x : Str) (ps : List Str) (sp : Sp) : Prop where
  ex : ∃ (f : Addr) (fd : FuncData), mg x = some (.ref f) ∧ PySem.W.keepIn K (.ref f) = true ∧ FnOk P w K mg base (L2.CX P w) k f fd ps sp ∧ Binds K fd ps []
structure MthZ (P : Program) (w : World) (K : PySem.W.Frag) (mg : Str → Option Value) (base : Heap) (k : Nat) (C : Addr) (m : Str) (ps : List Str) (sp : Sp) : Prop where
  ex : ∃ (f : Addr) (fd : FuncData), Meth K C m f ∧ FnOk P w K mg base (L2.CX P w) k f fd ps sp ∧ Binds K fd ps [] ∧ PySem.W.fnIn K f = true
/-- C.m, m a staticmethod -/
structure StaZ (P : Program) (w : World) (K : PySem.W.Frag) (mg : Str → Option Value) (base : Heap) (k : Nat) (C : Addr) (m : Str) (ps : List Str) (sp : Sp) : Prop where
  ex : ∃ (p f : Addr) (fd : FuncData) (mc : Value), ClX.CRead K C mc ∧ PySem.W.findCls K (.ref C) mc m = some (.get (.builtin "staticmethod.__get__") (.ref p) .none (.ref C)) ∧ (∃ rest, PySem.W.recIn K p "staticmethod" = some (.ref f :: rest)) ∧ PySem.W.keepIn K (.ref f) = true ∧
    FnOk P w K mg base (L2.CX P w) k f fd ps sp ∧ Binds K fd ps []
section
variable {P : Program} {w : World} {K : PySem.W.Frag} {mg : Str → Option Value} {base : Heap} {C : Addr}
theorem FunI.okZ {x : Str} {st : Stmt} {N ps : List Str} {k : Nat} {sp : Sp} (F : FunI K mg x st ps) (S : FnScope N ps (defScope st)) (len : ∀ vs H Q E, sp vs H Q E → vs.length = ps.length) {t : XK → TS}
    (hd : ∀ (f : Addr) (cdv : Value) (A : Around) (outer : List Env) (s : Shared) (H : Hp) (E : XK), Room k (A.deeper (envOfC x (defScope st) s.heap.objs.size f cdv)) → PSs (cxOf (L2.CX P w) P w K mg base N x (defScope st) f cdv A outer s H E) (defBody st) (t E))
    (hb : ∀ (H : Hp) (vs : List V) (Q : VK) (E : XK), sp vs H Q E → t E { nx := fun _ H' => Q .non H', rt := Q } (start N vs) H) : FnZ P w K mg base (k + 1) x ps sp := ⟨(FunI.okX F S len hd hb).ex⟩
theorem MunI.okZ {m qual : Str} {st : Stmt} {N ps : List Str} {k : Nat} {sp : Sp} (F : MunI K C m qual st ps) (S : FnScope N ps (defScope st)) (len : ∀ vs H Q E, sp vs H Q E → vs.length = ps.length) {t : XK → TS}
    (hd : ∀ (f : Addr) (cdv : Value) (A : Around) (outer : List Env) (s : Shared) (H : Hp) (E : XK), Room k (A.deeper (envOfC qual (defScope st) s.heap.objs.size f cdv)) → PSs (cxOf (L2.CX P w) P w K mg base N qual (defScope st) f cdv A outer s H E) (defBody st) (t E))
    (hb : ∀ (H : Hp) (vs : List V) (Q : VK) (E : XK), sp vs H Q E → t E { nx := fun _ H' => Q .non H', rt := Q } (start N vs) H) : MthZ P w K mg base (k + 1) C m ps sp := ⟨(MunI.okX F S len hd hb).ex⟩
end
def tCallZ (sp : Sp) (W : WX) (t : TA) : TE := fun σ H Q => t σ H fun vs H1 => sp vs H1 Q (WE W σ)
def tMethZ (C : Addr) (m : Str) (sp : Sp) (W : WX) (ta : TE) (t : TA) : TE := fun σ H Q => ta σ H fun x H1 => ∃ a dx fs, x = .ref a ∧ H1 a = some (.ins C dx fs) ∧ fs.lookup m = none ∧ t σ H1 fun vs H2 => sp (.ref a :: vs) H2 Q (WE W σ)
def tMakeZ (C : Addr) (sp : Sp) (W : WX) (t : TA) : TE := fun σ H Q => t σ H fun vs H1 => ∀ x dx, H1 x = none → H1 dx = none → dx ≠ x → sp (.ref x :: vs) (upd (upd H1 dx (.own x)) x (.ins C dx [])) (fun v H2 => v = .non ∧ Q (.ref x) H2) (WE W σ)
section
variable {X : Cx} {k j : Nat} {C : Addr} {ps : List Str} {sp : Sp} {W : WX} {x m : Str} {p pos apos : Pos} {o e : Expr} {es : List Expr} {ta : TE} {t : TA}
theorem pe_callZ (I : FnZ X.prog X.w X.K X.mg X.base k x ps sp) (hr : Room j X.A) (hk : k ≤ j) (tk : Takes X W) (ha : PA X (e :: es) t) (hg : Gl X x := by rfl)
    (hdb : (x == ("__debug__" : Str)) = false := by decide) (he : starEach (e :: es) X.env = (false, eval e X.env) :: starEach es X.env := by rfl) (hpl : (backTo pos (starEach es X.env)).any (·.1) = false := by rfl) :
    PE X (.Call (.Name x p) (e :: es) [] pos) (tCallZ sp W t) := by
  obtain ⟨f, fd, hm, kp, F, b⟩ := I.ex
  refine ⟨fun pins s σ H Q I h => ?_⟩
  refine wpAny_Call_Name_kw (ld_glob I hg hm ?_ hdb)
  refine PySem.W.callWith_K (h₀ := X.base) I.ok.mod.kin kp (thn (ha.run pos pins s σ H _ I h) fun us s1 ⟨vs, H1, I1, r, q⟩ => ⟨I1.kIn, ?_⟩) he hpl
  exact run_fnS (E := WE W) F (hr.mono hk) b (passAt tk σ) I1 r q
theorem pe_callZ0 (I : FnZ X.prog X.w X.K X.mg X.base k x ps sp) (hr : Room j X.A) (hk : k ≤ j) (tk : Takes X W) (hg : Gl X x := by rfl) (hdb : (x == ("__debug__" : Str)) = false := by decide) :
    PE X (.Call (.Name x p) [] [] pos) (tCallZ sp W tNil) := by
  obtain ⟨f, fd, hm, kp, F, b⟩ := I.ex
  refine ⟨fun pins s σ H Q I h => ?_⟩
  refine wpAny_Call_Name_kw (ld_glob I hg hm ?_ hdb)
  exact PySem.W.callWith_K0 I.kIn kp (run_fnS (E := WE W) (us := []) F (hr.mono hk) b (passAt tk σ) I .nil h)
theorem pe_methZ {pl : Sem Bool} (he : PE X o ta) (c : Cls X.K C) (I : MthZ X.prog X.w X.K X.mg X.base k C m ps sp) (hr : Room j X.A) (hk : k ≤ j) (tk : Takes X W) (ha : PA X (e :: es) t)
    (hst : starEach (e :: es) X.env = (false, eval e X.env) :: starEach es X.env := by rfl) (hpl : (backTo pos (starEach es X.env)).any (·.1) = false := by rfl)
    (ht : eval (.Call (.Attribute o m apos) (e :: es) [] pos) X.env = (do
      let ov ← eval o X.env
      standAt apos.atName
      let (f, first) ← holding [ov] (getMethod ov m pl)
      callWith pos f first (backTo pos (starEach (e :: es) X.env)) (backToKw pos (keywordEach [] X.env))) := by rfl) : PE X (.Call (.Attribute o m apos) (e :: es) [] pos) (tMethZ C m sp W ta t) := by
  obtain ⟨f, fd, hm, F, b, _⟩ := I.ex
  refine ⟨fun pins s σ H Q I h => ?_⟩
  refine PySem.W.methodCall_KW (pl := pl) (thn (he.run pins s σ H _ I h) fun u s1 ⟨x, H1, I1, rx, a, dx, fs, ex, ea, l, q⟩ => ?_) ht
  subst ex
  cases rx
  refine getmeth_ok I1 ea c hm l ?_
  refine PySem.W.callWith_K (first := [.ref a]) (h₀ := X.base) I.ok.mod.kin hm.kp (thn (ha.run pos pins s1 σ H1 _ I1 q) fun us s2 ⟨vs, H2, I2, r, q2⟩ => ⟨I2.kIn, ?_⟩) hst hpl
  exact run_fnS (E := WE W) (us := .ref a :: us) (vs := .ref a :: vs) F (hr.mono hk) b (passAt tk σ) I2 (.cons (relref a) r) q2
theorem pe_methZ0 {pl : Sem Bool} (he : PE X o ta) (c : Cls X.K C) (I : MthZ X.prog X.w X.K X.mg X.base k C m ps sp) (hr : Room j X.A) (hk : k ≤ j) (tk : Takes X W)
    (ht : eval (.Call (.Attribute o m apos) [] [] pos) X.env = (do
      let ov ← eval o X.env
      standAt apos.atName
      let (f, first) ← holding [ov] (getMethod ov m pl)
      callWith pos f first (backTo pos (starEach [] X.env)) (backToKw pos (keywordEach [] X.env))) := by rfl) : PE X (.Call (.Attribute o m apos) [] [] pos) (tMethZ C m sp W ta tNil) := by
  obtain ⟨f, fd, hm, F, b, _⟩ := I.ex
  refine ⟨fun pins s σ H Q I h => ?_⟩
  refine PySem.W.methodCall_KW (pl := pl) (thn (he.run pins s σ H _ I h) fun u s1 ⟨x, H1, I1, rx, a, dx, fs, ex, ea, l, q⟩ => ?_) ht
  subst ex
  cases rx
  refine getmeth_ok I1 ea c hm l ?_
  exact PySem.W.callWith_K0 (first := [.ref a]) I1.kIn hm.kp (run_fnS (E := WE W) (us := [.ref a]) (vs := [.ref a]) F (hr.mono hk) b (passAt tk σ) I1 (.cons (relref a) .nil) q)
/-- C.m(e, ..), m a staticmethod of C -/
theorem pe_staZ {pl : Sem Bool} (I : StaZ X.prog X.w X.K X.mg X.base k C m ps sp) (hm : X.mg x = some (.ref C)) (hr : Room j X.A) (hk : k ≤ j) (tk : Takes X W) (ha : PA X (e :: es) t) (hg : Gl X x := by rfl) (hdb : (x == ("__debug__" : Str)) = false := by decide)
    (hst : starEach (e :: es) X.env = (false, eval e X.env) :: starEach es X.env := by rfl) (hpl : (backTo pos (starEach es X.env)).any (·.1) = false := by rfl)
    (ht : eval (.Call (.Attribute (.Name x p) m apos) (e :: es) [] pos) X.env = (do
      let ov ← eval (.Name x p) X.env
      standAt apos.atName
      let (f, first) ← holding [ov] (getMethod ov m pl)
      callWith pos f first (backTo pos (starEach (e :: es) X.env)) (backToKw pos (keywordEach [] X.env))) := by rfl) : PE X (.Call (.Attribute (.Name x p) m apos) (e :: es) [] pos) (tCallZ sp W t) := by
  obtain ⟨q, f, fd, mc, rd, fc, ⟨rest, rc⟩, kp, F, b⟩ := I.ex
  refine ⟨fun pins s σ H Q I h => ?_⟩
  refine PySem.W.methodCall_KW (pl := pl) (ld_glob I hg hm ?_ hdb) ht
  refine PySem.W.method_cls I.kIn rd.ga (PySem.W.cls_bind I.kIn rd.rd fc (wpAny_call (PySem.W.sm_get (s := { s with toks := s.toks + 1 }) I.kIn rc (PySem.W.handed_on rfl ?_))))
  refine PySem.W.callWith_K (h₀ := X.base) I.ok.mod.kin kp (thn (ha.run pos pins _ σ H _ (I.tok _) h) fun us s1 ⟨vs, H1, I1, r, q⟩ => ⟨I1.kIn, ?_⟩) hst hpl
  exact run_fnS (E := WE W) F (hr.mono hk) b (passAt tk σ) I1 r q
theorem pe_staZ0 {pl : Sem Bool} (I : StaZ X.prog X.w X.K X.mg X.base k C m ps sp) (hm : X.mg x = some (.ref C)) (hr : Room j X.A) (hk : k ≤ j) (tk : Takes X W) (hg : Gl X x := by rfl) (hdb : (x == ("__debug__" : Str)) = false := by decide)
    (ht : eval (.Call (.Attribute (.Name x p) m apos) [] [] pos) X.env = (do
      let ov ← eval (.Name x p) X.env
      standAt apos.atName
      let (f, first) ← holding [ov] (getMethod ov m pl)
      callWith pos f first (backTo pos (starEach [] X.env)) (backToKw pos (keywordEach [] X.env))) := by rfl) : PE X (.Call (.Attribute (.Name x p) m apos) [] [] pos) (tCallZ sp W tNil) := by
  obtain ⟨q, f, fd, mc, rd, fc, ⟨rest, rc⟩, kp, F, b⟩ := I.ex
  refine ⟨fun pins s σ H Q I h => ?_⟩
  refine PySem.W.methodCall_KW (pl := pl) (ld_glob I hg hm ?_ hdb) ht
  refine PySem.W.method_cls I.kIn rd.ga (PySem.W.cls_bind I.kIn rd.rd fc (wpAny_call (PySem.W.sm_get (s := { s with toks := s.toks + 1 }) I.kIn rc (PySem.W.handed_on rfl ?_))))
  exact PySem.W.callWith_K0 (I.tok _).kIn kp (run_fnS (E := WE W) (us := []) F (hr.mono hk) b (passAt tk σ) (I.tok _) .nil h)
/-- a new instance of an own class: __init__ may raise -/
theorem run_makeZ {pins : List (Addr × Obj)} {σ : L2.St} {H : Hp} {s : Shared} {Q : VK} {us : List Value} {vs : List V} {f : Addr} {fd : FuncData} (M : Mk X.K C f) (F : FnOk X.prog X.w X.K X.mg X.base (L2.CX X.prog X.w) k f fd ps sp) (hr : Room (k + 1) X.A) (hb : Binds X.K fd ps [])
    (tk : Takes X W) (I : Inv X pins σ H s) (r : Vals vs us)
    (h : ∀ x dx, H x = none → H dx = none → dx ≠ x → sp (.ref x :: vs) (upd (upd H dx (.own x)) x (.ins C dx [])) (fun v H2 => v = .non ∧ Q (.ref x) H2) (WE W σ)) : wpAny (model X.prog X.w) X.A (call (.ref C) us) (EP X pins σ Q) X.xe s := by
  have hq := h (s.heap.objs.size + 1) s.heap.objs.size (I.hok.fresh (Nat.le_succ _)) (I.hok.fresh (Nat.le_refl _)) (Nat.ne_of_lt (Nat.lt_succ_self _))
  have I2 := Inv.made (C := C) I
  have r2 : Vals (V.ref (s.heap.objs.size + 1) :: vs) (Value.ref (s.heap.objs.size + 1) :: us) := .cons rfl r
  have hl : (Value.ref (s.heap.objs.size + 1) :: us ++ []).length = ps.length := by
    rw [List.append_nil, ← r2.length]
    exact F.len _ _ _ _ hq
  have b2 := hb _ (Value.ref (s.heap.objs.size + 1) :: us) I2.kIn hl
  rw [List.append_nil] at b2
  refine wpAny_call (make_map (f := f) I.kIn M.makes M.init (beq_iff_eq.mp M.fn) (codeAny_mono (F.run _ X.stack _ _ ⟨Value.ref (s.heap.objs.size + 1) :: us, []⟩ _ _ _ (WE W σ) (hr.make C us []) (I2.env0.make C us []) b2 r2 hq) fun r s' hq' => ?_))
  cases r with
  | error e => exact passAt tk σ pins _ _ e s' I2 hq'
  | ok fl =>
    cases fl with
    | ret u =>
      obtain ⟨v, H', I3, rv, ev, q3⟩ := I2.after hq'
      subst ev
      exact ⟨rv, ⟨V.ref (s.heap.objs.size + 1), H', I3, rfl, q3⟩⟩
    | next => exact False.elim hq'
    | brk => exact False.elim hq'
    | cont => exact False.elim hq'
theorem pe_makeZ {f : Addr} {fd : FuncData} (M : Mk X.K C f) (F : FnOk X.prog X.w X.K X.mg X.base (L2.CX X.prog X.w) k f fd ps sp) (hb : Binds X.K fd ps []) (hm : X.mg x = some (.ref C)) (hr : Room j X.A) (hk : k + 1 ≤ j) (tk : Takes X W) (ha : PA X (e :: es) t) (hg : Gl X x := by rfl)
    (hdb : (x == ("__debug__" : Str)) = false := by decide) (he : starEach (e :: es) X.env = (false, eval e X.env) :: starEach es X.env := by rfl) (hpl : (backTo pos (starEach es X.env)).any (·.1) = false := by rfl) :
    PE X (.Call (.Name x p) (e :: es) [] pos) (tMakeZ C sp W t) := by
  refine ⟨fun pins s σ H Q I h => ?_⟩
  refine wpAny_Call_Name_kw (ld_glob I hg hm ?_ hdb)
  refine PySem.W.callWith_K (h₀ := X.base) I.ok.mod.kin M.kp (thn (ha.run pos pins s σ H _ I h) fun us s1 ⟨vs, H1, I1, r, q⟩ => ⟨I1.kIn, ?_⟩) he hpl
  exact run_makeZ M F (hr.mono hk) hb tk I1 r q
end
end TP

namespace TP
open PySem PySem.Spec PyProof.Rows L2
/-- an own error class, as it stands: its name x, its class C, its one field -/
structure ErrI (P : Program) (K : PySem.W.Frag) (mg : Str → Option Value) (x : Str) (C : Addr) (fld : Str) : Prop where
  at_ : mg x = some (.ref C)
  xf : XfC K C
  is_ : ExcC K C
  no : PySem.W.findIn K (.ref C) fld = some none
  ex : ∃ (fI : Addr) (fd : FuncData) (qual : Str), IniTxt P K mg C fI fld qual fd ∧ PySem.W.findIn K (.ref C) "__init__" = some (some (.ref fI)) ∧ PySem.W.typeIn K (.ref fI) = some (.type "function") ∧ Binds K fd ["self", fld] []
/-- raise x(e) -/
def tRaise (C : Addr) (fld : Str) (W : WX) (ta : TA) : TS := fun _ σ H => ta σ H fun vs H1 => ∃ v, vs = [v] ∧ ∀ d, H1 d = none → W (.ref C) (some d) σ (upd H1 d (.xd [(fld, v)]))
theorem del_eq {H1 : Hp} {a dx : Addr} {o1 o2 o3 o : HO} (na : H1 a = none) (ne : dx ≠ a) : upd (del (upd (upd (upd H1 a o1) dx o2) a o3) a) dx o = upd H1 dx o := by
  funext b
  by_cases e1 : b = dx
  · subst e1; rw [upd_same, upd_same]
  · rw [upd_ne e1, upd_ne e1]
    by_cases e2 : b = a
    · subst e2; rw [del_same, na]
    · rw [del_ne e2, upd_ne e2, upd_ne e1, upd_ne e2]
/-- a reading of arguments, with what is known behind it weakened -/
def tWeak (ta : TA) : TA := fun σ H Q => ∃ Q', ta σ H Q' ∧ ∀ vs H', Q' vs H' → Q vs H'
theorem pa_weak {X : Cx} {es : List Expr} {ta : TA} (h : PA X es ta) : PA X es (tWeak ta) :=
  ⟨fun pos pins s σ H Q I ⟨Q', q, k⟩ => thn (h.run pos pins s σ H Q' I q) fun us s1 ⟨vs, H1, I1, r, q1⟩ => ⟨vs, H1, I1, r, k _ _ q1⟩⟩
section
variable {X : Cx} {W : WX} {x fld : Str} {C : Addr} {j : Nat} {e : Expr} {ta : TA} {p p1 pos : Pos}
theorem ps_raiseZ (hc : X.calm = true) (tk : Takes X W) (T : ErrI X.prog X.K X.mg x C fld) (hr : Room j X.A) (hk : 3 ≤ j) (ha : PA X [e] ta) (hg : Gl X x := by rfl)
    (hdb : (x == ("__debug__" : Str)) = false := by decide) (he : starEach [e] X.env = (false, eval e X.env) :: starEach [] X.env := by rfl) (hpl : (backTo p1 (starEach [] X.env)).any (·.1) = false := by rfl) :
    PS X (.Raise (some (.Call (.Name x p) [e] [] p1)) none pos) (tRaise C fld W ta) := by
  obtain ⟨fI, fd, qual, T1, iC, tI, b⟩ := T.ex
  have Z := ps_raise (pos := pos) hc tk (pmk_oex (p := p) (pos := p1) T1.oex iC tI (exc_init_ok (w := X.w) (base := X.base) T1) (hr.mono hk) b .nil (fun _ _ _ _ _ _ _ h => h.elim) hg T.at_ (pa_weak ha) hdb he hpl)
  refine ⟨fun pins s σ H D I h => Z.run pins s σ H D I ?_⟩
  refine (?_ : tMkO C (sp_exi C fld) [] (tWeak ta) σ H fun cls d H' => W cls d σ H')
  exact ⟨_, h, fun vs H1 ⟨v, ev, q⟩ => by
    subst ev
    refine ⟨by show 1 ≤ 1000; decide, fun a na => ⟨a, v, rfl, upd_same, fun dx nd ne => ⟨rfl, dx, [(fld, v)], upd_same, by rw [upd_ne ne, upd_same], ?_, ?_⟩⟩⟩
    · rw [upd_ne ne] at nd; exact nd
    · rw [del_eq na ne]
      rw [upd_ne ne] at nd
      exact q dx nd⟩
end
end TP

/-! ### x != y by an own __eq__ and object's __ne__ -/
namespace TP
open PySem PySem.Spec PySem.Calls PyProof.Rows
theorem try_neK {prog : Program} {w : World} {A : Around} {E : Value → Shared → Prop} {s : Shared} {K : PySem.W.Frag} {x C f : Addr} {ox : Obj} {od : Option Obj} {b : Value} {Q : Option Value → Shared → Prop}
    (X : K.In s.heap) (I : PySem.W.InstAt s.heap x ox C od) (hne : PySem.W.findIn K (.ref C) "__ne__" = some (some (.builtin "object.__ne__"))) (hob : PySem.W.mroIn K C (.type "object") = some true)
    (hs : PySem.W.findIn K (.ref C) "__eq__" = some (some (.ref f))) (hf : PySem.W.isFn K (.ref f) = true) (hu : A.units + 1 < cLine)
    (h : wpAny (model prog w) A.in1 (call (.ref f) [.ref x, b]) (fun v s' => ∃ k, v = .bool k ∧ Q (some (.bool (!k))) s') E s) : wpAny (model prog w) A (tryCompare (.ref x) "__ne__" b) Q E s := by
  have ent : ∀ {R : Fin → Shared → Prop} {E' : Value → Shared → Prop}, wpAny (model prog w) A.in1 (call (.ref f) [.ref x, b]) (fun v s' => ∃ k, v = .bool k ∧ R (.done (.ret (.bool (!k)))) s') E' s →
      wpAny (model prog w) A.in1 (Builtin.«object.__ne__» ⟨[.ref x, b], []⟩) R E' s := fun {R E'} hh => by
    unfold Builtin.«object.__ne__»
    refine wpAny_bind (wpAny_of_eq (a := ((Value.ref x : Value), [b])) (by first | rfl | (simp only [slotArgs]; rfl)) ?_)
    refine wpAny_bind (wpAny_cRoomFor hu ?_)
    refine wpAny_bind (PySem.W.ifBound_K X I hs hf (wpAny_mono hh (fun r s' hr => ?_) fun _ _ e => e))
    obtain ⟨k, rfl, hq⟩ := hr
    exact wpAny_bind (wpAny_truthy_bool (wpAny_pure hq))
  have L0 := I.type (M := model prog w)
  have sub : PySem.W.Looks (model prog w) s.heap (isInstance (.ref x) (.type "object")) true := L0.andThen (PySem.W.looks_mroIn X hob)
  simp only [tryCompare, callSpecialIfBound?, bindSpecialIfBound?]
  refine wpAny_bind (wpAny_holding (wpAny_bind (wpAny_bind (wpAny_bind (L0.here ((PySem.W.looks_findIn X hne).here ?_))))))
  simp only [F.cmp_object.ne.bind]
  refine wpAny_bind (wpAny_askSetting (wpAny_ite ?_))
  have fin : ∀ {Q' : Option Value → Shared → Prop}, (∀ k s', Q (some (.bool (!k))) s' → Q' (some (.bool (!k))) s') → wpAny (model prog w) A (call (.builtin "object.__ne__") ([.ref x] ++ [b]) >>= fun v => pure (some v)) Q' E s := fun {Q'} hQ => by
    refine wpAny_bind (wpAny_call (codeAny_call_builtin F.cmp_object.ne.plain F.cmpEntry_ne ?_))
    refine PySem.W.check_slot (s := s) F.cmpKind_ne F.cmpSplit_ne sub (F.cmpArgs_ne _ _) ?_
    refine ent (wpAny_mono h (fun v s' hv => ?_) fun _ _ e => e)
    obtain ⟨k, rfl, q⟩ := hv
    exact ⟨k, rfl, wpAny_pure (hQ k s' q)⟩
  split
  · exact wpAny_bind (wpAny_pure (wpAny_pure (fin fun k s' q => wpAny_pure q)))
  · exact wpAny_tryCatch (wpAny_bind (wpAny_pure (wpAny_pure (fin fun k s' q => wpAny_pure q))))
theorem cmp_neK {prog : Program} {w : World} {A : Around} {E : Value → Shared → Prop} {s : Shared} {K : PySem.W.Frag} {x C f : Addr} {ox : Obj} {od : Option Obj} {b tb : Value} {Q : Value → Shared → Prop}
    (X : K.In s.heap) (I : PySem.W.InstAt s.heap x ox C od) (hb : PySem.W.Looks (model prog w) s.heap (typeOf b) tb) (hn : PySem.W.notFirst K C tb = true) (hne : PySem.W.findIn K (.ref C) "__ne__" = some (some (.builtin "object.__ne__"))) (hob : PySem.W.mroIn K C (.type "object") = some true)
    (hs : PySem.W.findIn K (.ref C) "__eq__" = some (some (.ref f))) (hf : PySem.W.isFn K (.ref f) = true) (hu : A.units + 1 < cLine)
    (h : wpAny (model prog w) A.in1 (call (.ref f) [.ref x, b]) (fun v s' => ∃ k, v = .bool k ∧ Q (.bool (!k)) s') E s) : wpAny (model prog w) A (richCompare .NotEq (.ref x) b) Q E s := by
  have one : wpAny (model prog w) A (tryCompare (.ref x) "__ne__" b) (fun r s' => ∃ v, r = some v ∧ Q v s') E s :=
    try_neK X I hne hob hs hf hu (wpAny_mono h (fun v s' ⟨k, e, q⟩ => ⟨k, e, _, rfl, q⟩) fun _ _ e => e)
  unfold richCompare
  simp only [oneThing_ref]
  refine wpAny_holding (wpAny_bind (wpAny_cRoomFor (Nat.lt_of_succ_lt hu) ?_))
  rw [cmpInfo_NotEq]
  dsimp only
  refine wpAny_bind (I.type.here (wpAny_bind (hb.here ?_)))
  split
  · rename_i q
    have e : PySem.W.subIn K tb (.ref C) = some false := by
      rcases Bool.or_eq_true_iff.mp hn with e | e
      · rw [beq_iff_eq.mp e] at q; simp at q
      · exact beq_iff_eq.mp e
    refine wpAny_bind ((PySem.W.looks_subIn X e).here ?_)
    simp only [Bool.false_eq_true, if_false]
    refine wpAny_bind (wpAny_mono one (fun r s' z => ?_) fun _ _ e => e)
    obtain ⟨v, rfl, hq⟩ := z
    exact wpAny_pure hq
  · refine wpAny_bind (wpAny_pure ?_)
    simp only [Bool.false_eq_true, if_false]
    refine wpAny_bind (wpAny_mono one (fun r s' z => ?_) fun _ _ e => e)
    obtain ⟨v, rfl, hq⟩ := z
    exact wpAny_pure hq
open L2
/-! ### operators whose reading knows the slots (a wish of an error may speak of them) -/
abbrev R2S := L2.St → R2
def OpRS (X : Cx) (f : Value → Value → Sem Value) (r : R2S) : Prop :=
  ∀ (pins : List (Addr × Obj)) (s : Shared) (σ : L2.St) (H : Hp) (x y : V) (v u : Value) (Q : VK), Inv X pins σ H s → RelV x v → RelV y u → r σ x y H Q → wpAny (model X.prog X.w) X.A (f v u) (EP X pins σ Q) X.xe s
def tOpS (r : R2S) (ta tb : TE) : TE := fun σ H Q => ta σ H fun x H1 => tb σ H1 fun y H2 => r σ x y H2 Q
def gSubS (to ti : TE) (t : L2.St → TSet) : TG := fun v σ H Q => to σ H fun o H1 => ti σ H1 fun i H2 => t σ o i v H2 fun H3 => Q σ H3
def tAugZ (i : Nat) (te : TE) (ti : R2S) : TS := fun D σ H => ∃ x, σ[i]? = some (some x) ∧ te σ H fun y H1 => ti σ x y H1 fun z H2 => D.nx (σ.set i (some z)) H2
def tCBS (r : L2.St → List V → Hp → VK → Prop) (t : TA) : TE := fun σ H Q => t σ H fun vs H1 => r σ vs H1 Q
section
variable {X : Cx} {a b e : Expr} {ta tb : TE} {pos : Pos}
theorem pe_opS {op : Operator} {r : R2S} (ho : OpRS X (binaryOp op) r) (ha : PE X a ta) (hb : PE X b tb) : PE X (.BinOp a op b pos) (tOpS r ta tb) := by
  refine ⟨fun pins s σ H Q I h => ?_⟩
  exact wpAny_BinOp (binT ha hb I h fun v u s2 x y H2 I2 rx ry q => ho pins s2 σ H2 x y v u Q I2 rx ry q)
theorem pe_cmpS {op : CmpOp} {r : R2S} (ho : OpRS X (compareOp op) r) (ha : PE X a ta) (hb : PE X b tb) (hm : behindInMarks op b = false) : PE X (.Compare a [op] [b] pos) (tOpS r ta tb) := by
  refine ⟨fun pins s σ H Q I h => ?_⟩
  exact wpAny_Compare1 (binT ha hb I h fun v u s2 x y H2 I2 rx ry q => ho pins s2 σ H2 x y v u Q I2 rx ry q) hm
theorem pt_cmpS {op : CmpOp} {r : R2S} (ho : OpRS X (compareOp op) r) (ha : PE X a ta) (hb : PE X b tb) (hm : behindInMarks op b = false) : PT X (.Compare a [op] [b] pos) (tTest (tOpS r ta tb)) := by
  refine ⟨fun pins s σ H Q I h => ?_⟩
  refine wpAny_isTrue_Compare1 (thn (ha.run pins s σ H _ I h) fun v s1 ⟨x, H1, I1, r1, q1⟩ => thn (hb.run pins s1 σ H1 _ I1 q1) fun u s2 ⟨y, H2, I2, r2, q2⟩ =>
    thn (ho pins s2 σ H2 x y v u _ I2 r1 r2 q2) fun c s3 ⟨z, H3, I3, r3, k, e, q3⟩ => ?_) hm
  subst e
  cases r3
  exact wpAny_truthy_bool ⟨H3, I3, q3⟩
theorem pg_subS {o i : Expr} {to ti : TE} {t : L2.St → TSet} (ho : PE X o to) (hi : PE X i ti)
    (hs : ∀ (pins : List (Addr × Obj)) (s : Shared) (σ : L2.St) (H : Hp) (o i v : V) (ov iv u : Value) (Q : Hp → Prop), Inv X pins σ H s → RelV o ov → RelV i iv → RelV v u → t σ o i v H Q → wpAny (model X.prog X.w) X.A (setItem ov iv u) (fun _ s' => ∃ H', Inv X pins σ H' s' ∧ Q H') X.xe s)
    (ha : ∀ v, assign (.Subscript o i pos) X.env v = (do
      let ov ← holding [v] (eval o X.env)
      let iv ← holding [v, ov] (eval i X.env)
      standAt pos
      holding [v, ov, iv] (setItem ov iv v)
      release [v, ov, iv] []) := by intro _; rfl) : PG X (.Subscript o i pos) (gSubS to ti t) := by
  refine ⟨fun pins s σ H v u Q I r h => ?_⟩
  rw [ha]
  refine wpAny_bind (wpAny_holding (thn (ho.run pins s σ H _ I h) fun ov s1 ⟨x, H1, I1, r1, q1⟩ => ?_))
  refine wpAny_bind (wpAny_holding (thn (hi.run pins s1 σ H1 _ I1 q1) fun iv s2 ⟨y, H2, I2, r2, q2⟩ => ?_))
  refine wpAny_bind (wpAny_standAt (wpAny_bind (wpAny_holding (thn (hs pins s2 σ H2 x y v ov iv u _ I2 r1 r2 r q2) fun _ s3 ⟨H3, I3, q3⟩ => ?_))))
  exact wpAny_release ⟨σ, H3, I3, q3⟩
theorem ps_augZ {i : Nat} {x : Str} {te : TE} {op : Operator} {ti : R2S} {pos' : Pos} (hN : X.N.Nodup) (hi : X.N[i]? = some x) (hx : Loc X.env.scope x) (he : PE X e te) (ho : OpRS X (inplaceOp op) ti) (hf : X.fn x = true ∨ X.env.scope.names.lookup x = some .local := by first | exact .inl rfl | exact .inr rfl | assumption) :
    PS X (.AugAssign (.Name x pos') op e pos) (tAugZ i te ti) := by
  refine ⟨fun pins s σ H D I h => ?_⟩
  obtain ⟨v, e1, h⟩ := h
  obtain ⟨m, hn, hl⟩ := I.loc
  have vis : Vis X.env.scope x := hx.elim (fun k => .inl k) fun k => .inr (.inl k)
  obtain ⟨u, r, l⟩ := hl i x v hi e1 vis
  have go : wpAny (model X.prog X.w) X.A (eval e X.env) (fun w1 s2 => wpAny (model X.prog X.w) X.A (inplaceOp op u w1) (fun r1 s3 => wpAny (model X.prog X.w) X.A (storeName X.env x r1) (fun _ => SP X pins D .next) X.xe s3) X.xe s2) X.xe s :=
    thn (he.run pins s σ H _ I h) fun w1 s1 ⟨y, H1, I1, r1, q1⟩ => thn (ho pins s1 σ H1 v y u w1 _ I1 r r1 q1) fun z s2 ⟨zv, H2, I2, r2, q2⟩ => store_ok I2 hN hi hx r2 (fun s3 I3 => ⟨_, H2, I3, q2⟩) hf
  refine wpAny_AugAssign_Name ?_
  rcases l with ⟨hk, hm⟩ | ⟨hk | hk, c, hc, hcell⟩
  · exact wpAny_loadName_local I.ok.kind hk hn hm go
  · exact wpAny_loadName_cell I.ok.kind hk hc hcell go
  · rcases hx with k | k <;> exact absurd (k.symm.trans hk) (by decide)
end
end TP

namespace TP
open PySem PySem.Spec PyProof.Rows L2
/-- what an own class says of itself -/
structure OwnC (K : PySem.W.Frag) (C : Addr) : Prop where
  cls : Cls K C
  ca : PySem.W.findIn K (.ref C) "__class__" = some (some (.builtin "object.__class__"))
  cg : PySem.W.specialIn K (.builtin "object.__class__") "__get__" = some (some (.builtin "getset_descriptor.__get__"))
  ct : PySem.W.takesIn K (.builtin "object.__class__") = some true
  cm : PySem.W.mroIn K C (.type "object") = some true
  first : PySem.W.selfFirst K C = true
  nseq : PySem.W.noSeq K C = true
  ne : PySem.W.findIn K (.ref C) "__ne__" = some (some (.builtin "object.__ne__"))
theorem OwnC.ty {K : PySem.W.Frag} {C a dx : Addr} {H : Hp} {fs : List (Str × V)} (T : OwnC K C) (h : H a = some (.ins C dx fs)) : TyX K H (.ref a) (.ref C) := .base (.ins h T.cls T.ca T.cg T.ct T.cm)
theorem OwnC.self {K : PySem.W.Frag} {C : Addr} : PySem.W.notFirst K C (.ref C) = true := by unfold PySem.W.notFirst; rw [beq_self_eq_true]; rfl
theorem back_of {z : V} {v : Value} {s : Shared} {Q : Value → Shared → Prop} (r : RelV z v) (h : Q v s) : PySem.W.CmpBack Q v s := by
  cases v <;> first | exact h | (cases z <;> first | (exact (nomatch r)) | (obtain ⟨_, e⟩ := (show ∃ _, _ from r); cases e) | (exact h))
section
variable {X : Cx} {k j : Nat} {C : Addr} {ps : List Str} {sp : Sp} {W : WX}
theorem run_in1S {pins : List (Addr × Obj)} {σ : L2.St} {H : Hp} {s : Shared} {f : Addr} {fd : FuncData} {Q : VK} {us : List Value} {vs : List V} (F : FnOk X.prog X.w X.K X.mg X.base (L2.CX X.prog X.w) k f fd ps sp) (hr : Room (k + 1) X.A) (hb : Binds X.K fd ps []) (tk : Takes X W) (I : Inv X pins σ H s) (r : Vals vs us) (h : sp vs H Q (WE W σ)) :
    wpAny (model X.prog X.w) X.A.in1 (call (.ref f) us) (EP X pins σ Q) X.xe s := by
  have hl : (us ++ []).length = ps.length := by rw [List.append_nil, ← r.length]; exact F.len _ _ _ _ h
  have hb' := hb s us I.kIn hl
  rw [List.append_nil] at hb'
  refine wpAny_call (codeAny_mono (F.run X.A.in1 X.stack s H ⟨us, []⟩ us vs Q _ hr.in1 I.env0.in1 hb' r h) fun r s' hq => ?_)
  cases r with
  | error e => exact passAt tk σ pins H s e s' I hq
  | ok fl =>
    cases fl with
    | ret u => exact I.after hq
    | next => exact False.elim hq
    | brk => exact False.elim hq
    | cont => exact False.elim hq
/-- what one asks for behind an own method that must tell True or False -/
abbrev bq (neg : Bool) (Q : VK) : VK := fun r H' => ∃ b, r = .bl b ∧ Q (.bl (if neg then !b else b)) H'
def rCmpO (K : PySem.W.Frag) (C : Addr) (sp : Sp) (W : WX) (neg : Bool) : R2S := fun σ x y H Q => ∃ a dx fs t, x = .ref a ∧ H a = some (.ins C dx fs) ∧ TyX K H y t ∧ PySem.W.notFirst K C t = true ∧ sp [.ref a, y] H (bq neg Q) (WE W σ)
theorem op_cmpO {op : CmpOp} {m : Str} (M : MthZ X.prog X.w X.K X.mg X.base k C m ps sp) (hm : (cmpInfo op).2.1 = m) (hop : ∀ v u, compareOp op v u = richCompare op v u) (hr : Room j X.A) (hk : k ≤ j) (tk : Takes X W) : OpRS X (compareOp op) (rCmpO X.K C sp W false) := by
  intro pins s σ H x y v u Q I rx ry h
  obtain ⟨f, fd, mt, F, b, _⟩ := M.ex
  obtain ⟨a, dx, fs, t, rfl, ha, ty, nf, q⟩ := h
  cases rx
  obtain ⟨ox, od, J⟩ := inst_of I ha
  obtain ⟨m, fr⟩ := I.fr
  obtain ⟨P, kx, p, _⟩ := kit_of I ry ty
  rw [hop]
  refine PySem.W.cmp_K hr.units0 fr I.ok.mod.kin J (kx.ty _ _ I.kIn p) nf (by rw [hm]; exact mt.at_) mt.fn (thn (run_fnS (E := WE W) F (hr.mono hk) b (passAt tk σ) I (.cons (relref a) (.cons ry .nil)) q) fun r s1 ⟨z, H1, I1, r1, bb, e, q1⟩ => ?_)
  subst e
  exact back_of r1 ⟨_, H1, I1, r1, q1⟩
theorem op_neO (M : MthZ X.prog X.w X.K X.mg X.base k C "__eq__" ps sp) (T : OwnC X.K C) (hr : Room j X.A) (hk : k + 1 ≤ j) (tk : Takes X W) : OpRS X (compareOp .NotEq) (rCmpO X.K C sp W true) := by
  intro pins s σ H x y v u Q I rx ry h
  obtain ⟨f, fd, mt, F, b, _⟩ := M.ex
  obtain ⟨a, dx, fs, t, rfl, ha, ty, nf, q⟩ := h
  cases rx
  obtain ⟨ox, od, J⟩ := inst_of I ha
  obtain ⟨P, kx, p, _⟩ := kit_of I ry ty
  show wpAny _ _ (richCompare .NotEq _ _) _ _ _
  refine cmp_neK I.kIn J (kx.ty _ _ I.kIn p) nf T.ne T.cm mt.at_ mt.fn (by have := hr.un; omega) (thn (run_in1S F (hr.mono hk) b tk I (.cons (relref a) (.cons ry .nil)) q) fun r s1 ⟨z, H1, I1, r1, bb, e, q1⟩ => ?_)
  subst e
  cases r1
  exact ⟨bb, rfl, .bl (!bb), H1, I1, rfl, q1⟩
/-- x op y, both of class C -/
def rBinO (C : Addr) (sp : Sp) (W : WX) : R2S := fun σ x y H Q => ∃ a dx fs b dx' fs', x = .ref a ∧ H a = some (.ins C dx fs) ∧ y = .ref b ∧ H b = some (.ins C dx' fs') ∧ sp [.ref a, .ref b] H Q (WE W σ)
theorem op_binO {op : Operator} {m : Str} (M : MthZ X.prog X.w X.K X.mg X.base k C m ps sp) (hm : PySem.dunder op.info.2 = m) (T : OwnC X.K C) (hr : Room j X.A) (hk : k ≤ j) (tk : Takes X W) : OpRS X (binaryOp op) (rBinO C sp W) := by
  intro pins s σ H x y v u Q I rx ry h
  obtain ⟨f, fd, mt, F, b, _⟩ := M.ex
  obtain ⟨a, dx, fs, a', dx', fs', rfl, ha, rfl, ha', q⟩ := h
  cases rx
  cases ry
  obtain ⟨ox, od, J⟩ := inst_of I ha
  obtain ⟨m, fr⟩ := I.fr
  obtain ⟨P, kx, p, _⟩ := kit_of I (relref a') (T.ty ha')
  exact PySem.W.binop_K fr I.ok.mod.kin J (kx.ty _ _ I.kIn p) T.first (by rw [hm]; exact mt.at_) mt.fn (thn (run_fnS (E := WE W) F (hr.mono hk) b (passAt tk σ) I (.cons (relref a) (.cons (relref a') .nil)) q) fun r s1 ⟨z, H1, I1, r1, q1⟩ => back_of r1 ⟨z, H1, I1, r1, q1⟩)
/-- x op y, x of class C, y an int -/
def rBinI (C : Addr) (sp : Sp) (W : WX) : R2S := fun σ x y H Q => ∃ a dx fs i, x = .ref a ∧ H a = some (.ins C dx fs) ∧ y = .int i ∧ sp [.ref a, .int i] H Q (WE W σ)
/-- what int and C say of an operator with own methods on both sides -/
structure MixC (K : PySem.W.Frag) (C : Addr) (m rm : Str) : Prop where
  r : ∃ g : Addr, PySem.W.findIn K (.ref C) rm = some (some (.ref g))
  fo : ∃ v, PySem.W.findIn K (.type "int") m = some v
  ro : ∃ v, PySem.W.findIn K (.type "int") rm = some v
  sub : PySem.W.subIn K (.type "int") (.ref C) = some false
theorem op_binI {op : Operator} {m rm : Str} (M : MthZ X.prog X.w X.K X.mg X.base k C m ps sp) (hm : PySem.dunder op.info.2 = m) (hrm : dunderR op.info.2 = rm) (T : OwnC X.K C) (Y : MixC X.K C m rm) (hr : Room j X.A) (hk : k ≤ j) (tk : Takes X W) : OpRS X (binaryOp op) (rBinI C sp W) := by
  intro pins s σ H x y v u Q I rx ry h
  obtain ⟨f, fd, mt, F, b, _⟩ := M.ex
  obtain ⟨a, dx, fs, i, rfl, ha, rfl, q⟩ := h
  cases rx
  obtain ⟨t, rfl⟩ := id ry
  obtain ⟨ox, od, J⟩ := inst_of I ha
  obtain ⟨m, fr⟩ := I.fr
  obtain ⟨g, hg⟩ := Y.r
  obtain ⟨_, h1⟩ := Y.fo
  obtain ⟨_, h2⟩ := Y.ro
  exact PySem.W.ksp_binT (T := "int") fr I.ok.mod.kin J rfl T.first (by rw [hm]; exact mt.at_) mt.fn (by rw [hrm]; exact hg) (.inr ⟨g, rfl⟩) (by rw [hm]; exact h1) (by rw [hrm]; exact h2) Y.sub
    (thn (run_fnS (E := WE W) F (hr.mono hk) b (passAt tk σ) I (.cons (relref a) (.cons ry .nil)) q) fun r s1 ⟨z, H1, I1, r1, q1⟩ => back_of r1 ⟨z, H1, I1, r1, q1⟩)
/-- x op= y by an own in-place method -/
def rIpO (C : Addr) (sp : Sp) (W : WX) : R2S := fun σ x y H Q => ∃ a dx fs, x = .ref a ∧ H a = some (.ins C dx fs) ∧ sp [.ref a, y] H Q (WE W σ)
theorem ip_own {op : Operator} {m : Str} (M : MthZ X.prog X.w X.K X.mg X.base k C m ps sp) (hm : dunderI op.info.2 = m) (T : OwnC X.K C) (hr : Room j X.A) (hk : k ≤ j) (tk : Takes X W) : OpRS X (inplaceOp op) (rIpO C sp W) := by
  intro pins s σ H x y v u Q I rx ry h
  obtain ⟨f, fd, mt, F, b, _⟩ := M.ex
  obtain ⟨a, dx, fs, rfl, ha, q⟩ := h
  cases rx
  obtain ⟨ox, od, J⟩ := inst_of I ha
  obtain ⟨m, fr⟩ := I.fr
  exact PySem.W.ksp_inplace fr I.ok.mod.kin J T.first (by rw [hm]; exact mt.at_) mt.fn (thn (run_fnS (E := WE W) F (hr.mono hk) b (passAt tk σ) I (.cons (relref a) (.cons ry .nil)) q) fun r s1 ⟨z, H1, I1, r1, q1⟩ => back_of r1 ⟨z, H1, I1, r1, q1⟩)
/-- v in o, v not in o -/
def rInZ (C : Addr) (sp : Sp) (W : WX) (neg : Bool) : R2S := fun σ v y H Q => ∃ a dx fs, y = .ref a ∧ H a = some (.ins C dx fs) ∧ sp [.ref a, v] H (bq neg Q) (WE W σ)
theorem op_inZ (M : MthZ X.prog X.w X.K X.mg X.base k C "__contains__" ps sp) (hr : Room j X.A) (hk : k ≤ j) (tk : Takes X W) : OpRS X (compareOp .In) (rInZ C sp W false) := by
  intro pins s σ H x y v u Q I rx ry h
  obtain ⟨f, fd, hm, F, b, _⟩ := M.ex
  obtain ⟨a, dx, fs, rfl, ha, q⟩ := h
  cases ry
  obtain ⟨ox, od, J⟩ := inst_of I ha
  obtain ⟨m, fr⟩ := I.fr
  refine PySem.W.in_K fr I.ok.mod.kin J hm.at_ hm.fn (thn (run_fnS (E := WE W) F (hr.mono hk) b (passAt tk σ) I (.cons (relref a) (.cons rx .nil)) q) fun r s1 ⟨z, H1, I1, r1, bb, e, q1⟩ => ?_)
  subst e
  cases r1
  exact wpAny_truthy_bool ⟨.bl bb, H1, I1, rfl, q1⟩
theorem op_ninZ (M : MthZ X.prog X.w X.K X.mg X.base k C "__contains__" ps sp) (hr : Room j X.A) (hk : k ≤ j) (tk : Takes X W) : OpRS X (compareOp .NotIn) (rInZ C sp W true) := by
  intro pins s σ H x y v u Q I rx ry h
  obtain ⟨f, fd, hm, F, b, _⟩ := M.ex
  obtain ⟨a, dx, fs, rfl, ha, q⟩ := h
  cases ry
  obtain ⟨ox, od, J⟩ := inst_of I ha
  obtain ⟨m, fr⟩ := I.fr
  refine PySem.W.notIn_K fr I.ok.mod.kin J hm.at_ hm.fn (thn (run_fnS (E := WE W) F (hr.mono hk) b (passAt tk σ) I (.cons (relref a) (.cons rx .nil)) q) fun r s1 ⟨z, H1, I1, r1, bb, e, q1⟩ => ?_)
  subst e
  cases r1
  exact wpAny_truthy_bool ⟨.bl (!bb), H1, I1, rfl, q1⟩
/-- o[i] -/
def rGetZ (C : Addr) (sp : Sp) (W : WX) : R2S := fun σ x i H Q => ∃ a dx fs, x = .ref a ∧ H a = some (.ins C dx fs) ∧ sp [.ref a, i] H Q (WE W σ)
theorem pe_ixZ {a b : Expr} {ta tb : TE} {pos : Pos} (M : MthZ X.prog X.w X.K X.mg X.base k C "__getitem__" ps sp) (hr : Room j X.A) (hk : k + 1 ≤ j) (tk : Takes X W) (ha : PE X a ta) (hb : PE X b tb)
    (hs : ∀ o i, subscripted b true o i = runValue (.builtin "lifetime.subscript" ⟨[o, i], []⟩)) : PE X (.Subscript a b pos) (tOpS (rGetZ C sp W) ta tb) := by
  obtain ⟨f, fd, hm, F, bd, fi⟩ := M.ex
  refine ⟨fun pins s σ H Q I h => ?_⟩
  refine Subscript_ (binT ha hb I h fun v u s2 x y H2 I2 rx ry q => ?_)
  obtain ⟨a, dx, fs, rfl, ha, q⟩ := q
  cases rx
  obtain ⟨ox, od, J⟩ := inst_of I2 ha
  obtain ⟨m, fr⟩ := I2.fr
  exact PySem.W.sub_K fr I2.ok.mod.kin J hm.at_ fi hm.fn (run_in1S F (hr.mono hk) bd tk I2 (.cons (relref a) (.cons ry .nil)) q) (hs _ _)
/-- o[i] = v -/
def rSetZ (C : Addr) (sp : Sp) (W : WX) : L2.St → TSet := fun σ o i v H Q => ∃ a dx fs, o = .ref a ∧ H a = some (.ins C dx fs) ∧ sp [.ref a, i, v] H (fun _ H' => Q H') (WE W σ)
theorem pg_setZ {o i : Expr} {to ti : TE} {pos : Pos} (M : MthZ X.prog X.w X.K X.mg X.base k C "__setitem__" ps sp) (T : OwnC X.K C) (hr : Room j X.A) (hk : k ≤ j) (tk : Takes X W) (ho : PE X o to) (hi : PE X i ti)
    (ha : ∀ v, assign (.Subscript o i pos) X.env v = (do
      let ov ← holding [v] (eval o X.env)
      let iv ← holding [v, ov] (eval i X.env)
      standAt pos
      holding [v, ov, iv] (setItem ov iv v)
      release [v, ov, iv] []) := by intro _; rfl) : PG X (.Subscript o i pos) (gSubS to ti (rSetZ C sp W)) := by
  obtain ⟨f, fd, hm, F, bd, fi⟩ := M.ex
  refine pg_subS ho hi (fun pins s σ H o i v ov iv u Q I ro ri rv h => ?_) ha
  obtain ⟨a, dx, fs, rfl, ha, q⟩ := h
  cases ro
  obtain ⟨ox, od, J⟩ := inst_of I ha
  obtain ⟨m, fr⟩ := I.fr
  exact PySem.W.ksp_setItem fr I.ok.mod.kin J T.nseq hm.at_ hm.fn (thn (run_fnS (E := WE W) F (hr.mono hk) bd (passAt tk σ) I (.cons (relref a) (.cons ri (.cons rv .nil))) q) fun r s1 ⟨z, H1, I1, r1, q1⟩ => ⟨H1, I1, q1⟩)
/-- len(o) -/
def rLenZ (C : Addr) (sp : Sp) (W : WX) : L2.St → List V → Hp → VK → Prop := fun σ xs H Q => ∃ a dx fs, xs = [.ref a] ∧ H a = some (.ins C dx fs) ∧ sp [.ref a] H (fun r H' => ∃ n : Int, r = .int n ∧ 0 ≤ n ∧ n < 2 ^ 63 ∧ Q (.int n) H') (WE W σ)
theorem pe_lenZ {e : Expr} {t : TA} {p pos : Pos} (M : MthZ X.prog X.w X.K X.mg X.base k C "__len__" ps sp) (hr : Room j X.A) (hk : k + 1 ≤ j) (tk : Takes X W) (hm : X.mg "len" = none) (ha : PA X [e] t) (hg : Gl X "len" := by rfl)
    (he : starEach [e] X.env = (false, eval e X.env) :: starEach [] X.env := by rfl) (hpl : (backTo pos (starEach [] X.env)).any (·.1) = false := by rfl) : PE X (.Call (.Name "len" p) [e] [] pos) (tCBS (rLenZ C sp W) t) := by
  refine ⟨fun pins s σ H Q I h => ?_⟩
  obtain ⟨f, fd, hmt, F, b, _⟩ := M.ex
  refine wpAny_Call_Name_kw (ld_blt I hg hm (show bootBuiltins "len" = some (.builtin "len") by decide +kernel) ?_ (by decide) (by decide))
  refine PyProof.Rows.callWith_builtin1 (thn (ha.run pos pins s σ H _ I h) fun us s1 ⟨vs, H1, I1, r1, q1⟩ => ?_) he hpl
  obtain ⟨a, dx, fs, rfl, ea, q⟩ := q1
  obtain ⟨u, rfl, rx⟩ := vals1 r1
  cases rx
  obtain ⟨ox, od, J⟩ := inst_of I1 ea
  obtain ⟨m, fr⟩ := I1.fr
  refine PySem.W.len_K fr I1.ok.mod.kin J hmt.at_ hmt.fn (thn (run_in1S F (hr.mono hk) b tk I1 (.cons (relref a) .nil) q) fun r s1 ⟨z, H1, I1, r1, n, e, n0, n1, q1⟩ => ?_)
  subst e
  obtain ⟨t, rfl⟩ := r1
  exact ⟨⟨n0, n1⟩, .int n, H1, I1.tok _, ⟨_, rfl⟩, q1⟩
end
/-! ### the caught error -/
/-- isinstance(e, c), e the error that the suite holds -/
def rIsX (K : PySem.W.Frag) (a : Addr) (cls : Value) (d : Option Addr) : List V → Hp → VK → Prop := fun xs H Q => ∃ (D dd : Addr) (fs : List (Str × V)) (c : V) (cv : Value) (b : Bool), cls = .ref D ∧ ExcC K D ∧ d = some dd ∧ H dd = some (.xd fs) ∧ xs = [.ref a, c] ∧ ClsV c cv ∧ PySem.W.kitOne K (.ref D) cv = some b ∧ Q (.bl b) H
theorem call_isX {X : Cx} {a : Addr} {oe : Obj} {cls : Value} {d : Option Addr} {pn : List (Addr × Obj)} (hz : Zc cls d oe) (hf : ∃ vs, oe.data = .fields vs) : CallR (X.suite a ((a, oe) :: pn)) (.builtin "isinstance") (rIsX X.K a cls d) := by
  intro pins s σ H xs us Q I r h
  obtain ⟨D, dd, fs, c, cv, b, ec, C, ed, hd, rfl, hcv, e, q⟩ := h
  subst ec
  subst ed
  obtain ⟨u1, u2, rfl, rx, rt⟩ := vals2 r
  cases rx
  have ec := hcv.eq rt
  subst ec
  obtain ⟨hget, _⟩ := I.pin (a, oe) (List.mem_append.mpr (.inl List.mem_cons_self))
  obtain ⟨vs, hv⟩ := hf
  obtain ⟨mA, hns, _⟩ := (show ObjOk X.prog X.w H s.heap dd (.xd fs) from I.hok dd _ hd)
  obtain ⟨od, ho, _⟩ := lookIn_ns hns
  have J : PySem.W.InstAt s.heap a oe D (some od) := ⟨hget, hz.1, by unfold PySem.W.notCls; rw [hv] <;> rfl, by rw [hz.2]; exact ho⟩
  obtain ⟨cd, hc, _⟩ := PySem.W.any_some C.hd
  exact PySem.W.kia_one (PySem.W.kitx_exc (by rw [hc]; rfl) C.hg C.hk C.hs C.ha C.hn C.ht C.hm) I.kIn J e (fun z => nomatch z) fun tk => ⟨.bl b, H, I.kept (t' := tk) fun _ _ z => z, rfl, q⟩
end TP

namespace TP
open PySem PySem.Spec PyProof.Rows L2
/-! ### x(..), x an own class; ds what is left out -/
structure MakZ (P : Program) (w : World) (K : PySem.W.Frag) (mg : Str → Option Value) (base : Heap) (k : Nat) (x : Str) (C : Addr) (ps : List Str) (sp : Sp) (ds : List Value) : Prop where
  ex : ∃ (f : Addr) (fd : FuncData), mg x = some (.ref C) ∧ Mk K C f ∧ FnOk P w K mg base (L2.CX P w) k f fd ps sp ∧ Binds K fd ps ds
/-- .. as it stands -/
structure MakI (K : PySem.W.Frag) (mg : Str → Option Value) (x : Str) (C : Addr) (m qual : Str) (st : Stmt) (ps : List Str) (ds : List Value) : Prop where
  ex : ∃ (f : Addr) (fd : FuncData), mg x = some (.ref C) ∧ Mk K C f ∧ (Fun K m qual st f fd ∨ ∃ dvs kws, FunD K m qual (defArgs st) (defBody st) (defScope st) dvs kws f fd) ∧ Binds K fd ps ds
def tNew (C : Addr) (sp : Sp) (W : WX) (dvs : List V) (t : TA) : TE := fun σ H Q => t σ H fun vs H1 => ∀ x dx, H1 x = none → H1 dx = none → dx ≠ x → sp (.ref x :: (vs ++ dvs)) (upd (upd H1 dx (.own x)) x (.ins C dx [])) (fun v H2 => v = .non ∧ Q (.ref x) H2) (WE W σ)
section
variable {P : Program} {w : World} {K : PySem.W.Frag} {mg : Str → Option Value} {base : Heap} {C : Addr}
theorem MakI.okZ {x m qual : Str} {st : Stmt} {N ps : List Str} {ds : List Value} {k : Nat} {sp : Sp} (F : MakI K mg x C m qual st ps ds) (S : FnScope N ps (defScope st)) (len : ∀ vs H Q E, sp vs H Q E → vs.length = ps.length) {t : XK → TS}
    (hd : ∀ (f : Addr) (cdv : Value) (A : Around) (outer : List Env) (s : Shared) (H : Hp) (E : XK), Room k (A.deeper (envOfC qual (defScope st) s.heap.objs.size f cdv)) → PSs (cxOf (L2.CX P w) P w K mg base N qual (defScope st) f cdv A outer s H E) (defBody st) (t E))
    (hb : ∀ (H : Hp) (vs : List V) (Q : VK) (E : XK), sp vs H Q E → t E { nx := fun _ H' => Q .non H', rt := Q } (start N vs) H) : MakZ P w K mg base (k + 1) x C ps sp ds := by
  obtain ⟨f, fd, at_, M, F, b⟩ := F.ex
  refine ⟨f, fd, at_, M, ?_, b⟩
  rcases F with F | ⟨dvs, kws, F⟩
  · exact F.okX S len fun cdv A outer s H vs Q E hr h => ⟨t E, hd f cdv A outer s H E hr, hb H vs Q E h⟩
  · exact F.ok S len fun cdv A outer s H vs Q E hr h => ⟨t E, hd f cdv A outer s H E hr, hb H vs Q E h⟩
end
section
variable {X : Cx} {k j : Nat} {C : Addr} {ps : List Str} {sp : Sp} {W : WX} {x : Str} {p pos : Pos} {e : Expr} {es : List Expr} {t : TA} {ds : List Value} {dvs : List V}
theorem run_new {pins : List (Addr × Obj)} {σ : L2.St} {H : Hp} {s : Shared} {Q : VK} {us : List Value} {vs : List V} (M : MakZ X.prog X.w X.K X.mg X.base k x C ps sp ds) (hd : Vals dvs ds) (hr : Room (k + 1) X.A) (tk : Takes X W) (I : Inv X pins σ H s) (r : Vals vs us)
    (h : ∀ x dx, H x = none → H dx = none → dx ≠ x → sp (.ref x :: (vs ++ dvs)) (upd (upd H dx (.own x)) x (.ins C dx [])) (fun v H2 => v = .non ∧ Q (.ref x) H2) (WE W σ)) : wpAny (model X.prog X.w) X.A (call (.ref C) us) (EP X pins σ Q) X.xe s := by
  obtain ⟨f, fd, _, M, F, hb⟩ := M.ex
  have hq := h (s.heap.objs.size + 1) s.heap.objs.size (I.hok.fresh (Nat.le_succ _)) (I.hok.fresh (Nat.le_refl _)) (Nat.ne_of_lt (Nat.lt_succ_self _))
  have I2 := Inv.made (C := C) I
  have r2 : Vals (V.ref (s.heap.objs.size + 1) :: (vs ++ dvs)) (Value.ref (s.heap.objs.size + 1) :: (us ++ ds)) := .cons rfl (r.append hd)
  have hl : (Value.ref (s.heap.objs.size + 1) :: us ++ ds).length = ps.length := by
    have z := r2.length
    rw [F.len _ _ _ _ hq] at z
    exact z.symm
  refine wpAny_call (make_map (f := f) I.kIn M.makes M.init (beq_iff_eq.mp M.fn) (codeAny_mono (F.run _ X.stack _ _ ⟨Value.ref (s.heap.objs.size + 1) :: us, []⟩ _ _ _ (WE W σ) (hr.make C us []) (I2.env0.make C us []) (hb _ (Value.ref (s.heap.objs.size + 1) :: us) I2.kIn hl) r2 hq) fun r s' hq' => ?_))
  cases r with
  | error e => exact passAt tk σ pins _ _ e s' I2 hq'
  | ok fl =>
    cases fl with
    | ret u =>
      obtain ⟨v, H', I3, rv, ev, q3⟩ := I2.after hq'
      subst ev
      exact ⟨rv, ⟨V.ref (s.heap.objs.size + 1), H', I3, rfl, q3⟩⟩
    | next => exact False.elim hq'
    | brk => exact False.elim hq'
    | cont => exact False.elim hq'
theorem pe_new (M : MakZ X.prog X.w X.K X.mg X.base k x C ps sp ds) (hd : Vals dvs ds) (hr : Room j X.A) (hk : k + 1 ≤ j) (tk : Takes X W) (ha : PA X (e :: es) t) (hg : Gl X x := by rfl)
    (hdb : (x == ("__debug__" : Str)) = false := by decide) (he : starEach (e :: es) X.env = (false, eval e X.env) :: starEach es X.env := by rfl) (hpl : (backTo pos (starEach es X.env)).any (·.1) = false := by rfl) :
    PE X (.Call (.Name x p) (e :: es) [] pos) (tNew C sp W dvs t) := by
  obtain ⟨f, fd, hm, Mk, _, _⟩ := M.ex
  refine ⟨fun pins s σ H Q I h => ?_⟩
  refine wpAny_Call_Name_kw (ld_glob I hg hm ?_ hdb)
  refine PySem.W.callWith_K (h₀ := X.base) I.ok.mod.kin Mk.kp (thn (ha.run pos pins s σ H _ I h) fun us s1 ⟨vs, H1, I1, r, q⟩ => ⟨I1.kIn, ?_⟩) he hpl
  exact run_new M hd (hr.mono hk) tk I1 r q
theorem pe_new0 (M : MakZ X.prog X.w X.K X.mg X.base k x C ps sp ds) (hd : Vals dvs ds) (hr : Room j X.A) (hk : k + 1 ≤ j) (tk : Takes X W) (hg : Gl X x := by rfl)
    (hdb : (x == ("__debug__" : Str)) = false := by decide) : PE X (.Call (.Name x p) [] [] pos) (tNew C sp W dvs tNil) := by
  obtain ⟨f, fd, hm, Mk, _, _⟩ := M.ex
  refine ⟨fun pins s σ H Q I h => ?_⟩
  refine wpAny_Call_Name_kw (ld_glob I hg hm ?_ hdb)
  exact PySem.W.callWith_K0 I.kIn Mk.kp (run_new M hd (hr.mono hk) tk I .nil h)
end
end TP

namespace TP
open PySem PySem.Spec PyProof.Rows L2
/-- o.f, o of class C -/
def tGetF (C : Addr) (f : Str) (ta : TE) : TE := fun σ H Q => ta σ H fun x H1 => ∃ a dx fs v, x = .ref a ∧ H1 a = some (.ins C dx fs) ∧ fs.lookup f = some v ∧ Q v H1
/-- o.f = v -/
def tSetF (C : Addr) (f : Str) (ta tv : TE) : TS := fun D σ H => tv σ H fun y H1 => ta σ H1 fun x H2 => ∃ a dx fs, x = .ref a ∧ H2 a = some (.ins C dx fs) ∧ fs.length < 1000 ∧ D.nx σ (upd H2 a (.ins C dx (putF f y fs)))
section
variable {X : Cx} {o e value : Expr} {f : Str} {pos pos' : Pos} {ta tv : TE} {C : Addr}
theorem pe_getF (c : Cls X.K C) (n : NoAttr X.K C f) (he : PE X e ta) (hb : attributeBase e f X.env (eval e X.env) = eval e X.env := by rfl) : PE X (.Attribute e f pos) (tGetF C f ta) := by
  refine ⟨fun pins s σ H Q I h => ?_⟩
  refine attr_of hb (thn (he.run pins s σ H _ I h) fun u s1 ⟨x, H1, I1, rx, a, dx, fs, v, ex, ea, l, q⟩ => ?_)
  subst ex
  cases rx
  exact getattr_ok I1 ea c n l fun u' s2 I2 ru => ⟨v, H1, I2, ru, q⟩
theorem ps_setF (c : Cls X.K C) (n : NoAttr X.K C f) (ha : PE X o ta) (hv : PE X value tv) (hs : swapsWith value (some (.Attribute o f pos')) pos.line X.env = pure false := by rfl) : PS X (.Assign [.Attribute o f pos'] value pos) (tSetF C f ta tv) := by
  refine ⟨fun pins s σ H D I h => ?_⟩
  refine plainObj_wpAny_Assign_Attribute (thn (hv.run pins s σ H _ I h) fun u s1 ⟨y, H1, I1, ry, q⟩ => thn (ha.run pins s1 σ H1 _ I1 q) fun ov s2 ⟨x, H2, I2, rx, a, dx, fs, ex, ea, l, q2⟩ => ?_) hs
  subst ex
  cases rx
  exact setattr_ok I2 ea c n l ry fun s3 I3 => ⟨σ, _, I3, q2⟩
end
/-- try: .. except x as n: .. -/
def tTry (tb : WX → TS) (w : Ends → WX) : TS := fun D σ H => tb (w D) D σ H
end TP

namespace TP
open PySem PySem.Spec PyProof.Rows L2
/-! ### the new readings, step by step -/
section
variable {σ : L2.St} {H : Hp} {Q : VK} {QB : Bool → Hp → Prop} {QA : List V → Hp → Prop} {D : Ends} {ta tb te to ti : TE} {tl : TA} {ts us : TS} {x y v : V} {i j : Int} {K : PySem.W.Frag} {C : Addr} {sp : Sp} {W : WX}
theorem go_callZ (q : tl σ H fun vs H1 => sp vs H1 Q (WE W σ)) : tCallZ sp W tl σ H Q := q
theorem go_methZ {m : Str} (q : ta σ H fun x H1 => ∃ a dx fs, x = .ref a ∧ H1 a = some (.ins C dx fs) ∧ fs.lookup m = none ∧ tl σ H1 fun vs H2 => sp (.ref a :: vs) H2 Q (WE W σ)) : tMethZ C m sp W ta tl σ H Q := q
theorem go_new {dvs : List V} (q : tl σ H fun vs H1 => ∀ x dx, H1 x = none → H1 dx = none → dx ≠ x → sp (.ref x :: (vs ++ dvs)) (upd (upd H1 dx (.own x)) x (.ins C dx [])) (fun v H2 => v = .non ∧ Q (.ref x) H2) (WE W σ)) : tNew C sp W dvs tl σ H Q := q
theorem go_getF {f : Str} (q : ta σ H fun x H1 => ∃ a dx fs v, x = .ref a ∧ H1 a = some (.ins C dx fs) ∧ fs.lookup f = some v ∧ Q v H1) : tGetF C f ta σ H Q := q
theorem go_setF {f : Str} (q : te σ H fun y H1 => ta σ H1 fun x H2 => ∃ a dx fs, x = .ref a ∧ H2 a = some (.ins C dx fs) ∧ fs.length < 1000 ∧ D.nx σ (upd H2 a (.ins C dx (putF f y fs)))) : tSetF C f ta te D σ H := q
theorem go_opS {r : R2S} (q : ta σ H fun x H1 => tb σ H1 fun y H2 => r σ x y H2 Q) : tOpS r ta tb σ H Q := q
theorem go_gsubS {t : L2.St → TSet} {QS : L2.St → Hp → Prop} (q : to σ H fun o H1 => ti σ H1 fun i H2 => t σ o i v H2 fun H3 => QS σ H3) : gSubS to ti t v σ H QS := q
theorem go_augZ {n : Nat} {r : R2S} (h : σ[n]? = some (some x)) (q : te σ H fun y H1 => r σ x y H1 fun z H2 => D.nx (σ.set n (some z)) H2) : tAugZ n te r D σ H := ⟨x, h, q⟩
theorem go_cbS {r : L2.St → List V → Hp → VK → Prop} (q : tl σ H fun vs H1 => r σ vs H1 Q) : tCBS r tl σ H Q := q
theorem go_raise {f : Str} (q : tl σ H fun vs H1 => ∃ v, vs = [v] ∧ ∀ d, H1 d = none → W (.ref C) (some d) σ (upd H1 d (.xd [(f, v)]))) : tRaise C f W tl D σ H := q
theorem go_rs {P : V → Prop} (q : P v) : ∃ u, [v] = [u] ∧ P u := ⟨v, rfl, q⟩
theorem go_try {tb : WX → TS} {w : Ends → WX} (q : tb (w D) D σ H) : tTry tb w D σ H := q
theorem go_ienum {R : It → Hp → Prop} (q : tl σ H fun vs H1 => ∃ a xs, vs = [.ref a] ∧ SqL K H1 a xs ∧ R (Ite K a) H1) : iEnum K tl σ H R := q
theorem go_izip {R : It → Hp → Prop} (q : tl σ H fun vs H1 => ∃ a b xs ys, vs = [.ref a, .ref b] ∧ SqL K H1 a xs ∧ SqL K H1 b ys ∧ R (Itz K a b) H1) : iZip K tl σ H R := q
theorem go_augS {tget : V → V → Hp → VK → Prop} {tip : TIp} {tset : TSet} (q : to σ H fun o H1 => ti σ H1 fun i H2 => tget o i H2 fun x H3 => te σ H3 fun y H4 => tip x y H4 fun z H5 => tset o i z H5 fun H6 => D.nx σ H6) : tAugS to ti te tget tip tset D σ H := q
/-- an object of class C with the attributes fs -/
theorem at_meth {m : Str} {a dx : Addr} {fs : List (Str × V)} {P : Addr → Prop} (h : H a = some (.ins C dx fs)) (l : fs.lookup m = none) (q : P a) : ∃ b dx fs, V.ref a = .ref b ∧ H b = some (.ins C dx fs) ∧ fs.lookup m = none ∧ P b := ⟨a, dx, fs, rfl, h, l, q⟩
theorem at_get {f : Str} {a dx : Addr} {fs : List (Str × V)} {P : V → Prop} (h : H a = some (.ins C dx fs)) (l : fs.lookup f = some v) (q : P v) : ∃ b dx fs v, V.ref a = .ref b ∧ H b = some (.ins C dx fs) ∧ fs.lookup f = some v ∧ P v := ⟨a, dx, fs, v, rfl, h, l, q⟩
theorem at_set {a dx : Addr} {fs : List (Str × V)} {P : Addr → Addr → List (Str × V) → Prop} (h : H a = some (.ins C dx fs)) (l : fs.length < 1000) (q : P a dx fs) : ∃ b dx fs, V.ref a = .ref b ∧ H b = some (.ins C dx fs) ∧ fs.length < 1000 ∧ P b dx fs := ⟨a, dx, fs, rfl, h, l, q⟩
theorem go_cmpO {neg : Bool} {a dx : Addr} {fs : List (Str × V)} {t : Value} (h : H a = some (.ins C dx fs)) (ty : TyX K H y t) (nf : PySem.W.notFirst K C t = true) (q : sp [.ref a, y] H (bq neg Q) (WE W σ)) : rCmpO K C sp W neg σ (.ref a) y H Q := ⟨a, dx, fs, t, rfl, h, ty, nf, q⟩
theorem go_binO {a dx b dx' : Addr} {fs fs' : List (Str × V)} (h : H a = some (.ins C dx fs)) (h' : H b = some (.ins C dx' fs')) (q : sp [.ref a, .ref b] H Q (WE W σ)) : rBinO C sp W σ (.ref a) (.ref b) H Q := ⟨a, dx, fs, b, dx', fs', rfl, h, rfl, h', q⟩
theorem go_binI {a dx : Addr} {fs : List (Str × V)} (h : H a = some (.ins C dx fs)) (q : sp [.ref a, .int i] H Q (WE W σ)) : rBinI C sp W σ (.ref a) (.int i) H Q := ⟨a, dx, fs, i, rfl, h, rfl, q⟩
theorem go_ipO {a dx : Addr} {fs : List (Str × V)} (h : H a = some (.ins C dx fs)) (q : sp [.ref a, y] H Q (WE W σ)) : rIpO C sp W σ (.ref a) y H Q := ⟨a, dx, fs, rfl, h, q⟩
theorem go_inZ {neg : Bool} {a dx : Addr} {fs : List (Str × V)} (h : H a = some (.ins C dx fs)) (q : sp [.ref a, v] H (bq neg Q) (WE W σ)) : rInZ C sp W neg σ v (.ref a) H Q := ⟨a, dx, fs, rfl, h, q⟩
theorem go_getZ {a dx : Addr} {fs : List (Str × V)} (h : H a = some (.ins C dx fs)) (q : sp [.ref a, v] H Q (WE W σ)) : rGetZ C sp W σ (.ref a) v H Q := ⟨a, dx, fs, rfl, h, q⟩
theorem go_setZ {a dx : Addr} {fs : List (Str × V)} {QH : Hp → Prop} (h : H a = some (.ins C dx fs)) (q : sp [.ref a, x, v] H (fun _ H' => QH H') (WE W σ)) : rSetZ C sp W σ (.ref a) x v H QH := ⟨a, dx, fs, rfl, h, q⟩
theorem go_lenZ {a dx : Addr} {fs : List (Str × V)} (h : H a = some (.ins C dx fs)) (q : sp [.ref a] H (fun r H' => ∃ n : Int, r = .int n ∧ 0 ≤ n ∧ n < 2 ^ 63 ∧ Q (.int n) H') (WE W σ)) : rLenZ C sp W σ [.ref a] H Q := ⟨a, dx, fs, rfl, h, q⟩
theorem go_xf {a : Addr} {cls : Value} {d : Option Addr} {n : Str} (q : te σ H fun x H1 => x = .ref a ∧ cls = .ref C ∧ ∃ (dd : Addr) (fs : List (Str × V)) (v : V), d = some dd ∧ H1 dd = some (.xd fs) ∧ fs.lookup n = some v ∧ Q v H1) : tXf a cls d C n te σ H Q := q
theorem at_xf {a dd : Addr} {n : Str} {fs : List (Str × V)} {P : V → Prop} (h : H dd = some (.xd fs)) (l : fs.lookup n = some v) (q : P v) : V.ref a = .ref a ∧ Value.ref C = .ref C ∧ ∃ (d : Addr) (fs : List (Str × V)) (v : V), some dd = some d ∧ H d = some (.xd fs) ∧ fs.lookup n = some v ∧ P v := ⟨rfl, rfl, dd, fs, v, rfl, h, l, q⟩
theorem go_isX {a dd : Addr} {fs : List (Str × V)} {c : V} {cv : Value} {b : Bool} (T : ExcC K C) (h : H dd = some (.xd fs)) (k : ClsV c cv) (e : PySem.W.kitOne K (.ref C) cv = some b) (q : Q (.bl b) H) : rIsX K a (.ref C) (some dd) [.ref a, c] H Q := ⟨C, dd, fs, c, cv, b, rfl, T, rfl, h, rfl, k, e, q⟩
theorem go_wAs {c : Value} {n : Nat} {ts : Addr → Value → Option Addr → TS} {Wo : WX} {cls : Value} {d : Option Addr} (e : PySem.W.exmOne K cls c = some true)
    (q : ∀ a, H a = none → ts a cls d { nx := fun σ' H' => D.nx (σ'.set n none) H', rt := D.rt, bk := fun σ' H' => D.bk (σ'.set n none) H', ct := fun σ' H' => D.ct (σ'.set n none) H' } (σ.set n (some (.ref a))) H) : wAs K c n ts Wo D cls d σ H :=
  ⟨true, e, fun _ => q, fun z => nomatch z⟩
theorem go_chain {r r' : R2} {tc : TE} (q : ta σ H fun x H1 => tb σ H1 fun y H2 => r x y H2 fun z H3 => ∃ k, z = .bl k ∧ if k = true then tc σ H3 fun w H4 => r' y w H4 Q else Q (.bl false) H3) : tChain r r' ta tb tc σ H Q := q
theorem go_rep {l : Addr} {xs : List V} (h : H l = some (.lst xs)) (h1 : 0 ≤ i) (h2 : i < 2 ^ 63) (hz : xs.length * i.toNat ≤ sizeLine) (q : ∀ p, H p = none → Q (.ref p) (upd H p (.lst (List.replicate i.toNat xs).flatten))) : rTimes (.ref l) (.int i) H Q :=
  .inr ⟨l, i, xs, rfl, rfl, h, by omega, h2, hz, q⟩
theorem go_gtup {a : Addr} {n : Nat} {xs : List V} {t : TGs} {QS : L2.St → Hp → Prop} (h : SqT K H a xs) (l : xs.length = n) (q : t xs σ H QS) : gTup K n t (.ref a) σ H QS := ⟨a, xs, rfl, h, l, q⟩
theorem go_gcons {g : TG} {t : TGs} {xs : List V} {QS : L2.St → Hp → Prop} (q : g v σ H fun σ1 H1 => t xs σ1 H1 QS) : gCons g t (v :: xs) σ H QS := ⟨v, xs, rfl, q⟩
theorem go_gnil {QS : L2.St → Hp → Prop} (q : QS σ H) : gNil [] σ H QS := ⟨rfl, q⟩
end
/-! ### kinds of values -/
def kinds : List String := ["NoneType", "bool", "int", "str", "list", "tuple", "bytes", "dict"]
/-- v is of the built-in kind t -/
def Kd (K : PySem.W.Frag) (H : Hp) (v : V) (t : String) : Prop := TyX K H v (.type t) ∧ t ∈ kinds
def isK (t T : String) : Bool := t == T || (t == "bool" && T == "int")
theorem kit_ty2 {K : PySem.W.Frag} {t T : String} {r : Bool} (h : PySem.W.kitOne [] (.type t) (.type T) = some r) : PySem.W.kitOne K (.type t) (.type T) = some r := by
  exact h
section
variable {K : PySem.W.Frag} {H : Hp}
theorem kd_non : Kd K H .non "NoneType" := ⟨.base .non, by decide⟩
theorem kd_bl {b : Bool} : Kd K H (.bl b) "bool" := ⟨.base (.bl b), by decide⟩
theorem kd_int {i : Int} : Kd K H (.int i) "int" := ⟨.base (.int i), by decide⟩
theorem kd_str {z : Str} : Kd K H (.str z) "str" := ⟨.base (.str z), by decide⟩
theorem kd_byt {z : Array UInt8} : Kd K H (.byt z) "bytes" := ⟨.byt z, by decide⟩
theorem kd_lst {a : Addr} {xs : List V} (h : H a = some (.lst xs)) : Kd K H (.ref a) "list" := ⟨.base (.lst h), by decide⟩
theorem kd_tup {a : Addr} {xs : List V} (h : H a = some (.tup xs)) : Kd K H (.ref a) "tuple" := ⟨.base (.tup h), by decide⟩
end
def askedK : List String := ["int", "bool", "str", "list", "tuple", "bytes"]
theorem kit_all : ∀ t ∈ kinds, ∀ T ∈ askedK, PySem.W.kitOne [] (.type t) (.type T) = some (isK t T) := by decide +kernel
theorem go_isiK {K : PySem.W.Frag} {H : Hp} {Q : VK} {v : V} {t T : String} (h : Kd K H v t) (hT : T ∈ askedK) (q : Q (.bl (isK t T)) H) : rIsi K [v, .ty T] H Q := go_isi (.ty T) h.1 (kit_ty2 (kit_all t h.2 T hT)) q
theorem Kd.same {K : PySem.W.Frag} {H H' : Hp} {v : V} {t : String} (h : Kd K H v t) (e : Same H H') : Kd K H' v t := by
  obtain ⟨h, m⟩ := h
  refine ⟨?_, m⟩
  cases h with
  | base b =>
    generalize hg : Value.type t = tt at b
    cases b with
    | non => cases hg; exact .base .non
    | bl x => cases hg; exact .base (.bl x)
    | int i => cases hg; exact .base (.int i)
    | str x => cases hg; exact .base (.str x)
    | flt x => cases hg; exact .base (.flt x)
    | lst h => cases hg; exact .base (.lst (e _ _ h))
    | frz h => cases hg; exact .base (.frz (e _ _ h))
    | tup h => cases hg; exact .base (.tup (e _ _ h))
    | dK h => cases hg; exact .base (.dK (e _ _ h))
    | dT h => cases hg; exact .base (.dT (e _ _ h))
    | ins => cases hg
  | byt b => exact .byt b
  | set h => exact .set (e _ _ h)
  | kList a c => exact .kList a c
  | kTuple a c => exact .kTuple a c
  | kDict a c => exact .kDict a c
  | fTuple h => exact .fTuple (e _ _ h)
  | fDict h => exact .fDict (e _ _ h)
/-! ### walks over pairs -/
def YP (ps : List (V × V)) : Nat → Hp → V → Hp → Prop := fun i H v H' => ∃ T x y, v = .ref T ∧ H T = none ∧ H' = upd H T (.tup [x, y]) ∧ ps[i]? = some (x, y)
def enumV (xs : List V) : List (V × V) := xs.mapIdx fun i x => (V.int (i : Nat), x)
section
variable {K : PySem.W.Frag} {a b : Addr} {xs ys : List V}
theorem walk_enumP : Walk (Ite K a) (enumV xs).length (fun H => SqL K H a xs) (YP (enumV xs)) := by
  have e : (enumV xs).length = xs.length := by simp [enumV]
  rw [e]
  refine walk_enum.mono (fun H h => h) fun i H v H' hi _ ⟨T, x, y, h1, h2, h3, h4, h5⟩ => ⟨T, x, y, h1, h2, h3, ?_⟩
  cases h4
  simp [enumV, h5]
theorem walk_zipP : Walk (Itz K a b) (xs.zip ys).length (fun H => SqL K H a xs ∧ SqL K H b ys) (YP (xs.zip ys)) := by
  refine (walk_zip (by rw [List.length_zip])).mono (fun H h => h) fun i H v H' hi _ ⟨T, x, y, h1, h2, h3, h4, h5⟩ => ⟨T, x, y, h1, h2, h3, ?_⟩
  rw [List.getElem?_zip_eq_some]
  exact ⟨h4, h5⟩
end
section
variable {σ : L2.St} {H : Hp} {Q : VK} {Dn : Addr} {te : TE} {tt : TT} {vs : List Nat} {K : PySem.W.Frag} {D : Ends} {tb : TS} {n1 n2 : Nat}
abbrev gPair (K : PySem.W.Frag) (n1 n2 : Nat) : TG := gTup K 2 (gCons (gName n1) (gCons (gName n2) gNil))
/-- one turn over a pair, the names set -/
def Turn2 (n1 n2 : Nat) (tt : TT) (te : TE) (vs : List Nat) (σ : L2.St) (H0 : Hp) (p : V × V) (c : Bool) (y : V) : Prop :=
  ∀ (H' : Hp) (A : Addr) (acc : List V) (Nx : Hp → Prop), Same H0 H' → H0 A = none → H' A = some (.lst acc) → acc.length < sizeLine → (∀ H2, Same H' H2 → Nx (if c then upd H2 A (.lst (acc ++ [y])) else H2)) →
    wipe (((wipe σ vs).set n1 (some p.1)).set n2 (some p.2)) vs = wipe σ vs ∧ tt (((wipe σ vs).set n1 (some p.1)).set n2 (some p.2)) H' fun b H3 =>
      if b = true then te (((wipe σ vs).set n1 (some p.1)).set n2 (some p.2)) H3 fun y H4 => ∃ acc, H4 A = some (.lst acc) ∧ acc.length < sizeLine ∧ Nx (upd H4 A (.lst (acc ++ [y]))) else Nx H3
theorem lcr_pairs {J : It} {G : Hp → Prop} {ps : List (V × V)} (w : Walk J ps.length G (YP ps)) (c : V × V → Bool) (f : V × V → V) (hG : ∀ H', Same H H' → G H') (hD : H Dn = none) (hlen : ps.length ≤ 100000)
    (turn : ∀ p ∈ ps, Turn2 n1 n2 tt te vs σ H p (c p) (f p)) (q : ∀ H', Same H H' → H' Dn = some (.lst ((ps.filter c).map f)) → Q (.ref Dn) H') : LcR J (gPair K n1 n2) tt te vs σ H Dn Q := by
  refine lc_it w (fun i H1 => Same H H1 ∧ H1 Dn = some (.lst (((ps.take i).filter c).map f))) ⟨Same.new hD, upd_same⟩ (fun i H1 _ h => hG H1 h.1) (fun i x H1 H1' hi h y => ?_) (fun H1 h => q H1 h.1 (by rw [h.2, List.take_length]))
  obtain ⟨T, x, y, rfl, hT, rfl, hp⟩ := y
  have hm := List.mem_of_getElem? hp
  have s1 : Same H1 (upd H1 T (.tup [x, y])) := Same.new hT
  have hl : (((ps.take i).filter c).map f).length < sizeLine := sz1000l (by
    have := List.length_filter_le c (ps.take i)
    rw [List.length_take] at this
    rw [List.length_map]
    omega)
  refine go_gtup (SqT.of upd_same) rfl (go_gcons (go_name (go_gcons (go_name (go_gnil ?_)))))
  refine turn (x, y) hm _ Dn _ _ (h.1.trans s1) hD (s1 _ _ h.2) hl fun H2 s2 => ?_
  have s := (h.1.trans s1).trans s2
  rw [take_snoc hp, List.filter_append, List.map_append]
  cases e : c (x, y) with
  | true =>
    refine ⟨fun b o z => ?_, ?_⟩
    · show upd H2 Dn _ b = _
      rw [upd_ne (ne_of_none z hD)]
      exact s b o z
    · show upd H2 Dn _ Dn = _
      rw [upd_same]
      simp [e]
  | false =>
    refine ⟨s, ?_⟩
    show H2 Dn = _
    rw [s2 _ _ (s1 _ _ h.2)]
    simp [e]
/-- a for over pairs -/
theorem for_pairs {J : It} {G : Hp → Prop} {ps : List (V × V)} (w : Walk J ps.length G (YP ps)) (Pv : Nat → L2.St → Hp → Prop) (h0 : Pv 0 σ H) (hG : ∀ i σ H, i ≤ ps.length → Pv i σ H → G H)
    (hs : ∀ i x y σ H H', ps[i]? = some (x, y) → Pv i σ H → Same H H' → tb { D with nx := Pv (i + 1), ct := Pv (i + 1), bk := D.nx } ((σ.set n1 (some x)).set n2 (some y)) H') (hd : ∀ σ H, Pv ps.length σ H → D.nx σ H) : ForR J (gPair K n1 n2) tb D σ H := by
  refine for_it w Pv h0 hG (fun i x σ H H' hi h y => ?_) hd
  obtain ⟨T, x, y, rfl, hT, rfl, hp⟩ := y
  exact go_gtup (SqT.of upd_same) rfl (go_gcons (go_name (go_gcons (go_name (go_gnil (hs i x y σ H _ hp h (Same.new hT)))))))
end
end TP

namespace Law
open PySem PySem.Spec PyProof.Rows L2 TP
def topS (i : Nat) : Stmt := PySem.Challenge.pw_trustedpages_k12_marks_joined_and_cut.main.body.getD i (.Pass ⟨0, 0, 0, 0⟩)
structure Txt (P : Program) (K : PySem.W.Frag) (mg : Str → Option Value) (a_Marks : Addr) (a_BadMarks : Addr) (a_PagesError : Addr) : Prop where
  n_len : mg "len" = none
  n_all : mg "all" = none
  n_isinstance : mg "isinstance" = none
  n_int : mg "int" = none
  n_bool : mg "bool" = none
  n_range : mg "range" = none
  n_list : mg "list" = none
  n_enumerate : mg "enumerate" = none
  n_zip : mg "zip" = none
  n_ValueError : mg "ValueError" = none
  g_Marks : mg "Marks" = some (.ref a_Marks)
  g_PagesError : mg "PagesError" = some (.ref a_PagesError)
  g_MOST_PAGES : ∃ t, mg "MOST_PAGES" = some (.int 64 t)
  e_BadMarks : ErrI P K mg "BadMarks" a_BadMarks "at"
  g_BadMarks : mg "BadMarks" = some (.ref a_BadMarks)
  c_Marks : OwnC K a_Marks
  f_Marks_kept : NoAttr K a_Marks "kept"
section
variable {P : Program} {w : World} {K : PySem.W.Frag} {mg : Str → Option Value} {base : Heap} {a_Marks a_BadMarks a_PagesError : Addr}
abbrev s_is_integer : Stmt := (topS 6)
abbrev N_is_integer : List Str := ["value"]
theorem sc_is_integer : FnScope N_is_integer ["value"] (defScope s_is_integer) := ⟨rfl, rfl, rfl, by decide +kernel, rfl, by decide +kernel, by decide +kernel⟩
def t_is_integer (K : PySem.W.Frag) (W : WX) : TS :=
    (tRet (tAndV (tCB (rIsi K) (tCons (tVar 0) (tCons (tC (.ty "int")) tNil))) (tNotV (tCB (rIsi K) (tCons (tVar 0) (tCons (tC (.ty "bool")) tNil))))))
theorem d_is_integer (T : Txt P K mg a_Marks a_BadMarks a_PagesError) (f : Addr) (cdv : Value) (A : Around) (outer : List Env) (s : Shared) (H : Hp) (E : XK) (hr : Room 0 (A.deeper (envOfC "is_integer" (defScope s_is_integer) s.heap.objs.size f cdv))) :
    PSs (cxOf (L2.CX P w) P w K mg base N_is_integer "is_integer" (defScope s_is_integer) f cdv A outer s H E) (defBody s_is_integer) (t_is_integer K (wOut E)) :=
  have nd := sc_is_integer.nd
  have tk : Takes (cxOf (L2.CX P w) P w K mg base N_is_integer "is_integer" (defScope s_is_integer) f cdv A outer s H E) (wOut E) := takes_of rfl rfl rfl rfl
  have po : PassesOwn (model P w) (cxOf (L2.CX P w) P w K mg base N_is_integer "is_integer" (defScope s_is_integer) f cdv A outer s H E).A (cxOf (L2.CX P w) P w K mg base N_is_integer "is_integer" (defScope s_is_integer) f cdv A outer s H E).env (cxOf (L2.CX P w) P w K mg base N_is_integer "is_integer" (defScope s_is_integer) f cdv A outer s H E).xe := passes_of rfl
  (pss_one (ps_ret (pe_and (pe_callB call_isi (by rfl) T.n_isinstance (by decide +kernel) (pa_cons (pv 0) (pa_cons (pe_bltn (by rfl) T.n_int boot_int rfl) pa_nil))) (pe_one (pe_not (pe_callB call_isi (by rfl) T.n_isinstance (by decide +kernel) (pa_cons (pv 0) (pa_cons (pe_bltn (by rfl) T.n_bool boot_bool rfl) pa_nil))))))))
abbrev s_is_many : Stmt := (topS 11)
abbrev N_is_many : List Str := ["many"]
theorem sc_is_many : FnScope N_is_many ["many"] (defScope s_is_many) := ⟨rfl, rfl, rfl, by decide +kernel, rfl, by decide +kernel, by decide +kernel⟩
def t_is_many (K : PySem.W.Frag) (sp_is_integer : Sp) (W : WX) : TS :=
    (tRet (tAndV (tCallZ sp_is_integer W (tCons (tVar 0) tNil)) (tChain rLeq rLeq (tC (.int 1)) (tVar 0) (tC (.int 64)))))
theorem d_is_many {sp_is_integer : Sp} (T : Txt P K mg a_Marks a_BadMarks a_PagesError) (I_is_integer : FnZ P w K mg base 1 "is_integer" ["value"] sp_is_integer) (f : Addr) (cdv : Value) (A : Around) (outer : List Env) (s : Shared) (H : Hp) (E : XK) (hr : Room 1 (A.deeper (envOfC "is_many" (defScope s_is_many) s.heap.objs.size f cdv))) :
    PSs (cxOf (L2.CX P w) P w K mg base N_is_many "is_many" (defScope s_is_many) f cdv A outer s H E) (defBody s_is_many) (t_is_many K sp_is_integer (wOut E)) :=
  have nd := sc_is_many.nd
  have tk : Takes (cxOf (L2.CX P w) P w K mg base N_is_many "is_many" (defScope s_is_many) f cdv A outer s H E) (wOut E) := takes_of rfl rfl rfl rfl
  have po : PassesOwn (model P w) (cxOf (L2.CX P w) P w K mg base N_is_many "is_many" (defScope s_is_many) f cdv A outer s H E).A (cxOf (L2.CX P w) P w K mg base N_is_many "is_many" (defScope s_is_many) f cdv A outer s H E).env (cxOf (L2.CX P w) P w K mg base N_is_many "is_many" (defScope s_is_many) f cdv A outer s H E).xe := passes_of rfl
  (pss_one (ps_ret (pe_and (pe_callZ I_is_integer hr (by decide) tk (pa_cons (pv 0) pa_nil)) (pe_one (pe_chain op_leq op_leq pe_int (pv 0) (pe_globI T.g_MOST_PAGES))))))
abbrev s_MarksU_initU : Stmt := (inClass (topS 13) 0)
abbrev N_MarksU_initU : List Str := ["self", "many", "truths"]
theorem sc_MarksU_initU : FnScope N_MarksU_initU ["self", "many", "truths"] (defScope s_MarksU_initU) := ⟨rfl, rfl, rfl, by decide +kernel, rfl, by decide +kernel, by decide +kernel⟩
def t_MarksU_initU (K : PySem.W.Frag) (a_BadMarks : Addr) (a_Marks : Addr) (sp_is_many : Sp) (W : WX) : TS :=
    (tSeq (tIfS (tNot (tB (tCallZ sp_is_many W (tCons (tVar 1) tNil)))) (tRaise a_BadMarks "at" W (tCons (tVar 1) tNil)) tNext)
    (tSetF a_Marks "kept" (tVar 0) (tIf (tTest (tOp rIsNo (tVar 2) (tC .non))) (tOp rTimes (tLst (tCons (tC (.bl false)) tNil)) (tVar 1)) (tCB (rListOf K) (tCons (tVar 2) tNil)))))
theorem d_MarksU_initU {sp_is_many : Sp} (T : Txt P K mg a_Marks a_BadMarks a_PagesError) (I_is_many : FnZ P w K mg base 2 "is_many" ["many"] sp_is_many) (f : Addr) (cdv : Value) (A : Around) (outer : List Env) (s : Shared) (H : Hp) (E : XK) (hr : Room 3 (A.deeper (envOfC "Marks.__init__" (defScope s_MarksU_initU) s.heap.objs.size f cdv))) :
    PSs (cxOf (L2.CX P w) P w K mg base N_MarksU_initU "Marks.__init__" (defScope s_MarksU_initU) f cdv A outer s H E) (defBody s_MarksU_initU) (t_MarksU_initU K a_BadMarks a_Marks sp_is_many (wOut E)) :=
  have nd := sc_MarksU_initU.nd
  have tk : Takes (cxOf (L2.CX P w) P w K mg base N_MarksU_initU "Marks.__init__" (defScope s_MarksU_initU) f cdv A outer s H E) (wOut E) := takes_of rfl rfl rfl rfl
  have po : PassesOwn (model P w) (cxOf (L2.CX P w) P w K mg base N_MarksU_initU "Marks.__init__" (defScope s_MarksU_initU) f cdv A outer s H E).A (cxOf (L2.CX P w) P w K mg base N_MarksU_initU "Marks.__init__" (defScope s_MarksU_initU) f cdv A outer s H E).env (cxOf (L2.CX P w) P w K mg base N_MarksU_initU "Marks.__init__" (defScope s_MarksU_initU) f cdv A outer s H E).xe := passes_of rfl
  (pss_cons (ps_if (pt_not (pt_val (pe_callZ I_is_many hr (by decide) tk (pa_cons (pv 1) pa_nil)))) (pss_one (ps_raiseZ rfl tk T.e_BadMarks hr (by decide) (pa_cons (pv 1) pa_nil))) pss_nil)
    (pss_one (ps_setF T.c_Marks.cls T.f_Marks_kept (pv 0) (pe_ifExp (pt_cmpR op_isno (pv 2) pe_non (nomark _)) (pe_op op_times (pe_lst (pa_cons pe_bl pa_nil)) (pv 1)) (pe_callTy cr_list (by rfl) T.n_list (by decide +kernel) (pa_cons (pv 2) pa_nil))))))
abbrev s_marks_of : Stmt := (topS 12)
abbrev N_marks_of : List Str := ["truths"]
theorem sc_marks_of : FnScope N_marks_of ["truths"] (defScope s_marks_of) := ⟨rfl, rfl, rfl, by decide +kernel, rfl, by decide +kernel, by decide +kernel⟩
def t_marks_of (K : PySem.W.Frag) (a_Marks : Addr) (sp_MarksU_initU : Sp) (W : WX) : TS :=
    (tRet (tNew a_Marks sp_MarksU_initU W [] (tCons (tCB (TP.rLen K) (tCons (tVar 0) tNil)) (tCons (tVar 0) tNil))))
theorem d_marks_of {sp_MarksU_initU : Sp} (T : Txt P K mg a_Marks a_BadMarks a_PagesError) (I_MarksU_initU_0 : MakZ P w K mg base 4 "Marks" a_Marks ["self", "many", "truths"] sp_MarksU_initU []) (f : Addr) (cdv : Value) (A : Around) (outer : List Env) (s : Shared) (H : Hp) (E : XK) (hr : Room 5 (A.deeper (envOfC "marks_of" (defScope s_marks_of) s.heap.objs.size f cdv))) :
    PSs (cxOf (L2.CX P w) P w K mg base N_marks_of "marks_of" (defScope s_marks_of) f cdv A outer s H E) (defBody s_marks_of) (t_marks_of K a_Marks sp_MarksU_initU (wOut E)) :=
  have nd := sc_marks_of.nd
  have tk : Takes (cxOf (L2.CX P w) P w K mg base N_marks_of "marks_of" (defScope s_marks_of) f cdv A outer s H E) (wOut E) := takes_of rfl rfl rfl rfl
  have po : PassesOwn (model P w) (cxOf (L2.CX P w) P w K mg base N_marks_of "marks_of" (defScope s_marks_of) f cdv A outer s H E).A (cxOf (L2.CX P w) P w K mg base N_marks_of "marks_of" (defScope s_marks_of) f cdv A outer s H E).env (cxOf (L2.CX P w) P w K mg base N_marks_of "marks_of" (defScope s_marks_of) f cdv A outer s H E).xe := passes_of rfl
  (pss_one (ps_ret (pe_new I_MarksU_initU_0 .nil hr (by decide) tk (pa_cons (pe_callB TP.cr_len (by rfl) T.n_len (by decide +kernel) (pa_cons (pv 0) pa_nil)) (pa_cons (pv 0) pa_nil)))))
abbrev s_Marks_check : Stmt := (inClass (topS 13) 2)
abbrev N_Marks_check : List Str := ["self", "at"]
theorem sc_Marks_check : FnScope N_Marks_check ["self", "at"] (defScope s_Marks_check) := ⟨rfl, rfl, rfl, by decide +kernel, rfl, by decide +kernel, by decide +kernel⟩
def t_Marks_check (K : PySem.W.Frag) (a_BadMarks : Addr) (a_Marks : Addr) (sp_is_integer : Sp) (W : WX) : TS :=
    (tIfS (tOr (tNot (tB (tCallZ sp_is_integer W (tCons (tVar 1) tNil)))) (tNot (tTest (tChain rLeq rLess (tC (.int 0)) (tVar 1) (tCB (TP.rLen K) (tCons (tGetF a_Marks "kept" (tVar 0)) tNil)))))) (tRaise a_BadMarks "at" W (tCons (tVar 1) tNil)) tNext)
theorem d_Marks_check {sp_is_integer : Sp} (T : Txt P K mg a_Marks a_BadMarks a_PagesError) (I_is_integer : FnZ P w K mg base 1 "is_integer" ["value"] sp_is_integer) (f : Addr) (cdv : Value) (A : Around) (outer : List Env) (s : Shared) (H : Hp) (E : XK) (hr : Room 3 (A.deeper (envOfC "Marks.check" (defScope s_Marks_check) s.heap.objs.size f cdv))) :
    PSs (cxOf (L2.CX P w) P w K mg base N_Marks_check "Marks.check" (defScope s_Marks_check) f cdv A outer s H E) (defBody s_Marks_check) (t_Marks_check K a_BadMarks a_Marks sp_is_integer (wOut E)) :=
  have nd := sc_Marks_check.nd
  have tk : Takes (cxOf (L2.CX P w) P w K mg base N_Marks_check "Marks.check" (defScope s_Marks_check) f cdv A outer s H E) (wOut E) := takes_of rfl rfl rfl rfl
  have po : PassesOwn (model P w) (cxOf (L2.CX P w) P w K mg base N_Marks_check "Marks.check" (defScope s_Marks_check) f cdv A outer s H E).A (cxOf (L2.CX P w) P w K mg base N_Marks_check "Marks.check" (defScope s_Marks_check) f cdv A outer s H E).env (cxOf (L2.CX P w) P w K mg base N_Marks_check "Marks.check" (defScope s_Marks_check) f cdv A outer s H E).xe := passes_of rfl
  (pss_one (ps_if (PW.pt (pw_or (pt_not (pt_val (pe_callZ I_is_integer hr (by decide) tk (pa_cons (pv 1) pa_nil)))) (pw_or1 (pt_not (pt_chain op_leq op_less pe_int (pv 1) (pe_callB TP.cr_len (by rfl) T.n_len (by decide +kernel) (pa_cons (pe_getF T.c_Marks.cls T.f_Marks_kept (pv 0)) pa_nil))))))) (pss_one (ps_raiseZ rfl tk T.e_BadMarks hr (by decide) (pa_cons (pv 1) pa_nil))) pss_nil))
abbrev s_Marks_check_mate : Stmt := (inClass (topS 13) 3)
abbrev N_Marks_check_mate : List Str := ["self", "other"]
theorem sc_Marks_check_mate : FnScope N_Marks_check_mate ["self", "other"] (defScope s_Marks_check_mate) := ⟨rfl, rfl, rfl, by decide +kernel, rfl, by decide +kernel, by decide +kernel⟩
def t_Marks_check_mate (K : PySem.W.Frag) (a_BadMarks : Addr) (a_Marks : Addr) (W : WX) : TS :=
    (tIfS (tTest (tOp (rUnlike K) (tCB (TP.rLen K) (tCons (tGetF a_Marks "kept" (tVar 0)) tNil)) (tCB (TP.rLen K) (tCons (tGetF a_Marks "kept" (tVar 1)) tNil)))) (tRaise a_BadMarks "at" W (tCons (tC .non) tNil)) tNext)
theorem d_Marks_check_mate (T : Txt P K mg a_Marks a_BadMarks a_PagesError) (f : Addr) (cdv : Value) (A : Around) (outer : List Env) (s : Shared) (H : Hp) (E : XK) (hr : Room 3 (A.deeper (envOfC "Marks.check_mate" (defScope s_Marks_check_mate) s.heap.objs.size f cdv))) :
    PSs (cxOf (L2.CX P w) P w K mg base N_Marks_check_mate "Marks.check_mate" (defScope s_Marks_check_mate) f cdv A outer s H E) (defBody s_Marks_check_mate) (t_Marks_check_mate K a_BadMarks a_Marks (wOut E)) :=
  have nd := sc_Marks_check_mate.nd
  have tk : Takes (cxOf (L2.CX P w) P w K mg base N_Marks_check_mate "Marks.check_mate" (defScope s_Marks_check_mate) f cdv A outer s H E) (wOut E) := takes_of rfl rfl rfl rfl
  have po : PassesOwn (model P w) (cxOf (L2.CX P w) P w K mg base N_Marks_check_mate "Marks.check_mate" (defScope s_Marks_check_mate) f cdv A outer s H E).A (cxOf (L2.CX P w) P w K mg base N_Marks_check_mate "Marks.check_mate" (defScope s_Marks_check_mate) f cdv A outer s H E).env (cxOf (L2.CX P w) P w K mg base N_Marks_check_mate "Marks.check_mate" (defScope s_Marks_check_mate) f cdv A outer s H E).xe := passes_of rfl
  (pss_one (ps_if (pt_cmpR (op_unlike hr.units) (pe_callB TP.cr_len (by rfl) T.n_len (by decide +kernel) (pa_cons (pe_getF T.c_Marks.cls T.f_Marks_kept (pv 0)) pa_nil)) (pe_callB TP.cr_len (by rfl) T.n_len (by decide +kernel) (pa_cons (pe_getF T.c_Marks.cls T.f_Marks_kept (pv 1)) pa_nil)) (nomark _)) (pss_one (ps_raiseZ rfl tk T.e_BadMarks hr (by decide) (pa_cons pe_non pa_nil))) pss_nil))
abbrev s_MarksU_lenU : Stmt := (inClass (topS 13) 4)
abbrev N_MarksU_lenU : List Str := ["self"]
theorem sc_MarksU_lenU : FnScope N_MarksU_lenU ["self"] (defScope s_MarksU_lenU) := ⟨rfl, rfl, rfl, by decide +kernel, rfl, by decide +kernel, by decide +kernel⟩
def t_MarksU_lenU (K : PySem.W.Frag) (a_Marks : Addr) (W : WX) : TS :=
    (tRet (tCB (TP.rLen K) (tCons (tGetF a_Marks "kept" (tVar 0)) tNil)))
theorem d_MarksU_lenU (T : Txt P K mg a_Marks a_BadMarks a_PagesError) (f : Addr) (cdv : Value) (A : Around) (outer : List Env) (s : Shared) (H : Hp) (E : XK) (hr : Room 0 (A.deeper (envOfC "Marks.__len__" (defScope s_MarksU_lenU) s.heap.objs.size f cdv))) :
    PSs (cxOf (L2.CX P w) P w K mg base N_MarksU_lenU "Marks.__len__" (defScope s_MarksU_lenU) f cdv A outer s H E) (defBody s_MarksU_lenU) (t_MarksU_lenU K a_Marks (wOut E)) :=
  have nd := sc_MarksU_lenU.nd
  have tk : Takes (cxOf (L2.CX P w) P w K mg base N_MarksU_lenU "Marks.__len__" (defScope s_MarksU_lenU) f cdv A outer s H E) (wOut E) := takes_of rfl rfl rfl rfl
  have po : PassesOwn (model P w) (cxOf (L2.CX P w) P w K mg base N_MarksU_lenU "Marks.__len__" (defScope s_MarksU_lenU) f cdv A outer s H E).A (cxOf (L2.CX P w) P w K mg base N_MarksU_lenU "Marks.__len__" (defScope s_MarksU_lenU) f cdv A outer s H E).env (cxOf (L2.CX P w) P w K mg base N_MarksU_lenU "Marks.__len__" (defScope s_MarksU_lenU) f cdv A outer s H E).xe := passes_of rfl
  (pss_one (ps_ret (pe_callB TP.cr_len (by rfl) T.n_len (by decide +kernel) (pa_cons (pe_getF T.c_Marks.cls T.f_Marks_kept (pv 0)) pa_nil))))
abbrev s_MarksU_getitemU : Stmt := (inClass (topS 13) 5)
abbrev N_MarksU_getitemU : List Str := ["self", "at"]
theorem sc_MarksU_getitemU : FnScope N_MarksU_getitemU ["self", "at"] (defScope s_MarksU_getitemU) := ⟨rfl, rfl, rfl, by decide +kernel, rfl, by decide +kernel, by decide +kernel⟩
def t_MarksU_getitemU (K : PySem.W.Frag) (a_Marks : Addr) (sp_Marks_check : Sp) (W : WX) : TS :=
    (tSeq (tDrop (tMethZ a_Marks "check" sp_Marks_check W (tVar 0) (tCons (tVar 1) tNil)))
    (tRet (tOp (rIx K) (tGetF a_Marks "kept" (tVar 0)) (tVar 1))))
theorem d_MarksU_getitemU {sp_Marks_check : Sp} (T : Txt P K mg a_Marks a_BadMarks a_PagesError) (I_Marks_check : MthZ P w K mg base 4 a_Marks "check" ["self", "at"] sp_Marks_check) (f : Addr) (cdv : Value) (A : Around) (outer : List Env) (s : Shared) (H : Hp) (E : XK) (hr : Room 4 (A.deeper (envOfC "Marks.__getitem__" (defScope s_MarksU_getitemU) s.heap.objs.size f cdv))) :
    PSs (cxOf (L2.CX P w) P w K mg base N_MarksU_getitemU "Marks.__getitem__" (defScope s_MarksU_getitemU) f cdv A outer s H E) (defBody s_MarksU_getitemU) (t_MarksU_getitemU K a_Marks sp_Marks_check (wOut E)) :=
  have nd := sc_MarksU_getitemU.nd
  have tk : Takes (cxOf (L2.CX P w) P w K mg base N_MarksU_getitemU "Marks.__getitem__" (defScope s_MarksU_getitemU) f cdv A outer s H E) (wOut E) := takes_of rfl rfl rfl rfl
  have po : PassesOwn (model P w) (cxOf (L2.CX P w) P w K mg base N_MarksU_getitemU "Marks.__getitem__" (defScope s_MarksU_getitemU) f cdv A outer s H E).A (cxOf (L2.CX P w) P w K mg base N_MarksU_getitemU "Marks.__getitem__" (defScope s_MarksU_getitemU) f cdv A outer s H E).env (cxOf (L2.CX P w) P w K mg base N_MarksU_getitemU "Marks.__getitem__" (defScope s_MarksU_getitemU) f cdv A outer s H E).xe := passes_of rfl
  (pss_cons (ps_expr (pe_methZ (pv 0) T.c_Marks.cls I_Marks_check hr (by decide) tk (pa_cons (pv 1) pa_nil)))
    (pss_one (ps_ret (pe_ix ix_seq (pe_getF T.c_Marks.cls T.f_Marks_kept (pv 0)) (pv 1) (fun _ _ => rfl)))))
abbrev s_MarksU_setitemU : Stmt := (inClass (topS 13) 6)
abbrev N_MarksU_setitemU : List Str := ["self", "at", "value"]
theorem sc_MarksU_setitemU : FnScope N_MarksU_setitemU ["self", "at", "value"] (defScope s_MarksU_setitemU) := ⟨rfl, rfl, rfl, by decide +kernel, rfl, by decide +kernel, by decide +kernel⟩
def t_MarksU_setitemU (K : PySem.W.Frag) (a_BadMarks : Addr) (a_Marks : Addr) (sp_Marks_check : Sp) (W : WX) : TS :=
    (tSeq (tDrop (tMethZ a_Marks "check" sp_Marks_check W (tVar 0) (tCons (tVar 1) tNil)))
    (tSeq (tIfS (tNot (tB (tCB (rIsi K) (tCons (tVar 2) (tCons (tC (.ty "bool")) tNil))))) (tRaise a_BadMarks "at" W (tCons (tC .non) tNil)) tNext)
    (tAsg (tVar 2) (gSub (tGetF a_Marks "kept" (tVar 0)) (tVar 1) rSetL))))
theorem d_MarksU_setitemU {sp_Marks_check : Sp} (T : Txt P K mg a_Marks a_BadMarks a_PagesError) (I_Marks_check : MthZ P w K mg base 4 a_Marks "check" ["self", "at"] sp_Marks_check) (f : Addr) (cdv : Value) (A : Around) (outer : List Env) (s : Shared) (H : Hp) (E : XK) (hr : Room 4 (A.deeper (envOfC "Marks.__setitem__" (defScope s_MarksU_setitemU) s.heap.objs.size f cdv))) :
    PSs (cxOf (L2.CX P w) P w K mg base N_MarksU_setitemU "Marks.__setitem__" (defScope s_MarksU_setitemU) f cdv A outer s H E) (defBody s_MarksU_setitemU) (t_MarksU_setitemU K a_BadMarks a_Marks sp_Marks_check (wOut E)) :=
  have nd := sc_MarksU_setitemU.nd
  have tk : Takes (cxOf (L2.CX P w) P w K mg base N_MarksU_setitemU "Marks.__setitem__" (defScope s_MarksU_setitemU) f cdv A outer s H E) (wOut E) := takes_of rfl rfl rfl rfl
  have po : PassesOwn (model P w) (cxOf (L2.CX P w) P w K mg base N_MarksU_setitemU "Marks.__setitem__" (defScope s_MarksU_setitemU) f cdv A outer s H E).A (cxOf (L2.CX P w) P w K mg base N_MarksU_setitemU "Marks.__setitem__" (defScope s_MarksU_setitemU) f cdv A outer s H E).env (cxOf (L2.CX P w) P w K mg base N_MarksU_setitemU "Marks.__setitem__" (defScope s_MarksU_setitemU) f cdv A outer s H E).xe := passes_of rfl
  (pss_cons (ps_expr (pe_methZ (pv 0) T.c_Marks.cls I_Marks_check hr (by decide) tk (pa_cons (pv 1) pa_nil)))
    (pss_cons (ps_if (pt_not (pt_val (pe_callB call_isi (by rfl) T.n_isinstance (by decide +kernel) (pa_cons (pv 2) (pa_cons (pe_bltn (by rfl) T.n_bool boot_bool rfl) pa_nil))))) (pss_one (ps_raiseZ rfl tk T.e_BadMarks hr (by decide) (pa_cons pe_non pa_nil))) pss_nil)
    (pss_one (ps_asg (pv 2) (pg_sub (pe_getF T.c_Marks.cls T.f_Marks_kept (pv 0)) (pv 1) set_list)))))
abbrev s_MarksU_orU : Stmt := (inClass (topS 13) 8)
abbrev N_MarksU_orU : List Str := ["self", "other", "one", "two"]
theorem sc_MarksU_orU : FnScope N_MarksU_orU ["self", "other"] (defScope s_MarksU_orU) := ⟨rfl, rfl, rfl, by decide +kernel, rfl, by decide +kernel, by decide +kernel⟩
def t_MarksU_orU (K : PySem.W.Frag) (a_Marks : Addr) (sp_marks_of : Sp) (sp_Marks_check_mate : Sp) (W : WX) : TS :=
    (tSeq (tIfS (tNot (tB (tCB (rIsi K) (tCons (tVar 1) (tCons (tC (.ref a_Marks)) tNil))))) tNever tNext)
    (tSeq (tDrop (tMethZ a_Marks "check_mate" sp_Marks_check_mate W (tVar 0) (tCons (tVar 1) tNil)))
    (tRet (tCallZ sp_marks_of W (tCons (tLc (iZip K (tCons (tGetF a_Marks "kept" (tVar 0)) (tCons (tGetF a_Marks "kept" (tVar 1)) tNil))) (gTup K 2 (gCons (gName 2) (gCons (gName 3) gNil))) tYes (tOrV (tVar 2) (tVar 3)) [2, 3]) tNil)))))
theorem d_MarksU_orU {sp_marks_of : Sp} {sp_Marks_check_mate : Sp} (T : Txt P K mg a_Marks a_BadMarks a_PagesError) (I_marks_of : FnZ P w K mg base 6 "marks_of" ["truths"] sp_marks_of) (I_Marks_check_mate : MthZ P w K mg base 4 a_Marks "check_mate" ["self", "other"] sp_Marks_check_mate) (f : Addr) (cdv : Value) (A : Around) (outer : List Env) (s : Shared) (H : Hp) (E : XK) (hr : Room 6 (A.deeper (envOfC "Marks.__or__" (defScope s_MarksU_orU) s.heap.objs.size f cdv))) :
    PSs (cxOf (L2.CX P w) P w K mg base N_MarksU_orU "Marks.__or__" (defScope s_MarksU_orU) f cdv A outer s H E) (defBody s_MarksU_orU) (t_MarksU_orU K a_Marks sp_marks_of sp_Marks_check_mate (wOut E)) :=
  have nd := sc_MarksU_orU.nd
  have tk : Takes (cxOf (L2.CX P w) P w K mg base N_MarksU_orU "Marks.__or__" (defScope s_MarksU_orU) f cdv A outer s H E) (wOut E) := takes_of rfl rfl rfl rfl
  have po : PassesOwn (model P w) (cxOf (L2.CX P w) P w K mg base N_MarksU_orU "Marks.__or__" (defScope s_MarksU_orU) f cdv A outer s H E).A (cxOf (L2.CX P w) P w K mg base N_MarksU_orU "Marks.__or__" (defScope s_MarksU_orU) f cdv A outer s H E).env (cxOf (L2.CX P w) P w K mg base N_MarksU_orU "Marks.__or__" (defScope s_MarksU_orU) f cdv A outer s H E).xe := passes_of rfl
  (pss_cons (ps_if (pt_not (pt_val (pe_callB call_isi (by rfl) T.n_isinstance (by decide +kernel) (pa_cons (pv 1) (pa_cons (pe_globA T.g_Marks) pa_nil))))) (pss_one ps_never) pss_nil)
    (pss_cons (ps_expr (pe_methZ (pv 0) T.c_Marks.cls I_Marks_check_mate hr (by decide) tk (pa_cons (pv 1) pa_nil)))
    (pss_one (ps_ret (pe_callZ I_marks_of hr (by decide) tk (pa_cons (pe_lc (own := [("one", 2), ("two", 3)]) (g := (gTup K 2 (gCons (gName 2) (gCons (gName 3) gNil)))) (tt := tYes) rfl nd (pi_zip (by rfl) T.n_zip (pa_cons (pe_getF T.c_Marks.cls T.f_Marks_kept (pv 0)) (pa_cons (pe_getF T.c_Marks.cls T.f_Marks_kept (pv 1)) pa_nil))) (blkOk_by (own := [("one", 2), ("two", 3)]) (N := N_MarksU_orU) (sc := defScope s_MarksU_orU) (by decide +kernel)) (fun _ _ _ _ _ => (pg_tup rfl (pgs_cons (pg_name (i := 2) nd rfl (Or.inl rfl)) (pgs_cons (pg_name (i := 3) nd rfl (Or.inl rfl)) pgs_nil)))) (fun _ _ _ _ _ => pts_nil) (fun _ _ _ _ _ => (pe_or (pv 2) (pe_one (pv 3))))) pa_nil))))))
abbrev s_MarksU_andU : Stmt := (inClass (topS 13) 9)
abbrev N_MarksU_andU : List Str := ["self", "other", "one", "two"]
theorem sc_MarksU_andU : FnScope N_MarksU_andU ["self", "other"] (defScope s_MarksU_andU) := ⟨rfl, rfl, rfl, by decide +kernel, rfl, by decide +kernel, by decide +kernel⟩
def t_MarksU_andU (K : PySem.W.Frag) (a_Marks : Addr) (sp_marks_of : Sp) (sp_Marks_check_mate : Sp) (W : WX) : TS :=
    (tSeq (tIfS (tNot (tB (tCB (rIsi K) (tCons (tVar 1) (tCons (tC (.ref a_Marks)) tNil))))) tNever tNext)
    (tSeq (tDrop (tMethZ a_Marks "check_mate" sp_Marks_check_mate W (tVar 0) (tCons (tVar 1) tNil)))
    (tRet (tCallZ sp_marks_of W (tCons (tLc (iZip K (tCons (tGetF a_Marks "kept" (tVar 0)) (tCons (tGetF a_Marks "kept" (tVar 1)) tNil))) (gTup K 2 (gCons (gName 2) (gCons (gName 3) gNil))) tYes (tAndV (tVar 2) (tVar 3)) [2, 3]) tNil)))))
theorem d_MarksU_andU {sp_marks_of : Sp} {sp_Marks_check_mate : Sp} (T : Txt P K mg a_Marks a_BadMarks a_PagesError) (I_marks_of : FnZ P w K mg base 6 "marks_of" ["truths"] sp_marks_of) (I_Marks_check_mate : MthZ P w K mg base 4 a_Marks "check_mate" ["self", "other"] sp_Marks_check_mate) (f : Addr) (cdv : Value) (A : Around) (outer : List Env) (s : Shared) (H : Hp) (E : XK) (hr : Room 6 (A.deeper (envOfC "Marks.__and__" (defScope s_MarksU_andU) s.heap.objs.size f cdv))) :
    PSs (cxOf (L2.CX P w) P w K mg base N_MarksU_andU "Marks.__and__" (defScope s_MarksU_andU) f cdv A outer s H E) (defBody s_MarksU_andU) (t_MarksU_andU K a_Marks sp_marks_of sp_Marks_check_mate (wOut E)) :=
  have nd := sc_MarksU_andU.nd
  have tk : Takes (cxOf (L2.CX P w) P w K mg base N_MarksU_andU "Marks.__and__" (defScope s_MarksU_andU) f cdv A outer s H E) (wOut E) := takes_of rfl rfl rfl rfl
  have po : PassesOwn (model P w) (cxOf (L2.CX P w) P w K mg base N_MarksU_andU "Marks.__and__" (defScope s_MarksU_andU) f cdv A outer s H E).A (cxOf (L2.CX P w) P w K mg base N_MarksU_andU "Marks.__and__" (defScope s_MarksU_andU) f cdv A outer s H E).env (cxOf (L2.CX P w) P w K mg base N_MarksU_andU "Marks.__and__" (defScope s_MarksU_andU) f cdv A outer s H E).xe := passes_of rfl
  (pss_cons (ps_if (pt_not (pt_val (pe_callB call_isi (by rfl) T.n_isinstance (by decide +kernel) (pa_cons (pv 1) (pa_cons (pe_globA T.g_Marks) pa_nil))))) (pss_one ps_never) pss_nil)
    (pss_cons (ps_expr (pe_methZ (pv 0) T.c_Marks.cls I_Marks_check_mate hr (by decide) tk (pa_cons (pv 1) pa_nil)))
    (pss_one (ps_ret (pe_callZ I_marks_of hr (by decide) tk (pa_cons (pe_lc (own := [("one", 2), ("two", 3)]) (g := (gTup K 2 (gCons (gName 2) (gCons (gName 3) gNil)))) (tt := tYes) rfl nd (pi_zip (by rfl) T.n_zip (pa_cons (pe_getF T.c_Marks.cls T.f_Marks_kept (pv 0)) (pa_cons (pe_getF T.c_Marks.cls T.f_Marks_kept (pv 1)) pa_nil))) (blkOk_by (own := [("one", 2), ("two", 3)]) (N := N_MarksU_andU) (sc := defScope s_MarksU_andU) (by decide +kernel)) (fun _ _ _ _ _ => (pg_tup rfl (pgs_cons (pg_name (i := 2) nd rfl (Or.inl rfl)) (pgs_cons (pg_name (i := 3) nd rfl (Or.inl rfl)) pgs_nil)))) (fun _ _ _ _ _ => pts_nil) (fun _ _ _ _ _ => (pe_and (pv 2) (pe_one (pv 3))))) pa_nil))))))
abbrev s_MarksU_iorU : Stmt := (inClass (topS 13) 10)
abbrev N_MarksU_iorU : List Str := ["self", "other", "one", "two"]
theorem sc_MarksU_iorU : FnScope N_MarksU_iorU ["self", "other"] (defScope s_MarksU_iorU) := ⟨rfl, rfl, rfl, by decide +kernel, rfl, by decide +kernel, by decide +kernel⟩
def t_MarksU_iorU (K : PySem.W.Frag) (a_Marks : Addr) (sp_Marks_check_mate : Sp) (W : WX) : TS :=
    (tSeq (tIfS (tNot (tB (tCB (rIsi K) (tCons (tVar 1) (tCons (tC (.ref a_Marks)) tNil))))) tNever tNext)
    (tSeq (tDrop (tMethZ a_Marks "check_mate" sp_Marks_check_mate W (tVar 0) (tCons (tVar 1) tNil)))
    (tSeq (tSetF a_Marks "kept" (tVar 0) (tLc (iZip K (tCons (tGetF a_Marks "kept" (tVar 0)) (tCons (tGetF a_Marks "kept" (tVar 1)) tNil))) (gTup K 2 (gCons (gName 2) (gCons (gName 3) gNil))) tYes (tOrV (tVar 2) (tVar 3)) [2, 3]))
    (tRet (tVar 0)))))
theorem d_MarksU_iorU {sp_Marks_check_mate : Sp} (T : Txt P K mg a_Marks a_BadMarks a_PagesError) (I_Marks_check_mate : MthZ P w K mg base 4 a_Marks "check_mate" ["self", "other"] sp_Marks_check_mate) (f : Addr) (cdv : Value) (A : Around) (outer : List Env) (s : Shared) (H : Hp) (E : XK) (hr : Room 4 (A.deeper (envOfC "Marks.__ior__" (defScope s_MarksU_iorU) s.heap.objs.size f cdv))) :
    PSs (cxOf (L2.CX P w) P w K mg base N_MarksU_iorU "Marks.__ior__" (defScope s_MarksU_iorU) f cdv A outer s H E) (defBody s_MarksU_iorU) (t_MarksU_iorU K a_Marks sp_Marks_check_mate (wOut E)) :=
  have nd := sc_MarksU_iorU.nd
  have tk : Takes (cxOf (L2.CX P w) P w K mg base N_MarksU_iorU "Marks.__ior__" (defScope s_MarksU_iorU) f cdv A outer s H E) (wOut E) := takes_of rfl rfl rfl rfl
  have po : PassesOwn (model P w) (cxOf (L2.CX P w) P w K mg base N_MarksU_iorU "Marks.__ior__" (defScope s_MarksU_iorU) f cdv A outer s H E).A (cxOf (L2.CX P w) P w K mg base N_MarksU_iorU "Marks.__ior__" (defScope s_MarksU_iorU) f cdv A outer s H E).env (cxOf (L2.CX P w) P w K mg base N_MarksU_iorU "Marks.__ior__" (defScope s_MarksU_iorU) f cdv A outer s H E).xe := passes_of rfl
  (pss_cons (ps_if (pt_not (pt_val (pe_callB call_isi (by rfl) T.n_isinstance (by decide +kernel) (pa_cons (pv 1) (pa_cons (pe_globA T.g_Marks) pa_nil))))) (pss_one ps_never) pss_nil)
    (pss_cons (ps_expr (pe_methZ (pv 0) T.c_Marks.cls I_Marks_check_mate hr (by decide) tk (pa_cons (pv 1) pa_nil)))
    (pss_cons (ps_setF T.c_Marks.cls T.f_Marks_kept (pv 0) (pe_lc (own := [("one", 2), ("two", 3)]) (g := (gTup K 2 (gCons (gName 2) (gCons (gName 3) gNil)))) (tt := tYes) rfl nd (pi_zip (by rfl) T.n_zip (pa_cons (pe_getF T.c_Marks.cls T.f_Marks_kept (pv 0)) (pa_cons (pe_getF T.c_Marks.cls T.f_Marks_kept (pv 1)) pa_nil))) (blkOk_by (own := [("one", 2), ("two", 3)]) (N := N_MarksU_iorU) (sc := defScope s_MarksU_iorU) (by decide +kernel)) (fun _ _ _ _ _ => (pg_tup rfl (pgs_cons (pg_name (i := 2) nd rfl (Or.inl rfl)) (pgs_cons (pg_name (i := 3) nd rfl (Or.inl rfl)) pgs_nil)))) (fun _ _ _ _ _ => pts_nil) (fun _ _ _ _ _ => (pe_or (pv 2) (pe_one (pv 3))))))
    (pss_one (ps_ret (pv 0))))))
abbrev s_MarksU_iandU : Stmt := (inClass (topS 13) 11)
abbrev N_MarksU_iandU : List Str := ["self", "other", "one", "two"]
theorem sc_MarksU_iandU : FnScope N_MarksU_iandU ["self", "other"] (defScope s_MarksU_iandU) := ⟨rfl, rfl, rfl, by decide +kernel, rfl, by decide +kernel, by decide +kernel⟩
def t_MarksU_iandU (K : PySem.W.Frag) (a_Marks : Addr) (sp_Marks_check_mate : Sp) (W : WX) : TS :=
    (tSeq (tIfS (tNot (tB (tCB (rIsi K) (tCons (tVar 1) (tCons (tC (.ref a_Marks)) tNil))))) tNever tNext)
    (tSeq (tDrop (tMethZ a_Marks "check_mate" sp_Marks_check_mate W (tVar 0) (tCons (tVar 1) tNil)))
    (tSeq (tSetF a_Marks "kept" (tVar 0) (tLc (iZip K (tCons (tGetF a_Marks "kept" (tVar 0)) (tCons (tGetF a_Marks "kept" (tVar 1)) tNil))) (gTup K 2 (gCons (gName 2) (gCons (gName 3) gNil))) tYes (tAndV (tVar 2) (tVar 3)) [2, 3]))
    (tRet (tVar 0)))))
theorem d_MarksU_iandU {sp_Marks_check_mate : Sp} (T : Txt P K mg a_Marks a_BadMarks a_PagesError) (I_Marks_check_mate : MthZ P w K mg base 4 a_Marks "check_mate" ["self", "other"] sp_Marks_check_mate) (f : Addr) (cdv : Value) (A : Around) (outer : List Env) (s : Shared) (H : Hp) (E : XK) (hr : Room 4 (A.deeper (envOfC "Marks.__iand__" (defScope s_MarksU_iandU) s.heap.objs.size f cdv))) :
    PSs (cxOf (L2.CX P w) P w K mg base N_MarksU_iandU "Marks.__iand__" (defScope s_MarksU_iandU) f cdv A outer s H E) (defBody s_MarksU_iandU) (t_MarksU_iandU K a_Marks sp_Marks_check_mate (wOut E)) :=
  have nd := sc_MarksU_iandU.nd
  have tk : Takes (cxOf (L2.CX P w) P w K mg base N_MarksU_iandU "Marks.__iand__" (defScope s_MarksU_iandU) f cdv A outer s H E) (wOut E) := takes_of rfl rfl rfl rfl
  have po : PassesOwn (model P w) (cxOf (L2.CX P w) P w K mg base N_MarksU_iandU "Marks.__iand__" (defScope s_MarksU_iandU) f cdv A outer s H E).A (cxOf (L2.CX P w) P w K mg base N_MarksU_iandU "Marks.__iand__" (defScope s_MarksU_iandU) f cdv A outer s H E).env (cxOf (L2.CX P w) P w K mg base N_MarksU_iandU "Marks.__iand__" (defScope s_MarksU_iandU) f cdv A outer s H E).xe := passes_of rfl
  (pss_cons (ps_if (pt_not (pt_val (pe_callB call_isi (by rfl) T.n_isinstance (by decide +kernel) (pa_cons (pv 1) (pa_cons (pe_globA T.g_Marks) pa_nil))))) (pss_one ps_never) pss_nil)
    (pss_cons (ps_expr (pe_methZ (pv 0) T.c_Marks.cls I_Marks_check_mate hr (by decide) tk (pa_cons (pv 1) pa_nil)))
    (pss_cons (ps_setF T.c_Marks.cls T.f_Marks_kept (pv 0) (pe_lc (own := [("one", 2), ("two", 3)]) (g := (gTup K 2 (gCons (gName 2) (gCons (gName 3) gNil)))) (tt := tYes) rfl nd (pi_zip (by rfl) T.n_zip (pa_cons (pe_getF T.c_Marks.cls T.f_Marks_kept (pv 0)) (pa_cons (pe_getF T.c_Marks.cls T.f_Marks_kept (pv 1)) pa_nil))) (blkOk_by (own := [("one", 2), ("two", 3)]) (N := N_MarksU_iandU) (sc := defScope s_MarksU_iandU) (by decide +kernel)) (fun _ _ _ _ _ => (pg_tup rfl (pgs_cons (pg_name (i := 2) nd rfl (Or.inl rfl)) (pgs_cons (pg_name (i := 3) nd rfl (Or.inl rfl)) pgs_nil)))) (fun _ _ _ _ _ => pts_nil) (fun _ _ _ _ _ => (pe_and (pv 2) (pe_one (pv 3))))))
    (pss_one (ps_ret (pv 0))))))
abbrev s_MarksU_leU : Stmt := (inClass (topS 13) 12)
abbrev N_MarksU_leU : List Str := ["self", "other", "one", "two"]
theorem sc_MarksU_leU : FnScope N_MarksU_leU ["self", "other"] (defScope s_MarksU_leU) := ⟨rfl, rfl, rfl, by decide +kernel, rfl, by decide +kernel, by decide +kernel⟩
def t_MarksU_leU (K : PySem.W.Frag) (a_Marks : Addr) (W : WX) : TS :=
    (tSeq (tIfS (tNot (tB (tCB (rIsi K) (tCons (tVar 1) (tCons (tC (.ref a_Marks)) tNil))))) tNever tNext)
    (tSeq (tIfS (tTest (tOp (rUnlike K) (tCB (TP.rLen K) (tCons (tGetF a_Marks "kept" (tVar 0)) tNil)) (tCB (TP.rLen K) (tCons (tGetF a_Marks "kept" (tVar 1)) tNil)))) (tRet (tC (.bl false))) tNext)
    (tRet (tCB (rAll K) (tCons (tLc (iZip K (tCons (tGetF a_Marks "kept" (tVar 0)) (tCons (tGetF a_Marks "kept" (tVar 1)) tNil))) (gTup K 2 (gCons (gName 2) (gCons (gName 3) gNil))) tYes (tOrV (tVar 3) (tNotV (tVar 2))) [2, 3]) tNil)))))
theorem d_MarksU_leU (T : Txt P K mg a_Marks a_BadMarks a_PagesError) (f : Addr) (cdv : Value) (A : Around) (outer : List Env) (s : Shared) (H : Hp) (E : XK) (hr : Room 0 (A.deeper (envOfC "Marks.__le__" (defScope s_MarksU_leU) s.heap.objs.size f cdv))) :
    PSs (cxOf (L2.CX P w) P w K mg base N_MarksU_leU "Marks.__le__" (defScope s_MarksU_leU) f cdv A outer s H E) (defBody s_MarksU_leU) (t_MarksU_leU K a_Marks (wOut E)) :=
  have nd := sc_MarksU_leU.nd
  have tk : Takes (cxOf (L2.CX P w) P w K mg base N_MarksU_leU "Marks.__le__" (defScope s_MarksU_leU) f cdv A outer s H E) (wOut E) := takes_of rfl rfl rfl rfl
  have po : PassesOwn (model P w) (cxOf (L2.CX P w) P w K mg base N_MarksU_leU "Marks.__le__" (defScope s_MarksU_leU) f cdv A outer s H E).A (cxOf (L2.CX P w) P w K mg base N_MarksU_leU "Marks.__le__" (defScope s_MarksU_leU) f cdv A outer s H E).env (cxOf (L2.CX P w) P w K mg base N_MarksU_leU "Marks.__le__" (defScope s_MarksU_leU) f cdv A outer s H E).xe := passes_of rfl
  (pss_cons (ps_if (pt_not (pt_val (pe_callB call_isi (by rfl) T.n_isinstance (by decide +kernel) (pa_cons (pv 1) (pa_cons (pe_globA T.g_Marks) pa_nil))))) (pss_one ps_never) pss_nil)
    (pss_cons (ps_if (pt_cmpR (op_unlike hr.units) (pe_callB TP.cr_len (by rfl) T.n_len (by decide +kernel) (pa_cons (pe_getF T.c_Marks.cls T.f_Marks_kept (pv 0)) pa_nil)) (pe_callB TP.cr_len (by rfl) T.n_len (by decide +kernel) (pa_cons (pe_getF T.c_Marks.cls T.f_Marks_kept (pv 1)) pa_nil)) (nomark _)) (pss_one (ps_ret pe_bl)) pss_nil)
    (pss_one (ps_ret (pe_callB (cr_all rfl) (by rfl) T.n_all (by decide +kernel) (pa_cons (pe_lc (own := [("one", 2), ("two", 3)]) (g := (gTup K 2 (gCons (gName 2) (gCons (gName 3) gNil)))) (tt := tYes) rfl nd (pi_zip (by rfl) T.n_zip (pa_cons (pe_getF T.c_Marks.cls T.f_Marks_kept (pv 0)) (pa_cons (pe_getF T.c_Marks.cls T.f_Marks_kept (pv 1)) pa_nil))) (blkOk_by (own := [("one", 2), ("two", 3)]) (N := N_MarksU_leU) (sc := defScope s_MarksU_leU) (by decide +kernel)) (fun _ _ _ _ _ => (pg_tup rfl (pgs_cons (pg_name (i := 2) nd rfl (Or.inl rfl)) (pgs_cons (pg_name (i := 3) nd rfl (Or.inl rfl)) pgs_nil)))) (fun _ _ _ _ _ => pts_nil) (fun _ _ _ _ _ => (pe_or (pv 3) (pe_one (pe_not (pv 2)))))) pa_nil))))))
abbrev s_MarksU_eqU : Stmt := (inClass (topS 13) 13)
abbrev N_MarksU_eqU : List Str := ["self", "other"]
theorem sc_MarksU_eqU : FnScope N_MarksU_eqU ["self", "other"] (defScope s_MarksU_eqU) := ⟨rfl, rfl, rfl, by decide +kernel, rfl, by decide +kernel, by decide +kernel⟩
def t_MarksU_eqU (K : PySem.W.Frag) (a_Marks : Addr) (W : WX) : TS :=
    (tRet (tAndV (tCB (rIsi K) (tCons (tVar 1) (tCons (tC (.ref a_Marks)) tNil))) (tOp (rSame K) (tGetF a_Marks "kept" (tVar 0)) (tGetF a_Marks "kept" (tVar 1)))))
theorem d_MarksU_eqU (T : Txt P K mg a_Marks a_BadMarks a_PagesError) (f : Addr) (cdv : Value) (A : Around) (outer : List Env) (s : Shared) (H : Hp) (E : XK) (hr : Room 0 (A.deeper (envOfC "Marks.__eq__" (defScope s_MarksU_eqU) s.heap.objs.size f cdv))) :
    PSs (cxOf (L2.CX P w) P w K mg base N_MarksU_eqU "Marks.__eq__" (defScope s_MarksU_eqU) f cdv A outer s H E) (defBody s_MarksU_eqU) (t_MarksU_eqU K a_Marks (wOut E)) :=
  have nd := sc_MarksU_eqU.nd
  have tk : Takes (cxOf (L2.CX P w) P w K mg base N_MarksU_eqU "Marks.__eq__" (defScope s_MarksU_eqU) f cdv A outer s H E) (wOut E) := takes_of rfl rfl rfl rfl
  have po : PassesOwn (model P w) (cxOf (L2.CX P w) P w K mg base N_MarksU_eqU "Marks.__eq__" (defScope s_MarksU_eqU) f cdv A outer s H E).A (cxOf (L2.CX P w) P w K mg base N_MarksU_eqU "Marks.__eq__" (defScope s_MarksU_eqU) f cdv A outer s H E).env (cxOf (L2.CX P w) P w K mg base N_MarksU_eqU "Marks.__eq__" (defScope s_MarksU_eqU) f cdv A outer s H E).xe := passes_of rfl
  (pss_one (ps_ret (pe_and (pe_callB call_isi (by rfl) T.n_isinstance (by decide +kernel) (pa_cons (pv 1) (pa_cons (pe_globA T.g_Marks) pa_nil))) (pe_one (pe_cmpR (op_same hr.units) (pe_getF T.c_Marks.cls T.f_Marks_kept (pv 0)) (pe_getF T.c_Marks.cls T.f_Marks_kept (pv 1)) (nomark _))))))
abbrev s__law_pot : Stmt := (topS 15)
abbrev N__law_pot : List Str := ["script", "cell"]
theorem sc__law_pot : FnScope N__law_pot ["script"] (defScope s__law_pot) := ⟨rfl, rfl, rfl, by decide +kernel, rfl, by decide +kernel, by decide +kernel⟩
def t__law_pot (K : PySem.W.Frag) (W : WX) : TS :=
    (tRet (tLst (tCons (tLc (iList K (tSl (rSlL K) (tVar 0) tNoPart (tPart (tC (.int 63))))) (gName 1) tYes (tCB rInt1 (tCons (tVar 1) tNil)) [1]) (tCons (tC (.int 0)) (tCons (tC (.int 7)) tNil)))))
theorem d__law_pot (T : Txt P K mg a_Marks a_BadMarks a_PagesError) (f : Addr) (cdv : Value) (A : Around) (outer : List Env) (s : Shared) (H : Hp) (E : XK) (hr : Room 0 (A.deeper (envOfC "_law_pot" (defScope s__law_pot) s.heap.objs.size f cdv))) :
    PSs (cxOf (L2.CX P w) P w K mg base N__law_pot "_law_pot" (defScope s__law_pot) f cdv A outer s H E) (defBody s__law_pot) (t__law_pot K (wOut E)) :=
  have nd := sc__law_pot.nd
  have tk : Takes (cxOf (L2.CX P w) P w K mg base N__law_pot "_law_pot" (defScope s__law_pot) f cdv A outer s H E) (wOut E) := takes_of rfl rfl rfl rfl
  have po : PassesOwn (model P w) (cxOf (L2.CX P w) P w K mg base N__law_pot "_law_pot" (defScope s__law_pot) f cdv A outer s H E).A (cxOf (L2.CX P w) P w K mg base N__law_pot "_law_pot" (defScope s__law_pot) f cdv A outer s H E).env (cxOf (L2.CX P w) P w K mg base N__law_pot "_law_pot" (defScope s__law_pot) f cdv A outer s H E).xe := passes_of rfl
  (pss_one (ps_ret (pe_lst (pa_cons (pe_lc (own := [("cell", 1)]) (g := (gName 1)) (tt := tYes) rfl nd (pi_list (pe_slice sl_list (pv 0) po_none (po_some pe_int))) (blkOk_by (own := [("cell", 1)]) (N := N__law_pot) (sc := defScope s__law_pot) (by decide +kernel)) (fun _ _ _ _ _ => (pg_name (i := 1) nd rfl (Or.inl rfl))) (fun _ _ _ _ _ => pts_nil) (fun _ _ _ _ _ => (pe_callTy cr_int1 (by rfl) T.n_int (by decide +kernel) (pa_cons (pv 1) pa_nil)))) (pa_cons pe_int (pa_cons pe_int pa_nil))))))
abbrev s__law_draw : Stmt := (topS 16)
abbrev N__law_draw : List Str := ["pot", "many", "cells", "at", "cell"]
theorem sc__law_draw : FnScope N__law_draw ["pot", "many"] (defScope s__law_draw) := ⟨rfl, rfl, rfl, by decide +kernel, rfl, by decide +kernel, by decide +kernel⟩
def t__law_draw (K : PySem.W.Frag) (W : WX) : TS :=
    (tSeq (tAsg (tOp (rIx K) (tVar 0) (tC (.int 0))) (gName 2))
    (tSeq (tAsg (tOp (rIx K) (tVar 0) (tC (.int 1))) (gName 3))
    (tSeq (tAsg (tC (.int 0)) (gName 4))
    (tSeq (tIfS (tTest (tOp rLess (tVar 3) (tCB (TP.rLen K) (tCons (tVar 2) tNil)))) (tSeq (tAsg (tOp (rIx K) (tVar 2) (tVar 3)) (gName 4))
    (tSeq (tIfS (tTest (tOp rGeq (tVar 4) (tOp rPow (tC (.int 10)) (tC (.int 18))))) (tSeq (tAsg (tOp rQuot (tVar 4) (tVar 1)) (gSub (tVar 2) (tVar 3) rSetL))
    (tRet (tOp rRest (tCB rInt1 (tCons (tVar 4) tNil)) (tVar 1)))) tNext)
    (tAsg (tOp rPlus (tVar 3) (tC (.int 1))) (gSub (tVar 0) (tC (.int 1)) rSetL)))) tNext)
    (tSeq (tAsg (tOp rRest (tCB rInt1 (tCons (tOp rPlus (tOp rPlus (tOp rTimes (tOp (rIx K) (tVar 0) (tC (.int 2))) (tC (.int 48271))) (tOp rTimes (tVar 4) (tC (.int 69621)))) (tC (.int 11))) tNil)) (tC (.int 2147483647))) (gSub (tVar 0) (tC (.int 2)) rSetL))
    (tRet (tOp rRest (tCB rInt1 (tCons (tOp rPlus (tOp rQuot (tOp rTimes (tOp (rIx K) (tVar 0) (tC (.int 2))) (tC (.int 16807))) (tC (.int 128))) (tOp (rIx K) (tVar 0) (tC (.int 2)))) tNil)) (tVar 1))))))))
theorem d__law_draw (T : Txt P K mg a_Marks a_BadMarks a_PagesError) (f : Addr) (cdv : Value) (A : Around) (outer : List Env) (s : Shared) (H : Hp) (E : XK) (hr : Room 0 (A.deeper (envOfC "_law_draw" (defScope s__law_draw) s.heap.objs.size f cdv))) :
    PSs (cxOf (L2.CX P w) P w K mg base N__law_draw "_law_draw" (defScope s__law_draw) f cdv A outer s H E) (defBody s__law_draw) (t__law_draw K (wOut E)) :=
  have nd := sc__law_draw.nd
  have tk : Takes (cxOf (L2.CX P w) P w K mg base N__law_draw "_law_draw" (defScope s__law_draw) f cdv A outer s H E) (wOut E) := takes_of rfl rfl rfl rfl
  have po : PassesOwn (model P w) (cxOf (L2.CX P w) P w K mg base N__law_draw "_law_draw" (defScope s__law_draw) f cdv A outer s H E).A (cxOf (L2.CX P w) P w K mg base N__law_draw "_law_draw" (defScope s__law_draw) f cdv A outer s H E).env (cxOf (L2.CX P w) P w K mg base N__law_draw "_law_draw" (defScope s__law_draw) f cdv A outer s H E).xe := passes_of rfl
  (pss_cons (ps_asg (pe_ix ix_seq (pv 0) pe_int (fun _ _ => rfl)) (pg_name (i := 2) nd rfl (Or.inl rfl)))
    (pss_cons (ps_asg (pe_ix ix_seq (pv 0) pe_int (fun _ _ => rfl)) (pg_name (i := 3) nd rfl (Or.inl rfl)))
    (pss_cons (ps_asg pe_int (pg_name (i := 4) nd rfl (Or.inl rfl)))
    (pss_cons (ps_if (pt_cmpR op_less (pv 3) (pe_callB TP.cr_len (by rfl) T.n_len (by decide +kernel) (pa_cons (pv 2) pa_nil)) (nomark _)) (pss_cons (ps_asg (pe_ix ix_seq (pv 2) (pv 3) (fun _ _ => rfl)) (pg_name (i := 4) nd rfl (Or.inl rfl)))
    (pss_cons (ps_if (pt_cmpR op_geq (pv 4) (pe_op op_power pe_int pe_int) (nomark _)) (pss_cons (ps_asg (pe_op op_quot (pv 4) (pv 1)) (pg_sub (pv 2) (pv 3) set_list))
    (pss_one (ps_ret (pe_op op_rest (pe_callTy cr_int1 (by rfl) T.n_int (by decide +kernel) (pa_cons (pv 4) pa_nil)) (pv 1))))) pss_nil)
    (pss_one (ps_asg (pe_op op_plus (pv 3) pe_int) (pg_sub (pv 0) pe_int set_list))))) pss_nil)
    (pss_cons (ps_asg (pe_op op_rest (pe_callTy cr_int1 (by rfl) T.n_int (by decide +kernel) (pa_cons (pe_op op_plus (pe_op op_plus (pe_op op_times (pe_ix ix_seq (pv 0) pe_int (fun _ _ => rfl)) pe_int) (pe_op op_times (pv 4) pe_int)) pe_int) pa_nil)) pe_int) (pg_sub (pv 0) pe_int set_list))
    (pss_one (ps_ret (pe_op op_rest (pe_callTy cr_int1 (by rfl) T.n_int (by decide +kernel) (pa_cons (pe_op op_plus (pe_op op_quot (pe_op op_times (pe_ix ix_seq (pv 0) pe_int (fun _ _ => rfl)) pe_int) pe_int) (pe_ix ix_seq (pv 0) pe_int (fun _ _ => rfl))) pa_nil)) (pv 1)))))))))
abbrev s__law_marks : Stmt := (topS 17)
abbrev N__law_marks : List Str := ["truths", "marks", "at", "truth"]
theorem sc__law_marks : FnScope N__law_marks ["truths"] (defScope s__law_marks) := ⟨rfl, rfl, rfl, by decide +kernel, rfl, by decide +kernel, by decide +kernel⟩
def t__law_marks (K : PySem.W.Frag) (a_Marks : Addr) (sp_MarksU_initU : Sp) (sp_MarksU_setitemU : Sp) (W : WX) : TS :=
    (tSeq (tAsg (tNew a_Marks sp_MarksU_initU W [.non] (tCons (tCB (TP.rLen K) (tCons (tVar 0) tNil)) tNil)) (gName 1))
    (tSeq (tFor (iEnum K (tCons (tVar 0) tNil)) (gTup K 2 (gCons (gName 2) (gCons (gName 3) gNil))) (tAsg (tVar 3) (gSubS (tVar 1) (tVar 2) (rSetZ a_Marks sp_MarksU_setitemU W))))
    (tRet (tVar 1))))
theorem d__law_marks {sp_MarksU_initU : Sp} {sp_MarksU_setitemU : Sp} (T : Txt P K mg a_Marks a_BadMarks a_PagesError) (I_MarksU_initU_1 : MakZ P w K mg base 4 "Marks" a_Marks ["self", "many", "truths"] sp_MarksU_initU [.none]) (I_MarksU_setitemU : MthZ P w K mg base 5 a_Marks "__setitem__" ["self", "at", "value"] sp_MarksU_setitemU) (f : Addr) (cdv : Value) (A : Around) (outer : List Env) (s : Shared) (H : Hp) (E : XK) (hr : Room 5 (A.deeper (envOfC "_law_marks" (defScope s__law_marks) s.heap.objs.size f cdv))) :
    PSs (cxOf (L2.CX P w) P w K mg base N__law_marks "_law_marks" (defScope s__law_marks) f cdv A outer s H E) (defBody s__law_marks) (t__law_marks K a_Marks sp_MarksU_initU sp_MarksU_setitemU (wOut E)) :=
  have nd := sc__law_marks.nd
  have tk : Takes (cxOf (L2.CX P w) P w K mg base N__law_marks "_law_marks" (defScope s__law_marks) f cdv A outer s H E) (wOut E) := takes_of rfl rfl rfl rfl
  have po : PassesOwn (model P w) (cxOf (L2.CX P w) P w K mg base N__law_marks "_law_marks" (defScope s__law_marks) f cdv A outer s H E).A (cxOf (L2.CX P w) P w K mg base N__law_marks "_law_marks" (defScope s__law_marks) f cdv A outer s H E).env (cxOf (L2.CX P w) P w K mg base N__law_marks "_law_marks" (defScope s__law_marks) f cdv A outer s H E).xe := passes_of rfl
  (pss_cons (ps_asg (pe_new I_MarksU_initU_1 (.cons rfl .nil) hr (by decide) tk (pa_cons (pe_callB TP.cr_len (by rfl) T.n_len (by decide +kernel) (pa_cons (pv 0) pa_nil)) pa_nil)) (pg_name (i := 1) nd rfl (Or.inl rfl)))
    (pss_cons (ps_for po rfl (pi_enum (by rfl) T.n_enumerate (pa_cons (pv 0) pa_nil)) (pg_tup rfl (pgs_cons (pg_name (i := 2) nd rfl (Or.inl rfl)) (pgs_cons (pg_name (i := 3) nd rfl (Or.inl rfl)) pgs_nil))) (pss_one (ps_asg (pv 3) (pg_setZ I_MarksU_setitemU T.c_Marks hr (by decide) tk (pv 1) (pv 2)))))
    (pss_one (ps_ret (pv 1)))))
abbrev s__law_truths : Stmt := (topS 18)
abbrev N__law_truths : List Str := ["marks", "at"]
theorem sc__law_truths : FnScope N__law_truths ["marks"] (defScope s__law_truths) := ⟨rfl, rfl, rfl, by decide +kernel, rfl, by decide +kernel, by decide +kernel⟩
def t__law_truths (K : PySem.W.Frag) (a_Marks : Addr) (sp_MarksU_lenU : Sp) (sp_MarksU_getitemU : Sp) (W : WX) : TS :=
    (tRet (tLc (iRng1 (tCons (tCBS (rLenZ a_Marks sp_MarksU_lenU W) (tCons (tVar 0) tNil)) tNil)) (gName 1) tYes (tOpS (rGetZ a_Marks sp_MarksU_getitemU noW) (tVar 0) (tVar 1)) [1]))
theorem d__law_truths {sp_MarksU_lenU : Sp} {sp_MarksU_getitemU : Sp} (T : Txt P K mg a_Marks a_BadMarks a_PagesError) (I_MarksU_lenU : MthZ P w K mg base 1 a_Marks "__len__" ["self"] sp_MarksU_lenU) (I_MarksU_getitemU : MthZ P w K mg base 5 a_Marks "__getitem__" ["self", "at"] sp_MarksU_getitemU) (f : Addr) (cdv : Value) (A : Around) (outer : List Env) (s : Shared) (H : Hp) (E : XK) (hr : Room 6 (A.deeper (envOfC "_law_truths" (defScope s__law_truths) s.heap.objs.size f cdv))) :
    PSs (cxOf (L2.CX P w) P w K mg base N__law_truths "_law_truths" (defScope s__law_truths) f cdv A outer s H E) (defBody s__law_truths) (t__law_truths K a_Marks sp_MarksU_lenU sp_MarksU_getitemU (wOut E)) :=
  have nd := sc__law_truths.nd
  have tk : Takes (cxOf (L2.CX P w) P w K mg base N__law_truths "_law_truths" (defScope s__law_truths) f cdv A outer s H E) (wOut E) := takes_of rfl rfl rfl rfl
  have po : PassesOwn (model P w) (cxOf (L2.CX P w) P w K mg base N__law_truths "_law_truths" (defScope s__law_truths) f cdv A outer s H E).A (cxOf (L2.CX P w) P w K mg base N__law_truths "_law_truths" (defScope s__law_truths) f cdv A outer s H E).env (cxOf (L2.CX P w) P w K mg base N__law_truths "_law_truths" (defScope s__law_truths) f cdv A outer s H E).xe := passes_of rfl
  (pss_one (ps_ret (pe_lc (own := [("at", 1)]) (g := (gName 1)) (tt := tYes) rfl nd (pi_range1 (by rfl) T.n_range (pa_cons (pe_lenZ I_MarksU_lenU hr (by decide) tk T.n_len (pa_cons (pv 0) pa_nil)) pa_nil)) (blkOk_by (own := [("at", 1)]) (N := N__law_truths) (sc := defScope s__law_truths) (by decide +kernel)) (fun _ _ _ _ _ => (pg_name (i := 1) nd rfl (Or.inl rfl))) (fun _ _ _ _ _ => pts_nil) (fun _ _ _ _ _ => (pe_ixZ I_MarksU_getitemU hr (by decide) takes0 (pv 0) (pv 1) (fun _ _ => rfl))))))
abbrev s__law_refused : Stmt := (topS 19)
abbrev N__law_refused : List Str := ["one", "other", "word", "told", "e"]
theorem sc__law_refused : FnScope N__law_refused ["one", "other", "word"] (defScope s__law_refused) := ⟨rfl, rfl, rfl, by decide +kernel, rfl, by decide +kernel, by decide +kernel⟩
def t__law_refused (K : PySem.W.Frag) (a_BadMarks : Addr) (a_Marks : Addr) (a_PagesError : Addr) (sp_MarksU_orU : Sp) (sp_MarksU_andU : Sp) (sp_MarksU_iorU : Sp) (sp_MarksU_iandU : Sp) (W : WX) : TS :=
    (tSeq (tAsg (tC .non) (gName 3))
    (tSeq (tTry (fun W1 => (tIfS (tTest (tOp (rSame K) (tVar 2) (tC (.int 0)))) (tAsg (tOpS (rBinO a_Marks sp_MarksU_orU W1) (tVar 0) (tVar 1)) (gName 3)) (tIfS (tTest (tOp (rSame K) (tVar 2) (tC (.int 1)))) (tAsg (tOpS (rBinO a_Marks sp_MarksU_andU W1) (tVar 0) (tVar 1)) (gName 3)) (tIfS (tTest (tOp (rSame K) (tVar 2) (tC (.int 2)))) (tAugZ 0 (tVar 1) (rIpO a_Marks sp_MarksU_iorU W1)) (tAugZ 0 (tVar 1) (rIpO a_Marks sp_MarksU_iandU W1))))))
    (fun D => wAs K (.ref a_BadMarks) 4 (fun xa cls d => (tAsg (tLst (tCons (tXf xa cls d a_BadMarks "at" (tVar 4)) (tCons (tCB (rIsX K xa cls d) (tCons (tVar 4) (tCons (tC (.ref a_PagesError)) tNil))) (tCons (tCB (rIsX K xa cls d) (tCons (tVar 4) (tCons (tC (.ty "ValueError")) tNil))) tNil)))) (gName 3))) W D))
    (tRet (tVar 3))))
theorem d__law_refused {sp_MarksU_orU : Sp} {sp_MarksU_andU : Sp} {sp_MarksU_iorU : Sp} {sp_MarksU_iandU : Sp} (T : Txt P K mg a_Marks a_BadMarks a_PagesError) (I_MarksU_orU : MthZ P w K mg base 7 a_Marks "__or__" ["self", "other"] sp_MarksU_orU) (I_MarksU_andU : MthZ P w K mg base 7 a_Marks "__and__" ["self", "other"] sp_MarksU_andU) (I_MarksU_iorU : MthZ P w K mg base 5 a_Marks "__ior__" ["self", "other"] sp_MarksU_iorU) (I_MarksU_iandU : MthZ P w K mg base 5 a_Marks "__iand__" ["self", "other"] sp_MarksU_iandU) (f : Addr) (cdv : Value) (A : Around) (outer : List Env) (s : Shared) (H : Hp) (E : XK) (hr : Room 7 (A.deeper (envOfC "_law_refused" (defScope s__law_refused) s.heap.objs.size f cdv))) :
    PSs (cxOf (L2.CX P w) P w K mg base N__law_refused "_law_refused" (defScope s__law_refused) f cdv A outer s H E) (defBody s__law_refused) (t__law_refused K a_BadMarks a_Marks a_PagesError sp_MarksU_orU sp_MarksU_andU sp_MarksU_iorU sp_MarksU_iandU (wOut E)) :=
  have nd := sc__law_refused.nd
  have tk : Takes (cxOf (L2.CX P w) P w K mg base N__law_refused "_law_refused" (defScope s__law_refused) f cdv A outer s H E) (wOut E) := takes_of rfl rfl rfl rfl
  have po : PassesOwn (model P w) (cxOf (L2.CX P w) P w K mg base N__law_refused "_law_refused" (defScope s__law_refused) f cdv A outer s H E).A (cxOf (L2.CX P w) P w K mg base N__law_refused "_law_refused" (defScope s__law_refused) f cdv A outer s H E).env (cxOf (L2.CX P w) P w K mg base N__law_refused "_law_refused" (defScope s__law_refused) f cdv A outer s H E).xe := passes_of rfl
  (pss_cons (ps_asg pe_non (pg_name (i := 3) nd rfl (Or.inl rfl)))
    (pss_cons (ps_try_as (i := 4) rfl rfl nd rfl rfl (by exact ⟨rfl, by decide, .inl T.g_BadMarks⟩) tk (fun W1 pn xe tk1 po1 => (pss_one (ps_if (pt_cmpR (op_same hr.units) (pv 2) pe_int (nomark _)) (pss_one (ps_asg (pe_opS (op_binO I_MarksU_orU rfl T.c_Marks hr (by decide) tk1) (pv 0) (pv 1)) (pg_name (i := 3) nd rfl (Or.inl rfl)))) (pss_one (ps_if (pt_cmpR (op_same hr.units) (pv 2) pe_int (nomark _)) (pss_one (ps_asg (pe_opS (op_binO I_MarksU_andU rfl T.c_Marks hr (by decide) tk1) (pv 0) (pv 1)) (pg_name (i := 3) nd rfl (Or.inl rfl)))) (pss_one (ps_if (pt_cmpR (op_same hr.units) (pv 2) pe_int (nomark _)) (pss_one (ps_augZ (i := 0) nd rfl (Or.inl rfl) (pv 1) (ip_own I_MarksU_iorU rfl T.c_Marks hr (by decide) tk1))) (pss_one (ps_augZ (i := 0) nd rfl (Or.inl rfl) (pv 1) (ip_own I_MarksU_iandU rfl T.c_Marks hr (by decide) tk1))))))))))
    (fun xa oe cls d pn hz hf => (pss_one (ps_asg (pe_lst (pa_cons (pe_xf T.e_BadMarks.xf T.e_BadMarks.no hz hf (pv 4)) (pa_cons (pe_callB (call_isX hz hf) (by rfl) T.n_isinstance (by decide +kernel) (pa_cons (pv 4) (pa_cons (pe_globA T.g_PagesError) pa_nil))) (pa_cons (pe_callB (call_isX hz hf) (by rfl) T.n_isinstance (by decide +kernel) (pa_cons (pv 4) (pa_cons (pe_bltn (by rfl) T.n_ValueError (by decide +kernel) rfl) pa_nil))) pa_nil)))) (pg_name (i := 3) nd rfl (Or.inl rfl))))))
    (pss_one (ps_ret (pv 3)))))
abbrev s__law_in_place : Stmt := (topS 20)
abbrev N__law_in_place : List Str := ["one", "other", "a", "b", "joined", "cut", "same", "mate", "given"]
theorem sc__law_in_place : FnScope N__law_in_place ["one", "other", "a", "b", "joined", "cut"] (defScope s__law_in_place) := ⟨rfl, rfl, rfl, by decide +kernel, rfl, by decide +kernel, by decide +kernel⟩
def t__law_in_place (K : PySem.W.Frag) (a_Marks : Addr) (sp_MarksU_setitemU : Sp) (sp_MarksU_iorU : Sp) (sp_MarksU_iandU : Sp) (sp_MarksU_leU : Sp) (sp__law_marks : Sp) (sp__law_truths : Sp) (W : WX) : TS :=
    (tSeq (tAsg (tVar 0) (gName 6))
    (tSeq (tAugZ 0 (tVar 1) (rIpO a_Marks sp_MarksU_iorU W))
    (tSeq (tIfS (tOr (tTest (tOp (rUnlike K) (tCallZ sp__law_truths W (tCons (tVar 0) tNil)) (tVar 4))) (tOr (tTest (tOp (rUnlike K) (tCallZ sp__law_truths W (tCons (tVar 6) tNil)) (tVar 4))) (tTest (tOp (rUnlike K) (tCallZ sp__law_truths W (tCons (tVar 1) tNil)) (tVar 3))))) (tRet (tC (.bl false))) tNext)
    (tSeq (tAsg (tNotV (tOp (rIx K) (tVar 4) (tC (.int 0)))) (gSubS (tVar 0) (tC (.int 0)) (rSetZ a_Marks sp_MarksU_setitemU W)))
    (tSeq (tIfS (tTest (tOp (rUnlike K) (tCallZ sp__law_truths W (tCons (tVar 1) tNil)) (tVar 3))) (tRet (tC (.bl false))) tNext)
    (tSeq (tAsg (tOp (rIx K) (tVar 4) (tC (.int 0))) (gSubS (tVar 0) (tC (.int 0)) (rSetZ a_Marks sp_MarksU_setitemU W)))
    (tSeq (tAsg (tVar 1) (gName 7))
    (tSeq (tAsg (tCallZ sp__law_marks W (tCons (tVar 2) tNil)) (gName 8))
    (tSeq (tAugZ 1 (tVar 8) (rIpO a_Marks sp_MarksU_iandU W))
    (tSeq (tAsg (tNotV (tOp (rIx K) (tVar 5) (tC (.int 0)))) (gSubS (tVar 1) (tC (.int 0)) (rSetZ a_Marks sp_MarksU_setitemU W)))
    (tSeq (tIfS (tTest (tOp (rUnlike K) (tCallZ sp__law_truths W (tCons (tVar 8) tNil)) (tVar 2))) (tRet (tC (.bl false))) tNext)
    (tSeq (tAsg (tOp (rIx K) (tVar 5) (tC (.int 0))) (gSubS (tVar 1) (tC (.int 0)) (rSetZ a_Marks sp_MarksU_setitemU W)))
    (tRet (tAndV (tOp (rSame K) (tCallZ sp__law_truths W (tCons (tVar 1) tNil)) (tVar 5)) (tAndV (tOp (rSame K) (tCallZ sp__law_truths W (tCons (tVar 7) tNil)) (tVar 5)) (tAndV (tOp (rSame K) (tCallZ sp__law_truths W (tCons (tVar 6) tNil)) (tVar 4)) (tOpS (rCmpO K a_Marks sp_MarksU_leU W false) (tVar 7) (tVar 6))))))))))))))))))
theorem d__law_in_place {sp_MarksU_setitemU : Sp} {sp_MarksU_iorU : Sp} {sp_MarksU_iandU : Sp} {sp_MarksU_leU : Sp} {sp__law_marks : Sp} {sp__law_truths : Sp} (T : Txt P K mg a_Marks a_BadMarks a_PagesError) (I_MarksU_setitemU : MthZ P w K mg base 5 a_Marks "__setitem__" ["self", "at", "value"] sp_MarksU_setitemU) (I_MarksU_iorU : MthZ P w K mg base 5 a_Marks "__ior__" ["self", "other"] sp_MarksU_iorU) (I_MarksU_iandU : MthZ P w K mg base 5 a_Marks "__iand__" ["self", "other"] sp_MarksU_iandU) (I_MarksU_leU : MthZ P w K mg base 1 a_Marks "__le__" ["self", "other"] sp_MarksU_leU) (I__law_marks : FnZ P w K mg base 6 "_law_marks" ["truths"] sp__law_marks) (I__law_truths : FnZ P w K mg base 7 "_law_truths" ["marks"] sp__law_truths) (f : Addr) (cdv : Value) (A : Around) (outer : List Env) (s : Shared) (H : Hp) (E : XK) (hr : Room 7 (A.deeper (envOfC "_law_in_place" (defScope s__law_in_place) s.heap.objs.size f cdv))) :
    PSs (cxOf (L2.CX P w) P w K mg base N__law_in_place "_law_in_place" (defScope s__law_in_place) f cdv A outer s H E) (defBody s__law_in_place) (t__law_in_place K a_Marks sp_MarksU_setitemU sp_MarksU_iorU sp_MarksU_iandU sp_MarksU_leU sp__law_marks sp__law_truths (wOut E)) :=
  have nd := sc__law_in_place.nd
  have tk : Takes (cxOf (L2.CX P w) P w K mg base N__law_in_place "_law_in_place" (defScope s__law_in_place) f cdv A outer s H E) (wOut E) := takes_of rfl rfl rfl rfl
  have po : PassesOwn (model P w) (cxOf (L2.CX P w) P w K mg base N__law_in_place "_law_in_place" (defScope s__law_in_place) f cdv A outer s H E).A (cxOf (L2.CX P w) P w K mg base N__law_in_place "_law_in_place" (defScope s__law_in_place) f cdv A outer s H E).env (cxOf (L2.CX P w) P w K mg base N__law_in_place "_law_in_place" (defScope s__law_in_place) f cdv A outer s H E).xe := passes_of rfl
  (pss_cons (ps_asg (pv 0) (pg_name (i := 6) nd rfl (Or.inl rfl)))
    (pss_cons (ps_augZ (i := 0) nd rfl (Or.inl rfl) (pv 1) (ip_own I_MarksU_iorU rfl T.c_Marks hr (by decide) tk))
    (pss_cons (ps_if (PW.pt (pw_or (pt_cmpR (op_unlike hr.units) (pe_callZ I__law_truths hr (by decide) tk (pa_cons (pv 0) pa_nil)) (pv 4) (nomark _)) (pw_or (pt_cmpR (op_unlike hr.units) (pe_callZ I__law_truths hr (by decide) tk (pa_cons (pv 6) pa_nil)) (pv 4) (nomark _)) (pw_or1 (pt_cmpR (op_unlike hr.units) (pe_callZ I__law_truths hr (by decide) tk (pa_cons (pv 1) pa_nil)) (pv 3) (nomark _)))))) (pss_one (ps_ret pe_bl)) pss_nil)
    (pss_cons (ps_asg (pe_not (pe_ix ix_seq (pv 4) pe_int (fun _ _ => rfl))) (pg_setZ I_MarksU_setitemU T.c_Marks hr (by decide) tk (pv 0) pe_int))
    (pss_cons (ps_if (pt_cmpR (op_unlike hr.units) (pe_callZ I__law_truths hr (by decide) tk (pa_cons (pv 1) pa_nil)) (pv 3) (nomark _)) (pss_one (ps_ret pe_bl)) pss_nil)
    (pss_cons (ps_asg (pe_ix ix_seq (pv 4) pe_int (fun _ _ => rfl)) (pg_setZ I_MarksU_setitemU T.c_Marks hr (by decide) tk (pv 0) pe_int))
    (pss_cons (ps_asg (pv 1) (pg_name (i := 7) nd rfl (Or.inl rfl)))
    (pss_cons (ps_asg (pe_callZ I__law_marks hr (by decide) tk (pa_cons (pv 2) pa_nil)) (pg_name (i := 8) nd rfl (Or.inl rfl)))
    (pss_cons (ps_augZ (i := 1) nd rfl (Or.inl rfl) (pv 8) (ip_own I_MarksU_iandU rfl T.c_Marks hr (by decide) tk))
    (pss_cons (ps_asg (pe_not (pe_ix ix_seq (pv 5) pe_int (fun _ _ => rfl))) (pg_setZ I_MarksU_setitemU T.c_Marks hr (by decide) tk (pv 1) pe_int))
    (pss_cons (ps_if (pt_cmpR (op_unlike hr.units) (pe_callZ I__law_truths hr (by decide) tk (pa_cons (pv 8) pa_nil)) (pv 2) (nomark _)) (pss_one (ps_ret pe_bl)) pss_nil)
    (pss_cons (ps_asg (pe_ix ix_seq (pv 5) pe_int (fun _ _ => rfl)) (pg_setZ I_MarksU_setitemU T.c_Marks hr (by decide) tk (pv 1) pe_int))
    (pss_one (ps_ret (pe_and (pe_cmpR (op_same hr.units) (pe_callZ I__law_truths hr (by decide) tk (pa_cons (pv 1) pa_nil)) (pv 5) (nomark _)) (pe_and (pe_cmpR (op_same hr.units) (pe_callZ I__law_truths hr (by decide) tk (pa_cons (pv 7) pa_nil)) (pv 5) (nomark _)) (pe_and (pe_cmpR (op_same hr.units) (pe_callZ I__law_truths hr (by decide) tk (pa_cons (pv 6) pa_nil)) (pv 4) (nomark _)) (pe_one (pe_cmpS (op_cmpO I_MarksU_leU rfl (fun _ _ => rfl) hr (by decide) tk) (pv 7) (pv 6) (nomark _))))))))))))))))))))
abbrev s_law : Stmt := (topS 21)
abbrev N_law : List Str := ["script", "pot", "many", "a", "b", "one", "other", "inside", "word", "joined", "cut", "both", "common", "k"]
theorem sc_law : FnScope N_law ["script"] (defScope s_law) := ⟨rfl, rfl, rfl, by decide +kernel, rfl, by decide +kernel, by decide +kernel⟩
def t_law (K : PySem.W.Frag) (a_Marks : Addr) (sp_MarksU_setitemU : Sp) (sp_MarksU_orU : Sp) (sp_MarksU_andU : Sp) (sp_MarksU_leU : Sp) (sp_MarksU_eqU : Sp) (sp__law_pot : Sp) (sp__law_draw : Sp) (sp__law_marks : Sp) (sp__law_truths : Sp) (sp__law_refused : Sp) (sp__law_in_place : Sp) (W : WX) : TS :=
    (tSeq (tAsg (tCallZ sp__law_pot W (tCons (tVar 0) tNil)) (gName 1))
    (tSeq (tAsg (tOp (rIx K) (tLst (tCons (tOp rPlus (tC (.int 1)) (tCallZ sp__law_draw W (tCons (tVar 1) (tCons (tC (.int 64)) tNil)))) (tCons (tC (.int 64)) (tCons (tOp rPlus (tC (.int 1)) (tCallZ sp__law_draw W (tCons (tVar 1) (tCons (tC (.int 9)) tNil)))) tNil)))) (tCallZ sp__law_draw W (tCons (tVar 1) (tCons (tC (.int 3)) tNil)))) (gName 2))
    (tSeq (tAsg (tLc (iRng1 (tCons (tVar 2) tNil)) (gName 13) tYes (tOp (rSame K) (tCallZ sp__law_draw noW (tCons (tVar 1) (tCons (tC (.int 2)) tNil))) (tC (.int 1))) [13]) (gName 3))
    (tSeq (tAsg (tLc (iRng1 (tCons (tVar 2) tNil)) (gName 13) tYes (tOp (rSame K) (tCallZ sp__law_draw noW (tCons (tVar 1) (tCons (tC (.int 2)) tNil))) (tC (.int 1))) [13]) (gName 4))
    (tSeq (tIfS (tTest (tOp (rSame K) (tCallZ sp__law_draw W (tCons (tVar 1) (tCons (tC (.int 3)) tNil))) (tC (.int 0)))) (tAsg (tLc (iRng1 (tCons (tVar 2) tNil)) (gName 13) tYes (tOrV (tOp (rIx K) (tVar 3) (tVar 13)) (tOp (rIx K) (tVar 4) (tVar 13))) [13]) (gName 4)) tNext)
    (tSeq (tIfS (tTest (tOp (rSame K) (tCallZ sp__law_draw W (tCons (tVar 1) (tCons (tC (.int 6)) tNil))) (tC (.int 0)))) (tAsg (tOp rPlus (tSl (rSlL K) (tVar 4) (tPart (tC (.int 1))) tNoPart) (tIf (tOr (tTest (tOp rLess (tVar 2) (tC (.int 64)))) (tTest (tOp (rSame K) (tSl (rSlL K) (tVar 4) (tPart (tC (.int 1))) tNoPart) (tLst tNil)))) (tLst (tCons (tC (.bl true)) (tCons (tC (.bl true)) tNil))) (tLst tNil))) (gName 4)) tNext)
    (tSeq (tAsg (tCallZ sp__law_marks W (tCons (tVar 3) tNil)) (gName 5))
    (tSeq (tAsg (tCallZ sp__law_marks W (tCons (tVar 4) tNil)) (gName 6))
    (tSeq (tAsg (tAndV (tOp (rSame K) (tCB (TP.rLen K) (tCons (tVar 3) tNil)) (tCB (TP.rLen K) (tCons (tVar 4) tNil))) (tOp (rSame K) (tLc (iRng1 (tCons (tCB (TP.rLen K) (tCons (tVar 3) tNil)) tNil)) (gName 13) (tAnd (tB (tOp (rIx K) (tVar 3) (tVar 13))) (tNot (tB (tOp (rIx K) (tVar 4) (tVar 13))))) (tVar 13) [13]) (tLst tNil))) (gName 7))
    (tSeq (tIfS (tOr (tTest (tOp (rUnlike K) (tOpS (rCmpO K a_Marks sp_MarksU_leU W false) (tVar 5) (tVar 6)) (tVar 7))) (tTest (tOp (rUnlike K) (tOpS (rCmpO K a_Marks sp_MarksU_eqU W false) (tVar 5) (tVar 6)) (tOp (rSame K) (tVar 3) (tVar 4))))) (tRet (tC (.bl false))) tNext)
    (tSeq (tIfS (tTest (tOp (rUnlike K) (tCB (TP.rLen K) (tCons (tVar 3) tNil)) (tCB (TP.rLen K) (tCons (tVar 4) tNil)))) (tSeq (tFor (iRng1 (tCons (tC (.int 4)) tNil)) (gName 8) (tIfS (tOr (tTest (tOp (rUnlike K) (tCallZ sp__law_refused W (tCons (tVar 5) (tCons (tVar 6) (tCons (tVar 8) tNil)))) (tLst (tCons (tC .non) (tCons (tC (.bl true)) (tCons (tC (.bl true)) tNil)))))) (tTest (tOp (rUnlike K) (tCallZ sp__law_truths W (tCons (tVar 5) tNil)) (tVar 3)))) (tRet (tC (.bl false))) tNext))
    (tRet (tAndV (tOp (rSame K) (tCallZ sp__law_truths W (tCons (tVar 6) tNil)) (tVar 4)) (tAndV (tNotV (tOpS (rCmpO K a_Marks sp_MarksU_leU W false) (tVar 5) (tVar 6))) (tOpS (rCmpO K a_Marks sp_MarksU_eqU W true) (tVar 5) (tVar 6)))))) tNext)
    (tSeq (tAsg (tLc (iRng1 (tCons (tVar 2) tNil)) (gName 13) tYes (tOrV (tOp (rIx K) (tVar 3) (tVar 13)) (tOp (rIx K) (tVar 4) (tVar 13))) [13]) (gName 9))
    (tSeq (tAsg (tLc (iRng1 (tCons (tVar 2) tNil)) (gName 13) tYes (tAndV (tOp (rIx K) (tVar 3) (tVar 13)) (tOp (rIx K) (tVar 4) (tVar 13))) [13]) (gName 10))
    (tSeq (tAsg (tOpS (rBinO a_Marks sp_MarksU_orU W) (tVar 5) (tVar 6)) (gName 11))
    (tSeq (tAsg (tOpS (rBinO a_Marks sp_MarksU_andU W) (tVar 5) (tVar 6)) (gName 12))
    (tSeq (tIfS (tOr (tTest (tOp (rUnlike K) (tCallZ sp__law_truths W (tCons (tVar 11) tNil)) (tVar 9))) (tOr (tTest (tOp (rUnlike K) (tCallZ sp__law_truths W (tCons (tVar 12) tNil)) (tVar 10))) (tTest (tOp (rUnlike K) (tCallZ sp__law_truths W (tCons (tVar 5) tNil)) (tVar 3))))) (tRet (tC (.bl false))) tNext)
    (tSeq (tAsg (tNotV (tOp (rIx K) (tVar 9) (tC (.int 0)))) (gSubS (tVar 11) (tC (.int 0)) (rSetZ a_Marks sp_MarksU_setitemU W)))
    (tSeq (tIfS (tOr (tTest (tOp (rUnlike K) (tCallZ sp__law_truths W (tCons (tVar 5) tNil)) (tVar 3))) (tOr (tTest (tOp (rUnlike K) (tCallZ sp__law_truths W (tCons (tVar 6) tNil)) (tVar 4))) (tOr (tNot (tTest (tOpS (rCmpO K a_Marks sp_MarksU_leU W false) (tVar 12) (tVar 5)))) (tNot (tTest (tOpS (rCmpO K a_Marks sp_MarksU_leU W false) (tVar 5) (tOpS (rBinO a_Marks sp_MarksU_orU W) (tVar 5) (tVar 6)))))))) (tRet (tC (.bl false))) tNext)
    (tRet (tCallZ sp__law_in_place W (tCons (tVar 5) (tCons (tVar 6) (tCons (tVar 3) (tCons (tVar 4) (tCons (tVar 9) (tCons (tVar 10) tNil))))))))))))))))))))))))))
theorem d_law {sp_MarksU_setitemU : Sp} {sp_MarksU_orU : Sp} {sp_MarksU_andU : Sp} {sp_MarksU_leU : Sp} {sp_MarksU_eqU : Sp} {sp__law_pot : Sp} {sp__law_draw : Sp} {sp__law_marks : Sp} {sp__law_truths : Sp} {sp__law_refused : Sp} {sp__law_in_place : Sp} (T : Txt P K mg a_Marks a_BadMarks a_PagesError) (I_MarksU_setitemU : MthZ P w K mg base 5 a_Marks "__setitem__" ["self", "at", "value"] sp_MarksU_setitemU) (I_MarksU_orU : MthZ P w K mg base 7 a_Marks "__or__" ["self", "other"] sp_MarksU_orU) (I_MarksU_andU : MthZ P w K mg base 7 a_Marks "__and__" ["self", "other"] sp_MarksU_andU) (I_MarksU_leU : MthZ P w K mg base 1 a_Marks "__le__" ["self", "other"] sp_MarksU_leU) (I_MarksU_eqU : MthZ P w K mg base 1 a_Marks "__eq__" ["self", "other"] sp_MarksU_eqU) (I__law_pot : FnZ P w K mg base 1 "_law_pot" ["script"] sp__law_pot) (I__law_draw : FnZ P w K mg base 1 "_law_draw" ["pot", "many"] sp__law_draw) (I__law_marks : FnZ P w K mg base 6 "_law_marks" ["truths"] sp__law_marks) (I__law_truths : FnZ P w K mg base 7 "_law_truths" ["marks"] sp__law_truths) (I__law_refused : FnZ P w K mg base 8 "_law_refused" ["one", "other", "word"] sp__law_refused) (I__law_in_place : FnZ P w K mg base 8 "_law_in_place" ["one", "other", "a", "b", "joined", "cut"] sp__law_in_place) (f : Addr) (cdv : Value) (A : Around) (outer : List Env) (s : Shared) (H : Hp) (E : XK) (hr : Room 8 (A.deeper (envOfC "law" (defScope s_law) s.heap.objs.size f cdv))) :
    PSs (cxOf (L2.CX P w) P w K mg base N_law "law" (defScope s_law) f cdv A outer s H E) (defBody s_law) (t_law K a_Marks sp_MarksU_setitemU sp_MarksU_orU sp_MarksU_andU sp_MarksU_leU sp_MarksU_eqU sp__law_pot sp__law_draw sp__law_marks sp__law_truths sp__law_refused sp__law_in_place (wOut E)) :=
  have nd := sc_law.nd
  have tk : Takes (cxOf (L2.CX P w) P w K mg base N_law "law" (defScope s_law) f cdv A outer s H E) (wOut E) := takes_of rfl rfl rfl rfl
  have po : PassesOwn (model P w) (cxOf (L2.CX P w) P w K mg base N_law "law" (defScope s_law) f cdv A outer s H E).A (cxOf (L2.CX P w) P w K mg base N_law "law" (defScope s_law) f cdv A outer s H E).env (cxOf (L2.CX P w) P w K mg base N_law "law" (defScope s_law) f cdv A outer s H E).xe := passes_of rfl
  (pss_cons (ps_asg (pe_callZ I__law_pot hr (by decide) tk (pa_cons (pv 0) pa_nil)) (pg_name (i := 1) nd rfl (Or.inr rfl)))
    (pss_cons (ps_asg (pe_ix ix_seq (pe_lst (pa_cons (pe_op op_plus pe_int (pe_callZ I__law_draw hr (by decide) tk (pa_cons (pv 1) (pa_cons pe_int pa_nil)))) (pa_cons pe_int (pa_cons (pe_op op_plus pe_int (pe_callZ I__law_draw hr (by decide) tk (pa_cons (pv 1) (pa_cons pe_int pa_nil)))) pa_nil)))) (pe_callZ I__law_draw hr (by decide) tk (pa_cons (pv 1) (pa_cons pe_int pa_nil))) (fun _ _ => rfl)) (pg_name (i := 2) nd rfl (Or.inl rfl)))
    (pss_cons (ps_asg (pe_lc (own := [("k", 13)]) (g := (gName 13)) (tt := tYes) rfl nd (pi_range1 (by rfl) T.n_range (pa_cons (pv 2) pa_nil)) (blkOk_by (own := [("k", 13)]) (N := N_law) (sc := defScope s_law) (by decide +kernel)) (fun _ _ _ _ _ => (pg_name (i := 13) nd rfl (Or.inl rfl))) (fun _ _ _ _ _ => pts_nil) (fun _ _ _ _ _ => (pe_cmpR (op_same hr.units) (pe_callZ I__law_draw hr (by decide) takes0 (pa_cons (pv 1) (pa_cons pe_int pa_nil))) pe_int (nomark _)))) (pg_name (i := 3) nd rfl (Or.inr rfl)))
    (pss_cons (ps_asg (pe_lc (own := [("k", 13)]) (g := (gName 13)) (tt := tYes) rfl nd (pi_range1 (by rfl) T.n_range (pa_cons (pv 2) pa_nil)) (blkOk_by (own := [("k", 13)]) (N := N_law) (sc := defScope s_law) (by decide +kernel)) (fun _ _ _ _ _ => (pg_name (i := 13) nd rfl (Or.inl rfl))) (fun _ _ _ _ _ => pts_nil) (fun _ _ _ _ _ => (pe_cmpR (op_same hr.units) (pe_callZ I__law_draw hr (by decide) takes0 (pa_cons (pv 1) (pa_cons pe_int pa_nil))) pe_int (nomark _)))) (pg_name (i := 4) nd rfl (Or.inr rfl)))
    (pss_cons (ps_if (pt_cmpR (op_same hr.units) (pe_callZ I__law_draw hr (by decide) tk (pa_cons (pv 1) (pa_cons pe_int pa_nil))) pe_int (nomark _)) (pss_one (ps_asg (pe_lc (own := [("k", 13)]) (g := (gName 13)) (tt := tYes) rfl nd (pi_range1 (by rfl) T.n_range (pa_cons (pv 2) pa_nil)) (blkOk_by (own := [("k", 13)]) (N := N_law) (sc := defScope s_law) (by decide +kernel)) (fun _ _ _ _ _ => (pg_name (i := 13) nd rfl (Or.inl rfl))) (fun _ _ _ _ _ => pts_nil) (fun _ _ _ _ _ => (pe_or (pe_ix ix_seq (pv 3) (pv 13) (fun _ _ => rfl)) (pe_one (pe_ix ix_seq (pv 4) (pv 13) (fun _ _ => rfl)))))) (pg_name (i := 4) nd rfl (Or.inr rfl)))) pss_nil)
    (pss_cons (ps_if (pt_cmpR (op_same hr.units) (pe_callZ I__law_draw hr (by decide) tk (pa_cons (pv 1) (pa_cons pe_int pa_nil))) pe_int (nomark _)) (pss_one (ps_asg (pe_op op_plus (pe_slice sl_list (pv 4) (po_some pe_int) po_none) (pe_ifExp (PW.pt (pw_or (pt_cmpR op_less (pv 2) pe_int (nomark _)) (pw_or1 (pt_cmpR (op_same hr.units) (pe_slice sl_list (pv 4) (po_some pe_int) po_none) (pe_lst pa_nil) (nomark _))))) (pe_lst (pa_cons pe_bl (pa_cons pe_bl pa_nil))) (pe_lst pa_nil))) (pg_name (i := 4) nd rfl (Or.inr rfl)))) pss_nil)
    (pss_cons (ps_asg (pe_callZ I__law_marks hr (by decide) tk (pa_cons (pv 3) pa_nil)) (pg_name (i := 5) nd rfl (Or.inl rfl)))
    (pss_cons (ps_asg (pe_callZ I__law_marks hr (by decide) tk (pa_cons (pv 4) pa_nil)) (pg_name (i := 6) nd rfl (Or.inl rfl)))
    (pss_cons (ps_asg (pe_and (pe_cmpR (op_same hr.units) (pe_callB TP.cr_len (by rfl) T.n_len (by decide +kernel) (pa_cons (pv 3) pa_nil)) (pe_callB TP.cr_len (by rfl) T.n_len (by decide +kernel) (pa_cons (pv 4) pa_nil)) (nomark _)) (pe_one (pe_cmpR (op_same hr.units) (pe_lc (own := [("k", 13)]) (g := (gName 13)) (tt := (tAnd (tB (tOp (rIx K) (tVar 3) (tVar 13))) (tNot (tB (tOp (rIx K) (tVar 4) (tVar 13)))))) rfl nd (pi_range1 (by rfl) T.n_range (pa_cons (pe_callB TP.cr_len (by rfl) T.n_len (by decide +kernel) (pa_cons (pv 3) pa_nil)) pa_nil)) (blkOk_by (own := [("k", 13)]) (N := N_law) (sc := defScope s_law) (by decide +kernel)) (fun _ _ _ _ _ => (pg_name (i := 13) nd rfl (Or.inl rfl))) (fun _ _ _ _ _ => (pts_one (PW.pt (pw_and (pt_val (pe_ix ix_seq (pv 3) (pv 13) (fun _ _ => rfl))) (pw_and1 (pt_not (pt_val (pe_ix ix_seq (pv 4) (pv 13) (fun _ _ => rfl))))))))) (fun _ _ _ _ _ => (pv 13))) (pe_lst pa_nil) (nomark _)))) (pg_name (i := 7) nd rfl (Or.inl rfl)))
    (pss_cons (ps_if (PW.pt (pw_or (pt_cmpR (op_unlike hr.units) (pe_cmpS (op_cmpO I_MarksU_leU rfl (fun _ _ => rfl) hr (by decide) tk) (pv 5) (pv 6) (nomark _)) (pv 7) (nomark _)) (pw_or1 (pt_cmpR (op_unlike hr.units) (pe_cmpS (op_cmpO I_MarksU_eqU rfl (fun _ _ => rfl) hr (by decide) tk) (pv 5) (pv 6) (nomark _)) (pe_cmpR (op_same hr.units) (pv 3) (pv 4) (nomark _)) (nomark _))))) (pss_one (ps_ret pe_bl)) pss_nil)
    (pss_cons (ps_if (pt_cmpR (op_unlike hr.units) (pe_callB TP.cr_len (by rfl) T.n_len (by decide +kernel) (pa_cons (pv 3) pa_nil)) (pe_callB TP.cr_len (by rfl) T.n_len (by decide +kernel) (pa_cons (pv 4) pa_nil)) (nomark _)) (pss_cons (ps_for po rfl (pi_range1 (by rfl) T.n_range (pa_cons pe_int pa_nil)) (pg_name (i := 8) nd rfl (Or.inl rfl)) (pss_one (ps_if (PW.pt (pw_or (pt_cmpR (op_unlike hr.units) (pe_callZ I__law_refused hr (by decide) tk (pa_cons (pv 5) (pa_cons (pv 6) (pa_cons (pv 8) pa_nil)))) (pe_lst (pa_cons pe_non (pa_cons pe_bl (pa_cons pe_bl pa_nil)))) (nomark _)) (pw_or1 (pt_cmpR (op_unlike hr.units) (pe_callZ I__law_truths hr (by decide) tk (pa_cons (pv 5) pa_nil)) (pv 3) (nomark _))))) (pss_one (ps_ret pe_bl)) pss_nil)))
    (pss_one (ps_ret (pe_and (pe_cmpR (op_same hr.units) (pe_callZ I__law_truths hr (by decide) tk (pa_cons (pv 6) pa_nil)) (pv 4) (nomark _)) (pe_and (pe_not (pe_cmpS (op_cmpO I_MarksU_leU rfl (fun _ _ => rfl) hr (by decide) tk) (pv 5) (pv 6) (nomark _))) (pe_one (pe_cmpS (op_neO I_MarksU_eqU T.c_Marks hr (by decide) tk) (pv 5) (pv 6) (nomark _)))))))) pss_nil)
    (pss_cons (ps_setLc (i := 9) (own := [("k", 13)]) (g := (gName 13)) (tt := tYes) rfl nd rfl rfl (sw_true rfl rfl rfl (by decide +kernel)) (pi_range1 (by rfl) T.n_range (pa_cons (pv 2) pa_nil)) (blkOk_by (own := [("k", 13)]) (N := N_law) (sc := defScope s_law) (by decide +kernel)) (fun _ _ _ _ _ => (pg_name (i := 13) nd rfl (Or.inl rfl))) (fun _ _ _ _ _ => pts_nil) (fun _ _ _ _ _ => (pe_or (pe_ix ix_seq (pv 3) (pv 13) (fun _ _ => rfl)) (pe_one (pe_ix ix_seq (pv 4) (pv 13) (fun _ _ => rfl))))))
    (pss_cons (ps_setLc (i := 10) (own := [("k", 13)]) (g := (gName 13)) (tt := tYes) rfl nd rfl rfl (sw_true rfl rfl rfl (by decide +kernel)) (pi_range1 (by rfl) T.n_range (pa_cons (pv 2) pa_nil)) (blkOk_by (own := [("k", 13)]) (N := N_law) (sc := defScope s_law) (by decide +kernel)) (fun _ _ _ _ _ => (pg_name (i := 13) nd rfl (Or.inl rfl))) (fun _ _ _ _ _ => pts_nil) (fun _ _ _ _ _ => (pe_and (pe_ix ix_seq (pv 3) (pv 13) (fun _ _ => rfl)) (pe_one (pe_ix ix_seq (pv 4) (pv 13) (fun _ _ => rfl))))))
    (pss_cons (ps_asg (pe_opS (op_binO I_MarksU_orU rfl T.c_Marks hr (by decide) tk) (pv 5) (pv 6)) (pg_name (i := 11) nd rfl (Or.inl rfl)))
    (pss_cons (ps_asg (pe_opS (op_binO I_MarksU_andU rfl T.c_Marks hr (by decide) tk) (pv 5) (pv 6)) (pg_name (i := 12) nd rfl (Or.inl rfl)))
    (pss_cons (ps_if (PW.pt (pw_or (pt_cmpR (op_unlike hr.units) (pe_callZ I__law_truths hr (by decide) tk (pa_cons (pv 11) pa_nil)) (pv 9) (nomark _)) (pw_or (pt_cmpR (op_unlike hr.units) (pe_callZ I__law_truths hr (by decide) tk (pa_cons (pv 12) pa_nil)) (pv 10) (nomark _)) (pw_or1 (pt_cmpR (op_unlike hr.units) (pe_callZ I__law_truths hr (by decide) tk (pa_cons (pv 5) pa_nil)) (pv 3) (nomark _)))))) (pss_one (ps_ret pe_bl)) pss_nil)
    (pss_cons (ps_asg (pe_not (pe_ix ix_seq (pv 9) pe_int (fun _ _ => rfl))) (pg_setZ I_MarksU_setitemU T.c_Marks hr (by decide) tk (pv 11) pe_int))
    (pss_cons (ps_if (PW.pt (pw_or (pt_cmpR (op_unlike hr.units) (pe_callZ I__law_truths hr (by decide) tk (pa_cons (pv 5) pa_nil)) (pv 3) (nomark _)) (pw_or (pt_cmpR (op_unlike hr.units) (pe_callZ I__law_truths hr (by decide) tk (pa_cons (pv 6) pa_nil)) (pv 4) (nomark _)) (pw_or (pt_not (pt_cmpS (op_cmpO I_MarksU_leU rfl (fun _ _ => rfl) hr (by decide) tk) (pv 12) (pv 5) (nomark _))) (pw_or1 (pt_not (pt_cmpS (op_cmpO I_MarksU_leU rfl (fun _ _ => rfl) hr (by decide) tk) (pv 5) (pe_opS (op_binO I_MarksU_orU rfl T.c_Marks hr (by decide) tk) (pv 5) (pv 6)) (nomark _)))))))) (pss_one (ps_ret pe_bl)) pss_nil)
    (pss_one (ps_ret (pe_callZ I__law_in_place hr (by decide) tk (pa_cons (pv 5) (pa_cons (pv 6) (pa_cons (pv 3) (pa_cons (pv 4) (pa_cons (pv 9) (pa_cons (pv 10) pa_nil)))))))))))))))))))))))))))
end
end Law

namespace Law
open PySem PySem.Spec PyProof.Rows L2 TP
section
variable {P : Program} {w : World} {K : PySem.W.Frag} {mg : Str → Option Value} {base : Heap}
local macro_rules | `(tactic| walk_at "step") => `(tactic| first
  | with_reducible refine go_seq ?_ | with_reducible refine go_asg ?_ | with_reducible refine go_name ?_ | with_reducible refine go_ret ?_ | with_reducible refine go_retN ?_ | with_reducible refine go_ifS ?_
  | ((with_reducible refine' go_var ?gv ?_); (case gv => first | rfl | assumption)) | with_reducible refine go_c ?_ | with_reducible refine go_op ?_ | with_reducible refine go_un ?_ | with_reducible refine go_nil ?_ | with_reducible refine go_cons ?_
  | with_reducible refine go_tup ?_ | with_reducible refine go_lst ?_ | with_reducible refine go_call ?_ | with_reducible refine go_cb ?_ | with_reducible refine go_bm ?_ | with_reducible refine go_m1 ?_ | with_reducible refine go_sl ?_
  | with_reducible refine go_nopart ?_ | with_reducible refine go_part ?_ | with_reducible refine go_notV ?_ | with_reducible refine go_andV ?_ | with_reducible refine go_orV ?_ | with_reducible refine go_ifE ?_
  | with_reducible refine go_test ?_ | with_reducible refine go_B ?_ | with_reducible refine go_tru ?_ | with_reducible refine go_and ?_ | with_reducible refine go_or ?_ | with_reducible refine go_not ?_ | with_reducible refine go_yes ?_
  | with_reducible refine go_bl ?_ | with_reducible refine go_intx ?_ | with_reducible refine go_strx ?_ | with_reducible refine go_next ?_ | with_reducible refine go_gsub ?_ | with_reducible refine go_drop ?_
  | ((with_reducible refine' go_aug ?gv ?_); (case gv => first | rfl | assumption)) | with_reducible refine go_ipI ?_ | with_reducible refine go_T ?_ | with_reducible refine go_F ?_ | with_reducible refine go_nT ?_ | with_reducible refine go_nF ?_
  | with_reducible refine go_plusI ?_ | with_reducible refine go_minus ?_ | with_reducible refine go_less ?_ | with_reducible refine go_leq ?_ | with_reducible refine go_more ?_ | with_reducible refine go_geq ?_ | with_reducible refine go_neg ?_
  | with_reducible refine go_isno ?_ | with_reducible refine go_isntno ?_ | with_reducible refine go_sameI ?_ | with_reducible refine go_sameB ?_ | with_reducible refine go_unB ?_ | with_reducible refine go_sameS ?_ | with_reducible refine go_unI ?_ | with_reducible refine go_unS ?_
  | with_reducible refine go_callZ ?_ | with_reducible refine go_methZ ?_ | with_reducible refine go_new ?_ | with_reducible refine go_getF ?_ | with_reducible refine go_setF ?_ | with_reducible refine go_opS ?_ | with_reducible refine go_gsubS ?_
  | ((with_reducible refine' go_augZ ?gv ?_); (case gv => first | rfl | assumption)) | with_reducible refine go_cbS ?_ | with_reducible refine go_raise ?_ | with_reducible refine go_try ?_ | with_reducible refine go_ienum ?_ | with_reducible refine go_izip ?_
  | with_reducible refine go_xf ?_ | with_reducible refine go_chain ?_ | with_reducible refine go_augS ?_ | with_reducible refine go_rs ?_
  | with_reducible refine go_int1 ?_ | with_reducible refine go_lc ?_ | with_reducible refine go_for ?_ | with_reducible refine go_ilist ?_ | with_reducible refine go_itup ?_ | with_reducible refine go_irng1 ?_ | with_reducible refine go_irng2 ?_)
local macro_rules | `(tactic| walk_at "go") => `(tactic| repeat walk_at "step")
local macro_rules | `(tactic| walk_at "at") => `(tactic| first
  | ((with_reducible refine' at_get ?oh ?ol ?_); (case oh => walk_at "rd"); (case ol => rfl))
  | ((with_reducible refine' at_meth ?oh ?ol ?_); (case oh => walk_at "rd"); (case ol => rfl))
  | ((with_reducible refine' at_set ?oh ?ol ?_); (case oh => walk_at "rd"); (case ol => decide)))
local macro_rules | `(tactic| walk_at "on") => `(tactic| (walk_at "go"; repeat (walk_at "at"; walk_at "go")))
local macro_rules | `(tactic| walk_at "rd") => `(tactic| first
  | assumption
  | exact upd_same
  | (refine Same.new (by assumption) _ _ ?_; walk_at "rd")
  | (refine (by assumption : Same _ _) _ _ ?_; walk_at "rd"))
local macro_rules | `(tactic| walk_at "st") => `(tactic| repeat (first | with_reducible refine go_seq ?_ | with_reducible refine go_name ?_ | with_reducible refine go_next ?_ | with_reducible refine go_plusI ?_ | with_reducible refine go_T ?_ | with_reducible refine go_F ?_))
local macro_rules | `(tactic| walk_at "len") => `(tactic| (intro vs H Q E h; (repeat (obtain ⟨_, h⟩ := h)); all_goals (subst_vars; rfl)))

/-! ### the pot: what is drawn from, and all that stands beside it (R) -/
def PotAt (pot : Addr) (R H : Hp) : Prop := ∃ (c : Addr) (cs : List Int) (pl sd : Int), H pot = some (.lst [.ref c, .int pl, .int sd]) ∧ H c = some (.lst (cs.map V.int)) ∧ 0 ≤ pl ∧ cs.length ≤ 63 ∧ R pot = none ∧ R c = none ∧ Same R H
theorem PotAt.same {pot : Addr} {R H : Hp} (h : PotAt pot R H) : Same R H := by
  obtain ⟨_, _, _, _, _, _, _, _, _, _, s⟩ := h
  exact s
/-- the heap has grown: so may what is known beside the pot -/
theorem PotAt.grow {pot : Addr} {R H H1 : Hp} (h : PotAt pot R H) (e : Same H H1) : ∃ R1, PotAt pot R1 H1 ∧ Same R R1 ∧ ∀ a o, H a = none → H1 a = some o → R1 a = some o := by
  obtain ⟨c, cs, pl, sd, h1, h2, h3, h4, r1, r2, s⟩ := h
  refine ⟨fun a => if a = pot ∨ a = c then none else H1 a, ⟨c, cs, pl, sd, e _ _ h1, e _ _ h2, h3, h4, if_pos (.inl rfl), if_pos (.inr rfl), fun a o q => ?_⟩, fun a o q => ?_, fun a o q q1 => ?_⟩
  · by_cases z : a = pot ∨ a = c
    · simp [z] at q
    · simpa [z] using q
  · have z : ¬ (a = pot ∨ a = c) := by
      rintro (z | z)
      · rw [z, r1] at q; cases q
      · rw [z, r2] at q; cases q
    show (if a = pot ∨ a = c then none else H1 a) = _
    rw [if_neg z]
    exact e _ _ (s _ _ q)
  · have z : ¬ (a = pot ∨ a = c) := by
      rintro (z | z)
      · rw [z, h1] at q; cases q
      · rw [z, h2] at q; cases q
    show (if a = pot ∨ a = c then none else H1 a) = _
    rw [if_neg z]
    exact q1
/-- less may be known -/
theorem PotAt.less {pot : Addr} {R R' H : Hp} (h : PotAt pot R H) (e : Same R' R) : PotAt pot R' H := by
  obtain ⟨c, cs, pl, sd, h1, h2, h3, h4, r1, r2, s⟩ := h
  exact ⟨c, cs, pl, sd, h1, h2, h3, h4, e.free r1, e.free r2, e.trans s⟩
def sp_pot (K : PySem.W.Frag) : Sp := fun vs H Q _ => ∃ (a : Addr) (ns : List Int), vs = [.ref a] ∧ SqL K H a (ns.map V.int) ∧ ∀ (p : Addr) (H' : Hp), H p = none → Same H H' → PotAt p H H' → Q (.ref p) H'
def sp_draw : Sp := fun vs H Q _ => ∃ (pot : Addr) (many : Int) (R : Hp), vs = [.ref pot, .int many] ∧ 0 < many ∧ many < 2 ^ 64 ∧ PotAt pot R H ∧ ∀ (r : Int) (H' : Hp), 0 ≤ r → r < many → PotAt pot R H' → Q (.int r) H'

theorem pu_pot {H : Hp} {vs : List V} {Q : VK} {E : XK} (h : sp_pot K vs H Q E) : t__law_pot K (wOut E) { nx := fun _ H' => Q .non H', rt := Q } (start N__law_pot vs) H := by
  obtain ⟨a, ns, rfl, hS, k⟩ := h
  unfold t__law_pot
  walk_at "go"
  refine go_slL hS fun q hq => go_seqAt (SqL.of upd_same) fun D hD => ?_
  have e0 : Same H (upd H q (.lst (cutV (ns.map V.int) none (some 63)))) := Same.new hq
  have cut : cutV (ns.map V.int) none (some 63) = (ns.take 63).map V.int := by
    rw [cut_take (by decide), ← List.map_take]
    rfl
  rw [cut] at e0 hD ⊢
  refine lcr_list (fun _ => true) id (SqL.of upd_same) hD (by rw [List.length_map, List.length_take]; omega) (fun x hx => ?_) fun H1 s1 hD1 => ?_
  · obtain ⟨z, _, rfl⟩ := List.mem_map.mp hx
    intro H' A acc Nx s hA hH hl k
    walk_at "go"
    refine ⟨rfl, ?_⟩
    walk_at "go"
    exact ⟨acc, hH, hl, k H' (Same.refl _)⟩
  · rw [List.map_id, List.filter_eq_self.mpr fun _ _ => rfl] at hD1
    walk_at "go"
    refine ⟨by show 3 ≤ sizeLine; decide, fun p hp => ?_⟩
    have s2 := (e0.trans s1).trans (Same.new (o := .lst [.ref D, .int 0, .int 7]) hp)
    have hDH : H D = none := e0.free hD
    have hpH : H p = none := (e0.trans s1).free hp
    exact k p _ hpH s2 ⟨D, ns.take 63, 0, 7, upd_same, by rw [upd_ne (ne_of_none hD1 hp)]; exact hD1, by decide, by rw [List.length_take]; omega, hpH, hDH, s2⟩
theorem big_mod {i m : Int} (h : 0 < m) : 0 ≤ i % m ∧ i % m < m := ⟨Int.emod_nonneg _ (by omega), Int.emod_lt_of_pos _ h⟩
theorem wide64 {i m : Int} (h : 0 < m) (h2 : m < 2 ^ 64) : CDivW i m := wide_div (b := 64) h (by omega) (by decide) (by decide)
theorem pu_draw {H : Hp} {vs : List V} {Q : VK} {E : XK} (h : sp_draw vs H Q E) : t__law_draw K (wOut E) { nx := fun _ H' => Q .non H', rt := Q } (start N__law_draw vs) H := by
  obtain ⟨pot, many, R, rfl, m0, m1, ⟨c, cs, pl, sd, h1, h2, h3, h4, r1, r2, s⟩, k⟩ := h
  have npc : pot ≠ c := fun z => by
    rw [z, h2] at h1
    have := HO.lst.inj (Option.some.inj h1)
    cases cs with
    | nil => cases this
    | cons a r => cases this
  -- the end, from whatever cell: pot[2] is put, a number is told
  have fin : ∀ (σ : L2.St) (H' : Hp) (cell pl' : Int) (cs' : List Int), σ[0]? = some (some (.ref pot)) → σ[1]? = some (some (.int many)) → σ[4]? = some (some (.int cell)) → H' pot = some (.lst [.ref c, .int pl', .int sd]) → H' c = some (.lst (cs'.map V.int)) → 0 ≤ pl' → cs'.length ≤ 63 → Same R H' →
      tSeq (tAsg (tOp rRest (tCB rInt1 (tCons (tOp rPlus (tOp rPlus (tOp rTimes (tOp (rIx K) (tVar 0) (tC (.int 2))) (tC (.int 48271))) (tOp rTimes (tVar 4) (tC (.int 69621)))) (tC (.int 11))) tNil)) (tC (.int 2147483647))) (gSub (tVar 0) (tC (.int 2)) rSetL))
        (tRet (tOp rRest (tCB rInt1 (tCons (tOp rPlus (tOp rQuot (tOp rTimes (tOp (rIx K) (tVar 0) (tC (.int 2))) (tC (.int 16807))) (tC (.int 128))) (tOp (rIx K) (tVar 0) (tC (.int 2)))) tNil)) (tVar 1))) { nx := fun _ H' => Q .non H', rt := Q } σ H' := by
    intro σ H' cell pl' cs' v0 v1 v4 g1 g2 g3 g4 gs
    have small : ∀ {i j : Int}, -(2 ^ 64) < j → j < 2 ^ 64 → CMul i j := fun a b => .inr ⟨a, b⟩
    walk_at "go"
    refine go_ixL (SqL.of g1) rfl ?_
    walk_at "go"
    refine go_times (small (by decide) (by decide)) ?_
    walk_at "go"
    refine go_times (small (by decide) (by decide)) ?_
    walk_at "go"
    refine go_rest (by decide) ?_
    walk_at "go"
    refine go_setL g1 (m := 2) rfl ?_
    walk_at "go"
    refine go_ixL (SqL.of upd_same) rfl ?_
    walk_at "go"
    refine go_times (small (by decide) (by decide)) ?_
    walk_at "go"
    refine go_quot (wide64 (by decide) (by decide)) ?_
    walk_at "go"
    refine go_ixL (SqL.of upd_same) rfl ?_
    walk_at "go"
    refine go_rest m0 ?_
    refine k _ _ (big_mod m0).1 (big_mod m0).2 ⟨c, cs', pl', _, upd_same, by rw [upd_ne npc.symm]; exact g2, g3, g4, r1, r2, fun a o q => ?_⟩
    rw [upd_ne (fun z => by rw [z, r1] at q; cases q)]
    exact gs a o q
  unfold t__law_draw
  walk_at "go"
  refine go_ixL (SqL.of h1) rfl ?_
  walk_at "go"
  refine go_ixL (SqL.of h1) rfl ?_
  walk_at "go"
  refine go_lenL (SqL.of h2) ?_
  walk_at "go"
  rw [List.length_map]
  refine ite2 (fun q => ?_) (fun q => ?_)
  · have q1 : pl < (cs.length : Int) := of_decide_eq_true q
    obtain ⟨z, hz⟩ : ∃ z, cs[pl.toNat]? = some z := ⟨_, List.getElem?_eq_getElem (by omega)⟩
    have hz' : (cs.map V.int)[pl.toNat]? = some (.int z) := by rw [List.getElem?_map, hz]; rfl
    have hat : atI (cs.map V.int) pl = some (.int z) := by
      have := atI_nat (xs := cs.map V.int) (j := pl.toNat) hz'
      rwa [Int.toNat_of_nonneg h3] at this
    walk_at "go"
    refine go_ixL (SqL.of h2) hat ?_
    walk_at "go"
    refine go_pow ⟨by decide, by decide, by decide⟩ ?_
    walk_at "go"
    refine ite2 (fun q2 => ?_) (fun q2 => ?_)
    · walk_at "go"
      refine go_quot (wide64 m0 m1) ?_
      walk_at "go"
      refine go_setL (m := pl.toNat) h2 ?_ ?_
      · rw [List.length_map]
        unfold ixN
        rw [if_pos h3, if_pos q1]
      walk_at "go"
      refine go_rest m0 ?_
      refine k _ _ (big_mod m0).1 (big_mod m0).2 ⟨c, cs.set pl.toNat (z / many), pl, sd, by rw [upd_ne npc]; exact h1, ?_, h3, by rw [List.length_set]; exact h4, r1, r2, fun a o q => ?_⟩
      · rw [upd_same, List.map_set]
      · rw [upd_ne (fun z => by rw [z, r2] at q; cases q)]
        exact s a o q
    · walk_at "go"
      refine go_setL (m := 1) h1 rfl ?_
      refine fin _ _ z (pl + 1) cs ?_ ?_ ?_ upd_same (by rw [upd_ne npc.symm]; exact h2) (by omega) h4 fun a o q => ?_
      any_goals rfl
      rw [upd_ne (fun z => by rw [z, r1] at q; cases q)]
      exact s a o q
  · refine go_next ?_
    refine fin _ _ 0 pl cs ?_ ?_ ?_ h1 h2 h3 h4 s <;> rfl

/-- an object beside the pot is changed -/
theorem PotAt.put {pot p : Addr} {R H : Hp} {o o' : HO} (h : PotAt pot R H) (hp : R p = some o) : PotAt pot (upd R p o') (upd H p o') := by
  obtain ⟨c, cs, pl, sd, h1, h2, h3, h4, r1, r2, s⟩ := h
  have n1 : pot ≠ p := fun z => by rw [z, hp] at r1; cases r1
  have n2 : c ≠ p := fun z => by rw [z, hp] at r2; cases r2
  refine ⟨c, cs, pl, sd, by rw [upd_ne n1]; exact h1, by rw [upd_ne n2]; exact h2, h3, h4, by rw [upd_ne n1]; exact r1, by rw [upd_ne n2]; exact r2, fun a u e => ?_⟩
  by_cases z : a = p
  · subst z; rw [upd_same] at e ⊢; exact e
  · rw [upd_ne z] at e ⊢; exact s _ _ e
/-- a comprehension whose turns draw -/
theorem lcr_draws {pot D : Addr} {R H : Hp} {Q : VK} {lo : Int} {n : Nat} {g : TG} {te : TE} {ns : List Nat} {σ : L2.St} (P : V → Prop) (hp : PotAt pot R H) (hD : H D = none) (hn : n ≤ 100000)
    (turn : ∀ (k : Nat) (R' H' : Hp) (acc : List V) (Nx : Hp → Prop), k < n → PotAt pot R' H' → Same R R' → R' D = some (.lst acc) → acc.length < sizeLine → (∀ v R2 H2, P v → PotAt pot R2 H2 → Same R R2 → R2 D = some (.lst acc) → Nx (upd H2 D (.lst (acc ++ [v])))) →
      g (.int (lo + k)) (wipe σ ns) H' fun σ2 H2 => wipe σ2 ns = wipe σ ns ∧ te σ2 H2 fun y H4 => ∃ acc, H4 D = some (.lst acc) ∧ acc.length < sizeLine ∧ Nx (upd H4 D (.lst (acc ++ [y]))))
    (q : ∀ (vs : List V) (R' H' : Hp), vs.length = n → (∀ v ∈ vs, P v) → PotAt pot R' H' → Same R R' → R' D = some (.lst vs) → Q (.ref D) H') : LcR (Itr lo n) g tYes te ns σ H D Q := by
  have hRD : R D = none := hp.same.free hD
  refine lc_range (lo := lo) (n := n) (fun i H1 => ∃ (vs : List V) (R1 : Hp), vs.length = i ∧ (∀ v ∈ vs, P v) ∧ PotAt pot R1 H1 ∧ Same R R1 ∧ R1 D = some (.lst vs)) ?_ (fun i H1 hi ⟨vs, R1, l1, p1, t1, s1, d1⟩ => ?_) fun H1 ⟨vs, R1, l1, p1, t1, s1, d1⟩ => q vs R1 H1 l1 p1 t1 s1 d1
  · obtain ⟨R1, t1, s1, n1⟩ := hp.grow (Same.new (o := .lst []) hD)
    exact ⟨[], R1, rfl, fun v hv => absurd hv List.not_mem_nil, t1, s1, n1 _ _ hD upd_same⟩
  · have key := turn i R1 H1 vs (fun H2 => ∃ (vs' : List V) (R2 : Hp), vs'.length = i + 1 ∧ (∀ v ∈ vs', P v) ∧ PotAt pot R2 H2 ∧ Same R R2 ∧ R2 D = some (.lst vs')) hi t1 s1 d1 (sz1000l (by omega)) fun v R2 H2 hv t2 s2 d2 => ?_
    · exact key
    · refine ⟨vs ++ [v], upd R2 D (.lst (vs ++ [v])), by rw [List.length_append, l1]; rfl, fun u hu => ?_, t2.put d2, fun a o e => ?_, upd_same⟩
      · rcases List.mem_append.mp hu with hu | hu
        · exact p1 u hu
        · rw [List.mem_singleton.mp hu]; exact hv
      · rw [upd_ne (fun z => by rw [z, hRD] at e; cases e)]
        exact s2 _ _ e
theorem bls_of : ∀ {vs : List V}, (∀ v ∈ vs, ∃ b, v = V.bl b) → ∃ bs : List Bool, vs = bs.map V.bl
  | [], _ => ⟨[], rfl⟩
  | v :: vs, h => by
    obtain ⟨b, rfl⟩ := h v List.mem_cons_self
    obtain ⟨bs, rfl⟩ := bls_of fun u hu => h u (List.mem_cons_of_mem _ hu)
    exact ⟨b :: bs, rfl⟩

/-! ### what raises, what changes -/
/-- an error of class C with v in its field leaves: nothing else has changed -/
def Rz (C : Addr) (f : Str) (v : V) (H : Hp) (E : XK) : Prop := ∀ (H' : Hp) (d : Addr), Same H H' → H' d = none → E (.ref C) (some d) (upd H' d (.xd [(f, v)]))
/-- all but the objects at S is kept -/
def Kept (S : List Addr) (H H' : Hp) : Prop := ∀ b o, b ∉ S → H b = some o → H' b = some o
theorem Kept.same {S : List Addr} {H H' H2 : Hp} (k : Kept S H H') (s : Same H' H2) : Kept S H H2 := fun b o n e => s _ _ (k b o n e)
theorem Same.kept {S : List Addr} {H H' : Hp} (s : Same H H') : Kept S H H' := fun b o _ e => s _ _ e
/-! ### Marks -/
def MkAt (C a l : Addr) (bs : List Bool) (H : Hp) : Prop := ∃ dx, H a = some (.ins C dx [("kept", .ref l)]) ∧ H l = some (.lst (bs.map V.bl))
theorem MkAt.same {C a l : Addr} {bs : List Bool} {H H' : Hp} (h : MkAt C a l bs H) (s : Same H H') : MkAt C a l bs H' := by
  obtain ⟨dx, h1, h2⟩ := h
  exact ⟨dx, s _ _ h1, s _ _ h2⟩
theorem MkAt.kept {C a l : Addr} {bs : List Bool} {S : List Addr} {H H' : Hp} (h : MkAt C a l bs H) (s : Kept S H H') (n1 : a ∉ S) (n2 : l ∉ S) : MkAt C a l bs H' := by
  obtain ⟨dx, h1, h2⟩ := h
  exact ⟨dx, s _ _ n1 h1, s _ _ n2 h2⟩
/-- new marks -/
def NewMk (C : Addr) (bs : List Bool) (H : Hp) (Q : VK) : Prop := ∀ (x l : Addr) (H' : Hp), H x = none → H l = none → Same H H' → MkAt C x l bs H' → Q (.ref x) H'
def sp_is_integer (K : PySem.W.Frag) : Sp := fun vs H Q _ => ∃ (v : V) (t : String), vs = [v] ∧ Kd K H v t ∧ Q (.bl (t == "int")) H
/-- v, of kind t, is a number of pages -/
def isMany (v : V) : Bool := match v with | .int i => decide (1 ≤ i) && decide (i ≤ 64) | _ => false
def isAt (n : Nat) (v : V) : Bool := match v with | .int i => decide (0 ≤ i) && decide (i < n) | _ => false
def sp_is_many (K : PySem.W.Frag) : Sp := fun vs H Q _ => ∃ (v : V) (t : String), vs = [v] ∧ Kd K H v t ∧ Q (.bl (isMany v)) H
def sp_Marks_Uinit (K : PySem.W.Frag) (C B : Addr) : Sp := fun vs H Q E => ∃ (a dx : Addr) (v tr : V) (t : String), vs = [.ref a, v, tr] ∧ H a = some (.ins C dx []) ∧ Kd K H v t ∧
  ((isMany v = false ∧ Rz B "at" v H E) ∨ (isMany v = true ∧ ∃ bs : List Bool, ((tr = .non ∧ ∃ i : Int, v = .int i ∧ bs = List.replicate i.toNat false) ∨ ∃ p, tr = .ref p ∧ SqL K H p (bs.map V.bl)) ∧
    ∀ (l : Addr) (H' : Hp), H l = none → Kept [a] H H' → MkAt C a l bs H' → Q .non H'))
def sp_marks_of (K : PySem.W.Frag) (C : Addr) : Sp := fun vs H Q _ => ∃ (p : Addr) (bs : List Bool), vs = [.ref p] ∧ SqL K H p (bs.map V.bl) ∧ 1 ≤ bs.length ∧ bs.length ≤ 64 ∧ NewMk C bs H Q
def sp_Marks_check (K : PySem.W.Frag) (C B : Addr) : Sp := fun vs H Q E => ∃ (a l : Addr) (bs : List Bool) (v : V) (t : String), vs = [.ref a, v] ∧ MkAt C a l bs H ∧ Kd K H v t ∧
  ((isAt bs.length v = true ∧ Q .non H) ∨ (isAt bs.length v = false ∧ Rz B "at" v H E))
def sp_Marks_check_mate (C B : Addr) : Sp := fun vs H Q E => ∃ (a l b m : Addr) (bs cs : List Bool), vs = [.ref a, .ref b] ∧ MkAt C a l bs H ∧ MkAt C b m cs H ∧ (if bs.length = cs.length then Q .non H else Rz B "at" .non H E)
def sp_Marks_Ulen (C : Addr) : Sp := fun vs H Q _ => ∃ (a l : Addr) (bs : List Bool), vs = [.ref a] ∧ MkAt C a l bs H ∧ Q (.int bs.length) H
def sp_Marks_Ugetitem (K : PySem.W.Frag) (C B : Addr) : Sp := fun vs H Q E => ∃ (a l : Addr) (bs : List Bool) (v : V) (t : String), vs = [.ref a, v] ∧ MkAt C a l bs H ∧ Kd K H v t ∧
  ((∃ (i : Nat) (b : Bool), v = .int i ∧ bs[i]? = some b ∧ Q (.bl b) H) ∨ (isAt bs.length v = false ∧ Rz B "at" v H E))
def sp_Marks_Usetitem (K : PySem.W.Frag) (C B : Addr) : Sp := fun vs H Q E => ∃ (a l : Addr) (bs : List Bool) (v u : V) (t t' : String), vs = [.ref a, v, u] ∧ MkAt C a l bs H ∧ Kd K H v t ∧ Kd K H u t' ∧
  ((∃ (i : Nat) (b : Bool), v = .int i ∧ i < bs.length ∧ u = .bl b ∧ Q .non (upd H l (.lst ((bs.set i b).map V.bl)))) ∨ (isAt bs.length v = true ∧ t' ≠ "bool" ∧ Rz B "at" .non H E) ∨ (isAt bs.length v = false ∧ Rz B "at" v H E))
/-- two marks joined or cut -/
def sp_both (C B : Addr) (f : Bool → Bool → Bool) : Sp := fun vs H Q E => ∃ (a l b m : Addr) (bs cs : List Bool), vs = [.ref a, .ref b] ∧ MkAt C a l bs H ∧ MkAt C b m cs H ∧ 1 ≤ bs.length ∧ bs.length ≤ 64 ∧
  (if bs.length = cs.length then NewMk C (List.zipWith f bs cs) H Q else Rz B "at" .non H E)
/-- .. in place -/
def sp_ip (C B : Addr) (f : Bool → Bool → Bool) : Sp := fun vs H Q E => ∃ (a l b m : Addr) (bs cs : List Bool), vs = [.ref a, .ref b] ∧ MkAt C a l bs H ∧ MkAt C b m cs H ∧ bs.length ≤ 64 ∧
  (if bs.length = cs.length then ∀ (l' : Addr) (H' : Hp), H l' = none → Kept [a] H H' → MkAt C a l' (List.zipWith f bs cs) H' → Q (.ref a) H' else Rz B "at" .non H E)
def inside (bs cs : List Bool) : Bool := decide (bs.length = cs.length) && (List.zipWith (fun x y => y || !x) bs cs).all id
def sp_Marks_Ule (C : Addr) : Sp := fun vs H Q _ => ∃ (a l b m : Addr) (bs cs : List Bool), vs = [.ref a, .ref b] ∧ MkAt C a l bs H ∧ MkAt C b m cs H ∧ bs.length ≤ 64 ∧ ∀ H', Same H H' → Q (.bl (inside bs cs)) H'
def sp_Marks_Ueq (K : PySem.W.Frag) (C : Addr) : Sp := fun vs H Q _ => ∃ (a l : Addr) (bs : List Bool) (y : V), vs = [.ref a, y] ∧ MkAt C a l bs H ∧ bs.length ≤ 64 ∧
  ((∃ (b m : Addr) (cs : List Bool), y = .ref b ∧ MkAt C b m cs H ∧ cs.length ≤ 64 ∧ Q (.bl (decide (bs = cs))) H) ∨ ((∃ t, TyX K H y t ∧ PySem.W.kitOne K t (.ref C) = some false) ∧ Q (.bl false) H))

section
variable {H : Hp} {vs : List V} {Q : VK} {E : XK} {C B : Addr}
abbrev dn (Q : VK) : Ends := { nx := fun _ H' => Q .non H', rt := Q }
theorem pu_is_integer (h : sp_is_integer K vs H Q E) : t_is_integer K (wOut E) (dn Q) (start N_is_integer vs) H := by
  obtain ⟨v, t, rfl, hk, q⟩ := h
  unfold t_is_integer
  walk_at "go"
  refine go_isiK hk (by decide) ?_
  walk_at "go"
  have hm := hk.2
  refine ite2 (fun c => ?_) (fun c => ?_)
  · walk_at "go"
    refine go_isiK hk (by decide) ?_
    walk_at "go"
    have e : (!isK t "bool") = (t == "int") := by
      simp only [kinds, List.mem_cons, List.not_mem_nil, or_false] at hm
      rcases hm with rfl | rfl | rfl | rfl | rfl | rfl | rfl | rfl <;> first | rfl | (exact absurd c (by decide))
    rw [e]
    exact q
  · have e : (t == "int") = false := by
      simp only [kinds, List.mem_cons, List.not_mem_nil, or_false] at hm
      rcases hm with rfl | rfl | rfl | rfl | rfl | rfl | rfl | rfl <;> first | rfl | (exact absurd rfl c)
    rw [e] at q
    exact q
theorem kd_of {t : String} {v : V} (h : Kd K H v t) : (t == "int") = true → ∃ i, v = .int i := fun e => by
  have e' : t = "int" := by simpa using e
  subst e'
  obtain ⟨h, _⟩ := h
  generalize hg : Value.type "int" = tt at h
  cases h with
  | base b => cases b <;> first | exact ⟨_, rfl⟩ | exact absurd (Value.type.inj hg) (by decide) | (cases hg)
  | byt => exact absurd (Value.type.inj hg) (by decide)
  | set => exact absurd (Value.type.inj hg) (by decide)
  | kList => exact absurd (Value.type.inj hg) (by decide)
  | kTuple => exact absurd (Value.type.inj hg) (by decide)
  | kDict => exact absurd (Value.type.inj hg) (by decide)
  | fTuple => exact absurd (Value.type.inj hg) (by decide)
  | fDict => exact absurd (Value.type.inj hg) (by decide)
theorem kd_not {t : String} {v : V} (h : Kd K H v t) : (t == "int") = false → ∀ i, v ≠ .int i := fun e i z => by
  subst z
  obtain ⟨h, _⟩ := h
  cases h with
  | base b => cases b; exact absurd e (by decide)
theorem pu_is_many (h : sp_is_many K vs H Q E) : t_is_many K (sp_is_integer K) (wOut E) (dn Q) (start N_is_many vs) H := by
  obtain ⟨v, t, rfl, hk, q⟩ := h
  unfold t_is_many
  walk_at "go"
  refine ⟨v, t, rfl, hk, ?_⟩
  walk_at "go"
  refine ite2 (fun c => ?_) (fun c => ?_)
  · obtain ⟨i, rfl⟩ := kd_of hk c
    walk_at "go"
    refine ite2 (fun c => ?_) (fun c => ?_)
    · walk_at "go"
      have e : isMany (.int i) = decide (i ≤ 64) := by show (decide (1 ≤ i) && decide (i ≤ 64)) = _; rw [c, Bool.true_and]
      rw [e] at q
      exact q
    · have e : isMany (.int i) = false := by show (decide (1 ≤ i) && decide (i ≤ 64)) = _; rw [Bool.not_eq_true] at c; rw [c, Bool.false_and]
      rw [e] at q
      exact q
  · have e : isMany v = false := by
      have z := kd_not hk (by simpa using c)
      cases v <;> first | rfl | exact absurd rfl (z _)
    rw [e] at q
    exact q
theorem map_rep (b : Bool) : ∀ n : Nat, (List.replicate n [V.bl b]).flatten = (List.replicate n b).map V.bl
  | 0 => rfl
  | n + 1 => by
    rw [List.replicate_succ, List.replicate_succ, List.flatten_cons, map_rep b n]
    rfl
theorem many_int {v : V} (h : isMany v = true) : ∃ i : Int, v = .int i ∧ 1 ≤ i ∧ i ≤ 64 := by
  cases v with
  | int i =>
    have h' : (decide (1 ≤ i) && decide (i ≤ 64)) = true := h
    rw [Bool.and_eq_true] at h'
    exact ⟨i, rfl, of_decide_eq_true h'.1, of_decide_eq_true h'.2⟩
  | _ => cases h
theorem pu_init (h : sp_Marks_Uinit K C B vs H Q E) : t_MarksU_initU K B C (sp_is_many K) (wOut E) (dn Q) (start N_MarksU_initU vs) H := by
  obtain ⟨a, dx, v, tr, t, rfl, ha, hk, h⟩ := h
  unfold t_MarksU_initU
  walk_at "go"
  refine ⟨v, t, rfl, hk, ?_⟩
  walk_at "go"
  rcases h with ⟨e, h⟩ | ⟨e, bs, hb, h⟩
  · rw [e]
    walk_at "go"
    exact fun d hd => h H d (Same.refl _) hd
  · rw [e]
    walk_at "go"
    have fin : ∀ (p : Addr) (H1 : Hp), H p = none → Same H H1 → H1 p = some (.lst (bs.map V.bl)) → (dn Q).nx (start N_MarksU_initU [.ref a, v, tr]) (upd H1 a (.ins C dx (putF "kept" (.ref p) []))) := fun p H1 hp s g => by
      have np : a ≠ p := ne_of_none ha hp
      refine h p _ hp (fun b o n e => ?_) ⟨dx, upd_same, by rw [upd_ne np.symm]; exact g⟩
      rw [upd_ne (fun z => n (by rw [z]; exact List.mem_singleton_self _))]
      exact s _ _ e
    rcases hb with ⟨rfl, i, rfl, rfl⟩ | ⟨p, rfl, hp⟩
    · obtain ⟨i', e', i1, i2⟩ := many_int e
      cases e'
      rw [decide_eq_true rfl]
      walk_at "go"
      refine ⟨by show 1 ≤ sizeLine; decide, fun p hp => ?_⟩
      walk_at "go"
      refine go_rep upd_same (by omega) (by omega) (sz1000 (by show 1 * i.toNat ≤ _; omega)) fun p2 hp2 => ?_
      walk_at "go"
      have s := (Same.new (o := .lst [.bl false]) hp).trans (Same.new (o := .lst (List.replicate i.toNat [V.bl false]).flatten) hp2)
      refine at_set (s _ _ ha) (by decide) ?_
      exact fin p2 _ ((Same.new (o := .lst [.bl false]) hp).free hp2) s (by rw [upd_same, map_rep])
    · rw [decide_eq_false (fun z => nomatch z)]
      walk_at "go"
      refine go_listL hp fun p2 hp2 => ?_
      walk_at "go"
      refine at_set (Same.new hp2 _ _ ha) (by decide) ?_
      exact fin p2 _ hp2 (Same.new hp2) upd_same
/-- what a new object and a new dict leave -/
theorem new_same {x dx : Addr} {o1 o2 : HO} (hx : H x = none) (hdx : H dx = none) : Same H (upd (upd H dx o1) x o2) := fun b o e => by
  rw [upd_ne (ne_of_none e hx), upd_ne (ne_of_none e hdx)]
  exact e
theorem new_marks {x dx : Addr} {bs : List Bool} {v tr : V} {t : String} (hx : H x = none) (hdx : H dx = none) (ne : dx ≠ x) (hk : Kd K H v t) (e : isMany v = true) (hb : (tr = .non ∧ ∃ i : Int, v = .int i ∧ bs = List.replicate i.toNat false) ∨ ∃ p, tr = .ref p ∧ SqL K H p (bs.map V.bl)) {R : Hp → Prop} (h : ∀ (l : Addr) (H' : Hp), H l = none → Same H H' → MkAt C x l bs H' → R H') :
    sp_Marks_Uinit K C B [.ref x, v, tr] (upd (upd H dx (.own x)) x (.ins C dx [])) (fun v H2 => v = .non ∧ R H2) E := by
  have s := new_same (o1 := .own x) (o2 := .ins C dx []) hx hdx
  refine ⟨x, dx, v, tr, t, rfl, upd_same, hk.same s, .inr ⟨e, bs, ?_, fun l H' hl k m => ⟨rfl, ?_⟩⟩⟩
  · rcases hb with hb | ⟨p, ep, hp⟩
    · exact .inl hb
    · exact .inr ⟨p, ep, s.seq hp⟩
  · refine h l H' (s.free hl) (fun b o q => k b o ?_ (s _ _ q)) m
    intro z
    rw [List.mem_singleton.mp z, hx] at q
    cases q
theorem pu_marks_of (h : sp_marks_of K C vs H Q E) : t_marks_of K C (sp_Marks_Uinit K C B) (wOut E) (dn Q) (start N_marks_of vs) H := by
  obtain ⟨p, bs, rfl, hp, h1, h2, h⟩ := h
  unfold t_marks_of
  walk_at "go"
  refine go_lenL hp ?_
  walk_at "go"
  intro x dx hx hdx ne
  refine new_marks hx hdx ne kd_int ?_ (.inr ⟨p, rfl, hp⟩) fun l H' hl s m => h x l H' hx hl s m
  rw [List.length_map]
  show (decide _ && decide _) = true
  rw [Bool.and_eq_true]
  exact ⟨decide_eq_true (by omega), decide_eq_true (by omega)⟩
theorem at_int {n : Nat} {v : V} (h : isAt n v = true) : ∃ i : Nat, v = .int i ∧ i < n := by
  cases v with
  | int i =>
    have h' : (decide (0 ≤ i) && decide (i < n)) = true := h
    rw [Bool.and_eq_true] at h'
    have a := of_decide_eq_true h'.1
    have b := of_decide_eq_true h'.2
    exact ⟨i.toNat, by rw [Int.toNat_of_nonneg a], by omega⟩
  | _ => cases h
theorem int_at {n i : Nat} (h : i < n) : isAt n (.int i) = true := by
  show (decide ((0 : Int) ≤ (i : Int)) && decide ((i : Int) < (n : Int))) = true
  rw [Bool.and_eq_true]
  exact ⟨decide_eq_true (by omega), decide_eq_true (by omega)⟩
theorem pu_check (h : sp_Marks_check K C B vs H Q E) : t_Marks_check K B C (sp_is_integer K) (wOut E) (dn Q) (start N_Marks_check vs) H := by
  obtain ⟨a, l, bs, v, t, rfl, ⟨dx, ha, hl⟩, hk, h⟩ := h
  unfold t_Marks_check
  walk_at "go"
  refine ⟨v, t, rfl, hk, ?_⟩
  walk_at "go"
  have bad : isAt bs.length v = false → ∀ d : Addr, H d = none → E (.ref B) (some d) (upd H d (.xd [("at", v)])) := fun e => by
    rcases h with ⟨e', _⟩ | ⟨_, h⟩
    · rw [e] at e'; cases e'
    · exact fun d hd => h H d (Same.refl _) hd
  cases e : (t == "int") with
  | false =>
    walk_at "go"
    refine bad ?_
    have z := kd_not hk e
    cases v <;> first | rfl | exact absurd rfl (z _)
  | true =>
    obtain ⟨i, rfl⟩ := kd_of hk e
    walk_at "go"
    refine ite2 (fun c => ?_) (fun c => ?_)
    · walk_at "on"
      refine go_lenL (SqL.of hl) ?_
      walk_at "go"
      rw [List.length_map]
      refine ite2 (fun c2 => ?_) (fun c2 => ?_)
      · walk_at "go"
        refine bad ?_
        show (decide (0 ≤ i) && decide (i < bs.length)) = false
        rw [Bool.not_eq_true'] at c2
        rw [c2, Bool.and_false]
      · walk_at "go"
        rcases h with ⟨_, h⟩ | ⟨e', _⟩
        · exact h
        · have e2 : (decide (0 ≤ i) && decide (i < bs.length)) = false := e'
          rw [c, Bool.true_and] at e2
          rw [e2] at c2
          exact absurd rfl c2
    · walk_at "go"
      rw [Bool.not_eq_true] at c
      refine bad ?_
      show (decide (0 ≤ i) && decide (i < bs.length)) = false
      rw [c, Bool.false_and]
theorem pu_check_mate (h : sp_Marks_check_mate C B vs H Q E) : t_Marks_check_mate K B C (wOut E) (dn Q) (start N_Marks_check_mate vs) H := by
  obtain ⟨a, l, b, m, bs, cs, rfl, ⟨dx, ha, hl⟩, ⟨dy, hb, hm⟩, h⟩ := h
  unfold t_Marks_check_mate
  walk_at "on"
  refine go_lenL (SqL.of hl) ?_
  walk_at "on"
  refine go_lenL (SqL.of hm) ?_
  walk_at "go"
  rw [List.length_map, List.length_map]
  by_cases e : bs.length = cs.length
  · rw [if_pos e] at h
    rw [decide_eq_true (by rw [e])]
    walk_at "go"
    exact h
  · rw [if_neg e] at h
    rw [decide_eq_false (by omega)]
    walk_at "go"
    exact fun d hd => h H d (Same.refl _) hd
theorem pu_len (h : sp_Marks_Ulen C vs H Q E) : t_MarksU_lenU K C (wOut E) (dn Q) (start N_MarksU_lenU vs) H := by
  obtain ⟨a, l, bs, rfl, ⟨dx, ha, hl⟩, h⟩ := h
  unfold t_MarksU_lenU
  walk_at "on"
  refine go_lenL (SqL.of hl) ?_
  rw [List.length_map]
  exact h
theorem pu_getitem (h : sp_Marks_Ugetitem K C B vs H Q E) : t_MarksU_getitemU K C (sp_Marks_check K C B) (wOut E) (dn Q) (start N_MarksU_getitemU vs) H := by
  obtain ⟨a, l, bs, v, t, rfl, ⟨dx, ha, hl⟩, hk, h⟩ := h
  unfold t_MarksU_getitemU
  walk_at "on"
  rcases h with ⟨i, b, rfl, hi, h⟩ | ⟨e, h⟩
  · refine ⟨a, l, bs, _, t, rfl, ⟨dx, ha, hl⟩, hk, .inl ⟨int_at (List.getElem?_eq_some_iff.mp hi).1, ?_⟩⟩
    walk_at "on"
    refine go_ixL (SqL.of hl) (atI_nat (by rw [List.getElem?_map, hi]; rfl)) ?_
    exact h
  · exact ⟨a, l, bs, _, t, rfl, ⟨dx, ha, hl⟩, hk, .inr ⟨e, h⟩⟩
theorem kd_bool {t : String} {v : V} (h : Kd K H v t) (e : t = "bool") : ∃ b, v = .bl b := by
  subst e
  obtain ⟨h, _⟩ := h
  generalize hg : Value.type "bool" = tt at h
  cases h with
  | base b => cases b <;> first | exact ⟨_, rfl⟩ | exact absurd (Value.type.inj hg) (by decide) | (cases hg)
  | byt => exact absurd (Value.type.inj hg) (by decide)
  | set => exact absurd (Value.type.inj hg) (by decide)
  | kList => exact absurd (Value.type.inj hg) (by decide)
  | kTuple => exact absurd (Value.type.inj hg) (by decide)
  | kDict => exact absurd (Value.type.inj hg) (by decide)
  | fTuple => exact absurd (Value.type.inj hg) (by decide)
  | fDict => exact absurd (Value.type.inj hg) (by decide)
theorem ixN_nat {n i : Nat} (h : i < n) : ixN n (i : Int) = some i := by
  unfold ixN
  rw [if_pos (by omega), if_pos (by omega)]
  rfl
theorem pu_setitem (h : sp_Marks_Usetitem K C B vs H Q E) : t_MarksU_setitemU K B C (sp_Marks_check K C B) (wOut E) (dn Q) (start N_MarksU_setitemU vs) H := by
  obtain ⟨a, l, bs, v, u, t, t', rfl, ⟨dx, ha, hl⟩, hk, hu, h⟩ := h
  unfold t_MarksU_setitemU
  walk_at "on"
  rcases h with ⟨i, b, rfl, hi, rfl, h⟩ | ⟨e, ne, h⟩ | ⟨e, h⟩
  · refine ⟨a, l, bs, _, t, rfl, ⟨dx, ha, hl⟩, hk, .inl ⟨int_at hi, ?_⟩⟩
    walk_at "go"
    refine go_isiK (t := "bool") kd_bl (by decide) ?_
    walk_at "go"
    show if (!true) = true then _ else _
    walk_at "on"
    refine go_setL hl (m := i) (ixN_nat (by rw [List.length_map]; exact hi)) ?_
    rw [List.map_set] at h
    exact h
  · refine ⟨a, l, bs, _, t, rfl, ⟨dx, ha, hl⟩, hk, .inl ⟨e, ?_⟩⟩
    walk_at "go"
    refine go_isiK hu (by decide) ?_
    walk_at "go"
    have e2 : isK t' "bool" = false := by
      unfold isK
      rw [show (t' == "bool") = false from by simpa using ne]
      rfl
    rw [e2]
    walk_at "go"
    exact fun d hd => h H d (Same.refl _) hd
  · exact ⟨a, l, bs, _, t, rfl, ⟨dx, ha, hl⟩, hk, .inr ⟨e, h⟩⟩
end

section
variable {H : Hp} {vs : List V} {Q : VK} {E : XK} {C B : Addr}
def bl2 (g : Bool → Bool → Bool) (p : V × V) : V := match p with | (.bl x, .bl y) => .bl (g x y) | _ => .non
theorem zip_bl (g : Bool → Bool → Bool) : ∀ bs cs : List Bool, ((((bs.map V.bl).zip (cs.map V.bl)).filter fun _ => true).map (bl2 g)) = (List.zipWith g bs cs).map V.bl
  | [], _ => rfl
  | _ :: _, [] => rfl
  | x :: bs, y :: cs => by
    have ih := zip_bl g bs cs
    simp only [List.map_cons, List.zip_cons_cons, List.zipWith_cons_cons]
    rw [List.filter_cons_of_pos rfl, List.map_cons, ih]
    rfl
theorem zip_lcr {te : TE} {σ : L2.St} {l m D : Addr} {n1 n2 : Nat} {ns : List Nat} {bs cs : List Bool} (g : Bool → Bool → Bool) (hl : SqL K H l (bs.map V.bl)) (hm : SqL K H m (cs.map V.bl)) (hD : H D = none) (hz : bs.length ≤ 64)
    (hw : ∀ x y, wipe (((wipe σ ns).set n1 (some x)).set n2 (some y)) ns = wipe σ ns) (he : ∀ x y H' Q', Q' (.bl (g x y)) H' → te (((wipe σ ns).set n1 (some (.bl x))).set n2 (some (.bl y))) H' Q')
    (q : ∀ H', Same H H' → H' D = some (.lst ((List.zipWith g bs cs).map V.bl)) → Q (.ref D) H') : LcR (Itz K l m) (gTup K 2 (gCons (gName n1) (gCons (gName n2) gNil))) tYes te ns σ H D Q := by
  refine lcr_pairs walk_zipP (fun _ => true) (bl2 g) (fun H' s => ⟨s.seq hl, s.seq hm⟩) hD (by rw [List.length_zip, List.length_map, List.length_map]; omega) (fun p hp => ?_) fun H' s h => ?_
  · obtain ⟨x, y⟩ := p
    obtain ⟨h1, h2⟩ := List.of_mem_zip hp
    obtain ⟨x, _, rfl⟩ := List.mem_map.mp h1
    obtain ⟨y, _, rfl⟩ := List.mem_map.mp h2
    intro H' A acc Nx s hA hH hlen k
    refine ⟨hw _ _, ?_⟩
    walk_at "go"
    exact he x y H' _ ⟨acc, hH, hlen, k H' (Same.refl _)⟩
  · rw [zip_bl] at h
    exact q H' s h
theorem pu_both {f : Bool → Bool → Bool} {te : TE} {a l b m : Addr} {bs cs : List Bool} (T : OwnC K C) (kC : PySem.W.kitOne K (.ref C) (.ref C) = some true) (ha : MkAt C a l bs H) (hb : MkAt C b m cs H) (b1 : 1 ≤ bs.length) (b2 : bs.length ≤ 64)
    (hq : if bs.length = cs.length then NewMk C (List.zipWith f bs cs) H Q else Rz B "at" .non H E)
    (hte : ∀ x y H' Q', Q' (.bl (f x y)) H' → te [some (.ref a), some (.ref b), some (.bl x), some (.bl y)] H' Q') :
    (tSeq (tIfS (tNot (tB (tCB (rIsi K) (tCons (tVar 1) (tCons (tC (.ref C)) tNil))))) tNever tNext)
    (tSeq (tDrop (tMethZ C "check_mate" (sp_Marks_check_mate C B) (wOut E) (tVar 0) (tCons (tVar 1) tNil)))
    (tRet (tCallZ (sp_marks_of K C) (wOut E) (tCons (tLc (iZip K (tCons (tGetF C "kept" (tVar 0)) (tCons (tGetF C "kept" (tVar 1)) tNil))) (gTup K 2 (gCons (gName 2) (gCons (gName 3) gNil))) tYes te [2, 3]) tNil))))) (dn Q) [some (.ref a), some (.ref b), none, none] H := by
  obtain ⟨dx, ha, hl⟩ := ha
  obtain ⟨dy, hb, hm⟩ := hb
  walk_at "go"
  refine go_isi (.own C) (T.ty hb) kC ?_
  walk_at "on"
  refine ⟨a, l, b, m, bs, cs, rfl, ⟨dx, ha, hl⟩, ⟨dy, hb, hm⟩, ?_⟩
  by_cases e : bs.length = cs.length
  · rw [if_pos e] at hq ⊢
    walk_at "on"
    refine ⟨l, m, _, _, rfl, SqL.of hl, SqL.of hm, fun D hD => ?_⟩
    refine zip_lcr f (SqL.of hl) (SqL.of hm) hD b2 (fun _ _ => rfl) hte fun H' s h => ?_
    walk_at "go"
    refine ⟨D, _, rfl, SqL.of h, by rw [List.length_zipWith]; omega, by rw [List.length_zipWith]; omega, fun x l' H2 hx hl' s2 hM => ?_⟩
    exact hq x l' H2 (s.free hx) (s.free hl') (s.trans s2) hM
  · rw [if_neg e] at hq ⊢
    exact hq
theorem pu_or (T : OwnC K C) (kC : PySem.W.kitOne K (.ref C) (.ref C) = some true) (h : sp_both C B or vs H Q E) : t_MarksU_orU K C (sp_marks_of K C) (sp_Marks_check_mate C B) (wOut E) (dn Q) (start N_MarksU_orU vs) H := by
  obtain ⟨a, l, b, m, bs, cs, rfl, ha, hb, b1, b2, h⟩ := h
  unfold t_MarksU_orU
  refine pu_both (f := or) T kC ha hb b1 b2 h fun x y H' Q' q => ?_
  walk_at "go"
  cases x
  · walk_at "go"; exact q
  · walk_at "go"; exact q
theorem pu_and (T : OwnC K C) (kC : PySem.W.kitOne K (.ref C) (.ref C) = some true) (h : sp_both C B and vs H Q E) : t_MarksU_andU K C (sp_marks_of K C) (sp_Marks_check_mate C B) (wOut E) (dn Q) (start N_MarksU_andU vs) H := by
  obtain ⟨a, l, b, m, bs, cs, rfl, ha, hb, b1, b2, h⟩ := h
  unfold t_MarksU_andU
  refine pu_both (f := and) T kC ha hb b1 b2 h fun x y H' Q' q => ?_
  walk_at "go"
  cases x
  · walk_at "go"; exact q
  · walk_at "go"; exact q
theorem pu_ip {f : Bool → Bool → Bool} {te : TE} {a l b m : Addr} {bs cs : List Bool} (T : OwnC K C) (kC : PySem.W.kitOne K (.ref C) (.ref C) = some true) (ha : MkAt C a l bs H) (hb : MkAt C b m cs H) (b2 : bs.length ≤ 64)
    (hq : if bs.length = cs.length then ∀ (l' : Addr) (H' : Hp), H l' = none → Kept [a] H H' → MkAt C a l' (List.zipWith f bs cs) H' → Q (.ref a) H' else Rz B "at" .non H E)
    (hte : ∀ x y H' Q', Q' (.bl (f x y)) H' → te [some (.ref a), some (.ref b), some (.bl x), some (.bl y)] H' Q') :
    (tSeq (tIfS (tNot (tB (tCB (rIsi K) (tCons (tVar 1) (tCons (tC (.ref C)) tNil))))) tNever tNext)
    (tSeq (tDrop (tMethZ C "check_mate" (sp_Marks_check_mate C B) (wOut E) (tVar 0) (tCons (tVar 1) tNil)))
    (tSeq (tSetF C "kept" (tVar 0) (tLc (iZip K (tCons (tGetF C "kept" (tVar 0)) (tCons (tGetF C "kept" (tVar 1)) tNil))) (gTup K 2 (gCons (gName 2) (gCons (gName 3) gNil))) tYes te [2, 3]))
    (tRet (tVar 0))))) (dn Q) [some (.ref a), some (.ref b), none, none] H := by
  obtain ⟨dx, ha, hl⟩ := ha
  obtain ⟨dy, hb, hm⟩ := hb
  walk_at "go"
  refine go_isi (.own C) (T.ty hb) kC ?_
  walk_at "on"
  refine ⟨a, l, b, m, bs, cs, rfl, ⟨dx, ha, hl⟩, ⟨dy, hb, hm⟩, ?_⟩
  by_cases e : bs.length = cs.length
  · rw [if_pos e] at hq ⊢
    walk_at "on"
    refine ⟨l, m, _, _, rfl, SqL.of hl, SqL.of hm, fun D hD => ?_⟩
    refine zip_lcr f (SqL.of hl) (SqL.of hm) hD b2 (fun _ _ => rfl) hte fun H' s h => ?_
    walk_at "go"
    refine at_set (s _ _ ha) (by show 1 < 1000; decide) ?_
    walk_at "go"
    have np : D ≠ a := fun z => by rw [z, ha] at hD; cases hD
    refine hq D _ hD (fun x o n e => ?_) ⟨dx, upd_same, by rw [upd_ne np]; exact h⟩
    rw [upd_ne (fun z => n (by rw [z]; exact List.mem_singleton_self _))]
    exact s _ _ e
  · rw [if_neg e] at hq ⊢
    exact hq
theorem pu_ior (T : OwnC K C) (kC : PySem.W.kitOne K (.ref C) (.ref C) = some true) (h : sp_ip C B or vs H Q E) : t_MarksU_iorU K C (sp_Marks_check_mate C B) (wOut E) (dn Q) (start N_MarksU_iorU vs) H := by
  obtain ⟨a, l, b, m, bs, cs, rfl, ha, hb, b2, h⟩ := h
  unfold t_MarksU_iorU
  refine pu_ip (f := or) T kC ha hb b2 h fun x y H' Q' q => ?_
  walk_at "go"
  cases x
  · walk_at "go"; exact q
  · walk_at "go"; exact q
theorem pu_iand (T : OwnC K C) (kC : PySem.W.kitOne K (.ref C) (.ref C) = some true) (h : sp_ip C B and vs H Q E) : t_MarksU_iandU K C (sp_Marks_check_mate C B) (wOut E) (dn Q) (start N_MarksU_iandU vs) H := by
  obtain ⟨a, l, b, m, bs, cs, rfl, ha, hb, b2, h⟩ := h
  unfold t_MarksU_iandU
  refine pu_ip (f := and) T kC ha hb b2 h fun x y H' Q' q => ?_
  walk_at "go"
  cases x
  · walk_at "go"; exact q
  · walk_at "go"; exact q
theorem pu_le (T : OwnC K C) (kC : PySem.W.kitOne K (.ref C) (.ref C) = some true) (h : sp_Marks_Ule C vs H Q E) : t_MarksU_leU K C (wOut E) (dn Q) (start N_MarksU_leU vs) H := by
  obtain ⟨a, l, b, m, bs, cs, rfl, ⟨dx, ha, hl⟩, ⟨dy, hb, hm⟩, b2, h⟩ := h
  unfold t_MarksU_leU
  walk_at "go"
  refine go_isi (.own C) (T.ty hb) kC ?_
  walk_at "on"
  refine go_lenL (SqL.of hl) ?_
  walk_at "on"
  refine go_lenL (SqL.of hm) ?_
  walk_at "go"
  rw [List.length_map, List.length_map]
  by_cases e : bs.length = cs.length
  · rw [decide_eq_true (by rw [e])]
    walk_at "on"
    refine ⟨l, m, _, _, rfl, SqL.of hl, SqL.of hm, fun D hD => ?_⟩
    refine zip_lcr (fun x y => y || !x) (SqL.of hl) (SqL.of hm) hD b2 (fun _ _ => rfl) (fun x y H' Q' q => ?_) fun H' s g => ?_
    · walk_at "go"
      cases y
      · walk_at "go"; exact q
      · walk_at "go"; exact q
    walk_at "go"
    refine go_all (SqL.of g) ?_
    have q := h H' s
    unfold inside at q
    rw [decide_eq_true e, Bool.true_and] at q
    exact q
  · rw [decide_eq_false (by omega)]
    walk_at "go"
    have q := h H (Same.refl _)
    unfold inside at q
    rw [decide_eq_false e, Bool.false_and] at q
    exact q
theorem ok_bl (bs : List Bool) : (bs.map V.bl).all okV = true := by
  rw [List.all_eq_true]
  intro x hx
  obtain ⟨b, _, rfl⟩ := List.mem_map.mp hx
  rfl
theorem eqL_bl : ∀ bs cs : List Bool, eqL (bs.map V.bl) (cs.map V.bl) = decide (bs = cs)
  | [], [] => by simp [eqL]
  | [], _ :: _ => by simp [eqL]
  | _ :: _, [] => by simp [eqL]
  | x :: bs, y :: cs => by
    show (eqV (.bl x) (.bl y) && eqL (bs.map V.bl) (cs.map V.bl)) = _
    rw [eqL_bl bs cs]
    cases x <;> cases y <;> simp [eqV]
theorem pu_eq (T : OwnC K C) (kC : PySem.W.kitOne K (.ref C) (.ref C) = some true) (h : sp_Marks_Ueq K C vs H Q E) : t_MarksU_eqU K C (wOut E) (dn Q) (start N_MarksU_eqU vs) H := by
  obtain ⟨a, l, bs, y, rfl, ⟨dx, ha, hl⟩, b2, h⟩ := h
  unfold t_MarksU_eqU
  rcases h with ⟨b, m, cs, rfl, ⟨dy, hb, hm⟩, c2, h⟩ | ⟨⟨t, ty, kt⟩, h⟩
  · walk_at "go"
    refine go_isi (.own C) (T.ty hb) kC ?_
    walk_at "on"
    refine go_sameLL (SqL.of hl) (SqL.of hm) (ok_bl _) (ok_bl _) ?_
    rw [eqL_bl]
    exact h
  · walk_at "go"
    refine go_isi (.own C) ty kt ?_
    walk_at "go"
    exact h
end

section
variable {H : Hp} {vs : List V} {Q : VK} {E : XK} {C B PE : Addr}
def sp_law_marks (K : PySem.W.Frag) (C : Addr) : Sp := fun vs H Q _ => ∃ (p : Addr) (bs : List Bool), vs = [.ref p] ∧ SqL K H p (bs.map V.bl) ∧ 1 ≤ bs.length ∧ bs.length ≤ 64 ∧ NewMk C bs H Q
/-- a new list of these truths -/
def NewL (xs : List V) (H : Hp) (Q : VK) : Prop := ∀ (p : Addr) (H' : Hp), H p = none → Same H H' → H' p = some (.lst xs) → Q (.ref p) H'
def sp_law_truths (C : Addr) : Sp := fun vs H Q _ => ∃ (a l : Addr) (bs : List Bool), vs = [.ref a] ∧ MkAt C a l bs H ∧ bs.length ≤ 64 ∧ NewL (bs.map V.bl) H Q
def sp_law_refused (C : Addr) : Sp := fun vs H Q _ => ∃ (a l b m : Addr) (bs cs : List Bool) (w : Int), vs = [.ref a, .ref b, .int w] ∧ MkAt C a l bs H ∧ MkAt C b m cs H ∧ 1 ≤ bs.length ∧ bs.length ≤ 64 ∧ bs.length ≠ cs.length ∧ NewL [.non, .bl true, .bl true] H Q
/-- the errors' classes -/
structure ErrF (K : PySem.W.Frag) (B PE : Addr) : Prop where
  ex : ExcC K B
  me : PySem.W.exmOne K (.ref B) (.ref B) = some true
  isP : PySem.W.kitOne K (.ref B) (.ref PE) = some true
  isV : PySem.W.kitOne K (.ref B) (.type "ValueError") = some true
theorem pu__law_marks (h : sp_law_marks K C vs H Q E) : t__law_marks K C (sp_Marks_Uinit K C B) (sp_Marks_Usetitem K C B) (wOut E) (dn Q) (start N__law_marks vs) H := by
  obtain ⟨p, bs, rfl, hp, h1, h2, h⟩ := h
  unfold t__law_marks
  walk_at "go"
  refine go_lenL hp ?_
  walk_at "go"
  rw [List.length_map]
  intro x dx hx hdx ne
  refine new_marks (bs := List.replicate bs.length false) hx hdx ne kd_int ?_ (.inl ⟨rfl, (bs.length : Int), rfl, by rw [Int.toNat_natCast]⟩) ?_
  · show (decide ((1 : Int) ≤ (bs.length : Int)) && decide ((bs.length : Int) ≤ 64)) = true
    rw [Bool.and_eq_true]
    exact ⟨decide_eq_true (by omega), decide_eq_true (by omega)⟩
  intro l H1 hl s1 hM
  walk_at "go"
  refine ⟨p, _, rfl, s1.seq hp, ?_⟩
  refine for_pairs walk_enumP (fun i σ H2 => ∃ v2 v3, σ = [some (.ref p), some (.ref x), v2, v3] ∧ Same H H2 ∧ MkAt C x l (bs.take i ++ List.replicate (bs.length - i) false) H2) ⟨none, none, rfl, s1, by simpa using hM⟩ (fun i σ H2 _ ⟨_, _, _, s, _⟩ => s.seq hp) ?_ ?_
  · rintro i u v σ H2 H3 hi ⟨v2, v3, rfl, s2, hM2⟩ s3
    have hi' : ∃ b, u = .int (i : Nat) ∧ v = .bl b ∧ bs[i]? = some b := by
      simp only [enumV, List.getElem?_mapIdx, List.getElem?_map, Option.map_map] at hi
      cases e : bs[i]? with
      | none => rw [e] at hi; cases hi
      | some b => rw [e] at hi; cases hi; exact ⟨b, rfl, rfl, rfl⟩
    obtain ⟨b, rfl, rfl, hb⟩ := hi'
    have lt := (List.getElem?_eq_some_iff.mp hb).1
    obtain ⟨dy, g1, g2⟩ := hM2.same s3
    walk_at "go"
    refine go_setZ g1 ?_
    refine ⟨x, l, _, _, _, "int", "bool", rfl, ⟨dy, g1, g2⟩, kd_int, kd_bl, .inl ⟨i, b, rfl, ?_, rfl, ?_⟩⟩
    · rw [List.length_append, List.length_take, List.length_replicate]; omega
    have nl : l ≠ x := fun z => by rw [z, g1] at g2; cases g2
    refine ⟨_, _, rfl, fun a o e => ?_, dy, by rw [upd_ne nl.symm]; exact g1, ?_⟩
    · rw [upd_ne (ne_of_none e hl)]
      exact (s2.trans s3) _ _ e
    · rw [upd_same]
      congr 3
      have e1 : bs.length - i = (bs.length - (i + 1)) + 1 := by omega
      rw [List.set_append_right _ _ (by rw [List.length_take]; omega), e1, List.replicate_succ, List.length_take, show i - min i bs.length = 0 by omega, List.set_cons_zero, take_snoc hb, List.append_assoc]
      rfl
  · rintro σ H2 ⟨v2, v3, rfl, s2, hM2⟩
    walk_at "go"
    have e : (enumV (bs.map V.bl)).length = bs.length := by simp [enumV]
    rw [e, Nat.sub_self, List.take_length] at hM2
    exact h x l H2 hx hl s2 (by simpa using hM2)
theorem pu__law_truths (h : sp_law_truths C vs H Q E) : t__law_truths K C (sp_Marks_Ulen C) (sp_Marks_Ugetitem K C B) (wOut E) (dn Q) (start N__law_truths vs) H := by
  obtain ⟨a, l, bs, rfl, ⟨dx, ha, hl⟩, b2, h⟩ := h
  unfold t__law_truths
  walk_at "go"
  refine go_lenZ ha ?_
  refine ⟨a, l, bs, rfl, ⟨dx, ha, hl⟩, _, rfl, by omega, by omega, ?_⟩
  walk_at "go"
  refine go_rng1 (by omega) (by omega) fun D hD => ?_
  refine lcr_range (fun _ => true) (fun v => match v with | .int k => .bl (bs.getD k.toNat false) | _ => .non) hD (by omega) (fun k hk => ?_) fun H' s g => ?_
  · intro H' A acc Nx s hA hH hlen kk
    walk_at "go"
    refine ⟨rfl, ?_⟩
    walk_at "go"
    refine go_getZ (s _ _ ha) ?_
    have hk' : k < bs.length := by omega
    refine ⟨a, l, bs, _, "int", rfl, ⟨dx, s _ _ ha, s _ _ hl⟩, kd_int, .inl ⟨k, bs[k], by rw [Int.zero_add], List.getElem?_eq_getElem hk', ⟨acc, hH, hlen, ?_⟩⟩⟩
    have q := kk H' (Same.refl _)
    simp only [if_true] at q
    have e : bs.getD ((0 : Int) + (k : Int)).toNat false = bs[k] := by
      rw [Int.zero_add, Int.toNat_natCast, List.getD_eq_getElem?_getD, List.getElem?_eq_getElem hk']
      rfl
    rw [e] at q
    exact q
  · refine h D H' hD s ?_
    rw [g, List.filter_eq_self.mpr fun _ _ => rfl, List.map_map]
    congr 2
    apply List.ext_getElem?
    intro i
    rw [List.getElem?_map, List.getElem?_map]
    by_cases hi : i < bs.length
    · rw [List.getElem?_range (by omega), List.getElem?_eq_getElem hi]
      show some (V.bl (bs.getD ((0 : Int) + (i : Int)).toNat false)) = _
      rw [Int.zero_add, Int.toNat_natCast, List.getD_eq_getElem?_getD, List.getElem?_eq_getElem hi]
      rfl
    · rw [List.getElem?_eq_none (by simp; omega), List.getElem?_eq_none (by omega)]
      rfl
theorem pu__law_refused (F : ErrF K B PE) (h : sp_law_refused C vs H Q E) : t__law_refused K B C PE (sp_both C B or) (sp_both C B and) (sp_ip C B or) (sp_ip C B and) (wOut E) (dn Q) (start N__law_refused vs) H := by
  obtain ⟨a, l, b, m, bs, cs, w, rfl, hM, hM', b1, b2, ne, h⟩ := h
  obtain ⟨dx, ha, hl⟩ := id hM
  obtain ⟨dy, hb, hm⟩ := id hM'
  unfold t__law_refused
  walk_at "st"
  have bad : ∀ (σ : L2.St) (u : V), σ = [some (.ref a), some (.ref b), some (.int w), some u, none] → Rz B "at" .non H (WE (wAs K (.ref B) 4 (fun xa cls d => (tAsg (tLst (tCons (tXf xa cls d B "at" (tVar 4)) (tCons (tCB (rIsX K xa cls d) (tCons (tVar 4) (tCons (tC (.ref PE)) tNil))) (tCons (tCB (rIsX K xa cls d) (tCons (tVar 4) (tCons (tC (.ty "ValueError")) tNil))) tNil)))) (gName 3))) (wOut E)
      { dn Q with nx := (tRet (tVar 3)) (dn Q) }) σ) := by
    rintro σ u rfl H' d s hd
    refine go_wAs F.me fun x hx => ?_
    walk_at "go"
    refine at_xf upd_same rfl ?_
    walk_at "go"
    refine go_isX F.ex upd_same (.own PE) F.isP ?_
    walk_at "go"
    refine go_isX F.ex upd_same (.ty "ValueError") F.isV ?_
    walk_at "go"
    refine ⟨by show 3 ≤ sizeLine; decide, fun p hp => ?_⟩
    walk_at "go"
    have s2 := s.trans (Same.new (o := .xd [("at", .non)]) hd)
    exact h p _ (s2.free hp) (s2.trans (Same.new hp)) upd_same
  walk_at "go"
  refine ite2 (fun c => ?_) (fun c => ?_)
  · walk_at "go"
    refine go_binO ha hb ?_
    exact ⟨a, l, b, m, bs, cs, rfl, hM, hM', b1, b2, by rw [if_neg ne]; exact bad _ _ rfl⟩
  · walk_at "go"
    refine ite2 (fun c => ?_) (fun c => ?_)
    · walk_at "go"
      refine go_binO ha hb ?_
      exact ⟨a, l, b, m, bs, cs, rfl, hM, hM', b1, b2, by rw [if_neg ne]; exact bad _ _ rfl⟩
    · walk_at "go"
      refine ite2 (fun c => ?_) (fun c => ?_)
      · walk_at "go"
        refine go_ipO ha ?_
        exact ⟨a, l, b, m, bs, cs, rfl, hM, hM', b2, by rw [if_neg ne]; exact bad _ _ rfl⟩
      · walk_at "go"
        refine go_ipO ha ?_
        exact ⟨a, l, b, m, bs, cs, rfl, hM, hM', b2, by rw [if_neg ne]; exact bad _ _ rfl⟩
end

section
variable {H : Hp} {vs : List V} {Q : VK} {E : XK} {C B PE : Addr}
theorem ne_ki {H : Hp} {a dx p : Addr} {fs : List (Str × V)} {xs : List V} (h1 : H a = some (.ins C dx fs)) (h2 : H p = some (.lst xs)) : p ≠ a := fun z => by
  rw [z, h1] at h2; cases h2
/-- truths(m) != list, as a test -/
theorem tt_truths {σ : L2.St} {W : WX} {QB : Bool → Hp → Prop} {i j : Nat} {a l p : Addr} {bs cs : List Bool} (hi : σ[i]? = some (some (.ref a))) (hj : σ[j]? = some (some (.ref p))) (hM : MkAt C a l bs H) (hz : bs.length ≤ 64) (hp : H p = some (.lst (cs.map V.bl)))
    (q : ∀ H', Same H H' → QB (!decide (bs = cs)) H') : tTest (tOp (rUnlike K) (tCallZ (sp_law_truths C) W (tCons (tVar i) tNil)) (tVar j)) σ H QB := by
  walk_at "go"
  refine ⟨a, l, bs, rfl, hM, hz, fun p1 H1 _ s h1 => ?_⟩
  walk_at "go"
  refine go_unLL (SqL.of h1) (SqL.of (s _ _ hp)) (ok_bl _) (ok_bl _) ?_
  walk_at "go"
  rw [eqL_bl]
  exact q H1 s
theorem te_truths {σ : L2.St} {W : WX} {i j : Nat} {a l p : Addr} {bs cs : List Bool} (hi : σ[i]? = some (some (.ref a))) (hj : σ[j]? = some (some (.ref p))) (hM : MkAt C a l bs H) (hz : bs.length ≤ 64) (hp : H p = some (.lst (cs.map V.bl)))
    (q : ∀ H', Same H H' → Q (.bl (decide (bs = cs))) H') : tOp (rSame K) (tCallZ (sp_law_truths C) W (tCons (tVar i) tNil)) (tVar j) σ H Q := by
  walk_at "go"
  refine ⟨a, l, bs, rfl, hM, hz, fun p1 H1 _ s h1 => ?_⟩
  walk_at "go"
  refine go_sameLL (SqL.of h1) (SqL.of (s _ _ hp)) (ok_bl _) (ok_bl _) ?_
  rw [eqL_bl]
  exact q H1 s
/-- two marks and four lists -/
structure Stg (C one other pa pb pj pc l1 l2 : Addr) (A Z J U x y : List Bool) (H : Hp) : Prop where
  m1 : MkAt C one l1 x H
  m2 : MkAt C other l2 y H
  a : H pa = some (.lst (A.map V.bl))
  b : H pb = some (.lst (Z.map V.bl))
  j : H pj = some (.lst (J.map V.bl))
  u : H pc = some (.lst (U.map V.bl))
  ne : one ≠ other
  nl : l1 ≠ l2
  n1 : pa ≠ l1 ∧ pb ≠ l1 ∧ pj ≠ l1 ∧ pc ≠ l1
  n2 : pa ≠ l2 ∧ pb ≠ l2 ∧ pj ≠ l2 ∧ pc ≠ l2
section
variable {one other pa pb pj pc l1 l2 : Addr} {A Z J U x y : List Bool}
theorem Stg.same {H' : Hp} (g : Stg C one other pa pb pj pc l1 l2 A Z J U x y H) (s : Same H H') : Stg C one other pa pb pj pc l1 l2 A Z J U x y H' :=
  ⟨g.m1.same s, g.m2.same s, s _ _ g.a, s _ _ g.b, s _ _ g.j, s _ _ g.u, g.ne, g.nl, g.n1, g.n2⟩
theorem Stg.swap (g : Stg C one other pa pb pj pc l1 l2 A Z J U x y H) : Stg C other one pa pb pj pc l2 l1 A Z J U y x H := ⟨g.m2, g.m1, g.a, g.b, g.j, g.u, g.ne.symm, g.nl.symm, g.n2, g.n1⟩
theorem Stg.set1 (g : Stg C one other pa pb pj pc l1 l2 A Z J U x y H) (x' : List Bool) : Stg C one other pa pb pj pc l1 l2 A Z J U x' y (upd H l1 (.lst (x'.map V.bl))) := by
  obtain ⟨⟨dx, h1, h2⟩, ⟨dy, h3, h4⟩, a, b, j, u, ne, nl, n1, n2⟩ := g
  have i1 : one ≠ l1 := (ne_ki h1 h2).symm
  have i2 : other ≠ l1 := (ne_ki h3 h2).symm
  exact ⟨⟨dx, by rw [upd_ne i1]; exact h1, upd_same⟩, ⟨dy, by rw [upd_ne i2]; exact h3, by rw [upd_ne nl.symm]; exact h4⟩, by rw [upd_ne n1.1]; exact a, by rw [upd_ne n1.2.1]; exact b, by rw [upd_ne n1.2.2.1]; exact j, by rw [upd_ne n1.2.2.2]; exact u, ne, nl, n1, n2⟩
theorem Stg.new1 {l' : Addr} {x' : List Bool} {H' : Hp} (g : Stg C one other pa pb pj pc l1 l2 A Z J U x y H) (k : Kept [one] H H') (hl : H l' = none) (m : MkAt C one l' x' H') : Stg C one other pa pb pj pc l' l2 A Z J U x' y H' := by
  obtain ⟨⟨dx, h1, h2⟩, ⟨dy, h3, h4⟩, a, b, j, u, ne, nl, n1, n2⟩ := g
  have kl : ∀ {p : Addr} {xs : List V}, H p = some (.lst xs) → H' p = some (.lst xs) := fun {p xs} e => k _ _ (fun z => ne_ki h1 e (List.mem_singleton.mp z)) e
  have nn : ∀ {p : Addr} {o : HO}, H p = some o → p ≠ l' := fun {p o} e => ne_of_none e hl
  exact ⟨m, ⟨dy, k _ _ (fun z => ne (List.mem_singleton.mp z).symm) h3, kl h4⟩, kl a, kl b, kl j, kl u, ne, (nn h4).symm, ⟨nn a, nn b, nn j, nn u⟩, n2⟩
theorem zw_len (f : Bool → Bool → Bool) (h : A.length = Z.length) : (List.zipWith f A Z).length = A.length := by rw [List.length_zipWith, h, Nat.min_self]
end
theorem and_comm_zw (A Z : List Bool) : List.zipWith and Z A = List.zipWith and A Z := List.zipWith_comm_of_comm fun a b => Bool.and_comm a b
theorem in_and_or : ∀ A Z : List Bool, ((List.zipWith (fun x y => y || !x) (List.zipWith and A Z) (List.zipWith or A Z)).all id) = true
  | [], _ => by simp
  | _ :: _, [] => by simp
  | a :: A, z :: Z => by
    have ih := in_and_or A Z
    simp only [List.zipWith_cons_cons, List.all_cons, ih, Bool.and_true]
    cases a <;> cases z <;> rfl
theorem set_self {b : Bool} {x : List Bool} (h : x[0]? = some b) (c : Bool) : (x.set 0 c).set 0 b = x := by
  cases x with
  | nil => cases h
  | cons a r => cases h; rfl
def sp_in_place (C : Addr) : Sp := fun vs H Q _ => ∃ (one other pa pb pj pc l1 l2 : Addr) (A Z : List Bool), vs = [.ref one, .ref other, .ref pa, .ref pb, .ref pj, .ref pc] ∧ Stg C one other pa pb pj pc l1 l2 A Z (List.zipWith or A Z) (List.zipWith and A Z) A Z H ∧
  A.length = Z.length ∧ 1 ≤ A.length ∧ A.length ≤ 64 ∧ ∀ H', Q (.bl true) H'
theorem pu_in_place (T : OwnC K C) (h : sp_in_place C vs H Q E) : t__law_in_place K C (sp_Marks_Usetitem K C B) (sp_ip C B or) (sp_ip C B and) (sp_Marks_Ule C) (sp_law_marks K C) (sp_law_truths C) (wOut E) (dn Q) (start N__law_in_place vs) H := by
  obtain ⟨one, other, pa, pb, pj, pc, l1, l2, A, Z, rfl, g, le, h1, h2, hq⟩ := h
  generalize hJ : List.zipWith or A Z = J at g
  generalize hU : List.zipWith and A Z = U at g
  have lJ : J.length = A.length := by rw [← hJ, zw_len or le]
  have lU : U.length = A.length := by rw [← hU, zw_len and le]
  obtain ⟨j0, hj0⟩ : ∃ b, J[0]? = some b := ⟨_, List.getElem?_eq_getElem (by omega)⟩
  obtain ⟨u0, hu0⟩ : ∃ b, U[0]? = some b := ⟨_, List.getElem?_eq_getElem (by omega)⟩
  unfold t__law_in_place
  walk_at "go"
  obtain ⟨dx, e1, _⟩ := g.m1
  refine go_ipO e1 ?_
  refine ⟨one, l1, other, l2, A, Z, rfl, g.m1, g.m2, h2, ?_⟩
  rw [if_pos le]
  intro l3 H1 hl3 k1 m1
  rw [hJ] at m1
  have g := g.new1 k1 hl3 m1
  clear k1 m1
  walk_at "st"
  refine go_ifS (go_or ?_)
  refine tt_truths rfl rfl g.m1 (by omega) g.j fun H2 s2 => ?_
  have g := g.same s2
  rw [decide_eq_true rfl]
  refine go_nT (go_or ?_)
  refine tt_truths rfl rfl g.m1 (by omega) g.j fun H3 s3 => ?_
  have g := g.same s3
  rw [decide_eq_true rfl]
  refine go_nT ?_
  refine tt_truths rfl rfl g.m2 (by omega) g.b fun H4 s4 => ?_
  have g := g.same s4
  rw [decide_eq_true rfl]
  walk_at "go"
  refine go_ixL (SqL.of g.j) (atI_nat (j := 0) (by rw [List.getElem?_map, hj0]; rfl)) ?_
  walk_at "go"
  obtain ⟨dx, e1, _⟩ := g.m1
  refine go_setZ e1 ?_
  refine ⟨one, l3, J, _, _, "int", "bool", rfl, g.m1, kd_int, kd_bl, .inl ⟨0, _, rfl, by omega, rfl, ?_⟩⟩
  have g := g.set1 (J.set 0 (!j0))
  walk_at "st"
  refine go_ifS ?_
  refine tt_truths rfl rfl g.m2 (by omega) g.b fun H5 s5 => ?_
  have g := g.same s5
  rw [decide_eq_true rfl]
  walk_at "go"
  refine go_ixL (SqL.of g.j) (atI_nat (j := 0) (by rw [List.getElem?_map, hj0]; rfl)) ?_
  walk_at "go"
  obtain ⟨dx, e1, _⟩ := g.m1
  refine go_setZ e1 ?_
  refine ⟨one, l3, _, _, _, "int", "bool", rfl, g.m1, kd_int, kd_bl, .inl ⟨0, _, rfl, by rw [List.length_set]; omega, rfl, ?_⟩⟩
  have g := g.set1 ((J.set 0 (!j0)).set 0 j0)
  rw [set_self hj0] at g ⊢
  walk_at "go"
  refine ⟨pa, A, rfl, SqL.of g.a, h1, h2, fun gv lg H6 hgv hlg s6 mg => ?_⟩
  have ngo : gv ≠ other := fun z => by
    obtain ⟨dy, e2, _⟩ := g.m2
    rw [z, e2] at hgv; cases hgv
  have nlo : lg ≠ other := fun z => by
    obtain ⟨dy, e2, _⟩ := g.m2
    rw [z, e2] at hlg; cases hlg
  have g := g.same s6
  walk_at "go"
  obtain ⟨dy, e2, _⟩ := g.m2
  refine go_ipO e2 ?_
  refine ⟨other, l2, gv, lg, Z, A, rfl, g.m2, mg, by omega, ?_⟩
  rw [if_pos le.symm]
  intro l4 H7 hl4 k7 m7
  rw [and_comm_zw, hU] at m7
  have g := (g.swap.new1 k7 hl4 m7).swap
  have mg7 := mg.kept k7 (fun z => ngo (List.mem_singleton.mp z)) (fun z => nlo (List.mem_singleton.mp z))
  have nlg : lg ≠ l4 := by
    obtain ⟨dz, _, e3⟩ := mg
    exact ne_of_none e3 hl4
  have ngl : gv ≠ l4 := by
    obtain ⟨dz, e3, _⟩ := mg
    exact ne_of_none e3 hl4
  walk_at "go"
  refine go_ixL (SqL.of g.u) (atI_nat (j := 0) (by rw [List.getElem?_map, hu0]; rfl)) ?_
  walk_at "go"
  obtain ⟨dy, e2, _⟩ := g.m2
  refine go_setZ e2 ?_
  refine ⟨other, l4, U, _, _, "int", "bool", rfl, g.m2, kd_int, kd_bl, .inl ⟨0, _, rfl, by omega, rfl, ?_⟩⟩
  have g := (g.swap.set1 (U.set 0 (!u0))).swap
  have mg8 : MkAt C gv lg A (upd H7 l4 (.lst ((U.set 0 (!u0)).map V.bl))) := by
    obtain ⟨dz, e3, e4⟩ := mg7
    exact ⟨dz, by rw [upd_ne ngl]; exact e3, by rw [upd_ne nlg]; exact e4⟩
  walk_at "st"
  refine go_ifS ?_
  refine tt_truths rfl rfl mg8 (by omega) g.a fun H8 s8 => ?_
  have g := g.same s8
  rw [decide_eq_true rfl]
  walk_at "go"
  refine go_ixL (SqL.of g.u) (atI_nat (j := 0) (by rw [List.getElem?_map, hu0]; rfl)) ?_
  walk_at "go"
  obtain ⟨dy, e2, _⟩ := g.m2
  refine go_setZ e2 ?_
  refine ⟨other, l4, _, _, _, "int", "bool", rfl, g.m2, kd_int, kd_bl, .inl ⟨0, _, rfl, by rw [List.length_set]; omega, rfl, ?_⟩⟩
  have g := (g.swap.set1 ((U.set 0 (!u0)).set 0 u0)).swap
  rw [set_self hu0] at g ⊢
  with_reducible refine go_ret ?_
  refine go_andV ?_
  refine te_truths rfl rfl g.m2 (by omega) g.u fun H9 s9 => ⟨_, rfl, ?_⟩
  have g := g.same s9
  rw [decide_eq_true rfl]
  refine go_T (go_andV ?_)
  refine te_truths rfl rfl g.m2 (by omega) g.u fun H10 s10 => ⟨_, rfl, ?_⟩
  have g := g.same s10
  rw [decide_eq_true rfl]
  refine go_T (go_andV ?_)
  refine te_truths rfl rfl g.m1 (by omega) g.j fun H11 s11 => ⟨_, rfl, ?_⟩
  have g := g.same s11
  rw [decide_eq_true rfl]
  walk_at "go"
  obtain ⟨dy, e2, _⟩ := g.m2
  obtain ⟨dx, e1, _⟩ := g.m1
  refine go_cmpO e2 (T.ty e1) OwnC.self ?_
  refine ⟨other, l4, one, l3, U, J, rfl, g.m2, g.m1, by omega, fun H12 _ => ⟨_, rfl, ?_⟩⟩
  have e : inside U J = true := by
    unfold inside
    rw [decide_eq_true (by omega), Bool.true_and, ← hU, ← hJ]
    exact in_and_or A Z
  rw [e]
  exact hq H12
end

section
variable {H : Hp} {vs : List V} {Q : VK} {E : XK} {C B PE : Addr}
def zeros (A Z : List Bool) : List Nat := (List.range A.length).filter fun k => A.getD k false && !Z.getD k false
theorem inside_zeros : ∀ (A Z : List Bool), A.length = Z.length → ((zeros A Z).isEmpty) = inside A Z := by
  intro A Z h
  unfold inside zeros
  rw [decide_eq_true h, Bool.true_and, Bool.eq_iff_iff, List.isEmpty_iff, List.filter_eq_nil_iff, List.all_eq_true]
  constructor
  · intro q b hb
    obtain ⟨i, hi, rfl⟩ := List.getElem_of_mem hb
    rw [List.length_zipWith] at hi
    have := q i (List.mem_range.mpr (by omega))
    rw [List.getD_eq_getElem?_getD, List.getD_eq_getElem?_getD, List.getElem?_eq_getElem (show i < A.length by omega), List.getElem?_eq_getElem (show i < Z.length by omega)] at this
    rw [List.getElem_zipWith]
    simp only [Option.getD_some] at this
    cases hA : A[i] <;> cases hZ : Z[i] <;> simp_all
  · intro q i hi
    have hi := List.mem_range.mp hi
    have := q _ (List.getElem_mem (l := List.zipWith (fun x y => y || !x) A Z) (n := i) (by rw [List.length_zipWith]; omega))
    rw [List.getElem_zipWith] at this
    rw [List.getD_eq_getElem?_getD, List.getD_eq_getElem?_getD, List.getElem?_eq_getElem hi, List.getElem?_eq_getElem (show i < Z.length by omega)]
    simp only [Option.getD_some]
    cases hA : A[i] <;> cases hZ : Z[i] <;> simp_all
theorem at_bl {A : List Bool} {k : Nat} (h : k < A.length) : atI (A.map V.bl) (k : Int) = some (.bl (A.getD k false)) :=
  atI_nat (by rw [List.getElem?_map, List.getD_eq_getElem?_getD, List.getElem?_eq_getElem h]; rfl)
/-- [f(a[k], b[k]) for k in range(n)] -/
theorem lc_two {te : TE} {σ : L2.St} {i : Nat} {n : Nat} {D : Addr} {A Z : List Bool} (f : Bool → Bool → Bool) (hA : n = A.length) (hZ : n = Z.length) (hn : n ≤ 64) (hD : H D = none) (hw : ∀ x, wipe ((wipe σ [i]).set i (some x)) [i] = wipe σ [i])
    (he : ∀ (k : Nat) (H' : Hp) (Q' : VK), k < n → Same H H' → Q' (.bl (f (A.getD k false) (Z.getD k false))) H' → te ((wipe σ [i]).set i (some (.int (0 + k)))) H' Q') (q : NewL ((List.zipWith f A Z).map V.bl) H Q) : LcR (Itr 0 n) (gName i) tYes te [i] σ H D Q := by
  refine lcr_range (fun _ => true) (fun v => match v with | .int k => .bl (f (A.getD k.toNat false) (Z.getD k.toNat false)) | _ => .non) hD (by omega) (fun k hk => ?_) fun H' s g => ?_
  · intro H' A' acc Nx s hA' hH hlen kk
    refine go_name ⟨hw _, go_yes (go_T ?_)⟩
    refine he k H' _ hk s ⟨acc, hH, hlen, ?_⟩
    have z := kk H' (Same.refl _)
    simp only [if_true] at z
    have e : ((0 : Int) + (k : Int)).toNat = k := by omega
    rw [e] at z
    exact z
  · refine q D H' hD s ?_
    rw [g, List.filter_eq_self.mpr fun _ _ => rfl, List.map_map]
    congr 2
    apply List.ext_getElem?
    intro i
    rw [List.getElem?_map, List.getElem?_map, List.getElem?_zipWith]
    by_cases hi : i < n
    · rw [List.getElem?_range hi, List.getElem?_eq_getElem (show i < A.length by omega), List.getElem?_eq_getElem (show i < Z.length by omega)]
      have e : ((0 : Int) + (i : Int)).toNat = i := by omega
      show some (V.bl (f (A.getD ((0 : Int) + (i : Int)).toNat false) (Z.getD ((0 : Int) + (i : Int)).toNat false))) = _
      rw [e, List.getD_eq_getElem?_getD, List.getD_eq_getElem?_getD, List.getElem?_eq_getElem (show i < A.length by omega), List.getElem?_eq_getElem (show i < Z.length by omega)]
      rfl
    · rw [List.getElem?_eq_none (by simp; omega), List.getElem?_eq_none (show A.length ≤ i by omega)]
      rfl
end

def t_law_r6 (K : PySem.W.Frag) (a_Marks : Addr) (sp_MarksU_setitemU : Sp) (sp_MarksU_orU : Sp) (sp_MarksU_andU : Sp) (sp_MarksU_leU : Sp) (sp_MarksU_eqU : Sp) (sp__law_pot : Sp) (sp__law_draw : Sp) (sp__law_marks : Sp) (sp__law_truths : Sp) (sp__law_refused : Sp) (sp__law_in_place : Sp) (W : WX) : TS :=
    (tSeq (tAsg (tCallZ sp__law_marks W (tCons (tVar 3) tNil)) (gName 5))
    (tSeq (tAsg (tCallZ sp__law_marks W (tCons (tVar 4) tNil)) (gName 6))
    (tSeq (tAsg (tAndV (tOp (rSame K) (tCB (TP.rLen K) (tCons (tVar 3) tNil)) (tCB (TP.rLen K) (tCons (tVar 4) tNil))) (tOp (rSame K) (tLc (iRng1 (tCons (tCB (TP.rLen K) (tCons (tVar 3) tNil)) tNil)) (gName 13) (tAnd (tB (tOp (rIx K) (tVar 3) (tVar 13))) (tNot (tB (tOp (rIx K) (tVar 4) (tVar 13))))) (tVar 13) [13]) (tLst tNil))) (gName 7))
    (tSeq (tIfS (tOr (tTest (tOp (rUnlike K) (tOpS (rCmpO K a_Marks sp_MarksU_leU W false) (tVar 5) (tVar 6)) (tVar 7))) (tTest (tOp (rUnlike K) (tOpS (rCmpO K a_Marks sp_MarksU_eqU W false) (tVar 5) (tVar 6)) (tOp (rSame K) (tVar 3) (tVar 4))))) (tRet (tC (.bl false))) tNext)
    (tSeq (tIfS (tTest (tOp (rUnlike K) (tCB (TP.rLen K) (tCons (tVar 3) tNil)) (tCB (TP.rLen K) (tCons (tVar 4) tNil)))) (tSeq (tFor (iRng1 (tCons (tC (.int 4)) tNil)) (gName 8) (tIfS (tOr (tTest (tOp (rUnlike K) (tCallZ sp__law_refused W (tCons (tVar 5) (tCons (tVar 6) (tCons (tVar 8) tNil)))) (tLst (tCons (tC .non) (tCons (tC (.bl true)) (tCons (tC (.bl true)) tNil)))))) (tTest (tOp (rUnlike K) (tCallZ sp__law_truths W (tCons (tVar 5) tNil)) (tVar 3)))) (tRet (tC (.bl false))) tNext))
    (tRet (tAndV (tOp (rSame K) (tCallZ sp__law_truths W (tCons (tVar 6) tNil)) (tVar 4)) (tAndV (tNotV (tOpS (rCmpO K a_Marks sp_MarksU_leU W false) (tVar 5) (tVar 6))) (tOpS (rCmpO K a_Marks sp_MarksU_eqU W true) (tVar 5) (tVar 6)))))) tNext)
    (tSeq (tAsg (tLc (iRng1 (tCons (tVar 2) tNil)) (gName 13) tYes (tOrV (tOp (rIx K) (tVar 3) (tVar 13)) (tOp (rIx K) (tVar 4) (tVar 13))) [13]) (gName 9))
    (tSeq (tAsg (tLc (iRng1 (tCons (tVar 2) tNil)) (gName 13) tYes (tAndV (tOp (rIx K) (tVar 3) (tVar 13)) (tOp (rIx K) (tVar 4) (tVar 13))) [13]) (gName 10))
    (tSeq (tAsg (tOpS (rBinO a_Marks sp_MarksU_orU W) (tVar 5) (tVar 6)) (gName 11))
    (tSeq (tAsg (tOpS (rBinO a_Marks sp_MarksU_andU W) (tVar 5) (tVar 6)) (gName 12))
    (tSeq (tIfS (tOr (tTest (tOp (rUnlike K) (tCallZ sp__law_truths W (tCons (tVar 11) tNil)) (tVar 9))) (tOr (tTest (tOp (rUnlike K) (tCallZ sp__law_truths W (tCons (tVar 12) tNil)) (tVar 10))) (tTest (tOp (rUnlike K) (tCallZ sp__law_truths W (tCons (tVar 5) tNil)) (tVar 3))))) (tRet (tC (.bl false))) tNext)
    (tSeq (tAsg (tNotV (tOp (rIx K) (tVar 9) (tC (.int 0)))) (gSubS (tVar 11) (tC (.int 0)) (rSetZ a_Marks sp_MarksU_setitemU W)))
    (tSeq (tIfS (tOr (tTest (tOp (rUnlike K) (tCallZ sp__law_truths W (tCons (tVar 5) tNil)) (tVar 3))) (tOr (tTest (tOp (rUnlike K) (tCallZ sp__law_truths W (tCons (tVar 6) tNil)) (tVar 4))) (tOr (tNot (tTest (tOpS (rCmpO K a_Marks sp_MarksU_leU W false) (tVar 12) (tVar 5)))) (tNot (tTest (tOpS (rCmpO K a_Marks sp_MarksU_leU W false) (tVar 5) (tOpS (rBinO a_Marks sp_MarksU_orU W) (tVar 5) (tVar 6)))))))) (tRet (tC (.bl false))) tNext)
    (tRet (tCallZ sp__law_in_place W (tCons (tVar 5) (tCons (tVar 6) (tCons (tVar 3) (tCons (tVar 4) (tCons (tVar 9) (tCons (tVar 10) tNil))))))))))))))))))))

section
variable {H : Hp} {vs : List V} {Q : VK} {E : XK} {C B PE : Addr}
theorem ints_eq {xs : List Nat} : eqL (xs.map fun k : Nat => V.int (k : Int)) [] = xs.isEmpty := by cases xs <;> rfl
theorem ok_ints {xs : List Nat} : (xs.map fun k : Nat => V.int (k : Int)).all okV = true := by
  rw [List.all_eq_true]
  intro x hx
  obtain ⟨b, _, rfl⟩ := List.mem_map.mp hx
  rfl
def zf (A Z : List Bool) (v : V) : Bool := match v with | .int k => A.getD k.toNat false && !Z.getD k.toNat false | _ => false
theorem zf_int {A Z : List Bool} {k : Nat} : zf A Z (.int k) = (A.getD k false && !Z.getD k false) := by
  show (A.getD ((k : Int)).toNat false && !Z.getD ((k : Int)).toNat false) = _
  rw [Int.toNat_natCast]
theorem in_and : ∀ A Z : List Bool, ((List.zipWith (fun x y => y || !x) (List.zipWith and A Z) A).all id) = true
  | [], _ => by simp
  | _ :: _, [] => by simp
  | a :: A, z :: Z => by
    have ih := in_and A Z
    simp only [List.zipWith_cons_cons, List.all_cons, ih, Bool.and_true]
    cases a <;> cases z <;> rfl
theorem in_or : ∀ A Z : List Bool, A.length = Z.length → ((List.zipWith (fun x y => y || !x) A (List.zipWith or A Z)).all id) = true
  | [], _, _ => by simp
  | _ :: _, [], _ => by simp
  | a :: A, z :: Z, h => by
    have ih := in_or A Z (by simpa using h)
    simp only [List.zipWith_cons_cons, List.all_cons, ih, Bool.and_true]
    cases a <;> cases z <;> rfl
theorem pu_rest (T : OwnC K C) {spP spD : Sp} {v0 v1 : Option V} {pa pb : Addr} {A Z : List Bool} (ha : H pa = some (.lst (A.map V.bl))) (hb : H pb = some (.lst (Z.map V.bl))) (a1 : 1 ≤ A.length) (a2 : A.length ≤ 64) (z1 : 1 ≤ Z.length) (z2 : Z.length ≤ 64) (hq : ∀ H', Q (.bl true) H') :
    t_law_r6 K C (sp_Marks_Usetitem K C B) (sp_both C B or) (sp_both C B and) (sp_Marks_Ule C) (sp_Marks_Ueq K C) spP spD (sp_law_marks K C) (sp_law_truths C) (sp_law_refused C) (sp_in_place C) (wOut E) (dn Q)
      [v0, v1, some (.int A.length), some (.ref pa), some (.ref pb), none, none, none, none, none, none, none, none, none] H := by
  unfold t_law_r6
  walk_at "go"
  refine ⟨pa, A, rfl, SqL.of ha, a1, a2, fun one l1 H1 n1 nl1 s1 m1 => ?_⟩
  walk_at "go"
  refine ⟨pb, Z, rfl, SqL.of (s1 _ _ hb), z1, z2, fun other l2 H2 n2 nl2 s2 m2 => ?_⟩
  have ne : one ≠ other := by obtain ⟨_, e, _⟩ := m1; exact ne_of_none e n2
  have nl : l1 ≠ l2 := by obtain ⟨_, _, e⟩ := m1; exact ne_of_none e nl2
  have m1 := m1.same s2
  have s0 := s1.trans s2
  have ha2 := s0 _ _ ha
  have hb2 := s0 _ _ hb
  have na1 : pa ≠ l1 := ne_of_none ha nl1
  have nb1 : pb ≠ l1 := ne_of_none hb nl1
  have na2 : pa ≠ l2 := ne_of_none (s1 _ _ ha) nl2
  have nb2 : pb ≠ l2 := ne_of_none (s1 _ _ hb) nl2
  clear n1 nl1 n2 nl2 s1 s2 s0
  generalize hG : H2 = G at *
  clear hG
  -- inside
  with_reducible refine go_name ?_
  with_reducible refine go_cut (fun σ' H' => σ' = [v0, v1, some (.int A.length), some (.ref pa), some (.ref pb), some (.ref one), some (.ref other), some (.bl (inside A Z)), none, none, none, none, none, none] ∧ Same G H') (fun key => ?_) ?_
  · walk_at "go"
    refine go_lenL (SqL.of ha2) ?_
    walk_at "go"
    refine go_lenL (SqL.of hb2) ?_
    walk_at "go"
    rw [List.length_map, List.length_map]
    by_cases le : A.length = Z.length
    · rw [decide_eq_true (by rw [le])]
      walk_at "go"
      refine go_lenL (SqL.of ha2) ?_
      walk_at "go"
      rw [List.length_map]
      refine go_rng1 (by omega) (by omega) fun D hD => ?_
      refine lcr_range (zf A Z) id hD (by omega) (fun k hk => ?_) fun H' s g => ?_
      · intro H' A' acc Nx s hA' hH hlen kk
        have e : ((0 : Int) + (k : Int)) = (k : Int) := by omega
        rw [e] at kk ⊢
        have z := kk H' (Same.refl _)
        rw [zf_int] at z
        walk_at "go"
        refine ⟨rfl, ?_⟩
        walk_at "go"
        refine go_ixL (SqL.of (s _ _ ha2)) (at_bl (by omega)) ?_
        walk_at "go"
        cases hA : A.getD k false
        · rw [hA] at z
          walk_at "go"
          exact z
        · rw [hA] at z
          walk_at "go"
          refine go_ixL (SqL.of (s _ _ hb2)) (at_bl (by omega)) ?_
          walk_at "go"
          cases hZ : Z.getD k false
          · rw [hZ] at z
            walk_at "go"
            exact ⟨acc, hH, hlen, z⟩
          · rw [hZ] at z
            walk_at "go"
            exact z
      · walk_at "go"
        refine ⟨by show 0 ≤ sizeLine; decide, fun p hp => ?_⟩
        have e : ((List.filter (zf A Z) (List.map (fun k : Nat => V.int (0 + k)) (List.range (A.length : Int).toNat))).map id) = (zeros A Z).map fun k : Nat => V.int (k : Int) := by
          rw [List.map_id, List.filter_map, Int.toNat_natCast]
          unfold zeros
          congr 1
          · funext k; rw [Int.zero_add]
          · congr 1
            funext k
            show zf A Z (.int ((0 : Int) + (k : Int))) = _
            rw [Int.zero_add, zf_int]
        rw [e] at g
        have nD : D ≠ p := ne_of_none g hp
        refine go_sameLL (SqL.of (by rw [upd_ne nD]; exact g)) (SqL.of upd_same) ok_ints rfl ?_
        rw [ints_eq, inside_zeros A Z le]
        walk_at "st"
        exact key _ _ ⟨rfl, s.trans (Same.new hp)⟩
    · rw [decide_eq_false (by omega)]
      have e : inside A Z = false := by unfold inside; rw [decide_eq_false le, Bool.false_and]
      refine go_F ?_
      with_reducible refine go_name ?_
      exact key _ _ ⟨by rw [e]; rfl, Same.refl _⟩
  rintro σ2 H3 ⟨rfl, s3⟩
  have m1 := m1.same s3
  have m2 := m2.same s3
  have ha3 := s3 _ _ ha2
  have hb3 := s3 _ _ hb2
  obtain ⟨dx, e1, _⟩ := id m1
  obtain ⟨dy, e2, _⟩ := id m2
  walk_at "go"
  refine go_cmpO e1 (T.ty e2) OwnC.self ?_
  refine ⟨one, l1, other, l2, A, Z, rfl, m1, m2, a2, fun H4 s4 => ⟨_, rfl, ?_⟩⟩
  walk_at "go"
  show if (inside A Z != inside A Z) = true then _ else _
  rw [show (inside A Z != inside A Z) = false from by cases inside A Z <;> rfl]
  walk_at "go"
  have m1 := m1.same s4
  have m2 := m2.same s4
  have ha4 := s4 _ _ ha3
  have hb4 := s4 _ _ hb3
  refine go_cmpO (s4 _ _ e1) (T.ty (s4 _ _ e2)) OwnC.self ?_
  refine ⟨one, l1, A, _, rfl, m1, a2, .inl ⟨other, l2, Z, rfl, m2, z2, _, rfl, ?_⟩⟩
  walk_at "go"
  refine go_sameLL (SqL.of ha4) (SqL.of hb4) (ok_bl _) (ok_bl _) ?_
  walk_at "go"
  rw [eqL_bl]
  show if (decide (A = Z) != decide (A = Z)) = true then _ else _
  rw [show (decide (A = Z) != decide (A = Z)) = false from by cases decide (A = Z) <;> rfl]
  walk_at "go"
  refine go_lenL (SqL.of ha4) ?_
  walk_at "go"
  refine go_lenL (SqL.of hb4) ?_
  walk_at "go"
  rw [List.length_map, List.length_map]
  by_cases le : A.length = Z.length
  · rw [decide_eq_true (by rw [le])]
    walk_at "go"
    refine go_rng1 (by omega) (by omega) fun pj hpj => ?_
    refine lc_two (A := A) (Z := Z) or (by omega) (by omega) (by omega) hpj (fun _ => rfl) (fun k H' Q' hk s q => ?_) fun pj H5 npj s5 hJ => ?_
    · walk_at "go"
      rw [Int.zero_add]
      refine go_ixL (SqL.of (s _ _ ha4)) (at_bl (by omega)) ?_
      walk_at "go"
      cases hA : A.getD k false
      · rw [hA] at q
        walk_at "go"
        refine go_ixL (SqL.of (s _ _ hb4)) (at_bl (by omega)) ?_
        exact q
      · rw [hA] at q
        walk_at "go"
        exact q
    have ha5 := s5 _ _ ha4
    have hb5 := s5 _ _ hb4
    walk_at "go"
    refine go_rng1 (by omega) (by omega) fun pc hpc => ?_
    refine lc_two (A := A) (Z := Z) and (by omega) (by omega) (by omega) hpc (fun _ => rfl) (fun k H' Q' hk s q => ?_) fun pc H6 npc s6 hU => ?_
    · walk_at "go"
      rw [Int.zero_add]
      refine go_ixL (SqL.of (s _ _ ha5)) (at_bl (by omega)) ?_
      walk_at "go"
      cases hA : A.getD k false
      · rw [hA] at q
        walk_at "go"
        exact q
      · rw [hA] at q
        walk_at "go"
        refine go_ixL (SqL.of (s _ _ hb5)) (at_bl (by omega)) ?_
        exact q
    have s56 := s5.trans s6
    have g : Stg C one other pa pb pj pc l1 l2 A Z (List.zipWith or A Z) (List.zipWith and A Z) A Z H6 := by
      have w1 : ∀ {p : Addr}, H4 p = none → p ≠ l1 := fun {p} h => by
        obtain ⟨_, _, e⟩ := m1
        exact (ne_of_none e h).symm
      have w2 : ∀ {p : Addr}, H4 p = none → p ≠ l2 := fun {p} h => by
        obtain ⟨_, _, e⟩ := m2
        exact (ne_of_none e h).symm
      exact ⟨m1.same s56, m2.same s56, s56 _ _ ha4, s56 _ _ hb4, s6 _ _ hJ, hU, ne, nl, ⟨na1, nb1, w1 npj, w1 (s5.free npc)⟩, ⟨na2, nb2, w2 npj, w2 (s5.free npc)⟩⟩
    have lJ : (List.zipWith or A Z).length = A.length := zw_len or le
    have lU : (List.zipWith and A Z).length = A.length := zw_len and le
    clear hJ hU npj npc s5 s6 s56 ha5 hb5
    walk_at "go"
    obtain ⟨dx, e1, _⟩ := g.m1
    obtain ⟨dy, e2, _⟩ := g.m2
    refine go_binO e1 e2 ?_
    refine ⟨one, l1, other, l2, A, Z, rfl, g.m1, g.m2, a1, a2, ?_⟩
    rw [if_pos le]
    intro x3 l3 H7 n3 nl3 s7 m3
    have w3 : ∀ {p : Addr} {o : HO}, H6 p = some o → p ≠ l3 := fun {p o} h => ne_of_none h nl3
    have q1 : pa ≠ l3 := w3 g.a
    have q2 : pb ≠ l3 := w3 g.b
    have q3 : pj ≠ l3 := w3 g.j
    have q4 : pc ≠ l3 := w3 g.u
    have q5 : one ≠ l3 := w3 e1
    have q6 : other ≠ l3 := w3 e2
    have q7 : l1 ≠ l3 := by obtain ⟨_, _, e⟩ := g.m1; exact w3 e
    have q8 : l2 ≠ l3 := by obtain ⟨_, _, e⟩ := g.m2; exact w3 e
    have g := g.same s7
    walk_at "go"
    refine go_binO (s7 _ _ e1) (s7 _ _ e2) ?_
    refine ⟨one, l1, other, l2, A, Z, rfl, g.m1, g.m2, a1, a2, ?_⟩
    rw [if_pos le]
    intro x4 l4 H8 n4 nl4 s8 m4
    have q9 : x4 ≠ l3 := by obtain ⟨_, _, e⟩ := m3; exact (ne_of_none e n4).symm
    have q10 : l4 ≠ l3 := by obtain ⟨_, _, e⟩ := m3; exact (ne_of_none e nl4).symm
    have g := g.same s8
    have m3 := m3.same s8
    walk_at "st"
    refine go_ifS (go_or ?_)
    refine tt_truths rfl rfl m3 (by omega) g.j fun H9 s9 => ?_
    have g := g.same s9
    have m3 := m3.same s9
    have m4 := m4.same s9
    rw [decide_eq_true rfl]
    refine go_nT (go_or ?_)
    refine tt_truths rfl rfl m4 (by omega) g.u fun H10 s10 => ?_
    have g := g.same s10
    have m3 := m3.same s10
    have m4 := m4.same s10
    rw [decide_eq_true rfl]
    refine go_nT ?_
    refine tt_truths rfl rfl g.m1 (by omega) g.a fun H11 s11 => ?_
    have g := g.same s11
    have m3 := m3.same s11
    have m4 := m4.same s11
    rw [decide_eq_true rfl]
    obtain ⟨j0, hj0⟩ : ∃ b, (List.zipWith or A Z)[0]? = some b := ⟨_, List.getElem?_eq_getElem (by omega)⟩
    walk_at "go"
    refine go_ixL (SqL.of g.j) (atI_nat (j := 0) (by rw [List.getElem?_map, hj0]; rfl)) ?_
    walk_at "go"
    obtain ⟨dz, e3, _⟩ := id m3
    refine go_setZ e3 ?_
    refine ⟨x3, l3, _, _, _, "int", "bool", rfl, m3, kd_int, kd_bl, .inl ⟨0, _, rfl, by omega, rfl, ?_⟩⟩
    have g : Stg C one other pa pb pj pc l1 l2 A Z (List.zipWith or A Z) (List.zipWith and A Z) A Z (upd H11 l3 (.lst (((List.zipWith or A Z).set 0 (!j0)).map V.bl))) := by
      obtain ⟨⟨dx, h1, h2⟩, ⟨dy, h3, h4⟩, a, b, j, u, ne, nl, n1, n2⟩ := g
      exact ⟨⟨dx, by rw [upd_ne q5]; exact h1, by rw [upd_ne q7]; exact h2⟩, ⟨dy, by rw [upd_ne q6]; exact h3, by rw [upd_ne q8]; exact h4⟩, by rw [upd_ne q1]; exact a, by rw [upd_ne q2]; exact b, by rw [upd_ne q3]; exact j, by rw [upd_ne q4]; exact u, ne, nl, n1, n2⟩
    have m4 : MkAt C x4 l4 (List.zipWith and A Z) (upd H11 l3 (.lst (((List.zipWith or A Z).set 0 (!j0)).map V.bl))) := by
      obtain ⟨dw, h1, h2⟩ := m4
      exact ⟨dw, by rw [upd_ne q9]; exact h1, by rw [upd_ne q10]; exact h2⟩
    walk_at "st"
    refine go_ifS (go_or ?_)
    refine tt_truths rfl rfl g.m1 (by omega) g.a fun H12 s12 => ?_
    have g := g.same s12
    have m4 := m4.same s12
    rw [decide_eq_true rfl]
    refine go_nT (go_or ?_)
    refine tt_truths rfl rfl g.m2 (by omega) g.b fun H13 s13 => ?_
    have g := g.same s13
    have m4 := m4.same s13
    rw [decide_eq_true rfl]
    refine go_nT ?_
    walk_at "go"
    obtain ⟨dx, e1, _⟩ := g.m1
    obtain ⟨dy, e2, _⟩ := g.m2
    obtain ⟨dw, e4, _⟩ := id m4
    refine go_cmpO e4 (T.ty e1) OwnC.self ?_
    refine ⟨x4, l4, one, l1, _, A, rfl, m4, g.m1, by omega, fun H14 s14 => ⟨_, rfl, ?_⟩⟩
    have g := g.same s14
    have i1 : inside (List.zipWith and A Z) A = true := by
      unfold inside
      rw [decide_eq_true lU, Bool.true_and]
      exact in_and A Z
    rw [i1]
    walk_at "go"
    show if (!true) = true then _ else _
    walk_at "go"
    refine go_binO (s14 _ _ e1) (s14 _ _ e2) ?_
    refine ⟨one, l1, other, l2, A, Z, rfl, g.m1, g.m2, a1, a2, ?_⟩
    rw [if_pos le]
    intro x5 l5 H15 n5 nl5 s15 m5
    have g := g.same s15
    obtain ⟨dv, e5, _⟩ := id m5
    refine go_cmpO (s15 _ _ (s14 _ _ e1)) (T.ty e5) OwnC.self ?_
    refine ⟨one, l1, x5, l5, A, _, rfl, g.m1, m5, by omega, fun H16 s16 => ⟨_, rfl, ?_⟩⟩
    have g := g.same s16
    have i2 : inside A (List.zipWith or A Z) = true := by
      unfold inside
      rw [decide_eq_true lJ.symm, Bool.true_and]
      exact in_or A Z le
    rw [i2]
    walk_at "go"
    show if (!true) = true then _ else _
    walk_at "go"
    exact ⟨one, other, pa, pb, pj, pc, l1, l2, A, Z, rfl, g, le, a1, a2, hq⟩
  · rw [decide_eq_false (by omega)]
    walk_at "go"
    refine go_rng1 (by omega) (by omega) ?_
    refine for_range (lo := 0) (n := 4) (fun i σ H' => ∃ w, σ = [v0, v1, some (.int A.length), some (.ref pa), some (.ref pb), some (.ref one), some (.ref other), some (.bl (inside A Z)), w, none, none, none, none, none] ∧ Same H4 H') ⟨none, rfl, Same.refl _⟩ ?_ ?_
    · rintro i σ H5 hi ⟨w, rfl, s5⟩
      walk_at "go"
      refine ⟨one, l1, other, l2, A, Z, _, rfl, m1.same s5, m2.same s5, a1, a2, le, fun p H6 hp s6 h6 => ?_⟩
      walk_at "go"
      refine ⟨by show 3 ≤ sizeLine; decide, fun p2 hp2 => ?_⟩
      have np : p ≠ p2 := ne_of_none h6 hp2
      refine go_unLL (SqL.of (by rw [upd_ne np]; exact h6)) (SqL.of upd_same) rfl rfl ?_
      walk_at "go"
      show if (!true) = true then _ else _
      refine go_nT ?_
      have s7 := (s5.trans s6).trans (Same.new (o := .lst [.non, .bl true, .bl true]) hp2)
      refine tt_truths rfl rfl (m1.same s7) (by omega) (s7 _ _ ha4) fun H8 s8 => ?_
      rw [decide_eq_true rfl]
      walk_at "go"
      exact ⟨_, rfl, s7.trans s8⟩
    · rintro σ H5 ⟨w, rfl, s5⟩
      have m1 := m1.same s5
      have m2 := m2.same s5
      with_reducible refine go_ret ?_
      refine go_andV ?_
      refine te_truths rfl rfl m2 (by omega) (s5 _ _ hb4) fun H6 s6 => ⟨_, rfl, ?_⟩
      rw [decide_eq_true rfl]
      walk_at "go"
      have m1 := m1.same s6
      have m2 := m2.same s6
      obtain ⟨dx, e1, _⟩ := id m1
      obtain ⟨dy, e2, _⟩ := id m2
      refine go_cmpO e1 (T.ty e2) OwnC.self ?_
      refine ⟨one, l1, other, l2, A, Z, rfl, m1, m2, a2, fun H7 s7 => ⟨_, rfl, ?_⟩⟩
      have e : inside A Z = false := by unfold inside; rw [decide_eq_false le, Bool.false_and]
      rw [e]
      walk_at "go"
      show if (!false) = true then _ else _
      walk_at "go"
      refine go_cmpO (s7 _ _ e1) (T.ty (s7 _ _ e2)) OwnC.self ?_
      refine ⟨one, l1, A, _, rfl, m1.same s7, a2, .inl ⟨other, l2, Z, rfl, m2.same s7, z2, _, rfl, ?_⟩⟩
      rw [decide_eq_false fun z => le (by rw [z])]
      exact hq _
end

section
variable {H : Hp} {vs : List V} {Q : VK} {E : XK} {C B PE : Addr}
def sp_law (K : PySem.W.Frag) : Sp := fun vs H Q _ => ∃ (a : Addr) (ns : List Int), vs = [.ref a] ∧ SqL K H a (ns.map V.int) ∧ ∀ H', Q (.bl true) H'
theorem pu_law (T : OwnC K C) (h : sp_law K vs H Q E) : t_law K C (sp_Marks_Usetitem K C B) (sp_both C B or) (sp_both C B and) (sp_Marks_Ule C) (sp_Marks_Ueq K C) (sp_pot K) sp_draw (sp_law_marks K C) (sp_law_truths C) (sp_law_refused C) (sp_in_place C) (wOut E) (dn Q) (start N_law vs) H := by
  obtain ⟨a, ns, rfl, hS, hq⟩ := h
  unfold t_law
  walk_at "go"
  refine ⟨a, ns, rfl, hS, fun pot H0 _ _ hp0 => ?_⟩
  walk_at "go"
  refine ⟨pot, _, _, rfl, by decide, by decide, hp0, fun r1 H1 r10 r11 hp1 => ?_⟩
  walk_at "go"
  refine ⟨pot, _, _, rfl, by decide, by decide, hp1, fun r2 H2 r20 r21 hp2 => ?_⟩
  walk_at "go"
  refine ⟨by show 3 ≤ sizeLine; decide, fun p hp => ?_⟩
  obtain ⟨R3, hp3, _, n3⟩ := hp2.grow (Same.new (o := .lst [.int (1 + r1), .int 64, .int (1 + r2)]) hp)
  have g3 := n3 _ _ hp upd_same
  walk_at "go"
  refine ⟨pot, _, R3, rfl, by decide, by decide, hp3, fun r3 H4 r30 r31 hp4 => ?_⟩
  obtain ⟨m, hm, m1, m2⟩ : ∃ m : Nat, atI [V.int (1 + r1), .int 64, .int (1 + r2)] r3 = some (.int m) ∧ 1 ≤ m ∧ m ≤ 64 := by
    have : r3 = 0 ∨ r3 = 1 ∨ r3 = 2 := by omega
    rcases this with rfl | rfl | rfl
    · refine ⟨(1 + r1).toNat, ?_, by omega, by omega⟩
      rw [Int.toNat_of_nonneg (by omega)]; rfl
    · exact ⟨64, rfl, by omega, by omega⟩
    · refine ⟨(1 + r2).toNat, ?_, by omega, by omega⟩
      rw [Int.toNat_of_nonneg (by omega)]; rfl
  refine go_ixL (SqL.of (hp4.same _ _ g3)) hm ?_
  walk_at "go"
  clear hm g3 n3 r10 r11 r20 r21 r30 r31
  refine go_rng1 (by omega) (by omega) fun D hD => ?_
  refine lcr_draws (fun v => ∃ b, v = .bl b) hp4 hD (by omega) (fun k R' H' acc Nx hk hp' s hacc hlen kk => ?_) fun as R5 H5 las pas hp5 s5 g5 => ?_
  · walk_at "go"
    refine ⟨rfl, ?_⟩
    walk_at "go"
    refine ⟨pot, _, R', rfl, by decide, by decide, hp', fun r H2 r0 r1 hp2 => ?_⟩
    walk_at "go"
    exact ⟨acc, hp2.same _ _ hacc, hlen, kk _ R' H2 ⟨_, rfl⟩ hp2 s hacc⟩
  obtain ⟨A, rfl⟩ := bls_of pas
  rw [List.length_map, Int.toNat_natCast] at las
  walk_at "go"
  refine go_rng1 (by omega) (by omega) fun D2 hD2 => ?_
  refine lcr_draws (fun v => ∃ b, v = .bl b) hp5 hD2 (by omega) (fun k R' H' acc Nx hk hp' s hacc hlen kk => ?_) fun zs R6 H6 lzs pzs hp6 s6 g6 => ?_
  · walk_at "go"
    refine ⟨rfl, ?_⟩
    walk_at "go"
    refine ⟨pot, _, R', rfl, by decide, by decide, hp', fun r H2 r0 r1 hp2 => ?_⟩
    walk_at "go"
    exact ⟨acc, hp2.same _ _ hacc, hlen, kk _ R' H2 ⟨_, rfl⟩ hp2 s hacc⟩
  obtain ⟨Z, rfl⟩ := bls_of pzs
  rw [List.length_map, Int.toNat_natCast] at lzs
  have g5 := s6 _ _ g5
  with_reducible refine go_name ?_
  with_reducible refine go_cut (fun σ' H' => ∃ (pb : Addr) (Z' : List Bool) (R' : Hp), σ' = [some (.ref a), some (.ref pot), some (.int m), some (.ref D), some (.ref pb), none, none, none, none, none, none, none, none, none] ∧ PotAt pot R' H' ∧ R' D = some (.lst (A.map V.bl)) ∧ R' pb = some (.lst (Z'.map V.bl)) ∧ Z'.length = m) (fun key => ?_) ?_
  · walk_at "go"
    refine ⟨pot, _, R6, rfl, by decide, by decide, hp6, fun r H7 r0 r1 hp7 => ?_⟩
    walk_at "go"
    refine ite2 (fun c => ?_) (fun c => ?_)
    · walk_at "go"
      refine go_rng1 (by omega) (by omega) fun D3 hD3 => ?_
      have ha7 := hp7.same _ _ g5
      have hb7 := hp7.same _ _ g6
      refine lc_two (A := A) (Z := Z) or (by omega) (by omega) (by omega) hD3 (fun _ => rfl) (fun k H' Q' hk s q => ?_) fun pj H8 npj s8 hJ => ?_
      · walk_at "go"
        rw [Int.zero_add]
        refine go_ixL (SqL.of (s _ _ ha7)) (at_bl (by omega)) ?_
        walk_at "go"
        cases hA : A.getD k false
        · rw [hA] at q
          walk_at "go"
          refine go_ixL (SqL.of (s _ _ hb7)) (at_bl (by omega)) ?_
          exact q
        · rw [hA] at q
          walk_at "go"
          exact q
      obtain ⟨R8, hp8, t8, n8⟩ := hp7.grow s8
      with_reducible refine go_name ?_
      exact key _ _ ⟨pj, List.zipWith or A Z, R8, rfl, hp8, t8 _ _ g5, n8 _ _ npj hJ, by rw [List.length_zipWith]; omega⟩
    · with_reducible refine go_next ?_
      exact key _ _ ⟨D2, Z, R6, rfl, hp7, g5, g6, lzs⟩
  rintro σ7 H7 ⟨pb, Z', R7, rfl, hp7, ga7, gb7, lz7⟩
  with_reducible refine go_cut (fun σ' H' => ∃ (pb : Addr) (Z' : List Bool), σ' = [some (.ref a), some (.ref pot), some (.int m), some (.ref D), some (.ref pb), none, none, none, none, none, none, none, none, none] ∧ H' D = some (.lst (A.map V.bl)) ∧ H' pb = some (.lst (Z'.map V.bl)) ∧ 1 ≤ Z'.length ∧ Z'.length ≤ 64) (fun key => ?_) ?_
  · walk_at "go"
    refine ⟨pot, _, R7, rfl, by decide, by decide, hp7, fun r H8 r0 r1 hp8 => ?_⟩
    walk_at "go"
    have ha8 := hp8.same _ _ ga7
    have hb8 := hp8.same _ _ gb7
    refine ite2 (fun c => ?_) (fun c => ?_)
    · walk_at "go"
      have cd : cutV (Z'.map V.bl) (some 1) none = (Z'.drop 1).map V.bl := by rw [cut_drop (by decide), List.map_drop]; rfl
      refine go_slL (SqL.of hb8) fun p1 hp1 => ?_
      rw [cd]
      have s1 : Same H8 (upd H8 p1 (.lst ((Z'.drop 1).map V.bl))) := Same.new hp1
      walk_at "go"
      have fin : ∀ (H9 : Hp) (p2 : Addr) (ys : List Bool), Same (upd H8 p1 (.lst ((Z'.drop 1).map V.bl))) H9 → H9 p2 = some (.lst (ys.map V.bl)) → 1 ≤ (Z'.drop 1).length + ys.length → (Z'.drop 1).length + ys.length ≤ 64 →
          rPlus (.ref p1) (.ref p2) H9 fun x H1 => gName 4 x [some (.ref a), some (.ref pot), some (.int m), some (.ref D), some (.ref pb), none, none, none, none, none, none, none, none, none] H1 (t_law_r6 K C (sp_Marks_Usetitem K C B) (sp_both C B or) (sp_both C B and) (sp_Marks_Ule C) (sp_Marks_Ueq K C) (sp_pot K) sp_draw (sp_law_marks K C) (sp_law_truths C) (sp_law_refused C) (sp_in_place C) (wOut E) (dn Q)) := by
        intro H9 p2 ys s9 h9 l1 l2
        refine go_plusL (s9 _ _ upd_same) h9 (sz1000 (by rw [List.length_map, List.length_map]; omega)) fun p3 hp3 => ?_
        rw [← List.map_append]
        with_reducible refine go_name ?_
        exact key _ _ ⟨p3, Z'.drop 1 ++ ys, rfl, Same.new hp3 _ _ (s9 _ _ (s1 _ _ ha8)), upd_same, by rw [List.length_append]; omega, by rw [List.length_append]; omega⟩
      have ld : (Z'.drop 1).length = m - 1 := by rw [List.length_drop, lz7]
      refine ite2 (fun c2 => ?_) (fun c2 => ?_)
      · have m3 : (m : Int) < 64 := of_decide_eq_true c2
        walk_at "go"
        refine ⟨by show 2 ≤ sizeLine; decide, fun p2 hp2 => ?_⟩
        exact fin _ p2 [true, true] (Same.new hp2) upd_same (by show 1 ≤ _ + 2; omega) (by show _ + 2 ≤ 64; omega)
      · have m3 : m = 64 := by
          rw [Bool.not_eq_true] at c2
          have := of_decide_eq_false c2
          omega
        walk_at "go"
        refine go_slL (SqL.of (s1 _ _ hb8)) fun p2 hp2 => ?_
        rw [cd]
        have s2 : Same (upd H8 p1 (.lst ((Z'.drop 1).map V.bl))) (upd (upd H8 p1 (.lst ((Z'.drop 1).map V.bl))) p2 (.lst ((Z'.drop 1).map V.bl))) := Same.new hp2
        walk_at "go"
        refine ⟨by show 0 ≤ sizeLine; decide, fun p3 hp3 => ?_⟩
        have s3 := s2.trans (Same.new (o := .lst []) hp3)
        have ne3 : p2 ≠ p3 := ne_of_none upd_same hp3
        refine go_sameLL (SqL.of (by rw [upd_ne ne3]; exact upd_same)) (SqL.of upd_same) (ok_bl _) rfl ?_
        have e0 : eqL ((Z'.drop 1).map V.bl) [] = false := by
          cases e : Z'.drop 1 with
          | nil => rw [e] at ld; simp at ld; omega
          | cons x r => rfl
        rw [e0]
        walk_at "go"
        refine ⟨by show 0 ≤ sizeLine; decide, fun p4 hp4 => ?_⟩
        exact fin _ p4 [] (s3.trans (Same.new hp4)) upd_same (by show 1 ≤ _ + 0; omega) (by show _ + 0 ≤ 64; omega)
    · with_reducible refine go_next ?_
      exact key _ _ ⟨pb, Z', rfl, ha8, hb8, by omega, by omega⟩
  rintro σ8 H8 ⟨pb, Z8, rfl, ha8, hb8, z1, z2⟩
  have q := pu_rest (K := K) (B := B) (E := E) (spP := sp_pot K) (spD := sp_draw) (v0 := some (.ref a)) (v1 := some (.ref pot)) T ha8 hb8 (by omega) (by omega) z1 z2 hq
  rw [show ((A.length : Nat) : Int) = (m : Int) by omega] at q
  exact q
end

theorem all_mk {l : PySem.W.OpenLaw} {w : World} {K : PySem.W.Frag} {h : Heap} {mg : Str → Option Value} {fa : Addr} (X : K.In h) (G : h.Ns mainGlobals mg) (hfa : mg "law" = some (.ref fa))
    {a_Marks : Addr}
    {a_BadMarks : Addr}
    {a_PagesError : Addr}
    {t_MOST_PAGES : Tok}
    {nm_BadMarks q_BadMarks : Str} {N_BadMarks : Addr} {bs_BadMarks bm_BadMarks : List Value} {sn_BadMarks : List Str} {sub_BadMarks : List Value} {ab_BadMarks : Bool} {col_BadMarks : Option Bool} {dd_BadMarks : Option Addr} {k0_BadMarks k1_BadMarks k2_BadMarks k3_BadMarks k5_BadMarks : Option Value}
    {fi_BadMarks : Addr}
    {oc_BadMarks kV_BadMarks dc_BadMarks pm_BadMarks ct_BadMarks : Value} {od_BadMarks an_BadMarks : Option Addr} {cda_BadMarks cc_BadMarks : Addr} {sl_BadMarks : Array (Option Value)} {ccl_BadMarks : Value} {cdd_BadMarks : Option Addr} {vs_BadMarks : Array Value} {ccs_BadMarks : Array (Option Value)} {file_BadMarks : Str} {tf_BadMarks : Tok} {cl_BadMarks : Value} {cld_BadMarks : Option Addr} {csl_BadMarks : Array (Option Value)}
    {f_is_integer : Addr} {od_is_integer an_is_integer : Option Addr} {sl_is_integer : Array (Option Value)} {oc_is_integer kV_is_integer dc_is_integer pm_is_integer cd_is_integer ct_is_integer : Value}
    {f_is_many : Addr} {od_is_many an_is_many : Option Addr} {sl_is_many : Array (Option Value)} {oc_is_many kV_is_many dc_is_many pm_is_many cd_is_many ct_is_many : Value}
    {f_MarksU_initU : Addr} {od_MarksU_initU an_MarksU_initU : Option Addr} {sl_MarksU_initU : Array (Option Value)} {oc_MarksU_initU kV_MarksU_initU dc_MarksU_initU pm_MarksU_initU cd_MarksU_initU ct_MarksU_initU : Value}
    {dT_MarksU_initU : Addr} {dO_MarksU_initU : Obj} {dN_MarksU_initU : Nat}
    {f_marks_of : Addr} {od_marks_of an_marks_of : Option Addr} {sl_marks_of : Array (Option Value)} {oc_marks_of kV_marks_of dc_marks_of pm_marks_of cd_marks_of ct_marks_of : Value}
    {f_Marks_check : Addr} {od_Marks_check an_Marks_check : Option Addr} {sl_Marks_check : Array (Option Value)} {oc_Marks_check kV_Marks_check dc_Marks_check pm_Marks_check cd_Marks_check ct_Marks_check : Value}
    {f_Marks_check_mate : Addr} {od_Marks_check_mate an_Marks_check_mate : Option Addr} {sl_Marks_check_mate : Array (Option Value)} {oc_Marks_check_mate kV_Marks_check_mate dc_Marks_check_mate pm_Marks_check_mate cd_Marks_check_mate ct_Marks_check_mate : Value}
    {f_MarksU_lenU : Addr} {od_MarksU_lenU an_MarksU_lenU : Option Addr} {sl_MarksU_lenU : Array (Option Value)} {oc_MarksU_lenU kV_MarksU_lenU dc_MarksU_lenU pm_MarksU_lenU cd_MarksU_lenU ct_MarksU_lenU : Value}
    {f_MarksU_getitemU : Addr} {od_MarksU_getitemU an_MarksU_getitemU : Option Addr} {sl_MarksU_getitemU : Array (Option Value)} {oc_MarksU_getitemU kV_MarksU_getitemU dc_MarksU_getitemU pm_MarksU_getitemU cd_MarksU_getitemU ct_MarksU_getitemU : Value}
    {f_MarksU_setitemU : Addr} {od_MarksU_setitemU an_MarksU_setitemU : Option Addr} {sl_MarksU_setitemU : Array (Option Value)} {oc_MarksU_setitemU kV_MarksU_setitemU dc_MarksU_setitemU pm_MarksU_setitemU cd_MarksU_setitemU ct_MarksU_setitemU : Value}
    {f_MarksU_orU : Addr} {od_MarksU_orU an_MarksU_orU : Option Addr} {sl_MarksU_orU : Array (Option Value)} {oc_MarksU_orU kV_MarksU_orU dc_MarksU_orU pm_MarksU_orU cd_MarksU_orU ct_MarksU_orU : Value}
    {f_MarksU_andU : Addr} {od_MarksU_andU an_MarksU_andU : Option Addr} {sl_MarksU_andU : Array (Option Value)} {oc_MarksU_andU kV_MarksU_andU dc_MarksU_andU pm_MarksU_andU cd_MarksU_andU ct_MarksU_andU : Value}
    {f_MarksU_iorU : Addr} {od_MarksU_iorU an_MarksU_iorU : Option Addr} {sl_MarksU_iorU : Array (Option Value)} {oc_MarksU_iorU kV_MarksU_iorU dc_MarksU_iorU pm_MarksU_iorU cd_MarksU_iorU ct_MarksU_iorU : Value}
    {f_MarksU_iandU : Addr} {od_MarksU_iandU an_MarksU_iandU : Option Addr} {sl_MarksU_iandU : Array (Option Value)} {oc_MarksU_iandU kV_MarksU_iandU dc_MarksU_iandU pm_MarksU_iandU cd_MarksU_iandU ct_MarksU_iandU : Value}
    {f_MarksU_leU : Addr} {od_MarksU_leU an_MarksU_leU : Option Addr} {sl_MarksU_leU : Array (Option Value)} {oc_MarksU_leU kV_MarksU_leU dc_MarksU_leU pm_MarksU_leU cd_MarksU_leU ct_MarksU_leU : Value}
    {f_MarksU_eqU : Addr} {od_MarksU_eqU an_MarksU_eqU : Option Addr} {sl_MarksU_eqU : Array (Option Value)} {oc_MarksU_eqU kV_MarksU_eqU dc_MarksU_eqU pm_MarksU_eqU cd_MarksU_eqU ct_MarksU_eqU : Value}
    {f__law_pot : Addr} {od__law_pot an__law_pot : Option Addr} {sl__law_pot : Array (Option Value)} {oc__law_pot kV__law_pot dc__law_pot pm__law_pot cd__law_pot ct__law_pot : Value}
    {f__law_draw : Addr} {od__law_draw an__law_draw : Option Addr} {sl__law_draw : Array (Option Value)} {oc__law_draw kV__law_draw dc__law_draw pm__law_draw cd__law_draw ct__law_draw : Value}
    {f__law_marks : Addr} {od__law_marks an__law_marks : Option Addr} {sl__law_marks : Array (Option Value)} {oc__law_marks kV__law_marks dc__law_marks pm__law_marks cd__law_marks ct__law_marks : Value}
    {f__law_truths : Addr} {od__law_truths an__law_truths : Option Addr} {sl__law_truths : Array (Option Value)} {oc__law_truths kV__law_truths dc__law_truths pm__law_truths cd__law_truths ct__law_truths : Value}
    {f__law_refused : Addr} {od__law_refused an__law_refused : Option Addr} {sl__law_refused : Array (Option Value)} {oc__law_refused kV__law_refused dc__law_refused pm__law_refused cd__law_refused ct__law_refused : Value}
    {f__law_in_place : Addr} {od__law_in_place an__law_in_place : Option Addr} {sl__law_in_place : Array (Option Value)} {oc__law_in_place kV__law_in_place dc__law_in_place pm__law_in_place cd__law_in_place ct__law_in_place : Value}
    {f_law : Addr} {od_law an_law : Option Addr} {sl_law : Array (Option Value)} {oc_law kV_law dc_law pm_law cd_law ct_law : Value}
    (x_Marks : PySem.W.nsIn K mainGlobals "Marks" = some (some (.ref a_Marks)))
    (x_BadMarks : PySem.W.nsIn K mainGlobals "BadMarks" = some (some (.ref a_BadMarks)))
    (x_PagesError : PySem.W.nsIn K mainGlobals "PagesError" = some (some (.ref a_PagesError)))
    (z_len : PySem.W.nsIn K mainGlobals "len" = some none)
    (z_all : PySem.W.nsIn K mainGlobals "all" = some none)
    (z_isinstance : PySem.W.nsIn K mainGlobals "isinstance" = some none)
    (z_int : PySem.W.nsIn K mainGlobals "int" = some none)
    (z_bool : PySem.W.nsIn K mainGlobals "bool" = some none)
    (z_range : PySem.W.nsIn K mainGlobals "range" = some none)
    (z_list : PySem.W.nsIn K mainGlobals "list" = some none)
    (z_enumerate : PySem.W.nsIn K mainGlobals "enumerate" = some none)
    (z_zip : PySem.W.nsIn K mainGlobals "zip" = some none)
    (z_ValueError : PySem.W.nsIn K mainGlobals "ValueError" = some none)
    (x_MOST_PAGES : PySem.W.nsIn K mainGlobals "MOST_PAGES" = some (some (.int 64 t_MOST_PAGES)))
    (gget : PySem.W.specialIn K (.builtin "object.__class__") "__get__" = some (some (.builtin "getset_descriptor.__get__")))
    (gtak : PySem.W.takesIn K (.builtin "object.__class__") = some true)
    (pg_Marks : PySem.W.plainGet K a_Marks Str.empty = true)
    (hd_Marks : PySem.W.hasDictIn K a_Marks = true)
    (po_Marks : PySem.W.plainOver K a_Marks = true)
    (sa_Marks : PySem.W.findIn K (.ref a_Marks) "__setattr__" = some (some (.builtin "object.__setattr__")))
    (ca_Marks : PySem.W.findIn K (.ref a_Marks) "__class__" = some (some (.builtin "object.__class__")))
    (cm_Marks : PySem.W.mroIn K a_Marks (.type "object") = some true)
    (sf_Marks : PySem.W.selfFirst K a_Marks = true)
    (nq_Marks : PySem.W.noSeq K a_Marks = true)
    (ne_Marks : PySem.W.findIn K (.ref a_Marks) "__ne__" = some (some (.builtin "object.__ne__")))
    (mk_Marks : PySem.W.makesIn K a_Marks = true)
    (kc_Marks : PySem.W.keepIn K (.ref a_Marks) = true)
    (na_Marks_kept : PySem.W.findIn K (.ref a_Marks) "kept" = some none)
    (ec_BadMarks : K.lookup a_BadMarks = some (excClassObj nm_BadMarks q_BadMarks a_BadMarks N_BadMarks bs_BadMarks bm_BadMarks true sn_BadMarks sub_BadMarks ab_BadMarks col_BadMarks dd_BadMarks k0_BadMarks k1_BadMarks k2_BadMarks k3_BadMarks k5_BadMarks "ValueError.__new__"))
    (er_BadMarks : PySem.HandSPX.refsVE bm_BadMarks = true)
    (es_BadMarks : PySem.W.findIn K (.ref a_BadMarks) "__setattr__" = some (some (.builtin "object.__setattr__")))
    (ex_BadMarks : PySem.W.subIn K (.ref a_BadMarks) (.type "BaseException") = some true)
    (et_BadMarks : PySem.W.typeIn K (.ref a_BadMarks) = some (.type "type"))
    (ek_BadMarks : PySem.W.keepIn K (.ref a_BadMarks) = true)
    (eg_BadMarks : PySem.W.findIn K (.ref a_BadMarks) "__getattribute__" = some (some (.builtin "BaseException.__getattribute__")))
    (ey_BadMarks : PySem.W.findIn K (.ref a_BadMarks) "__getattr__" = some none)
    (eh_BadMarks : PySem.W.hasDictIn K a_BadMarks = true)
    (ea_BadMarks : PySem.W.findIn K (.ref a_BadMarks) "__class__" = some (some (.builtin "object.__class__")))
    (eo_BadMarks : PySem.W.mroIn K a_BadMarks (.type "object") = some true)
    (en_BadMarks : PySem.W.findIn K (.ref a_BadMarks) "at" = some none)
    (el_BadMarks : PySem.W.ks_superIn K a_BadMarks a_BadMarks "__init__" = some (some vin))
    (em_BadMarks : PySem.W.mroIn K a_BadMarks (.ref a_BadMarks) = some true)
    (ev_BadMarks : PySem.W.mroIn K a_BadMarks (.type "ValueError") = some true)
    (ei_BadMarks : PySem.W.findIn K (.ref a_BadMarks) "__init__" = some (some (.ref fi_BadMarks)))
    (ej_BadMarks : PySem.W.typeIn K (.ref fi_BadMarks) = some (.type "function"))
    (il_BadMarks : K.lookup fi_BadMarks = some ⟨oc_BadMarks, od_BadMarks, .func (PySem.W.ksFn "__init__" "BadMarks.__init__" (defArgs (inClass (topS 4) 0)) (defBody (inClass (topS 4) 0)) (defScope (inClass (topS 4) 0)) .none kV_BadMarks dc_BadMarks pm_BadMarks an_BadMarks (.ref cda_BadMarks) ct_BadMarks cc_BadMarks), sl_BadMarks⟩)
    (ic_BadMarks : PySem.W.codeIn K (.ref cda_BadMarks) "BadMarks.__init__" = true)
    (id_BadMarks : K.lookup cda_BadMarks = some ⟨ccl_BadMarks, cdd_BadMarks, .fields vs_BadMarks, ccs_BadMarks⟩)
    (ie_BadMarks : vs_BadMarks[2]? = some (.str file_BadMarks tf_BadMarks))
    (if_BadMarks : ((l.prog.main.file : Str) == file_BadMarks) = true)
    (ig_BadMarks : K.lookup cc_BadMarks = some ⟨cl_BadMarks, cld_BadMarks, .cell (some (.ref a_BadMarks)), csl_BadMarks⟩)
    (z_super : PySem.W.nsIn K mainGlobals "super" = some none)
    (z_opq : PySem.W.nsIn K cStatics "thirdparty.any" = some none)
    (z_top : (l.prog.main.scope.names.lookup ("super" : Str)).isSome = false)
    (q_me : PySem.W.exmOne K (.ref a_BadMarks) (.ref a_BadMarks) = some true)
    (q_isP : PySem.W.kitOne K (.ref a_BadMarks) (.ref a_PagesError) = some true)
    (q_isV : PySem.W.kitOne K (.ref a_BadMarks) (.type "ValueError") = some true)
    (a_is_integer : PySem.W.nsIn K mainGlobals "is_integer" = some (some (.ref f_is_integer)))
    (l_is_integer : K.lookup f_is_integer = some ⟨oc_is_integer, od_is_integer, .func (PySem.W.fnOf "is_integer" "is_integer" (defArgs s_is_integer) (defBody s_is_integer) (defScope s_is_integer) .none kV_is_integer dc_is_integer pm_is_integer an_is_integer cd_is_integer ct_is_integer), sl_is_integer⟩)
    (c_is_integer : PySem.W.codeIn K cd_is_integer "is_integer" = true)
    (k_is_integer : PySem.W.keepIn K (.ref f_is_integer) = true)
    (a_is_many : PySem.W.nsIn K mainGlobals "is_many" = some (some (.ref f_is_many)))
    (l_is_many : K.lookup f_is_many = some ⟨oc_is_many, od_is_many, .func (PySem.W.fnOf "is_many" "is_many" (defArgs s_is_many) (defBody s_is_many) (defScope s_is_many) .none kV_is_many dc_is_many pm_is_many an_is_many cd_is_many ct_is_many), sl_is_many⟩)
    (c_is_many : PySem.W.codeIn K cd_is_many "is_many" = true)
    (k_is_many : PySem.W.keepIn K (.ref f_is_many) = true)
    (a_MarksU_initU : PySem.W.findIn K (.ref a_Marks) "__init__" = some (some (.ref f_MarksU_initU)))
    (l_MarksU_initU : K.lookup f_MarksU_initU = some ⟨oc_MarksU_initU, od_MarksU_initU, .func (PySem.W.fnOf "__init__" "Marks.__init__" (defArgs s_MarksU_initU) (defBody s_MarksU_initU) (defScope s_MarksU_initU) (.ref dT_MarksU_initU) kV_MarksU_initU dc_MarksU_initU pm_MarksU_initU an_MarksU_initU cd_MarksU_initU ct_MarksU_initU), sl_MarksU_initU⟩)
    (d1_MarksU_initU : K.lookup dT_MarksU_initU = some dO_MarksU_initU)
    (d2_MarksU_initU : dO_MarksU_initU.data = .seq [.none].toArray dN_MarksU_initU)
    (c_MarksU_initU : PySem.W.codeIn K cd_MarksU_initU "Marks.__init__" = true)
    (k_MarksU_initU : PySem.W.keepIn K (.ref f_MarksU_initU) = true)
    (i_MarksU_initU : PySem.W.isFn K (.ref f_MarksU_initU) = true)
    (j_MarksU_initU : PySem.W.fnIn K f_MarksU_initU = true)
    (a_marks_of : PySem.W.nsIn K mainGlobals "marks_of" = some (some (.ref f_marks_of)))
    (l_marks_of : K.lookup f_marks_of = some ⟨oc_marks_of, od_marks_of, .func (PySem.W.fnOf "marks_of" "marks_of" (defArgs s_marks_of) (defBody s_marks_of) (defScope s_marks_of) .none kV_marks_of dc_marks_of pm_marks_of an_marks_of cd_marks_of ct_marks_of), sl_marks_of⟩)
    (c_marks_of : PySem.W.codeIn K cd_marks_of "marks_of" = true)
    (k_marks_of : PySem.W.keepIn K (.ref f_marks_of) = true)
    (a_Marks_check : PySem.W.findIn K (.ref a_Marks) "check" = some (some (.ref f_Marks_check)))
    (l_Marks_check : K.lookup f_Marks_check = some ⟨oc_Marks_check, od_Marks_check, .func (PySem.W.fnOf "check" "Marks.check" (defArgs s_Marks_check) (defBody s_Marks_check) (defScope s_Marks_check) .none kV_Marks_check dc_Marks_check pm_Marks_check an_Marks_check cd_Marks_check ct_Marks_check), sl_Marks_check⟩)
    (c_Marks_check : PySem.W.codeIn K cd_Marks_check "Marks.check" = true)
    (k_Marks_check : PySem.W.keepIn K (.ref f_Marks_check) = true)
    (i_Marks_check : PySem.W.isFn K (.ref f_Marks_check) = true)
    (j_Marks_check : PySem.W.fnIn K f_Marks_check = true)
    (a_Marks_check_mate : PySem.W.findIn K (.ref a_Marks) "check_mate" = some (some (.ref f_Marks_check_mate)))
    (l_Marks_check_mate : K.lookup f_Marks_check_mate = some ⟨oc_Marks_check_mate, od_Marks_check_mate, .func (PySem.W.fnOf "check_mate" "Marks.check_mate" (defArgs s_Marks_check_mate) (defBody s_Marks_check_mate) (defScope s_Marks_check_mate) .none kV_Marks_check_mate dc_Marks_check_mate pm_Marks_check_mate an_Marks_check_mate cd_Marks_check_mate ct_Marks_check_mate), sl_Marks_check_mate⟩)
    (c_Marks_check_mate : PySem.W.codeIn K cd_Marks_check_mate "Marks.check_mate" = true)
    (k_Marks_check_mate : PySem.W.keepIn K (.ref f_Marks_check_mate) = true)
    (i_Marks_check_mate : PySem.W.isFn K (.ref f_Marks_check_mate) = true)
    (j_Marks_check_mate : PySem.W.fnIn K f_Marks_check_mate = true)
    (a_MarksU_lenU : PySem.W.findIn K (.ref a_Marks) "__len__" = some (some (.ref f_MarksU_lenU)))
    (l_MarksU_lenU : K.lookup f_MarksU_lenU = some ⟨oc_MarksU_lenU, od_MarksU_lenU, .func (PySem.W.fnOf "__len__" "Marks.__len__" (defArgs s_MarksU_lenU) (defBody s_MarksU_lenU) (defScope s_MarksU_lenU) .none kV_MarksU_lenU dc_MarksU_lenU pm_MarksU_lenU an_MarksU_lenU cd_MarksU_lenU ct_MarksU_lenU), sl_MarksU_lenU⟩)
    (c_MarksU_lenU : PySem.W.codeIn K cd_MarksU_lenU "Marks.__len__" = true)
    (k_MarksU_lenU : PySem.W.keepIn K (.ref f_MarksU_lenU) = true)
    (i_MarksU_lenU : PySem.W.isFn K (.ref f_MarksU_lenU) = true)
    (j_MarksU_lenU : PySem.W.fnIn K f_MarksU_lenU = true)
    (a_MarksU_getitemU : PySem.W.findIn K (.ref a_Marks) "__getitem__" = some (some (.ref f_MarksU_getitemU)))
    (l_MarksU_getitemU : K.lookup f_MarksU_getitemU = some ⟨oc_MarksU_getitemU, od_MarksU_getitemU, .func (PySem.W.fnOf "__getitem__" "Marks.__getitem__" (defArgs s_MarksU_getitemU) (defBody s_MarksU_getitemU) (defScope s_MarksU_getitemU) .none kV_MarksU_getitemU dc_MarksU_getitemU pm_MarksU_getitemU an_MarksU_getitemU cd_MarksU_getitemU ct_MarksU_getitemU), sl_MarksU_getitemU⟩)
    (c_MarksU_getitemU : PySem.W.codeIn K cd_MarksU_getitemU "Marks.__getitem__" = true)
    (k_MarksU_getitemU : PySem.W.keepIn K (.ref f_MarksU_getitemU) = true)
    (i_MarksU_getitemU : PySem.W.isFn K (.ref f_MarksU_getitemU) = true)
    (j_MarksU_getitemU : PySem.W.fnIn K f_MarksU_getitemU = true)
    (a_MarksU_setitemU : PySem.W.findIn K (.ref a_Marks) "__setitem__" = some (some (.ref f_MarksU_setitemU)))
    (l_MarksU_setitemU : K.lookup f_MarksU_setitemU = some ⟨oc_MarksU_setitemU, od_MarksU_setitemU, .func (PySem.W.fnOf "__setitem__" "Marks.__setitem__" (defArgs s_MarksU_setitemU) (defBody s_MarksU_setitemU) (defScope s_MarksU_setitemU) .none kV_MarksU_setitemU dc_MarksU_setitemU pm_MarksU_setitemU an_MarksU_setitemU cd_MarksU_setitemU ct_MarksU_setitemU), sl_MarksU_setitemU⟩)
    (c_MarksU_setitemU : PySem.W.codeIn K cd_MarksU_setitemU "Marks.__setitem__" = true)
    (k_MarksU_setitemU : PySem.W.keepIn K (.ref f_MarksU_setitemU) = true)
    (i_MarksU_setitemU : PySem.W.isFn K (.ref f_MarksU_setitemU) = true)
    (j_MarksU_setitemU : PySem.W.fnIn K f_MarksU_setitemU = true)
    (a_MarksU_orU : PySem.W.findIn K (.ref a_Marks) "__or__" = some (some (.ref f_MarksU_orU)))
    (l_MarksU_orU : K.lookup f_MarksU_orU = some ⟨oc_MarksU_orU, od_MarksU_orU, .func (PySem.W.fnOf "__or__" "Marks.__or__" (defArgs s_MarksU_orU) (defBody s_MarksU_orU) (defScope s_MarksU_orU) .none kV_MarksU_orU dc_MarksU_orU pm_MarksU_orU an_MarksU_orU cd_MarksU_orU ct_MarksU_orU), sl_MarksU_orU⟩)
    (c_MarksU_orU : PySem.W.codeIn K cd_MarksU_orU "Marks.__or__" = true)
    (k_MarksU_orU : PySem.W.keepIn K (.ref f_MarksU_orU) = true)
    (i_MarksU_orU : PySem.W.isFn K (.ref f_MarksU_orU) = true)
    (j_MarksU_orU : PySem.W.fnIn K f_MarksU_orU = true)
    (a_MarksU_andU : PySem.W.findIn K (.ref a_Marks) "__and__" = some (some (.ref f_MarksU_andU)))
    (l_MarksU_andU : K.lookup f_MarksU_andU = some ⟨oc_MarksU_andU, od_MarksU_andU, .func (PySem.W.fnOf "__and__" "Marks.__and__" (defArgs s_MarksU_andU) (defBody s_MarksU_andU) (defScope s_MarksU_andU) .none kV_MarksU_andU dc_MarksU_andU pm_MarksU_andU an_MarksU_andU cd_MarksU_andU ct_MarksU_andU), sl_MarksU_andU⟩)
    (c_MarksU_andU : PySem.W.codeIn K cd_MarksU_andU "Marks.__and__" = true)
    (k_MarksU_andU : PySem.W.keepIn K (.ref f_MarksU_andU) = true)
    (i_MarksU_andU : PySem.W.isFn K (.ref f_MarksU_andU) = true)
    (j_MarksU_andU : PySem.W.fnIn K f_MarksU_andU = true)
    (a_MarksU_iorU : PySem.W.findIn K (.ref a_Marks) "__ior__" = some (some (.ref f_MarksU_iorU)))
    (l_MarksU_iorU : K.lookup f_MarksU_iorU = some ⟨oc_MarksU_iorU, od_MarksU_iorU, .func (PySem.W.fnOf "__ior__" "Marks.__ior__" (defArgs s_MarksU_iorU) (defBody s_MarksU_iorU) (defScope s_MarksU_iorU) .none kV_MarksU_iorU dc_MarksU_iorU pm_MarksU_iorU an_MarksU_iorU cd_MarksU_iorU ct_MarksU_iorU), sl_MarksU_iorU⟩)
    (c_MarksU_iorU : PySem.W.codeIn K cd_MarksU_iorU "Marks.__ior__" = true)
    (k_MarksU_iorU : PySem.W.keepIn K (.ref f_MarksU_iorU) = true)
    (i_MarksU_iorU : PySem.W.isFn K (.ref f_MarksU_iorU) = true)
    (j_MarksU_iorU : PySem.W.fnIn K f_MarksU_iorU = true)
    (a_MarksU_iandU : PySem.W.findIn K (.ref a_Marks) "__iand__" = some (some (.ref f_MarksU_iandU)))
    (l_MarksU_iandU : K.lookup f_MarksU_iandU = some ⟨oc_MarksU_iandU, od_MarksU_iandU, .func (PySem.W.fnOf "__iand__" "Marks.__iand__" (defArgs s_MarksU_iandU) (defBody s_MarksU_iandU) (defScope s_MarksU_iandU) .none kV_MarksU_iandU dc_MarksU_iandU pm_MarksU_iandU an_MarksU_iandU cd_MarksU_iandU ct_MarksU_iandU), sl_MarksU_iandU⟩)
    (c_MarksU_iandU : PySem.W.codeIn K cd_MarksU_iandU "Marks.__iand__" = true)
    (k_MarksU_iandU : PySem.W.keepIn K (.ref f_MarksU_iandU) = true)
    (i_MarksU_iandU : PySem.W.isFn K (.ref f_MarksU_iandU) = true)
    (j_MarksU_iandU : PySem.W.fnIn K f_MarksU_iandU = true)
    (a_MarksU_leU : PySem.W.findIn K (.ref a_Marks) "__le__" = some (some (.ref f_MarksU_leU)))
    (l_MarksU_leU : K.lookup f_MarksU_leU = some ⟨oc_MarksU_leU, od_MarksU_leU, .func (PySem.W.fnOf "__le__" "Marks.__le__" (defArgs s_MarksU_leU) (defBody s_MarksU_leU) (defScope s_MarksU_leU) .none kV_MarksU_leU dc_MarksU_leU pm_MarksU_leU an_MarksU_leU cd_MarksU_leU ct_MarksU_leU), sl_MarksU_leU⟩)
    (c_MarksU_leU : PySem.W.codeIn K cd_MarksU_leU "Marks.__le__" = true)
    (k_MarksU_leU : PySem.W.keepIn K (.ref f_MarksU_leU) = true)
    (i_MarksU_leU : PySem.W.isFn K (.ref f_MarksU_leU) = true)
    (j_MarksU_leU : PySem.W.fnIn K f_MarksU_leU = true)
    (a_MarksU_eqU : PySem.W.findIn K (.ref a_Marks) "__eq__" = some (some (.ref f_MarksU_eqU)))
    (l_MarksU_eqU : K.lookup f_MarksU_eqU = some ⟨oc_MarksU_eqU, od_MarksU_eqU, .func (PySem.W.fnOf "__eq__" "Marks.__eq__" (defArgs s_MarksU_eqU) (defBody s_MarksU_eqU) (defScope s_MarksU_eqU) .none kV_MarksU_eqU dc_MarksU_eqU pm_MarksU_eqU an_MarksU_eqU cd_MarksU_eqU ct_MarksU_eqU), sl_MarksU_eqU⟩)
    (c_MarksU_eqU : PySem.W.codeIn K cd_MarksU_eqU "Marks.__eq__" = true)
    (k_MarksU_eqU : PySem.W.keepIn K (.ref f_MarksU_eqU) = true)
    (i_MarksU_eqU : PySem.W.isFn K (.ref f_MarksU_eqU) = true)
    (j_MarksU_eqU : PySem.W.fnIn K f_MarksU_eqU = true)
    (a__law_pot : PySem.W.nsIn K mainGlobals "_law_pot" = some (some (.ref f__law_pot)))
    (l__law_pot : K.lookup f__law_pot = some ⟨oc__law_pot, od__law_pot, .func (PySem.W.fnOf "_law_pot" "_law_pot" (defArgs s__law_pot) (defBody s__law_pot) (defScope s__law_pot) .none kV__law_pot dc__law_pot pm__law_pot an__law_pot cd__law_pot ct__law_pot), sl__law_pot⟩)
    (c__law_pot : PySem.W.codeIn K cd__law_pot "_law_pot" = true)
    (k__law_pot : PySem.W.keepIn K (.ref f__law_pot) = true)
    (a__law_draw : PySem.W.nsIn K mainGlobals "_law_draw" = some (some (.ref f__law_draw)))
    (l__law_draw : K.lookup f__law_draw = some ⟨oc__law_draw, od__law_draw, .func (PySem.W.fnOf "_law_draw" "_law_draw" (defArgs s__law_draw) (defBody s__law_draw) (defScope s__law_draw) .none kV__law_draw dc__law_draw pm__law_draw an__law_draw cd__law_draw ct__law_draw), sl__law_draw⟩)
    (c__law_draw : PySem.W.codeIn K cd__law_draw "_law_draw" = true)
    (k__law_draw : PySem.W.keepIn K (.ref f__law_draw) = true)
    (a__law_marks : PySem.W.nsIn K mainGlobals "_law_marks" = some (some (.ref f__law_marks)))
    (l__law_marks : K.lookup f__law_marks = some ⟨oc__law_marks, od__law_marks, .func (PySem.W.fnOf "_law_marks" "_law_marks" (defArgs s__law_marks) (defBody s__law_marks) (defScope s__law_marks) .none kV__law_marks dc__law_marks pm__law_marks an__law_marks cd__law_marks ct__law_marks), sl__law_marks⟩)
    (c__law_marks : PySem.W.codeIn K cd__law_marks "_law_marks" = true)
    (k__law_marks : PySem.W.keepIn K (.ref f__law_marks) = true)
    (a__law_truths : PySem.W.nsIn K mainGlobals "_law_truths" = some (some (.ref f__law_truths)))
    (l__law_truths : K.lookup f__law_truths = some ⟨oc__law_truths, od__law_truths, .func (PySem.W.fnOf "_law_truths" "_law_truths" (defArgs s__law_truths) (defBody s__law_truths) (defScope s__law_truths) .none kV__law_truths dc__law_truths pm__law_truths an__law_truths cd__law_truths ct__law_truths), sl__law_truths⟩)
    (c__law_truths : PySem.W.codeIn K cd__law_truths "_law_truths" = true)
    (k__law_truths : PySem.W.keepIn K (.ref f__law_truths) = true)
    (a__law_refused : PySem.W.nsIn K mainGlobals "_law_refused" = some (some (.ref f__law_refused)))
    (l__law_refused : K.lookup f__law_refused = some ⟨oc__law_refused, od__law_refused, .func (PySem.W.fnOf "_law_refused" "_law_refused" (defArgs s__law_refused) (defBody s__law_refused) (defScope s__law_refused) .none kV__law_refused dc__law_refused pm__law_refused an__law_refused cd__law_refused ct__law_refused), sl__law_refused⟩)
    (c__law_refused : PySem.W.codeIn K cd__law_refused "_law_refused" = true)
    (k__law_refused : PySem.W.keepIn K (.ref f__law_refused) = true)
    (a__law_in_place : PySem.W.nsIn K mainGlobals "_law_in_place" = some (some (.ref f__law_in_place)))
    (l__law_in_place : K.lookup f__law_in_place = some ⟨oc__law_in_place, od__law_in_place, .func (PySem.W.fnOf "_law_in_place" "_law_in_place" (defArgs s__law_in_place) (defBody s__law_in_place) (defScope s__law_in_place) .none kV__law_in_place dc__law_in_place pm__law_in_place an__law_in_place cd__law_in_place ct__law_in_place), sl__law_in_place⟩)
    (c__law_in_place : PySem.W.codeIn K cd__law_in_place "_law_in_place" = true)
    (k__law_in_place : PySem.W.keepIn K (.ref f__law_in_place) = true)
    (a_law : PySem.W.nsIn K mainGlobals "law" = some (some (.ref f_law)))
    (l_law : K.lookup f_law = some ⟨oc_law, od_law, .func (PySem.W.fnOf "law" "law" (defArgs s_law) (defBody s_law) (defScope s_law) .none kV_law dc_law pm_law an_law cd_law ct_law), sl_law⟩)
    (c_law : PySem.W.codeIn K cd_law "law" = true)
    (k_law : PySem.W.keepIn K (.ref f_law) = true)
    : ∃ fd : FuncData, (∀ (s : Shared) (v : Value), BindsTo s fd ⟨[v], []⟩ [("script", v)]) ∧ ∀ base : Heap, K.In base → base.Ns mainGlobals mg → FnOk l.prog w K mg base (L2.CX l.prog w) 9 fa fd ["script"] (sp_law K) := by
  have e := hfa.symm.trans (PySem.W.mg_of X G a_law)
  cases e
  have E_BadMarks : ErrI l.prog K mg "BadMarks" a_BadMarks "at" := ⟨PySem.W.mg_of X G x_BadMarks, ⟨eg_BadMarks, ey_BadMarks, ex_BadMarks, eh_BadMarks⟩, ⟨eg_BadMarks, ey_BadMarks, ex_BadMarks, eh_BadMarks, ea_BadMarks, gget, gtak, eo_BadMarks⟩, en_BadMarks, fi_BadMarks, _, "BadMarks.__init__",
    ⟨⟨⟨_, _, _, _, _, _, _, _, _, _, _, _, _, _, _, ec_BadMarks, er_BadMarks⟩, es_BadMarks, ex_BadMarks, et_BadMarks, ek_BadMarks⟩, en_BadMarks, PySem.W.mg_none_of X G z_super, z_opq, el_BadMarks, em_BadMarks, ev_BadMarks, z_top,
      ⟨_, _, _, _, _, _, _, _, _, _, _, _, _, _, _, _, _, _, _, _, _, _, _, _, _, _, _, _, _, _, _, _, _, rfl, il_BadMarks, ic_BadMarks, rfl, rfl, id_BadMarks, ie_BadMarks, if_BadMarks, ig_BadMarks, rfl, rfl, rfl, rfl, by decide, by decide, rfl⟩⟩, ei_BadMarks, ej_BadMarks, .all fun us hl => match us, hl with | [_, _], _ => rfl⟩
  have C_Marks : OwnC K a_Marks := ⟨⟨pg_Marks, hd_Marks, po_Marks, sa_Marks⟩, ca_Marks, gget, gtak, cm_Marks, sf_Marks, nq_Marks, ne_Marks⟩
  have T : Txt l.prog K mg a_Marks a_BadMarks a_PagesError := ⟨PySem.W.mg_none_of X G z_len, PySem.W.mg_none_of X G z_all, PySem.W.mg_none_of X G z_isinstance, PySem.W.mg_none_of X G z_int, PySem.W.mg_none_of X G z_bool, PySem.W.mg_none_of X G z_range, PySem.W.mg_none_of X G z_list, PySem.W.mg_none_of X G z_enumerate, PySem.W.mg_none_of X G z_zip, PySem.W.mg_none_of X G z_ValueError, PySem.W.mg_of X G x_Marks, PySem.W.mg_of X G x_PagesError, ⟨_, PySem.W.mg_of X G x_MOST_PAGES⟩, E_BadMarks, PySem.W.mg_of X G x_BadMarks, C_Marks, na_Marks_kept⟩
  have kC : PySem.W.kitOne K (.ref a_Marks) (.ref a_Marks) = some true := by unfold PySem.W.kitOne; rw [beq_self_eq_true]; rfl
  have EF : ErrF K a_BadMarks a_PagesError := ⟨E_BadMarks.is_, q_me, q_isP, q_isV⟩
  have F_is_integer := fun_mk (st := s_is_integer) l_is_integer c_is_integer k_is_integer
  have FI_is_integer : FunI K mg "is_integer" s_is_integer ["value"] := ⟨_, _, PySem.W.mg_of X G a_is_integer, F_is_integer, F_is_integer.binds (ps := ["value"]) fun _ _ _ _ _ _ us hl => match us, hl with | [_], _ => rfl⟩
  have F_is_many := fun_mk (st := s_is_many) l_is_many c_is_many k_is_many
  have FI_is_many : FunI K mg "is_many" s_is_many ["many"] := ⟨_, _, PySem.W.mg_of X G a_is_many, F_is_many, F_is_many.binds (ps := ["many"]) fun _ _ _ _ _ _ us hl => match us, hl with | [_], _ => rfl⟩
  have F_MarksU_initU : FunD K "__init__" "Marks.__init__" (defArgs s_MarksU_initU) (defBody s_MarksU_initU) (defScope s_MarksU_initU) [.non] [] f_MarksU_initU _ := ⟨⟨_, _, _, _, _, _, _, _, _, _, rfl, l_MarksU_initU, c_MarksU_initU, .inr ⟨by decide, _, _, _, _, rfl, d1_MarksU_initU, d2_MarksU_initU, (.cons rfl .nil)⟩, .inl rfl⟩, k_MarksU_initU⟩
  have FI_MarksU_initU_0 : MakI K mg "Marks" a_Marks "__init__" "Marks.__init__" s_MarksU_initU ["self", "many", "truths"] [] := by
    obtain ⟨ds, hv, hb⟩ := F_MarksU_initU.binds1 (ps := ["self", "many", "truths"]) 3 1 (by decide) rfl fun _ _ _ _ _ _ _ us its hl hl2 => match us, hl, its, hl2 with | [_, _, _], _, [_], _ => ⟨_, rfl, rfl⟩
    cases hv
    exact ⟨f_MarksU_initU, _, PySem.W.mg_of X G x_Marks, ⟨mk_Marks, a_MarksU_initU, i_MarksU_initU, kc_Marks⟩, .inr ⟨_, _, F_MarksU_initU⟩, hb⟩
  have FI_MarksU_initU_1 : MakI K mg "Marks" a_Marks "__init__" "Marks.__init__" s_MarksU_initU ["self", "many", "truths"] [.none] := by
    obtain ⟨ds, hv, hb⟩ := F_MarksU_initU.binds1 (ps := ["self", "many", "truths"]) 2 0 (by decide) rfl fun _ _ _ _ _ _ _ us its hl hl2 => match us, hl, its, hl2 with | [_, _], _, [_], _ => ⟨_, rfl, rfl⟩
    obtain rfl : ds = [.none] := by
      cases hv with
      | cons r hv => cases hv; cases r; rfl
    exact ⟨f_MarksU_initU, _, PySem.W.mg_of X G x_Marks, ⟨mk_Marks, a_MarksU_initU, i_MarksU_initU, kc_Marks⟩, .inr ⟨_, _, F_MarksU_initU⟩, hb⟩
  have F_marks_of := fun_mk (st := s_marks_of) l_marks_of c_marks_of k_marks_of
  have FI_marks_of : FunI K mg "marks_of" s_marks_of ["truths"] := ⟨_, _, PySem.W.mg_of X G a_marks_of, F_marks_of, F_marks_of.binds (ps := ["truths"]) fun _ _ _ _ _ _ us hl => match us, hl with | [_], _ => rfl⟩
  have F_Marks_check := fun_mk (st := s_Marks_check) l_Marks_check c_Marks_check k_Marks_check
  have FI_Marks_check : MunI K a_Marks "check" "Marks.check" s_Marks_check ["self", "at"] := ⟨f_Marks_check, _, ⟨a_Marks_check, i_Marks_check, k_Marks_check⟩, F_Marks_check, F_Marks_check.binds (ps := ["self", "at"]) (fun _ _ _ _ _ _ us hl => match us, hl with | [_, _], _ => rfl), j_Marks_check⟩
  have F_Marks_check_mate := fun_mk (st := s_Marks_check_mate) l_Marks_check_mate c_Marks_check_mate k_Marks_check_mate
  have FI_Marks_check_mate : MunI K a_Marks "check_mate" "Marks.check_mate" s_Marks_check_mate ["self", "other"] := ⟨f_Marks_check_mate, _, ⟨a_Marks_check_mate, i_Marks_check_mate, k_Marks_check_mate⟩, F_Marks_check_mate, F_Marks_check_mate.binds (ps := ["self", "other"]) (fun _ _ _ _ _ _ us hl => match us, hl with | [_, _], _ => rfl), j_Marks_check_mate⟩
  have F_MarksU_lenU := fun_mk (st := s_MarksU_lenU) l_MarksU_lenU c_MarksU_lenU k_MarksU_lenU
  have FI_MarksU_lenU : MunI K a_Marks "__len__" "Marks.__len__" s_MarksU_lenU ["self"] := ⟨f_MarksU_lenU, _, ⟨a_MarksU_lenU, i_MarksU_lenU, k_MarksU_lenU⟩, F_MarksU_lenU, F_MarksU_lenU.binds (ps := ["self"]) (fun _ _ _ _ _ _ us hl => match us, hl with | [_], _ => rfl), j_MarksU_lenU⟩
  have F_MarksU_getitemU := fun_mk (st := s_MarksU_getitemU) l_MarksU_getitemU c_MarksU_getitemU k_MarksU_getitemU
  have FI_MarksU_getitemU : MunI K a_Marks "__getitem__" "Marks.__getitem__" s_MarksU_getitemU ["self", "at"] := ⟨f_MarksU_getitemU, _, ⟨a_MarksU_getitemU, i_MarksU_getitemU, k_MarksU_getitemU⟩, F_MarksU_getitemU, F_MarksU_getitemU.binds (ps := ["self", "at"]) (fun _ _ _ _ _ _ us hl => match us, hl with | [_, _], _ => rfl), j_MarksU_getitemU⟩
  have F_MarksU_setitemU := fun_mk (st := s_MarksU_setitemU) l_MarksU_setitemU c_MarksU_setitemU k_MarksU_setitemU
  have FI_MarksU_setitemU : MunI K a_Marks "__setitem__" "Marks.__setitem__" s_MarksU_setitemU ["self", "at", "value"] := ⟨f_MarksU_setitemU, _, ⟨a_MarksU_setitemU, i_MarksU_setitemU, k_MarksU_setitemU⟩, F_MarksU_setitemU, F_MarksU_setitemU.binds (ps := ["self", "at", "value"]) (fun _ _ _ _ _ _ us hl => match us, hl with | [_, _, _], _ => rfl), j_MarksU_setitemU⟩
  have F_MarksU_orU := fun_mk (st := s_MarksU_orU) l_MarksU_orU c_MarksU_orU k_MarksU_orU
  have FI_MarksU_orU : MunI K a_Marks "__or__" "Marks.__or__" s_MarksU_orU ["self", "other"] := ⟨f_MarksU_orU, _, ⟨a_MarksU_orU, i_MarksU_orU, k_MarksU_orU⟩, F_MarksU_orU, F_MarksU_orU.binds (ps := ["self", "other"]) (fun _ _ _ _ _ _ us hl => match us, hl with | [_, _], _ => rfl), j_MarksU_orU⟩
  have F_MarksU_andU := fun_mk (st := s_MarksU_andU) l_MarksU_andU c_MarksU_andU k_MarksU_andU
  have FI_MarksU_andU : MunI K a_Marks "__and__" "Marks.__and__" s_MarksU_andU ["self", "other"] := ⟨f_MarksU_andU, _, ⟨a_MarksU_andU, i_MarksU_andU, k_MarksU_andU⟩, F_MarksU_andU, F_MarksU_andU.binds (ps := ["self", "other"]) (fun _ _ _ _ _ _ us hl => match us, hl with | [_, _], _ => rfl), j_MarksU_andU⟩
  have F_MarksU_iorU := fun_mk (st := s_MarksU_iorU) l_MarksU_iorU c_MarksU_iorU k_MarksU_iorU
  have FI_MarksU_iorU : MunI K a_Marks "__ior__" "Marks.__ior__" s_MarksU_iorU ["self", "other"] := ⟨f_MarksU_iorU, _, ⟨a_MarksU_iorU, i_MarksU_iorU, k_MarksU_iorU⟩, F_MarksU_iorU, F_MarksU_iorU.binds (ps := ["self", "other"]) (fun _ _ _ _ _ _ us hl => match us, hl with | [_, _], _ => rfl), j_MarksU_iorU⟩
  have F_MarksU_iandU := fun_mk (st := s_MarksU_iandU) l_MarksU_iandU c_MarksU_iandU k_MarksU_iandU
  have FI_MarksU_iandU : MunI K a_Marks "__iand__" "Marks.__iand__" s_MarksU_iandU ["self", "other"] := ⟨f_MarksU_iandU, _, ⟨a_MarksU_iandU, i_MarksU_iandU, k_MarksU_iandU⟩, F_MarksU_iandU, F_MarksU_iandU.binds (ps := ["self", "other"]) (fun _ _ _ _ _ _ us hl => match us, hl with | [_, _], _ => rfl), j_MarksU_iandU⟩
  have F_MarksU_leU := fun_mk (st := s_MarksU_leU) l_MarksU_leU c_MarksU_leU k_MarksU_leU
  have FI_MarksU_leU : MunI K a_Marks "__le__" "Marks.__le__" s_MarksU_leU ["self", "other"] := ⟨f_MarksU_leU, _, ⟨a_MarksU_leU, i_MarksU_leU, k_MarksU_leU⟩, F_MarksU_leU, F_MarksU_leU.binds (ps := ["self", "other"]) (fun _ _ _ _ _ _ us hl => match us, hl with | [_, _], _ => rfl), j_MarksU_leU⟩
  have F_MarksU_eqU := fun_mk (st := s_MarksU_eqU) l_MarksU_eqU c_MarksU_eqU k_MarksU_eqU
  have FI_MarksU_eqU : MunI K a_Marks "__eq__" "Marks.__eq__" s_MarksU_eqU ["self", "other"] := ⟨f_MarksU_eqU, _, ⟨a_MarksU_eqU, i_MarksU_eqU, k_MarksU_eqU⟩, F_MarksU_eqU, F_MarksU_eqU.binds (ps := ["self", "other"]) (fun _ _ _ _ _ _ us hl => match us, hl with | [_, _], _ => rfl), j_MarksU_eqU⟩
  have F__law_pot := fun_mk (st := s__law_pot) l__law_pot c__law_pot k__law_pot
  have FI__law_pot : FunI K mg "_law_pot" s__law_pot ["script"] := ⟨_, _, PySem.W.mg_of X G a__law_pot, F__law_pot, F__law_pot.binds (ps := ["script"]) fun _ _ _ _ _ _ us hl => match us, hl with | [_], _ => rfl⟩
  have F__law_draw := fun_mk (st := s__law_draw) l__law_draw c__law_draw k__law_draw
  have FI__law_draw : FunI K mg "_law_draw" s__law_draw ["pot", "many"] := ⟨_, _, PySem.W.mg_of X G a__law_draw, F__law_draw, F__law_draw.binds (ps := ["pot", "many"]) fun _ _ _ _ _ _ us hl => match us, hl with | [_, _], _ => rfl⟩
  have F__law_marks := fun_mk (st := s__law_marks) l__law_marks c__law_marks k__law_marks
  have FI__law_marks : FunI K mg "_law_marks" s__law_marks ["truths"] := ⟨_, _, PySem.W.mg_of X G a__law_marks, F__law_marks, F__law_marks.binds (ps := ["truths"]) fun _ _ _ _ _ _ us hl => match us, hl with | [_], _ => rfl⟩
  have F__law_truths := fun_mk (st := s__law_truths) l__law_truths c__law_truths k__law_truths
  have FI__law_truths : FunI K mg "_law_truths" s__law_truths ["marks"] := ⟨_, _, PySem.W.mg_of X G a__law_truths, F__law_truths, F__law_truths.binds (ps := ["marks"]) fun _ _ _ _ _ _ us hl => match us, hl with | [_], _ => rfl⟩
  have F__law_refused := fun_mk (st := s__law_refused) l__law_refused c__law_refused k__law_refused
  have FI__law_refused : FunI K mg "_law_refused" s__law_refused ["one", "other", "word"] := ⟨_, _, PySem.W.mg_of X G a__law_refused, F__law_refused, F__law_refused.binds (ps := ["one", "other", "word"]) fun _ _ _ _ _ _ us hl => match us, hl with | [_, _, _], _ => rfl⟩
  have F__law_in_place := fun_mk (st := s__law_in_place) l__law_in_place c__law_in_place k__law_in_place
  have FI__law_in_place : FunI K mg "_law_in_place" s__law_in_place ["one", "other", "a", "b", "joined", "cut"] := ⟨_, _, PySem.W.mg_of X G a__law_in_place, F__law_in_place, F__law_in_place.binds (ps := ["one", "other", "a", "b", "joined", "cut"]) fun _ _ _ _ _ _ us hl => match us, hl with | [_, _, _, _, _, _], _ => rfl⟩
  have F_law := fun_mk (st := s_law) l_law c_law k_law
  refine ⟨PySem.W.fnOf "law" "law" (defArgs s_law) (defBody s_law) (defScope s_law) .none kV_law dc_law pm_law an_law cd_law ct_law, fun s v => .of_eq rfl, fun base hb hn => ?_⟩
  have I_is_integer : FnZ l.prog w K mg base 1 "is_integer" ["value"] (sp_is_integer K) := FI_is_integer.okZ sc_is_integer (by walk_at "len") (d_is_integer T) (fun H vs Q E h => pu_is_integer h)
  have I_is_many : FnZ l.prog w K mg base 2 "is_many" ["many"] (sp_is_many K) := FI_is_many.okZ sc_is_many (by walk_at "len") (d_is_many T I_is_integer) (fun H vs Q E h => pu_is_many h)
  have I_MarksU_initU_0 : MakZ l.prog w K mg base 4 "Marks" a_Marks ["self", "many", "truths"] (sp_Marks_Uinit K a_Marks a_BadMarks) [] := FI_MarksU_initU_0.okZ sc_MarksU_initU (by walk_at "len") (d_MarksU_initU T I_is_many) (fun H vs Q E h => pu_init h)
  have I_MarksU_initU_1 : MakZ l.prog w K mg base 4 "Marks" a_Marks ["self", "many", "truths"] (sp_Marks_Uinit K a_Marks a_BadMarks) [.none] := FI_MarksU_initU_1.okZ sc_MarksU_initU (by walk_at "len") (d_MarksU_initU T I_is_many) (fun H vs Q E h => pu_init h)
  have I_marks_of : FnZ l.prog w K mg base 6 "marks_of" ["truths"] (sp_marks_of K a_Marks) := FI_marks_of.okZ sc_marks_of (by walk_at "len") (d_marks_of T I_MarksU_initU_0) (fun H vs Q E h => pu_marks_of h)
  have I_Marks_check : MthZ l.prog w K mg base 4 a_Marks "check" ["self", "at"] (sp_Marks_check K a_Marks a_BadMarks) := FI_Marks_check.okZ sc_Marks_check (by walk_at "len") (d_Marks_check T I_is_integer) (fun H vs Q E h => pu_check h)
  have I_Marks_check_mate : MthZ l.prog w K mg base 4 a_Marks "check_mate" ["self", "other"] (sp_Marks_check_mate a_Marks a_BadMarks) := FI_Marks_check_mate.okZ sc_Marks_check_mate (by walk_at "len") (d_Marks_check_mate T) (fun H vs Q E h => pu_check_mate h)
  have I_MarksU_lenU : MthZ l.prog w K mg base 1 a_Marks "__len__" ["self"] (sp_Marks_Ulen a_Marks) := FI_MarksU_lenU.okZ sc_MarksU_lenU (by walk_at "len") (d_MarksU_lenU T) (fun H vs Q E h => pu_len h)
  have I_MarksU_getitemU : MthZ l.prog w K mg base 5 a_Marks "__getitem__" ["self", "at"] (sp_Marks_Ugetitem K a_Marks a_BadMarks) := FI_MarksU_getitemU.okZ sc_MarksU_getitemU (by walk_at "len") (d_MarksU_getitemU T I_Marks_check) (fun H vs Q E h => pu_getitem h)
  have I_MarksU_setitemU : MthZ l.prog w K mg base 5 a_Marks "__setitem__" ["self", "at", "value"] (sp_Marks_Usetitem K a_Marks a_BadMarks) := FI_MarksU_setitemU.okZ sc_MarksU_setitemU (by walk_at "len") (d_MarksU_setitemU T I_Marks_check) (fun H vs Q E h => pu_setitem h)
  have I_MarksU_orU : MthZ l.prog w K mg base 7 a_Marks "__or__" ["self", "other"] (sp_both a_Marks a_BadMarks or) := FI_MarksU_orU.okZ sc_MarksU_orU (by walk_at "len") (d_MarksU_orU T I_marks_of I_Marks_check_mate) (fun H vs Q E h => pu_or C_Marks kC h)
  have I_MarksU_andU : MthZ l.prog w K mg base 7 a_Marks "__and__" ["self", "other"] (sp_both a_Marks a_BadMarks and) := FI_MarksU_andU.okZ sc_MarksU_andU (by walk_at "len") (d_MarksU_andU T I_marks_of I_Marks_check_mate) (fun H vs Q E h => pu_and C_Marks kC h)
  have I_MarksU_iorU : MthZ l.prog w K mg base 5 a_Marks "__ior__" ["self", "other"] (sp_ip a_Marks a_BadMarks or) := FI_MarksU_iorU.okZ sc_MarksU_iorU (by walk_at "len") (d_MarksU_iorU T I_Marks_check_mate) (fun H vs Q E h => pu_ior C_Marks kC h)
  have I_MarksU_iandU : MthZ l.prog w K mg base 5 a_Marks "__iand__" ["self", "other"] (sp_ip a_Marks a_BadMarks and) := FI_MarksU_iandU.okZ sc_MarksU_iandU (by walk_at "len") (d_MarksU_iandU T I_Marks_check_mate) (fun H vs Q E h => pu_iand C_Marks kC h)
  have I_MarksU_leU : MthZ l.prog w K mg base 1 a_Marks "__le__" ["self", "other"] (sp_Marks_Ule a_Marks) := FI_MarksU_leU.okZ sc_MarksU_leU (by walk_at "len") (d_MarksU_leU T) (fun H vs Q E h => pu_le C_Marks kC h)
  have I_MarksU_eqU : MthZ l.prog w K mg base 1 a_Marks "__eq__" ["self", "other"] (sp_Marks_Ueq K a_Marks) := FI_MarksU_eqU.okZ sc_MarksU_eqU (by walk_at "len") (d_MarksU_eqU T) (fun H vs Q E h => pu_eq C_Marks kC h)
  have I__law_pot : FnZ l.prog w K mg base 1 "_law_pot" ["script"] (sp_pot K) := FI__law_pot.okZ sc__law_pot (by walk_at "len") (d__law_pot T) (fun H vs Q E h => pu_pot h)
  have I__law_draw : FnZ l.prog w K mg base 1 "_law_draw" ["pot", "many"] (sp_draw) := FI__law_draw.okZ sc__law_draw (by walk_at "len") (d__law_draw T) (fun H vs Q E h => pu_draw h)
  have I__law_marks : FnZ l.prog w K mg base 6 "_law_marks" ["truths"] (sp_law_marks K a_Marks) := FI__law_marks.okZ sc__law_marks (by walk_at "len") (d__law_marks T I_MarksU_initU_1 I_MarksU_setitemU) (fun H vs Q E h => pu__law_marks h)
  have I__law_truths : FnZ l.prog w K mg base 7 "_law_truths" ["marks"] (sp_law_truths a_Marks) := FI__law_truths.okZ sc__law_truths (by walk_at "len") (d__law_truths T I_MarksU_lenU I_MarksU_getitemU) (fun H vs Q E h => pu__law_truths h)
  have I__law_refused : FnZ l.prog w K mg base 8 "_law_refused" ["one", "other", "word"] (sp_law_refused a_Marks) := FI__law_refused.okZ sc__law_refused (by walk_at "len") (d__law_refused T I_MarksU_orU I_MarksU_andU I_MarksU_iorU I_MarksU_iandU) (fun H vs Q E h => pu__law_refused EF h)
  have I__law_in_place : FnZ l.prog w K mg base 8 "_law_in_place" ["one", "other", "a", "b", "joined", "cut"] (sp_in_place a_Marks) := FI__law_in_place.okZ sc__law_in_place (by walk_at "len") (d__law_in_place T I_MarksU_setitemU I_MarksU_iorU I_MarksU_iandU I_MarksU_leU I__law_marks I__law_truths) (fun H vs Q E h => pu_in_place C_Marks h)
  exact F_law.okX sc_law (by walk_at "len") (fun cdv A outer s H vs Q E hr h => ⟨_, d_law T I_MarksU_setitemU I_MarksU_orU I_MarksU_andU I_MarksU_leU I_MarksU_eqU I__law_pot I__law_draw I__law_marks I__law_truths I__law_refused I__law_in_place fa cdv A outer s H E hr, pu_law C_Marks h⟩)
theorem walk {l : PySem.W.OpenLaw} {q : Program} {loose : List Str} {XP : (Str → Option Value) → Heap → Prop} {YP : World → Heap → Prop} {d : DefRec} {K : Params → PySem.W.Frag} (hn : l.most = some 63) (hdf : d.params.defaults = [])
    (hY : ∀ (w : World) (h : Heap), YP w h → (K w.params).In h)
    (F : ∀ (w : World) (mg : Str → Option Value) (fa : Addr) (h : Heap), (K w.params).In h → h.Ns mainGlobals mg → mg d.name = some (.ref fa) →
      ∃ fd : FuncData, (∀ (s : Shared) (u : Value), BindsTo s fd ⟨[u], []⟩ [("script", u)]) ∧ ∀ base : Heap, (K w.params).In base → base.Ns mainGlobals mg → FnOk l.prog w (K w.params) mg base (L2.CX l.prog w) 9 fa fd ["script"] (sp_law (K w.params))) :
    PySem.W.WalkO q loose XP YP l.row.toRowW d [] (fun f vs => PySem.call f vs) :=
  L2.walk_of (n := 63) (k := 9) (x := "script") (CX := fun w => L2.CX l.prog w) (sp := fun w => sp_law (K w.params)) hn (by decide) hdf ⟨rfl, by decide, by decide⟩ hY F (fun _ _ a ns hl _ hS => ⟨a, ns, rfl, hS, fun _ => rfl⟩) fun _ _ _ _ _ ⟨_, _, _, _, _, _, _, _, _, _, _, _, z⟩ => z

end
end Law
open PySem PySem.W PyProof.Rows in
set_option maxRecDepth 100000 in
set_option maxHeartbeats 0 in
theorem PySem.Challenge.cw_trustedpages_k12_marks_joined_and_cut_holds : PySem.Challenge.rw_trustedpages_k12_marks_joined_and_cut.Holds := by
  w_on; o_law; k_head; (case hw => w_witness2)
  k_fill
  refine Law.walk (l := PySem.Challenge.rw_trustedpages_k12_marks_joined_and_cut) rfl rfl (fun w h Y => PySem.W.kIn_of Y) ?F
  case F =>
    intro w mg fa h KX G hmg
    refine' Law.all_mk KX G hmg ?x_Marks ?x_BadMarks ?x_PagesError ?z_len ?z_all ?z_isinstance ?z_int ?z_bool ?z_range ?z_list ?z_enumerate ?z_zip ?z_ValueError ?x_MOST_PAGES ?gget ?gtak ?pg_Marks ?hd_Marks ?po_Marks ?sa_Marks ?ca_Marks ?cm_Marks ?sf_Marks ?nq_Marks ?ne_Marks ?mk_Marks ?kc_Marks ?na_Marks_kept ?ec_BadMarks ?er_BadMarks ?es_BadMarks ?ex_BadMarks ?et_BadMarks ?ek_BadMarks ?eg_BadMarks ?ey_BadMarks ?eh_BadMarks ?ea_BadMarks ?eo_BadMarks ?en_BadMarks ?el_BadMarks ?em_BadMarks ?ev_BadMarks ?ei_BadMarks ?ej_BadMarks ?il_BadMarks ?ic_BadMarks ?id_BadMarks ?ie_BadMarks ?if_BadMarks ?ig_BadMarks ?z_super ?z_opq ?z_top ?q_me ?q_isP ?q_isV ?a_is_integer ?l_is_integer ?c_is_integer ?k_is_integer ?a_is_many ?l_is_many ?c_is_many ?k_is_many ?a_MarksU_initU ?l_MarksU_initU ?d1_MarksU_initU ?d2_MarksU_initU ?c_MarksU_initU ?k_MarksU_initU ?i_MarksU_initU ?j_MarksU_initU ?a_marks_of ?l_marks_of ?c_marks_of ?k_marks_of ?a_Marks_check ?l_Marks_check ?c_Marks_check ?k_Marks_check ?i_Marks_check ?j_Marks_check ?a_Marks_check_mate ?l_Marks_check_mate ?c_Marks_check_mate ?k_Marks_check_mate ?i_Marks_check_mate ?j_Marks_check_mate ?a_MarksU_lenU ?l_MarksU_lenU ?c_MarksU_lenU ?k_MarksU_lenU ?i_MarksU_lenU ?j_MarksU_lenU ?a_MarksU_getitemU ?l_MarksU_getitemU ?c_MarksU_getitemU ?k_MarksU_getitemU ?i_MarksU_getitemU ?j_MarksU_getitemU ?a_MarksU_setitemU ?l_MarksU_setitemU ?c_MarksU_setitemU ?k_MarksU_setitemU ?i_MarksU_setitemU ?j_MarksU_setitemU ?a_MarksU_orU ?l_MarksU_orU ?c_MarksU_orU ?k_MarksU_orU ?i_MarksU_orU ?j_MarksU_orU ?a_MarksU_andU ?l_MarksU_andU ?c_MarksU_andU ?k_MarksU_andU ?i_MarksU_andU ?j_MarksU_andU ?a_MarksU_iorU ?l_MarksU_iorU ?c_MarksU_iorU ?k_MarksU_iorU ?i_MarksU_iorU ?j_MarksU_iorU ?a_MarksU_iandU ?l_MarksU_iandU ?c_MarksU_iandU ?k_MarksU_iandU ?i_MarksU_iandU ?j_MarksU_iandU ?a_MarksU_leU ?l_MarksU_leU ?c_MarksU_leU ?k_MarksU_leU ?i_MarksU_leU ?j_MarksU_leU ?a_MarksU_eqU ?l_MarksU_eqU ?c_MarksU_eqU ?k_MarksU_eqU ?i_MarksU_eqU ?j_MarksU_eqU ?a__law_pot ?l__law_pot ?c__law_pot ?k__law_pot ?a__law_draw ?l__law_draw ?c__law_draw ?k__law_draw ?a__law_marks ?l__law_marks ?c__law_marks ?k__law_marks ?a__law_truths ?l__law_truths ?c__law_truths ?k__law_truths ?a__law_refused ?l__law_refused ?c__law_refused ?k__law_refused ?a__law_in_place ?l__law_in_place ?c__law_in_place ?k__law_in_place ?a_law ?l_law ?c_law ?k_law
    (case x_Marks => first | k_is | exact rfl | kernel_rfl! | decide +kernel)
    (case x_BadMarks => first | k_is | exact rfl | kernel_rfl! | decide +kernel)
    (case x_PagesError => first | k_is | exact rfl | kernel_rfl! | decide +kernel)
    (case z_len => first | k_is | exact rfl | kernel_rfl! | decide +kernel)
    (case z_all => first | k_is | exact rfl | kernel_rfl! | decide +kernel)
    (case z_isinstance => first | k_is | exact rfl | kernel_rfl! | decide +kernel)
    (case z_int => first | k_is | exact rfl | kernel_rfl! | decide +kernel)
    (case z_bool => first | k_is | exact rfl | kernel_rfl! | decide +kernel)
    (case z_range => first | k_is | exact rfl | kernel_rfl! | decide +kernel)
    (case z_list => first | k_is | exact rfl | kernel_rfl! | decide +kernel)
    (case z_enumerate => first | k_is | exact rfl | kernel_rfl! | decide +kernel)
    (case z_zip => first | k_is | exact rfl | kernel_rfl! | decide +kernel)
    (case z_ValueError => first | k_is | exact rfl | kernel_rfl! | decide +kernel)
    (case x_MOST_PAGES => first | k_is | exact rfl | kernel_rfl! | decide +kernel)
    (case gget => first | k_is | exact rfl | kernel_rfl! | decide +kernel)
    (case gtak => first | k_is | exact rfl | kernel_rfl! | decide +kernel)
    (case pg_Marks => first | k_is | exact rfl | kernel_rfl! | decide +kernel)
    (case hd_Marks => first | k_is | exact rfl | kernel_rfl! | decide +kernel)
    (case po_Marks => first | k_is | exact rfl | kernel_rfl! | decide +kernel)
    (case sa_Marks => first | k_is | exact rfl | kernel_rfl! | decide +kernel)
    (case ca_Marks => first | k_is | exact rfl | kernel_rfl! | decide +kernel)
    (case cm_Marks => first | k_is | exact rfl | kernel_rfl! | decide +kernel)
    (case sf_Marks => first | k_is | exact rfl | kernel_rfl! | decide +kernel)
    (case nq_Marks => first | k_is | exact rfl | kernel_rfl! | decide +kernel)
    (case ne_Marks => first | k_is | exact rfl | kernel_rfl! | decide +kernel)
    (case mk_Marks => first | k_is | exact rfl | kernel_rfl! | decide +kernel)
    (case kc_Marks => first | k_is | exact rfl | kernel_rfl! | decide +kernel)
    (case na_Marks_kept => first | k_is | exact rfl | kernel_rfl! | decide +kernel)
    (case ec_BadMarks => first | k_is | exact rfl | kernel_rfl! | decide +kernel)
    (case er_BadMarks => first | k_is | exact rfl | kernel_rfl! | decide +kernel)
    (case es_BadMarks => first | k_is | exact rfl | kernel_rfl! | decide +kernel)
    (case ex_BadMarks => first | k_is | exact rfl | kernel_rfl! | decide +kernel)
    (case et_BadMarks => first | k_is | exact rfl | kernel_rfl! | decide +kernel)
    (case ek_BadMarks => first | k_is | exact rfl | kernel_rfl! | decide +kernel)
    (case eg_BadMarks => first | k_is | exact rfl | kernel_rfl! | decide +kernel)
    (case ey_BadMarks => first | k_is | exact rfl | kernel_rfl! | decide +kernel)
    (case eh_BadMarks => first | k_is | exact rfl | kernel_rfl! | decide +kernel)
    (case ea_BadMarks => first | k_is | exact rfl | kernel_rfl! | decide +kernel)
    (case eo_BadMarks => first | k_is | exact rfl | kernel_rfl! | decide +kernel)
    (case en_BadMarks => first | k_is | exact rfl | kernel_rfl! | decide +kernel)
    (case el_BadMarks => first | k_is | exact rfl | kernel_rfl! | decide +kernel)
    (case em_BadMarks => first | k_is | exact rfl | kernel_rfl! | decide +kernel)
    (case ev_BadMarks => first | k_is | exact rfl | kernel_rfl! | decide +kernel)
    (case ei_BadMarks => first | k_is | exact rfl | kernel_rfl! | decide +kernel)
    (case ej_BadMarks => first | k_is | exact rfl | kernel_rfl! | decide +kernel)
    (case il_BadMarks => first | k_is | exact rfl | kernel_rfl! | decide +kernel)
    (case ic_BadMarks => first | k_is | exact rfl | kernel_rfl! | decide +kernel)
    (case id_BadMarks => first | k_is | exact rfl | kernel_rfl! | decide +kernel)
    (case ie_BadMarks => first | k_is | exact rfl | kernel_rfl! | decide +kernel)
    (case if_BadMarks => first | k_is | exact rfl | kernel_rfl! | decide +kernel)
    (case ig_BadMarks => first | k_is | exact rfl | kernel_rfl! | decide +kernel)
    (case z_super => first | k_is | exact rfl | kernel_rfl! | decide +kernel)
    (case z_opq => first | k_is | exact rfl | kernel_rfl! | decide +kernel)
    (case z_top => first | k_is | exact rfl | kernel_rfl! | decide +kernel)
    (case q_me => first | k_is | exact rfl | kernel_rfl! | decide +kernel)
    (case q_isP => first | k_is | exact rfl | kernel_rfl! | decide +kernel)
    (case q_isV => first | k_is | exact rfl | kernel_rfl! | decide +kernel)
    (case a_is_integer => first | k_is | exact rfl | kernel_rfl! | decide +kernel)
    (case l_is_integer => first | k_is | exact rfl | kernel_rfl! | decide +kernel)
    (case c_is_integer => first | k_is | exact rfl | kernel_rfl! | decide +kernel)
    (case k_is_integer => first | k_is | exact rfl | kernel_rfl! | decide +kernel)
    (case a_is_many => first | k_is | exact rfl | kernel_rfl! | decide +kernel)
    (case l_is_many => first | k_is | exact rfl | kernel_rfl! | decide +kernel)
    (case c_is_many => first | k_is | exact rfl | kernel_rfl! | decide +kernel)
    (case k_is_many => first | k_is | exact rfl | kernel_rfl! | decide +kernel)
    (case a_MarksU_initU => first | k_is | exact rfl | kernel_rfl! | decide +kernel)
    (case l_MarksU_initU => first | k_is | exact rfl | kernel_rfl! | decide +kernel)
    (case d1_MarksU_initU => first | k_is | exact rfl | kernel_rfl! | decide +kernel)
    (case d2_MarksU_initU => first | k_is | exact rfl | kernel_rfl! | decide +kernel)
    (case c_MarksU_initU => first | k_is | exact rfl | kernel_rfl! | decide +kernel)
    (case k_MarksU_initU => first | k_is | exact rfl | kernel_rfl! | decide +kernel)
    (case i_MarksU_initU => first | k_is | exact rfl | kernel_rfl! | decide +kernel)
    (case j_MarksU_initU => first | k_is | exact rfl | kernel_rfl! | decide +kernel)
    (case a_marks_of => first | k_is | exact rfl | kernel_rfl! | decide +kernel)
    (case l_marks_of => first | k_is | exact rfl | kernel_rfl! | decide +kernel)
    (case c_marks_of => first | k_is | exact rfl | kernel_rfl! | decide +kernel)
    (case k_marks_of => first | k_is | exact rfl | kernel_rfl! | decide +kernel)
    (case a_Marks_check => first | k_is | exact rfl | kernel_rfl! | decide +kernel)
    (case l_Marks_check => first | k_is | exact rfl | kernel_rfl! | decide +kernel)
    (case c_Marks_check => first | k_is | exact rfl | kernel_rfl! | decide +kernel)
    (case k_Marks_check => first | k_is | exact rfl | kernel_rfl! | decide +kernel)
    (case i_Marks_check => first | k_is | exact rfl | kernel_rfl! | decide +kernel)
    (case j_Marks_check => first | k_is | exact rfl | kernel_rfl! | decide +kernel)
    (case a_Marks_check_mate => first | k_is | exact rfl | kernel_rfl! | decide +kernel)
    (case l_Marks_check_mate => first | k_is | exact rfl | kernel_rfl! | decide +kernel)
    (case c_Marks_check_mate => first | k_is | exact rfl | kernel_rfl! | decide +kernel)
    (case k_Marks_check_mate => first | k_is | exact rfl | kernel_rfl! | decide +kernel)
    (case i_Marks_check_mate => first | k_is | exact rfl | kernel_rfl! | decide +kernel)
    (case j_Marks_check_mate => first | k_is | exact rfl | kernel_rfl! | decide +kernel)
    (case a_MarksU_lenU => first | k_is | exact rfl | kernel_rfl! | decide +kernel)
    (case l_MarksU_lenU => first | k_is | exact rfl | kernel_rfl! | decide +kernel)
    (case c_MarksU_lenU => first | k_is | exact rfl | kernel_rfl! | decide +kernel)
    (case k_MarksU_lenU => first | k_is | exact rfl | kernel_rfl! | decide +kernel)
    (case i_MarksU_lenU => first | k_is | exact rfl | kernel_rfl! | decide +kernel)
    (case j_MarksU_lenU => first | k_is | exact rfl | kernel_rfl! | decide +kernel)
    (case a_MarksU_getitemU => first | k_is | exact rfl | kernel_rfl! | decide +kernel)
    (case l_MarksU_getitemU => first | k_is | exact rfl | kernel_rfl! | decide +kernel)
    (case c_MarksU_getitemU => first | k_is | exact rfl | kernel_rfl! | decide +kernel)
    (case k_MarksU_getitemU => first | k_is | exact rfl | kernel_rfl! | decide +kernel)
    (case i_MarksU_getitemU => first | k_is | exact rfl | kernel_rfl! | decide +kernel)
    (case j_MarksU_getitemU => first | k_is | exact rfl | kernel_rfl! | decide +kernel)
    (case a_MarksU_setitemU => first | k_is | exact rfl | kernel_rfl! | decide +kernel)
    (case l_MarksU_setitemU => first | k_is | exact rfl | kernel_rfl! | decide +kernel)
    (case c_MarksU_setitemU => first | k_is | exact rfl | kernel_rfl! | decide +kernel)
    (case k_MarksU_setitemU => first | k_is | exact rfl | kernel_rfl! | decide +kernel)
    (case i_MarksU_setitemU => first | k_is | exact rfl | kernel_rfl! | decide +kernel)
    (case j_MarksU_setitemU => first | k_is | exact rfl | kernel_rfl! | decide +kernel)
    (case a_MarksU_orU => first | k_is | exact rfl | kernel_rfl! | decide +kernel)
    (case l_MarksU_orU => first | k_is | exact rfl | kernel_rfl! | decide +kernel)
    (case c_MarksU_orU => first | k_is | exact rfl | kernel_rfl! | decide +kernel)
    (case k_MarksU_orU => first | k_is | exact rfl | kernel_rfl! | decide +kernel)
    (case i_MarksU_orU => first | k_is | exact rfl | kernel_rfl! | decide +kernel)
    (case j_MarksU_orU => first | k_is | exact rfl | kernel_rfl! | decide +kernel)
    (case a_MarksU_andU => first | k_is | exact rfl | kernel_rfl! | decide +kernel)
    (case l_MarksU_andU => first | k_is | exact rfl | kernel_rfl! | decide +kernel)
    (case c_MarksU_andU => first | k_is | exact rfl | kernel_rfl! | decide +kernel)
    (case k_MarksU_andU => first | k_is | exact rfl | kernel_rfl! | decide +kernel)
    (case i_MarksU_andU => first | k_is | exact rfl | kernel_rfl! | decide +kernel)
    (case j_MarksU_andU => first | k_is | exact rfl | kernel_rfl! | decide +kernel)
    (case a_MarksU_iorU => first | k_is | exact rfl | kernel_rfl! | decide +kernel)
    (case l_MarksU_iorU => first | k_is | exact rfl | kernel_rfl! | decide +kernel)
    (case c_MarksU_iorU => first | k_is | exact rfl | kernel_rfl! | decide +kernel)
    (case k_MarksU_iorU => first | k_is | exact rfl | kernel_rfl! | decide +kernel)
    (case i_MarksU_iorU => first | k_is | exact rfl | kernel_rfl! | decide +kernel)
    (case j_MarksU_iorU => first | k_is | exact rfl | kernel_rfl! | decide +kernel)
    (case a_MarksU_iandU => first | k_is | exact rfl | kernel_rfl! | decide +kernel)
    (case l_MarksU_iandU => first | k_is | exact rfl | kernel_rfl! | decide +kernel)
    (case c_MarksU_iandU => first | k_is | exact rfl | kernel_rfl! | decide +kernel)
    (case k_MarksU_iandU => first | k_is | exact rfl | kernel_rfl! | decide +kernel)
    (case i_MarksU_iandU => first | k_is | exact rfl | kernel_rfl! | decide +kernel)
    (case j_MarksU_iandU => first | k_is | exact rfl | kernel_rfl! | decide +kernel)
    (case a_MarksU_leU => first | k_is | exact rfl | kernel_rfl! | decide +kernel)
    (case l_MarksU_leU => first | k_is | exact rfl | kernel_rfl! | decide +kernel)
    (case c_MarksU_leU => first | k_is | exact rfl | kernel_rfl! | decide +kernel)
    (case k_MarksU_leU => first | k_is | exact rfl | kernel_rfl! | decide +kernel)
    (case i_MarksU_leU => first | k_is | exact rfl | kernel_rfl! | decide +kernel)
    (case j_MarksU_leU => first | k_is | exact rfl | kernel_rfl! | decide +kernel)
    (case a_MarksU_eqU => first | k_is | exact rfl | kernel_rfl! | decide +kernel)
    (case l_MarksU_eqU => first | k_is | exact rfl | kernel_rfl! | decide +kernel)
    (case c_MarksU_eqU => first | k_is | exact rfl | kernel_rfl! | decide +kernel)
    (case k_MarksU_eqU => first | k_is | exact rfl | kernel_rfl! | decide +kernel)
    (case i_MarksU_eqU => first | k_is | exact rfl | kernel_rfl! | decide +kernel)
    (case j_MarksU_eqU => first | k_is | exact rfl | kernel_rfl! | decide +kernel)
    (case a__law_pot => first | k_is | exact rfl | kernel_rfl! | decide +kernel)
    (case l__law_pot => first | k_is | exact rfl | kernel_rfl! | decide +kernel)
    (case c__law_pot => first | k_is | exact rfl | kernel_rfl! | decide +kernel)
    (case k__law_pot => first | k_is | exact rfl | kernel_rfl! | decide +kernel)
    (case a__law_draw => first | k_is | exact rfl | kernel_rfl! | decide +kernel)
    (case l__law_draw => first | k_is | exact rfl | kernel_rfl! | decide +kernel)
    (case c__law_draw => first | k_is | exact rfl | kernel_rfl! | decide +kernel)
    (case k__law_draw => first | k_is | exact rfl | kernel_rfl! | decide +kernel)
    (case a__law_marks => first | k_is | exact rfl | kernel_rfl! | decide +kernel)
    (case l__law_marks => first | k_is | exact rfl | kernel_rfl! | decide +kernel)
    (case c__law_marks => first | k_is | exact rfl | kernel_rfl! | decide +kernel)
    (case k__law_marks => first | k_is | exact rfl | kernel_rfl! | decide +kernel)
    (case a__law_truths => first | k_is | exact rfl | kernel_rfl! | decide +kernel)
    (case l__law_truths => first | k_is | exact rfl | kernel_rfl! | decide +kernel)
    (case c__law_truths => first | k_is | exact rfl | kernel_rfl! | decide +kernel)
    (case k__law_truths => first | k_is | exact rfl | kernel_rfl! | decide +kernel)
    (case a__law_refused => first | k_is | exact rfl | kernel_rfl! | decide +kernel)
    (case l__law_refused => first | k_is | exact rfl | kernel_rfl! | decide +kernel)
    (case c__law_refused => first | k_is | exact rfl | kernel_rfl! | decide +kernel)
    (case k__law_refused => first | k_is | exact rfl | kernel_rfl! | decide +kernel)
    (case a__law_in_place => first | k_is | exact rfl | kernel_rfl! | decide +kernel)
    (case l__law_in_place => first | k_is | exact rfl | kernel_rfl! | decide +kernel)
    (case c__law_in_place => first | k_is | exact rfl | kernel_rfl! | decide +kernel)
    (case k__law_in_place => first | k_is | exact rfl | kernel_rfl! | decide +kernel)
    (case a_law => first | k_is | exact rfl | kernel_rfl! | decide +kernel)
    (case l_law => first | k_is | exact rfl | kernel_rfl! | decide +kernel)
    (case c_law => first | k_is | exact rfl | kernel_rfl! | decide +kernel)
    (case k_law => first | k_is | exact rfl | kernel_rfl! | decide +kernel)
