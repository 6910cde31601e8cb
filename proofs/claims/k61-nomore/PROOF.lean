import PyProof.Rows.All
import Wide.All
import OpenK.AllK
import Wide.FinOn
import HandS.ForMost
import HandS.ForExc
import HandS.IsInst
import HandS.Strs
import HandS.Wide
import HandS.EndBits
import HandS.ExcInit
import HandS.ExcSuper
import HandS.ExcField
import HandS.ExcIs
import KE.KSuper
import PyProof.ExcBaseAll.LookupError
import PyProof.Rows.FactsExc_KeyError
import KE.KOpsOwn
import HandS.ClsMeth
import KE.KExcIs
import PyProof.ReprRoads
import PyProof.InstNe
import HandS.Defaults
import HandS.Walk
import KE.KDictKeyed
import KE.KDictDisplayH
import HandS.Spec
import HandS.Deep
import HandS.TupAny
import HandS.TupMul
import HandS.SetFor
import HandS.Star
import PyProof.Rows.FactsB_or
import PyProof.Rows.FactsB_and
import PyProof.FactsInt2
import HandS.OwnEq
import HandS.Property
import HandS.More
import HandS.Style
import HandS.Bytes
import HandS.BytesMake
import HandS.TryMany
import HandS.TryOnly
import HandS.Iter
import KE.GoesMore
import HandS.Dict
import KE.KDictCopyH
import KE.KDictAny
import KE.KDictAnyGet
import KE.KEqDict
import KE.KDictLaw
import HandS.DictComp
import HandS.Zip
import KE.KParD
import HandS.HeadWalk
import KE.KCallOwn
import HandS.RevRange
import HandS.Conv
import HandS.Small
import HandS.SortInts
import HandS.GenList
import HandS.Comp
import HandS.RaiseMore
import PyProof.Rows.StrMeet
import HandS.SuiteRaise
import HandS.RaiseFrom
import HandS.ExcInitHot
import KE.KTryMore
import KE.DataMinKey
import HandS.TupLen
import PySem.Challenge.RW_trustedpages_k61_whole_no_cleanings_save
set_option Elab.async false
set_option linter.all false
set_option maxRecDepth 100000
set_option maxHeartbeats 4000000
namespace TP
open PySem PySem.Spec PyProof.Rows L2

def rPlus : R2 := fun x y H Q => rI0 (fun i j => .int (i + j)) x y H Q ∨ (∃ i j, x = .str i ∧ y = .str j ∧ i.length + j.length ≤ sizeLine ∧ Q (.str (i ++ j)) H) ∨ rCat x y H Q
def rMinus : R2 := rI0 fun i j => .int (i - j)
def rTimes : R2 := fun x y H Q => rI CMul (fun i j => .int (i * j)) x y H Q ∨ rRep x y H Q
def rRest : R2 := rI (fun _ j => 0 < j) fun i j => .int (i % j)
def rQuot : R2 := rI CDivW fun i j => .int (i / j)
def rPow : R2 := rI CPow fun i j => .int (i ^ j.toNat)
def rLess : R2 := rI0 fun i j => .bl (decide (i < j))
def rLeq : R2 := rI0 fun i j => .bl (decide (i ≤ j))
def rMore : R2 := rI0 fun i j => .bl (decide (j < i))
def rGeq : R2 := rI0 fun i j => .bl (decide (j ≤ i))
def rSame (K : PySem.W.Frag) : R2 := fun x y H Q => rEq x y H Q ∨ rEqD K x y H Q
def rUnlike (K : PySem.W.Frag) : R2 := fun x y H Q => rNe x y H Q ∨ rNeD K x y H Q
def rIsNo : R2 := fun x y H Q => y = .non ∧ Q (.bl (decide (x = .non))) H
def rNeg : V → Hp → VK → Prop := rU fun i => .int (-i)
def rLen (K : PySem.W.Frag) : List V → Hp → VK → Prop := fun xs H Q => ∃ x n, xs = [x] ∧ LenV K x H n ∧ Q (.int n) H
def rInt1 : List V → Hp → VK → Prop := fun xs H Q => (∃ i, xs = [.int i] ∧ Q (.int i) H) ∨ ∃ k, xs = [.bl k] ∧ Q (.int (if k then 1 else 0)) H
def rListOf (K : PySem.W.Frag) : List V → Hp → VK → Prop := fun xs H Q => ∃ p ys, xs = [.ref p] ∧ (SqL K H p ys ∨ SqT K H p ys) ∧ ∀ l, H l = none → Q (.ref l) (upd H l (.lst ys))
section
variable {X : Cx}
theorem op_plus : OpR X (binaryOp .Add) rPlus := op_add.or (op_add_str.or op_cat)
theorem op_minus : OpR X (binaryOp .Sub) rMinus := op_sub
theorem op_times : OpR X (binaryOp .Mult) rTimes := op_mul.or op_rep
theorem op_rest : OpR X (binaryOp .Mod) rRest := op_mod
theorem op_quot : OpR X (binaryOp .FloorDiv) rQuot := op_fdivW
theorem op_power : OpR X (binaryOp .Pow) rPow := op_pow
theorem op_less : OpR X (compareOp .Lt) rLess := op_lt
theorem op_leq : OpR X (compareOp .LtE) rLeq := op_le
theorem op_more : OpR X (compareOp .Gt) rMore := op_gt
theorem op_geq : OpR X (compareOp .GtE) rGeq := op_ge
theorem op_same (hu : X.A.units + 64 < cLine) : OpR X (compareOp .Eq) (rSame X.K) := op_eq.or (op_eqD hu)
theorem op_unlike (hu : X.A.units + 64 < cLine) : OpR X (compareOp .NotEq) (rUnlike X.K) := op_ne.or (op_neD hu)
theorem op_isno : OpR X (compareOp .Is) rIsNo := op_isN
theorem un_minus : UnR X (unaryOp .USub) rNeg := un_neg
theorem cr_len : CallR X (.builtin "len") (rLen X.K) := call_len
theorem cr_int1 : CallR X (.type "int") rInt1 := call_int1
theorem cr_list : CallR X (.type "list") (rListOf X.K) := call_list_of
end

structure FunI (K : PySem.W.Frag) (mg : Str → Option Value) (x : Str) (st : Stmt) (ps : List Str) : Prop where
  ex : ∃ (f : Addr) (fd : FuncData), mg x = some (.ref f) ∧ Fun K x x st f fd ∧ Binds K fd ps []
structure FnI (P : Program) (w : World) (K : PySem.W.Frag) (mg : Str → Option Value) (base : Heap) (CX : CXT) (k : Nat) (x : Str) (ps : List Str) (sp : Sp) : Prop where
  ex : ∃ (f : Addr) (fd : FuncData), mg x = some (.ref f) ∧ PySem.W.keepIn K (.ref f) = true ∧ FnOk P w K mg base CX k f fd ps sp ∧ Binds K fd ps []
section
variable {P : Program} {w : World} {K : PySem.W.Frag} {mg : Str → Option Value} {base : Heap}
theorem FunI.ok {x : Str} {st : Stmt} {N ps : List Str} {k : Nat} {sp : Sp} (F : FunI K mg x st ps) (S : FnScope N ps (defScope st)) (len : ∀ vs H Q E, sp vs H Q E → vs.length = ps.length) {t : TS}
    (hd : ∀ (f : Addr) (cdv : Value) (A : Around) (outer : List Env) (s : Shared) (H : Hp) (E : XK), Room k (A.deeper (envOfC x (defScope st) s.heap.objs.size f cdv)) →
      PSs (cxOf CX0 P w K mg base N x (defScope st) f cdv A outer s H E).nox (defBody st) t)
    (hb : ∀ (H : Hp) (vs : List V) (Q : VK) (E : XK), sp vs H Q E → t { nx := fun _ H' => Q .non H', rt := Q } (start N vs) H) : FnI P w K mg base CX0 (k + 1) x ps sp := by
  obtain ⟨f, fd, hm, F, b⟩ := F.ex
  exact ⟨f, fd, hm, F.kp, F.ok S len fun cdv A outer s H vs Q E hr h => ⟨t, hd f cdv A outer s H E hr, hb H vs Q E h⟩, b⟩
end
section
variable {X : Cx} {CX : CXT} {k j : Nat} {ps : List Str} {sp : Sp} {E : XK} {x : Str} {p pos : Pos} {e : Expr} {es : List Expr} {t : TA}
end
def tTru (K : PySem.W.Frag) (ta : TE) : TT := fun σ H Q => ta σ H fun x H' => ∃ k, TruV K x H' k ∧ Q k H'
theorem pe_globI {X : Cx} {x : Str} {i : Int} {pos : Pos} (h : ∃ t, X.mg x = some (.int i t)) (hg : Gl X x := by rfl) (hd : (x == ("__debug__" : Str)) = false := by decide) : PE X (.Name x pos) (tC (.int i)) := by
  obtain ⟨t, h⟩ := h
  exact pe_glob hg h ⟨t, rfl⟩ hd
end TP

namespace TP
open PySem PySem.Spec PyProof.Rows L2
section
variable {κ : Type} [DecidableEq κ]
end
section
variable {prog : Program} {w : World} {κ : Type} [DecidableEq κ]
section
variable {A : Around} {R : Result → Shared → Prop} {I : Addr} {fp wr : List Addr} {G : Array GenState → Array GenState → Prop} {n : Nat} {P : Nat → Value → Prop} {St : Nat → Shared → Prop}
end
section
variable {A : Around} {E : Value → Shared → Prop} {s : Shared}
end
end
end TP

namespace TP
open PySem PySem.Spec PyProof.Rows L2
section
variable {σ : L2.St} {H : Hp} {Q : VK} {QB : Bool → Hp → Prop} {QA : List V → Hp → Prop} {D : Ends} {ta tb te to : TE} {tt tu : TT} {tl tr : TA} {ts us : TS} {x y v : V} {i j : Int} {K : PySem.W.Frag}
end
theorem Same.new {H : Hp} {p : Addr} {o : HO} (h : H p = none) : Same H (upd H p o) := fun a u e => by
  rw [upd_ne (ne_of_none e h)]; exact e
theorem Same.none {H H' : Hp} (e : Same H H') {l : Addr} (h : H' l = Option.none) : H l = Option.none := e.free h
theorem Same.sqT {K : PySem.W.Frag} {H H' : Hp} {a : Addr} {xs : List V} (e : Same H H') (h : SqT K H a xs) : SqT K H' a xs := by
  rcases h with (h | ⟨o, h⟩) | h
  · exact .inl (.inl (e _ _ h))
  · exact .inl (.inr ⟨o, e _ _ h⟩)
  · exact .inr h
section
variable {σ : L2.St} {H : Hp} {Q : VK} {D : Ends} {te : TE} {tt : TT} {tl : TA} {tb : TS} {g : TG} {wi : TI} {vs : List Nat} {K : PySem.W.Frag} {R : It → Hp → Prop} {i j : Int}
end
section
variable {σ : L2.St} {H : Hp} {Q : VK} {D : Addr} {te : TE} {tt : TT} {g : TG} {vs : List Nat} {K : PySem.W.Frag} {a : Addr}
end
end TP

namespace TP
open PySem PySem.Spec PyProof.Rows L2
def dV : V → PyData
  | .bl b => .bool b
  | .int i => .int i
  | .str x => .str x
  | _ => .none
section
variable {K : PySem.W.Frag} {H : Hp} {Q : VK}
end
end TP

namespace TP
open PySem PySem.Spec PyProof.Rows L2
abbrev vin : Value := .builtin "ValueError.__init__"
abbrev vw (x : Addr) : Obj := { cls := .type "method-wrapper", dict := none, data := .fields #[vin, .ref x], slots := #[] }
abbrev supO (D x C : Addr) : Obj := { cls := .type "super", dict := none, data := .fields #[.ref D, .ref x, .ref C], slots := #[] }
theorem v_type : typeOf vin = pure (.type "wrapper_descriptor") := by show builtinType _ = _; rw [builtinType_eq_fast]; kernel_rfl
theorem v_nac : (kfb_private% "nameAndClass") vin = (pure (("__init__" : Str), Value.type "ValueError") : Sem (Str × Value)) := by kernel_rfl
section
variable {P : Program} {w : World} {M : Model} {A : Around} {E : Value → Shared → Prop} {h : Heap} {g : Array GenState} {d : Drawn} {t : Nat} {os : OsState}
theorem v_bound {x C : Addr} {R : Fin → Shared → Prop} (hin : W.Looks M h (isInstance (.ref x) (.type "ValueError")) true) (hq : R (.done (.ret (.ref h.objs.size))) ⟨h.push (vw x), g, d, t, os⟩) :
    wpAny M A (Builtin.«wrapper_descriptor.__get__» ⟨[vin, .ref x, .ref C], []⟩) R E ⟨h, g, d, t, os⟩ := by
  unfold Builtin.«wrapper_descriptor.__get__»
  refine wpAny_bind (wpAny_of_eq (a := (vin, some (.ref x), some (.ref C))) (by first | rfl | kernel_rfl) ?_)
  refine wpAny_bind (m := (kfb_private% "checkInstance") vin (.ref x)) ?_
  refine wpAny_bind (m := (kfb_private% "nameAndClass") vin) (wpAny_of_eq v_nac ?_)
  refine wpAny_bind (m := isInstance (.ref x) (.type "ValueError")) (hin.at (W.KFB.if_not rfl (wpAny_pure ?_)))
  exact wpAny_bind (wpAny_newObj_type (wpAny_pure hq))
theorem v_ga {so D x C : Addr} {l₀ l : List Value} {K : W.Frag} {tk : Tok} {Q : Fin → Shared → Prop} (hso : h.get? so = some (supO D x C)) (hno : W.Looks (model P w) h (opaqueClassAbove (.ref C)) none)
    (hC : W.Looks (model P w) h (mroOf (.ref C)) l₀) (hl : (l₀.dropWhile (· != .ref D)).drop 1 = l) (X : K.In h) (hf : W.alongIn K "__init__" l = some (some vin)) (hxC : x ≠ C) (hin : W.Looks (model P w) h (isInstance (.ref x) (.type "ValueError")) true)
    (hq : Q (.done (.ret (.ref h.objs.size))) ⟨h.push (vw x), g, d, t, os⟩) : wpAny (model P w) A (Builtin.«super.__getattribute__» ⟨[.ref so, .str "__init__" tk], []⟩) Q E ⟨h, g, d, t, os⟩ := by
  have lk := ESX.slot_wd.lookup
  have ne : (Value.ref x == Value.ref C) = false := by simp [hxC]
  have nc : (("__init__" : Str) == ("__class__" : Str)) = false := by decide
  have ty := v_type
  have tI : Shared.TypeIs ⟨h, g, d, t, os⟩ vin "wrapper_descriptor" := v_type
  have dt : (supO D x C).data = .fields #[.ref D, .ref x, .ref C] := rfl
  have a0 : (#[.ref D, .ref x, .ref C] : Array Value)[0]? = some (.ref D) := rfl
  have a1 : (#[.ref D, .ref x, .ref C] : Array Value)[1]? = some (.ref x) := rfl
  have a2 : (#[.ref D, .ref x, .ref C] : Array Value)[2]? = some (.ref C) := rfl
  unfold Builtin.«super.__getattribute__»
  repeat (first
    | (with_reducible refine wpAny_field hso dt a0 ?_) | (with_reducible refine wpAny_field hso dt a1 ?_) | (with_reducible refine wpAny_field hso dt a2 ?_) | (with_reducible refine ks_wpAny_notOpaque hno ?_)
    | (with_reducible refine W.Looks.at hC ?_; rw [hl]) | (refine ks_forIn_along X (fun _ _ => rfl) rfl ?_ hf) | (with_reducible refine wpAny_call_entry ESX.slot_wd tI ESX.entry_wd ?_ (ESX.args_wd _ _ _)) | (with_reducible refine v_bound hin ?_)
    | (with_reducible refine ⟨_, rfl, ?_⟩) | (simp only [nc, ne, Bool.or_false, Bool.false_eq_true, if_false]) | wp_step | dsimp only)
  all_goals exact hq
theorem v_method {so D x C : Addr} {l₀ l : List Value} {K : W.Frag} {pl : Sem Bool} {Q : Value × List Value → Shared → Prop} (hso : h.get? so = some (supO D x C)) (hno : W.Looks (model P w) h (opaqueClassAbove (.ref C)) none)
    (hC : W.Looks (model P w) h (mroOf (.ref C)) l₀) (hl : (l₀.dropWhile (· != .ref D)).drop 1 = l) (X : K.In h) (hf : W.alongIn K "__init__" l = some (some vin)) (hxC : x ≠ C) (hin : W.Looks (model P w) h (isInstance (.ref x) (.type "ValueError")) true)
    (hq : Q (.ref h.objs.size, []) ⟨h.push (vw x), g, d, t + 1, os⟩) : wpAny (model P w) A (getMethod (.ref so) "__init__" pl) Q E ⟨h, g, d, t, os⟩ := by
  have lk := F.ks_slot_super_ga.lookup
  have can := F.ks_canon_super_ga
  have hT : ∀ t', (⟨h, g, d, t', os⟩ : Shared).TypeIs (.ref so) "super" := fun _ => ⟨_, hso, rfl⟩
  unfold getMethod
  refine wpAny_bind (wpAny_specialOf (hT _) lk ?_)
  refine W.KFB.if_so can ?_
  unfold getAttr getAttrBy
  refine wpAny_bind (wpAny_bind (wpAny_mkText (wpAny_holding (wpAny_bind (wpAny_typeOf (hT _) (wpAny_bind (wpAny_of_eq lk ?_)))))))
  show wpAny _ _ (getAttrByItsOwn (.ref so) (.str "__init__" t) (.type "super") (.builtin "super.__getattribute__") true false) _ _ _
  unfold getAttrByItsOwn hookBefore callGetattribute boundAndCalled
  refine wpAny_bind (wpAny_of_eq (show (if onTheHeap (.type "super") then typeLookup (.type "super") "__getattr__" else pure none) = pure none from rfl) ?_)
  refine wpAny_bind (wpAny_attempt (wpAny_holding (wpAny_bind (m := bindSpecial (.builtin "super.__getattribute__") (.ref so)) (wpAny_of_eq (F.ks_slot_super_ga.bind _) ?_))))
  refine wpAny_mono (Q := fun v s' => v = .ref h.objs.size ∧ s' = ⟨h.push (vw x), g, d, t + 1, os⟩) (E := fun _ _ => False) (wpAny_call_entry F.ks_slot_super_ga (hT _) F.ks_entry_super_ga (v_ga hso hno hC hl X hf hxC hin ⟨_, rfl, rfl, rfl⟩) (F.ks_gaArgs_super _ _)) (fun v s' hv => ?_) fun _ _ z => z.elim
  obtain ⟨rfl, rfl⟩ := hv
  exact wpAny_pure (wpAny_pure hq)
end
section
variable {P : Program} {w : World} {M : Model} {A : Around} {E : Value → Shared → Prop} {s : Shared}
theorem v_with {pos : Pos} {u x : Addr} {args : List (Bool × Sem Value)} {Q : Value → Shared → Prop} (hp : args.any (·.1) = false)
    (h : wpAny M A (evalArgs (.ref u) true args []) (fun a s₁ => s₁.heap.get? u = some (vw x) ∧ wpAny M A (call (.ref u) ([] ++ a.pos) a.kw) Q E s₁) E s) : wpAny M A (callWith pos (.ref u) [] args []) Q E s := by
  unfold callWith
  refine wpAny_bind (wpAny_holding (wpAny_mono h (fun a s₁ h₁ => wpAny_bind (wpAny_standAt ?_)) fun _ _ z => z))
  obtain ⟨ho, hc⟩ := h₁
  simp only [hp, List.any_nil, Bool.or_false]
  refine wpAny_bind (m := keeperOf (.ref u)) ?_
  unfold keeperOf
  refine wpAny_bind (wpAny_load ho ?_)
  have e1 : (Value.type "method-wrapper" != Value.type "method") = true := by decide
  have e2 : (Value.type "method-wrapper" == Value.type "builtin_function_or_method" || Value.type "method-wrapper" == Value.type "method-wrapper") = true := by decide
  simp only [vw, e1, e2, if_true]
  exact wpAny_pure (wpAny_bind (wpAny_mono hc (fun r s₂ hr => wpAny_bind (wpAny_holding (wpAny_point (wpAny_pure hr)))) fun _ _ z => z))
end
section
variable {P : Program} {w : World} {A : Around} {E : Value → Shared → Prop} {h : Heap} {g : Array GenState} {d : Drawn} {t : Nat} {os : OsState}
variable {nm q : Str} {C N : Addr} {bs bm : List Value} {hdct : Bool} {sn : List Str} {sub : List Value} {ab : Bool} {col : Option Bool} {dd : Option Addr} {k0 k1 k2 k3 k5 : Option Value}
theorem v_call {u e t0 : Addr} {rest : List Value} {Q : Value → Shared → Prop} (hC : h.get? C = some (excClassObj nm q C N bs bm hdct sn sub ab col dd k0 k1 k2 k3 k5 "ValueError.__new__")) (he : h.get? e = some (HandSPX.excO C t0)) (hu : h.get? u = some (vw e)) (hr : rest.length ≤ sizeLine)
    (hq : ∀ h' t1, (∀ b o, b ≠ e → h.get? b = some o → h'.get? b = some o) → h'.get? e = some (HandSPX.excO C t1) → Q .none ⟨h', g, d, t, os⟩) : wpAny (model P w) A (call (.ref u) rest) Q E ⟨h, g, d, t, os⟩ := by
  have FB := F.excBase_ValueError
  refine wpAny_call (codeAny_of_tree ?_)
  show wpAny _ A.in1 (callAny (.ref u) ⟨rest, []⟩) _ _ _
  simp only [callAny]
  refine wpAny_bind (wpAny_load hu ?_)
  have e3 : (Value.type "method-wrapper" == Value.type "method" || Value.type "method-wrapper" == Value.type "builtin_function_or_method" || Value.type "method-wrapper" == Value.type "method-wrapper") = true := by decide
  simp only [vw, e3, if_true]
  refine W.KFB.if_so (by decide) (wpAny_bind (ESX.check_bound FB hC he rfl (wpAny_bind (wpAny_pure (wpAny_pure ?_)))))
  refine ⟨Code.quiet_builtin _ (by decide +kernel), codeAny_builtin FB.initEntry ?_⟩
  rw [Around.under_plainId FB.init.plain _]
  wp_walk
  refine hq _ h.objs.size (fun b o hb ho => ?_) ?_
  · rw [Heap.get?_update_other _ _ (Ne.symm hb)]
    exact Heap.get?_push_of_some _ ho
  · rw [Heap.get?_update_self _ (Heap.get?_push_of_some _ he) rfl]
    rfl
end
end TP

namespace TP
open PySem PySem.Spec PyProof.Rows L2
def iniBody (fld txt : Str) (n3 : Nat) (p0 p1 p2 p3 p4 p5 q0 q1 q2 q3 : Pos) : List Stmt :=
  [.Expr (.Call (.Attribute (.Call (.Name "super" p0) [] [] p1) "__init__" p2) [.Constant (.str txt) n3 p3] [] p4) p5, .Assign [.Attribute (.Name "self" q0) fld q1] (.Name fld q2) q3]
def iniScope (fld : Str) : Scope := { kind := .function, names := [(PySem.Str.ofString "self", .local), (fld, .local), (PySem.Str.ofString "__class__", .free), (PySem.Str.ofString "super", .globalImplicit)], isGenerator := false, isCoroutine := false, more := [] }
theorem meth_eq {o : Expr} {name : Str} {apos pos : Pos} {args : List Expr} {env : Env} (hf : methodCallForm (args.length + 0) (backTo pos (starEach args env)) [] = true) (hl : (apos.endLine == pos.line) = true) :
    eval (.Call (.Attribute o name apos) args [] pos) env = (do
      let ov ← attributeBase o name env (eval o env)
      standAt apos.atName
      let (f, first) ← holding [ov] (getMethod ov name (do return (← importBound o env).getD true))
      callWith pos f first (backTo pos (starEach args env)) []) := by
  have e : ∀ ov, methodCall o name apos pos env ov (args.length + 0) (backTo pos (starEach args env)) [] = (do
      let (f, first) ← holding [ov] (getMethod ov name (do return (← importBound o env).getD true))
      callWith pos f first (backTo pos (starEach args env)) []) := fun ov => by
    unfold methodCall calleeOf methodCallPos
    rw [hf]
    simp [hl]
  show (attributeBase o name env (eval o env) >>= fun ov => standAt apos.atName >>= fun _ => methodCall o name apos pos env ov (args.length + 0) (backTo pos (starEach args env)) []) = _
  simp only [e]
/-- what the written part says of an error's class at C and of its __init__ at fI -/
structure IniTxt (P : Program) (K : PySem.W.Frag) (mg : Str → Option Value) (C fI : Addr) (fld qual : Str) (fd : FuncData) : Prop where
  oex : OexC K C
  no : PySem.W.findIn K (.ref C) fld = some none
  sup : mg "super" = none
  opq : PySem.W.nsIn K cStatics "thirdparty.any" = some none
  along : PySem.W.ks_superIn K C C "__init__" = some (some vin)
  mine : PySem.W.mroIn K C (.ref C) = some true
  isV : PySem.W.mroIn K C (.type "ValueError") = some true
  top : (P.main.scope.names.lookup ("super" : Str)).isSome = false
  code : ∃ (oc : Value) (od : Option Addr) (params : Arguments) (kV doc pm : Value) (an : Option Addr) (cda : Addr) (ct : Value) (cc : Addr) (osl : Array (Option Value)) (ar : Arg) (ccl : Value) (cdd : Option Addr) (vs : Array Value) (ccs : Array (Option Value)) (file : Str) (tf : Tok) (cl : Value) (cld : Option Addr) (csl : Array (Option Value))
      (txt : Str) (n3 : Nat) (p0 p1 p2 p3 p4 p5 q0 q1 q2 q3 : Pos),
    fd = PySem.W.ksFn "__init__" qual params (iniBody fld txt n3 p0 p1 p2 p3 p4 p5 q0 q1 q2 q3) (iniScope fld) .none kV doc pm an (.ref cda) ct cc ∧ K.lookup fI = some ⟨oc, od, .func fd, osl⟩ ∧ PySem.W.codeIn K (.ref cda) qual = true ∧
    (params.posonlyargs ++ params.args).head? = some ar ∧ ar.arg = "self" ∧ K.lookup cda = some ⟨ccl, cdd, .fields vs, ccs⟩ ∧ vs[2]? = some (.str file tf) ∧ ((P.main.file : Str) == file) = true ∧ K.lookup cc = some ⟨cl, cld, .cell (some (.ref C)), csl⟩ ∧
    (iniScope fld).names.lookup ("super" : Str) = some .globalImplicit ∧ (iniScope fld).names.lookup ("__class__" : Str) = some .free ∧ (iniScope fld).names.lookup ("self" : Str) = some .local ∧ (iniScope fld).names.lookup fld = some .local ∧ (fld == ("__debug__" : Str)) = false ∧ (fld ≠ "self") ∧ (p2.endLine == p4.line) = true
def sp_exi (C : Addr) (fld : Str) : Sp := fun vs H Q _ => ∃ (a : Addr) (v : V), vs = [.ref a, v] ∧ H a = some (exo a C none) ∧ ∀ dx, H dx = none → dx ≠ a → Q .non (upd (upd H dx (exd dx [(fld, v)])) a (exo a C (some dx)))
theorem exc_init_ok {P : Program} {w : World} {K : PySem.W.Frag} {mg : Str → Option Value} {base : Heap} {C fI : Addr} {fld qual : Str} {fd : FuncData} (T : IniTxt P K mg C fI fld qual fd) : FnOk P w K mg base CX0 2 fI fd ["self", fld] (sp_exi C fld) := by
  obtain ⟨oc, od, params, kV, doc, pm, an, cda, ct, cc, osl, ar, ccl, cdd, vs0, ccs, file, tf, cl, cld, csl, txt, n3, p0, p1, p2, p3, p4, p5, q0, q1, q2, q3, rfl, hlk, hcd, hpar, harg, hcode, hvs, hfile, hcell, ssup, scls, sself, sfld, hdb, hne, hln⟩ := T.code
  have sk : (iniScope fld).kind = .function := rfl
  have snoc : ∀ x ∈ (iniScope fld).names, x.2 ≠ .cell := fun x hx => by
    simp only [iniScope, List.mem_cons, List.not_mem_nil, or_false] at hx
    rcases hx with rfl | rfl | rfl | rfl <;> (intro z; cases z)
  refine ⟨fun vs H Q E h => by obtain ⟨a, v, rfl, _⟩ := h; rfl, fun A outer s H args us vs Q E hr e0 hb hv hsp => ?_⟩
  obtain ⟨a, v, rfl, ha, k⟩ := hsp
  obtain ⟨u, rfl, ru⟩ : ∃ u, us = [.ref a, u] ∧ RelV v u := by
    cases hv with
    | cons r1 r2 =>
      cases r2 with
      | cons r3 r4 =>
        cases r4
        cases r1
        exact ⟨_, rfl, r3⟩
  have KX : K.In s.heap := e0.mod.kin.keeps fun b o e => (e0.bs b o e).1
  have lim : s.heap.NoLimit := e0.mod.nolimit.keeps fun b o e => (e0.bs b o e).1
  obtain ⟨t1, hoa⟩ := exo_at e0.hok ha
  obtain ⟨nm, q, N, bs, bm, sn, sub, ab, col, dd, k0, k1, k2, k3, k5, hC, hbm⟩ := T.oex.cls
  have hcl : PySem.W.clsIn K C = some { name := nm, bases := bs, mro := .ref C :: bm, ns := N, qualname := q, hasDict := true, slotNames := sn, subclasses := sub, abstract := ab, collection := col, hasDel := false } := by unfold PySem.W.clsIn; rw [hC]
  have hal : PySem.W.alongIn K "__init__" bm = some (some vin) := by
    have z := T.along
    unfold PySem.W.ks_superIn at z
    rw [hcl, Option.bind_some, ESX.drop_own] at z
    exact z
  obtain ⟨mb, hmb, hmb2⟩ := e0.mod.blt
  refine ks_codeAny_call_defAt (binds := [("self", .ref a), (fld, u)]) hr.depth (KX _ _ hlk) rfl lim (PySem.W.codeRec_of KX hcd) rfl hb snoc (fun y hy => ?_) (fun h₁ hns hk₁ => ?_) rfl rfl rfl
  · rcases List.mem_cons.mp hy with rfl | hy
    · exact sself
    · rw [List.mem_singleton.mp hy]; exact sfld
  have X₁ : K.In h₁ := KX.keeps hk₁
  have hbk : ∀ b o, base.get? b = some o → h₁.get? b = some o := fun b o e => hk₁ b o (e0.bs b o e).1
  have hx₁ := hk₁ _ _ hoa
  have I₁ : PySem.W.InstAt h₁ a (HandSPX.excO C t1) C none := ⟨hx₁, rfl, rfl, trivial⟩
  have hself : (List.reverse [(("self" : Str), Value.ref a), (fld, u)]).lookup ("self" : Str) = some (.ref a) := by
    have e : (("self" : Str) == fld) = false := by simpa using fun z : ("self" : Str) = fld => hne z.symm
    simp [List.lookup, e]
  have hfld : (List.reverse [(("self" : Str), Value.ref a), (fld, u)]).lookup fld = some u := by simp [List.lookup]
  obtain ⟨oD, hD1, hD2⟩ : ∃ oD, h₁.get? C = some oD ∧ oD.data = .cls { name := nm, bases := bs, mro := .ref C :: bm, ns := N, qualname := q, hasDict := true, slotNames := sn, subclasses := sub, abstract := ab, collection := col, hasDel := false } := ⟨_, X₁ _ _ hC, rfl⟩
  obtain ⟨hp, g, d, tk, os⟩ := s
  -- super().__init__('..')
  refine ks_wpAt_execs_cons (ks_wpAt_Expr_any (ks_wpAt_MethodCall ?_ (meth_eq rfl hln)) rfl rfl)
  refine ks_wpAt_super_base ssup scls (by decide) rfl (X₁ _ _ hlk) rfl hpar rfl (X₁ _ _ hcode) rfl hvs hfile T.top ?_
  refine PySem.W.ks_loadName_global sk ssup (Calls.loadGlobal_builtin (e0.mod.glob.keeps hbk) T.sup (hmb.keeps hbk) ((hmb2 "super" (by decide)).trans (by decide +kernel)) ⟨rfl, ?_⟩)
  refine wpAny_loadName_free sk scls rfl ⟨_, X₁ _ _ hcell, rfl⟩ ?_
  rw [harg]
  refine wpAny_loadName_local sk sself hns hself ?_
  refine ks_wpAny_isType_cls hD1 hD2 ⟨rfl, ?_⟩
  refine ks_wpAny_call_super hD1 hD2 hx₁ rfl (fun c e => by cases e) (PySem.W.looks_mroIn X₁ T.mine) (fun h₂ hso k₂ => ?_)
  have X₂ : K.In h₂ := X₁.keeps k₂
  have I₂ : PySem.W.InstAt h₂ a (HandSPX.excO C t1) C none := ⟨k₂ _ _ hx₁, rfl, rfl, trivial⟩
  have hmr : PySem.W.Looks (model P w) h₂ (mroOf (.ref C)) (.ref C :: bm) := (PySem.W.looks_clsIn X₂ hcl).andThen .now
  refine v_method hso (PySem.W.looks_opaque X₂ T.opq) hmr (ESX.drop_own C bm) X₂ hal (PySem.W.ks_ne X₂ I₂ hcl) (I₂.type.andThen (PySem.W.looks_mroIn X₂ T.isV)) ?_
  refine v_with (x := a) rfl (Calls.evalArgs_plain (Calls.spliced_cons (Calls.Constant_str (k := n3) (pos := p3) (Calls.spliced_nil ⟨Heap.get?_push_size _ rfl, ?_⟩))))
  have k₃ : ∀ b o, h₂.get? b = some o → (h₂.push (vw a)).get? b = some o := fun b o e => Heap.get?_push_of_some _ e
  refine v_call (X₂.keeps k₃ _ _ hC) (k₃ _ _ (k₂ _ _ hx₁)) (Heap.get?_push_size _ rfl) (by show 1 ≤ sizeLine; decide) (fun h₄ t4 k₄ hx₄ => ?_)
  -- self.f = f
  have keep4 : ∀ b o, b ≠ a → h₁.get? b = some o → h₄.get? b = some o := fun b o n e => k₄ b o n (k₃ _ _ (k₂ _ _ e))
  have nLa : hp.objs.size ≠ a := Nat.ne_of_gt (Heap.lt_size hoa)
  have X₄ : K.In h₄ := fun b o e => keep4 b o (fun z => by
    have q1 := X₁ _ _ e
    rw [z, hx₁] at q1
    have := e0.hok
    have hb := (e0.mod.kin _ _ e)
    rw [z] at hb
    have := (e0.bs _ _ hb).2
    rw [ha] at this
    cases this) (X₁ _ _ e)
  have hns4 : h₄.Ns hp.objs.size (fun y => (List.reverse [(("self" : Str), Value.ref a), (fld, u)]).lookup y) := by
    obtain ⟨o, es, ep, ho, rest⟩ := hns
    exact ⟨o, es, ep, keep4 _ _ nLa ho, rest⟩
  refine wpAt_of_wpAny (wpAny_execs_cons (plainObj_wpAny_Assign_Attribute (wpAny_Name (wpAny_loadName_local sk sfld hns4 hfld (wpAny_Name (wpAny_loadName_local sk sself hns4 hself ?_) (by decide))) hdb)))
  refine PySem.W.set_plain X₄ (ox := HandSPX.excO C t4) (od := none) ⟨hx₄, rfl, rfl, trivial⟩ T.oex.sa ?_
  refine HandSPX.exc_osa X₄ hx₄ hcl (show HandSPX.refsVE (.ref C :: bm) = true from hbm) rfl T.no (fun h₅ tk₅ dx k₅ dn dne hx₅ hn₅ => ?_)
  have z : hp.objs.size < h₁.objs.size := hns.lt
  have big : hp.objs.size ≤ dx := by
    obtain ⟨o, es, ep, ho, rest⟩ := hns4
    exact Nat.le_of_lt (Nat.lt_of_lt_of_le (Heap.lt_size ho) dn)
  refine wpAny_execs_nil ?_
  have hnd : H dx = none := e0.hok.fresh big
  have keep5 : ∀ b o, b ≠ a → hp.get? b = some o → h₅.get? b = some o := fun b o n e => k₅ b o n (keep4 b o n (hk₁ _ _ e))
  have nd : ∀ {b : Addr} {o : Obj}, hp.get? b = some o → b ≠ dx := fun {b o} q => Nat.ne_of_lt (Nat.lt_of_lt_of_le (Heap.lt_size q) big)
  have na : ∀ {b : Addr}, H b = none → b ≠ a := fun {b} n z => by
    rw [z, ha] at n
    cases n
  have U : Un (frs outer) [] H (upd (upd H dx (exd dx [(fld, v)])) a (exo a C (some dx))) hp h₅ := {
    keep := fun b o q n _ _ => keep5 b o (na n) q
    slot := fun b o q n _ _ => ⟨o.slots, keep5 b o (na n) q⟩
    free := fun b o q n _ => by rw [upd_ne (na n), upd_ne (nd q)]; exact n
    there := fun b o q _ => by
      by_cases e : b = a
      · exact ⟨_, by rw [e]; exact hx₅⟩
      · exact ⟨o, keep5 b o e q⟩
    tups := fun b xs q => by rw [upd_ne (at_ne ha q exo_tup), upd_ne (ne_of_none q hnd)]; exact q
    frzs := fun b o y q => by rw [upd_ne (at_ne ha q exo_frz), upd_ne (ne_of_none q hnd)]; exact q
    tbls := fun b ps q => ⟨#[], by rw [upd_ne (at_ne ha q exo_tbl), upd_ne (ne_of_none q hnd), q]; simp⟩ }
  refine ⟨.non, _, rfl, e0.bare, U, fun b o q => ?_, rfl, k dx hnd dne⟩
  by_cases e1 : b = a
  · subst e1
    rw [upd_same] at q
    cases q
    exact exo_ok hx₅
  · rw [upd_ne e1] at q
    by_cases e2 : b = dx
    · subst e2
      rw [upd_same] at q
      cases q
      exact exd_ok hn₅ (relO_put (fs := []) ru fun _ => True.intro)
    · rw [upd_ne e2] at q
      refine (e0.hok b o q).stay (fun c y hc z => keep5 c y ?_ z) (fun c hc => ?_) (fun c xs hc => ?_)
      · rcases hc with hc | hc
        · rw [hc]; exact e1
        · exact at_ne ha hc exo_own
      · rw [upd_ne (at_ne ha hc exo_own), upd_ne (ne_of_none hc hnd)]; exact hc
      · rw [upd_ne (at_ne ha hc exo_tup), upd_ne (ne_of_none hc hnd)]; exact hc
end TP

namespace TP
open PySem PySem.Spec PyProof.Rows L2
abbrev keTail : List Value := [.type "KeyError", .type "LookupError", .type "Exception", .type "BaseException", .type "object"]
/-- what the written part says of such a class -/
structure OexK (K : PySem.W.Frag) (C : Addr) : Prop where
  cls : ∃ nm q N bs bm sn sub ab col dd k0 k1 k2 k3 k5, K.lookup C = some (excClassObj nm q C N bs bm true sn sub ab col dd k0 k1 k2 k3 k5 "LookupError.__new__") ∧ bm = keTail
  sa : PySem.W.findIn K (.ref C) "__setattr__" = some (some (.builtin "object.__setattr__"))
  exC : PySem.W.subIn K (.ref C) (.type "BaseException") = some true
  tyC : PySem.W.typeIn K (.ref C) = some (.type "type")
  kC : PySem.W.keepIn K (.ref C) = true
section
open Builtin Builtin.ObjectAttr PySem.HandSPX
variable {prog : Program} {w : World} {A : Around} {R : Result → Shared → Prop} {hp : Heap} {g : Array GenState} {d : Drawn} {t : Nat} {os : OsState}
end
section
open PySem.HandSPX
variable {prog : Program} {w : World} {M : Model} {A : Around} {E : Value → Shared → Prop} {R : Result → Shared → Prop} {h : Heap} {g : Array GenState} {d : Drawn} {t : Nat} {os : OsState}
variable {nm q : Str} {C N : Addr} {bs bm : List Value} {hdct : Bool} {sn : List Str} {sub : List Value} {ab : Bool} {col : Option Bool} {dd : Option Addr} {k0 k1 k2 k3 k5 : Option Value}
end
abbrev kin_ : Value := .builtin "KeyError.__init__"
section
variable {P : Program} {w : World} {M : Model} {A : Around} {E : Value → Shared → Prop} {h : Heap} {g : Array GenState} {d : Drawn} {t : Nat} {os : OsState}
end
section
variable {P : Program} {w : World} {M : Model} {A : Around} {E : Value → Shared → Prop} {s : Shared}
end
section
variable {P : Program} {w : World} {A : Around} {E : Value → Shared → Prop} {h : Heap} {g : Array GenState} {d : Drawn} {t : Nat} {os : OsState}
variable {nm q : Str} {C N : Addr} {bs bm : List Value} {hdct : Bool} {sn : List Str} {sub : List Value} {ab : Bool} {col : Option Bool} {dd : Option Addr} {k0 k1 k2 k3 k5 : Option Value}
end
/-- what the written part says of an error's class at C and of its __init__ at fI -/
structure IniTxtK (P : Program) (K : PySem.W.Frag) (mg : Str → Option Value) (C fI : Addr) (fld qual : Str) (fd : FuncData) : Prop where
  oex : OexK K C
  no : PySem.W.findIn K (.ref C) fld = some none
  sup : mg "super" = none
  opq : PySem.W.nsIn K cStatics "thirdparty.any" = some none
  along : PySem.W.ks_superIn K C C "__init__" = some (some kin_)
  mine : PySem.W.mroIn K C (.ref C) = some true
  isV : PySem.W.mroIn K C (.type "KeyError") = some true
  top : (P.main.scope.names.lookup ("super" : Str)).isSome = false
  code : ∃ (oc : Value) (od : Option Addr) (params : Arguments) (kV doc pm : Value) (an : Option Addr) (cda : Addr) (ct : Value) (cc : Addr) (osl : Array (Option Value)) (ar : Arg) (ccl : Value) (cdd : Option Addr) (vs : Array Value) (ccs : Array (Option Value)) (file : Str) (tf : Tok) (cl : Value) (cld : Option Addr) (csl : Array (Option Value))
      (txt : Str) (n3 : Nat) (p0 p1 p2 p3 p4 p5 q0 q1 q2 q3 : Pos),
    fd = PySem.W.ksFn "__init__" qual params (iniBody fld txt n3 p0 p1 p2 p3 p4 p5 q0 q1 q2 q3) (iniScope fld) .none kV doc pm an (.ref cda) ct cc ∧ K.lookup fI = some ⟨oc, od, .func fd, osl⟩ ∧ PySem.W.codeIn K (.ref cda) qual = true ∧
    (params.posonlyargs ++ params.args).head? = some ar ∧ ar.arg = "self" ∧ K.lookup cda = some ⟨ccl, cdd, .fields vs, ccs⟩ ∧ vs[2]? = some (.str file tf) ∧ ((P.main.file : Str) == file) = true ∧ K.lookup cc = some ⟨cl, cld, .cell (some (.ref C)), csl⟩ ∧
    (iniScope fld).names.lookup ("super" : Str) = some .globalImplicit ∧ (iniScope fld).names.lookup ("__class__" : Str) = some .free ∧ (iniScope fld).names.lookup ("self" : Str) = some .local ∧ (iniScope fld).names.lookup fld = some .local ∧ (fld == ("__debug__" : Str)) = false ∧ (fld ≠ "self") ∧ (p2.endLine == p4.line) = true
section
variable {X : Cx} {e : Expr} {es : List Expr} {ta : TA} {p pos : Pos}
end
end TP

namespace TP
open PySem PySem.Spec PyProof.Rows L2
structure MunI (K : PySem.W.Frag) (C : Addr) (m qual : Str) (st : Stmt) (ps : List Str) : Prop where
  ex : ∃ (f : Addr) (fd : FuncData), Meth K C m f ∧ Fun K m qual st f fd ∧ Binds K fd ps [] ∧ PySem.W.fnIn K f = true
structure MthI (P : Program) (w : World) (K : PySem.W.Frag) (mg : Str → Option Value) (base : Heap) (CX : CXT) (k : Nat) (C : Addr) (m : Str) (ps : List Str) (sp : Sp) : Prop where
  ex : ∃ (f : Addr) (fd : FuncData), Meth K C m f ∧ FnOk P w K mg base CX k f fd ps sp ∧ Binds K fd ps [] ∧ PySem.W.fnIn K f = true
section
variable {P : Program} {w : World} {K : PySem.W.Frag} {mg : Str → Option Value} {base : Heap} {C : Addr}
theorem MunI.ok {m qual : Str} {st : Stmt} {N ps : List Str} {k : Nat} {sp : Sp} (F : MunI K C m qual st ps) (S : FnScope N ps (defScope st)) (len : ∀ vs H Q E, sp vs H Q E → vs.length = ps.length) {t : TS}
    (hd : ∀ (f : Addr) (cdv : Value) (A : Around) (outer : List Env) (s : Shared) (H : Hp) (E : XK), Room k (A.deeper (envOfC qual (defScope st) s.heap.objs.size f cdv)) → PSs (cxOf CX0 P w K mg base N qual (defScope st) f cdv A outer s H E).nox (defBody st) t)
    (hb : ∀ (H : Hp) (vs : List V) (Q : VK) (E : XK), sp vs H Q E → t { nx := fun _ H' => Q .non H', rt := Q } (start N vs) H) : MthI P w K mg base CX0 (k + 1) C m ps sp := by
  obtain ⟨f, fd, hm, F, b, fi⟩ := F.ex
  exact ⟨f, fd, hm, F.ok S len fun cdv A outer s H vs Q E hr h => ⟨t, hd f cdv A outer s H E hr, hb H vs Q E h⟩, b, fi⟩
/-- .. one that may raise -/
theorem MunI.okX {m qual : Str} {st : Stmt} {N ps : List Str} {k : Nat} {sp : Sp} (F : MunI K C m qual st ps) (S : FnScope N ps (defScope st)) (len : ∀ vs H Q E, sp vs H Q E → vs.length = ps.length) {t : XK → TS}
    (hd : ∀ (f : Addr) (cdv : Value) (A : Around) (outer : List Env) (s : Shared) (H : Hp) (E : XK), Room k (A.deeper (envOfC qual (defScope st) s.heap.objs.size f cdv)) → PSs (cxOf (L2.CX P w) P w K mg base N qual (defScope st) f cdv A outer s H E) (defBody st) (t E))
    (hb : ∀ (H : Hp) (vs : List V) (Q : VK) (E : XK), sp vs H Q E → t E { nx := fun _ H' => Q .non H', rt := Q } (start N vs) H) : MthI P w K mg base (L2.CX P w) (k + 1) C m ps sp := by
  obtain ⟨f, fd, hm, F, b, fi⟩ := F.ex
  exact ⟨f, fd, hm, F.okX S len fun cdv A outer s H vs Q E hr h => ⟨t E, hd f cdv A outer s H E hr, hb H vs Q E h⟩, b, fi⟩
theorem FunI.okX {x : Str} {st : Stmt} {N ps : List Str} {k : Nat} {sp : Sp} (F : FunI K mg x st ps) (S : FnScope N ps (defScope st)) (len : ∀ vs H Q E, sp vs H Q E → vs.length = ps.length) {t : XK → TS}
    (hd : ∀ (f : Addr) (cdv : Value) (A : Around) (outer : List Env) (s : Shared) (H : Hp) (E : XK), Room k (A.deeper (envOfC x (defScope st) s.heap.objs.size f cdv)) → PSs (cxOf (L2.CX P w) P w K mg base N x (defScope st) f cdv A outer s H E) (defBody st) (t E))
    (hb : ∀ (H : Hp) (vs : List V) (Q : VK) (E : XK), sp vs H Q E → t E { nx := fun _ H' => Q .non H', rt := Q } (start N vs) H) : FnI P w K mg base (L2.CX P w) (k + 1) x ps sp := by
  obtain ⟨f, fd, hm, F, b⟩ := F.ex
  exact ⟨f, fd, hm, F.kp, F.okX S len fun cdv A outer s H vs Q E hr h => ⟨t E, hd f cdv A outer s H E hr, hb H vs Q E h⟩, b⟩
end
section
variable {X : Cx} {CX : CXT} {k j : Nat} {C : Addr} {ps : List Str} {sp : Sp} {E : XK} {m : Str} {pos apos : Pos} {o e : Expr} {es : List Expr} {ta : TE} {t : TA}
end
section
variable {X : Cx} {CX : CXT} {k j : Nat} {C : Addr} {ps : List Str} {sp : Sp} {E : XK} {pins : List (Addr × Obj)} {σ : L2.St} {H : Hp} {s : Shared}
theorem relref (a : Addr) : RelV (.ref a) (.ref a) := rfl
theorem inst_of {a dx : Addr} {fs : List (Str × V)} (I : Inv X pins σ H s) (e : H a = some (.ins C dx fs)) : ∃ ox od, PySem.W.InstAt s.heap a ox C (some od) := by
  obtain ⟨mA, O, _⟩ := ins_get I.hok e
  obtain ⟨od, J, _⟩ := O.look
  exact ⟨_, od, J⟩
end
end TP

namespace TP
open PySem PySem.Spec PyProof.Rows L2
structure Room (k : Nat) (A : Around) : Prop extends L2.Room k A where
  gd : A.guards = some []
section
variable {j k : Nat} {A : Around}
theorem Room.mono (r : Room k A) (h : j ≤ k) : Room j A := ⟨r.toRoom.mono h, r.gd⟩
theorem Room.deeper (r : Room (k + 1) A) (env : Env) : Room k (A.deeper env) := ⟨r.toRoom.deeper env, r.gd⟩
theorem Room.u66 (r : Room k A) : A.units + 66 < cLine := by have := r.un; omega
theorem Room.in1 (r : Room (k + 1) A) : Room k A.in1 := ⟨r.toRoom.in1, r.gd⟩
theorem Room.make (r : Room (k + 1) A) (C : Addr) (us : List Value) (kw : List (Str × Value)) : Room k (A.under (.builtin "type.__call__" ⟨.ref C :: us, kw⟩)) :=
  ⟨r.toRoom.make C us kw, by
    have e : (Code.builtin "type.__call__" ⟨.ref C :: us, kw⟩).guards = [] := by
      first | rfl | simp [Code.guards, Code.isGuard, guardIds] | decide
    show pushGuards (Code.builtin "type.__call__" ⟨.ref C :: us, kw⟩).guards A.guards = some []
    rw [e, r.gd]; rfl⟩
end
/-- what a def keeps, wherever there is room -/
structure FnOk (P : Program) (w : World) (K : PySem.W.Frag) (mg : Str → Option Value) (base : Heap) (CX : CXT) (k : Nat) (f : Addr) (fd : FuncData) (ps : List Str) (sp : Sp) : Prop where
  len : ∀ vs H Q E, sp vs H Q E → vs.length = ps.length
  run : ∀ (A : Around) (outer : List Env) (s : Shared) (H : Hp) (args : Args) (us : List Value) (vs : List V) (Q : VK) (E : XK), Room k A → Env0 P w K mg base A outer s H → BindsTo s fd args (ps.zip us) → Vals vs us → sp vs H Q E →
    codeAny (model P w) A (.call (.ref f) args) (CR CX outer P w H s Q E) s
section
variable {P : Program} {w : World} {K : PySem.W.Frag} {mg : Str → Option Value} {base : Heap} {CX : CXT} {j k : Nat} {f : Addr} {fd : FuncData} {ps : List Str} {sp : Sp}
theorem FnOk.mono (F : FnOk P w K mg base CX j f fd ps sp) (h : j ≤ k) : FnOk P w K mg base CX k f fd ps sp :=
  ⟨F.len, fun A outer s H args us vs Q E hr => F.run A outer s H args us vs Q E (hr.mono h)⟩
/-- a def of the text, by its body -/
theorem fn_body {name qual : Str} {params : Arguments} {body : List Stmt} {scope : Scope} {dV kV doc pm cdv ct oc : Value} {an od : Option Addr} {osl : Array (Option Value)} {N : List Str}
    (lk : K.lookup f = some ⟨oc, od, .func (PySem.W.fnOf name qual params body scope dV kV doc pm an cdv ct), osl⟩) (hcd : PySem.W.codeIn K cdv qual = true) (S : FnScope N ps scope)
    (len : ∀ vs H Q E, sp vs H Q E → vs.length = ps.length)
    (hbody : ∀ (A : Around) (outer : List Env) (s : Shared) (H : Hp) (vs : List V) (Q : VK) (E : XK), Room k (A.deeper (envOfC qual scope s.heap.objs.size f cdv)) → sp vs H Q E →
      ∃ t, PSs (cxOf CX P w K mg base N qual scope f cdv A outer s H E) body t ∧ t { nx := fun _ H' => Q .non H', rt := Q } (start N vs) H) :
    FnOk P w K mg base CX (k + 1) f (PySem.W.fnOf name qual params body scope dV kV doc pm an cdv ct) ps sp where
  len := len
  run := by
    intro A outer s H args us vs Q E hr e0 hb r hsp
    have keep : ∀ b o, base.get? b = some o → s.heap.get? b = some o := fun b o e => (e0.bs b o e).1
    have KX : K.In s.heap := e0.mod.kin.keeps keep
    refine codeAny_call_function hr.depth (KX _ _ lk) rfl S.co S.gen rfl (PySem.W.codeRec_of KX hcd) (hb _ _ _ _ (wpAny_newFunctionEnv_cells S.kind (fun y hy => ?_) fun env he s1 x => ?_))
    · exact (S.par y.1 (List.of_mem_zip hy).1).imp id fun q => ⟨q, PySem.W.cellsFrom_some _ _ _ (.inl q)⟩
    · subst he
      obtain ⟨t, ht, hq⟩ := hbody A outer s H vs Q E (hr.deeper _) hsp
      refine ⟨(e0.mod.nolimit.keeps keep).keeps x.toInCall.keep, codeAny_func (wpAny_mono (ht.run [] s1 (start N vs) H _ (inv_start S hr.hd e0 (len _ _ _ _ hsp) r x) hq) (fun fl s' hs => ?_) fun e s' hs => hs)⟩
      cases fl with
      | ret u => exact let ⟨v, _, H', J, rv, q⟩ := hs; ⟨v, H', J.os, J.bare, J.base, J.hok, rv, q⟩
      | next => exact let ⟨_, H', J, q⟩ := hs; ⟨V.non, H', J.os, J.bare, J.base, J.hok, rfl, q⟩
      | brk => exact let ⟨_, _, _, q⟩ := hs; q.elim
      | cont => exact let ⟨_, _, _, q⟩ := hs; q.elim
theorem okG {x qual : Str} {st : Stmt} {N : List Str} (F : Fun K x qual st f fd) (S : FnScope N ps (defScope st)) (len : ∀ vs H Q E, sp vs H Q E → vs.length = ps.length)
    (hbody : ∀ (cdv : Value) (A : Around) (outer : List Env) (s : Shared) (H : Hp) (vs : List V) (Q : VK) (E : XK), Room k (A.deeper (envOfC qual (defScope st) s.heap.objs.size f cdv)) → sp vs H Q E →
      ∃ t, PSs (cxOf (L2.CX P w) P w K mg base N qual (defScope st) f cdv A outer s H E) (defBody st) t ∧ t { nx := fun _ H' => Q .non H', rt := Q } (start N vs) H) : FnOk P w K mg base (L2.CX P w) (k + 1) f fd ps sp := by
  obtain ⟨oc, od, kV, doc, pm, an, cdv, ct, osl, rfl, lk, hcd⟩ := F.ex
  exact fn_body lk hcd S len fun A outer s H vs Q E hr hsp => hbody cdv A outer s H vs Q E hr hsp
end
section
variable {X : Cx} {CX : CXT} {k : Nat} {f : Addr} {fd : FuncData} {ps : List Str} {sp : Sp} {E : L2.St → XK}
theorem run_fnS {pins : List (Addr × Obj)} {σ : L2.St} {H : Hp} {s : Shared} {Q : VK} {us : List Value} {vs : List V} (F : FnOk X.prog X.w X.K X.mg X.base CX k f fd ps sp) (hr : Room k X.A) (hb : Binds X.K fd ps []) (hx : PassesAt CX X σ (E σ))
    (I : Inv X pins σ H s) (r : Vals vs us) (h : sp vs H Q (E σ)) : wpAny (model X.prog X.w) X.A (call (.ref f) us) (EP X pins σ Q) X.xe s := by
  have b := hb s us I.kIn (by rw [List.append_nil, ← r.length]; exact F.len _ _ _ _ h)
  rw [List.append_nil] at b
  refine wpAny_call (codeAny_mono (F.run X.A X.stack s H ⟨us, []⟩ us vs Q (E σ) hr I.env0 b r h) fun r s' hq => ?_)
  match r, hq with
  | .error e, hq => exact hx pins H s e s' I hq
  | .ok (.ret u), hq => exact I.after hq
  | .ok .next, hq | .ok .brk, hq | .ok .cont, hq => exact False.elim hq
end
end TP

namespace TP
open PySem PySem.Spec PyProof.Rows L2
theorem top_call {P : Program} {w : World} {K : PySem.W.Frag} {mg mb : Str → Option Value} {CX : CXT} {k : Nat} {fa a : Addr} {fd : FuncData} {x : Str} {sp : Sp} {s : Shared} {vs : List Value} {ns : List Int}
    (KX : K.In s.heap) (hns : s.heap.Ns mainGlobals mg) (hb : s.heap.Ns builtinsNs mb) (hbb : ∀ x : Str, x ≠ "__name__" → mb x = bootBuiltins x) (hlim : s.heap.NoLimit) (hg : s.gens = #[])
    (ha : s.heap.get? a = some { cls := .type "list", data := .seq vs.toArray }) (hi : IntsAre vs ns) (hl : ns.length ≤ sizeLine) (hr : Room k callerA)
    (F : ∀ base : Heap, K.In base → base.Ns mainGlobals mg → FnOk P w K mg base CX k fa fd [x] sp) (hbind : ∀ (s : Shared) (u : Value), BindsTo s fd ⟨[u], []⟩ [(x, u)])
    (hsp : ∀ H : Hp, Only H → SqL K H a (ns.map V.int) → sp [.ref a] H (fun v _ => v = .bl true) fun _ _ _ => False)
    (hCX : ∀ H e s', CX [] H s (fun _ _ _ => False) e s' → False) :
    codeAny (model P w) callerA (.call (.ref fa) ⟨[.ref a], []⟩) (fun r s' => r = .ok (.ret (.bool true)) ∧ OldK s.heap s'.heap ∧ s'.os = s.os ∧ AllBare s'.gens) s := by
  have nofs : ∀ b : Addr, b ∉ frs [] := fun b z => absurd (show b ∈ ([] : List Addr) from z) (by simp)
  have main : ∀ H : Hp, Only H → SqL K H a (ns.map V.int) → HOk P w H s.heap → (∀ b, H b ≠ none → b = a ∧ K.lookup a = none) →
      codeAny (model P w) callerA (.call (.ref fa) ⟨[.ref a], []⟩) (fun r s' => r = .ok (.ret (.bool true)) ∧ OldK s.heap s'.heap ∧ s'.os = s.os ∧ AllBare s'.gens) s := fun H hO hS hok hA => by
    have none_of : ∀ {b : Addr}, (b = a → K.lookup a = none → False) → H b = none := fun {b} h => by
      cases q : H b with
      | none => rfl
      | some u => exact (h (hA b (by rw [q]; exact fun z => nomatch z)).1 (hA b (by rw [q]; exact fun z => nomatch z)).2).elim
    have ns_of : ∀ {b : Addr} {m : Str → Option Value}, s.heap.Ns b m → (hidT s.heap H).Ns b m := fun {b m} ⟨o, es, ep, e, d, r⟩ => ⟨o, es, ep, hidT_get e (none_of fun eb _ => by
      subst eb
      rw [ha] at e
      cases e
      exact nomatch (show Data.seq vs.toArray _ = Data.dict es ep from d)), d, r⟩
    have kin : K.In (hidT s.heap H) := fun b o e => hidT_get (KX b o e) (none_of fun eb z => by subst eb; rw [z] at e; exact nomatch e)
    have md : Mod K mg (hidT s.heap H) := ⟨kin, ns_of hns, ⟨mb, ns_of hb, hbb⟩, let ⟨mc, h1, h2⟩ := hlim; ⟨mc, ns_of h1, h2⟩⟩
    refine codeAny_mono ((F _ kin (ns_of hns)).run callerA [] s H ⟨[.ref a], []⟩ [.ref a] [.ref a] _ _ hr ⟨rfl, md, fun b o e => of_hidT e, Nat.le_of_eq (hidT_size _ _), trivial, fun b hb => absurd hb (nofs b), hok, .of_eq hg⟩ (hbind s (.ref a)) (.cons rfl .nil) (hsp H hO hS)) fun r s' h => ?_
    match r, h with
    | .error e, h => exact (hCX H e s' h).elim
    | .ok .next, h | .ok .brk, h | .ok .cont, h => exact False.elim h
    | .ok (.ret u), ⟨v, H', os, bare, un, hok', r', q⟩ =>
      obtain rfl : v = V.bl true := q
      obtain rfl : u = Value.bool true := r'
      refine ⟨rfl, OldK.of_keep fun b o e => ?_, os, bare⟩
      rcases hO b with z | ⟨ob, xs, z⟩
      · exact un.keep b o e z (nofs b) (by simp)
      · have e1 := (hok b _ z).1
        rw [e] at e1
        cases e1
        exact (hok' b _ (un.frzs b _ _ z)).1
  have lenV := hi.length
  cases hk : K.lookup a with
  | some o =>
    have e := KX a o hk
    rw [ha] at e
    cases e
    exact main (fun _ => none) (fun _ => .inl rfl) (.inr ⟨_, vs.toArray, _, hk, rfl, rfl, rfl, by rw [List.size_toArray, lenV]; exact hl, by simpa using vals_ints hi⟩) (fun b u z => nomatch (show (none : Option HO) = some u from z)) fun b z => absurd rfl z
  | none =>
    refine main (fun b => if b = a then some (.frz { cls := .type "list", data := .seq vs.toArray } (.lst (ns.map V.int))) else none) (fun b => ?_) (.inl (.inr ⟨{ cls := .type "list", data := .seq vs.toArray }, if_pos rfl⟩)) (fun b u z => ?_) (fun b z => ?_)
    · by_cases hb : b = a
      · exact .inr ⟨_, _, if_pos hb⟩
      · exact .inl (if_neg hb)
    · by_cases hb : b = a
      · subst hb
        cases (if_pos rfl).symm.trans z
        exact ⟨ha, by rw [List.length_map]; exact hl, vs, _, vals_ints hi, ha⟩
      · exact nomatch (if_neg hb).symm.trans z
    · by_cases hb : b = a
      · exact ⟨hb, hk⟩
      · exact absurd (if_neg hb) z
theorem walk_top {l : PySem.W.OpenLaw} {n k : Nat} {q : Program} {loose : List Str} {XP : (Str → Option Value) → Heap → Prop} {YP : World → Heap → Prop} {d : DefRec} {K : Params → PySem.W.Frag} {CX : World → CXT} {sp : World → Sp} {x : Str}
    (hn : l.most = some n) (hn2 : n ≤ sizeLine) (hdf : d.params.defaults = []) (hr : Room k callerA) (hY : ∀ (w : World) (h : Heap), YP w h → (K w.params).In h)
    (F : ∀ (w : World) (mg : Str → Option Value) (fa : Addr) (h : Heap), (K w.params).In h → h.Ns mainGlobals mg → mg d.name = some (.ref fa) →
      ∃ fd : FuncData, (∀ (s : Shared) (u : Value), BindsTo s fd ⟨[u], []⟩ [(x, u)]) ∧ ∀ base : Heap, (K w.params).In base → base.Ns mainGlobals mg → FnOk l.prog w (K w.params) mg base (CX w) k fa fd [x] (sp w))
    (hsp : ∀ (w : World) (H : Hp) (a : Addr) (ns : List Int), ns.length ≤ n → Only H → SqL (K w.params) H a (ns.map V.int) → sp w [.ref a] H (fun v _ => v = .bl true) fun _ _ _ => False)
    (hCX : ∀ (w : World) (H : Hp) (s : Shared) (e : Value) (s' : Shared), CX w [] H s (fun _ _ _ => False) e s' → False) :
    PySem.W.WalkO q loose XP YP l.row.toRowW d [] (fun f vs => PySem.call f vs) := by
  refine Att.attach_call hn hdf fun w s₀ s₁ mg mb fa o pm cd doc a vs ns G Y ho hd hcd hmg hobj hints hlen hg => ?_
  obtain ⟨fd, hb, hF⟩ := F w mg fa _ (hY w _ Y) G.T.g hmg
  exact top_call (hY w _ Y) G.T.g G.T.b G.T.builtins G.T.nolimit hg hobj hints (Nat.le_trans hlen hn2) hr hF hb (fun H hO hS => hsp w H a ns hlen hO hS) fun H e s' => hCX w H s₁ e s'
end TP

namespace TP
open PySem PySem.Spec PyProof.Rows L2
abbrev noW : WX := fun _ _ _ _ => False
/-- what leaves a def -/
abbrev wOut (E : XK) : WX := fun cls d _ H => E cls d H
structure FnZ (P : Program) (w : World) (K : PySem.W.Frag) (mg : Str → Option Value) (base : Heap) (k : Nat) (x : Str) (ps : List Str) (sp : Sp) : Prop where
  ex : ∃ (f : Addr) (fd : FuncData), mg x = some (.ref f) ∧ PySem.W.keepIn K (.ref f) = true ∧ FnOk P w K mg base (L2.CX P w) k f fd ps sp ∧ Binds K fd ps []
structure MthZ (P : Program) (w : World) (K : PySem.W.Frag) (mg : Str → Option Value) (base : Heap) (k : Nat) (C : Addr) (m : Str) (ps : List Str) (sp : Sp) : Prop where
  ex : ∃ (f : Addr) (fd : FuncData), Meth K C m f ∧ FnOk P w K mg base (L2.CX P w) k f fd ps sp ∧ Binds K fd ps [] ∧ PySem.W.fnIn K f = true
/-- C.m, m a staticmethod -/
structure StaZ (P : Program) (w : World) (K : PySem.W.Frag) (mg : Str → Option Value) (base : Heap) (k : Nat) (C : Addr) (m : Str) (ps : List Str) (sp : Sp) : Prop where
  ex : ∃ (p f : Addr) (fd : FuncData) (mc : Value), ClX.CRead K C mc ∧ PySem.W.findCls K (.ref C) mc m = some (.get (.builtin "staticmethod.__get__") (.ref p) .none (.ref C)) ∧ (∃ rest, PySem.W.recIn K p "staticmethod" = some (.ref f :: rest)) ∧ PySem.W.keepIn K (.ref f) = true ∧
    FnOk P w K mg base (L2.CX P w) k f fd ps sp ∧ Binds K fd ps []
section
variable {P : Program} {w : World} {K : PySem.W.Frag} {mg : Str → Option Value} {base : Heap} {C : Addr}
theorem FunI.okZ {x : Str} {st : Stmt} {N ps : List Str} {k : Nat} {sp : Sp} (F : FunI K mg x st ps) (S : FnScope N ps (defScope st)) (len : ∀ vs H Q E, sp vs H Q E → vs.length = ps.length) {t : XK → TS}
    (hd : ∀ (f : Addr) (cdv : Value) (A : Around) (outer : List Env) (s : Shared) (H : Hp) (E : XK), Room k (A.deeper (envOfC x (defScope st) s.heap.objs.size f cdv)) → PSs (cxOf (L2.CX P w) P w K mg base N x (defScope st) f cdv A outer s H E) (defBody st) (t E))
    (hb : ∀ (H : Hp) (vs : List V) (Q : VK) (E : XK), sp vs H Q E → t E { nx := fun _ H' => Q .non H', rt := Q } (start N vs) H) : FnZ P w K mg base (k + 1) x ps sp := by
  obtain ⟨f, fd, hm, F, b⟩ := F.ex
  exact ⟨f, fd, hm, F.kp, okG F S len fun cdv A outer s H vs Q E hr h => ⟨t E, hd f cdv A outer s H E hr, hb H vs Q E h⟩, b⟩
theorem MunI.okZ {m qual : Str} {st : Stmt} {N ps : List Str} {k : Nat} {sp : Sp} (F : MunI K C m qual st ps) (S : FnScope N ps (defScope st)) (len : ∀ vs H Q E, sp vs H Q E → vs.length = ps.length) {t : XK → TS}
    (hd : ∀ (f : Addr) (cdv : Value) (A : Around) (outer : List Env) (s : Shared) (H : Hp) (E : XK), Room k (A.deeper (envOfC qual (defScope st) s.heap.objs.size f cdv)) → PSs (cxOf (L2.CX P w) P w K mg base N qual (defScope st) f cdv A outer s H E) (defBody st) (t E))
    (hb : ∀ (H : Hp) (vs : List V) (Q : VK) (E : XK), sp vs H Q E → t E { nx := fun _ H' => Q .non H', rt := Q } (start N vs) H) : MthZ P w K mg base (k + 1) C m ps sp := by
  obtain ⟨f, fd, hm, F, b, fi⟩ := F.ex
  exact ⟨f, fd, hm, okG F S len fun cdv A outer s H vs Q E hr h => ⟨t E, hd f cdv A outer s H E hr, hb H vs Q E h⟩, b, fi⟩
end
def tCallZ (sp : Sp) (W : WX) (t : TA) : TE := fun σ H Q => t σ H fun vs H1 => sp vs H1 Q (WE W σ)
def tMethZ (C : Addr) (m : Str) (sp : Sp) (W : WX) (ta : TE) (t : TA) : TE := fun σ H Q => ta σ H fun x H1 => ∃ a dx fs, x = .ref a ∧ H1 a = some (.ins C dx fs) ∧ fs.lookup m = none ∧ t σ H1 fun vs H2 => sp (.ref a :: vs) H2 Q (WE W σ)
section
variable {X : Cx} {k j : Nat} {C : Addr} {ps : List Str} {sp : Sp} {W : WX} {x m : Str} {p pos apos : Pos} {o e : Expr} {es : List Expr} {ta : TE} {t : TA}
theorem pe_callZ (I : FnZ X.prog X.w X.K X.mg X.base k x ps sp) (hr : Room j X.A) (hk : k ≤ j) (tk : Takes X W) (ha : PA X (e :: es) t) (hg : Gl X x := by rfl)
    (hdb : (x == ("__debug__" : Str)) = false := by decide) (he : starEach (e :: es) X.env = (false, eval e X.env) :: starEach es X.env := by rfl) (hpl : (backTo pos (starEach es X.env)).any (·.1) = false := by rfl) :
    PE X (.Call (.Name x p) (e :: es) [] pos) (tCallZ sp W t) := by
  obtain ⟨f, fd, hm, kp, F, b⟩ := I.ex
  refine ⟨fun pins s σ H Q I h => ?_⟩
  refine wpAny_Call_Name_kw (ld_glob I hg hm ?_ hdb)
  refine PySem.W.callWith_K (h₀ := X.base) I.ok.mod.kin kp (thn (ha.run pos pins s σ H _ I h) fun us s1 ⟨vs, H1, I1, r, q⟩ => ⟨I1.kIn, ?_⟩) he hpl
  exact run_fnS (E := WE W) F (hr.mono hk) b (passAt tk σ) I1 r q
theorem pe_methZ {pl : Sem Bool} (he : PE X o ta) (c : Cls X.K C) (I : MthZ X.prog X.w X.K X.mg X.base k C m ps sp) (hr : Room j X.A) (hk : k ≤ j) (tk : Takes X W) (ha : PA X (e :: es) t)
    (hst : starEach (e :: es) X.env = (false, eval e X.env) :: starEach es X.env := by rfl) (hpl : (backTo pos (starEach es X.env)).any (·.1) = false := by rfl)
    (ht : eval (.Call (.Attribute o m apos) (e :: es) [] pos) X.env = (do
      let ov ← eval o X.env
      standAt apos.atName
      let (f, first) ← holding [ov] (getMethod ov m pl)
      callWith pos f first (backTo pos (starEach (e :: es) X.env)) (backToKw pos (keywordEach [] X.env))) := by rfl) : PE X (.Call (.Attribute o m apos) (e :: es) [] pos) (tMethZ C m sp W ta t) := by
  obtain ⟨f, fd, hm, F, b, _⟩ := I.ex
  refine ⟨fun pins s σ H Q I h => ?_⟩
  refine PySem.W.methodCall_KW (pl := pl) (thn (he.run pins s σ H _ I h) fun u s1 ⟨x, H1, I1, rx, a, dx, fs, ex, ea, l, q⟩ => ?_) ht
  subst ex
  cases rx
  refine getmeth_ok I1 ea c hm l ?_
  refine PySem.W.callWith_K (first := [.ref a]) (h₀ := X.base) I.ok.mod.kin hm.kp (thn (ha.run pos pins s1 σ H1 _ I1 q) fun us s2 ⟨vs, H2, I2, r, q2⟩ => ⟨I2.kIn, ?_⟩) hst hpl
  exact run_fnS (E := WE W) (us := .ref a :: us) (vs := .ref a :: vs) F (hr.mono hk) b (passAt tk σ) I2 (.cons (relref a) r) q2
theorem pe_methZ0 {pl : Sem Bool} (he : PE X o ta) (c : Cls X.K C) (I : MthZ X.prog X.w X.K X.mg X.base k C m ps sp) (hr : Room j X.A) (hk : k ≤ j) (tk : Takes X W)
    (ht : eval (.Call (.Attribute o m apos) [] [] pos) X.env = (do
      let ov ← eval o X.env
      standAt apos.atName
      let (f, first) ← holding [ov] (getMethod ov m pl)
      callWith pos f first (backTo pos (starEach [] X.env)) (backToKw pos (keywordEach [] X.env))) := by rfl) : PE X (.Call (.Attribute o m apos) [] [] pos) (tMethZ C m sp W ta tNil) := by
  obtain ⟨f, fd, hm, F, b, _⟩ := I.ex
  refine ⟨fun pins s σ H Q I h => ?_⟩
  refine PySem.W.methodCall_KW (pl := pl) (thn (he.run pins s σ H _ I h) fun u s1 ⟨x, H1, I1, rx, a, dx, fs, ex, ea, l, q⟩ => ?_) ht
  subst ex
  cases rx
  refine getmeth_ok I1 ea c hm l ?_
  exact PySem.W.callWith_K0 (first := [.ref a]) I1.kIn hm.kp (run_fnS (E := WE W) (us := [.ref a]) (vs := [.ref a]) F (hr.mono hk) b (passAt tk σ) I1 (.cons (relref a) .nil) q)
end
end TP

namespace TP
open PySem PySem.Spec PyProof.Rows L2
/-- an own error class, as it stands: its name x, its class C, its one field -/
structure ErrI (P : Program) (K : PySem.W.Frag) (mg : Str → Option Value) (x : Str) (C : Addr) (fld : Str) : Prop where
  at_ : mg x = some (.ref C)
  xf : XfC K C
  is_ : ExcC K C
  no : PySem.W.findIn K (.ref C) fld = some none
  ex : ∃ (fI : Addr) (fd : FuncData) (qual : Str), IniTxt P K mg C fI fld qual fd ∧ PySem.W.findIn K (.ref C) "__init__" = some (some (.ref fI)) ∧ PySem.W.typeIn K (.ref fI) = some (.type "function") ∧ Binds K fd ["self", fld] []
/-- raise x(e) -/
def tRaise (C : Addr) (fld : Str) (W : WX) (ta : TA) : TS := fun _ σ H => ta σ H fun vs H1 => ∃ v, vs = [v] ∧ ∀ d, H1 d = none → W (.ref C) (some d) σ (upd H1 d (.xd [(fld, v)]))
theorem del_eq {H1 : Hp} {a dx : Addr} {o1 o2 o3 o : HO} (na : H1 a = none) (ne : dx ≠ a) : upd (del (upd (upd (upd H1 a o1) dx o2) a o3) a) dx o = upd H1 dx o := by
  funext b
  by_cases e1 : b = dx
  · subst e1; rw [upd_same, upd_same]
  · rw [upd_ne e1, upd_ne e1]
    by_cases e2 : b = a
    · subst e2; rw [del_same, na]
    · rw [del_ne e2, upd_ne e2, upd_ne e1, upd_ne e2]
/-- a reading of arguments, with what is known behind it weakened -/
def tWeak (ta : TA) : TA := fun σ H Q => ∃ Q', ta σ H Q' ∧ ∀ vs H', Q' vs H' → Q vs H'
theorem pa_weak {X : Cx} {es : List Expr} {ta : TA} (h : PA X es ta) : PA X es (tWeak ta) :=
  ⟨fun pos pins s σ H Q I ⟨Q', q, k⟩ => thn (h.run pos pins s σ H Q' I q) fun us s1 ⟨vs, H1, I1, r, q1⟩ => ⟨vs, H1, I1, r, k _ _ q1⟩⟩
section
variable {X : Cx} {W : WX} {x fld : Str} {C : Addr} {j : Nat} {e : Expr} {ta : TA} {p p1 pos : Pos}
theorem ps_raiseZ (hc : X.calm = true) (tk : Takes X W) (T : ErrI X.prog X.K X.mg x C fld) (hr : Room j X.A) (hk : 3 ≤ j) (ha : PA X [e] ta) (hg : Gl X x := by rfl)
    (hdb : (x == ("__debug__" : Str)) = false := by decide) (he : starEach [e] X.env = (false, eval e X.env) :: starEach [] X.env := by rfl) (hpl : (backTo p1 (starEach [] X.env)).any (·.1) = false := by rfl) :
    PS X (.Raise (some (.Call (.Name x p) [e] [] p1)) none pos) (tRaise C fld W ta) := by
  obtain ⟨fI, fd, qual, T1, iC, tI, b⟩ := T.ex
  have Z := ps_raise (pos := pos) hc tk (pmk_oex (p := p) (pos := p1) T1.oex iC tI (exc_init_ok (w := X.w) (base := X.base) T1) (hr.mono hk).toRoom b .nil (fun _ _ _ _ _ _ _ h => h.elim) hg T.at_ (pa_weak ha) hdb he hpl)
  refine ⟨fun pins s σ H D I h => Z.run pins s σ H D I ?_⟩
  refine (?_ : tMkO C (sp_exi C fld) [] (tWeak ta) σ H fun cls d H' => W cls d σ H')
  exact ⟨_, h, fun vs H1 ⟨v, ev, q⟩ => by
    subst ev
    refine ⟨by show 1 ≤ 1000; decide, fun a na => ⟨a, v, rfl, upd_same, fun dx nd ne => ⟨rfl, dx, [(fld, v)], upd_same, by rw [upd_ne ne, upd_same], ?_, ?_⟩⟩⟩
    · rw [upd_ne ne] at nd; exact nd
    · rw [del_eq na ne]
      rw [upd_ne ne] at nd
      exact q dx nd⟩
end
end TP

namespace TP
open PySem PySem.Spec PyProof.Rows L2
/-- an own error class over KeyError, as it stands -/
structure ErrK (P : Program) (K : PySem.W.Frag) (mg : Str → Option Value) (x : Str) (C : Addr) (fld : Str) : Prop where
  at_ : mg x = some (.ref C)
  xf : XfC K C
  is_ : ExcC K C
  no : PySem.W.findIn K (.ref C) fld = some none
  ex : ∃ (fI : Addr) (fd : FuncData) (qual : Str), IniTxtK P K mg C fI fld qual fd ∧ PySem.W.findIn K (.ref C) "__init__" = some (some (.ref fI)) ∧ PySem.W.typeIn K (.ref fI) = some (.type "function") ∧ Binds K fd ["self", fld] []
section
variable {X : Cx} {W : WX} {x fld : Str} {C : Addr} {j : Nat} {e : Expr} {ta : TA} {p p1 pos : Pos}
end
end TP

namespace TP
open PySem PySem.Spec PySem.Calls PyProof.Rows
open L2
abbrev R2S := L2.St → R2
def tOpS (r : R2S) (ta tb : TE) : TE := fun σ H Q => ta σ H fun x H1 => tb σ H1 fun y H2 => r σ x y H2 Q
def gSubS (to ti : TE) (t : L2.St → TSet) : TG := fun v σ H Q => to σ H fun o H1 => ti σ H1 fun i H2 => t σ o i v H2 fun H3 => Q σ H3
def tCBS (r : L2.St → List V → Hp → VK → Prop) (t : TA) : TE := fun σ H Q => t σ H fun vs H1 => r σ vs H1 Q
section
variable {X : Cx} {a b e : Expr} {ta tb : TE} {pos : Pos}
theorem pg_subS {o i : Expr} {to ti : TE} {t : L2.St → TSet} (ho : PE X o to) (hi : PE X i ti)
    (hs : ∀ (pins : List (Addr × Obj)) (s : Shared) (σ : L2.St) (H : Hp) (o i v : V) (ov iv u : Value) (Q : Hp → Prop), Inv X pins σ H s → RelV o ov → RelV i iv → RelV v u → t σ o i v H Q → wpAny (model X.prog X.w) X.A (setItem ov iv u) (fun _ s' => ∃ H', Inv X pins σ H' s' ∧ Q H') X.xe s)
    (ha : ∀ v, assign (.Subscript o i pos) X.env v = (do
      let ov ← holding [v] (eval o X.env)
      let iv ← holding [v, ov] (eval i X.env)
      standAt pos
      holding [v, ov, iv] (setItem ov iv v)
      release [v, ov, iv] []) := by intro _; rfl) : PG X (.Subscript o i pos) (gSubS to ti t) := by
  refine ⟨fun pins s σ H v u Q I r h => ?_⟩
  rw [ha]
  refine wpAny_bind (wpAny_holding (thn (ho.run pins s σ H _ I h) fun ov s1 ⟨x, H1, I1, r1, q1⟩ => ?_))
  refine wpAny_bind (wpAny_holding (thn (hi.run pins s1 σ H1 _ I1 q1) fun iv s2 ⟨y, H2, I2, r2, q2⟩ => ?_))
  refine wpAny_bind (wpAny_standAt (wpAny_bind (wpAny_holding (thn (hs pins s2 σ H2 x y v ov iv u _ I2 r1 r2 r q2) fun _ s3 ⟨H3, I3, q3⟩ => ?_))))
  exact wpAny_release ⟨σ, H3, I3, q3⟩
end
end TP

namespace TP
open PySem PySem.Spec PyProof.Rows L2
/-- what an own class says of itself -/
structure OwnC (K : PySem.W.Frag) (C : Addr) : Prop where
  cls : Cls K C
  ca : PySem.W.findIn K (.ref C) "__class__" = some (some (.builtin "object.__class__"))
  cg : PySem.W.specialIn K (.builtin "object.__class__") "__get__" = some (some (.builtin "getset_descriptor.__get__"))
  ct : PySem.W.takesIn K (.builtin "object.__class__") = some true
  cm : PySem.W.mroIn K C (.type "object") = some true
  first : PySem.W.selfFirst K C = true
  nseq : PySem.W.noSeq K C = true
  ne : PySem.W.findIn K (.ref C) "__ne__" = some (some (.builtin "object.__ne__"))
theorem OwnC.ty {K : PySem.W.Frag} {C a dx : Addr} {H : Hp} {fs : List (Str × V)} (T : OwnC K C) (h : H a = some (.ins C dx fs)) : TyX K H (.ref a) (.ref C) := .base (.ins h T.cls T.ca T.cg T.ct T.cm)
theorem OwnC.self {K : PySem.W.Frag} {C : Addr} : PySem.W.notFirst K C (.ref C) = true := by unfold PySem.W.notFirst; rw [beq_self_eq_true]; rfl
section
variable {X : Cx} {k j : Nat} {C : Addr} {ps : List Str} {sp : Sp} {W : WX}
theorem run_in1S {pins : List (Addr × Obj)} {σ : L2.St} {H : Hp} {s : Shared} {f : Addr} {fd : FuncData} {Q : VK} {us : List Value} {vs : List V} (F : FnOk X.prog X.w X.K X.mg X.base (L2.CX X.prog X.w) k f fd ps sp) (hr : Room (k + 1) X.A) (hb : Binds X.K fd ps []) (tk : Takes X W) (I : Inv X pins σ H s) (r : Vals vs us) (h : sp vs H Q (WE W σ)) :
    wpAny (model X.prog X.w) X.A.in1 (call (.ref f) us) (EP X pins σ Q) X.xe s := by
  have hl : (us ++ []).length = ps.length := by rw [List.append_nil, ← r.length]; exact F.len _ _ _ _ h
  have hb' := hb s us I.kIn hl
  rw [List.append_nil] at hb'
  refine wpAny_call (codeAny_mono (F.run X.A.in1 X.stack s H ⟨us, []⟩ us vs Q _ hr.in1 I.env0.in1 hb' r h) fun r s' hq => ?_)
  cases r with
  | error e => exact passAt tk σ pins H s e s' I hq
  | ok fl =>
    cases fl with
    | ret u => exact I.after hq
    | next => exact False.elim hq
    | brk => exact False.elim hq
    | cont => exact False.elim hq
/-- what int and C say of an operator with own methods on both sides -/
structure MixC (K : PySem.W.Frag) (C : Addr) (m rm : Str) : Prop where
  r : ∃ g : Addr, PySem.W.findIn K (.ref C) rm = some (some (.ref g))
  fo : ∃ v, PySem.W.findIn K (.type "int") m = some v
  ro : ∃ v, PySem.W.findIn K (.type "int") rm = some v
  sub : PySem.W.subIn K (.type "int") (.ref C) = some false
/-- o[i] -/
def rGetZ (C : Addr) (sp : Sp) (W : WX) : R2S := fun σ x i H Q => ∃ a dx fs, x = .ref a ∧ H a = some (.ins C dx fs) ∧ sp [.ref a, i] H Q (WE W σ)
theorem pe_ixZ {a b : Expr} {ta tb : TE} {pos : Pos} (M : MthZ X.prog X.w X.K X.mg X.base k C "__getitem__" ps sp) (hr : Room j X.A) (hk : k + 1 ≤ j) (tk : Takes X W) (ha : PE X a ta) (hb : PE X b tb)
    (hs : ∀ o i, subscripted b true o i = runValue (.builtin "lifetime.subscript" ⟨[o, i], []⟩)) : PE X (.Subscript a b pos) (tOpS (rGetZ C sp W) ta tb) := by
  obtain ⟨f, fd, hm, F, bd, fi⟩ := M.ex
  refine ⟨fun pins s σ H Q I h => ?_⟩
  refine Subscript_ (binT ha hb I h fun v u s2 x y H2 I2 rx ry q => ?_)
  obtain ⟨a, dx, fs, rfl, ha, q⟩ := q
  cases rx
  obtain ⟨ox, od, J⟩ := inst_of I2 ha
  obtain ⟨m, fr⟩ := I2.fr
  exact PySem.W.sub_K fr I2.ok.mod.kin J hm.at_ fi hm.fn (run_in1S F (hr.mono hk) bd tk I2 (.cons (relref a) (.cons ry .nil)) q) (hs _ _)
/-- o[i] = v -/
def rSetZ (C : Addr) (sp : Sp) (W : WX) : L2.St → TSet := fun σ o i v H Q => ∃ a dx fs, o = .ref a ∧ H a = some (.ins C dx fs) ∧ sp [.ref a, i, v] H (fun _ H' => Q H') (WE W σ)
theorem pg_setZ {o i : Expr} {to ti : TE} {pos : Pos} (M : MthZ X.prog X.w X.K X.mg X.base k C "__setitem__" ps sp) (T : OwnC X.K C) (hr : Room j X.A) (hk : k ≤ j) (tk : Takes X W) (ho : PE X o to) (hi : PE X i ti)
    (ha : ∀ v, assign (.Subscript o i pos) X.env v = (do
      let ov ← holding [v] (eval o X.env)
      let iv ← holding [v, ov] (eval i X.env)
      standAt pos
      holding [v, ov, iv] (setItem ov iv v)
      release [v, ov, iv] []) := by intro _; rfl) : PG X (.Subscript o i pos) (gSubS to ti (rSetZ C sp W)) := by
  obtain ⟨f, fd, hm, F, bd, fi⟩ := M.ex
  refine pg_subS ho hi (fun pins s σ H o i v ov iv u Q I ro ri rv h => ?_) ha
  obtain ⟨a, dx, fs, rfl, ha, q⟩ := h
  cases ro
  obtain ⟨ox, od, J⟩ := inst_of I ha
  obtain ⟨m, fr⟩ := I.fr
  exact PySem.W.ksp_setItem fr I.ok.mod.kin J T.nseq hm.at_ hm.fn (thn (run_fnS (E := WE W) F (hr.mono hk) bd (passAt tk σ) I (.cons (relref a) (.cons ri (.cons rv .nil))) q) fun r s1 ⟨z, H1, I1, r1, q1⟩ => ⟨H1, I1, q1⟩)
/-- len(o) -/
def rLenZ (C : Addr) (sp : Sp) (W : WX) : L2.St → List V → Hp → VK → Prop := fun σ xs H Q => ∃ a dx fs, xs = [.ref a] ∧ H a = some (.ins C dx fs) ∧ sp [.ref a] H (fun r H' => ∃ n : Int, r = .int n ∧ 0 ≤ n ∧ n < 2 ^ 63 ∧ Q (.int n) H') (WE W σ)
theorem pe_lenZ {e : Expr} {t : TA} {p pos : Pos} (M : MthZ X.prog X.w X.K X.mg X.base k C "__len__" ps sp) (hr : Room j X.A) (hk : k + 1 ≤ j) (tk : Takes X W) (hm : X.mg "len" = none) (ha : PA X [e] t) (hg : Gl X "len" := by rfl)
    (he : starEach [e] X.env = (false, eval e X.env) :: starEach [] X.env := by rfl) (hpl : (backTo pos (starEach [] X.env)).any (·.1) = false := by rfl) : PE X (.Call (.Name "len" p) [e] [] pos) (tCBS (rLenZ C sp W) t) := by
  refine ⟨fun pins s σ H Q I h => ?_⟩
  obtain ⟨f, fd, hmt, F, b, _⟩ := M.ex
  refine wpAny_Call_Name_kw (ld_blt I hg hm (show bootBuiltins "len" = some (.builtin "len") by decide +kernel) ?_ (by decide) (by decide))
  refine PyProof.Rows.callWith_builtin1 (thn (ha.run pos pins s σ H _ I h) fun us s1 ⟨vs, H1, I1, r1, q1⟩ => ?_) he hpl
  obtain ⟨a, dx, fs, rfl, ea, q⟩ := q1
  obtain ⟨u, rfl, rx⟩ := vals1 r1
  cases rx
  obtain ⟨ox, od, J⟩ := inst_of I1 ea
  obtain ⟨m, fr⟩ := I1.fr
  refine PySem.W.len_K fr I1.ok.mod.kin J hmt.at_ hmt.fn (thn (run_in1S F (hr.mono hk) b tk I1 (.cons (relref a) .nil) q) fun r s1 ⟨z, H1, I1, r1, n, e, n0, n1, q1⟩ => ?_)
  subst e
  obtain ⟨t, rfl⟩ := r1
  exact ⟨⟨n0, n1⟩, .int n, H1, I1.tok _, ⟨_, rfl⟩, q1⟩
end
end TP

namespace TP
open PySem PySem.Spec PyProof.Rows L2
structure MakZ (P : Program) (w : World) (K : PySem.W.Frag) (mg : Str → Option Value) (base : Heap) (k : Nat) (x : Str) (C : Addr) (ps : List Str) (sp : Sp) (ds : List Value) : Prop where
  ex : ∃ (f : Addr) (fd : FuncData), mg x = some (.ref C) ∧ Mk K C f ∧ FnOk P w K mg base (L2.CX P w) k f fd ps sp ∧ Binds K fd ps ds
/-- .. as it stands -/
structure MakI (K : PySem.W.Frag) (mg : Str → Option Value) (x : Str) (C : Addr) (m qual : Str) (st : Stmt) (ps : List Str) (ds : List Value) : Prop where
  ex : ∃ (f : Addr) (fd : FuncData), mg x = some (.ref C) ∧ Mk K C f ∧ (Fun K m qual st f fd ∨ ∃ dvs kws, FunD K m qual (defArgs st) (defBody st) (defScope st) dvs kws f fd) ∧ Binds K fd ps ds
def tNew (C : Addr) (sp : Sp) (W : WX) (dvs : List V) (t : TA) : TE := fun σ H Q => t σ H fun vs H1 => ∀ x dx, H1 x = none → H1 dx = none → dx ≠ x → sp (.ref x :: (vs ++ dvs)) (upd (upd H1 dx (.own x)) x (.ins C dx [])) (fun v H2 => v = .non ∧ Q (.ref x) H2) (WE W σ)
section
variable {P : Program} {w : World} {K : PySem.W.Frag} {mg : Str → Option Value} {base : Heap} {C : Addr}
theorem okGD {CX : CXT} {x qual : Str} {params : Arguments} {body : List Stmt} {scope : Scope} {dvs : List V} {kws : List (Str × V)} {f : Addr} {fd : FuncData} {N ps : List Str} {k : Nat} {sp : Sp} (F : FunD K x qual params body scope dvs kws f fd) (S : FnScope N ps scope) (len : ∀ vs H Q E, sp vs H Q E → vs.length = ps.length)
    (hbody : ∀ (cdv : Value) (A : Around) (outer : List Env) (s : Shared) (H : Hp) (vs : List V) (Q : VK) (E : XK), Room k (A.deeper (envOfC qual scope s.heap.objs.size f cdv)) → sp vs H Q E →
      ∃ t, PSs (cxOf CX P w K mg base N qual scope f cdv A outer s H E) body t ∧ t { nx := fun _ H' => Q .non H', rt := Q } (start N vs) H) : FnOk P w K mg base CX (k + 1) f fd ps sp := by
  obtain ⟨oc, od, dV, kV, doc, pm, an, cdv, ct, osl, rfl, lk, hcd, _, _⟩ := F.ex
  exact fn_body lk hcd S len fun A outer s H vs Q E hr hsp => hbody cdv A outer s H vs Q E hr hsp
theorem MakI.okZ {x m qual : Str} {st : Stmt} {N ps : List Str} {ds : List Value} {k : Nat} {sp : Sp} (F : MakI K mg x C m qual st ps ds) (S : FnScope N ps (defScope st)) (len : ∀ vs H Q E, sp vs H Q E → vs.length = ps.length) {t : XK → TS}
    (hd : ∀ (f : Addr) (cdv : Value) (A : Around) (outer : List Env) (s : Shared) (H : Hp) (E : XK), Room k (A.deeper (envOfC qual (defScope st) s.heap.objs.size f cdv)) → PSs (cxOf (L2.CX P w) P w K mg base N qual (defScope st) f cdv A outer s H E) (defBody st) (t E))
    (hb : ∀ (H : Hp) (vs : List V) (Q : VK) (E : XK), sp vs H Q E → t E { nx := fun _ H' => Q .non H', rt := Q } (start N vs) H) : MakZ P w K mg base (k + 1) x C ps sp ds := by
  obtain ⟨f, fd, at_, M, F, b⟩ := F.ex
  refine ⟨f, fd, at_, M, ?_, b⟩
  rcases F with F | ⟨dvs, kws, F⟩
  · exact okG F S len fun cdv A outer s H vs Q E hr h => ⟨t E, hd f cdv A outer s H E hr, hb H vs Q E h⟩
  · exact okGD F S len fun cdv A outer s H vs Q E hr h => ⟨t E, hd f cdv A outer s H E hr, hb H vs Q E h⟩
end
section
variable {X : Cx} {k j : Nat} {C : Addr} {ps : List Str} {sp : Sp} {W : WX} {x : Str} {p pos : Pos} {e : Expr} {es : List Expr} {t : TA} {ds : List Value} {dvs : List V}
theorem run_new {pins : List (Addr × Obj)} {σ : L2.St} {H : Hp} {s : Shared} {Q : VK} {us : List Value} {vs : List V} (M : MakZ X.prog X.w X.K X.mg X.base k x C ps sp ds) (hd : Vals dvs ds) (hr : Room (k + 1) X.A) (tk : Takes X W) (I : Inv X pins σ H s) (r : Vals vs us)
    (h : ∀ x dx, H x = none → H dx = none → dx ≠ x → sp (.ref x :: (vs ++ dvs)) (upd (upd H dx (.own x)) x (.ins C dx [])) (fun v H2 => v = .non ∧ Q (.ref x) H2) (WE W σ)) : wpAny (model X.prog X.w) X.A (call (.ref C) us) (EP X pins σ Q) X.xe s := by
  obtain ⟨f, fd, _, M, F, hb⟩ := M.ex
  have hq := h (s.heap.objs.size + 1) s.heap.objs.size (I.hok.fresh (Nat.le_succ _)) (I.hok.fresh (Nat.le_refl _)) (Nat.ne_of_lt (Nat.lt_succ_self _))
  have I2 := Inv.made (C := C) I
  have r2 : Vals (V.ref (s.heap.objs.size + 1) :: (vs ++ dvs)) (Value.ref (s.heap.objs.size + 1) :: (us ++ ds)) := .cons rfl (r.append hd)
  have hl : (Value.ref (s.heap.objs.size + 1) :: us ++ ds).length = ps.length := by
    have z := r2.length
    rw [F.len _ _ _ _ hq] at z
    exact z.symm
  refine wpAny_call (make_map (f := f) I.kIn M.makes M.init (beq_iff_eq.mp M.fn) (codeAny_mono (F.run _ X.stack _ _ ⟨Value.ref (s.heap.objs.size + 1) :: us, []⟩ _ _ _ (WE W σ) (hr.make C us []) (I2.env0.make C us []) (hb _ (Value.ref (s.heap.objs.size + 1) :: us) I2.kIn hl) r2 hq) fun r s' hq' => ?_))
  cases r with
  | error e => exact passAt tk σ pins _ _ e s' I2 hq'
  | ok fl =>
    cases fl with
    | ret u =>
      obtain ⟨v, H', I3, rv, ev, q3⟩ := I2.after hq'
      subst ev
      exact ⟨rv, ⟨V.ref (s.heap.objs.size + 1), H', I3, rfl, q3⟩⟩
    | next => exact False.elim hq'
    | brk => exact False.elim hq'
    | cont => exact False.elim hq'
theorem pe_new (M : MakZ X.prog X.w X.K X.mg X.base k x C ps sp ds) (hd : Vals dvs ds) (hr : Room j X.A) (hk : k + 1 ≤ j) (tk : Takes X W) (ha : PA X (e :: es) t) (hg : Gl X x := by rfl)
    (hdb : (x == ("__debug__" : Str)) = false := by decide) (he : starEach (e :: es) X.env = (false, eval e X.env) :: starEach es X.env := by rfl) (hpl : (backTo pos (starEach es X.env)).any (·.1) = false := by rfl) :
    PE X (.Call (.Name x p) (e :: es) [] pos) (tNew C sp W dvs t) := by
  obtain ⟨f, fd, hm, Mk, _, _⟩ := M.ex
  refine ⟨fun pins s σ H Q I h => ?_⟩
  refine wpAny_Call_Name_kw (ld_glob I hg hm ?_ hdb)
  refine PySem.W.callWith_K (h₀ := X.base) I.ok.mod.kin Mk.kp (thn (ha.run pos pins s σ H _ I h) fun us s1 ⟨vs, H1, I1, r, q⟩ => ⟨I1.kIn, ?_⟩) he hpl
  exact run_new M hd (hr.mono hk) tk I1 r q
end
end TP

namespace TP
open PySem PySem.Spec PyProof.Rows L2
/-- o.f, o of class C -/
def tGetF (C : Addr) (f : Str) (ta : TE) : TE := fun σ H Q => ta σ H fun x H1 => ∃ a dx fs v, x = .ref a ∧ H1 a = some (.ins C dx fs) ∧ fs.lookup f = some v ∧ Q v H1
/-- o.f = v -/
def tSetF (C : Addr) (f : Str) (ta tv : TE) : TS := fun D σ H => tv σ H fun y H1 => ta σ H1 fun x H2 => ∃ a dx fs, x = .ref a ∧ H2 a = some (.ins C dx fs) ∧ fs.length < 1000 ∧ D.nx σ (upd H2 a (.ins C dx (putF f y fs)))
section
variable {X : Cx} {o e value : Expr} {f : Str} {pos pos' : Pos} {ta tv : TE} {C : Addr}
theorem pe_getF (c : Cls X.K C) (n : NoAttr X.K C f) (he : PE X e ta) (hb : attributeBase e f X.env (eval e X.env) = eval e X.env := by rfl) : PE X (.Attribute e f pos) (tGetF C f ta) := by
  refine ⟨fun pins s σ H Q I h => ?_⟩
  refine attr_of hb (thn (he.run pins s σ H _ I h) fun u s1 ⟨x, H1, I1, rx, a, dx, fs, v, ex, ea, l, q⟩ => ?_)
  subst ex
  cases rx
  exact getattr_ok I1 ea c n l fun u' s2 I2 ru => ⟨v, H1, I2, ru, q⟩
theorem ps_setF (c : Cls X.K C) (n : NoAttr X.K C f) (ha : PE X o ta) (hv : PE X value tv) (hs : swapsWith value (some (.Attribute o f pos')) pos.line X.env = pure false := by rfl) : PS X (.Assign [.Attribute o f pos'] value pos) (tSetF C f ta tv) := by
  refine ⟨fun pins s σ H D I h => ?_⟩
  refine plainObj_wpAny_Assign_Attribute (thn (hv.run pins s σ H _ I h) fun u s1 ⟨y, H1, I1, ry, q⟩ => thn (ha.run pins s1 σ H1 _ I1 q) fun ov s2 ⟨x, H2, I2, rx, a, dx, fs, ex, ea, l, q2⟩ => ?_) hs
  subst ex
  cases rx
  exact setattr_ok I2 ea c n l ry fun s3 I3 => ⟨σ, _, I3, q2⟩
end
end TP

namespace TP
open PySem PySem.Spec PyProof.Rows L2
section
variable {σ : L2.St} {H : Hp} {Q : VK} {QB : Bool → Hp → Prop} {QA : List V → Hp → Prop} {D : Ends} {ta tb te to ti : TE} {tl : TA} {ts us : TS} {x y v : V} {i j : Int} {K : PySem.W.Frag} {C : Addr} {sp : Sp} {W : WX}
end
def kinds : List String := ["NoneType", "bool", "int", "str", "list", "tuple", "bytes", "dict"]
/-- v is of the built-in kind t -/
def Kd (K : PySem.W.Frag) (H : Hp) (v : V) (t : String) : Prop := TyX K H v (.type t) ∧ t ∈ kinds
def isK (t T : String) : Bool := t == T || (t == "bool" && T == "int")
theorem kit_ty2 {K : PySem.W.Frag} {t T : String} {r : Bool} (h : PySem.W.kitOne [] (.type t) (.type T) = some r) : PySem.W.kitOne K (.type t) (.type T) = some r := by
  exact h
section
variable {K : PySem.W.Frag} {H : Hp}
end
def askedK : List String := ["int", "bool", "str", "list", "tuple", "bytes"]
theorem kit_all : ∀ t ∈ kinds, ∀ T ∈ askedK, PySem.W.kitOne [] (.type t) (.type T) = some (isK t T) := by decide +kernel
theorem Kd.same {K : PySem.W.Frag} {H H' : Hp} {v : V} {t : String} (h : Kd K H v t) (e : Same H H') : Kd K H' v t := by
  obtain ⟨h, m⟩ := h
  refine ⟨?_, m⟩
  cases h with
  | base b =>
    generalize hg : Value.type t = tt at b
    cases b with
    | non => cases hg; exact .base .non
    | bl x => cases hg; exact .base (.bl x)
    | int i => cases hg; exact .base (.int i)
    | str x => cases hg; exact .base (.str x)
    | flt x => cases hg; exact .base (.flt x)
    | lst h => cases hg; exact .base (.lst (e _ _ h))
    | frz h => cases hg; exact .base (.frz (e _ _ h))
    | tup h => cases hg; exact .base (.tup (e _ _ h))
    | dK h => cases hg; exact .base (.dK (e _ _ h))
    | dT h => cases hg; exact .base (.dT (e _ _ h))
    | ins => cases hg
  | byt b => exact .byt b
  | set h => exact .set (e _ _ h)
  | kList a c => exact .kList a c
  | kTuple a c => exact .kTuple a c
  | kDict a c => exact .kDict a c
  | fTuple h => exact .fTuple (e _ _ h)
  | fDict h => exact .fDict (e _ _ h)
def YP (ps : List (V × V)) : Nat → Hp → V → Hp → Prop := fun i H v H' => ∃ T x y, v = .ref T ∧ H T = none ∧ H' = upd H T (.tup [x, y]) ∧ ps[i]? = some (x, y)
section
variable {K : PySem.W.Frag} {a b : Addr} {xs ys : List V}
end
section
variable {σ : L2.St} {H : Hp} {Q : VK} {Dn : Addr} {te : TE} {tt : TT} {vs : List Nat} {K : PySem.W.Frag} {D : Ends} {tb : TS} {n1 n2 : Nat}
end
end TP

namespace TP
open PySem PySem.Spec PyProof.Rows L2
abbrev NL := List (NestedKey × Addr × V)
def NdRel (p : NestedKey × Addr × V) (q : NestedKey × Addr × Value) : Prop := p.1 = q.1 ∧ p.2.1 = q.2.1 ∧ RelV p.2.2 q.2.2
def entN (w : World) (x : NestedKey × Addr × Value) : DictEntry := ⟨x.1.hash w, .ref x.2.1, x.2.2⟩
/-- at a stands a dict: its keys, where their tuples stand, and its values -/
def NdOk (w : World) (a : Addr) (L : NL) (h : Heap) : Prop := L.length ≤ sizeLine ∧ (a == sysModules) = false ∧ ∃ xs : List (NestedKey × Addr × Value), Paired NdRel L xs ∧
  ∃ o es ep, h.get? a = some o ∧ o.ExactDict ∧ o.data = .dict es ep ∧ es.toList = xs.map (entN w) ∧ (xs.map (·.1)).Nodup
def NdO (w : World) (a : Addr) (L : NL) : HO := .ext (NdOk w a L)
theorem NdO_inj {w : World} {a : Addr} {L : NL} {o : HO} (h : NdO w a L = o) : Mut (some o) := by subst h; trivial
theorem ndOk_at {w : World} {a : Addr} {L : NL} {h1 h2 : Heap} (x : NdOk w a L h1) (k : ∀ o, h1.get? a = some o → h2.get? a = some o) : NdOk w a L h2 := by
  obtain ⟨z, y, xs, r, o, es, ep, e, c⟩ := x
  exact ⟨z, y, xs, r, o, es, ep, k _ e, c⟩
theorem ndObj {P : Program} {w : World} {H : Hp} {a : Addr} {L : NL} {h : Heap} (x : NdOk w a L h) : ObjOk P w H h a (NdO w a L) := by
  refine ⟨x, ?_, fun h1 h2 q k => ndOk_at q k⟩
  obtain ⟨_, _, _, _, o, _, _, e, _⟩ := x
  exact ⟨o, e⟩
mutual
/-- the value v, in H, is the key k -/
inductive NkV (K : PySem.W.Frag) (H : Hp) : NestedKey → V → Prop
  | non : NkV K H .none .non
  | bl (b : Bool) (i : Int) : i = (if b = true then 1 else 0) → NkV K H (.num i) (.bl b)
  | int (i : Int) : NkV K H (.num i) (.int i)
  | str (x : Str) : NkV K H (.text x) (.str x)
  | tup {a : Addr} {xs : List V} {ks : List NestedKey} : SqT K H a xs → NkAll K H ks xs → NkV K H (.tup ks) (.ref a)
inductive NkAll (K : PySem.W.Frag) (H : Hp) : List NestedKey → List V → Prop
  | nil : NkAll K H [] []
  | cons {k : NestedKey} {v : V} {ks : List NestedKey} {vs : List V} : NkV K H k v → NkAll K H ks vs → NkAll K H (k :: ks) (v :: vs)
end
section
variable {P : Program} {w : World} {K : PySem.W.Frag} {H : Hp} {h : Heap} (ok : HOk P w H h) (KX : K.In h)
include ok KX
mutual
theorem nk_is : ∀ (k : NestedKey) (v : V) (u : Value), NkV K H k v → RelV v u → NestedIs h k u
  | .none, v, u, x, r => by
    cases x
    cases (show u = Value.none from r)
    exact .none
  | .num i, v, u, x, r => by
    cases x with
    | bl b i e => cases (show u = Value.bool b from r); exact .bool e
    | int i => obtain ⟨t, rfl⟩ := r; exact .int i t
  | .text z, v, u, x, r => by
    cases x
    obtain ⟨t, rfl⟩ := r
    exact .text z t
  | .tup ks, v, u, x, r => by
    cases x with
    | @tup a xs _ hs ha =>
      cases (show u = Value.ref a from r)
      obtain ⟨its, o, n, rv, e, c, d⟩ := sqT_at ok KX hs
      exact .tup e c d (by simpa using nks_is ks xs its ha rv)
theorem nks_is : ∀ (ks : List NestedKey) (vs : List V) (us : List Value), NkAll K H ks vs → Vals vs us → NestedAll h ks us
  | [], vs, us, x, r => by cases x; cases r; exact .nil
  | k :: ks, vs, us, x, r => by
    cases x with
    | @cons _ v _ vs h1 h2 =>
      cases r with
      | cons r1 r2 => exact .cons (nk_is k v _ h1 r1) (nks_is ks vs _ h2 r2)
end
end
/-- the keys are there -/
def NkKeys (K : PySem.W.Frag) (H : Hp) (L : NL) : Prop := ∀ p ∈ L, NkV K H p.1 (.ref p.2.1) ∧ p.1.depth ≤ 8
def valN (L : NL) (k : NestedKey) : Option V := (L.find? fun p => decide (p.1 = k)).map (·.2.2)
def putN1 (k : NestedKey) (v : V) (p : NestedKey × Addr × V) : NestedKey × Addr × V := if p.1 = k then (p.1, p.2.1, v) else p
def putNL (L : NL) (k : NestedKey) (b : Addr) (v : V) : NL := if (valN L k).isSome then L.map (putN1 k v) else L ++ [(k, b, v)]
theorem nd_val {L : NL} {xs : List (NestedKey × Addr × Value)} (r : Paired NdRel L xs) (k : NestedKey) : RelO (valN L k) ((atKey xs k).map (·.2)) := by
  induction r with
  | nil => trivial
  | @cons p q L xs h t ih =>
    unfold valN atKey at ih ⊢
    obtain ⟨h1, h2, h3⟩ := h
    by_cases e : p.1 = k
    · rw [List.find?_cons_of_pos (by rw [decide_eq_true e]), List.find?_cons_of_pos (by rw [decide_eq_true (h1 ▸ e)])]
      exact h3
    · rw [List.find?_cons_of_neg (by rw [decide_eq_false e]; exact Bool.false_ne_true), List.find?_cons_of_neg (by rw [decide_eq_false (h1 ▸ e)]; exact Bool.false_ne_true)]
      exact ih
theorem nd_some {L : NL} {xs : List (NestedKey × Addr × Value)} (r : Paired NdRel L xs) (k : NestedKey) : (valN L k).isSome = (atKey xs k).isSome := by
  have h := nd_val r k
  cases e : valN L k with
  | none =>
    cases e2 : atKey xs k with
    | none => rfl
    | some p => rw [e, e2] at h; exact False.elim h
  | some v =>
    cases e2 : atKey xs k with
    | none => rw [e, e2] at h; exact False.elim h
    | some p => rfl
theorem nd_put {L : NL} {xs : List (NestedKey × Addr × Value)} (r : Paired NdRel L xs) {k : NestedKey} {b : Addr} {v : V} {u : Value} (rv : RelV v u) : Paired NdRel (putNL L k b v) (storedH xs k b u) := by
  unfold putNL storedH
  rw [nd_some r]
  by_cases q : (atKey xs k).isSome = true
  · rw [if_pos q, if_pos q]
    clear q
    induction r with
    | nil => exact .nil
    | @cons p q L xs h t ih =>
      rw [List.map_cons, List.map_cons]
      refine .cons ?_ ih
      obtain ⟨h1, h2, h3⟩ := h
      unfold putN1 putAt
      by_cases e : p.1 = k
      · rw [if_pos e, if_pos (h1 ▸ e)]; exact ⟨h1, h2, rv⟩
      · rw [if_neg e, if_neg (h1 ▸ e)]; exact ⟨h1, h2, h3⟩
  · rw [if_neg q, if_neg q]
    exact Paired.snoc r ⟨rfl, rfl, rv⟩
theorem putNL_len {L : NL} {k : NestedKey} {b : Addr} {v : V} : (putNL L k b v).length ≤ L.length + 1 := by
  unfold putNL
  split
  · rw [List.length_map]; exact Nat.le_succ _
  · rw [List.length_append]; exact Nat.le_refl _
section
variable {P : Program} {w : World} {K : PySem.W.Frag} {H : Hp} {h : Heap} {a : Addr} {L : NL}
theorem nd_rd (ok : HOk P w H h) (KX : K.In h) (e : Rd H a (NdO w a L)) (hk : NkKeys K H L) : L.length ≤ sizeLine ∧ (a == sysModules) = false ∧ ∃ xs, Paired NdRel L xs ∧ h.DictOfH (nestedKind P w) a xs := by
  obtain ⟨⟨z, y, xs, r, o, es, ep, h1, h2, h3, h4, h5⟩, _⟩ := (show ObjOk P w H h a (NdO w a L) from e.ok ok)
  refine ⟨z, y, xs, r, o, es, ep, h1, h2, h3, h4, fun x hx => ?_, h5⟩
  have all : ∀ {l : NL} {m : List (NestedKey × Addr × Value)}, Paired NdRel l m → (∀ p ∈ l, p ∈ L) → ∀ x ∈ m, (nestedKind P w).is h x.1 x.2.1 := by
    intro l m q
    induction q with
    | nil => intro _ x hx; exact nomatch hx
    | @cons p q ps qs hq t ih =>
      intro hs x hx
      rcases List.mem_cons.mp hx with e | hx
      · subst e
        obtain ⟨k1, k2⟩ := hk p (hs p List.mem_cons_self)
        rw [← hq.1, ← hq.2.1]
        exact ⟨nk_is ok KX _ _ _ k1 rfl, k2⟩
      · exact ih (fun p hp => hs p (List.mem_cons_of_mem _ hp)) x hx
  exact all r (fun _ h => h) x hx
theorem nd_new {h' : Heap} {xs : List (NestedKey × Addr × Value)} (z : L.length ≤ sizeLine) (hd : (a == sysModules) = false) (r : Paired NdRel L xs) (dd : h'.DictOfH (nestedKind P w) a xs) : ObjOk P w H h' a (NdO w a L) := by
  obtain ⟨o, es, ep, h1, h2, h3, h4, _, h5⟩ := dd
  exact ndObj ⟨z, hd, xs, r, o, es, ep, h1, h2, h3, h4, h5⟩
end
/-- k in d; d[k]; d.get(k, x); d[k] = v -/
def NGet (w : World) (K : PySem.W.Frag) (H : Hp) (a : Addr) (y : V) (r : Option V) : Prop := ∃ L k, Rd H a (NdO w a L) ∧ NkKeys K H L ∧ NkV K H k y ∧ k.depth ≤ 8 ∧ (∃ b, y = .ref b) ∧ r = valN L k
def NPut (w : World) (K : PySem.W.Frag) (H : Hp) (a : Addr) (y v : V) (H' : Hp) : Prop := ∃ L k b, H a = some (NdO w a L) ∧ NkKeys K H L ∧ y = .ref b ∧ NkV K H k (.ref b) ∧ k.depth ≤ 8 ∧ L.length < sizeLine ∧ H' = upd H a (NdO w a (putNL L k b v))
def tDNewN (w : World) : TE := fun _ H Q => ∀ p, H p = none → Q (.ref p) (upd H p (NdO w p []))
section
variable {X : Cx} {pins : List (Addr × Obj)} {σ : L2.St} {H : Hp} {s : Shared} {a : Addr} {y v : V} {u r : Value} {o : Option V} {A : Around} {E : Value → Shared → Prop} {pos : Pos}
theorem pe_dnewN : PE X (.Dict [] [] pos) (tDNewN X.w) := ⟨fun pins s σ H Q I h =>
  wpAny_Dict_empty ⟨.ref s.heap.objs.size, _, I.laid (a := s.heap.objs.size) (o := NdO X.w s.heap.objs.size []) (t' := s.toks) (fun _ _ q => Heap.get?_push_of_some _ q) (Nat.le_refl _)
    (ndObj ⟨Nat.zero_le _, beq_eq_false_iff_ne.mpr (Ne.symm (Nat.ne_of_lt I.big)), [], .nil, _, #[], 0, Heap.get?_push_size _ rfl, ⟨rfl, rfl, rfl⟩, rfl, rfl, List.nodup_nil⟩), rfl, h _ (I.hok.fresh (Nat.le_refl _))⟩⟩
theorem room8 (hu : A.units + 9 < cLine) : (nestedKind X.prog X.w).room A.in1 := by
  show A.in1.units + 8 < cLine
  rw [Around.in1_units]; omega
theorem n_getItem {Q : Value → Shared → Prop} (hu : A.units + 9 < cLine) (I : Inv X pins σ H s) (g : NGet X.w X.K H a y (some v)) (ry : RelV y u) (h : ∀ w' s', Inv X pins σ H s' → RelV v w' → Q w' s') :
    wpAny (model X.prog X.w) A (getItem (.ref a) u) Q E s := by
  obtain ⟨L, k, e, hk, hy, hd8, ⟨b, rfl⟩, l⟩ := g
  cases (show u = Value.ref b from ry)
  obtain ⟨z, hd, xs, rel, dd⟩ := nd_rd I.hok I.kIn e hk
  obtain ⟨w', hw, rw'⟩ := RelO.some_of (v := v) (o := (atKey xs k).map (·.2)) (by rw [l]; exact nd_val rel k)
  obtain ⟨p, hp, hp2⟩ := Option.map_eq_some_iff.mp hw
  refine wpAny_getItem_heap (room8 hu) ⟨nk_is I.hok I.kIn _ _ _ hy rfl, hd8⟩ dd hp ?_
  rw [hp2]
  exact h w' _ (I.tok _) rw'
theorem n_get2 {d : V} {Q : Value → Shared → Prop} (hu : A.units + 9 < cLine) (I : Inv X pins σ H s) (g : NGet X.w X.K H a y o) (ry : RelV y u) (rd : RelV d r) (h : ∀ w' s', Inv X pins σ H s' → RelV (o.getD d) w' → Q w' s') :
    wpAny (model X.prog X.w) A (call (.builtin "dict.get") [.ref a, u, r]) Q E s := by
  obtain ⟨L, k, e, hk, hy, hd8, ⟨b, rfl⟩, rfl⟩ := g
  cases (show u = Value.ref b from ry)
  obtain ⟨z, hd, xs, rel, dd⟩ := nd_rd I.hok I.kIn e hk
  refine call_meetsIn PySem.F.slot_dict_get dd.typeIs PySem.F.entry_dict_get (PySem.F.args_dict_get_3 _ _ _) (meetsH_dict_get_default (nestedKind X.prog X.w) a b hd r) ⟨room8 hu, k, xs, ⟨nk_is I.hok I.kIn _ _ _ hy rfl, hd8⟩, dd, h _ _ (I.tok _) ?_⟩
  exact (nd_val rel k).getD rd
theorem n_setItem {H' : Hp} {Q : Unit → Shared → Prop} (hu : A.units + 9 < cLine) (I : Inv X pins σ H s) (g : NPut X.w X.K H a y v H') (ry : RelV y u) (rv : RelV v r) (h : ∀ s', Inv X pins σ H' s' → Q () s') :
    wpAny (model X.prog X.w) A (setItem (.ref a) u r) Q E s := by
  obtain ⟨L, k, b, e, hk, rfl, hy, hd8, hl, rfl⟩ := g
  cases (show u = Value.ref b from ry)
  obtain ⟨z, hd, xs, rel, dd⟩ := nd_rd I.hok I.kIn (.inl e) hk
  have hxl : xs.length = L.length := (Paired.length rel).symm
  refine wpAny_setItem_heap (room8 hu) ⟨nk_is I.hok I.kIn _ _ _ hy rfl, hd8⟩ dd (fun h' hm hs => h _ ?_) (by rw [hxl]; exact z)
  obtain ⟨q, _, _, hq, _⟩ := id hm
  refine d_write I (by rw [e]; trivial) hs ⟨q, hq⟩ ?_
  exact nd_new (Nat.le_trans putNL_len hl) hd (nd_put rel rv) hm
end
def rIxN (w : World) (K : PySem.W.Frag) : R2 := fun x y H Q => ∃ a v, x = .ref a ∧ NGet w K H a y (some v) ∧ Q v H
section
variable {X : Cx}
end
end TP
namespace TP
open PySem PySem.Spec PyProof.Rows L2
theorem n_typeIs {X : Cx} {pins : List (Addr × Obj)} {σ : L2.St} {H : Hp} {s : Shared} {a : Addr} {L : NL} (I : Inv X pins σ H s) (e : Rd H a (NdO X.w a L)) (hk : NkKeys X.K H L) :
    s.TypeIs (.ref a) "dict" ∧ (∀ b, Value.ref a = .ref b → ∃ ob, s.heap.get? b = some ob ∧ ob.dict = none) ∧ (a == sysModules) = false := by
  obtain ⟨_, hd, xs, _, dd⟩ := nd_rd I.hok I.kIn e hk
  refine ⟨dd.typeIs, fun b q => ?_, hd⟩
  cases q
  obtain ⟨ob, _, _, h1, h2, _⟩ := dd
  exact ⟨ob, h1, h2.2.1⟩
def sNPut (w : World) (K : PySem.W.Frag) (td ty tv : TE) : TS := fun D σ H => tv σ H fun v H1 => td σ H1 fun x H2 => ty σ H2 fun y H3 => ∃ a H4, x = .ref a ∧ NPut w K H3 a y v H4 ∧ D.nx σ H4
def tNGet2 (w : World) (K : PySem.W.Frag) (td ty tx : TE) : TE := fun σ H Q => td σ H fun x H1 => ∃ a L, x = .ref a ∧ Rd H1 a (NdO w a L) ∧ NkKeys K H1 L ∧ ty σ H1 fun y H2 => tx σ H2 fun z H3 => ∃ o, NGet w K H3 a y o ∧ Q (o.getD z) H3
section
variable {X : Cx} {o i e f value : Expr} {pos pos' apos cpos : Pos} {td ty tv tx : TE}
theorem pe_nix (hu : X.A.units + 9 < cLine) (ho : PE X o td) (hi : PE X i ty) (hs : NoSl i) : PE X (.Subscript o i pos) (tOp (rIxN X.w X.K) td ty) := by
  refine ⟨fun pins s σ H Q I h => ?_⟩
  refine subD_of PySem.F.slot_dict_getitem.lookup hs (thn (ho.run pins s σ H _ I h) fun u s1 ⟨x, H1, I1, rx, q1⟩ => thn (hi.run pins s1 σ H1 _ I1 q1) fun iv s2 ⟨y, H2, I2, ry, a, v, ex, g, q2⟩ => ?_)
  subst ex
  obtain rfl : u = Value.ref a := rx
  refine ⟨?_, n_getItem hu I2 g ry fun w' s3 I3 rw' => ⟨v, H2, I3, rw', q2⟩⟩
  obtain ⟨L, k, e, hk, _⟩ := g
  exact (n_typeIs I2 e hk).1
theorem ps_nput (hu : X.A.units + 9 < cLine) (ho : PE X o td) (hi : PE X i ty) (hv : PE X value tv) (hs : swapsWith value (some (.Subscript o i pos')) pos.line X.env = pure false) :
    PS X (.Assign [.Subscript o i pos'] value pos) (sNPut X.w X.K td ty tv) := by
  refine ⟨fun pins s σ H D I h => ?_⟩
  refine wpAny_Assign_Subscript (thn (hv.run pins s σ H _ I h) fun r s1 ⟨v, H1, I1, rv, q1⟩ => thn (ho.run pins s1 σ H1 _ I1 q1) fun u s2 ⟨x, H2, I2, rx, q2⟩ => thn (hi.run pins s2 σ H2 _ I2 q2) fun iv s3 ⟨y, H3, I3, ry, a, H4, ex, g, q3⟩ => ?_) hs
  subst ex
  obtain rfl : u = Value.ref a := rx
  exact n_setItem hu I3 g ry rv fun s4 I4 => ⟨σ, H4, I4, q3⟩
theorem pe_ndget2 (hu : X.A.units + 9 < cLine) (ho : PE X o td) (he : PE X e ty) (hf : PE X f tx) (m : M2 X o "get" apos e f cpos) : PE X (.Call (.Attribute o "get" apos) [e, f] [] cpos) (tNGet2 X.w X.K td ty tx) := by
  refine ⟨fun pins s σ H Q I h => ?_⟩
  refine wpAny_Call_method m.base m.few m.line PySem.F.plainAttrs_dict PySem.F.slot_dict_get PySem.F.type_dict_get (thn (ho.run pins s σ H _ I h) fun u s1 ⟨x, H1, I1, rx, a, L, ex, d, dk, q1⟩ => ?_)
  subst ex
  obtain rfl : u = Value.ref a := rx
  obtain ⟨t1, t2, _⟩ := n_typeIs I1 d dk
  refine ⟨t1, t2, ?_⟩
  rw [m.trees]
  refine Calls.callWith_builtin rfl (Calls.evalArgs_plain (Calls.spliced_cons (thn (he.run pins s1 σ H1 _ I1 q1) fun iv s2 ⟨y, H2, I2, ry, q2⟩ => Calls.spliced_cons (thn (hf.run pins s2 σ H2 _ I2 q2) fun zv s3 ⟨z, H3, I3, rz, ov, g, q3⟩ => Calls.spliced_nil ?_))))
  exact n_get2 hu I3 g ry rz fun w' s4 I4 rw' => ⟨_, H3, I4, rw', q3⟩
end
end TP

namespace MR
open PySem PySem.Spec PyProof.Rows L2 TP
inductive D where
  | non | bl (b : Bool) | int (i : Int) | str (x : Str) | byt (b : Array UInt8) | ty (n : String) | cls (c : Nat)
  | tup (ds : List D) | lst (ds : List D) | dic (ks : List Key) (ds : List D) | obj (c : Nat) (ns : List Str) (ds : List D) | ref (n : Nat) | scr (is : List Int) | fdc (ks : List Key) (ds : List D) | ndc (ks ds : List D) | fnc (ks ds : List D)
  deriving Inhabited
abbrev Sto := List (Option D)
/-- where the classes stand, and the world -/
structure Gm where
  f : Nat → Addr
  wd : World
instance : CoeFun Gm fun _ => Nat → Addr := ⟨Gm.f⟩
mutual
/-- a thing as a key of a dict -/
def nkD : D → NestedKey
  | .bl b => .num (if b = true then 1 else 0)
  | .int i => .num i
  | .str x => .text x
  | .tup ds => .tup (nksD ds)
  | _ => .none
def nksD : List D → List NestedKey
  | [] => []
  | d :: ds => nkD d :: nksD ds
end
def plnD : Nat → D → Bool
  | _, .non => true
  | _, .bl _ => true
  | _, .int _ => true
  | _, .str _ => true
  | n + 1, .tup ds => ds.all (plnD n)
  | _, _ => false
def keyD : D → Bool
  | .tup ds => plnD 8 (.tup ds)
  | _ => false
/-- a name's place: unset; a value; a thing of one's own that may be changed -/
inductive Slot where
  | no | val (d : D) | own (b : Bool) (d : D) | exn (c : Nat) (ns : List Str) (ds : List D)
  deriving Inhabited
abbrev Env := List Slot
section
variable (K : PySem.W.Frag) (Γ : Gm) (ρ : List Addr) (R : Hp)
mutual
def RepC : D → V → Prop
  | .non, v => v = .non
  | .bl b, v => v = .bl b
  | .int i, v => v = .int i
  | .str x, v => v = .str x
  | .byt b, v => v = .byt b
  | .ty n, v => v = .ty n
  | .cls c, v => v = .ref (Γ c)
  | .ref n, v => ∃ a, ρ[n]? = some a ∧ v = .ref a
  | .tup ds, v => ∃ a vs, v = .ref a ∧ SqT K R a vs ∧ vs.length ≤ sizeLine ∧ RepsC ds vs
  | .lst ds, v => ∃ a vs, v = .ref a ∧ R a = some (.lst vs) ∧ vs.length ≤ sizeLine ∧ RepsC ds vs
  | .scr is, v => ∃ a, v = .ref a ∧ SqL K R a (is.map V.int) ∧ is.length ≤ sizeLine
  | .dic ks ds, v => ∃ a vs, v = .ref a ∧ Rd R a (.dK (ks.zip vs)) ∧ ks.length = vs.length ∧ RepsC ds vs
  | .fdc ks ds, v => ∃ a o vs, v = .ref a ∧ R a = some (.frz o (.dK (ks.zip vs))) ∧ ks.length = vs.length ∧ ks.length ≤ sizeLine ∧ RepsC ds vs
  | .ndc ks ds, v => ∃ a, ∃ L : NL, v = .ref a ∧ R a = some (NdO Γ.wd a L) ∧ L.map (·.1) = nksD ks ∧ RepsC ks (L.map fun p => .ref p.2.1) ∧ RepsC ds (L.map (·.2.2)) ∧ ks.all keyD = true
  | .fnc ks ds, v => ∃ a ob, ∃ L : NL, v = .ref a ∧ R a = some (.frz ob (NdO Γ.wd a L)) ∧ L.map (·.1) = nksD ks ∧ RepsC ks (L.map fun p => .ref p.2.1) ∧ RepsC ds (L.map (·.2.2)) ∧ ks.all keyD = true
  | .obj c ns ds, v => ∃ a dx vs, v = .ref a ∧ R a = some (.ins (Γ c) dx (ns.zip vs)) ∧ ns.length = vs.length ∧ RepsC ds vs
def RepsC : List D → List V → Prop
  | [], vs => vs = []
  | d :: ds, vs => ∃ v ws, vs = v :: ws ∧ RepC d v ∧ RepsC ds ws
end
end
/-- R: what stands and never changes; ρ: where the store's things lie; S: the store; H: the heap -/
structure Wd where
  R : Hp
  ρ : List Addr
  S : Sto
  H : Hp
section
variable (K : PySem.W.Frag) (Γ : Gm)
abbrev Rep (w : Wd) (d : D) (v : V) : Prop := RepC K Γ w.ρ w.R d v
abbrev Reps (w : Wd) (ds : List D) (vs : List V) : Prop := RepsC K Γ w.ρ w.R ds vs
/-- the thing at a is, in H, d: changeable at its top -/
def At (w : Wd) (d : D) (a : Addr) : Prop := match d with
  | .lst ds => ∃ vs, w.H a = some (.lst vs) ∧ vs.length ≤ sizeLine ∧ Reps K Γ w ds vs
  | .dic ks ds => ∃ vs, w.H a = some (.dK (ks.zip vs)) ∧ ks.length = vs.length ∧ Reps K Γ w ds vs
  | .obj c ns ds => ∃ dx vs, w.H a = some (.ins (Γ c) dx (ns.zip vs)) ∧ ns.length = vs.length ∧ Reps K Γ w ds vs
  | .ndc ks ds => ∃ L : NL, w.H a = some (NdO Γ.wd a L) ∧ L.map (·.1) = nksD ks ∧ Reps K Γ w ks (L.map fun p => .ref p.2.1) ∧ Reps K Γ w ds (L.map (·.2.2)) ∧ ks.all keyD = true
  | _ => False
def Live (w : Wd) (a : Addr) : Prop := ∃ (n : Nat) (d : D), w.S[n]? = some (some d) ∧ w.ρ[n]? = some a
structure Ok (w : Wd) : Prop where
  same : Same w.R w.H
  len : w.S.length = w.ρ.length
  cell : ∀ (n : Nat) (d : D), w.S[n]? = some (some d) → ∃ a, w.ρ[n]? = some a ∧ w.R a = none ∧ At K Γ w d a
  inj : ∀ (n m : Nat) (d e : D) (a : Addr), w.S[n]? = some (some d) → w.S[m]? = some (some e) → w.ρ[n]? = some a → w.ρ[m]? = some a → n = m
end
structure Ev (w w' : Wd) : Prop where
  rr : Same w.R w'.R
  pre : w.ρ <+: w'.ρ
  keep : ∀ a o, w.H a = some o → ¬ Live w a → w'.H a = some o
  dom : ∀ a, w'.H a = none → w.H a = none
  newR : ∀ a, w'.R a ≠ none → w.R a = none → w.H a = none ∨ Live w a
  newL : ∀ a, Live w' a → Live w a ∨ w.H a = none
theorem Ev.refl (w : Wd) : Ev w w := ⟨fun _ _ e => e, List.prefix_rfl, fun _ _ e _ => e, fun _ e => e, fun _ h e => absurd e h, fun _ h => .inl h⟩
theorem Ev.trans {w w' w'' : Wd} (h : Ev w w') (g : Ev w' w'') : Ev w w'' where
  rr := h.rr.trans g.rr
  pre := h.pre.trans g.pre
  keep := fun a o e n => g.keep a o (h.keep a o e n) fun l => by
    rcases h.newL a l with l | l
    · exact n l
    · rw [e] at l; cases l
  dom := fun a e => h.dom a (g.dom a e)
  newR := fun a r e => by
    by_cases q : w'.R a = none
    · rcases g.newR a r q with z | z
      · exact .inl (h.dom a z)
      · rcases h.newL a z with z | z
        · exact .inr z
        · exact .inl z
    · exact h.newR a q e
  newL := fun a l => by
    rcases g.newL a l with z | z
    · exact h.newL a z
    · exact .inr (h.dom a z)
section
variable {K : PySem.W.Frag} {Γ : Gm} {ρ ρ' : List Addr} {R R' : Hp}
theorem sqL_mono {a : Addr} {xs : List V} (s : Same R R') (h : SqL K R a xs) : SqL K R' a xs := s.seq h
theorem sqT_mono {a : Addr} {xs : List V} (s : Same R R') (h : SqT K R a xs) : SqT K R' a xs := Same.sqT s h
mutual
theorem repC_mono (s : Same R R') (p : ρ <+: ρ') : ∀ (d : D) (v : V), RepC K Γ ρ R d v → RepC K Γ ρ' R' d v
  | .non, _, h => h
  | .bl _, _, h => h
  | .int _, _, h => h
  | .str _, _, h => h
  | .byt _, _, h => h
  | .ty _, _, h => h
  | .cls _, _, h => h
  | .ref n, v, h => by
    obtain ⟨a, h1, h2⟩ := (show ∃ a, ρ[n]? = some a ∧ v = .ref a by simpa only [RepC] using h)
    obtain ⟨t, rfl⟩ := p
    simp only [RepC]
    exact ⟨a, by rw [List.getElem?_append_left (List.getElem?_eq_some_iff.mp h1).1]; exact h1, h2⟩
  | .tup ds, v, h => by
    simp only [RepC] at h ⊢
    obtain ⟨a, vs, h1, h2, h3, h4⟩ := h
    exact ⟨a, vs, h1, sqT_mono s h2, h3, repsC_mono s p ds vs h4⟩
  | .lst ds, v, h => by
    simp only [RepC] at h ⊢
    obtain ⟨a, vs, h1, h2, h3, h4⟩ := h
    exact ⟨a, vs, h1, s _ _ h2, h3, repsC_mono s p ds vs h4⟩
  | .scr is, v, h => by
    simp only [RepC] at h ⊢
    obtain ⟨a, h1, h2, h3⟩ := h
    exact ⟨a, h1, sqL_mono s h2, h3⟩
  | .dic ks ds, v, h => by
    simp only [RepC] at h ⊢
    obtain ⟨a, vs, h1, h2, h3, h4⟩ := h
    refine ⟨a, vs, h1, ?_, h3, repsC_mono s p ds vs h4⟩
    rcases h2 with h2 | ⟨o, h2⟩
    · exact .inl (s _ _ h2)
    · exact .inr ⟨o, s _ _ h2⟩
  | .fdc ks ds, v, h => by
    simp only [RepC] at h ⊢
    obtain ⟨a, o, vs, h1, h2, h3, h5, h4⟩ := h
    exact ⟨a, o, vs, h1, s _ _ h2, h3, h5, repsC_mono s p ds vs h4⟩
  | .ndc ks ds, v, h => by
    simp only [RepC] at h ⊢
    obtain ⟨a, L, h1, h2, h3, h4, h5, h6⟩ := h
    exact ⟨a, L, h1, s _ _ h2, h3, repsC_mono s p ks _ h4, repsC_mono s p ds _ h5, h6⟩
  | .fnc ks ds, v, h => by
    simp only [RepC] at h ⊢
    obtain ⟨a, ob, L, h1, h2, h3, h4, h5, h6⟩ := h
    exact ⟨a, ob, L, h1, s _ _ h2, h3, repsC_mono s p ks _ h4, repsC_mono s p ds _ h5, h6⟩
  | .obj c ns ds, v, h => by
    simp only [RepC] at h ⊢
    obtain ⟨a, dx, vs, h1, h2, h3, h4⟩ := h
    exact ⟨a, dx, vs, h1, s _ _ h2, h3, repsC_mono s p ds vs h4⟩
theorem repsC_mono (s : Same R R') (p : ρ <+: ρ') : ∀ (ds : List D) (vs : List V), RepsC K Γ ρ R ds vs → RepsC K Γ ρ' R' ds vs
  | [], _, h => h
  | d :: ds, vs, h => by
    simp only [RepsC] at h ⊢
    obtain ⟨v, ws, h1, h2, h3⟩ := h
    exact ⟨v, ws, h1, repC_mono s p d v h2, repsC_mono s p ds ws h3⟩
end
theorem reps_len : ∀ {ds : List D} {vs : List V}, RepsC K Γ ρ R ds vs → ds.length = vs.length
  | [], vs, h => by simp only [RepsC] at h; subst h; rfl
  | d :: ds, vs, h => by
    simp only [RepsC] at h
    obtain ⟨v, ws, rfl, _, h3⟩ := h
    rw [List.length_cons, List.length_cons, reps_len h3]
theorem reps_get : ∀ {ds : List D} {vs : List V} {i : Nat} {d : D}, RepsC K Γ ρ R ds vs → ds[i]? = some d → ∃ v, vs[i]? = some v ∧ RepC K Γ ρ R d v
  | [], _, i, d, _, e => by simp at e
  | d' :: ds, vs, i, d, h, e => by
    simp only [RepsC] at h
    obtain ⟨v, ws, rfl, h2, h3⟩ := h
    cases i with
    | zero => simp at e; subst e; exact ⟨v, rfl, h2⟩
    | succ i =>
      obtain ⟨u, h4, h5⟩ := reps_get (i := i) h3 (by simpa using e)
      exact ⟨u, by simpa using h4, h5⟩
theorem reps_get' : ∀ {ds : List D} {vs : List V} {i : Nat} {v : V}, RepsC K Γ ρ R ds vs → vs[i]? = some v → ∃ d, ds[i]? = some d ∧ RepC K Γ ρ R d v := fun {ds vs i v} h e => by
  have hl := reps_len h
  have hi : i < vs.length := (List.getElem?_eq_some_iff.mp e).1
  obtain ⟨d, hd⟩ : ∃ d, ds[i]? = some d := ⟨_, List.getElem?_eq_getElem (by omega)⟩
  obtain ⟨u, h1, h2⟩ := reps_get h hd
  rw [e] at h1
  cases h1
  exact ⟨d, hd, h2⟩
theorem reps_nil : RepsC K Γ ρ R [] [] := rfl
theorem reps_cons {d : D} {v : V} {ds : List D} {vs : List V} (h : RepC K Γ ρ R d v) (t : RepsC K Γ ρ R ds vs) : RepsC K Γ ρ R (d :: ds) (v :: vs) := by
  simp only [RepsC]; exact ⟨v, vs, rfl, h, t⟩
theorem reps_inv {d : D} {ds : List D} {vs : List V} (h : RepsC K Γ ρ R (d :: ds) vs) : ∃ v ws, vs = v :: ws ∧ RepC K Γ ρ R d v ∧ RepsC K Γ ρ R ds ws := by
  simpa only [RepsC] using h
theorem reps_app : ∀ {ds es : List D} {vs us : List V}, RepsC K Γ ρ R ds vs → RepsC K Γ ρ R es us → RepsC K Γ ρ R (ds ++ es) (vs ++ us)
  | [], es, vs, us, h, g => by simp only [RepsC] at h; subst h; exact g
  | d :: ds, es, vs, us, h, g => by
    obtain ⟨v, ws, rfl, h2, h3⟩ := reps_inv h
    exact reps_cons h2 (reps_app h3 g)
theorem reps_take : ∀ {ds : List D} {vs : List V} (n : Nat), RepsC K Γ ρ R ds vs → RepsC K Γ ρ R (ds.take n) (vs.take n)
  | _, _, 0, _ => by simp; exact reps_nil
  | [], vs, n + 1, h => by simp only [RepsC] at h; subst h; exact reps_nil
  | d :: ds, vs, n + 1, h => by
    obtain ⟨v, ws, rfl, h2, h3⟩ := reps_inv h
    exact reps_cons h2 (reps_take n h3)
theorem reps_drop : ∀ {ds : List D} {vs : List V} (n : Nat), RepsC K Γ ρ R ds vs → RepsC K Γ ρ R (ds.drop n) (vs.drop n)
  | _, _, 0, h => h
  | [], vs, n + 1, h => by simp only [RepsC] at h; subst h; exact reps_nil
  | d :: ds, vs, n + 1, h => by
    obtain ⟨v, ws, rfl, h2, h3⟩ := reps_inv h
    exact reps_drop n h3
theorem reps_set : ∀ {ds : List D} {vs : List V} {d : D} {v : V} (n : Nat), RepsC K Γ ρ R ds vs → RepC K Γ ρ R d v → RepsC K Γ ρ R (ds.set n d) (vs.set n v)
  | [], vs, d, v, n, h, _ => by simp only [RepsC] at h; subst h; cases n <;> exact reps_nil
  | d' :: ds, vs, d, v, n, h, g => by
    obtain ⟨u, ws, rfl, h2, h3⟩ := reps_inv h
    cases n with
    | zero => exact reps_cons g h3
    | succ n => exact reps_cons h2 (reps_set n h3 g)
theorem reps_rev {ds : List D} {vs : List V} (h : RepsC K Γ ρ R ds vs) : RepsC K Γ ρ R ds.reverse vs.reverse := by
  induction ds generalizing vs with
  | nil => simp only [RepsC] at h; subst h; exact reps_nil
  | cons d ds ih =>
    obtain ⟨v, ws, rfl, h2, h3⟩ := reps_inv h
    rw [List.reverse_cons, List.reverse_cons]
    exact reps_app (ih h3) (reps_cons h2 reps_nil)
end
section
variable {K : PySem.W.Frag} {Γ : Gm} {w w' w0 : Wd}
theorem Rep.ev {d : D} {v : V} (h : Rep K Γ w d v) (e : Ev w w') : Rep K Γ w' d v := repC_mono e.rr e.pre d v h
theorem Reps.ev {d : List D} {v : List V} (h : Reps K Γ w d v) (e : Ev w w') : Reps K Γ w' d v := repsC_mono e.rr e.pre d v h
/-- a changeable thing that nobody else knows; w0: the entry's world -/
structure OwnAt (K : PySem.W.Frag) (Γ : Gm) (w0 w : Wd) (d : D) (a : Addr) : Prop where
  new : w0.H a = none
  r : w.R a = none
  nl : ¬ Live w a
  at_ : At K Γ w d a
theorem at_some {d : D} {a : Addr} (h : At K Γ w d a) : ∃ o, w.H a = some o := by
  unfold At at h
  split at h
  · obtain ⟨_, h, _⟩ := h; exact ⟨_, h⟩
  · obtain ⟨_, h, _⟩ := h; exact ⟨_, h⟩
  · obtain ⟨_, _, h, _⟩ := h; exact ⟨_, h⟩
  · obtain ⟨_, h, _⟩ := h; exact ⟨_, h⟩
  · exact False.elim h
theorem at_mv {d : D} {a : Addr} (h : At K Γ w d a) (hh : ∀ o, w.H a = some o → w'.H a = some o) (rr : Same w.R w'.R) (pp : w.ρ <+: w'.ρ) : At K Γ w' d a := by
  cases d with
  | lst ds => obtain ⟨vs, h1, h2, h3⟩ := h; exact ⟨vs, hh _ h1, h2, repsC_mono rr pp _ _ h3⟩
  | dic ks ds => obtain ⟨vs, h1, h2, h3⟩ := h; exact ⟨vs, hh _ h1, h2, repsC_mono rr pp _ _ h3⟩
  | obj c ns ds => obtain ⟨dx, vs, h1, h2, h3⟩ := h; exact ⟨dx, vs, hh _ h1, h2, repsC_mono rr pp _ _ h3⟩
  | ndc ks ds => obtain ⟨L, h1, h2, h3, h4, h5⟩ := h; exact ⟨L, hh _ h1, h2, repsC_mono rr pp _ _ h3, repsC_mono rr pp _ _ h4, h5⟩
  | _ => exact False.elim h
theorem OwnAt.ev {d : D} {a : Addr} (h : OwnAt K Γ w0 w d a) (e : Ev w w') : OwnAt K Γ w0 w' d a := by
  obtain ⟨o, ho⟩ := (at_some h.at_)
  refine ⟨h.new, ?_, fun l => ?_, at_mv h.at_ (fun o ho => e.keep _ _ ho h.nl) e.rr e.pre⟩
  · by_cases q : w'.R a = none
    · exact q
    · rcases e.newR a q h.r with z | z
      · rw [ho] at z; cases z
      · exact absurd z h.nl
  · rcases e.newL a l with z | z
    · exact h.nl z
    · rw [ho] at z; cases z
/-- the error that is handled: where, its class, its dict -/
structure XT where
  a : Addr
  cls : Value
  d : Option Addr
  s : Addr
/-- the dict of an error: its fields, or none at all where the error has no field -/
def XD (K : PySem.W.Frag) (Γ : Gm) (w : Wd) (d : Option Addr) (ns : List Str) (ds : List D) : Prop :=
  (∃ dd vs, d = some dd ∧ w.R dd = some (.xd (ns.zip vs)) ∧ ns.length = vs.length ∧ Reps K Γ w ds vs) ∨ (d = none ∧ ns = [] ∧ ds = [])
theorem XD.ev {d : Option Addr} {ns : List Str} {ds : List D} (h : XD K Γ w d ns ds) (e : Ev w w') : XD K Γ w' d ns ds := by
  rcases h with ⟨dd, vs, h3, h4, h5, h6⟩ | h
  · exact .inl ⟨dd, vs, h3, e.rr _ _ h4, h5, Reps.ev h6 e⟩
  · exact .inr h
def SlotOk (K : PySem.W.Frag) (Γ : Gm) (xa : XT) (w0 w : Wd) (x : Option V) : Slot → Prop
  | .no => True
  | .val d => ∃ v, x = some v ∧ Rep K Γ w d v
  | .own b d => ∃ a, x = some (.ref a) ∧ OwnAt K Γ w0 w d a ∧ (b = true → a = xa.s)
  | .exn c ns ds => x = some (.ref xa.a) ∧ xa.cls = .ref (Γ c) ∧ XD K Γ w xa.d ns ds
theorem SlotOk.ev {xa : XT} {x : Option V} {s : Slot} (h : SlotOk K Γ xa w0 w x s) (e : Ev w w') : SlotOk K Γ xa w0 w' x s := by
  cases s with
  | no => trivial
  | val d => obtain ⟨v, h1, h2⟩ := h; exact ⟨v, h1, Rep.ev h2 e⟩
  | own b d => obtain ⟨a, h1, h2, h3⟩ := h; exact ⟨a, h1, h2.ev e, h3⟩
  | exn c ns ds => obtain ⟨h1, h2, h3⟩ := h; exact ⟨h1, h2, h3.ev e⟩
structure EnvOk (K : PySem.W.Frag) (Γ : Gm) (xa : XT) (w0 w : Wd) (σ : L2.St) (δ : Env) : Prop where
  len : δ.length = σ.length
  ok : ∀ (i : Nat) (x : Option V) (s : Slot), σ[i]? = some x → δ[i]? = some s → SlotOk K Γ xa w0 w x s
  sep : ∀ (i j : Nat) (b c : Bool) (d e : D) (a : Addr), δ[i]? = some (.own b d) → δ[j]? = some (.own c e) → σ[i]? = some (some (.ref a)) → σ[j]? = some (some (.ref a)) → i = j
theorem EnvOk.ev {xa : XT} {σ : L2.St} {δ : Env} (h : EnvOk K Γ xa w0 w σ δ) (e : Ev w w') : EnvOk K Γ xa w0 w' σ δ :=
  ⟨h.len, fun i x s h1 h2 => (h.ok i x s h1 h2).ev e, h.sep⟩
theorem EnvOk.get {xa : XT} {σ : L2.St} {δ : Env} {i : Nat} {s : Slot} (h : EnvOk K Γ xa w0 w σ δ) (hd : δ[i]? = some s) : ∃ x, σ[i]? = some x ∧ SlotOk K Γ xa w0 w x s := by
  have hi := (List.getElem?_eq_some_iff.mp hd).1
  have := h.len
  have e : σ[i]? = some σ[i] := List.getElem?_eq_getElem (by omega)
  exact ⟨_, e, h.ok i _ s e hd⟩
theorem EnvOk.val {xa : XT} {σ : L2.St} {δ : Env} {i : Nat} {d : D} (h : EnvOk K Γ xa w0 w σ δ) (hd : δ[i]? = some (.val d)) : ∃ v, σ[i]? = some (some v) ∧ Rep K Γ w d v := by
  obtain ⟨x, e, v, rfl, r⟩ := h.get hd
  exact ⟨v, e, r⟩
theorem EnvOk.own {xa : XT} {σ : L2.St} {δ : Env} {i : Nat} {b : Bool} {d : D} (h : EnvOk K Γ xa w0 w σ δ) (hd : δ[i]? = some (.own b d)) : ∃ a, σ[i]? = some (some (.ref a)) ∧ OwnAt K Γ w0 w d a := by
  obtain ⟨x, e, v, rfl, r, _⟩ := h.get hd
  exact ⟨v, e, r⟩
/-- a place is set to a value -/
theorem EnvOk.set {xa : XT} {σ : L2.St} {δ : Env} {i : Nat} {d : D} {v : V} (h : EnvOk K Γ xa w0 w σ δ) (r : Rep K Γ w d v) : EnvOk K Γ xa w0 w (σ.set i (some v)) (δ.set i (.val d)) := by
  refine ⟨by rw [List.length_set, List.length_set, h.len], fun j x s h1 h2 => ?_, fun j k b c d' e a h1 h2 h3 h4 => ?_⟩
  · rw [List.getElem?_set] at h1 h2
    by_cases q : i = j
    · rw [if_pos q] at h1 h2
      split at h1 <;> cases h1
      split at h2 <;> cases h2
      exact ⟨v, rfl, r⟩
    · rw [if_neg q] at h1 h2
      exact h.ok j x s h1 h2
  · rw [List.getElem?_set] at h1 h2 h3 h4
    by_cases q : i = j
    · rw [if_pos q] at h1; split at h1 <;> cases h1
    · by_cases q2 : i = k
      · rw [if_pos q2] at h2; split at h2 <;> cases h2
      · rw [if_neg q] at h1 h3
        rw [if_neg q2] at h2 h4
        exact h.sep j k b c d' e a h1 h2 h3 h4
/-- .. to a new thing of one's own -/
theorem EnvOk.setOwn {xa : XT} {σ : L2.St} {δ : Env} {i : Nat} {d : D} {a : Addr} (h : EnvOk K Γ xa w0 w σ δ) (r : OwnAt K Γ w0 w d a) (new : ∀ (j : Nat) (f : Bool) (e : D) (b : Addr), δ[j]? = some (Slot.own f e) → σ[j]? = some (some (V.ref b)) → b ≠ a) : EnvOk K Γ xa w0 w (σ.set i (some (.ref a))) (δ.set i (.own false d)) := by
  refine ⟨by rw [List.length_set, List.length_set, h.len], fun j x s h1 h2 => ?_, fun j k c c' d' e b h1 h2 h3 h4 => ?_⟩
  · rw [List.getElem?_set] at h1 h2
    by_cases q : i = j
    · rw [if_pos q] at h1 h2
      split at h1 <;> cases h1
      split at h2 <;> cases h2
      exact ⟨a, rfl, r, fun z => by cases z⟩
    · rw [if_neg q] at h1 h2
      exact h.ok j x s h1 h2
  · rw [List.getElem?_set] at h1 h2 h3 h4
    by_cases q : i = j
    · by_cases q2 : i = k
      · exact q.symm.trans q2
      · rw [if_pos q] at h3
        split at h3 <;> cases h3
        rw [if_neg q2] at h2 h4
        exact absurd rfl (new k _ e a h2 h4)
    · by_cases q2 : i = k
      · rw [if_pos q2] at h4
        split at h4 <;> cases h4
        rw [if_neg q] at h1 h3
        exact absurd rfl (new j _ d' a h1 h3)
      · rw [if_neg q] at h1 h3
        rw [if_neg q2] at h2 h4
        exact h.sep j k c c' d' e b h1 h2 h3 h4
end
end MR

namespace MR
open PySem PySem.Spec PyProof.Rows L2 TP
section
variable {K : PySem.W.Frag} {Γ : Gm} {w w' w0 : Wd}
theorem live_ne {a p : Addr} (h : Ok K Γ w) (l : Live w a) (hp : w.H p = none) : a ≠ p := by
  obtain ⟨n, d, h1, h2⟩ := l
  obtain ⟨b, h3, _, h4⟩ := h.cell n d h1
  rw [h2] at h3
  cases h3
  obtain ⟨o, ho⟩ := at_some h4
  exact ne_of_none ho hp
theorem r_none {p : Addr} (h : Ok K Γ w) (hp : w.H p = none) : w.R p = none := h.same.free hp
theorem not_live {p : Addr} (h : Ok K Γ w) (hp : w.H p = none) : ¬ Live w p := fun l => live_ne h l hp rfl
theorem live_r {a : Addr} (h : Ok K Γ w) (l : Live w a) : w.R a = none := by
  obtain ⟨n, d, h1, h2⟩ := l
  obtain ⟨b, h3, h4, _⟩ := h.cell n d h1
  rw [h2] at h3
  cases h3
  exact h4
/-- H and R are changed away from the live things -/
theorem ok_mv {R' H' : Hp} (h : Ok K Γ w) (s : Same R' H') (rr : Same w.R R') (hl : ∀ a, Live w a → R' a = none ∧ H' a = w.H a) : Ok K Γ { w with R := R', H := H' } := by
  refine ⟨s, h.len, fun n d e => ?_, h.inj⟩
  obtain ⟨a, h1, h2, h3⟩ := h.cell n d e
  obtain ⟨q1, q2⟩ := hl a ⟨n, d, e, h1⟩
  exact ⟨a, h1, q1, at_mv (w' := { w with R := R', H := H' }) h3 (fun o ho => by show H' a = _; rw [q2]; exact ho) rr List.prefix_rfl⟩
/-- a new thing that never changes -/
def wFrz (w : Wd) (p : Addr) (o : HO) : Wd := { w with R := upd w.R p o, H := upd w.H p o }
theorem ok_frz {p : Addr} {o : HO} (h : Ok K Γ w) (hp : w.H p = none) : Ok K Γ (wFrz w p o) := by
  refine ok_mv h (fun b u e => ?_) (Same.new (r_none h hp)) fun a l => ?_
  · by_cases q : b = p
    · subst q; rw [upd_same] at e ⊢; exact e
    · rw [upd_ne q] at e ⊢; exact h.same _ _ e
  · have ne := live_ne h l hp
    exact ⟨by rw [upd_ne ne]; exact live_r h l, by rw [upd_ne ne]⟩
theorem ev_frz {p : Addr} {o : HO} (h : Ok K Γ w) (hp : w.H p = none) : Ev w (wFrz w p o) where
  rr := Same.new (r_none h hp)
  pre := List.prefix_rfl
  keep := fun a u e _ => by show upd w.H p o a = _; rw [upd_ne (ne_of_none e hp)]; exact e
  dom := fun a e => by
    by_cases q : a = p
    · subst q; exact hp
    · have e' : upd w.H p o a = none := e
      rw [upd_ne q] at e'; exact e'
  newR := fun a r e => by
    by_cases q : a = p
    · subst q; exact .inl hp
    · exact absurd (show upd w.R p o a = none by rw [upd_ne q]; exact e) r
  newL := fun a l => .inl l
/-- a new thing of one's own; one's own is changed -/
def wPut (w : Wd) (p : Addr) (o : HO) : Wd := { w with H := upd w.H p o }
theorem ok_put {p : Addr} {o : HO} (h : Ok K Γ w) (r : w.R p = none) (nl : ¬ Live w p) : Ok K Γ (wPut w p o) := by
  refine ok_mv h (fun b u e => ?_) (fun _ _ e => e) fun a l => ?_
  · rw [upd_ne (fun z => by rw [z, r] at e; cases e)]; exact h.same _ _ e
  · exact ⟨live_r h l, upd_ne fun z => nl (z ▸ l)⟩
theorem ev_put {p : Addr} {o : HO} (e0 : Ev w0 w) (hp : w0.H p = none) : Ev w0 (wPut w p o) where
  rr := e0.rr
  pre := e0.pre
  keep := fun a u e n => by show upd w.H p o a = _; rw [upd_ne (ne_of_none e hp)]; exact e0.keep a u e n
  dom := fun a e => by
    by_cases q : a = p
    · subst q; exact hp
    · have e' : upd w.H p o a = none := e
      rw [upd_ne q] at e'; exact e0.dom a e'
  newR := e0.newR
  newL := e0.newL
/-- one's own is never changed any more -/
def wFix (w : Wd) (p : Addr) (o : HO) : Wd := { w with R := upd w.R p o }
theorem ok_fix {p : Addr} {o : HO} (h : Ok K Γ w) (r : w.R p = none) (nl : ¬ Live w p) (ho : w.H p = some o) : Ok K Γ (wFix w p o) := by
  refine ok_mv h (fun b u e => ?_) (Same.new r) fun a l => ?_
  · by_cases q : b = p
    · subst q; rw [upd_same] at e; cases e; exact ho
    · rw [upd_ne q] at e; exact h.same _ _ e
  · have ne : a ≠ p := fun z => nl (z ▸ l)
    exact ⟨by rw [upd_ne ne]; exact live_r h l, rfl⟩
theorem ev_fix {p : Addr} {o : HO} (e0 : Ev w0 w) (r : w.R p = none) (hp : w0.H p = none) : Ev w0 (wFix w p o) where
  rr := e0.rr.trans (Same.new r)
  pre := e0.pre
  keep := e0.keep
  dom := e0.dom
  newR := fun a r e => by
    by_cases q : a = p
    · subst q; exact .inl hp
    · refine e0.newR a (fun z => r ?_) e
      show upd w.R p o a = none
      rw [upd_ne q]; exact z
  newL := e0.newL
/-- a thing of the store is changed -/
def wCel (w : Wd) (n : Nat) (a : Addr) (o : HO) (d : Option D) : Wd := { w with H := upd w.H a o, S := w.S.set n d }
theorem ok_cel {n : Nat} {a : Addr} {o : HO} {d d0 : D} (h : Ok K Γ w) (hn : w.S[n]? = some (some d0)) (ha : w.ρ[n]? = some a) (at_ : At K Γ (wCel w n a o (some d)) d a) : Ok K Γ (wCel w n a o (some d)) := by
  have ra := live_r h ⟨n, d0, hn, ha⟩
  have get : ∀ (m : Nat) (e : D), (w.S.set n (some d))[m]? = some (some e) → (m = n ∧ e = d) ∨ (m ≠ n ∧ w.S[m]? = some (some e)) := fun m e q => by
    rw [List.getElem?_set] at q
    by_cases z : n = m
    · rw [if_pos z] at q; split at q <;> cases q; exact .inl ⟨z.symm, rfl⟩
    · rw [if_neg z] at q; exact .inr ⟨fun y => z y.symm, q⟩
  have ex : ∀ m e, (w.S.set n (some d))[m]? = some (some e) → ∃ e', w.S[m]? = some (some e') := fun m e q => by
    rcases get m e q with ⟨rfl, _⟩ | ⟨_, q⟩
    · exact ⟨_, hn⟩
    · exact ⟨_, q⟩
  refine ⟨fun b u e => ?_, by show (w.S.set n _).length = _; rw [List.length_set]; exact h.len, fun m e q => ?_, fun m k e f b q1 q2 q3 q4 => ?_⟩
  · show upd w.H a o b = _
    have ne : b ≠ a := fun z => by
      have e' : w.R b = some u := e
      rw [z, ra] at e'; cases e'
    rw [upd_ne ne]; exact h.same _ _ e
  · rcases get m e q with ⟨rfl, rfl⟩ | ⟨ne, q⟩
    · exact ⟨a, ha, ra, at_⟩
    · obtain ⟨b, h1, h2, h3⟩ := h.cell m e q
      have nb : b ≠ a := fun z => ne (h.inj m n e d0 a q hn (z ▸ h1) ha)
      exact ⟨b, h1, h2, at_mv (w' := wCel w n a o (some d)) h3 (fun u hu => by show upd w.H a o b = _; rw [upd_ne nb]; exact hu) (fun _ _ e => e) List.prefix_rfl⟩
  · obtain ⟨e', h1⟩ := ex m e q1
    obtain ⟨f', h2⟩ := ex k f q2
    exact h.inj m k e' f' b h1 h2 q3 q4
theorem live_cel {n : Nat} {a b : Addr} {o : HO} {d : Option D} {d0 : D} (hn : w.S[n]? = some (some d0)) (ha : w.ρ[n]? = some a) (l : Live (wCel w n a o d) b) : Live w b := by
  obtain ⟨m, e, h1, h2⟩ := l
  have h1' : (w.S.set n d)[m]? = some (some e) := h1
  rw [List.getElem?_set] at h1'
  by_cases z : n = m
  · subst z; exact ⟨n, d0, hn, h2⟩
  · rw [if_neg z] at h1'; exact ⟨m, e, h1', h2⟩
theorem ev_cel {n : Nat} {a : Addr} {o : HO} {d : Option D} {d0 : D} (h : Ok K Γ w) (hn : w.S[n]? = some (some d0)) (ha : w.ρ[n]? = some a) : Ev w (wCel w n a o d) where
  rr := fun _ _ e => e
  pre := List.prefix_rfl
  keep := fun b u e nl => by
    show upd w.H a o b = _
    have ne : b ≠ a := fun z => nl (z.symm ▸ ⟨n, d0, hn, ha⟩)
    rw [upd_ne ne]; exact e
  dom := fun b e => by
    by_cases q : b = a
    · have e' : upd w.H a o b = none := e
      rw [q, upd_same] at e'; cases e'
    · have e' : upd w.H a o b = none := e
      rw [upd_ne q] at e'; exact e'
  newR := fun b r e => absurd e r
  newL := fun b l => .inl (live_cel hn ha l)
/-- one's own goes into the store -/
def wAdd (w : Wd) (a : Addr) (d : D) : Wd := { w with ρ := w.ρ ++ [a], S := w.S ++ [some d] }
theorem ok_add {a : Addr} {d : D} (h : Ok K Γ w) (r : w.R a = none) (nl : ¬ Live w a) (at_ : At K Γ w d a) : Ok K Γ (wAdd w a d) := by
  have get : ∀ (m : Nat) (e : D) (b : Addr), (w.S ++ [some d])[m]? = some (some e) → (w.ρ ++ [a])[m]? = some b → (m = w.S.length ∧ e = d ∧ b = a) ∨ (m < w.S.length ∧ w.S[m]? = some (some e) ∧ w.ρ[m]? = some b) := fun m e b q1 q2 => by
    rcases Nat.lt_trichotomy m w.S.length with z | z | z
    · refine .inr ⟨z, ?_, ?_⟩
      · rwa [List.getElem?_append_left z] at q1
      · rwa [List.getElem?_append_left (by rw [← h.len]; exact z)] at q2
    · refine .inl ⟨z, ?_, ?_⟩
      · subst z; simp at q1; exact q1.symm
      · subst z; rw [h.len] at q2; simp at q2; exact q2.symm
    · rw [List.getElem?_eq_none_iff.mpr (by simp; omega)] at q1; cases q1
  have pp : w.ρ <+: w.ρ ++ [a] := List.prefix_append _ _
  refine ⟨h.same, by simp [wAdd, h.len], fun m e q => ?_, fun m k e f b q1 q2 q3 q4 => ?_⟩
  · have hm : m < w.ρ.length + 1 := by
      have := (List.getElem?_eq_some_iff.mp q).1
      simp [wAdd, h.len] at this; exact this
    obtain ⟨b, hb⟩ : ∃ b, (w.ρ ++ [a])[m]? = some b := ⟨_, List.getElem?_eq_getElem (by simpa using hm)⟩
    rcases get m e b q hb with ⟨_, rfl, rfl⟩ | ⟨_, q1, q2⟩
    · exact ⟨b, hb, r, at_mv (w' := wAdd w b e) at_ (fun _ z => z) (fun _ _ z => z) pp⟩
    · obtain ⟨b', h1, h2, h3⟩ := h.cell m e q1
      rw [q2] at h1
      cases h1
      exact ⟨b, hb, h2, at_mv (w' := wAdd w a d) h3 (fun _ z => z) (fun _ _ z => z) pp⟩
  · rcases get m e b q1 q3 with ⟨z1, _, z2⟩ | ⟨z1, z2, z3⟩ <;> rcases get k f b q2 q4 with ⟨y1, _, y2⟩ | ⟨y1, y2, y3⟩
    · rw [z1, y1]
    · exact absurd ⟨k, f, y2, z2 ▸ y3⟩ nl
    · exact absurd ⟨m, e, z2, y2 ▸ z3⟩ nl
    · exact h.inj m k e f b z2 y2 z3 y3
theorem ev_add {a : Addr} {d : D} (h : Ok K Γ w) (e0 : Ev w0 w) (new : w0.H a = none) : Ev w0 (wAdd w a d) where
  rr := e0.rr
  pre := e0.pre.trans (List.prefix_append _ _)
  keep := e0.keep
  dom := e0.dom
  newR := e0.newR
  newL := fun b l => by
    obtain ⟨m, e, h1, h2⟩ := l
    have h1' : (w.S ++ [some d])[m]? = some (some e) := h1
    have h2' : (w.ρ ++ [a])[m]? = some b := h2
    rcases Nat.lt_or_ge m w.S.length with z | z
    · rw [List.getElem?_append_left z] at h1'
      rw [List.getElem?_append_left (by rw [← h.len]; exact z)] at h2'
      exact e0.newL b ⟨m, e, h1', h2'⟩
    · have : m = w.S.length := by
        have := (List.getElem?_eq_some_iff.mp h1').1
        simp at this; omega
      rw [this, h.len] at h2'
      simp at h2'
      subst h2'
      exact .inr new
end
/-- nothing that stands is lost -/
structure Gr (w w' : Wd) : Prop where
  rr : Same w.R w'.R
  pre : w.ρ <+: w'.ρ
theorem Gr.refl (w : Wd) : Gr w w := ⟨fun _ _ e => e, List.prefix_rfl⟩
theorem Gr.trans {w w' w'' : Wd} (h : Gr w w') (g : Gr w' w'') : Gr w w'' := ⟨h.rr.trans g.rr, h.pre.trans g.pre⟩
theorem Ev.gr {w w' : Wd} (h : Ev w w') : Gr w w' := ⟨h.rr, h.pre⟩
theorem Rep.gr {K : PySem.W.Frag} {Γ : Gm} {w w' : Wd} {d : D} {v : V} (h : Rep K Γ w d v) (e : Gr w w') : Rep K Γ w' d v := repC_mono e.rr e.pre d v h
theorem Reps.gr {K : PySem.W.Frag} {Γ : Gm} {w w' : Wd} {d : List D} {v : List V} (h : Reps K Γ w d v) (e : Gr w w') : Reps K Γ w' d v := repsC_mono e.rr e.pre d v h
inductive Out (α : Type) where
  | ok (a : α) (S : Sto) | ex (c : Nat) (ns : List Str) (ds : List D) (S : Sto) | bad
def bnd {α β : Type} (o : Out α) (f : α → Sto → Out β) : Out β := match o with
  | .ok a S => f a S
  | .ex c ns ds S => .ex c ns ds S
  | .bad => .bad
/-- an error must not come -/
def noX {α : Type} (o : Out α) : Out α := match o with
  | .ok a S => .ok a S
  | _ => .bad
abbrev XP := Wd → Nat → List Str → List D → Prop
section
variable (K : PySem.W.Frag) (Γ : Gm)
def Post {α : Type} (o : Out α) (w : Wd) (ok : α → Wd → Prop) (ex : XP) : Prop := match o with
  | .ok a S => ∀ w', w'.S = S → Ok K Γ w' → Ev w w' → ok a w'
  | .ex c ns ds S => ∀ w', w'.S = S → Ok K Γ w' → Ev w w' → ex w' c ns ds
  | .bad => False
def XW (W : WX) (σ : L2.St) : XP := fun w c ns ds => ∀ d, XD K Γ w d ns ds → W (.ref (Γ c)) d σ w.H
/-- v may be read as d now: it never changes, or it is one's own -/
def Pk (w : Wd) (d : D) (v : V) : Prop := Rep K Γ w d v ∨ ∃ w0 a, v = .ref a ∧ OwnAt K Γ w0 w d a
end
section
variable {K : PySem.W.Frag} {Γ : Gm} {w w' w0 : Wd}
theorem Post.ev {α : Type} {o : Out α} {ok : α → Wd → Prop} {ex : XP} (h : Post K Γ o w ok ex) (e : Ev w w') : Post K Γ o w' ok ex := by
  cases o with
  | ok a S => exact fun w1 hs ho he => h w1 hs ho (e.trans he)
  | ex c ns ds S => exact fun w1 hs ho he => h w1 hs ho (e.trans he)
  | bad => exact h
theorem Post.mono {α : Type} {o : Out α} {ok ok' : α → Wd → Prop} {ex ex' : XP} (h : Post K Γ o w ok ex) (f : ∀ a w', Ok K Γ w' → Ev w w' → ok a w' → ok' a w') (g : ∀ w' c ns ds, Ok K Γ w' → Ev w w' → ex w' c ns ds → ex' w' c ns ds) : Post K Γ o w ok' ex' := by
  cases o with
  | ok a S => exact fun w1 hs ho he => f a w1 ho he (h w1 hs ho he)
  | ex c ns ds S => exact fun w1 hs ho he => g w1 c ns ds ho he (h w1 hs ho he)
  | bad => exact h
theorem Post.then {α β : Type} {o : Out α} {f : α → Sto → Out β} {ok : β → Wd → Prop} {ok' : α → Wd → Prop} {ex : XP} (h : Post K Γ (bnd o f) w ok ex) (g : ∀ a w', Ok K Γ w' → Ev w w' → Post K Γ (f a w'.S) w' ok ex → ok' a w') : Post K Γ o w ok' ex := by
  cases o with
  | ok a S => exact fun w1 hs ho he => g a w1 ho he (by subst hs; exact Post.ev h he)
  | ex c ns ds S => exact h
  | bad => exact h
theorem Post.now {α : Type} {a : α} {ok : α → Wd → Prop} {ex : XP} (h : Post K Γ (.ok a w.S) w ok ex) (o : Ok K Γ w) : ok a w := h w rfl o (Ev.refl w)
theorem Post.at {α : Type} {a : α} {S : Sto} {ok : α → Wd → Prop} {ex : XP} (h : Post K Γ (.ok a S) w ok ex) (hs : w'.S = S) (o : Ok K Γ w') (e : Ev w w') : ok a w' := h w' hs o e
theorem Post.noX {α : Type} {o : Out α} {ok : α → Wd → Prop} {ex ex' : XP} (h : Post K Γ (MR.noX o) w ok ex) : Post K Γ o w ok ex' := by
  cases o with
  | ok a S => exact h
  | ex c ns ds S => exact False.elim h
  | bad => exact False.elim h
theorem Pk.ev {d : D} {v : V} (h : Pk K Γ w d v) (e : Ev w w') : Pk K Γ w' d v := by
  rcases h with h | ⟨w0, a, h1, h2⟩
  · exact .inl (Rep.ev h e)
  · exact .inr ⟨w0, a, h1, h2.ev e⟩
end
abbrev ME := Env → Sto → Out D
abbrev MA := Env → Sto → Out (List D)
abbrev MT := Env → Sto → Out Bool
inductive Fl where
  | nx (δ : Env) | rt (d : D) | bk (δ : Env) | ct (δ : Env) | ex (c : Nat) (ns : List Str) (ds : List D) (δ : Env)
abbrev MS := Env → Sto → Out Fl
abbrev MG := D → Env → Option Env
abbrev MGs := List D → Env → Option Env
section
variable (K : PySem.W.Frag) (Γ : Gm) (xa : XT)
structure SimE (W : WX) (te : TE) (me : ME) : Prop where
  run : ∀ (w0 w : Wd) (σ : L2.St) (δ : Env) (Q : VK), Ok K Γ w → Ev w0 w → EnvOk K Γ xa w0 w σ δ → Post K Γ (me δ w.S) w (fun d w' => ∀ v, Rep K Γ w' d v → Q v w'.H) (XW K Γ W σ) → te σ w.H Q
/-- only read -/
structure SimP (W : WX) (te : TE) (me : ME) : Prop where
  run : ∀ (w0 w : Wd) (σ : L2.St) (δ : Env) (Q : VK), Ok K Γ w → Ev w0 w → EnvOk K Γ xa w0 w σ δ → Post K Γ (me δ w.S) w (fun d w' => ∀ v, Pk K Γ w' d v → Q v w'.H) (XW K Γ W σ) → te σ w.H Q
/-- a new thing of one's own -/
structure SimF (W : WX) (te : TE) (me : ME) : Prop where
  run : ∀ (w0 w : Wd) (σ : L2.St) (δ : Env) (Q : VK), Ok K Γ w → Ev w0 w → EnvOk K Γ xa w0 w σ δ → Post K Γ (me δ w.S) w (fun d w' => ∀ a, OwnAt K Γ w w' d a → Q (.ref a) w'.H) (XW K Γ W σ) → te σ w.H Q
structure SimT (W : WX) (tt : TT) (mt : MT) : Prop where
  run : ∀ (w0 w : Wd) (σ : L2.St) (δ : Env) (Q : Bool → Hp → Prop), Ok K Γ w → Ev w0 w → EnvOk K Γ xa w0 w σ δ → Post K Γ (mt δ w.S) w (fun b w' => Q b w'.H) (XW K Γ W σ) → tt σ w.H Q
structure SimA (W : WX) (n : Nat) (ta : TA) (ma : MA) : Prop where
  len : ∀ (δ : Env) (S : Sto) (ds : List D) (S' : Sto), ma δ S = .ok ds S' → ds.length = n
  run : ∀ (w0 w : Wd) (σ : L2.St) (δ : Env) (Q : List V → Hp → Prop), Ok K Γ w → Ev w0 w → EnvOk K Γ xa w0 w σ δ → Post K Γ (ma δ w.S) w (fun ds w' => ∀ vs, Reps K Γ w' ds vs → Q vs w'.H) (XW K Γ W σ) → ta σ w.H Q
inductive Pks (w : Wd) : List D → List V → Prop
  | nil : Pks w [] []
  | cons {d : D} {v : V} {ds : List D} {vs : List V} (h : Pk K Γ w d v) (t : Pks w ds vs) : Pks w (d :: ds) (v :: vs)
structure SimPA (W : WX) (ta : TA) (ma : MA) : Prop where
  run : ∀ (w0 w : Wd) (σ : L2.St) (δ : Env) (Q : List V → Hp → Prop), Ok K Γ w → Ev w0 w → EnvOk K Γ xa w0 w σ δ → Post K Γ (ma δ w.S) w (fun ds w' => ∀ vs, Pks K Γ w' ds vs → Q vs w'.H) (XW K Γ W σ) → ta σ w.H Q
def PostS (W : WX) (o : Out Fl) (w0 w : Wd) (Dn : Ends) : Prop := match o with
  | .ok (.nx δ) S => ∀ w' σ, w'.S = S → Ok K Γ w' → Ev w0 w' → Gr w w' → EnvOk K Γ xa w0 w' σ δ → Dn.nx σ w'.H
  | .ok (.rt d) S => ∀ w' v, w'.S = S → Ok K Γ w' → Ev w0 w' → Gr w w' → Rep K Γ w' d v → Dn.rt v w'.H
  | .ok (.bk δ) S => ∀ w' σ, w'.S = S → Ok K Γ w' → Ev w0 w' → Gr w w' → EnvOk K Γ xa w0 w' σ δ → Dn.bk σ w'.H
  | .ok (.ct δ) S => ∀ w' σ, w'.S = S → Ok K Γ w' → Ev w0 w' → Gr w w' → EnvOk K Γ xa w0 w' σ δ → Dn.ct σ w'.H
  | .ok (.ex c ns ds δ) S => ∀ w' σ, w'.S = S → Ok K Γ w' → Ev w0 w' → Gr w w' → EnvOk K Γ xa w0 w' σ δ → XW K Γ W σ w' c ns ds
  | .ex _ _ _ _ => False
  | .bad => False
structure SimS (W : WX) (ts : TS) (ms : MS) : Prop where
  run : ∀ (w0 w : Wd) (σ : L2.St) (δ : Env) (Dn : Ends), Ok K Γ w → Ev w0 w → EnvOk K Γ xa w0 w σ δ → PostS K Γ xa W (ms δ w.S) w0 w Dn → ts Dn σ w.H
/-- a target of names takes a value; it sets the slots vs alone -/
structure SimN (vs : List Nat) (tg : TG) (mg : D → Env → Option Env) : Prop where
  run : ∀ (w0 w : Wd) (σ : L2.St) (δ : Env) (d : D) (v : V) (Q : L2.St → Hp → Prop), Ok K Γ w → EnvOk K Γ xa w0 w σ δ → Rep K Γ w d v →
    (match mg d δ with | some δ' => ∀ σ', EnvOk K Γ xa w0 w σ' δ' → σ'.length = σ.length → (∀ i, i ∉ vs → σ'[i]? = σ[i]?) → Q σ' w.H | none => False) → tg v σ w.H Q
structure SimNs (vs : List Nat) (tg : TGs) (mg : List D → Env → Option Env) : Prop where
  run : ∀ (w0 w : Wd) (σ : L2.St) (δ : Env) (d : List D) (v : List V) (Q : L2.St → Hp → Prop), Ok K Γ w → EnvOk K Γ xa w0 w σ δ → Reps K Γ w d v →
    (match mg d δ with | some δ' => ∀ σ', EnvOk K Γ xa w0 w σ' δ' → σ'.length = σ.length → (∀ i, i ∉ vs → σ'[i]? = σ[i]?) → Q σ' w.H | none => False) → tg v σ w.H Q
end
end MR

namespace MR
open PySem PySem.Spec PyProof.Rows L2 TP
section
variable {K : PySem.W.Frag} {Γ : Gm} {xa : XT} {W : WX} {te ta tb : TE} {me ma mb : ME} {w w' w0 : Wd}
theorem SimE.p (h : SimE K Γ xa W te me) : SimP K Γ xa W te me := ⟨fun w0 w σ δ Q o e n p => h.run w0 w σ δ Q o e n (p.mono (fun d w' _ _ q v r => q v (.inl r)) fun _ _ _ _ _ _ x => x)⟩
theorem own_rep {d : D} {a : Addr} (o : Ok K Γ w') (e : Ev w w') (h : OwnAt K Γ w w' d a) : ∃ w2, w2.S = w'.S ∧ w2.H = w'.H ∧ Ok K Γ w2 ∧ Ev w w2 ∧ Gr w' w2 ∧ Rep K Γ w2 d (.ref a) ∧ w2.ρ = w'.ρ ∧ ∀ b, b ≠ a → w2.R b = w'.R b := by
  have at_ := h.at_
  have fin : ∀ {u : HO}, w'.H a = some u → Ok K Γ (wFix w' a u) ∧ Ev w (wFix w' a u) ∧ Gr w' (wFix w' a u) := fun {u} hu =>
    ⟨ok_fix o h.r h.nl hu, ev_fix e h.r h.new, ⟨Same.new h.r, List.prefix_rfl⟩⟩
  cases d with
  | lst ds =>
    obtain ⟨vs, h1, h2, h3⟩ := at_
    obtain ⟨o2, e2, g2⟩ := fin h1
    refine ⟨wFix w' a (.lst vs), rfl, rfl, o2, e2, g2, ?_, rfl, fun b nb => upd_ne nb⟩
    simp only [Rep, RepC]
    exact ⟨a, vs, rfl, upd_same, h2, Reps.gr h3 g2⟩
  | dic ks ds =>
    obtain ⟨vs, h1, h2, h3⟩ := at_
    obtain ⟨o2, e2, g2⟩ := fin h1
    refine ⟨wFix w' a (.dK (ks.zip vs)), rfl, rfl, o2, e2, g2, ?_, rfl, fun b nb => upd_ne nb⟩
    simp only [Rep, RepC]
    exact ⟨a, vs, rfl, .inl upd_same, h2, Reps.gr h3 g2⟩
  | obj c ns ds =>
    obtain ⟨dx, vs, h1, h2, h3⟩ := at_
    obtain ⟨o2, e2, g2⟩ := fin h1
    refine ⟨wFix w' a (.ins (Γ c) dx (ns.zip vs)), rfl, rfl, o2, e2, g2, ?_, rfl, fun b nb => upd_ne nb⟩
    simp only [Rep, RepC]
    exact ⟨a, dx, vs, rfl, upd_same, h2, Reps.gr h3 g2⟩
  | ndc ks ds =>
    obtain ⟨L, h1, h2, h3, h4, h5⟩ := at_
    obtain ⟨o2, e2, g2⟩ := fin h1
    refine ⟨wFix w' a (NdO Γ.wd a L), rfl, rfl, o2, e2, g2, ?_, rfl, fun b nb => upd_ne nb⟩
    simp only [Rep, RepC]
    exact ⟨a, L, rfl, upd_same, h2, Reps.gr h3 g2, Reps.gr h4 g2, h5⟩
  | _ => exact False.elim at_
theorem SimF.e (h : SimF K Γ xa W te me) : SimE K Γ xa W te me := ⟨fun w0 w σ δ Q o e n p => h.run w0 w σ δ Q o e n (by
  cases z : me δ w.S with
  | bad => rw [z] at p; exact p
  | ex c ns ds S => rw [z] at p; exact p
  | ok d S =>
    rw [z] at p
    intro w1 hs o1 e1 a oa
    obtain ⟨w2, s2, hh, o2, e2, _, r2, _⟩ := own_rep o1 e1 oa
    have := p w2 (s2.trans hs) o2 e2 _ r2
    rw [hh] at this
    exact this)⟩
theorem SimF.p (h : SimF K Γ xa W te me) : SimP K Γ xa W te me := h.e.p
def mC (d : D) : ME := fun _ S => .ok d S
theorem sim_c {d : D} {v : V} (h : ∀ w, Rep K Γ w d v) : SimE K Γ xa W (tC v) (mC d) := ⟨fun w0 w σ δ Q o e n p => Post.now p o _ (h w)⟩
theorem sim_non : SimE K Γ xa W (tC .non) (mC .non) := sim_c fun _ => rfl
theorem sim_bl {b : Bool} : SimE K Γ xa W (tC (.bl b)) (mC (.bl b)) := sim_c fun _ => rfl
theorem sim_int {i : Int} : SimE K Γ xa W (tC (.int i)) (mC (.int i)) := sim_c fun _ => rfl
theorem sim_str {x : Str} : SimE K Γ xa W (tC (.str x)) (mC (.str x)) := sim_c fun _ => rfl
theorem sim_ty {n : String} : SimE K Γ xa W (tC (.ty n)) (mC (.ty n)) := sim_c fun _ => rfl
def mVar (i : Nat) : ME := fun δ S => match δ[i]? with
  | some (.val d) => .ok d S
  | _ => .bad
theorem sim_var {i : Nat} : SimE K Γ xa W (tVar i) (mVar i) := ⟨fun w0 w σ δ Q o e n p => by
  unfold mVar at p
  split at p
  · rename_i d hd
    obtain ⟨v, h1, h2⟩ := n.val hd
    exact ⟨v, h1, Post.now p o v h2⟩
  · exact False.elim p⟩
def mPeek (i : Nat) : ME := fun δ S => match δ[i]? with
  | some (.val d) => .ok d S
  | some (.own _ d) => .ok d S
  | _ => .bad
theorem sim_peek {i : Nat} : SimP K Γ xa W (tVar i) (mPeek i) := ⟨fun w0 w σ δ Q o e n p => by
  unfold mPeek at p
  split at p
  · rename_i d hd
    obtain ⟨v, h1, h2⟩ := n.val hd
    exact ⟨v, h1, Post.now p o v (.inl h2)⟩
  · rename_i b d hd
    obtain ⟨a, h1, h2⟩ := n.own hd
    exact ⟨_, h1, Post.now p o _ (.inr ⟨w0, a, rfl, h2⟩)⟩
  · exact False.elim p⟩
structure OpM (K : PySem.W.Frag) (Γ : Gm) (r : R2) (op : D → D → Sto → Out D) : Prop where
  run : ∀ (w : Wd) (d e : D) (x y : V) (Q : VK) (ex : XP), Ok K Γ w → Pk K Γ w d x → Pk K Γ w e y → Post K Γ (op d e w.S) w (fun z w' => ∀ v, Rep K Γ w' z v → Q v w'.H) ex → r x y w.H Q
def mOp (op : D → D → Sto → Out D) (ma mb : ME) : ME := fun δ S => bnd (ma δ S) fun x S => bnd (mb δ S) fun y S => op x y S
theorem sim_op {r : R2} {op : D → D → Sto → Out D} (ho : OpM K Γ r op) (ha : SimP K Γ xa W ta ma) (hb : SimP K Γ xa W tb mb) : SimE K Γ xa W (tOp r ta tb) (mOp op ma mb) := ⟨fun w0 w σ δ Q o e n p =>
  ha.run w0 w σ δ _ o e n (p.then fun x w1 o1 e1 p1 v r1 => hb.run w0 w1 σ δ _ o1 (e.trans e1) (n.ev e1) (p1.then fun y w2 o2 e2 p2 u r2 => ho.run w2 _ _ _ _ _ _ o2 (r1.ev e2) r2 p2))⟩
/-- .. whose result is a new thing of one's own -/
structure OpF (K : PySem.W.Frag) (Γ : Gm) (r : R2) (op : D → D → Sto → Out D) : Prop where
  run : ∀ (w : Wd) (d e : D) (x y : V) (Q : VK) (ex : XP), Ok K Γ w → Pk K Γ w d x → Pk K Γ w e y → Post K Γ (op d e w.S) w (fun z w' => ∀ a, OwnAt K Γ w w' z a → Q (.ref a) w'.H) ex → r x y w.H Q
theorem own_back {w1 : Wd} {d : D} {a : Addr} (e : Ev w w1) (h : OwnAt K Γ w1 w' d a) : OwnAt K Γ w w' d a := ⟨e.dom a h.new, h.r, h.nl, h.at_⟩
theorem sim_opF {r : R2} {op : D → D → Sto → Out D} (ho : OpF K Γ r op) (ha : SimP K Γ xa W ta ma) (hb : SimP K Γ xa W tb mb) : SimF K Γ xa W (tOp r ta tb) (mOp op ma mb) := ⟨fun w0 w σ δ Q o e n p =>
  ha.run w0 w σ δ _ o e n (p.then fun x w1 o1 e1 p1 v r1 => hb.run w0 w1 σ δ _ o1 (e.trans e1) (n.ev e1) (p1.then fun y w2 o2 e2 p2 u r2 => ho.run w2 _ _ _ _ _ _ o2 (r1.ev e2) r2 (p2.mono (fun z w3 _ _ q a oa => q a (own_back (e1.trans e2) oa)) fun _ _ _ _ _ _ x => x)))⟩
structure UnM (K : PySem.W.Frag) (Γ : Gm) (r : V → Hp → VK → Prop) (op : D → Sto → Out D) : Prop where
  run : ∀ (w : Wd) (d : D) (x : V) (Q : VK) (ex : XP), Ok K Γ w → Pk K Γ w d x → Post K Γ (op d w.S) w (fun z w' => ∀ v, Rep K Γ w' z v → Q v w'.H) ex → r x w.H Q
def mUn (op : D → Sto → Out D) (ma : ME) : ME := fun δ S => bnd (ma δ S) op
theorem sim_un {r : V → Hp → VK → Prop} {op : D → Sto → Out D} (ho : UnM K Γ r op) (ha : SimP K Γ xa W ta ma) : SimE K Γ xa W (tUn r ta) (mUn op ma) := ⟨fun w0 w σ δ Q o e n p =>
  ha.run w0 w σ δ _ o e n (p.then fun x w1 o1 e1 p1 v r1 => ho.run w1 _ _ _ _ o1 r1 p1)⟩
def mTest (me : ME) : MT := fun δ S => bnd (me δ S) fun d S => match d with
  | .bl b => .ok b S
  | _ => .bad
theorem rep_bl {b : Bool} {v : V} (h : Rep K Γ w (.bl b) v) : v = .bl b := by simpa only [Rep, RepC] using h
theorem rep_int {i : Int} {v : V} (h : Rep K Γ w (.int i) v) : v = .int i := by simpa only [Rep, RepC] using h
theorem rep_str {x : Str} {v : V} (h : Rep K Γ w (.str x) v) : v = .str x := by simpa only [Rep, RepC] using h
theorem rep_non {v : V} (h : Rep K Γ w .non v) : v = .non := by simpa only [Rep, RepC] using h
theorem pk_bl {b : Bool} {v : V} (h : Pk K Γ w (.bl b) v) : v = .bl b := by
  rcases h with h | ⟨_, _, _, h⟩
  · exact rep_bl h
  · exact False.elim h.at_
theorem pk_int {i : Int} {v : V} (h : Pk K Γ w (.int i) v) : v = .int i := by
  rcases h with h | ⟨_, _, _, h⟩
  · exact rep_int h
  · exact False.elim h.at_
theorem pk_str {x : Str} {v : V} (h : Pk K Γ w (.str x) v) : v = .str x := by
  rcases h with h | ⟨_, _, _, h⟩
  · exact rep_str h
  · exact False.elim h.at_
theorem pk_non {v : V} (h : Pk K Γ w .non v) : v = .non := by
  rcases h with h | ⟨_, _, _, h⟩
  · exact rep_non h
  · exact False.elim h.at_
theorem sim_test (h : SimE K Γ xa W te me) : SimT K Γ xa W (tTest te) (mTest me) := ⟨fun w0 w σ δ Q o e n p =>
  h.run w0 w σ δ _ o e n (p.then fun d w1 o1 e1 p1 v r1 => by
    split at p1
    · exact ⟨_, rep_bl r1, Post.now p1 o1⟩
    · exact False.elim p1)⟩
theorem sim_B (h : SimE K Γ xa W te me) : SimT K Γ xa W (tB te) (mTest me) := ⟨fun w0 w σ δ Q o e n p =>
  h.run w0 w σ δ _ o e n (p.then fun d w1 o1 e1 p1 v r1 => by
    split at p1
    · exact ⟨_, rep_bl r1, Post.now p1 o1⟩
    · exact False.elim p1)⟩
/-- how a thing is read: its items -/
def listOf (S : Sto) (d : D) : Option (List D) := match d with
  | .lst ds => some ds
  | .scr is => some (is.map D.int)
  | .ref n => match S[n]? with
    | some (some (.lst ds)) => some ds
    | _ => none
  | _ => none
theorem reps_ints {ρ : List Addr} {R : Hp} : ∀ {is : List Int}, RepsC K Γ ρ R (is.map D.int) (is.map V.int)
  | [] => reps_nil
  | i :: is => reps_cons (by simp only [RepC]) reps_ints
theorem listOf_ok {d : D} {v : V} {ds : List D} (o : Ok K Γ w) (h : Pk K Γ w d v) (e : listOf w.S d = some ds) : ∃ a vs, v = .ref a ∧ SqL K w.H a vs ∧ vs.length ≤ sizeLine ∧ Reps K Γ w ds vs := by
  unfold listOf at e
  split at e
  · cases e
    rcases h with h | ⟨_, a, rfl, h⟩
    · simp only [Rep, RepC] at h
      obtain ⟨a, vs, h1, h2, h3, h4⟩ := h
      exact ⟨a, vs, h1, SqL.of (o.same _ _ h2), h3, h4⟩
    · obtain ⟨vs, h1, h2, h3⟩ := h.at_
      exact ⟨a, vs, rfl, SqL.of h1, h2, h3⟩
  · cases e
    rcases h with h | ⟨_, a, rfl, h⟩
    · simp only [Rep, RepC] at h
      obtain ⟨a, h1, h2, h3⟩ := h
      exact ⟨a, _, h1, sqL_mono o.same h2, by rw [List.length_map]; exact h3, reps_ints⟩
    · exact False.elim h.at_
  · split at e
    · rename_i n ds' q
      cases e
      rcases h with h | ⟨_, a, rfl, h⟩
      · simp only [Rep, RepC] at h
        obtain ⟨a, h1, h2⟩ := h
        obtain ⟨b, h3, _, vs, h4, h5, h6⟩ := o.cell _ _ q
        rw [h1] at h3
        cases h3
        exact ⟨a, vs, h2, SqL.of h4, h5, h6⟩
      · exact False.elim h.at_
    · cases e
  · cases e
def tupOf (d : D) : Option (List D) := match d with
  | .tup ds => some ds
  | _ => none
theorem tupOf_ok {d : D} {v : V} {ds : List D} (o : Ok K Γ w) (h : Pk K Γ w d v) (e : tupOf d = some ds) : ∃ a vs, v = .ref a ∧ SqT K w.H a vs ∧ vs.length ≤ sizeLine ∧ Reps K Γ w ds vs := by
  unfold tupOf at e
  split at e
  · cases e
    rcases h with h | ⟨_, a, rfl, h⟩
    · simp only [Rep, RepC] at h
      obtain ⟨a, vs, h1, h2, h3, h4⟩ := h
      exact ⟨a, vs, h1, sqT_mono o.same h2, h3, h4⟩
    · exact False.elim h.at_
  · cases e
def dicOf (S : Sto) (d : D) : Option (List Key × List D) := match d with
  | .dic ks ds => some (ks, ds)
  | .fdc ks ds => some (ks, ds)
  | .ref n => match S[n]? with
    | some (some (.dic ks ds)) => some (ks, ds)
    | _ => none
  | _ => none
def objOf (S : Sto) (d : D) : Option (Nat × List Str × List D) := match d with
  | .obj c ns ds => some (c, ns, ds)
  | .ref n => match S[n]? with
    | some (some (.obj c ns ds)) => some (c, ns, ds)
    | _ => none
  | _ => none
theorem objOf_ok {d : D} {v : V} {c : Nat} {ns : List Str} {ds : List D} (o : Ok K Γ w) (h : Pk K Γ w d v) (e : objOf w.S d = some (c, ns, ds)) : ∃ a dx vs, v = .ref a ∧ w.H a = some (.ins (Γ c) dx (ns.zip vs)) ∧ ns.length = vs.length ∧ Reps K Γ w ds vs := by
  unfold objOf at e
  split at e
  · cases e
    rcases h with h | ⟨_, a, rfl, h⟩
    · simp only [Rep, RepC] at h
      obtain ⟨a, dx, vs, h1, h2, h3, h4⟩ := h
      exact ⟨a, dx, vs, h1, o.same _ _ h2, h3, h4⟩
    · obtain ⟨dx, vs, h1, h2, h3⟩ := h.at_
      exact ⟨a, dx, vs, rfl, h1, h2, h3⟩
  · split at e
    · rename_i n c' ns' ds' q
      cases e
      rcases h with h | ⟨_, a, rfl, h⟩
      · simp only [Rep, RepC] at h
        obtain ⟨a, h1, h2⟩ := h
        obtain ⟨b, h3, _, dx, vs, h4, h5, h6⟩ := o.cell _ _ q
        rw [h1] at h3
        cases h3
        exact ⟨a, dx, vs, h2, h4, h5, h6⟩
      · exact False.elim h.at_
    · cases e
  · cases e
def truD (S : Sto) (d : D) : Option Bool := match d with
  | .non => some false
  | .bl b => some b
  | .int i => some (i != 0)
  | d => match listOf S d with
    | some ds => some (!ds.isEmpty)
    | none => match tupOf d with
      | some ds => some (!ds.isEmpty)
      | none => none
theorem empty_reps {ds : List D} {vs : List V} (h : Reps K Γ w ds vs) : ds.isEmpty = vs.isEmpty := by
  have := reps_len h
  cases ds <;> cases vs <;> first | rfl | (simp at this)
theorem truD_ok {d : D} {v : V} {b : Bool} (o : Ok K Γ w) (h : Pk K Γ w d v) (e : truD w.S d = some b) : TruV K v w.H b := by
  unfold truD at e
  split at e
  · cases e; rw [pk_non h]; rfl
  · cases e; rw [pk_bl h]; rfl
  · cases e; rw [pk_int h]; rfl
  · split at e
    · rename_i ds q
      cases e
      obtain ⟨a, vs, rfl, h1, _, h2⟩ := listOf_ok o h q
      exact .inl ⟨vs, h1, by rw [empty_reps h2]⟩
    · split at e
      · rename_i ds q
        cases e
        obtain ⟨a, vs, rfl, h1, _, h2⟩ := tupOf_ok o h q
        exact .inr (.inl ⟨vs, h1, by rw [empty_reps h2]⟩)
      · cases e
def mTru (me : ME) : MT := fun δ S => bnd (me δ S) fun d S => match truD S d with
  | some b => .ok b S
  | none => .bad
theorem sim_tru (h : SimP K Γ xa W te me) : SimT K Γ xa W (tTru K te) (mTru me) := ⟨fun w0 w σ δ Q o e n p =>
  h.run w0 w σ δ _ o e n (p.then fun d w1 o1 e1 p1 v r1 => by
    split at p1
    · rename_i b q
      exact ⟨b, truD_ok o1 r1 q, Post.now p1 o1⟩
    · exact False.elim p1)⟩
variable {t u : TT} {mt mu : MT}
def mYes : MT := fun _ S => .ok true S
theorem sim_yes : SimT K Γ xa W tYes mYes := ⟨fun w0 w σ δ Q o e n p => Post.now p o⟩
def mAnd (mt mu : MT) : MT := fun δ S => bnd (mt δ S) fun b S => if b then mu δ S else .ok false S
theorem sim_and (h : SimT K Γ xa W t mt) (g : SimT K Γ xa W u mu) : SimT K Γ xa W (tAnd t u) (mAnd mt mu) := ⟨fun w0 w σ δ Q o e n p =>
  h.run w0 w σ δ _ o e n (p.then fun b w1 o1 e1 p1 => by
    cases b
    · rw [if_neg (by simp)]; exact Post.now p1 o1
    · rw [if_pos rfl]; exact g.run w0 w1 σ δ _ o1 (e.trans e1) (n.ev e1) p1)⟩
def mOr (mt mu : MT) : MT := fun δ S => bnd (mt δ S) fun b S => if b then .ok true S else mu δ S
theorem sim_or (h : SimT K Γ xa W t mt) (g : SimT K Γ xa W u mu) : SimT K Γ xa W (tOr t u) (mOr mt mu) := ⟨fun w0 w σ δ Q o e n p =>
  h.run w0 w σ δ _ o e n (p.then fun b w1 o1 e1 p1 => by
    cases b
    · rw [if_neg (by simp)]; exact g.run w0 w1 σ δ _ o1 (e.trans e1) (n.ev e1) p1
    · rw [if_pos rfl]; exact Post.now p1 o1)⟩
def mNot (mt : MT) : MT := fun δ S => bnd (mt δ S) fun b S => .ok (!b) S
theorem sim_not (h : SimT K Γ xa W t mt) : SimT K Γ xa W (tNot t) (mNot mt) := ⟨fun w0 w σ δ Q o e n p =>
  h.run w0 w σ δ _ o e n (p.then fun b w1 o1 e1 p1 => Post.now p1 o1)⟩
def mAndV (ma mb : ME) : ME := fun δ S => bnd (ma δ S) fun d S => match d with
  | .bl b => if b then mb δ S else .ok (.bl false) S
  | _ => .bad
theorem sim_andV (h : SimE K Γ xa W ta ma) (g : SimE K Γ xa W tb mb) : SimE K Γ xa W (tAndV ta tb) (mAndV ma mb) := ⟨fun w0 w σ δ Q o e n p =>
  h.run w0 w σ δ _ o e n (p.then fun d w1 o1 e1 p1 v r1 => by
    split at p1
    · rename_i b
      refine ⟨b, rep_bl r1, ?_⟩
      cases b
      · rw [if_neg (by simp)]; exact Post.now p1 o1 _ rfl
      · rw [if_pos rfl]; exact g.run w0 w1 σ δ _ o1 (e.trans e1) (n.ev e1) p1
    · exact False.elim p1)⟩
def mOrV (ma mb : ME) : ME := fun δ S => bnd (ma δ S) fun d S => match d with
  | .bl b => if b then .ok (.bl true) S else mb δ S
  | _ => .bad
def mNotV (ma : ME) : ME := fun δ S => bnd (ma δ S) fun d S => match d with
  | .bl b => .ok (.bl (!b)) S
  | _ => .bad
theorem sim_notV (h : SimE K Γ xa W ta ma) : SimE K Γ xa W (tNotV ta) (mNotV ma) := ⟨fun w0 w σ δ Q o e n p =>
  h.run w0 w σ δ _ o e n (p.then fun d w1 o1 e1 p1 v r1 => by
    split at p1
    · rename_i b
      exact ⟨b, rep_bl r1, Post.now p1 o1 _ rfl⟩
    · exact False.elim p1)⟩
def mIf (mt : MT) (ma mb : ME) : ME := fun δ S => bnd (mt δ S) fun b S => if b then ma δ S else mb δ S
theorem sim_if (h : SimT K Γ xa W t mt) (f : SimE K Γ xa W ta ma) (g : SimE K Γ xa W tb mb) : SimE K Γ xa W (tIf t ta tb) (mIf mt ma mb) := ⟨fun w0 w σ δ Q o e n p =>
  h.run w0 w σ δ _ o e n (p.then fun b w1 o1 e1 p1 => by
    cases b
    · rw [if_neg (by simp)]; exact g.run w0 w1 σ δ _ o1 (e.trans e1) (n.ev e1) p1
    · rw [if_pos rfl]; exact f.run w0 w1 σ δ _ o1 (e.trans e1) (n.ev e1) p1)⟩
theorem sim_ifF (h : SimT K Γ xa W t mt) (f : SimF K Γ xa W ta ma) (g : SimF K Γ xa W tb mb) : SimF K Γ xa W (tIf t ta tb) (mIf mt ma mb) := ⟨fun w0 w σ δ Q o e n p =>
  h.run w0 w σ δ _ o e n (p.then fun b w1 o1 e1 p1 => by
    cases b
    · rw [if_neg (by simp)]; exact g.run w0 w1 σ δ _ o1 (e.trans e1) (n.ev e1) (p1.mono (fun z w3 _ _ q a oa => q a (own_back e1 oa)) fun _ _ _ _ _ _ x => x)
    · rw [if_pos rfl]; exact f.run w0 w1 σ δ _ o1 (e.trans e1) (n.ev e1) (p1.mono (fun z w3 _ _ q a oa => q a (own_back e1 oa)) fun _ _ _ _ _ _ x => x))⟩
def mChain (op op' : D → D → Sto → Out D) (ma mb mc : ME) : ME := fun δ S => bnd (ma δ S) fun x S => bnd (mb δ S) fun y S => bnd (op x y S) fun z S => match z with
  | .bl k => if k then bnd (mc δ S) fun u S => op' y u S else .ok (.bl false) S
  | _ => .bad
theorem sim_chain {r r' : R2} {op op' : D → D → Sto → Out D} {tc : TE} {mc : ME} (ho : OpM K Γ r op) (ho' : OpM K Γ r' op') (ha : SimP K Γ xa W ta ma) (hb : SimP K Γ xa W tb mb) (hc : SimP K Γ xa W tc mc) : SimE K Γ xa W (tChain r r' ta tb tc) (mChain op op' ma mb mc) := ⟨fun w0 w σ δ Q o e n p =>
  ha.run w0 w σ δ _ o e n (p.then fun x w1 o1 e1 p1 v r1 => hb.run w0 w1 σ δ _ o1 (e.trans e1) (n.ev e1) (p1.then fun y w2 o2 e2 p2 u r2 => ho.run w2 _ _ _ _ _ _ o2 (r1.ev e2) r2 (p2.then fun z w3 o3 e3 p3 v3 r3 => by
    have e03 := (e1.trans e2).trans e3
    split at p3
    · rename_i k
      refine ⟨k, rep_bl r3, ?_⟩
      cases k
      · rw [if_neg (by simp)]; exact Post.now p3 o3 _ rfl
      · rw [if_pos rfl]
        exact hc.run w0 w3 σ δ _ o3 (e.trans e03) (n.ev e03) (p3.then fun u' w4 o4 e4 p4 v4 r4 => ho'.run w4 _ _ _ _ _ _ o4 (r2.ev (e3.trans e4)) r4 p4)
    · exact False.elim p3)))⟩
variable {tl : TA} {ml : MA} {n : Nat}
def mNil : MA := fun _ S => .ok [] S
def mCons (me : ME) (ml : MA) : MA := fun δ S => bnd (me δ S) fun x S => bnd (ml δ S) fun xs S => .ok (x :: xs) S
theorem bnd_ok {α β : Type} {o : Out α} {f : α → Sto → Out β} {b : β} {S : Sto} (h : bnd o f = .ok b S) : ∃ a S1, o = .ok a S1 ∧ f a S1 = .ok b S := by
  cases o with
  | ok a S1 => exact ⟨a, S1, rfl, h⟩
  | ex => cases h
  | bad => cases h
theorem sim_nil : SimA K Γ xa W 0 tNil mNil := ⟨fun δ S ds S' h => by cases h; rfl, fun w0 w σ δ Q o e n p => Post.now p o [] reps_nil⟩
theorem sim_cons (h : SimE K Γ xa W te me) (g : SimA K Γ xa W n tl ml) : SimA K Γ xa W (n + 1) (tCons te tl) (mCons me ml) := by
  refine ⟨fun δ S ds S' h => ?_, fun w0 w σ δ Q o e nn p => ?_⟩
  · obtain ⟨a, S1, h1, h2⟩ := bnd_ok h
    obtain ⟨b, S2, h3, h4⟩ := bnd_ok h2
    cases h4
    rw [List.length_cons, g.len _ _ _ _ h3]
  · exact h.run w0 w σ δ _ o e nn (p.then fun x w1 o1 e1 p1 v r1 => g.run w0 w1 σ δ _ o1 (e.trans e1) (nn.ev e1) (p1.then fun xs w2 o2 e2 p2 vs rs => Post.now p2 o2 _ (reps_cons (Rep.ev r1 e2) rs)))
theorem sim_pnil : SimPA K Γ xa W tNil mNil := ⟨fun w0 w σ δ Q o e n p => Post.now p o [] .nil⟩
theorem Pks.ev {ds : List D} {vs : List V} (h : Pks K Γ w ds vs) (e : Ev w w') : Pks K Γ w' ds vs := by
  induction h with
  | nil => exact .nil
  | cons h _ ih => exact .cons (h.ev e) ih
theorem sim_pcons (h : SimP K Γ xa W te me) (g : SimPA K Γ xa W tl ml) : SimPA K Γ xa W (tCons te tl) (mCons me ml) := ⟨fun w0 w σ δ Q o e nn p =>
  h.run w0 w σ δ _ o e nn (p.then fun x w1 o1 e1 p1 v r1 => g.run w0 w1 σ δ _ o1 (e.trans e1) (nn.ev e1) (p1.then fun xs w2 o2 e2 p2 vs rs => Post.now p2 o2 _ (.cons (r1.ev e2) rs)))⟩
def mTup (ml : MA) : ME := fun δ S => bnd (ml δ S) fun ds S => .ok (.tup ds) S
theorem post_len {ok : List D → Wd → Prop} {ex : XP} {o : Out (List D)} (h : Post K Γ o w ok ex) : Post K Γ o w (fun ds w' => (∃ S, o = .ok ds S) ∧ ok ds w') ex := by
  cases o with
  | ok a S => exact fun w1 hs ho he => ⟨⟨S, rfl⟩, h w1 hs ho he⟩
  | ex c ns ds S => exact h
  | bad => exact h
theorem sim_tup (g : SimA K Γ xa W n tl ml) (hn : n ≤ 1000 := by decide) : SimE K Γ xa W (tTup tl) (mTup ml) := ⟨fun w0 w σ δ Q o e nn p =>
  g.run w0 w σ δ _ o e nn ((post_len (p.then (ok' := fun ds w1 => Ok K Γ w1 ∧ Post K Γ (.ok (D.tup ds) w1.S) w1 (fun d w' => ∀ v, Rep K Γ w' d v → Q v w'.H) (XW K Γ W σ)) fun ds w1 o1 e1 p1 => ⟨o1, p1⟩)).mono (fun ds w1 o1 e1 q vs rs => by
    obtain ⟨⟨S, hS⟩, _, p1⟩ := q
    have hl : vs.length ≤ sizeLine := by
      rw [← reps_len rs, g.len _ _ _ _ hS]
      exact Nat.le_trans hn (by decide)
    refine ⟨hl, fun pp hp => ?_⟩
    have ev := ev_frz (o := .tup vs) o1 hp
    refine p1.at (w' := wFrz w1 pp (.tup vs)) rfl (ok_frz o1 hp) ev _ ?_
    simp only [Rep, RepC]
    exact ⟨pp, vs, rfl, SqT.of upd_same, hl, Reps.ev rs ev⟩) fun _ _ _ _ _ _ x => x)⟩
def mLst (ml : MA) : ME := fun δ S => bnd (ml δ S) fun ds S => .ok (.lst ds) S
theorem own_new {p : Addr} {o : HO} {d : D} (h : Ok K Γ w) (hp : w.H p = none) (at_ : At K Γ (wPut w p o) d p) : OwnAt K Γ w (wPut w p o) d p := ⟨hp, (r_none h hp : w.R p = none), fun l => not_live h hp l, at_⟩
theorem sim_lst (g : SimA K Γ xa W n tl ml) (hn : n ≤ 1000 := by decide) : SimF K Γ xa W (tLst tl) (mLst ml) := ⟨fun w0 w σ δ Q o e nn p =>
  g.run w0 w σ δ _ o e nn ((post_len (p.then (ok' := fun ds w1 => Post K Γ (.ok (D.lst ds) w1.S) w1 (fun d w' => ∀ a, OwnAt K Γ w w' d a → Q (.ref a) w'.H) (XW K Γ W σ)) fun ds w1 o1 e1 p1 => p1)).mono (fun ds w1 o1 e1 q vs rs => by
    obtain ⟨⟨S, hS⟩, p1⟩ := q
    have hl : vs.length ≤ sizeLine := by
      rw [← reps_len rs, g.len _ _ _ _ hS]
      exact Nat.le_trans hn (by decide)
    refine ⟨hl, fun pp hp => ?_⟩
    have ev := ev_put (o := .lst vs) (Ev.refl w1) hp
    exact p1.at (w' := wPut w1 pp (.lst vs)) rfl (ok_put o1 (r_none o1 hp) (not_live o1 hp)) ev _ (own_back e1 (own_new o1 hp ⟨vs, upd_same, hl, Reps.ev rs ev⟩))) fun _ _ _ _ _ _ x => x)⟩
end
end MR

namespace MR
open PySem PySem.Spec PyProof.Rows L2 TP
def bndS {α : Type} (o : Out α) (δ : Env) (f : α → Sto → Out Fl) : Out Fl := match o with
  | .ok a S => f a S
  | .ex c ns ds S => .ok (.ex c ns ds δ) S
  | .bad => .bad
section
variable {K : PySem.W.Frag} {Γ : Gm} {xa : XT} {W : WX} {te ta tb : TE} {me ma mb : ME} {w w' w0 w1 : Wd} {t u : TT} {mt mu : MT} {ts us : TS} {ms mus : MS} {Dn : Ends}
theorem PostS.gr {o : Out Fl} (h : PostS K Γ xa W o w0 w Dn) (g : Gr w w') : PostS K Γ xa W o w0 w' Dn := by
  cases o with
  | ok f S => cases f <;> exact fun w1 σ hs ho he hg => h w1 σ hs ho he (g.trans hg)
  | ex => exact h
  | bad => exact h
theorem PostS.then {α : Type} {o : Out α} {δ : Env} {σ : L2.St} {f : α → Sto → Out Fl} {ok : α → Wd → Prop} (h : PostS K Γ xa W (bndS o δ f) w0 w Dn) (e : Ev w0 w) (n : EnvOk K Γ xa w0 w σ δ)
    (g : ∀ a w', Ok K Γ w' → Ev w w' → PostS K Γ xa W (f a w'.S) w0 w' Dn → ok a w') : Post K Γ o w ok (XW K Γ W σ) := by
  cases o with
  | ok a S => exact fun w1 hs ho he => g a w1 ho he (by subst hs; exact PostS.gr h he.gr)
  | ex c ns ds S => exact fun w1 hs ho he => h w1 σ hs ho (e.trans he) he.gr (n.ev he)
  | bad => exact h
theorem PostS.nx {δ : Env} {σ : L2.St} (h : PostS K Γ xa W (.ok (.nx δ) w.S) w0 w Dn) (o : Ok K Γ w) (e : Ev w0 w) (n : EnvOk K Γ xa w0 w σ δ) : Dn.nx σ w.H := h w σ rfl o e (Gr.refl w) n
theorem PostS.rt {d : D} {v : V} (h : PostS K Γ xa W (.ok (.rt d) w.S) w0 w Dn) (o : Ok K Γ w) (e : Ev w0 w) (n : Rep K Γ w d v) : Dn.rt v w.H := h w v rfl o e (Gr.refl w) n
def mNext : MS := fun δ S => .ok (.nx δ) S
theorem sim_next : SimS K Γ xa W tNext mNext := ⟨fun w0 w σ δ Dn o e n p => p.nx o e n⟩
/-- on from what a statement left -/
def onNx (o : Out Fl) (f : Env → Sto → Out Fl) : Out Fl := match o with
  | .ok (.nx δ) S => f δ S
  | o => o
def mSeq (ms mus : MS) : MS := fun δ S => onNx (ms δ S) mus
theorem sim_seq (h : SimS K Γ xa W ts ms) (g : SimS K Γ xa W us mus) : SimS K Γ xa W (tSeq ts us) (mSeq ms mus) := ⟨fun w0 w σ δ Dn o e n p => by
  refine h.run w0 w σ δ _ o e n ?_
  unfold mSeq onNx at p
  cases z : ms δ w.S with
  | ok f S =>
    rw [z] at p
    cases f with
    | nx δ' => exact fun w1 σ1 hs ho he hg hn => g.run w0 w1 σ1 δ' Dn ho he hn (by subst hs; exact PostS.gr p hg)
    | rt d => exact p
    | bk d => exact p
    | ct d => exact p
    | ex => exact p
  | ex => rw [z] at p; exact p
  | bad => rw [z] at p; exact p⟩
variable {vs : List Nat} {tg : TG} {mg : MG}
def onG (o : Option Env) (S : Sto) : Out Fl := match o with
  | some δ => .ok (.nx δ) S
  | none => .bad
def mAsg (me : ME) (mg : MG) : MS := fun δ S => bndS (me δ S) δ fun d S => onG (mg d δ) S
theorem sim_asg (h : SimE K Γ xa W te me) (g : SimN K Γ xa vs tg mg) : SimS K Γ xa W (tAsg te tg) (mAsg me mg) := ⟨fun w0 w σ δ Dn o e n p =>
  h.run w0 w σ δ _ o e n (p.then e n fun d w1 o1 e1 p1 v r1 => g.run w0 w1 σ δ d v _ o1 (n.ev e1) r1 (by
    cases z : mg d δ with
    | some δ' => rw [z] at p1; exact fun σ2 hn _ _ => p1.nx o1 (e.trans e1) hn
    | none => rw [z] at p1; exact p1))⟩
def mGName (i : Nat) : MG := fun d δ => some (δ.set i (.val d))
theorem sim_gname {i : Nat} : SimN K Γ xa [i] (gName i) (mGName i) := ⟨fun w0 w σ δ d v Q o n r p =>
  p _ (n.set r) (by rw [List.length_set]) fun j hj => by
    rw [List.getElem?_set, if_neg (fun z => hj (by rw [z]; exact List.mem_singleton_self _))]⟩
def mGNil : MGs := fun ds δ => match ds with
  | [] => some δ
  | _ => none
def mGCons (g : MG) (gs : MGs) : MGs := fun ds δ => match ds with
  | d :: r => (g d δ).bind fun δ => gs r δ
  | _ => none
theorem sim_gnil : SimNs K Γ xa [] gNil mGNil := ⟨fun w0 w σ δ ds v Q o n r p => by
  cases ds with
  | nil => simp only [Reps, RepsC] at r; exact ⟨r, p σ n rfl fun _ _ => rfl⟩
  | cons d ds => exact False.elim p⟩
theorem sim_gcons {us : List Nat} {tgs : TGs} {mgs : MGs} (h : SimN K Γ xa vs tg mg) (g : SimNs K Γ xa us tgs mgs) : SimNs K Γ xa (vs ++ us) (gCons tg tgs) (mGCons mg mgs) := ⟨fun w0 w σ δ ds v Q o n r p => by
  cases ds with
  | nil => exact False.elim p
  | cons d ds =>
    obtain ⟨v1, ws, rfl, r1, r2⟩ := reps_inv r
    refine ⟨v1, ws, rfl, h.run w0 w σ δ d v1 _ o n r1 ?_⟩
    have p' : (match (mg d δ).bind fun δ => mgs ds δ with | some δ' => ∀ σ', EnvOk K Γ xa w0 w σ' δ' → σ'.length = σ.length → (∀ i, i ∉ vs ++ us → σ'[i]? = σ[i]?) → Q σ' w.H | none => False) := p
    cases z : mg d δ with
    | some δ' =>
      rw [z] at p'
      intro σ1 hn hl hk
      refine g.run w0 w σ1 δ' ds ws _ o hn r2 ?_
      have p2 : (match mgs ds δ' with | some δ' => ∀ σ', EnvOk K Γ xa w0 w σ' δ' → σ'.length = σ.length → (∀ i, i ∉ vs ++ us → σ'[i]? = σ[i]?) → Q σ' w.H | none => False) := p'
      cases z2 : mgs ds δ' with
      | some δ2 =>
        rw [z2] at p2
        exact fun σ2 hn2 hl2 hk2 => p2 σ2 hn2 (hl2.trans hl) fun i hi => by
          rw [List.mem_append] at hi
          rw [hk2 i (fun z => hi (.inr z)), hk i (fun z => hi (.inl z))]
      | none => rw [z2] at p2; exact p2
    | none => rw [z] at p'; exact p'⟩
def mGTup (n : Nat) (g : MGs) : MG := fun d δ => match d with
  | .tup ds => if ds.length = n then g ds δ else none
  | _ => none
theorem sim_gtup' {n : Nat} {tgs : TGs} {mgs : MGs} (h : SimNs K Γ xa vs tgs mgs) : SimN K Γ xa vs (gTup K n tgs) (mGTup n mgs) := ⟨fun w0 w σ δ d v Q o nn r p => by
  unfold mGTup at p
  cases d with
  | tup ds =>
    simp only [Rep, RepC] at r
    obtain ⟨a, xs, h1, h2, _, h4⟩ := r
    dsimp only at p
    by_cases z : ds.length = n
    · rw [if_pos z] at p
      exact ⟨a, xs, h1, sqT_mono o.same h2, by rw [← reps_len h4]; exact z, h.run w0 w σ δ ds xs Q o nn h4 p⟩
    · rw [if_neg z] at p; exact False.elim p
  | _ => exact False.elim p⟩
/-- x = a new thing, kept as one's own -/
def mAsgO (me : ME) (i : Nat) : MS := fun δ S => bndS (me δ S) δ fun d S => .ok (.nx (δ.set i (.own false d))) S
theorem sim_asgO {i : Nat} (h : SimF K Γ xa W te me) : SimS K Γ xa W (tAsg te (gName i)) (mAsgO me i) := ⟨fun w0 w σ δ Dn o e n p =>
  h.run w0 w σ δ _ o e n (p.then e n fun d w1 o1 e1 p1 a oa => p1.nx o1 (e.trans e1) ((n.ev e1).setOwn (own_back e oa) fun j f e' b h1 h2 => by
    have h3 := n.own h1
    obtain ⟨b', h4, h5⟩ := h3
    rw [h2] at h4
    cases h4
    obtain ⟨u, hu⟩ := at_some h5.at_
    exact ne_of_none hu oa.new))⟩
/-- x = a new thing, put into the store -/
def mAsgC (me : ME) (i : Nat) : MS := fun δ S => bndS (me δ S) δ fun d S => .ok (.nx (δ.set i (.val (.ref S.length)))) (S ++ [some d])
theorem rep_ref {a : Addr} {d : D} (o : Ok K Γ w) : Rep K Γ (wAdd w a d) (.ref w.S.length) (.ref a) := by
  simp only [Rep, RepC]
  exact ⟨a, by rw [o.len]; simp [wAdd], rfl⟩
theorem sim_asgC {i : Nat} (h : SimF K Γ xa W te me) : SimS K Γ xa W (tAsg te (gName i)) (mAsgC me i) := ⟨fun w0 w σ δ Dn o e n p =>
  h.run w0 w σ δ _ o e n (p.then e n fun d w1 o1 e1 p1 a oa => by
    have e2 := ev_add (d := d) o1 e1 oa.new
    exact p1 (wAdd w1 a d) _ rfl (ok_add o1 oa.r oa.nl oa.at_) (e.trans e2) ⟨fun _ _ z => z, List.prefix_append _ _⟩ ((n.ev e2).set (rep_ref o1)))⟩
def mRet (me : ME) : MS := fun δ S => bndS (me δ S) δ fun d S => .ok (.rt d) S
theorem sim_ret (h : SimE K Γ xa W te me) : SimS K Γ xa W (tRet te) (mRet me) := ⟨fun w0 w σ δ Dn o e n p =>
  h.run w0 w σ δ _ o e n (p.then e n fun d w1 o1 e1 p1 v r1 => p1.rt o1 (e.trans e1) r1)⟩
def mDrop (me : ME) : MS := fun δ S => bndS (me δ S) δ fun _ S => .ok (.nx δ) S
theorem sim_drop (h : SimE K Γ xa W te me) : SimS K Γ xa W (tDrop te) (mDrop me) := ⟨fun w0 w σ δ Dn o e n p =>
  h.run w0 w σ δ _ o e n (p.then e n fun d w1 o1 e1 p1 v r1 => p1.nx o1 (e.trans e1) (n.ev e1))⟩
def mIfS (mt : MT) (ms mus : MS) : MS := fun δ S => bndS (mt δ S) δ fun b S => if b then ms δ S else mus δ S
theorem sim_ifS (h : SimT K Γ xa W t mt) (f : SimS K Γ xa W ts ms) (g : SimS K Γ xa W us mus) : SimS K Γ xa W (tIfS t ts us) (mIfS mt ms mus) := ⟨fun w0 w σ δ Dn o e n p =>
  h.run w0 w σ δ _ o e n (p.then e n fun b w1 o1 e1 p1 => by
    cases b
    · rw [if_neg (by simp)]; exact g.run w0 w1 σ δ _ o1 (e.trans e1) (n.ev e1) p1
    · rw [if_pos rfl]; exact f.run w0 w1 σ δ _ o1 (e.trans e1) (n.ev e1) p1)⟩
/-- one's own is given away: it never changes from here on (nothing is done) -/
def mFix (i : Nat) (ms : MS) : MS := fun δ S => match δ[i]? with
  | some (.own _ d) => ms (δ.set i (.val d)) S
  | _ => ms δ S
theorem sim_fix {i : Nat} (h : SimS K Γ xa W ts ms) : SimS K Γ xa W ts (mFix i ms) := ⟨fun w0 w σ δ Dn o e n p => by
  unfold mFix at p
  split at p
  · rename_i fb d hd
    obtain ⟨a, h1, oa⟩ := n.own hd
    obtain ⟨w2, s2, hh, o2, e2, g2, r2, hρ, hR⟩ := own_rep (w := w0) o e oa
    have n2 : EnvOk K Γ xa w0 w2 σ (δ.set i (.val d)) := by
      have hi := (List.getElem?_eq_some_iff.mp hd).1
      have evw : ∀ {s : Slot} {x : Option V} {j : Nat}, j ≠ i → σ[j]? = some x → δ[j]? = some s → SlotOk K Γ xa w0 w2 x s := fun {s x j} ne hx hs => by
        have q := n.ok j x s hx hs
        cases s with
        | no => trivial
        | val d' => obtain ⟨v, q1, q2⟩ := q; exact ⟨v, q1, Rep.gr q2 g2⟩
        | own fb' d' =>
          obtain ⟨b, q1, q2, q3⟩ := q
          have nb : b ≠ a := fun z => ne (n.sep j i fb' fb d' d a hs hd (by rw [hx, q1, z]) h1)
          refine ⟨b, q1, ⟨q2.new, by rw [hR b nb]; exact q2.r, fun l => q2.nl ?_, at_mv q2.at_ (fun u hu => by rw [hh]; exact hu) g2.rr g2.pre⟩, q3⟩
          obtain ⟨m, x, l1, l2⟩ := l
          exact ⟨m, x, by rw [← s2]; exact l1, by rw [← hρ]; exact l2⟩
        | exn c ns ds => obtain ⟨h1, h2, h3⟩ := q; exact ⟨h1, h2, h3.imp (fun ⟨dd, vs, h3, h4, h5, h6⟩ => ⟨dd, vs, h3, g2.rr _ _ h4, h5, Reps.gr h6 g2⟩) id⟩
      refine ⟨by rw [List.length_set]; exact n.len, fun j x s hx hs => ?_, fun j k fa fb d' e' b q1 q2 q3 q4 => ?_⟩
      · rw [List.getElem?_set] at hs
        by_cases q : i = j
        · subst q
          rw [if_pos rfl, if_pos hi] at hs
          cases hs
          rw [h1] at hx
          cases hx
          exact ⟨_, rfl, r2⟩
        · rw [if_neg q] at hs
          exact evw (fun z => q z.symm) hx hs
      · rw [List.getElem?_set] at q1 q2
        by_cases z1 : i = j
        · rw [if_pos z1] at q1; split at q1 <;> cases q1
        · by_cases z2 : i = k
          · rw [if_pos z2] at q2; split at q2 <;> cases q2
          · rw [if_neg z1] at q1
            rw [if_neg z2] at q2
            exact n.sep j k fa fb d' e' b q1 q2 q3 q4
    have := h.run w0 w2 σ _ Dn o2 e2 n2 (by rw [s2]; exact PostS.gr p g2)
    rw [hh] at this
    exact this
  · exact h.run w0 w σ δ Dn o e n p⟩
end
end MR

namespace MR
open PySem PySem.Spec PyProof.Rows L2 TP
structure Items (K : PySem.W.Frag) (Γ : Gm) (rel : Wd → Wd → Prop) (w : Wd) (J : It) (ds : List D) : Prop where
  len : ds.length ≤ sizeLine
  go : ∀ w1 i, Ok K Γ w1 → rel w w1 → i < ds.length → J.go i w1.H
  yld : ∀ w1 i x H', Ok K Γ w1 → rel w w1 → i < ds.length → J.yld i w1.H x H' → ∃ w2 d, w2.H = H' ∧ w2.S = w1.S ∧ Ok K Γ w2 ∧ Ev w1 w2 ∧ ds[i]? = some d ∧ Rep K Γ w2 d x
  stop : ∀ w1, Ok K Γ w1 → rel w w1 → J.stop ds.length w1.H
structure SimI (K : PySem.W.Frag) (Γ : Gm) (xa : XT) (rel : Wd → Wd → Prop) (W : WX) (wi : TI) (mi : MA) : Prop where
  run : ∀ (w0 w : Wd) (σ : L2.St) (δ : Env) (R : It → Hp → Prop), Ok K Γ w → Ev w0 w → EnvOk K Γ xa w0 w σ δ → Post K Γ (mi δ w.S) w (fun ds w' => ∀ J, Items K Γ rel w' J ds → R J w'.H) (XW K Γ W σ) → wi σ w.H R
section
variable {K : PySem.W.Frag} {Γ : Gm} {xa : XT} {W : WX} {te ta tb : TE} {me ma mb : ME} {w w' w0 w1 : Wd} {t u : TT} {mt mu : MT} {ts us : TS} {ms mus : MS} {Dn : Ends} {tl : TA} {ml : MA} {wi : TI} {mi : MA}
theorem Items.ev {J : It} {ds : List D} (h : Items K Γ Gr w J ds) : Items K Γ Ev w J ds := ⟨h.len, fun w1 i o e => h.go w1 i o e.gr, fun w1 i x H' o e => h.yld w1 i x H' o e.gr, fun w1 o e => h.stop w1 o e.gr⟩
theorem SimI.ev (h : SimI K Γ xa Gr W wi mi) : SimI K Γ xa Ev W wi mi := ⟨fun w0 w σ δ R o e n p => h.run w0 w σ δ R o e n (p.mono (fun ds w' _ _ q J it => q J it.ev) fun _ _ _ _ _ _ x => x)⟩
/-- what a list's walk yields is what any reading of the list tells: it suffices to have one reading -/
theorem items_list {rel : Wd → Wd → Prop} {a : Addr} {vs : List V} {ds : List D} (hl : vs.length ≤ sizeLine) (h : ∀ w1, Ok K Γ w1 → rel w w1 → SqL K w1.H a vs ∧ Reps K Γ w1 ds vs) (hw : rel w w) (o : Ok K Γ w) : Items K Γ rel w (Itl K a) ds := by
  have el : ds.length = vs.length := reps_len (h w o hw).2
  refine ⟨by omega, fun w1 i o1 e1 hi => ?_, fun w1 i x H' o1 e1 hi y => ?_, fun w1 o1 e1 => ⟨vs, (h w1 o1 e1).1, by omega⟩⟩
  · exact ⟨vs, _, (h w1 o1 e1).1, List.getElem?_eq_getElem (by omega)⟩
  · obtain ⟨rfl, y⟩ := y
    obtain ⟨h1, h2⟩ := h w1 o1 e1
    obtain ⟨d, hd, hr⟩ := reps_get' h2 (y vs h1)
    exact ⟨w1, d, rfl, rfl, o1, Ev.refl w1, hd, hr⟩
def mIList (me : ME) : MA := fun δ S => bnd (me δ S) fun d S => match d with
  | .lst ds => .ok ds S
  | .scr is => .ok (is.map D.int) S
  | _ => .bad
theorem sim_ilist (h : SimE K Γ xa W te me) : SimI K Γ xa Gr W (iList K te) (mIList me) := ⟨fun w0 w σ δ R o e n p =>
  h.run w0 w σ δ _ o e n (p.then fun d w1 o1 e1 p1 v r1 => by
    split at p1
    · simp only [Rep, RepC] at r1
      obtain ⟨a, vs, h1, h2, h3, h4⟩ := r1
      exact ⟨a, h1, ⟨vs, SqL.of (o1.same _ _ h2)⟩, Post.now p1 o1 _ (items_list h3 (fun w2 o2 g2 => ⟨SqL.of (o2.same _ _ (g2.rr _ _ h2)), Reps.gr h4 g2⟩) (Gr.refl _) o1)⟩
    · simp only [Rep, RepC] at r1
      obtain ⟨a, h1, h2, h3⟩ := r1
      exact ⟨a, h1, ⟨_, sqL_mono o1.same h2⟩, Post.now p1 o1 _ (items_list (by rw [List.length_map]; exact h3) (fun w2 o2 g2 => ⟨sqL_mono o2.same (sqL_mono g2.rr h2), reps_ints⟩) (Gr.refl _) o1)⟩
    · exact False.elim p1)⟩
/-- .. of one's own, while nothing of one's own changes -/
theorem sim_ilistP (h : SimP K Γ xa W te me) : SimI K Γ xa Ev W (iList K te) (mIList me) := ⟨fun w0 w σ δ R o e n p =>
  h.run w0 w σ δ _ o e n (p.then fun d w1 o1 e1 p1 v r1 => by
    rcases r1 with r1 | ⟨w9, a, rfl, oa⟩
    · split at p1
      · simp only [Rep, RepC] at r1
        obtain ⟨a, vs, h1, h2, h3, h4⟩ := r1
        exact ⟨a, h1, ⟨vs, SqL.of (o1.same _ _ h2)⟩, Post.now p1 o1 _ (items_list h3 (fun w2 o2 g2 => ⟨SqL.of (o2.same _ _ (g2.rr _ _ h2)), Reps.ev h4 g2⟩) (Ev.refl _) o1)⟩
      · simp only [Rep, RepC] at r1
        obtain ⟨a, h1, h2, h3⟩ := r1
        exact ⟨a, h1, ⟨_, sqL_mono o1.same h2⟩, Post.now p1 o1 _ (items_list (by rw [List.length_map]; exact h3) (fun w2 o2 g2 => ⟨sqL_mono o2.same (sqL_mono g2.rr h2), reps_ints⟩) (Ev.refl _) o1)⟩
      · exact False.elim p1
    · split at p1
      · obtain ⟨vs, h1, h2, h3⟩ := oa.at_
        exact ⟨a, rfl, ⟨vs, SqL.of h1⟩, Post.now p1 o1 _ (items_list h2 (fun w2 o2 g2 => ⟨SqL.of (g2.keep _ _ h1 oa.nl), Reps.ev h3 g2⟩) (Ev.refl _) o1)⟩
      · exact False.elim oa.at_
      · exact False.elim p1)⟩
def mITup (me : ME) : MA := fun δ S => bnd (me δ S) fun d S => match d with
  | .tup ds => .ok ds S
  | _ => .bad
/-- lo, lo + 1, .. -/
def rngD (lo : Int) (n : Nat) : List D := (List.range n).map fun k : Nat => D.int (lo + k)
theorem items_rng {rel : Wd → Wd → Prop} {lo : Int} {n : Nat} (hn : n ≤ sizeLine) : Items K Γ rel w (Itr lo n) (rngD lo n) := by
  have el : (rngD lo n).length = n := by simp [rngD]
  refine ⟨by rw [el]; exact hn, fun w1 i o1 e1 hi => by rw [el] at hi; exact hi, fun w1 i x H' o1 e1 hi y => ?_, fun w1 o1 e1 => by rw [el]; exact Nat.le_refl _⟩
  obtain ⟨rfl, rfl⟩ := y
  rw [el] at hi
  exact ⟨w1, .int (lo + i), rfl, rfl, o1, Ev.refl w1, by simp [rngD, hi], by simp only [Rep, RepC]⟩
def mIRng1 (ml : MA) : MA := fun δ S => bnd (ml δ S) fun ds S => match ds with
  | [.int j] => if j ≤ 16777216 ∧ -16777216 ≤ j then .ok (rngD 0 j.toNat) S else .bad
  | _ => .bad
theorem reps1 {d : D} {vs : List V} (h : Reps K Γ w [d] vs) : ∃ v, vs = [v] ∧ Rep K Γ w d v := by
  obtain ⟨v, ws, rfl, r, r2⟩ := reps_inv h
  simp only [RepsC] at r2
  subst r2
  exact ⟨v, rfl, r⟩
theorem reps2 {d e : D} {vs : List V} (h : Reps K Γ w [d, e] vs) : ∃ v u, vs = [v, u] ∧ Rep K Γ w d v ∧ Rep K Γ w e u := by
  obtain ⟨v, ws, rfl, r, r2⟩ := reps_inv h
  obtain ⟨u, rfl, q⟩ := reps1 r2
  exact ⟨v, u, rfl, r, q⟩
theorem sim_irng1 {n : Nat} (h : SimA K Γ xa W n tl ml) : SimI K Γ xa Gr W (iRng1 tl) (mIRng1 ml) := ⟨fun w0 w σ δ R o e n p =>
  h.run w0 w σ δ _ o e n (p.then fun ds w1 o1 e1 p1 vs r1 => by
    split at p1
    · rename_i j
      obtain ⟨v, rfl, r⟩ := reps1 r1
      rw [rep_int r]
      split at p1
      · rename_i hj
        exact ⟨j, rfl, by omega, by omega, Post.now p1 o1 _ (items_rng (by show j.toNat ≤ 2 ^ 24; omega))⟩
      · exact False.elim p1
    · exact False.elim p1)⟩
def mIRng2 (ml : MA) : MA := fun δ S => bnd (ml δ S) fun ds S => match ds with
  | [.int i, .int j] => if (j ≤ 16777216 ∧ -16777216 ≤ j) ∧ (i ≤ 16777216 ∧ -16777216 ≤ i) ∧ j - i ≤ 16777216 then .ok (rngD i (j - i).toNat) S else .bad
  | _ => .bad
/-- (0, x0), (1, x1), .. -/
def enumD (ds : List D) : List D := ds.mapIdx fun i d => D.tup [.int (i : Nat), d]
def mIEnum (ml : MA) : MA := fun δ S => bnd (ml δ S) fun ds S => match ds with
  | [.lst ds] => .ok (enumD ds) S
  | _ => .bad
theorem items_pairs {rel : Wd → Wd → Prop} {J : It} {ps : List (D × D)} {n : Nat} (hn : ps.length = n) (hl : n ≤ sizeLine)
    (go : ∀ w1 i, Ok K Γ w1 → rel w w1 → i < n → J.go i w1.H) (stop : ∀ w1, Ok K Γ w1 → rel w w1 → J.stop n w1.H)
    (y : ∀ w1 i v H', Ok K Γ w1 → rel w w1 → i < n → J.yld i w1.H v H' → ∃ T x y d e, v = .ref T ∧ w1.H T = none ∧ H' = upd w1.H T (.tup [x, y]) ∧ ps[i]? = some (d, e) ∧ Rep K Γ w1 d x ∧ Rep K Γ w1 e y) :
    Items K Γ rel w J (ps.map fun p => D.tup [p.1, p.2]) := by
  refine ⟨by rw [List.length_map, hn]; exact hl, fun w1 i o1 e1 hi => go w1 i o1 e1 (by rw [List.length_map, hn] at hi; exact hi), fun w1 i v H' o1 e1 hi yy => ?_, fun w1 o1 e1 => by rw [List.length_map, hn]; exact stop w1 o1 e1⟩
  rw [List.length_map, hn] at hi
  obtain ⟨T, x, y', d, e, rfl, hT, rfl, hp, rx, ry⟩ := y w1 i v H' o1 e1 hi yy
  have ev := ev_frz (o := .tup [x, y']) o1 hT
  refine ⟨wFrz w1 T (.tup [x, y']), .tup [d, e], rfl, rfl, ok_frz o1 hT, ev, by rw [List.getElem?_map, hp]; rfl, ?_⟩
  simp only [Rep, RepC]
  exact ⟨T, [x, y'], rfl, SqT.of upd_same, by show 2 ≤ sizeLine; decide, reps_cons (Rep.ev rx ev) (reps_cons (Rep.ev ry ev) reps_nil)⟩
theorem enumD_eq (ds : List D) : enumD ds = (ds.mapIdx fun i d => (D.int (i : Nat), d)).map fun p => D.tup [p.1, p.2] := by
  unfold enumD
  refine List.ext_getElem? fun i => ?_
  rw [List.getElem?_map, List.getElem?_mapIdx, List.getElem?_mapIdx]
  cases ds[i]? <;> rfl
theorem items_enum {rel : Wd → Wd → Prop} {a : Addr} {vs : List V} {ds : List D} (hl : vs.length ≤ sizeLine) (h : ∀ w1, Ok K Γ w1 → rel w w1 → SqL K w1.H a vs ∧ Reps K Γ w1 ds vs) (hw : rel w w) (o : Ok K Γ w) : Items K Γ rel w (Ite K a) (enumD ds) := by
  have el : ds.length = vs.length := reps_len (h w o hw).2
  rw [enumD_eq]
  refine items_pairs (n := ds.length) (by rw [List.length_mapIdx]) (by omega) (fun w1 i o1 e1 hi => ?_) (fun w1 o1 e1 => ⟨vs, (h w1 o1 e1).1, by omega⟩) fun w1 i v H' o1 e1 hi y => ?_
  · exact ⟨vs, _, (h w1 o1 e1).1, List.getElem?_eq_getElem (by omega)⟩
  · obtain ⟨T, x, rfl, hT, rfl, y⟩ := y
    obtain ⟨h1, h2⟩ := h w1 o1 e1
    obtain ⟨d, hd, hr⟩ := reps_get' h2 (y vs h1)
    exact ⟨T, _, x, .int (i : Nat), d, rfl, hT, rfl, by rw [List.getElem?_mapIdx, hd]; rfl, by simp only [Rep, RepC], hr⟩
theorem sim_ienum {n : Nat} (h : SimA K Γ xa W n tl ml) : SimI K Γ xa Gr W (iEnum K tl) (mIEnum ml) := ⟨fun w0 w σ δ R o e n p =>
  h.run w0 w σ δ _ o e n (p.then fun ds w1 o1 e1 p1 vs r1 => by
    split at p1
    · obtain ⟨v, rfl, r⟩ := reps1 r1
      simp only [Rep, RepC] at r
      obtain ⟨a, vs, rfl, h2, h3, h4⟩ := r
      exact ⟨a, vs, rfl, SqL.of (o1.same _ _ h2), Post.now p1 o1 _ (items_enum h3 (fun w2 o2 g2 => ⟨SqL.of (o2.same _ _ (g2.rr _ _ h2)), Reps.gr h4 g2⟩) (Gr.refl _) o1)⟩
    · exact False.elim p1)⟩
variable {vs : List Nat} {tg : TG} {mg : MG}
def mLoop (mg : MG) (ms : MS) : List D → Env → Sto → Out Fl
  | [], δ, S => .ok (.nx δ) S
  | d :: ds, δ, S => match mg d δ with
    | none => .bad
    | some δ1 => match ms δ1 S with
      | .ok (.nx δ2) S2 => mLoop mg ms ds δ2 S2
      | .ok (.ct δ2) S2 => mLoop mg ms ds δ2 S2
      | .ok (.bk δ2) S2 => .ok (.nx δ2) S2
      | o => o
def mFor (mi : MA) (mg : MG) (ms : MS) : MS := fun δ S => bndS (mi δ S) δ fun ds S => mLoop mg ms ds δ S
theorem sim_for (hi : SimI K Γ xa Gr W wi mi) (hg : SimN K Γ xa vs tg mg) (hb : SimS K Γ xa W ts ms) : SimS K Γ xa W (tFor wi tg ts) (mFor mi mg ms) := ⟨fun w0 w σ δ Dn o e n p =>
  hi.run w0 w σ δ _ o e n (p.then e n fun ds w1 o1 e1 p1 J it => by
    refine ⟨fun i m σ H => m = ds.length - i ∧ i ≤ ds.length ∧ ∃ w' δ', w'.H = H ∧ Ok K Γ w' ∧ Ev w0 w' ∧ Gr w1 w' ∧ EnvOk K Γ xa w0 w' σ δ' ∧ PostS K Γ xa W (mLoop mg ms (ds.drop i) δ' w'.S) w0 w' Dn,
      ⟨_, rfl, Nat.zero_le _, w1, δ, rfl, o1, e.trans e1, Gr.refl _, n.ev e1, p1⟩, ?_⟩
    rintro i m σ' H ⟨rfl, hi, w', δ', rfl, o', e', g', n', p'⟩
    rcases Nat.lt_or_ge i ds.length with hlt | hge
    · refine .inr ⟨it.go w' i o' g' hlt, _, fun _ _ h => h, fun x H' y => ?_⟩
      obtain ⟨w2, d, rfl, hs2, o2, e2, hd, rx⟩ := it.yld w' i x H' o' g' hlt y
      have hdr : ds.drop i = d :: ds.drop (i + 1) := by
        rw [List.drop_eq_getElem_cons hlt]
        congr 1
        exact Option.some.inj ((List.getElem?_eq_getElem hlt).symm.trans hd)
      rw [hdr] at p'
      unfold mLoop at p'
      refine hg.run w0 w2 σ' δ' d x _ o2 (n'.ev e2) rx ?_
      cases zg : mg d δ' with
      | none => rw [zg] at p'; exact p'
      | some δ1 =>
        rw [zg] at p'
        intro σ1 n1 _ _
        refine hb.run w0 w2 σ1 δ1 _ o2 (e'.trans e2) n1 ?_
        have p2 := PostS.gr p' e2.gr
        rw [← hs2] at p2
        dsimp only at p2
        have m1 : ds.length - (i + 1) < ds.length - i := by omega
        have on : ∀ δ2 S2, PostS K Γ xa W (mLoop mg ms (ds.drop (i + 1)) δ2 S2) w0 w2 Dn → ∀ w3 σ3, w3.S = S2 → Ok K Γ w3 → Ev w0 w3 → Gr w2 w3 → EnvOk K Γ xa w0 w3 σ3 δ2 →
            ∃ m', m' < ds.length - i ∧ (m' = ds.length - (i + 1) ∧ i + 1 ≤ ds.length ∧ ∃ w' δ', w'.H = w3.H ∧ Ok K Γ w' ∧ Ev w0 w' ∧ Gr w1 w' ∧ EnvOk K Γ xa w0 w' σ3 δ' ∧ PostS K Γ xa W (mLoop mg ms (ds.drop (i + 1)) δ' w'.S) w0 w' Dn) :=
          fun δ2 S2 pp w3 σ3 hs ho he hgr hn => ⟨_, m1, rfl, hlt, w3, δ2, rfl, ho, he, g'.trans (e2.gr.trans hgr), hn, by rw [hs]; exact PostS.gr pp hgr⟩
        cases zm : ms δ1 w2.S with
        | ok f S2 =>
          rw [zm] at p2
          cases f with
          | nx δ2 => exact on δ2 S2 p2
          | ct δ2 => exact on δ2 S2 p2
          | bk δ2 => exact p2
          | rt d2 => exact p2
          | ex => exact p2
        | ex => rw [zm] at p2; exact p2
        | bad => rw [zm] at p2; exact p2
    · have hi' : i = ds.length := by omega
      subst hi'
      refine .inl ⟨it.stop w' o' g', ?_⟩
      rw [List.drop_length] at p'
      exact p'.nx o' e' n')⟩
def mWhile (mt : MT) (ms : MS) : Nat → Env → Sto → Out Fl
  | 0, _, _ => .bad
  | k + 1, δ, S => bndS (mt δ S) δ fun b S => if b then match ms δ S with
      | .ok (.nx δ2) S2 => mWhile mt ms k δ2 S2
      | .ok (.ct δ2) S2 => mWhile mt ms k δ2 S2
      | .ok (.bk δ2) S2 => .ok (.nx δ2) S2
      | o => o
    else .ok (.nx δ) S
theorem sim_while {k : Nat} (hc : SimT K Γ xa W t mt) (hb : SimS K Γ xa W ts ms) : SimS K Γ xa W (tWhile t ts) (mWhile mt ms k) := ⟨fun w0 w σ δ Dn o e n p => by
  refine ⟨fun m σ H => ∃ w' δ', w'.H = H ∧ Ok K Γ w' ∧ Ev w0 w' ∧ EnvOk K Γ xa w0 w' σ δ' ∧ PostS K Γ xa W (mWhile mt ms m δ' w'.S) w0 w' Dn, ⟨k, w, δ, rfl, o, e, n, p⟩, ?_⟩
  rintro m σ' H ⟨w', δ', rfl, o', e', n', p'⟩
  cases m with
  | zero => exact False.elim p'
  | succ m =>
    unfold mWhile at p'
    refine hc.run w0 w' σ' δ' _ o' e' n' (p'.then e' n' fun b w1 o1 e1 p1 => ?_)
    cases b with
    | false =>
      rw [if_neg (by simp)]
      exact p1.nx o1 (e'.trans e1) (n'.ev e1)
    | true =>
      rw [if_pos rfl]
      refine ⟨_, fun _ _ h => h, hb.run w0 w1 σ' δ' _ o1 (e'.trans e1) (n'.ev e1) ?_⟩
      have p2 : PostS K Γ xa W (match ms δ' w1.S with
        | .ok (.nx δ2) S2 => mWhile mt ms m δ2 S2
        | .ok (.ct δ2) S2 => mWhile mt ms m δ2 S2
        | .ok (.bk δ2) S2 => .ok (.nx δ2) S2
        | o => o) w0 w1 Dn := p1
      have on : ∀ δ2 S2, PostS K Γ xa W (mWhile mt ms m δ2 S2) w0 w1 Dn → ∀ w3 σ3, w3.S = S2 → Ok K Γ w3 → Ev w0 w3 → Gr w1 w3 → EnvOk K Γ xa w0 w3 σ3 δ2 →
          ∃ m', m' < m + 1 ∧ ∃ w' δ', w'.H = w3.H ∧ Ok K Γ w' ∧ Ev w0 w' ∧ EnvOk K Γ xa w0 w' σ3 δ' ∧ PostS K Γ xa W (mWhile mt ms m' δ' w'.S) w0 w' Dn :=
        fun δ2 S2 pp w3 σ3 hs ho he hgr hn => ⟨m, Nat.lt_succ_self _, w3, δ2, rfl, ho, he, hn, by rw [hs]; exact PostS.gr pp hgr⟩
      cases zm : ms δ' w1.S with
      | ok f S2 =>
        rw [zm] at p2
        cases f with
        | nx δ2 => exact on δ2 S2 p2
        | ct δ2 => exact on δ2 S2 p2
        | bk δ2 => exact p2
        | rt d2 => exact p2
        | ex => exact p2
      | ex => rw [zm] at p2; exact p2
      | bad => rw [zm] at p2; exact p2⟩
def mwipe (δ : Env) : List Nat → Env
  | [] => δ
  | v :: vs => (mwipe δ vs).set v .no
theorem EnvOk.setNo {σ : L2.St} {δ : Env} {i : Nat} {x : Option V} (h : EnvOk K Γ xa w0 w σ δ) : EnvOk K Γ xa w0 w (σ.set i x) (δ.set i .no) := by
  refine ⟨by rw [List.length_set, List.length_set, h.len], fun j x s h1 h2 => ?_, fun j k b c d' e a h1 h2 h3 h4 => ?_⟩
  · rw [List.getElem?_set] at h1 h2
    by_cases q : i = j
    · rw [if_pos q] at h2
      split at h2 <;> cases h2
      trivial
    · rw [if_neg q] at h1 h2
      exact h.ok j x s h1 h2
  · rw [List.getElem?_set] at h1 h2 h3 h4
    by_cases q : i = j
    · rw [if_pos q] at h1; split at h1 <;> cases h1
    · by_cases q2 : i = k
      · rw [if_pos q2] at h2; split at h2 <;> cases h2
      · rw [if_neg q] at h1 h3
        rw [if_neg q2] at h2 h4
        exact h.sep j k b c d' e a h1 h2 h3 h4
theorem EnvOk.wipe {σ : L2.St} {δ : Env} (h : EnvOk K Γ xa w0 w σ δ) : ∀ vs : List Nat, EnvOk K Γ xa w0 w (wipe σ vs) (mwipe δ vs)
  | [] => h
  | v :: vs => (EnvOk.wipe h vs).setNo
theorem wipe_get {σ : L2.St} : ∀ (vs : List Nat) (i : Nat), (wipe σ vs)[i]? = if i ∈ vs then (if i < σ.length then some none else none) else σ[i]?
  | [], i => by simp [wipe]
  | v :: vs, i => by
    unfold wipe
    rw [List.getElem?_set, wipe_length, wipe_get vs i]
    by_cases q : v = i
    · subst q
      rw [if_pos rfl, if_pos List.mem_cons_self]
    · rw [if_neg q]
      by_cases z : i ∈ vs
      · rw [if_pos z, if_pos (List.mem_cons_of_mem _ z)]
      · rw [if_neg z, if_neg (fun y => by rcases List.mem_cons.mp y with y | y; exact q y.symm; exact z y)]
theorem wipe_same {σ σ' : L2.St} {us vs : List Nat} (hl : σ'.length = σ.length) (h : ∀ i, i ∉ us → σ'[i]? = σ[i]?) (hu : ∀ i ∈ us, i ∈ vs) : wipe σ' vs = wipe σ vs := by
  refine List.ext_getElem? fun i => ?_
  rw [wipe_get, wipe_get, hl]
  by_cases z : i ∈ vs
  · rw [if_pos z, if_pos z]
  · rw [if_neg z, if_neg z, h i fun y => z (hu i y)]
theorem wipe_wipe {σ : L2.St} (vs : List Nat) : wipe (wipe σ vs) vs = wipe σ vs := by
  refine List.ext_getElem? fun i => ?_
  rw [wipe_get, wipe_get, wipe_length]
  by_cases z : i ∈ vs
  · rw [if_pos z, if_pos z]
  · rw [if_neg z, if_neg z]
def mLcL (mg : MG) (mt : MT) (me : ME) (δ : Env) : List D → Sto → Out (List D)
  | [], S => .ok [] S
  | d :: ds, S => match mg d δ with
    | none => .bad
    | some δ1 => bnd (noX (mt δ1 S)) fun b S => if b then bnd (noX (me δ1 S)) fun y S => bnd (mLcL mg mt me δ ds S) fun ys S => .ok (y :: ys) S else mLcL mg mt me δ ds S
def mLc (mi : MA) (mg : MG) (mt : MT) (me : ME) (vs : List Nat) : ME := fun δ S => bnd (mi δ S) fun ds S => bnd (mLcL mg mt me (mwipe δ vs) ds S) fun ys S => .ok (.lst ys) S
theorem bnd_assoc {α β γ : Type} (o : Out α) (f : α → Sto → Out β) (g : β → Sto → Out γ) : bnd (bnd o f) g = bnd o fun a S => bnd (f a S) g := by cases o <;> rfl
theorem Post.thenE {α β : Type} {o : Out α} {f : α → Sto → Out β} {ok : β → Wd → Prop} {ok' : α → Wd → Prop} {ex : XP} (h : Post K Γ (bnd o f) w ok ex) (g : ∀ a w', o = .ok a w'.S → Ok K Γ w' → Ev w w' → Post K Γ (f a w'.S) w' ok ex → ok' a w') : Post K Γ o w ok' ex := by
  cases o with
  | ok a S => exact fun w1 hs ho he => g a w1 (by rw [hs]) ho he (by subst hs; exact Post.ev h he)
  | ex c ns ds S => exact h
  | bad => exact h
theorem sim_lc {us : List Nat} (hi : SimI K Γ xa Ev W wi mi) (hg : SimN K Γ xa us tg mg) (ht : SimT K Γ xa noW t mt) (he : SimE K Γ xa noW te me) (hu : ∀ i ∈ us, i ∈ vs := by decide) : SimF K Γ xa W (tLc wi tg t te vs) (mLc mi mg mt me vs) := ⟨fun w0 w σ δ Q o e n p =>
  hi.run w0 w σ δ _ o e n (p.then fun ds w1 o1 e1 p1 J it Dd hD => by
    let okF : D → Wd → Prop := fun d w' => ∀ a, OwnAt K Γ w w' d a → Q (.ref a) w'.H
    refine ⟨fun i m H => m = ds.length - i ∧ i ≤ ds.length ∧ ∃ w' acc, w'.H = H ∧ Ok K Γ w' ∧ Ev w1 w' ∧ OwnAt K Γ w1 w' (.lst acc) Dd ∧ acc.length ≤ i ∧
        Post K Γ (bnd (mLcL mg mt me (mwipe δ vs) (ds.drop i) w'.S) fun ys S => .ok (D.lst (acc ++ ys)) S) w1 okF (XW K Γ W σ), ⟨_, rfl, Nat.zero_le _, wPut w1 Dd (.lst []), [], rfl, ok_put o1 (r_none o1 hD) (not_live o1 hD), ev_put (Ev.refl _) hD, own_new o1 hD ⟨[], upd_same, by decide, reps_nil⟩, Nat.le_refl _, p1⟩, ?_⟩
    rintro i m H ⟨rfl, hi, w', acc, rfl, o', e', oa, hacc, p'⟩
    rcases Nat.lt_or_ge i ds.length with hlt | hge
    · refine .inr ⟨it.go w' i o' e' hlt, _, fun _ h => h, fun x H' y => ?_⟩
      obtain ⟨w2, d, rfl, hs2, o2, e2, hd, rx⟩ := it.yld w' i x H' o' e' hlt y
      have hdr : ds.drop i = d :: ds.drop (i + 1) := by
        rw [List.drop_eq_getElem_cons hlt]
        congr 1
        exact Option.some.inj ((List.getElem?_eq_getElem hlt).symm.trans hd)
      rw [hdr] at p'
      unfold mLcL at p'
      have n2 : EnvOk K Γ xa w0 w2 (wipe σ vs) (mwipe δ vs) := (((n.ev e1).ev e').ev e2).wipe vs
      have ev02 : Ev w0 w2 := ((e.trans e1).trans e').trans e2
      refine hg.run w0 w2 _ _ d x _ o2 n2 rx ?_
      cases zg : mg d (mwipe δ vs) with
      | none => rw [zg] at p'; exact p'
      | some δ1 =>
        rw [zg] at p'
        dsimp only at p'
        rw [← hs2, bnd_assoc] at p'
        intro σ1 n1 hl1 hk1
        refine ⟨(wipe_same hl1 hk1 hu).trans (wipe_wipe vs), ?_⟩
        refine ht.run w0 w2 σ1 δ1 _ o2 ev02 n1 (Post.noX ((Post.ev p' (e'.trans e2)).thenE fun b w3 q3 o3 e3 p3 => ?_))
        have oa3 := (oa.ev e2).ev e3
        have m1 : ds.length - (i + 1) < ds.length - i := by omega
        rw [q3] at p'
        cases b with
        | false =>
          rw [if_neg (by simp)]
          exact ⟨_, m1, rfl, hlt, w3, acc, rfl, o3, (e'.trans e2).trans e3, oa3, by omega, p'⟩
        | true =>
          rw [if_pos rfl]
          have p3' : Post K Γ (bnd (bnd (noX (me δ1 w3.S)) fun y S => bnd (mLcL mg mt me (mwipe δ vs) (ds.drop (i + 1)) S) fun ys S => .ok (y :: ys) S) fun ys S => .ok (D.lst (acc ++ ys)) S) w1 okF (XW K Γ W σ) := p'
          rw [bnd_assoc] at p3'
          refine he.run w0 w3 σ1 δ1 _ o3 (ev02.trans e3) (n1.ev e3) (Post.noX ((Post.ev p3' ((e'.trans e2).trans e3)).thenE fun yd w4 q4 o4 e4 p4 v r4 => ?_))
          rw [q4] at p3'
          have oa4 := oa3.ev e4
          obtain ⟨va, h1, h2, h3⟩ := oa4.at_
          have hal := reps_len h3
          have hlen : va.length < sizeLine := by have := it.len; omega
          refine ⟨va, h1, hlen, _, m1, rfl, hlt, wPut w4 Dd (.lst (va ++ [v])), acc ++ [yd], rfl, ok_put o4 oa4.r oa4.nl, ?_, ?_, by rw [List.length_append]; simp; omega, ?_⟩
          · exact ev_put (((e'.trans e2).trans e3).trans e4) oa4.new
          · exact ⟨oa4.new, oa4.r, oa4.nl, va ++ [v], upd_same, by rw [List.length_append]; simp; omega, reps_app h3 (reps_cons r4 reps_nil)⟩
          · have p5 : Post K Γ (bnd (bnd (mLcL mg mt me (mwipe δ vs) (ds.drop (i + 1)) w4.S) fun ys S => .ok (yd :: ys) S) fun ys S => .ok (D.lst (acc ++ ys)) S) w1 okF (XW K Γ W σ) := p3'
            rw [bnd_assoc] at p5
            have e6 : (fun (ys : List D) (S : Sto) => bnd (.ok (yd :: ys) S) fun ys S => Out.ok (D.lst (acc ++ ys)) S) = fun ys S => Out.ok (D.lst ((acc ++ [yd]) ++ ys)) S := by
              funext ys S
              show Out.ok (D.lst (acc ++ (yd :: ys))) S = _
              rw [List.append_assoc]; rfl
            rw [e6] at p5
            exact p5
    · have hi' : i = ds.length := by omega
      subst hi'
      refine .inl ⟨it.stop w' o' e', ?_⟩
      rw [List.drop_length] at p'
      have p2 : Post K Γ (.ok (D.lst (acc ++ [])) w'.S) w1 okF (XW K Γ W σ) := p'
      rw [List.append_nil] at p2
      exact p2.at rfl o' e' _ (own_back e1 oa))⟩
end
end MR

namespace MR
open PySem PySem.Spec PyProof.Rows L2 TP
section
variable {K : PySem.W.Frag} {Γ : Gm} {xa : XT} {W : WX} {te ta tb to ti tv : TE} {me ma mb mo mk mv : ME} {w w' w0 w1 : Wd} {t u : TT} {mt mu : MT} {ts us : TS} {ms mus : MS} {Dn : Ends} {tl : TA} {ml : MA} {n : Nat}
theorem own_put {d d' : D} {a : Addr} {o : HO} (h : OwnAt K Γ w0 w d a) (at_ : At K Γ (wPut w a o) d' a) : OwnAt K Γ w0 (wPut w a o) d' a := ⟨h.new, h.r, h.nl, at_⟩
theorem EnvOk.put {σ : L2.St} {δ : Env} {i : Nat} {fb : Bool} {d d' : D} {a : Addr} {o : HO} (h : EnvOk K Γ xa w0 w σ δ) (hd : δ[i]? = some (.own fb d)) (hs : σ[i]? = some (some (.ref a))) (oa : OwnAt K Γ w0 w d a) (at_ : At K Γ (wPut w a o) d' a) : EnvOk K Γ xa w0 (wPut w a o) σ (δ.set i (.own fb d')) := by
  have hi := (List.getElem?_eq_some_iff.mp hd).1
  refine ⟨by rw [List.length_set]; exact h.len, fun j x s hx hs' => ?_, fun j k fa fc e f b q1 q2 q3 q4 => ?_⟩
  · rw [List.getElem?_set] at hs'
    by_cases q : i = j
    · subst q
      rw [if_pos rfl, if_pos hi] at hs'
      cases hs'
      rw [hs] at hx
      cases hx
      refine ⟨a, rfl, own_put oa at_, ?_⟩
      obtain ⟨x, hx', a', q1, _, q3⟩ := h.get hd
      rw [hs] at hx'
      cases hx'
      cases q1
      exact q3
    · rw [if_neg q] at hs'
      have z := h.ok j x s hx hs'
      cases s with
      | no => trivial
      | val e => exact z
      | own fe e =>
        obtain ⟨b, q1, q2, q3⟩ := z
        have nb : b ≠ a := fun y => q (h.sep i j fb fe d e a hd hs' hs (by rw [hx, q1, y]))
        refine ⟨b, q1, ⟨q2.new, q2.r, q2.nl, ?_⟩, q3⟩
        exact at_mv (w' := wPut w a o) q2.at_ (fun u hu => by show upd w.H a o b = _; rw [upd_ne nb]; exact hu) (fun _ _ e => e) List.prefix_rfl
      | exn => exact z
  · have own : ∀ (m : Nat) (fg : Bool) (g : D), (δ.set i (Slot.own fb d'))[m]? = some (Slot.own fg g) → ∃ fg' g', δ[m]? = some (Slot.own fg' g') := fun m fg g q => by
      rw [List.getElem?_set] at q
      by_cases z : i = m
      · subst z; exact ⟨fb, d, hd⟩
      · rw [if_neg z] at q; exact ⟨fg, g, q⟩
    obtain ⟨fe, e', z1⟩ := own j fa e q1
    obtain ⟨ff, f', z2⟩ := own k fc f q2
    exact h.sep j k fe ff e' f' b z1 z2 q3 q4
/-- x.append(e) -/
def mAppend (i : Nat) (me : ME) : MS := fun δ S => match δ[i]? with
  | some (.own fb (.lst ds)) => bndS (me δ S) δ fun d S => if ds.length < 16777216 then .ok (.nx (δ.set i (.own fb (.lst (ds ++ [d]))))) S else .bad
  | _ => .bad
theorem tyV_list {H : Hp} {a : Addr} {xs : List V} (h : SqL K H a xs) : tyV K "list" (.ref a) H := .inl ⟨rfl, xs, h⟩
theorem sim_append {i : Nat} (h : SimE K Γ xa W te me) : SimS K Γ xa W (tDrop (tBM K "list" rAppend (tVar i) (tCons te tNil))) (mAppend i me) := ⟨fun w0 w σ δ Dn o e n p => by
  unfold mAppend at p
  split at p
  · rename_i fb ds hd
    obtain ⟨a, hx, oa0⟩ := n.own hd
    obtain ⟨vs0, h20, _, _⟩ := oa0.at_
    refine ⟨_, hx, tyV_list (SqL.of h20), ?_⟩
    refine h.run w0 w σ δ _ o e n (p.then e n fun d w1 o1 e1 p1 v r1 => ?_)
    show rAppend (.ref a) [v] w1.H fun _ H1 => Dn.nx σ H1
    have oa := oa0.ev e1
    obtain ⟨vs, h2, h3, h4⟩ := oa.at_
    split at p1
    · rename_i hl
      have hl' : vs.length < sizeLine := by rw [← reps_len h4]; exact hl
      refine ⟨a, vs, v, rfl, rfl, h2, hl', ?_⟩
      have at' : At K Γ (wPut w1 a (.lst (vs ++ [v]))) (.lst (ds ++ [d])) a := ⟨vs ++ [v], upd_same, by rw [List.length_append]; simp; omega, reps_app h4 (reps_cons r1 reps_nil)⟩
      exact p1 (wPut w1 a (.lst (vs ++ [v]))) σ rfl (ok_put o1 oa.r oa.nl) (ev_put (e.trans e1) oa.new) ⟨fun _ _ z => z, List.prefix_rfl⟩ ((n.ev e1).put hd hx oa at')
    · exact False.elim p1
  · exact False.elim p⟩
/-- x[k] = e -/
def mSetI (i : Nat) (me mk : ME) : MS := fun δ S => match δ[i]? with
  | some (.own fb (.lst ds)) => bndS (me δ S) δ fun d S => bndS (mk δ S) δ fun k S => match k with
    | .int k => match ixN ds.length k with
      | some j => .ok (.nx (δ.set i (.own fb (.lst (ds.set j d))))) S
      | none => .bad
    | _ => .bad
  | _ => .bad
theorem cel_at {m : Nat} {d : D} {v : V} (o : Ok K Γ w) (h : w.S[m]? = some (some d)) (r : Rep K Γ w (.ref m) v) : ∃ a, v = .ref a ∧ w.ρ[m]? = some a ∧ At K Γ w d a := by
  simp only [Rep, RepC] at r
  obtain ⟨a, h1, h2⟩ := r
  obtain ⟨b, h3, _, h4⟩ := o.cell m d h
  rw [h1] at h3
  cases h3
  exact ⟨a, h2, h1, h4⟩
/-- o[k] = e, o a list in the store -/
def mSetC (me mo mk : ME) : MS := fun δ S => bndS (me δ S) δ fun d S => bndS (mo δ S) δ fun x S => bndS (mk δ S) δ fun k S => match x, k with
  | .ref m, .int k => match S[m]? with
    | some (some (.lst ds)) => match ixN ds.length k with
      | some j => .ok (.nx δ) (S.set m (some (.lst (ds.set j d))))
      | none => .bad
    | _ => .bad
  | _, _ => .bad
theorem sim_setC (h : SimE K Γ xa W te me) (ho : SimE K Γ xa W to mo) (g : SimE K Γ xa W ti mk) : SimS K Γ xa W (tAsg te (gSub to ti rSetL)) (mSetC me mo mk) := ⟨fun w0 w σ δ Dn o e n p => by
  refine h.run w0 w σ δ _ o e n (p.then e n fun d w1 o1 e1 p1 v r1 => ?_)
  refine ho.run w0 w1 σ δ _ o1 (e.trans e1) (n.ev e1) (p1.then (e.trans e1) (n.ev e1) fun x w2 o2 e2 p2 u r2 => ?_)
  have e12 := e1.trans e2
  refine g.run w0 w2 σ δ _ o2 (e.trans e12) (n.ev e12) (p2.then (e.trans e12) (n.ev e12) fun k w3 o3 e3 p3 z r3 => ?_)
  have e13 := e12.trans e3
  split at p3
  · rename_i m kk
    split at p3
    · rename_i ds hm
      obtain ⟨a, rfl, ha, vs, h2, h3, h4⟩ := cel_at o3 hm (Rep.ev r2 e3)
      split at p3
      · rename_i j hj
        rw [rep_int r3]
        refine ⟨a, vs, kk, j, rfl, rfl, h2, by rw [← reps_len h4]; exact hj, ?_⟩
        have r1' : Rep K Γ w3 d v := Rep.ev r1 (e2.trans e3)
        have at' : At K Γ (wCel w3 m a (.lst (vs.set j v)) (some (.lst (ds.set j d)))) (.lst (ds.set j d)) a := ⟨vs.set j v, upd_same, by rw [List.length_set]; exact h3, reps_set j h4 r1'⟩
        have ev := ev_cel (o := .lst (vs.set j v)) (d := some (.lst (ds.set j d))) o3 hm ha
        exact p3 _ σ rfl (ok_cel o3 hm ha at') ((e.trans e13).trans ev) ev.gr ((n.ev e13).ev ev)
      · exact False.elim p3
    · exact False.elim p3
  · exact False.elim p3⟩
theorem lookup_zip {f : Str} : ∀ {ns : List Str} {ds : List D} {vs : List V} {d : D}, Reps K Γ w ds vs → (ns.zip ds).lookup f = some d → ∃ v, (ns.zip vs).lookup f = some v ∧ Rep K Γ w d v
  | [], ds, vs, d, _, e => by simp at e
  | m :: ns, [], vs, d, _, e => by simp at e
  | m :: ns, d' :: ds, vs, d, r, e => by
    obtain ⟨v, ws, rfl, r1, r2⟩ := reps_inv r
    rw [List.zip_cons_cons, List.lookup_cons] at e ⊢
    cases q : f == m with
    | true => rw [q] at e; cases e; exact ⟨v, rfl, r1⟩
    | false => rw [q] at e; exact lookup_zip r2 e
def mGetF (c : Nat) (f : Str) (ma : ME) : ME := fun δ S => bnd (ma δ S) fun d S => match objOf S d with
  | some (c', ns, ds) => if c' = c then match (ns.zip ds).lookup f with
      | some x => .ok x S
      | none => .bad
    else .bad
  | none => .bad
theorem sim_getF {c : Nat} {C : Addr} {f : Str} (hc : Γ c = C) (h : SimP K Γ xa W ta ma) : SimE K Γ xa W (tGetF C f ta) (mGetF c f ma) := ⟨fun w0 w σ δ Q o e n p =>
  h.run w0 w σ δ _ o e n (p.then fun d w1 o1 e1 p1 v r1 => by
    split at p1
    · rename_i c' ns ds q
      obtain ⟨a, dx, vs, rfl, h2, h3, h4⟩ := objOf_ok o1 r1 q
      split at p1
      · rename_i z
        split at p1
        · rename_i x l
          obtain ⟨u, l2, r2⟩ := lookup_zip h4 l
          rw [z, hc] at h2
          exact ⟨a, dx, _, u, rfl, h2, l2, Post.now p1 o1 u r2⟩
        · exact False.elim p1
      · exact False.elim p1
    · exact False.elim p1)⟩
def putN (f : Str) : List Str → List Str
  | [] => [f]
  | g :: r => if g = f then g :: r else g :: putN f r
def putX {α : Type} (f : Str) (y : α) : List Str → List α → List α
  | [], _ => [y]
  | g :: r, x :: xs => if g = f then y :: xs else x :: putX f y r xs
  | _ :: _, [] => []
theorem putF_zip {f : Str} {y : V} : ∀ {ns : List Str} {vs : List V}, ns.length = vs.length → putF f y (ns.zip vs) = (putN f ns).zip (putX f y ns vs) ∧ (putN f ns).length = (putX f y ns vs).length
  | [], [], _ => ⟨rfl, rfl⟩
  | g :: ns, x :: vs, h => by
    have ih := putF_zip (f := f) (y := y) (ns := ns) (vs := vs) (by simpa using h)
    rw [List.zip_cons_cons]
    unfold putF putN putX
    by_cases q : g = f
    · rw [if_pos q, if_pos q, if_pos q]
      exact ⟨rfl, by simpa using h⟩
    · rw [if_neg q, if_neg q, if_neg q]
      exact ⟨by rw [List.zip_cons_cons, ih.1], by rw [List.length_cons, List.length_cons, ih.2]⟩
theorem putX_reps {f : Str} {d : D} {v : V} (rv : Rep K Γ w d v) : ∀ {ns : List Str} {ds : List D} {vs : List V}, ns.length = vs.length → Reps K Γ w ds vs → Reps K Γ w (putX f d ns ds) (putX f v ns vs)
  | [], [], [], _, _ => reps_cons rv reps_nil
  | [], d' :: ds, [], _, r => by obtain ⟨_, _, q, _⟩ := reps_inv r; cases q
  | g :: ns, ds, x :: vs, h, r => by
    cases ds with
    | nil => simp only [Reps, RepsC] at r; cases r
    | cons d' ds =>
      obtain ⟨_, _, q, r1, r2⟩ := reps_inv r
      cases q
      unfold putX
      by_cases z : g = f
      · rw [if_pos z, if_pos z]; exact reps_cons rv r2
      · rw [if_neg z, if_neg z]; exact reps_cons r1 (putX_reps rv (by simpa using h) r2)
/-- self.f = e, while self is being made -/
def mSetFO (i c : Nat) (f : Str) (mv : ME) : MS := fun δ S => match δ[i]? with
  | some (.own fb (.obj c' ns ds)) => bndS (mv δ S) δ fun d S => if c' = c ∧ ns.length < 1000 then .ok (.nx (δ.set i (.own fb (.obj c (putN f ns) (putX f d ns ds))))) S else .bad
  | _ => .bad
theorem sim_setFO {i c : Nat} {C : Addr} {f : Str} (hc : Γ c = C) (h : SimE K Γ xa W tv mv) : SimS K Γ xa W (tSetF C f (tVar i) tv) (mSetFO i c f mv) := ⟨fun w0 w σ δ Dn o e n p => by
  unfold mSetFO at p
  split at p
  · rename_i fb c' ns ds hd
    obtain ⟨a, hx, oa0⟩ := n.own hd
    refine h.run w0 w σ δ _ o e n (p.then e n fun d w1 o1 e1 p1 v r1 => ?_)
    refine ⟨_, hx, ?_⟩
    have oa := oa0.ev e1
    obtain ⟨dx, vs, h2, h3, h4⟩ := oa.at_
    split at p1
    · rename_i z
      obtain ⟨rfl, hl⟩ := z
      rw [hc] at h2
      refine ⟨a, dx, _, rfl, h2, by rw [List.length_zip]; omega, ?_⟩
      obtain ⟨z1, z2⟩ := putF_zip (f := f) (y := v) h3
      have at' : At K Γ (wPut w1 a (.ins C dx (putF f v (ns.zip vs)))) (.obj c' (putN f ns) (putX f d ns ds)) a := ⟨dx, putX f v ns vs, by rw [hc, ← z1]; exact upd_same, z2, putX_reps (w := wPut w1 a (.ins C dx (putF f v (ns.zip vs)))) r1 h3 h4⟩
      exact p1 (wPut w1 a (.ins C dx (putF f v (ns.zip vs)))) σ rfl (ok_put o1 oa.r oa.nl) (ev_put (e.trans e1) oa.new) ⟨fun _ _ z => z, List.prefix_rfl⟩ ((n.ev e1).put hd hx oa at')
    · exact False.elim p1
  · exact False.elim p⟩
end
end MR

namespace MR
open PySem PySem.Spec PyProof.Rows L2 TP
abbrev MF := List D → Sto → Out D
section
variable (K : PySem.W.Frag) (Γ : Gm)
/-- an error as it leaves a def -/
def XE' (E : XK) : XP := fun w c ns ds => ∀ d, XD K Γ w d ns ds → E (.ref (Γ c)) d w.H
/-- the promise of a def whose mirror is m, of n parameters -/
def spM (n : Nat) (m : MF) : Sp := fun vs H Q E => ∃ (w : Wd) (ds : List D), w.H = H ∧ Ok K Γ w ∧ Reps K Γ w ds vs ∧ ds.length = n ∧ Post K Γ (m ds w.S) w (fun d w' => ∀ v, Rep K Γ w' d v → Q v w'.H) (XE' K Γ E)
abbrev MI := List D → Sto → Out (List Str × List D)
/-- the promise of an __init__ of a class whose things never change once they are made; n: without self -/
def spI (c n : Nat) (m : MI) : Sp := fun vs H Q E => ∃ (x : Addr) (us : List V) (w0 w : Wd) (ds : List D), vs = .ref x :: us ∧ w.H = H ∧ Ok K Γ w ∧ Ev w0 w ∧ OwnAt K Γ w0 w (.obj c [] []) x ∧ Reps K Γ w ds us ∧ ds.length = n ∧
  match m ds w.S with
  | .ok p S => ∀ w', w'.S = S → Ok K Γ w' → Ev w0 w' → Gr w w' → OwnAt K Γ w0 w' (.obj c p.1 p.2) x → Q .non w'.H
  | .ex c' ns ds S => ∀ w', w'.S = S → Ok K Γ w' → Ev w0 w' → Gr w w' → XE' K Γ E w' c' ns ds
  | .bad => False
end
section
variable {K : PySem.W.Frag} {Γ : Gm} {xa : XT} {W : WX} {te ta tb to ti tv : TE} {me ma mb mo mk mv : ME} {w w' w0 w1 : Wd} {t u : TT} {mt mu : MT} {ts us : TS} {ms mus : MS} {Dn : Ends} {tl : TA} {ml : MA} {n : Nat} {m : MF}
theorem spM_len {vs : List V} {H : Hp} {Q : VK} {E : XK} (h : spM K Γ n m vs H Q E) : vs.length = n := by
  obtain ⟨w, ds, _, _, h3, h4, _⟩ := h
  rw [← reps_len h3]; exact h4
theorem spI_len {c : Nat} {m : MI} {vs : List V} {H : Hp} {Q : VK} {E : XK} (h : spI K Γ c n m vs H Q E) : vs.length = n + 1 := by
  obtain ⟨x, us, w0, w, ds, rfl, _, _, _, _, h3, h4, _⟩ := h
  rw [List.length_cons, ← reps_len h3, h4]
def mCall (n : Nat) (m : MF) (ml : MA) : ME := fun δ S => bnd (ml δ S) fun ds S => m ds S
theorem sim_call (h : SimA K Γ xa W n tl ml) : SimE K Γ xa W (tCallZ (spM K Γ n m) W tl) (mCall n m ml) := ⟨fun w0 w σ δ Q o e nn p =>
  h.run w0 w σ δ _ o e nn ((post_len (p.then (ok' := fun ds w1 => Ok K Γ w1 ∧ Post K Γ (m ds w1.S) w1 (fun d w' => ∀ v, Rep K Γ w' d v → Q v w'.H) (XW K Γ W σ)) fun ds w1 o1 e1 p1 => ⟨o1, p1⟩)).mono (fun ds w1 o1 e1 q vs rs => by
    obtain ⟨⟨S, hS⟩, _, p1⟩ := q
    exact ⟨w1, ds, rfl, o1, rs, h.len _ _ _ _ hS, p1⟩) fun _ _ _ _ _ _ x => x)⟩
/-- an argument list whose length is not written -/
structure SimAs (K : PySem.W.Frag) (Γ : Gm) (xa : XT) (W : WX) (ta : TA) (ma : MA) : Prop where
  run : ∀ (w0 w : Wd) (σ : L2.St) (δ : Env) (Q : List V → Hp → Prop), Ok K Γ w → Ev w0 w → EnvOk K Γ xa w0 w σ δ → Post K Γ (ma δ w.S) w (fun ds w' => ∀ vs, Reps K Γ w' ds vs → Q vs w'.H) (XW K Γ W σ) → ta σ w.H Q
theorem lookup_none {α β : Type} {f : Str} : ∀ {ns : List Str} {ds : List α} {vs : List β}, ds.length = vs.length → (ns.zip ds).lookup f = none → (ns.zip vs).lookup f = none
  | [], ds, vs, _, e => by simp
  | m :: ns, [], [], _, e => by simp
  | m :: ns, d' :: ds, v :: vs, r, e => by
    rw [List.zip_cons_cons, List.lookup_cons] at e ⊢
    cases q : f == m with
    | true => rw [q] at e; cases e
    | false => rw [q] at e; exact lookup_none (by simpa using r) e
/-- o.m(..) -/
def mMeth (c : Nat) (f : Str) (n : Nat) (m : MF) (ma : ME) (ml : MA) : ME := fun δ S => bnd (ma δ S) fun d S => match objOf S d with
  | some (c', ns, ds) => if c' = c ∧ (ns.zip ds).lookup f = none then bnd (ml δ S) fun as S => m (d :: as) S else .bad
  | none => .bad
theorem zip_len_none {f : Str} {ns : List Str} {ds : List D} {vs : List V} (r : Reps K Γ w ds vs) (h : (ns.zip ds).lookup f = none) : (ns.zip vs).lookup f = none := lookup_none (reps_len r) h
theorem sim_meth {c : Nat} {C : Addr} {f : Str} (hc : Γ c = C) (ha : SimE K Γ xa W ta ma) (h : SimA K Γ xa W n tl ml) : SimE K Γ xa W (tMethZ C f (spM K Γ (n + 1) m) W ta tl) (mMeth c f n m ma ml) := ⟨fun w0 w σ δ Q o e nn p =>
  ha.run w0 w σ δ _ o e nn (p.then fun d w1 o1 e1 p1 v r1 => by
    split at p1
    · rename_i c' ns ds q
      obtain ⟨a, dx, vs, rfl, h2, h3, h4⟩ := objOf_ok o1 (.inl r1) q
      split at p1
      · rename_i z
        rw [z.1, hc] at h2
        refine ⟨a, dx, _, rfl, h2, zip_len_none h4 z.2, ?_⟩
        refine h.run w0 w1 σ δ _ o1 (e.trans e1) (nn.ev e1) ((post_len (p1.then (ok' := fun as w2 => Post K Γ (m (d :: as) w2.S) w2 (fun d w' => ∀ v, Rep K Γ w' d v → Q v w'.H) (XW K Γ W σ)) fun as w2 o2 e2 p2 => p2)).mono (fun as w2 o2 e2 q us rs => ?_) fun _ _ _ _ _ _ x => x)
        obtain ⟨⟨S, hS⟩, p2⟩ := q
        exact ⟨w2, d :: as, rfl, o2, reps_cons (Rep.ev r1 e2) rs, by rw [List.length_cons, h.len _ _ _ _ hS], p2⟩
      · exact False.elim p1
    · exact False.elim p1)⟩
/-- C(..): a thing that never changes once it is made -/
def mNew (c : Nat) (m : MI) (ml : MA) (dds : List D) : ME := fun δ S => bnd (ml δ S) fun ds S => bnd (m (ds ++ dds) S) fun p S => .ok (.obj c p.1 p.2) S
theorem sim_new {c k : Nat} {C : Addr} {m : MI} {dds : List D} {dvs : List V} (hc : Γ c = C) (h : SimA K Γ xa W n tl ml) (hd : ∀ w, Reps K Γ w dds dvs) (hk : n + dds.length = k := by rfl) : SimF K Γ xa W (tNew C (spI K Γ c k m) W dvs tl) (mNew c m ml dds) := ⟨fun w0 w σ δ Q o e nn p =>
  h.run w0 w σ δ _ o e nn ((post_len (p.then (ok' := fun ds w1 => Post K Γ (bnd (m (ds ++ dds) w1.S) fun p S => .ok (D.obj c p.1 p.2) S) w1 (fun d w' => ∀ a, OwnAt K Γ w w' d a → Q (.ref a) w'.H) (XW K Γ W σ)) fun ds w1 o1 e1 p1 => p1)).mono (fun ds w1 o1 e1 q vs rs x dx hx hdx ne => by
    obtain ⟨⟨S, hS⟩, p1⟩ := q
    have o2 : Ok K Γ (wPut w1 dx (.own x)) := ok_put o1 (r_none o1 hdx) (not_live o1 hdx)
    have e2 : Ev w1 (wPut w1 dx (.own x)) := ev_put (Ev.refl _) hdx
    have hx2 : (wPut w1 dx (.own x)).H x = none := by show upd w1.H dx _ x = none; rw [upd_ne ne.symm]; exact hx
    have o3 : Ok K Γ (wPut (wPut w1 dx (.own x)) x (.ins C dx [])) := ok_put o2 (r_none o2 hx2) (not_live o2 hx2)
    have e3 : Ev w1 (wPut (wPut w1 dx (.own x)) x (.ins C dx [])) := ev_put e2 hx
    refine ⟨x, vs ++ dvs, w1, wPut (wPut w1 dx (.own x)) x (.ins C dx []), ds ++ dds, rfl, rfl, o3, e3, ⟨hx, (r_none o1 hx : w1.R x = none), fun l => not_live o1 hx l, dx, [], by rw [hc]; exact upd_same, rfl, reps_nil⟩, Reps.ev (reps_app rs (hd w1)) e3, by rw [List.length_append, h.len _ _ _ _ hS]; exact hk, ?_⟩
    have p2 : Post K Γ (bnd (m (ds ++ dds) w1.S) fun p S => .ok (D.obj c p.1 p.2) S) w1 (fun d w' => ∀ a, OwnAt K Γ w w' d a → Q (.ref a) w'.H) (XW K Γ W σ) := p1
    show match m (ds ++ dds) w1.S with | .ok p S => _ | .ex c' ns ds S => _ | .bad => _
    cases z : m (ds ++ dds) w1.S with
    | ok pr S =>
      rw [z] at p2
      exact fun w' hs ho he hg oa => ⟨rfl, p2 w' hs ho he _ (own_back e1 oa)⟩
    | ex c' ns es S =>
      rw [z] at p2
      exact fun w' hs ho he hg => p2 w' hs ho he
    | bad => rw [z] at p2; exact p2) fun _ _ _ _ _ _ x => x)⟩
def mRaise (c : Nat) (f : Str) (ml : MA) : MS := fun δ S => bndS (ml δ S) δ fun ds S => .ok (.ex c [f] ds δ) S
theorem sim_raise {c : Nat} {C : Addr} {f : Str} (hc : Γ c = C) (h : SimA K Γ xa W 1 tl ml) : SimS K Γ xa W (tRaise C f W tl) (mRaise c f ml) := ⟨fun w0 w σ δ Dn o e n p =>
  h.run w0 w σ δ _ o e n ((post_len (p.then e n (ok := fun ds w1 => PostS K Γ xa W (.ok (.ex c [f] ds δ) w1.S) w0 w1 Dn) fun ds w1 o1 e1 p1 => p1)).mono (fun ds w1 o1 e1 q vs rs => by
    obtain ⟨⟨S, hS⟩, p1⟩ := q
    have hl := h.len _ _ _ _ hS
    match ds, hl with
    | [d], _ =>
      obtain ⟨v, rfl, r⟩ := reps1 rs
      refine ⟨v, rfl, fun dd hdd => ?_⟩
      have ev := ev_frz (o := .xd [(f, v)]) o1 hdd
      have := p1 (wFrz w1 dd (.xd [(f, v)])) σ rfl (ok_frz o1 hdd) ((e.trans e1).trans ev) ev.gr (((n.ev e1).ev ev)) (some dd) (.inl ⟨dd, [v], rfl, upd_same, rfl, reps_cons (Rep.ev r ev) reps_nil⟩)
      rw [hc] at this
      exact this) fun _ _ _ _ _ _ x => x)⟩
def fin (o : Out Fl) : Out D := match o with
  | .ok (.nx _) S => .ok .non S
  | .ok (.rt d) S => .ok d S
  | .ok (.ex c ns ds _) S => .ex c ns ds S
  | _ => .bad
def startD (N : Nat) (ds : List D) : Env := ds.map Slot.val ++ List.replicate (N - ds.length) .no
def mRun (N : Nat) (ms : MS) : MF := fun ds S => fin (ms (startD N ds) S)
theorem startD_ok {N : List Str} {ds : List D} {vs : List V} (r : Reps K Γ w ds vs) : EnvOk K Γ xa w0 w (start N vs) (startD N.length ds) := by
  have hl := reps_len r
  refine ⟨by simp [L2.start, startD, hl], fun i x s h1 h2 => ?_, fun i j b c d e a h1 _ _ _ => ?_⟩
  · unfold L2.start at h1
    unfold startD at h2
    rcases Nat.lt_or_ge i ds.length with q | q
    · rw [List.getElem?_append_left (by rw [List.length_map]; omega), List.getElem?_map] at h1
      rw [List.getElem?_append_left (by rw [List.length_map]; exact q), List.getElem?_map] at h2
      cases z : ds[i]? with
      | none => rw [z] at h2; cases h2
      | some d =>
        rw [z] at h2
        cases h2
        obtain ⟨v, hv, rv⟩ := reps_get r z
        rw [hv] at h1
        cases h1
        exact ⟨v, rfl, rv⟩
    · rw [List.getElem?_append_right (by rw [List.length_map]; exact q)] at h2
      rw [List.getElem?_replicate] at h2
      split at h2 <;> cases h2
      trivial
  · unfold startD at h1
    rcases Nat.lt_or_ge i ds.length with q | q
    · rw [List.getElem?_append_left (by rw [List.length_map]; exact q), List.getElem?_map] at h1
      cases z : ds[i]? with
      | none => rw [z] at h1; cases h1
      | some d => rw [z] at h1; cases h1
    · rw [List.getElem?_append_right (by rw [List.length_map]; exact q), List.getElem?_replicate] at h1
      split at h1 <;> cases h1
theorem spM_run {N : List Str} {ts : TS} {E : XK} {vs : List V} {H : Hp} {Q : VK} (hb : SimS K Γ xa (wOut E) ts ms) (h : spM K Γ n (mRun N.length ms) vs H Q E) : ts { nx := fun _ H' => Q .non H', rt := Q } (start N vs) H := by
  obtain ⟨w, ds, rfl, o, r, hn, p⟩ := h
  refine hb.run w w _ _ _ o (Ev.refl w) (startD_ok r) ?_
  unfold mRun fin at p
  cases z : ms (startD N.length ds) w.S with
  | ex => rw [z] at p; exact False.elim p
  | bad => rw [z] at p; exact False.elim p
  | ok f S =>
    rw [z] at p
    cases f with
    | nx δ => exact fun w' σ hs ho he hg hn => p w' hs ho he _ rfl
    | rt d => exact fun w' v hs ho he hg rv => p w' hs ho he v rv
    | bk => exact False.elim p
    | ct => exact False.elim p
    | ex c ns es δ => exact fun w' σ hs ho he hg hn dx hx => p w' hs ho he dx hx
def finI (c : Nat) (o : Out Fl) : Out (List Str × List D) := match o with
  | .ok (.nx δ) S => match δ with
    | .own true (.obj c' ns ds) :: _ => if c' = c then .ok (ns, ds) S else .bad
    | _ => .bad
  | .ok (.ex c ns ds _) S => .ex c ns ds S
  | _ => .bad
/-- an __init__ by its own road -/
def mRunI (N c : Nat) (ms : MS) : MI := fun ds S => finI c (ms (.own true (.obj c [] []) :: startD (N - 1) ds) S)
theorem EnvOk.consOwn {σ : L2.St} {δ : Env} {d : D} {a : Addr} (h : EnvOk K Γ xa w0 w σ δ) (r : OwnAt K Γ w0 w d a) (ha : a = xa.s) (no : ∀ (j : Nat) (f : Bool) (e : D), δ[j]? ≠ some (Slot.own f e)) : EnvOk K Γ xa w0 w (some (V.ref a) :: σ) (Slot.own true d :: δ) := by
  refine ⟨by rw [List.length_cons, List.length_cons, h.len], fun i x s h1 h2 => ?_, fun i j fb fc e f b h1 h2 _ _ => ?_⟩
  · cases i with
    | zero => cases h1; cases h2; exact ⟨a, rfl, r, fun _ => ha⟩
    | succ i => exact h.ok i x s (by simpa using h1) (by simpa using h2)
  · cases i with
    | zero =>
      cases j with
      | zero => rfl
      | succ j => exact absurd (by simpa using h2) (no j fc f)
    | succ i => exact absurd (by simpa using h1) (no i fb e)
theorem startD_no {N : Nat} {ds : List D} (j : Nat) (f : Bool) (e : D) : (startD N ds)[j]? ≠ some (Slot.own f e) := fun h1 => by
  unfold startD at h1
  rcases Nat.lt_or_ge j ds.length with q | q
  · rw [List.getElem?_append_left (by rw [List.length_map]; exact q), List.getElem?_map] at h1
    cases z : ds[j]? with
    | none => rw [z] at h1; cases h1
    | some d => rw [z] at h1; cases h1
  · rw [List.getElem?_append_right (by rw [List.length_map]; exact q), List.getElem?_replicate] at h1
    split at h1 <;> cases h1
theorem spI_run {N : List Str} {x0 : Str} {c : Nat} {ts : TS} {E : XK} {vs : List V} {H : Hp} {Q : VK} (hb : ∀ xa, SimS K Γ xa (wOut E) ts ms) (h : spI K Γ c n (mRunI (x0 :: N).length c ms) vs H Q E) : ts { nx := fun _ H' => Q .non H', rt := Q } (L2.start (x0 :: N) vs) H := by
  obtain ⟨x, us, w0, w, ds, rfl, rfl, o, e, oa, r, hn, p⟩ := h
  have es : L2.start (x0 :: N) (V.ref x :: us) = some (V.ref x) :: L2.start N us := by
    unfold L2.start
    rw [List.map_cons, List.length_cons, List.length_cons, Nat.add_sub_add_right]
    rfl
  rw [es]
  refine (hb ⟨0, .none, none, x⟩).run w0 w _ (.own true (.obj c [] []) :: startD N.length ds) _ o e ((startD_ok r).consOwn oa rfl startD_no) ?_
  unfold mRunI finI at p
  rw [show (x0 :: N).length - 1 = N.length from rfl] at p
  cases z : ms (.own true (.obj c [] []) :: startD N.length ds) w.S with
  | ex => rw [z] at p; exact False.elim p
  | bad => rw [z] at p; exact False.elim p
  | ok f S =>
    rw [z] at p
    cases f with
    | nx δ =>
      intro w' σ hs ho he hg hn
      dsimp only at p
      match δ, hn, p with
      | Slot.own true (.obj c' ns es) :: δr, hn, p =>
        dsimp only at p
        by_cases zc : c' = c
        · rw [if_pos zc] at p
          subst zc
          obtain ⟨y, h1, a, rfl, h2, h3⟩ := hn.get (i := 0) (s := .own true (.obj c' ns es)) rfl
          have ea : a = x := h3 rfl
          subst ea
          exact p w' hs ho he hg h2
        · rw [if_neg zc] at p; exact False.elim p
    | rt d => exact False.elim p
    | bk => exact False.elim p
    | ct => exact False.elim p
    | ex c ns es δ => exact fun w' σ hs ho he hg hn dx hx => p w' hs ho he hg dx hx
end
end MR

namespace MR
open PySem PySem.Spec PyProof.Rows L2 TP
section
variable {K : PySem.W.Frag} {Γ : Gm} {w w' : Wd}
def opI (C : Int → Int → Bool) (f : Int → Int → D) : D → D → Sto → Out D := fun d e S => match d, e with
  | .int i, .int j => if C i j then .ok (f i j) S else .bad
  | _, _ => .bad
def dv : D → V
  | .int i => .int i
  | .bl b => .bl b
  | _ => .non
def sc : D → Bool
  | .int _ => true
  | .bl _ => true
  | .non => true
  | _ => false
theorem rep_dv {d : D} (h : sc d = true) : Rep K Γ w d (dv d) := by cases d <;> first | (simp only [Rep, RepC, dv]; done) | (exact absurd h (by simp [sc]))
theorem om_int {C : Int → Int → Bool} {Cp : Int → Int → Prop} {f : Int → Int → D} {g : Int → Int → V} (hC : ∀ i j, C i j = true → Cp i j) (hf : ∀ i j, sc (f i j) = true ∧ dv (f i j) = g i j) : OpM K Γ (rI Cp g) (opI C f) := ⟨fun w d e x y Q ex o hx hy p => by
  unfold opI at p
  split at p
  · rename_i i j
    split at p
    · rename_i c
      refine ⟨i, j, pk_int hx, pk_int hy, hC i j c, ?_⟩
      rw [← (hf i j).2]
      exact Post.now p o _ (rep_dv (hf i j).1)
    · exact False.elim p
  · exact False.elim p⟩
theorem om_int0 {f : Int → Int → D} {g : Int → Int → V} (hf : ∀ i j, sc (f i j) = true ∧ dv (f i j) = g i j) : OpM K Γ (rI0 g) (opI (fun _ _ => true) f) := ⟨fun w d e x y Q ex o hx hy p => by
  obtain ⟨i, j, h1, h2, _, q⟩ := (om_int (Cp := fun _ _ => True) (fun _ _ _ => trivial) hf).run w d e x y Q ex o hx hy p
  exact ⟨i, j, h1, h2, q⟩⟩
abbrev opMinus := opI (fun _ _ => true) fun i j => .int (i - j)
abbrev opRest := opI (fun _ j => decide (0 < j)) fun i j => .int (i % j)
abbrev opQuot := opI (fun _ j => decide (0 < j) && decide (j < 18446744073709551616)) fun i j => .int (i / j)
abbrev opPow := opI (fun i j => decide (0 ≤ j) && decide (j ≤ 1000) && decide (-1000 ≤ i) && decide (i ≤ 1000)) fun i j => .int (i ^ j.toNat)
abbrev opLess := opI (fun _ _ => true) fun i j => .bl (decide (i < j))
abbrev opLeq := opI (fun _ _ => true) fun i j => .bl (decide (i ≤ j))
abbrev opMore := opI (fun _ _ => true) fun i j => .bl (decide (j < i))
abbrev opGeq := opI (fun _ _ => true) fun i j => .bl (decide (j ≤ i))
theorem om_minus : OpM K Γ rMinus opMinus := om_int0 fun _ _ => ⟨rfl, rfl⟩
theorem om_rest : OpM K Γ rRest opRest := om_int (fun _ _ h => of_decide_eq_true h) fun _ _ => ⟨rfl, rfl⟩
theorem om_quot : OpM K Γ rQuot opQuot := om_int (fun i j h => by
  rw [Bool.and_eq_true] at h
  exact wide_div (b := 64) (of_decide_eq_true h.1) (by have := of_decide_eq_true h.2; have := of_decide_eq_true h.1; omega) (by decide) (by decide)) fun _ _ => ⟨rfl, rfl⟩
theorem om_pow : OpM K Γ rPow opPow := om_int (fun i j h => by
  simp only [Bool.and_eq_true, decide_eq_true_eq] at h
  exact ⟨by omega, by omega, by omega⟩) fun _ _ => ⟨rfl, rfl⟩
theorem om_less : OpM K Γ rLess opLess := om_int0 fun _ _ => ⟨rfl, rfl⟩
theorem om_leq : OpM K Γ rLeq opLeq := om_int0 fun _ _ => ⟨rfl, rfl⟩
theorem om_more : OpM K Γ rMore opMore := om_int0 fun _ _ => ⟨rfl, rfl⟩
theorem om_geq : OpM K Γ rGeq opGeq := om_int0 fun _ _ => ⟨rfl, rfl⟩
def unNeg : D → Sto → Out D := fun d S => match d with
  | .int i => .ok (.int (-i)) S
  | _ => .bad
theorem um_neg : UnM K Γ rNeg unNeg := ⟨fun w d x Q ex o hx p => by
  unfold unNeg at p
  split at p
  · exact ⟨_, pk_int hx, Post.now p o _ (by simp only [Rep, RepC])⟩
  · exact False.elim p⟩
/-- a new list of one's own, then given away -/
theorem OpF.m {r : R2} {op : D → D → Sto → Out D} (h : OpF K Γ r op) : OpM K Γ r op := ⟨fun w d e x y Q ex o hx hy p => h.run w d e x y Q ex o hx hy (by
  cases z : op d e w.S with
  | bad => rw [z] at p; exact p
  | ex c ns ds S => rw [z] at p; exact p
  | ok d' S =>
    rw [z] at p
    intro w1 hs o1 e1 a oa
    obtain ⟨w2, s2, hh, o2, e2, _, r2, _⟩ := own_rep o1 e1 oa
    have := p w2 (s2.trans hs) o2 e2 _ r2
    rw [hh] at this
    exact this)⟩
/-- a list that is no part of the module's text or the script -/
def lst1 (S : Sto) (d : D) : Option (List D) := match d with
  | .lst ds => some ds
  | .ref n => match S[n]? with
    | some (some (.lst ds)) => some ds
    | _ => none
  | _ => none
theorem lst1_ok {d : D} {v : V} {ds : List D} (o : Ok K Γ w) (h : Pk K Γ w d v) (e : lst1 w.S d = some ds) : ∃ a vs, v = .ref a ∧ w.H a = some (.lst vs) ∧ vs.length ≤ sizeLine ∧ Reps K Γ w ds vs := by
  unfold lst1 at e
  split at e
  · cases e
    rcases h with h | ⟨_, a, rfl, h⟩
    · simp only [Rep, RepC] at h
      obtain ⟨a, vs, h1, h2, h3, h4⟩ := h
      exact ⟨a, vs, h1, o.same _ _ h2, h3, h4⟩
    · obtain ⟨vs, h1, h2, h3⟩ := h.at_
      exact ⟨a, vs, rfl, h1, h2, h3⟩
  · split at e
    · rename_i n ds' q
      cases e
      rcases h with h | ⟨_, a, rfl, h⟩
      · simp only [Rep, RepC] at h
        obtain ⟨a, h1, h2⟩ := h
        obtain ⟨b, h3, _, vs, h4, h5, h6⟩ := o.cell _ _ q
        rw [h1] at h3
        cases h3
        exact ⟨a, vs, h2, h4, h5, h6⟩
      · exact False.elim h.at_
    · cases e
  · cases e
theorem new_lst {ds : List D} {vs : List V} {p : Addr} {ok : D → Wd → Prop} {ex : XP} (o : Ok K Γ w) (r : Reps K Γ w ds vs) (hl : vs.length ≤ sizeLine) (hp : w.H p = none) (h : Post K Γ (.ok (.lst ds) w.S) w ok ex) : ok (.lst ds) (wPut w p (.lst vs)) ∧ OwnAt K Γ w (wPut w p (.lst vs)) (.lst ds) p := by
  have ev := ev_put (o := .lst vs) (Ev.refl w) hp
  exact ⟨h.at (w' := wPut w p (.lst vs)) rfl (ok_put o (r_none o hp) (not_live o hp)) ev, own_new o hp ⟨vs, upd_same, hl, Reps.ev r ev⟩⟩
def opCat : D → D → Sto → Out D := fun d e S => match lst1 S d, lst1 S e with
  | some xs, some ys => if xs.length + ys.length ≤ 16777216 then .ok (.lst (xs ++ ys)) S else .bad
  | _, _ => .bad
theorem of_cat : OpF K Γ rPlus opCat := ⟨fun w d e x y Q ex o hx hy p => by
  unfold opCat at p
  split at p
  · rename_i xs ys h1 h2
    split at p
    · rename_i hl
      obtain ⟨a, vs, rfl, a1, a2, a3⟩ := lst1_ok o hx h1
      obtain ⟨b, us, rfl, b1, b2, b3⟩ := lst1_ok o hy h2
      have hl' : vs.length + us.length ≤ sizeLine := by rw [← reps_len a3, ← reps_len b3]; exact hl
      refine .inr (.inr ⟨a, b, vs, us, rfl, rfl, a1, b1, hl', fun q hq => ?_⟩)
      obtain ⟨k1, k2⟩ := new_lst o (reps_app a3 b3) (by rw [List.length_append]; exact hl') hq p
      exact k1 _ k2
    · exact False.elim p
  · exact False.elim p⟩
def opPlus : D → D → Sto → Out D := fun d e S => match d, e with
  | .int i, .int j => .ok (.int (i + j)) S
  | .str a, .str b => if a.length + b.length ≤ 16777216 then .ok (.str (a ++ b)) S else .bad
  | d, e => opCat d e S
theorem om_plus : OpM K Γ rPlus opPlus := ⟨fun w d e x y Q ex o hx hy p => by
  unfold opPlus at p
  split at p
  · exact .inl ⟨_, _, pk_int hx, pk_int hy, Post.now p o _ (by simp only [Rep, RepC])⟩
  · split at p
    · rename_i hl
      exact .inr (.inl ⟨_, _, pk_str hx, pk_str hy, hl, Post.now p o _ (by simp only [Rep, RepC])⟩)
    · exact False.elim p
  · exact of_cat.m.run w d e x y Q ex o hx hy p⟩
def opRep : D → D → Sto → Out D := fun d e S => match lst1 S d, e with
  | some xs, .int k => if k ≤ 16777216 ∧ -16777216 ≤ k ∧ xs.length * k.toNat ≤ 16777216 then .ok (.lst (List.replicate k.toNat xs).flatten) S else .bad
  | _, _ => .bad
theorem reps_rep {ρ : List Addr} {R : Hp} {ds : List D} {vs : List V} (h : RepsC K Γ ρ R ds vs) : ∀ n : Nat, RepsC K Γ ρ R (List.replicate n ds).flatten (List.replicate n vs).flatten
  | 0 => reps_nil
  | n + 1 => by
    rw [List.replicate_succ, List.replicate_succ, List.flatten_cons, List.flatten_cons]
    exact reps_app h (reps_rep h n)
theorem of_rep : OpF K Γ rTimes opRep := ⟨fun w d e x y Q ex o hx hy p => by
  unfold opRep at p
  split at p
  · rename_i xs k h1
    split at p
    · rename_i hl
      obtain ⟨a, vs, rfl, a1, a2, a3⟩ := lst1_ok o hx h1
      have hl' : vs.length * k.toNat ≤ sizeLine := by rw [← reps_len a3]; exact hl.2.2
      refine .inr ⟨a, k, vs, rfl, pk_int hy, a1, by omega, by omega, hl', fun q hq => ?_⟩
      obtain ⟨k1, k2⟩ := new_lst o (reps_rep a3 k.toNat) (by rw [List.length_flatten]; simp; rw [Nat.mul_comm]; exact hl') hq p
      exact k1 _ k2
    · exact False.elim p
  · exact False.elim p⟩
def mulOk (i j : Int) : Bool := (decide (-18446744073709551616 < i) && decide (i < 18446744073709551616)) || (decide (-18446744073709551616 < j) && decide (j < 18446744073709551616))
def opTimes : D → D → Sto → Out D := fun d e S => match d, e with
  | .int i, .int j => if mulOk i j then .ok (.int (i * j)) S else .bad
  | d, e => opRep d e S
theorem om_times : OpM K Γ rTimes opTimes := ⟨fun w d e x y Q ex o hx hy p => by
  unfold opTimes at p
  split at p
  · split at p
    · rename_i i j c
      refine .inl ⟨_, _, pk_int hx, pk_int hy, ?_, Post.now p o _ (by simp only [Rep, RepC])⟩
      unfold mulOk at c
      simp only [Bool.or_eq_true, Bool.and_eq_true, decide_eq_true_eq] at c
      rcases c with c | c
      · exact .inl ⟨by omega, by omega⟩
      · exact .inr ⟨by omega, by omega⟩
    · exact False.elim p
  · exact of_rep.m.run w d e x y Q ex o hx hy p⟩
theorem pk_tup {ds : List D} {v : V} (h : Pk K Γ w (.tup ds) v) : ∃ a vs, v = .ref a ∧ SqT K w.R a vs ∧ vs.length ≤ sizeLine ∧ Reps K Γ w ds vs := by
  rcases h with h | ⟨_, _, _, h⟩
  · simpa only [Rep, RepC] using h
  · exact False.elim h.at_
def opIx : D → D → Sto → Out D := fun d e S => match e with
  | .int i => match listOf S d with
    | some ds => match atI ds i with
      | some x => .ok x S
      | none => .bad
    | none => match tupOf d with
      | some ds => match atI ds i with
        | some x => .ok x S
        | none => .bad
      | none => .bad
  | _ => .bad
theorem atI_reps {ds : List D} {vs : List V} {i : Int} {d : D} (r : Reps K Γ w ds vs) (h : atI ds i = some d) : ∃ v, atI vs i = some v ∧ Rep K Γ w d v := by
  unfold atI at h ⊢
  rw [← reps_len r]
  cases z : ixN ds.length i with
  | none => rw [z] at h; cases h
  | some j =>
    rw [z] at h
    exact reps_get r h
theorem om_ix : OpM K Γ (rIx K) opIx := ⟨fun w d e x y Q ex o hx hy p => by
  unfold opIx at p
  split at p
  · rename_i i
    split at p
    · rename_i ds h1
      obtain ⟨a, vs, rfl, a1, a2, a3⟩ := listOf_ok o hx h1
      split at p
      · rename_i z hz
        obtain ⟨v, v1, v2⟩ := atI_reps a3 hz
        exact .inl ⟨a, vs, i, v, rfl, pk_int hy, a1, v1, Post.now p o _ v2⟩
      · exact False.elim p
    · split at p
      · rename_i ds h1
        obtain ⟨a, vs, rfl, a1, a2, a3⟩ := tupOf_ok o hx h1
        split at p
        · rename_i z hz
          obtain ⟨v, v1, v2⟩ := atI_reps a3 hz
          exact .inr (.inl ⟨a, vs, i, v, rfl, pk_int hy, a1, v1, Post.now p o _ v2⟩)
        · exact False.elim p
      · exact False.elim p
  · exact False.elim p⟩
def isNon : D → Bool
  | .non => true
  | _ => false
def opIs : D → D → Sto → Out D := fun d e S => match e with
  | .non => .ok (.bl (isNon d)) S
  | _ => .bad
def opIsnt : D → D → Sto → Out D := fun d e S => match e with
  | .non => .ok (.bl (!isNon d)) S
  | _ => .bad
theorem isNon_ok {d : D} {v : V} (h : Pk K Γ w d v) : decide (v = .non) = isNon d := by
  rcases h with h | ⟨_, a, rfl, h⟩
  · cases d <;> simp only [Rep, RepC] at h
    case non => subst h; rfl
    case bl b => subst h; rfl
    case int i => subst h; rfl
    case str i => subst h; rfl
    case byt i => subst h; rfl
    case ty i => subst h; rfl
    case cls i => subst h; rfl
    case tup ds => obtain ⟨a, vs, rfl, _⟩ := h; rfl
    case lst ds => obtain ⟨a, vs, rfl, _⟩ := h; rfl
    case dic ks ds => obtain ⟨a, vs, rfl, _⟩ := h; rfl
    case fdc ks ds => obtain ⟨a, _, _, rfl, _⟩ := h; rfl
    case ndc ks ds => obtain ⟨a, L, rfl, _⟩ := h; rfl
    case fnc ks ds => obtain ⟨a, _, L, rfl, _⟩ := h; rfl
    case obj c ns ds => obtain ⟨a, dx, vs, rfl, _⟩ := h; rfl
    case ref n => obtain ⟨a, _, rfl⟩ := h; rfl
    case scr n => obtain ⟨a, rfl, _⟩ := h; rfl
  · cases d <;> first | rfl | exact False.elim h.at_
theorem om_is : OpM K Γ rIsNo opIs := ⟨fun w d e x y Q ex o hx hy p => by
  unfold opIs at p
  split at p
  · exact ⟨pk_non hy, by rw [isNon_ok hx]; exact Post.now p o _ (by simp only [Rep, RepC])⟩
  · exact False.elim p⟩
mutual
def toPy : D → PyData
  | .bl b => .bool b
  | .int i => .int i
  | .str x => .str x
  | .tup ds => .tuple (toPys ds)
  | .lst ds => .list (toPys ds)
  | _ => .none
def toPys : List D → List PyData
  | [] => []
  | d :: ds => toPy d :: toPys ds
end
/-- data of at most n stages -/
def okN (n : Nat) (d : D) : Bool := match d with
  | .non => true
  | .bl _ => true
  | .int _ => true
  | .str x => PyData.canLay0 (.str x)
  | .tup ds => match n with
    | 0 => false
    | m + 1 => ds.all (okN m)
  | .lst ds => match n with
    | 0 => false
    | m + 1 => ds.all (okN m)
  | _ => false
termination_by structural n
theorem dp_of : ∀ (n : Nat) (d : D) (v : V), okN n d = true → Ok K Γ w → Rep K Γ w d v → Dp K w.H v (toPy d)
  | n, .non, v, _, _, r => by rw [rep_non r]; exact .non
  | n, .bl b, v, _, _, r => by rw [rep_bl r]; simp only [toPy]; exact .bl b
  | n, .int i, v, _, _, r => by rw [rep_int r]; simp only [toPy]; exact .int i
  | n, .str x, v, _, _, r => by rw [rep_str r]; simp only [toPy]; exact .str x
  | n + 1, .tup ds, v, h, o, r => by
    simp only [Rep, RepC] at r
    obtain ⟨a, vs, rfl, h2, _, h4⟩ := r
    have go : ∀ (ds : List D) (vs : List V), ds.all (okN n) = true → Reps K Γ w ds vs → DpAll K w.H vs (toPys ds) := fun ds => by
      induction ds with
      | nil => intro vs _ r; simp only [Reps, RepsC] at r; subst r; simp only [toPys]; exact .nil
      | cons d ds ih =>
        intro vs h r
        obtain ⟨v, ws, rfl, r1, r2⟩ := reps_inv r
        rw [List.all_cons, Bool.and_eq_true] at h
        simp only [toPys]
        exact .cons (dp_of n d v h.1 o r1) (ih ws h.2 r2)
    simp only [toPy]
    unfold okN at h
    exact .tup (sqT_mono o.same h2) (go ds vs h h4)
  | n + 1, .lst ds, v, h, o, r => by
    simp only [Rep, RepC] at r
    obtain ⟨a, vs, rfl, h2, _, h4⟩ := r
    have go : ∀ (ds : List D) (vs : List V), ds.all (okN n) = true → Reps K Γ w ds vs → DpAll K w.H vs (toPys ds) := fun ds => by
      induction ds with
      | nil => intro vs _ r; simp only [Reps, RepsC] at r; subst r; simp only [toPys]; exact .nil
      | cons d ds ih =>
        intro vs h r
        obtain ⟨v, ws, rfl, r1, r2⟩ := reps_inv r
        rw [List.all_cons, Bool.and_eq_true] at h
        simp only [toPys]
        exact .cons (dp_of n d v h.1 o r1) (ih ws h.2 r2)
    simp only [toPy]
    unfold okN at h
    exact .lst (SqL.of (o.same _ _ h2)) (go ds vs h h4)
  | n, .byt _, _, h, _, _ => by unfold okN at h; cases h
  | n, .ty _, _, h, _, _ => by unfold okN at h; cases h
  | n, .cls _, _, h, _, _ => by unfold okN at h; cases h
  | n, .ref _, _, h, _, _ => by unfold okN at h; cases h
  | n, .scr _, _, h, _, _ => by unfold okN at h; cases h
  | n, .dic _ _, _, h, _, _ => by unfold okN at h; cases h
  | n, .fdc _ _, _, h, _, _ => by unfold okN at h; cases h
  | n, .ndc _ _, _, h, _, _ => by unfold okN at h; cases h
  | n, .fnc _ _, _, h, _, _ => by unfold okN at h; cases h
  | n, .obj _ _ _, _, h, _, _ => by unfold okN at h; cases h
  | 0, .tup _, _, h, _, _ => by unfold okN at h; cases h
  | 0, .lst _, _, h, _, _ => by unfold okN at h; cases h
theorem dpall_of {n : Nat} (o : Ok K Γ w) : ∀ (ds : List D) (vs : List V), ds.all (okN n) = true → Reps K Γ w ds vs → DpAll K w.H vs (toPys ds)
  | [], vs, _, r => by simp only [Reps, RepsC] at r; subst r; simp only [toPys]; exact .nil
  | d :: ds, vs, h, r => by
    obtain ⟨v, ws, rfl, r1, r2⟩ := reps_inv r
    rw [List.all_cons, Bool.and_eq_true] at h
    simp only [toPys]
    exact .cons (dp_of n d v h.1 o r1) (dpall_of o ds ws h.2 r2)
/-- .. of one's own, too, and of the store -/
theorem dp_pk {n : Nat} {d : D} {v : V} (h : okN (n + 1) d = true) (o : Ok K Γ w) (r : Pk K Γ w d v) : Dp K w.H v (toPy d) := by
  rcases r with r | ⟨_, a, rfl, oa⟩
  · exact dp_of _ d v h o r
  · cases d with
    | lst ds =>
      obtain ⟨vs, h1, _, h3⟩ := oa.at_
      simp only [toPy]
      unfold okN at h
      exact .lst (SqL.of h1) (dpall_of (n := n) o ds vs h h3)
    | dic ks ds => unfold okN at h; cases h
    | obj c ns ds => unfold okN at h; cases h
    | ndc ks ds => unfold okN at h; cases h
    | fnc ks ds => unfold okN at h; cases h
    | _ => exact False.elim oa.at_
theorem shaped_of : ∀ (n : Nat) (d : D), okN n d = true → (toPy d).canLay0 = true ∧ (toPy d).depth ≤ n
  | n, .non, _ => by simp [toPy, PyData.canLay0, PyData.depth]
  | n, .bl b, _ => by simp [toPy, PyData.canLay0, PyData.depth]
  | n, .int i, _ => by simp [toPy, PyData.canLay0, PyData.depth]
  | n, .str x, h => by unfold okN at h; simp only [toPy, PyData.depth]; exact ⟨h, Nat.zero_le _⟩
  | n + 1, .tup ds, h => by
    have go : ∀ ds : List D, ds.all (okN n) = true → PyData.canLayAll0 (toPys ds) = true ∧ PyData.depthAll (toPys ds) ≤ n := fun ds => by
      induction ds with
      | nil => intro _; simp [toPys, PyData.canLayAll0, PyData.depthAll]
      | cons d ds ih =>
        intro h
        rw [List.all_cons, Bool.and_eq_true] at h
        have h1 := shaped_of n d h.1
        have h2 := ih h.2
        simp only [toPys, PyData.canLayAll0, PyData.depthAll, h1.1, h2.1]
        exact ⟨rfl, by omega⟩
    unfold okN at h
    have g := go ds h
    simp only [toPy, PyData.canLay0, PyData.depth]
    exact ⟨g.1, by omega⟩
  | n + 1, .lst ds, h => by
    have go : ∀ ds : List D, ds.all (okN n) = true → PyData.canLayAll0 (toPys ds) = true ∧ PyData.depthAll (toPys ds) ≤ n := fun ds => by
      induction ds with
      | nil => intro _; simp [toPys, PyData.canLayAll0, PyData.depthAll]
      | cons d ds ih =>
        intro h
        rw [List.all_cons, Bool.and_eq_true] at h
        have h1 := shaped_of n d h.1
        have h2 := ih h.2
        simp only [toPys, PyData.canLayAll0, PyData.depthAll, h1.1, h2.1]
        exact ⟨rfl, by omega⟩
    unfold okN at h
    have g := go ds h
    simp only [toPy, PyData.canLay0, PyData.depth]
    exact ⟨g.1, by omega⟩
  | n, .byt _, h => by unfold okN at h; cases h
  | n, .ty _, h => by unfold okN at h; cases h
  | n, .cls _, h => by unfold okN at h; cases h
  | n, .ref _, h => by unfold okN at h; cases h
  | n, .scr _, h => by unfold okN at h; cases h
  | n, .dic _ _, h => by unfold okN at h; cases h
  | n, .fdc _ _, h => by unfold okN at h; cases h
  | n, .ndc _ _, h => by unfold okN at h; cases h
  | n, .fnc _ _, h => by unfold okN at h; cases h
  | n, .obj _ _ _, h => by unfold okN at h; cases h
  | 0, .tup _, h => by unfold okN at h; cases h
  | 0, .lst _, h => by unfold okN at h; cases h
theorem shaped_okN {n : Nat} {d : D} (h : okN n d = true) (hn : n ≤ 64) : SeqAt.shaped (toPy d) = true := by
  obtain ⟨h1, h2⟩ := shaped_of n d h
  unfold SeqAt.shaped
  rw [h1, decide_eq_true (by omega)]
  rfl
def eqD (d e : D) : Bool := PyData.eqv (toPy d) (toPy e)
def opEq (neg : Bool) : D → D → Sto → Out D := fun d e S => match d, e with
  | .int i, .int j => .ok (.bl (xor neg (decide (i = j)))) S
  | .str i, .str j => .ok (.bl (xor neg (decide (i = j)))) S
  | .byt i, .byt j => .ok (.bl (xor neg (decide (i = j)))) S
  | .bl i, .bl j => .ok (.bl (xor neg (i == j))) S
  | d, e => if okN 9 d && okN 9 e then .ok (.bl (xor neg (eqD d e))) S else .bad
theorem pk_byt {x : Array UInt8} {v : V} (h : Pk K Γ w (.byt x) v) : v = .byt x := by
  rcases h with h | ⟨_, _, _, h⟩
  · simpa only [Rep, RepC] using h
  · exact False.elim h.at_
theorem om_eq : OpM K Γ (rSame K) (opEq false) := ⟨fun w d e x y Q ex o hx hy p => by
  unfold opEq at p
  split at p
  · rename_i i j
    rw [pk_int hx, pk_int hy]
    refine .inl ⟨rfl, ?_⟩
    have e : decide (V.int i = V.int j) = decide (i = j) := decide_eq_decide.mpr ⟨fun h => V.int.inj h, fun h => congrArg _ h⟩
    rw [e]
    have := Post.now p o (.bl (decide (i = j))) (by simp only [Rep, RepC, Bool.false_xor])
    exact this
  · rename_i i j
    rw [pk_str hx, pk_str hy]
    refine .inl ⟨rfl, ?_⟩
    have e : decide (V.str i = V.str j) = decide (i = j) := decide_eq_decide.mpr ⟨fun h => V.str.inj h, fun h => congrArg _ h⟩
    rw [e]
    exact Post.now p o (.bl (decide (i = j))) (by simp only [Rep, RepC, Bool.false_xor])
  · rename_i i j
    rw [pk_byt hx, pk_byt hy]
    refine .inl ⟨rfl, ?_⟩
    have e : decide (V.byt i = V.byt j) = decide (i = j) := decide_eq_decide.mpr ⟨fun h => V.byt.inj h, fun h => congrArg _ h⟩
    rw [e]
    exact Post.now p o (.bl (decide (i = j))) (by simp only [Rep, RepC, Bool.false_xor])
  · rename_i i j
    rw [pk_bl hx, pk_bl hy]
    refine .inl ⟨rfl, ?_⟩
    have e : decide (V.bl i = V.bl j) = (i == j) := by cases i <;> cases j <;> decide
    rw [e]
    exact Post.now p o (.bl (i == j)) (by simp only [Rep, RepC, Bool.false_xor])
  · split at p
    · rename_i h
      rw [Bool.and_eq_true] at h
      exact .inr ⟨_, _, dp_pk h.1 o hx, dp_pk h.2 o hy, shaped_okN h.1 (by decide), shaped_okN h.2 (by decide), Post.now p o (.bl (eqD d e)) (by simp only [Rep, RepC, Bool.false_xor])⟩
    · exact False.elim p⟩
theorem om_ne : OpM K Γ (rUnlike K) (opEq true) := ⟨fun w d e x y Q ex o hx hy p => by
  unfold opEq at p
  split at p
  · rename_i i j
    rw [pk_int hx, pk_int hy]
    refine .inl ⟨rfl, ?_⟩
    have e : decide (V.int i = V.int j) = decide (i = j) := decide_eq_decide.mpr ⟨fun h => V.int.inj h, fun h => congrArg _ h⟩
    rw [e]
    exact Post.now p o (.bl (!decide (i = j))) (by simp only [Rep, RepC, Bool.true_xor])
  · rename_i i j
    rw [pk_str hx, pk_str hy]
    refine .inl ⟨rfl, ?_⟩
    have e : decide (V.str i = V.str j) = decide (i = j) := decide_eq_decide.mpr ⟨fun h => V.str.inj h, fun h => congrArg _ h⟩
    rw [e]
    exact Post.now p o (.bl (!decide (i = j))) (by simp only [Rep, RepC, Bool.true_xor])
  · rename_i i j
    rw [pk_byt hx, pk_byt hy]
    refine .inl ⟨rfl, ?_⟩
    have e : decide (V.byt i = V.byt j) = decide (i = j) := decide_eq_decide.mpr ⟨fun h => V.byt.inj h, fun h => congrArg _ h⟩
    rw [e]
    exact Post.now p o (.bl (!decide (i = j))) (by simp only [Rep, RepC, Bool.true_xor])
  · rename_i i j
    rw [pk_bl hx, pk_bl hy]
    refine .inl ⟨rfl, ?_⟩
    have e : decide (V.bl i = V.bl j) = (i == j) := by cases i <;> cases j <;> decide
    rw [e]
    exact Post.now p o (.bl (!(i == j))) (by simp only [Rep, RepC, Bool.true_xor])
  · split at p
    · rename_i h
      rw [Bool.and_eq_true] at h
      exact .inr ⟨_, _, dp_pk h.1 o hx, dp_pk h.2 o hy, shaped_okN h.1 (by decide), shaped_okN h.2 (by decide), Post.now p o (.bl (!eqD d e)) (by simp only [Rep, RepC, Bool.true_xor])⟩
    · exact False.elim p⟩
def flatD : D → Bool
  | .non => true
  | .bl _ => true
  | .int _ => true
  | .str _ => true
  | _ => false
/-- == of flat things -/
def eqF : D → D → Bool
  | .non, .non => true
  | .bl a, .bl b => a == b
  | .bl a, .int b => (if a then 1 else 0) == b
  | .int a, .bl b => a == (if b then 1 else 0)
  | .int a, .int b => a == b
  | .str a, .str b => a == b
  | _, _ => false
theorem flat_rep {d : D} {v : V} (h : flatD d = true) (r : Rep K Γ w d v) : flatV v = true := by
  cases d <;> first | (exact Bool.noConfusion (show false = true from h)) | skip
  · rw [rep_non r]; rfl
  · rw [rep_bl r]; rfl
  · rw [rep_int r]; rfl
  · rw [rep_str r]; rfl
theorem eqF_rep {d e : D} {v u : V} (h : flatD d = true) (g : flatD e = true) (r : Rep K Γ w d v) (q : Rep K Γ w e u) : eqV v u = eqF d e := by
  cases d <;> first | (exact Bool.noConfusion (show false = true from h)) | skip
  all_goals (cases e <;> first | (exact Bool.noConfusion (show false = true from g)) | skip)
  all_goals (simp only [Rep, RepC] at r q; subst r; subst q; rfl)
theorem flats_reps : ∀ {ds : List D} {vs : List V}, ds.all flatD = true → Reps K Γ w ds vs → vs.all flatV = true
  | [], vs, _, r => by simp only [Reps, RepsC] at r; subst r; rfl
  | d :: ds, vs, h, r => by
    obtain ⟨v, ws, rfl, r1, r2⟩ := reps_inv r
    rw [List.all_cons, Bool.and_eq_true] at h ⊢
    exact ⟨flat_rep h.1 r1, flats_reps h.2 r2⟩
theorem in_reps {x : D} {u : V} (hx : flatD x = true) (rx : Rep K Γ w x u) : ∀ {ds : List D} {vs : List V}, ds.all flatD = true → Reps K Γ w ds vs → inV u vs = ds.any fun d => eqF d x
  | [], vs, _, r => by simp only [Reps, RepsC] at r; subst r; rfl
  | d :: ds, vs, h, r => by
    obtain ⟨v, ws, rfl, r1, r2⟩ := reps_inv r
    rw [List.all_cons, Bool.and_eq_true] at h
    have ih := in_reps hx rx h.2 r2
    unfold inV at ih ⊢
    rw [List.any_cons, List.any_cons, ih, eqF_rep h.1 hx r1 rx]
def seqOf (S : Sto) (d : D) : Option (List D) := match listOf S d with
  | some ds => some ds
  | none => tupOf d
theorem seqOf_ok {d : D} {v : V} {ds : List D} (o : Ok K Γ w) (h : Pk K Γ w d v) (e : seqOf w.S d = some ds) : ∃ a vs, v = .ref a ∧ (SqL K w.H a vs ∨ SqT K w.H a vs) ∧ vs.length ≤ sizeLine ∧ Reps K Γ w ds vs := by
  unfold seqOf at e
  split at e
  · rename_i q
    cases e
    obtain ⟨a, vs, h1, h2, h3, h4⟩ := listOf_ok o h q
    exact ⟨a, vs, h1, .inl h2, h3, h4⟩
  · obtain ⟨a, vs, h1, h2, h3, h4⟩ := tupOf_ok o h e
    exact ⟨a, vs, h1, .inr h2, h3, h4⟩
def opIn (neg : Bool) : D → D → Sto → Out D := fun x d S => match seqOf S d with
  | some ds => if flatD x && ds.all flatD then .ok (.bl (xor neg (ds.any fun d => eqF d x))) S else .bad
  | none => .bad
theorem pk_flat {d : D} {v : V} (h : flatD d = true) (r : Pk K Γ w d v) : Rep K Γ w d v := by
  rcases r with r | ⟨_, _, _, oa⟩
  · exact r
  · have := oa.at_
    cases d <;> first | exact False.elim this | (exact Bool.noConfusion (show false = true from h))
theorem om_in {neg : Bool} : OpM K Γ (rIn K neg) (opIn neg) := ⟨fun w d e x y Q ex o hx hy p => by
  unfold opIn at p
  split at p
  · rename_i ds h1
    split at p
    · rename_i h
      rw [Bool.and_eq_true] at h
      obtain ⟨a, vs, rfl, a1, a2, a3⟩ := seqOf_ok o hy h1
      have rx := pk_flat h.1 hx
      refine ⟨a, vs, rfl, a1, flat_rep h.1 rx, flats_reps h.2 a3, ?_⟩
      rw [in_reps h.1 rx h.2 a3]
      refine Post.now p o _ ?_
      simp only [Rep, RepC]
      cases neg <;> simp
    · exact False.elim p
  · exact False.elim p⟩
end
end MR

namespace MR
open PySem PySem.Spec PyProof.Rows L2 TP
section
variable {K : PySem.W.Frag} {Γ : Gm} {xa : XT} {W : WX} {te ta tb to ti tv : TE} {me ma mb mo mk mv : ME} {w w' w0 w1 : Wd} {tl : TA} {ml : MA} {n : Nat}
structure CallM (K : PySem.W.Frag) (Γ : Gm) (r : List V → Hp → VK → Prop) (f : MF) : Prop where
  run : ∀ (w : Wd) (ds : List D) (vs : List V) (Q : VK) (ex : XP), Ok K Γ w → Pks K Γ w ds vs → Post K Γ (f ds w.S) w (fun z w' => ∀ v, Rep K Γ w' z v → Q v w'.H) ex → r vs w.H Q
structure CallF (K : PySem.W.Frag) (Γ : Gm) (r : List V → Hp → VK → Prop) (f : MF) : Prop where
  run : ∀ (w : Wd) (ds : List D) (vs : List V) (Q : VK) (ex : XP), Ok K Γ w → Pks K Γ w ds vs → Post K Γ (f ds w.S) w (fun z w' => ∀ a, OwnAt K Γ w w' z a → Q (.ref a) w'.H) ex → r vs w.H Q
def mCB (f : MF) (ml : MA) : ME := fun δ S => bnd (ml δ S) f
theorem sim_cb {r : List V → Hp → VK → Prop} {f : MF} (h : CallM K Γ r f) (ha : SimPA K Γ xa W tl ml) : SimE K Γ xa W (tCB r tl) (mCB f ml) := ⟨fun w0 w σ δ Q o e n p =>
  ha.run w0 w σ δ _ o e n (p.then fun ds w1 o1 e1 p1 vs r1 => h.run w1 ds vs Q _ o1 r1 p1)⟩
theorem sim_cbF {r : List V → Hp → VK → Prop} {f : MF} (h : CallF K Γ r f) (ha : SimPA K Γ xa W tl ml) : SimF K Γ xa W (tCB r tl) (mCB f ml) := ⟨fun w0 w σ δ Q o e n p =>
  ha.run w0 w σ δ _ o e n (p.then fun ds w1 o1 e1 p1 vs r1 => h.run w1 ds vs Q _ o1 r1 (p1.mono (fun z w3 _ _ q a oa => q a (own_back e1 oa)) fun _ _ _ _ _ _ x => x))⟩
theorem pks1 {d : D} {vs : List V} (h : Pks K Γ w [d] vs) : ∃ v, vs = [v] ∧ Pk K Γ w d v := by
  cases h with
  | cons h t => cases t; exact ⟨_, rfl, h⟩
theorem pks2 {d e : D} {vs : List V} (h : Pks K Γ w [d, e] vs) : ∃ v u, vs = [v, u] ∧ Pk K Γ w d v ∧ Pk K Γ w e u := by
  cases h with
  | cons h t => obtain ⟨u, rfl, q⟩ := pks1 t; exact ⟨_, u, rfl, h, q⟩
def fLen : MF := fun ds S => match ds with
  | [.str x] => if x.length ≤ 16777216 then .ok (.int x.length) S else .bad
  | [.byt x] => if x.size ≤ 16777216 then .ok (.int x.size) S else .bad
  | [d] => match seqOf S d with
    | some xs => .ok (.int xs.length) S
    | none => .bad
  | _ => .bad
theorem cm_len : CallM K Γ (TP.rLen K) fLen := ⟨fun w ds vs Q ex o r p => by
  unfold fLen at p
  split at p
  · obtain ⟨v, rfl, r1⟩ := pks1 r
    rw [pk_str r1]
    split at p
    · rename_i hl
      exact ⟨_, _, rfl, ⟨hl, rfl⟩, Post.now p o _ (by simp only [Rep, RepC])⟩
    · exact False.elim p
  · obtain ⟨v, rfl, r1⟩ := pks1 r
    rw [pk_byt r1]
    split at p
    · rename_i hl
      exact ⟨_, _, rfl, ⟨hl, rfl⟩, Post.now p o _ (by simp only [Rep, RepC])⟩
    · exact False.elim p
  · obtain ⟨v, rfl, r1⟩ := pks1 r
    split at p
    · rename_i xs h1
      obtain ⟨a, vs, rfl, a1, a2, a3⟩ := seqOf_ok o r1 h1
      rw [reps_len a3] at p
      refine ⟨_, vs.length, rfl, ?_, Post.now p o _ (by simp only [Rep, RepC])⟩
      rcases a1 with a1 | a1
      · exact .inl ⟨vs, a1, rfl⟩
      · exact .inr ⟨vs, a1, rfl⟩
    · exact False.elim p
  · exact False.elim p⟩
def fInt : MF := fun ds S => match ds with
  | [.int i] => .ok (.int i) S
  | [.bl b] => .ok (.int (if b then 1 else 0)) S
  | _ => .bad
theorem cm_int : CallM K Γ rInt1 fInt := ⟨fun w ds vs Q ex o r p => by
  unfold fInt at p
  split at p
  · obtain ⟨v, rfl, r1⟩ := pks1 r
    exact .inl ⟨_, by rw [pk_int r1], Post.now p o _ (by simp only [Rep, RepC])⟩
  · obtain ⟨v, rfl, r1⟩ := pks1 r
    exact .inr ⟨_, by rw [pk_bl r1], Post.now p o _ (by simp only [Rep, RepC])⟩
  · exact False.elim p⟩
def fList : MF := fun ds S => match ds with
  | [d] => match seqOf S d with
    | some xs => .ok (.lst xs) S
    | none => .bad
  | _ => .bad
theorem cf_list : CallF K Γ (rListOf K) fList := ⟨fun w ds vs Q ex o r p => by
  unfold fList at p
  split at p
  · obtain ⟨v, rfl, r1⟩ := pks1 r
    split at p
    · rename_i xs h1
      obtain ⟨a, vs, rfl, a1, a2, a3⟩ := seqOf_ok o r1 h1
      refine ⟨a, vs, rfl, a1, fun q hq => ?_⟩
      obtain ⟨k1, k2⟩ := new_lst o a3 a2 hq p
      exact k1 _ k2
    · exact False.elim p
  · exact False.elim p⟩
def fTuple : MF := fun ds S => match ds with
  | [.tup xs] => .ok (.tup xs) S
  | [d] => match listOf S d with
    | some xs => .ok (.tup xs) S
    | none => .bad
  | _ => .bad
inductive Kn where
  | t (n : String) | c (n : Nat)
def kindD (S : Sto) (d : D) : Option Kn := match d with
  | .non => some (.t "NoneType")
  | .bl _ => some (.t "bool")
  | .int _ => some (.t "int")
  | .str _ => some (.t "str")
  | .byt _ => some (.t "bytes")
  | .lst _ => some (.t "list")
  | .scr _ => some (.t "list")
  | .tup _ => some (.t "tuple")
  | .obj c _ _ => some (.c c)
  | .ref n => match S[n]? with
    | some (some (.lst _)) => some (.t "list")
    | some (some (.obj c _ _)) => some (.c c)
    | _ => none
  | _ => none
/-- what is known of the own classes below N -/
structure ClsF (K : PySem.W.Frag) (Γ : Gm) (N : Nat) : Prop where
  own : ∀ c, c < N → OwnC K (Γ c)
  kk : ∀ c c', c < N → c' < N → PySem.W.kitOne K (.ref (Γ c)) (.ref (Γ c')) = some (c == c')
  kt : ∀ c, c < N → ∀ T ∈ askedK, PySem.W.kitOne K (.ref (Γ c)) (.type T) = some false
  tk : ∀ c, c < N → ∀ t ∈ kinds, PySem.W.kitOne K (.type t) (.ref (Γ c)) = some false
def fIsi (N : Nat) : MF := fun ds S => match ds with
  | [d, .ty T] => if askedK.contains T then match kindD S d with
      | some (.t t) => .ok (.bl (isK t T)) S
      | some (.c c) => if c < N then .ok (.bl false) S else .bad
      | none => .bad
    else .bad
  | [d, .cls c'] => if c' < N then match kindD S d with
      | some (.t t) => .ok (.bl false) S
      | some (.c c) => if c < N then .ok (.bl (c == c')) S else .bad
      | none => .bad
    else .bad
  | _ => .bad
theorem tyL {H : Hp} {a : Addr} {vs : List V} (h : SqL K H a vs) : TyX K H (.ref a) (.type "list") := by
  rcases h with (h | ⟨o, h⟩) | ⟨o, its, n, h1, h2, h3, h4, _⟩
  · exact .base (.lst h)
  · exact .base (.frz h)
  · exact .kList h1 h2
theorem tyT {H : Hp} {a : Addr} {vs : List V} (h : SqT K H a vs) : TyX K H (.ref a) (.type "tuple") := by
  rcases h with (h | ⟨o, h⟩) | ⟨o, its, n, h1, h2, _⟩
  · exact .base (.tup h)
  · exact .fTuple h
  · exact .kTuple h1 h2
def knV (Γ : Gm) : Kn → Value
  | .t n => .type n
  | .c c => .ref (Γ c)
theorem kind_ok {N : Nat} {d : D} {v : V} {k : Kn} (F : ClsF K Γ N) (o : Ok K Γ w) (r : Pk K Γ w d v) (h : kindD w.S d = some k) (hk : ∀ c, k = .c c → c < N) : TyX K w.H v (knV Γ k) ∧ ∀ t, k = .t t → t ∈ kinds := by
  unfold kindD at h
  split at h
  · cases h; rw [pk_non r]; exact ⟨.base .non, fun t e => by cases e; decide⟩
  · cases h; rw [pk_bl r]; exact ⟨.base (.bl _), fun t e => by cases e; decide⟩
  · cases h; rw [pk_int r]; exact ⟨.base (.int _), fun t e => by cases e; decide⟩
  · cases h; rw [pk_str r]; exact ⟨.base (.str _), fun t e => by cases e; decide⟩
  · cases h; rw [pk_byt r]; exact ⟨.byt _, fun t e => by cases e; decide⟩
  · cases h
    obtain ⟨a, vs, rfl, h1, _, _⟩ := listOf_ok (ds := _) o r rfl
    exact ⟨tyL h1, fun t e => by cases e; decide⟩
  · cases h
    obtain ⟨a, vs, rfl, h1, _, _⟩ := listOf_ok (ds := _) o r rfl
    exact ⟨tyL h1, fun t e => by cases e; decide⟩
  · cases h
    obtain ⟨a, vs, rfl, h1, _, _⟩ := pk_tup r
    exact ⟨tyT (sqT_mono o.same h1), fun t e => by cases e; decide⟩
  · cases h
    obtain ⟨a, dx, vs, rfl, h1, _, _⟩ := objOf_ok o r rfl
    exact ⟨(F.own _ (hk _ rfl)).ty h1, fun t e => by cases e⟩
  · rename_i n
    split at h
    · rename_i q
      cases h
      obtain ⟨a, vs, rfl, h1, _, _⟩ := listOf_ok (ds := _) o r (by unfold listOf; dsimp only; rw [q])
      exact ⟨tyL h1, fun t e => by cases e; decide⟩
    · rename_i q
      cases h
      obtain ⟨a, dx, vs, rfl, h1, _, _⟩ := objOf_ok o r (by unfold objOf; dsimp only; rw [q])
      exact ⟨(F.own _ (hk _ rfl)).ty h1, fun t e => by cases e⟩
    · cases h
  · cases h
theorem cm_isi {N : Nat} (F : ClsF K Γ N) : CallM K Γ (rIsi K) (fIsi N) := ⟨fun w ds vs Q ex o r p => by
  have fin : ∀ {b : Bool}, Post K Γ (.ok (D.bl b) w.S) w (fun z w' => ∀ v, Rep K Γ w' z v → Q v w'.H) ex → Q (.bl b) w.H := fun p => Post.now p o _ (by simp only [Rep, RepC])
  unfold fIsi at p
  split at p
  · rename_i d T
    obtain ⟨v, u, rfl, r1, r2⟩ := pks2 r
    have eu : u = .ty T := by
      rcases r2 with r2 | ⟨_, _, _, r2⟩
      · simpa only [Rep, RepC] using r2
      · exact False.elim r2.at_
    subst eu
    split at p
    · rename_i hT
      have hT' : T ∈ askedK := List.contains_iff_mem.mp hT
      split at p
      · rename_i t q
        obtain ⟨h1, h2⟩ := kind_ok F o r1 q (fun c e => by cases e)
        exact ⟨v, _, _, _, _, rfl, .ty T, h1, kit_ty2 (kit_all t (h2 t rfl) T hT'), fin p⟩
      · rename_i c q
        split at p
        · rename_i hc
          obtain ⟨h1, h2⟩ := kind_ok F o r1 q (fun c' e => by cases e; exact hc)
          exact ⟨v, _, _, _, _, rfl, .ty T, h1, F.kt c hc T hT', fin p⟩
        · exact False.elim p
      · exact False.elim p
    · exact False.elim p
  · rename_i d c'
    obtain ⟨v, u, rfl, r1, r2⟩ := pks2 r
    have eu : u = .ref (Γ c') := by
      rcases r2 with r2 | ⟨_, _, _, r2⟩
      · simpa only [Rep, RepC] using r2
      · exact False.elim r2.at_
    subst eu
    split at p
    · rename_i hc'
      split at p
      · rename_i t q
        obtain ⟨h1, h2⟩ := kind_ok F o r1 q (fun c e => by cases e)
        exact ⟨v, _, _, _, _, rfl, .own _, h1, F.tk c' hc' t (h2 t rfl), fin p⟩
      · rename_i c q
        split at p
        · rename_i hc
          obtain ⟨h1, h2⟩ := kind_ok F o r1 q (fun c' e => by cases e; exact hc)
          exact ⟨v, _, _, _, _, rfl, .own _, h1, F.kk c c' hc hc', fin p⟩
        · exact False.elim p
      · exact False.elim p
    · exact False.elim p
  · exact False.elim p⟩
abbrev MO := Env → Sto → Out (Option Int)
structure SimO (K : PySem.W.Frag) (Γ : Gm) (xa : XT) (W : WX) (t : L2.St → Hp → (Option Int → Hp → Prop) → Prop) (m : MO) : Prop where
  run : ∀ (w0 w : Wd) (σ : L2.St) (δ : Env) (Q : Option Int → Hp → Prop), Ok K Γ w → Ev w0 w → EnvOk K Γ xa w0 w σ δ → Post K Γ (m δ w.S) w (fun b w' => Q b w'.H) (XW K Γ W σ) → t σ w.H Q
def mNoPart : MO := fun _ S => .ok none S
theorem sim_nopart : SimO K Γ xa W tNoPart mNoPart := ⟨fun w0 w σ δ Q o e n p => Post.now p o⟩
def mPart (me : ME) : MO := fun δ S => bnd (me δ S) fun d S => match d with
  | .int i => .ok (some i) S
  | _ => .bad
theorem sim_part (h : SimE K Γ xa W te me) : SimO K Γ xa W (tPart te) (mPart me) := ⟨fun w0 w σ δ Q o e n p =>
  h.run w0 w σ δ _ o e n (p.then fun d w1 o1 e1 p1 v r1 => by
    split at p1
    · exact ⟨_, rep_int r1, Post.now p1 o1⟩
    · exact False.elim p1)⟩
def cutD (xs : List D) (lo hi : Option Int) : List D := (xs.drop (HT.sIx xs.length 0 lo)).take (HT.sIx xs.length xs.length hi - HT.sIx xs.length 0 lo)
theorem cut_reps {xs : List D} {vs : List V} {lo hi : Option Int} (r : Reps K Γ w xs vs) : Reps K Γ w (cutD xs lo hi) (cutV vs lo hi) := by
  unfold cutD cutV
  rw [reps_len r]
  exact reps_take _ (reps_drop _ r)
variable {tlo thi : L2.St → Hp → (Option Int → Hp → Prop) → Prop} {mlo mhi : MO}
def mSl (f : D → Option Int → Option Int → Sto → Out D) (me : ME) (mlo mhi : MO) : ME := fun δ S => bnd (me δ S) fun d S => bnd (mlo δ S) fun l S => bnd (mhi δ S) fun h S => f d l h S
structure SlM (K : PySem.W.Frag) (Γ : Gm) (r : V → Option Int → Option Int → Hp → VK → Prop) (f : D → Option Int → Option Int → Sto → Out D) : Prop where
  run : ∀ (w : Wd) (d : D) (v : V) (l h : Option Int) (Q : VK) (ex : XP), Ok K Γ w → Pk K Γ w d v → Post K Γ (f d l h w.S) w (fun z w' => ∀ v, Rep K Γ w' z v → Q v w'.H) ex → r v l h w.H Q
structure SlF (K : PySem.W.Frag) (Γ : Gm) (r : V → Option Int → Option Int → Hp → VK → Prop) (f : D → Option Int → Option Int → Sto → Out D) : Prop where
  run : ∀ (w : Wd) (d : D) (v : V) (l h : Option Int) (Q : VK) (ex : XP), Ok K Γ w → Pk K Γ w d v → Post K Γ (f d l h w.S) w (fun z w' => ∀ a, OwnAt K Γ w w' z a → Q (.ref a) w'.H) ex → r v l h w.H Q
theorem sim_slF {r : V → Option Int → Option Int → Hp → VK → Prop} {f : D → Option Int → Option Int → Sto → Out D} (hf : SlF K Γ r f) (h : SimP K Γ xa W te me) (hl : SimO K Γ xa W tlo mlo) (hh : SimO K Γ xa W thi mhi) : SimF K Γ xa W (tSl r te tlo thi) (mSl f me mlo mhi) := ⟨fun w0 w σ δ Q o e n p =>
  h.run w0 w σ δ _ o e n (p.then fun d w1 o1 e1 p1 v r1 => hl.run w0 w1 σ δ _ o1 (e.trans e1) (n.ev e1) (p1.then fun l w2 o2 e2 p2 => hh.run w0 w2 σ δ _ o2 ((e.trans e1).trans e2) ((n.ev e1).ev e2) (p2.then fun h w3 o3 e3 p3 => hf.run w3 d v l h Q _ o3 (r1.ev (e2.trans e3)) (p3.mono (fun z w4 _ _ q a oa => q a (own_back ((e1.trans e2).trans e3) oa)) fun _ _ _ _ _ _ x => x))))⟩
def slL : D → Option Int → Option Int → Sto → Out D := fun d l h S => match listOf S d with
  | some xs => .ok (.lst (cutD xs l h)) S
  | none => .bad
theorem cutV_len {vs : List V} {l h : Option Int} (hl : vs.length ≤ sizeLine) : (cutV vs l h).length ≤ sizeLine := Nat.le_trans (cutV_length vs l h) hl
theorem sf_list : SlF K Γ (rSlL K) slL := ⟨fun w d v l h Q ex o r p => by
  unfold slL at p
  split at p
  · rename_i xs h1
    obtain ⟨a, vs, rfl, a1, a2, a3⟩ := listOf_ok o r h1
    refine ⟨a, vs, rfl, a1, fun q hq => ?_⟩
    obtain ⟨k1, k2⟩ := new_lst o (cut_reps (lo := l) (hi := h) a3) (cutV_len a2) hq p
    exact k1 _ k2
  · exact False.elim p⟩
structure M1F (K : PySem.W.Frag) (Γ : Gm) (r : V → List V → Hp → VK → Prop) (op : D → D → Sto → Out D) : Prop where
  run : ∀ (w : Wd) (d e : D) (x y : V) (Q : VK) (ex : XP), Ok K Γ w → Rep K Γ w d x → Pk K Γ w e y → Post K Γ (op d e w.S) w (fun z w' => ∀ a, OwnAt K Γ w w' z a → Q (.ref a) w'.H) ex → r x [y] w.H Q
structure M1M (K : PySem.W.Frag) (Γ : Gm) (r : V → List V → Hp → VK → Prop) (op : D → D → Sto → Out D) : Prop where
  run : ∀ (w : Wd) (d e : D) (x y : V) (Q : VK) (ex : XP), Ok K Γ w → Rep K Γ w d x → Pk K Γ w e y → Post K Γ (op d e w.S) w (fun z w' => ∀ v, Rep K Γ w' z v → Q v w'.H) ex → r x [y] w.H Q
/-- a new thing is put into the store at once -/
def mCell (me : ME) : ME := fun δ S => bnd (me δ S) fun d S => .ok (.ref S.length) (S ++ [some d])
theorem sim_cell (h : SimF K Γ xa W te me) : SimE K Γ xa W te (mCell me) := ⟨fun w0 w σ δ Q o e n p =>
  h.run w0 w σ δ _ o e n (p.thenE fun d w1 q o1 e1 _ a oa => by
    have p' : Post K Γ (bnd (me δ w.S) fun d S => .ok (.ref S.length) (S ++ [some d])) w (fun d w' => ∀ v, Rep K Γ w' d v → Q v w'.H) (XW K Γ W σ) := p
    rw [q] at p'
    exact p' (wAdd w1 a d) rfl (ok_add o1 oa.r oa.nl oa.at_) (ev_add o1 e1 oa.new) _ (rep_ref o1))⟩
end
end MR

namespace MR
open PySem PySem.Spec PyProof.Rows L2 TP
section
variable {K : PySem.W.Frag} {Γ : Gm} {xa : XT} {W : WX} {te ta tb to ti tv : TE} {me ma mb mo mk mv : ME} {w w' w0 w1 : Wd} {tl : TA} {ml : MA} {n N c : Nat} {C : Addr} {m : MF} {Dn : Ends}
/-- .. and how they stand to the built-in ones when compared -/
structure ClsG (K : PySem.W.Frag) (Γ : Gm) (N : Nat) : Prop extends ClsF K Γ N where
  nt : ∀ c, c < N → ∀ t ∈ kinds, PySem.W.notFirst K (Γ c) (.type t) = true
  nc : ∀ c c', c < N → c' < N → PySem.W.notFirst K (Γ c) (.ref (Γ c')) = true
def isObj (S : Sto) (c : Nat) (d : D) : Bool := match objOf S d with
  | some (c', _, _) => c' == c
  | none => false
theorem isObj_ok {d : D} {v : V} (o : Ok K Γ w) (r : Pk K Γ w d v) (h : isObj w.S c d = true) : ∃ a dx fs, v = .ref a ∧ w.H a = some (.ins (Γ c) dx fs) := by
  unfold isObj at h
  split at h
  · rename_i c' ns ds q
    obtain ⟨a, dx, vs, rfl, h2, _, _⟩ := objOf_ok o r q
    rw [beq_iff_eq.mp h] at h2
    exact ⟨a, dx, _, rfl, h2⟩
  · cases h
def negB (neg : Bool) (d : D) (S : Sto) : Out D := match d with
  | .bl b => .ok (.bl (xor neg b)) S
  | _ => .bad
/-- x == y, x <= y .. by an own method of x -/
def mCmpO (N c : Nat) (neg : Bool) (m : MF) (ma mb : ME) : ME := fun δ S => bnd (ma δ S) fun x S => bnd (mb δ S) fun y S => if isObj S c x && decide (c < N) then match kindD S y with
    | some (.t _) => bnd (m [x, y] S) (negB neg)
    | some (.c c') => if c' < N then bnd (m [x, y] S) (negB neg) else .bad
    | none => .bad
  else .bad
theorem reps_pair {d e : D} {v u : V} (h : Rep K Γ w d v) (g : Rep K Γ w e u) : Reps K Γ w [d, e] [v, u] := reps_cons h (reps_cons g reps_nil)
/-- x | y .. by an own method, both of the class -/
def mBinO (c : Nat) (m : MF) (ma mb : ME) : ME := fun δ S => bnd (ma δ S) fun x S => bnd (mb δ S) fun y S => if isObj S c x && isObj S c y then m [x, y] S else .bad
/-- .. the second one an int -/
def mBinI (c : Nat) (m : MF) (ma mb : ME) : ME := fun δ S => bnd (ma δ S) fun x S => bnd (mb δ S) fun y S => match y with
  | .int _ => if isObj S c x then m [x, y] S else .bad
  | _ => .bad
/-- v in o -/
def mInZ (c : Nat) (neg : Bool) (m : MF) (ma mb : ME) : ME := fun δ S => bnd (ma δ S) fun x S => bnd (mb δ S) fun y S => if isObj S c y then bnd (m [y, x] S) (negB neg) else .bad
/-- o[i] -/
def mGetZ (c : Nat) (m : MF) (ma mb : ME) : ME := fun δ S => bnd (ma δ S) fun x S => bnd (mb δ S) fun y S => if isObj S c x then m [x, y] S else .bad
theorem sim_getZ (hc : Γ c = C) (ha : SimE K Γ xa W ta ma) (hb : SimE K Γ xa W tb mb) : SimE K Γ xa W (tOpS (rGetZ C (spM K Γ 2 m) W) ta tb) (mGetZ c m ma mb) := ⟨fun w0 w σ δ Q o e n p =>
  ha.run w0 w σ δ _ o e n (p.then fun x w1 o1 e1 p1 v r1 => hb.run w0 w1 σ δ _ o1 (e.trans e1) (n.ev e1) (p1.then fun y w2 o2 e2 p2 u r2 => by
    have r1' := Rep.ev r1 e2
    split at p2
    · rename_i h
      obtain ⟨a, dx, fs, rfl, h2⟩ := isObj_ok o2 (.inl r1') h
      rw [hc] at h2
      exact ⟨a, dx, fs, rfl, h2, w2, [x, y], rfl, o2, reps_pair r1' r2, rfl, p2⟩
    · exact False.elim p2))⟩
/-- len(o) -/
def mLenZ (c : Nat) (m : MF) (ml : MA) : ME := fun δ S => bnd (ml δ S) fun ds S => match ds with
  | [x] => if isObj S c x then bnd (m [x] S) fun r S => match r with
      | .int k => if 0 ≤ k ∧ k < 9223372036854775808 then .ok (.int k) S else .bad
      | _ => .bad
    else .bad
  | _ => .bad
theorem sim_lenZ (hc : Γ c = C) (ha : SimA K Γ xa W n tl ml) : SimE K Γ xa W (tCBS (rLenZ C (spM K Γ 1 m) W) tl) (mLenZ c m ml) := ⟨fun w0 w σ δ Q o e n p =>
  ha.run w0 w σ δ _ o e n (p.then fun ds w1 o1 e1 p1 vs r1 => by
    split at p1
    · obtain ⟨v, rfl, r⟩ := reps1 r1
      split at p1
      · rename_i h
        obtain ⟨a, dx, fs, rfl, h2⟩ := isObj_ok o1 (.inl r) h
        rw [hc] at h2
        refine ⟨a, dx, fs, rfl, h2, w1, _, rfl, o1, reps_cons r reps_nil, rfl, p1.then fun z w3 o3 e3 p3 v3 r3 => ?_⟩
        split at p3
        · split at p3
          · rename_i k hk
            exact ⟨k, rep_int r3, hk.1, by omega, Post.now p3 o3 _ (by simp only [Rep, RepC])⟩
          · exact False.elim p3
        · exact False.elim p3
      · exact False.elim p1
    · exact False.elim p1)⟩
/-- o[i] = v by an own method -/
def mSetZ (c : Nat) (m : MF) (me mo mk : ME) : MS := fun δ S => bndS (me δ S) δ fun d S => bndS (mo δ S) δ fun x S => bndS (mk δ S) δ fun k S => if isObj S c x then bndS (m [x, k, d] S) δ fun _ S => .ok (.nx δ) S else .bad
theorem sim_setZ (hc : Γ c = C) (h : SimE K Γ xa W te me) (ho : SimE K Γ xa W to mo) (g : SimE K Γ xa W ti mk) : SimS K Γ xa W (tAsg te (gSubS to ti (rSetZ C (spM K Γ 3 m) W))) (mSetZ c m me mo mk) := ⟨fun w0 w σ δ Dn o e n p => by
  refine h.run w0 w σ δ _ o e n (p.then e n fun d w1 o1 e1 p1 v r1 => ?_)
  refine ho.run w0 w1 σ δ _ o1 (e.trans e1) (n.ev e1) (p1.then (e.trans e1) (n.ev e1) fun x w2 o2 e2 p2 u r2 => ?_)
  have e12 := e1.trans e2
  refine g.run w0 w2 σ δ _ o2 (e.trans e12) (n.ev e12) (p2.then (e.trans e12) (n.ev e12) fun k w3 o3 e3 p3 z r3 => ?_)
  have e13 := e12.trans e3
  have r1' : Rep K Γ w3 d v := Rep.ev r1 (e2.trans e3)
  have r2' : Rep K Γ w3 x u := Rep.ev r2 e3
  split at p3
  · rename_i hh
    obtain ⟨a, dx, fs, rfl, h2⟩ := isObj_ok o3 (.inl r2') hh
    rw [hc] at h2
    exact ⟨a, dx, fs, rfl, h2, w3, _, rfl, o3, reps_cons r2' (reps_cons r3 (reps_cons r1' reps_nil)), rfl, p3.then (e.trans e13) (n.ev e13) fun y w4 o4 e4 p4 v4 r4 => p4.nx o4 ((e.trans e13).trans e4) ((n.ev e13).ev e4)⟩
  · exact False.elim p3⟩
/-- i += e -/
def mAug (i : Nat) (f : Int → Int → Int) (me : ME) : MS := fun δ S => match δ[i]? with
  | some (.val (.int x)) => bndS (me δ S) δ fun y S => match y with
    | .int y => .ok (.nx (δ.set i (.val (.int (f x y))))) S
    | _ => .bad
  | _ => .bad
theorem sim_aug {i : Nat} {f : Int → Int → Int} (h : SimE K Γ xa W te me) : SimS K Γ xa W (tAug i te (ipI f)) (mAug i f me) := ⟨fun w0 w σ δ Dn o e n p => by
  unfold mAug at p
  split at p
  · rename_i x hx
    obtain ⟨v, h1, r1⟩ := n.val hx
    refine ⟨v, h1, ?_⟩
    refine h.run w0 w σ δ _ o e n (p.then e n fun y w1 o1 e1 p1 u r2 => ?_)
    split at p1
    · exact ⟨_, _, rep_int r1, rep_int r2, p1.nx o1 (e.trans e1) ((n.ev e1).set (by simp only [Rep, RepC]))⟩
    · exact False.elim p1
  · exact False.elim p⟩
end
end MR

namespace MR
open PySem PySem.Spec PyProof.Rows L2 TP
section
variable {K : PySem.W.Frag} {Γ : Gm} {xa : XT} {W : WX}
/-- isinstance(e, T), e the error that is handled -/
structure IsxF (K : PySem.W.Frag) (Γ : Gm) (tab : List (Nat × Bool)) (cv : V) (cu : Value) : Prop where
  cls : ClsV cv cu
  ok : ∀ p ∈ tab, ExcC K (Γ p.1) ∧ PySem.W.kitOne K (.ref (Γ p.1)) cu = some p.2
end
theorem all_some {α : Type} {f : α → Option Bool} {l : List α} {b : Bool} (h : (l.all fun x => f x == some b) = true) : ∀ x ∈ l, f x = some b := fun x hx => by
  have := List.all_eq_true.mp h x hx
  simpa using this
theorem all_true {α : Type} {f : α → Bool} {l : List α} (h : l.all f = true) : ∀ x ∈ l, f x = true := List.all_eq_true.mp h
/-- the world at the law's entry -/
theorem law_in {K : PySem.W.Frag} {Γ : Gm} {m : MF} {a : Addr} {ns : List Int} {H : Hp} {Q : VK} {E : XK} (hS : SqL K H a (ns.map V.int)) (hl : ns.length ≤ 63) (hm : ∃ S, m [.scr ns] [] = .ok (.bl true) S) (q : ∀ H', Q (.bl true) H') : spM K Γ 1 m [.ref a] H Q E := by
  obtain ⟨S, hm⟩ := hm
  refine ⟨⟨H, [], [], H⟩, [.scr ns], rfl, ⟨fun _ _ e => e, rfl, fun n d e => by simp at e, fun n m d e a h => by simp at h⟩, reps_cons ?_ reps_nil, rfl, ?_⟩
  · simp only [RepC]
    exact ⟨a, rfl, hS, Nat.le_trans hl (by decide)⟩
  · show Post K Γ (m [.scr ns] []) _ _ _
    rw [hm]
    intro w' _ _ _ v r
    rw [rep_bl r]
    exact q _
end MR

namespace TP
open PySem PySem.Spec PyProof.Rows L2
section
variable {prog : Program} {w : World} {A : Around} {E : Value → Shared → Prop} {s : Shared}
end
end TP

namespace TP
open PySem PySem.Spec PyProof.Rows L2
section
variable {X : Cx}
end
end TP

namespace MR
open PySem PySem.Spec PyProof.Rows L2 TP
def insU (x : Int) : List Int → List Int
  | [] => [x]
  | y :: ys => if x < y then x :: y :: ys else if x = y then y :: ys else y :: insU x ys
def sortU : List Int → List Int
  | [] => []
  | x :: xs => insU x (sortU xs)
def intsOf : List D → Option (List Int)
  | [] => some []
  | .int b :: r => (intsOf r).map (b :: ·)
  | _ => none
theorem intsOf_map : ∀ ns : List Int, intsOf (ns.map D.int) = some ns
  | [] => rfl
  | n :: ns => by show (intsOf (ns.map D.int)).map (n :: ·) = _; rw [intsOf_map ns]; rfl
section
variable {K : PySem.W.Frag} {Γ : Gm} {xa : XT} {W : WX} {te : TE} {me : ME} {w w0 : Wd} {tl : TA} {ml : MA} {n : Nat}
theorem ints_reps {ns : List Int} : ∀ {ds : List D} {vs : List V}, intsOf ds = some ns → Reps K Γ w ds vs → vs = ns.map V.int := by
  intro ds
  induction ds generalizing ns with
  | nil => intro vs h r; cases h; simp only [Reps, RepsC] at r; exact r
  | cons d ds ih =>
    intro vs h r
    obtain ⟨v, ws, rfl, r1, r2⟩ := reps_inv r
    cases d with
    | int i =>
      unfold intsOf at h
      cases z : intsOf ds with
      | none => rw [z] at h; cases h
      | some cs => rw [z] at h; cases h; rw [rep_int r1, ih z r2]; rfl
    | _ => cases h
def mSortSet (me : ME) : ME := fun δ S => bnd (me δ S) fun d S => match (listOf S d).bind intsOf with
  | some ns => if ns.length < 63 then .ok (.lst ((sortU ns).map D.int)) S else .bad
  | none => .bad
theorem SimA.s (h : SimA K Γ xa W n tl ml) : SimAs K Γ xa W tl ml := ⟨h.run⟩
def mStar (me : ME) (ml : MA) : MA := fun δ S => bnd (me δ S) fun d S => match d with
  | .tup xs => bnd (ml δ S) fun ys S => .ok (xs ++ ys) S
  | .lst xs => bnd (ml δ S) fun ys S => .ok (xs ++ ys) S
  | _ => .bad
end
end MR

namespace TP
open PySem PySem.Spec PyProof.Rows L2
/-- what a def keeps over all that is given in a row, wherever there is room -/
def FnR (P : Program) (w : World) (K : PySem.W.Frag) (mg : Str → Option Value) (base : Heap) (CX : CXT) (k : Nat) (f : Addr) (sp : Sp) : Prop :=
  ∀ (A : Around) (outer : List Env) (s : Shared) (H : Hp) (us : List Value) (vs : List V) (Q : VK) (E : XK), Room k A → Env0 P w K mg base A outer s H → Vals vs us → sp vs H Q E → codeAny (model P w) A (.call (.ref f) ⟨us, []⟩) (CR CX outer P w H s Q E) s
/-- x(..), x an own class, by a promise over all that is given in a row -/
structure MakV (P : Program) (w : World) (K : PySem.W.Frag) (mg : Str → Option Value) (base : Heap) (k : Nat) (x : Str) (C : Addr) (sp : Sp) : Prop where
  ex : ∃ f : Addr, mg x = some (.ref C) ∧ Mk K C f ∧ FnR P w K mg base (L2.CX P w) k f sp
/-- what a def with a star parameter asks of the row: k ahead, the rest in a tuple -/
def spV (k : Nat) (sp : Sp) : Sp := fun vs H Q E => ∃ ws rest, vs = ws ++ rest ∧ ws.length = k ∧ rest.length ≤ sizeLine ∧ ∀ p, H p = none → sp (ws ++ [V.ref p]) (upd H p (.tup rest)) Q E
section
variable {X : Cx} {k j : Nat} {C : Addr} {sp : Sp} {W : WX} {x : Str} {p p' pos : Pos} {e : Expr} {es : List Expr} {t : TA} {te : TE}
end
/-- .. as it stands: a def with a star parameter behind k others -/
structure StrI (K : PySem.W.Frag) (mg : Str → Option Value) (x : Str) (C : Addr) (qual : Str) (st : Stmt) (ps : List Str) (pv : Str) : Prop where
  ex : ∃ (f : Addr) (oc : Value) (od an : Option Addr) (osl : Array (Option Value)) (dV kV doc pm cdv ct : Value), mg x = some (.ref C) ∧ Mk K C f ∧
    K.lookup f = some ⟨oc, od, .func (PySem.W.fnOf "__init__" qual (defArgs st) (defBody st) (defScope st) dV kV doc pm an cdv ct), osl⟩ ∧ PySem.W.codeIn K cdv qual = true ∧
    ∀ us rest : List Value, us.length = ps.length → bindArgs (PySem.W.fnOf "__init__" qual (defArgs st) (defBody st) (defScope st) dV kV doc pm an cdv ct) ⟨us ++ rest, []⟩ = (newTuple rest >>= fun t => pure (ps.zip us ++ [(pv, t)]))
/-- a def with a star parameter: the rest of the row is a new tuple -/
theorem fn_starG {CX : CXT} {P : Program} {w : World} {K : PySem.W.Frag} {mg : Str → Option Value} {base : Heap} {k : Nat} {f : Addr} {name qual pv : Str} {params : Arguments} {body : List Stmt} {scope : Scope} {dV kV doc pm cdv ct oc : Value} {an od : Option Addr} {osl : Array (Option Value)} {N ps : List Str} {sp : Sp}
    (lk : K.lookup f = some ⟨oc, od, .func (PySem.W.fnOf name qual params body scope dV kV doc pm an cdv ct), osl⟩) (hcd : PySem.W.codeIn K cdv qual = true) (S : FnScope N (ps ++ [pv]) scope) (hCX : StX.CXUp CX)
    (hb : ∀ us rest : List Value, us.length = ps.length → bindArgs (PySem.W.fnOf name qual params body scope dV kV doc pm an cdv ct) ⟨us ++ rest, []⟩ = (newTuple rest >>= fun t => pure (ps.zip us ++ [(pv, t)])))
    (hbody : ∀ (A : Around) (outer : List Env) (s : Shared) (H : Hp) (vs : List V) (Q : VK) (E : XK), Room k (A.deeper (envOfC qual scope s.heap.objs.size f cdv)) → sp vs H Q E →
      ∃ t, PSs (cxOf CX P w K mg base N qual scope f cdv A outer s H E) body t ∧ t { nx := fun _ H' => Q .non H', rt := Q } (L2.start N vs) H) : FnR P w K mg base CX (k + 1) f (spV ps.length sp) := by
  rintro A outer s H us vs Q E hr e0 r ⟨ws, rest, rfl, hl, hz, hq⟩
  obtain ⟨u1, u2, rfl, r1, r2⟩ := StX.vals_split r
  have l1 : ps.length = u1.length := by rw [← hl]; exact r1.length
  have free : H s.heap.objs.size = none := e0.hok.fresh (Nat.le_refl _)
  refine StX.run_bnd lk hcd S hr.toRoom e0 (G := fun xs H2 => ∃ p, H p = none ∧ xs = ws ++ [V.ref p] ∧ H2 = upd H p (.tup rest)) (fun A' Ex Q' h => ?_) ?_
  · have new : ObjOk P w (upd H s.heap.objs.size (.tup rest)) (s.heap.push ({ cls := .type "tuple", data := .seq u2.toArray } : Obj)) s.heap.objs.size (.tup rest) := ⟨hz, u2, r2, ⟨_, Heap.get?_push_size _ rfl, rfl, _, rfl⟩⟩
    have un := StX.un_laid (fs := frs outer) (s := s) (o := ({ cls := .type "tuple", data := .seq u2.toArray } : Obj)) (u := .tup rest) free
    have z := h _ _ (ws ++ [V.ref s.heap.objs.size]) (u1 ++ [Value.ref s.heap.objs.size]) (StX.env0_laid e0 new) un rfl (fun e s' => hCX outer s H _ _ E e s' un (fun b o q => Heap.get?_push_of_some _ q) rfl) (r1.append (.cons rfl .nil)) (by rw [List.length_append, List.length_append, hl] <;> rfl) ⟨_, free, rfl, rfl⟩
    rw [List.zip_append l1] at z
    rw [hb u1 u2 l1.symm]
    exact wpAny_bind (wpAny_newTuple (wpAny_pure z) (by rw [← r2.length]; exact hz))
  · rintro s2 H2 xs ⟨p, hp, rfl, rfl⟩ hr'
    exact hbody A outer s2 _ _ Q E ⟨hr', hr.gd⟩ (hq p hp)
theorem StrI.okZ {P : Program} {w : World} {K : PySem.W.Frag} {mg : Str → Option Value} {base : Heap} {C : Addr} {x qual pv : Str} {st : Stmt} {N ps : List Str} {k : Nat} {sp : Sp} (F : StrI K mg x C qual st ps pv) (S : FnScope N (ps ++ [pv]) (defScope st)) {t : XK → TS}
    (hd : ∀ (f : Addr) (cdv : Value) (A : Around) (outer : List Env) (s : Shared) (H : Hp) (E : XK), Room k (A.deeper (envOfC qual (defScope st) s.heap.objs.size f cdv)) → PSs (cxOf (L2.CX P w) P w K mg base N qual (defScope st) f cdv A outer s H E) (defBody st) (t E))
    (hb : ∀ (H : Hp) (vs : List V) (Q : VK) (E : XK), sp vs H Q E → t E { nx := fun _ H' => Q .non H', rt := Q } (L2.start N vs) H) : MakV P w K mg base (k + 1) x C (spV ps.length sp) := by
  obtain ⟨f, oc, od, an, osl, dV, kV, doc, pm, cdv, ct, hm, M, lk, hcd, hbd⟩ := F.ex
  exact ⟨f, hm, M, fn_starG lk hcd S StX.cxUp hbd fun A outer s H vs Q E hr h => ⟨t E, hd f cdv A outer s H E hr, hb H vs Q E h⟩⟩
end TP

namespace TP
open PySem PySem.Spec PyProof.Rows L2
section
variable {prog : Program} {w : World} {A : Around} {E : Value → Shared → Prop} {s : Shared} {K : PySem.W.Frag} {x C L f f0 dx : Addr} {h₀ : Heap} {m : Str → Option Value} {od : Option Obj} {nm : String}
open PySem.W in
end
/-- what int and C say of an operator that int declines -/
structure MixR (K : PySem.W.Frag) (C : Addr) (m : Str) : Prop where
  l : ∃ g : Addr, PySem.W.findIn K (.ref C) m = some (some (.ref g))
  sub : PySem.W.subIn K (.ref C) (.type "int") = some false
/-- .. and int -/
structure IntOp (nm : String) : Prop where
  ex : ∃ (id n : String) (g : Int → Int → Sem Fin) (b : Builtin), Slot "int" (PySem.dunder nm) id ∧ fillsNumberSlot (.type "int") nm = pure true ∧ entryFor table id = some b ∧ b = Builtin.Int.intBinary n g ∧ ∀ a b, argsOk id ⟨[a, b], []⟩
section
variable {X : Cx} {k j : Nat} {C : Addr} {ps : List Str} {sp : Sp} {W : WX}
end
end TP

namespace TP
open PySem PySem.Spec PyProof.Rows L2
/-- a staticmethod m of C, as it stands -/
structure StaI (K : PySem.W.Frag) (C : Addr) (m qual : Str) (st : Stmt) (ps : List Str) : Prop where
  ex : ∃ (p f : Addr) (fd : FuncData) (mc : Value), ClX.CRead K C mc ∧ PySem.W.findCls K (.ref C) mc m = some (.get (.builtin "staticmethod.__get__") (.ref p) .none (.ref C)) ∧ (∃ rest, PySem.W.recIn K p "staticmethod" = some (.ref f :: rest)) ∧ Fun K m qual st f fd ∧ Binds K fd ps []
theorem StaI.okZ {P : Program} {w : World} {K : PySem.W.Frag} {mg : Str → Option Value} {base : Heap} {C : Addr} {m qual : Str} {st : Stmt} {N ps : List Str} {k : Nat} {sp : Sp} (F : StaI K C m qual st ps) (S : FnScope N ps (defScope st)) (len : ∀ vs H Q E, sp vs H Q E → vs.length = ps.length) {t : XK → TS}
    (hd : ∀ (f : Addr) (cdv : Value) (A : Around) (outer : List Env) (s : Shared) (H : Hp) (E : XK), Room k (A.deeper (envOfC qual (defScope st) s.heap.objs.size f cdv)) → PSs (cxOf (L2.CX P w) P w K mg base N qual (defScope st) f cdv A outer s H E) (defBody st) (t E))
    (hb : ∀ (H : Hp) (vs : List V) (Q : VK) (E : XK), sp vs H Q E → t E { nx := fun _ H' => Q .non H', rt := Q } (start N vs) H) : StaZ P w K mg base (k + 1) C m ps sp := by
  obtain ⟨p, f, fd, mc, h1, h2, h3, F, b⟩ := F.ex
  exact ⟨p, f, fd, mc, h1, h2, h3, F.kp, okG F S len fun cdv A outer s H vs Q E hr h => ⟨t E, hd f cdv A outer s H E hr, hb H vs Q E h⟩, b⟩
end TP

namespace MR
open PySem PySem.Spec PyProof.Rows L2 TP
section
variable {K : PySem.W.Frag} {Γ : Gm} {xa : XT} {W : WX} {w w0 : Wd} {tl : TA} {ml : MA} {n c : Nat} {C : Addr} {m : MI}
/-- C(..), whose __init__ has k parameters and a star one -/
def mNewV (c k : Nat) (m : MI) (ml : MA) : ME := fun δ S => bnd (ml δ S) fun ds S => if k ≤ ds.length ∧ ds.length ≤ 16777216 then bnd (m (ds.take k ++ [.tup (ds.drop k)]) S) fun p S => .ok (.obj c p.1 p.2) S else .bad
end
end MR

namespace MR
open PySem PySem.Spec PyProof.Rows L2 TP
section
variable {K : PySem.W.Frag} {Γ : Gm} {xa : XT} {W : WX} {ta tb : TE} {ma mb : ME} {m : MF} {c : Nat} {C : Addr}
/-- i op o, i an int -/
def mBinR (c : Nat) (m : MF) (ma mb : ME) : ME := fun δ S => bnd (ma δ S) fun x S => bnd (mb δ S) fun y S => match x with
  | .int _ => if isObj S c y then m [y, x] S else .bad
  | _ => .bad
end
end MR

namespace TP
open PySem PySem.Spec PyProof.Rows L2
section
variable {X : Cx} {k j : Nat} {C : Addr} {ps : List Str} {sp : Sp} {W : WX}
end
end TP

namespace MR
open PySem PySem.Spec PyProof.Rows L2 TP
section
variable {K : PySem.W.Frag} {Γ : Gm} {xa : XT} {W : WX} {ta tb : TE} {ma mb : ME} {m : MF} {c : Nat} {C : Addr}
/-- all of these are equal, two by two, and nothing is changed by the asking -/
def EqAll (c : Nat) (m : MF) (S : Sto) (xs ys : List D) : Prop := xs.length = ys.length ∧ ∀ p ∈ xs.zip ys, isObj S c p.1 = true ∧ isObj S c p.2 = true ∧ m [p.1, p.2] S = .ok (.bl true) S
open Classical in
/-- x == y, two lists of own things that are equal -/
noncomputable def mEqL (c : Nat) (m : MF) (ma mb : ME) : ME := fun δ S => bnd (ma δ S) fun x S => bnd (mb δ S) fun y S => match x, y with
  | .lst xs, .lst ys => if EqAll c m S xs ys then .ok (.bl true) S else .bad
  | _, _ => .bad
end
end MR

namespace TP
open PySem PySem.Spec PyProof.Rows L2
/-- C.f, a property that raises nothing -/
structure PrpZ (P : Program) (w : World) (K : PySem.W.Frag) (mg : Str → Option Value) (base : Heap) (k : Nat) (C : Addr) (f : Str) (ps : List Str) (sp : Sp) : Prop where
  ex : ∃ (p g : Addr) (fd : FuncData), PropOf K C f p g ∧ L2.FnOk P w K mg base (L2.CX P w) k g fd ps sp ∧ Binds K fd ps []
section
variable {X : Cx} {k j : Nat} {C : Addr} {f : Str} {ps : List Str} {sp : Sp} {e : Expr} {pos : Pos} {ta : TE}
end
/-- where a parameter's value comes from -/
inductive Src where
  | pos (i : Nat)
  | kw (i : Nat)
  | dfl (i : Nat)
def pick {α : Type} (us ws ds : List α) : Src → Option α
  | .pos i => us[i]?
  | .kw i => ws[i]?
  | .dfl i => ds[i]?
def arr {α : Type} (src : List Src) (us ws ds : List α) : List α := src.filterMap (pick us ws ds)
theorem vals_get {vs : List V} {us : List Value} (h : Vals vs us) (i : Nat) : (vs[i]? = none ∧ us[i]? = none) ∨ ∃ v u, vs[i]? = some v ∧ us[i]? = some u ∧ RelV v u := by
  induction h generalizing i with
  | nil => exact .inl ⟨by simp, by simp⟩
  | cons r t ih =>
    cases i with
    | zero => exact .inr ⟨_, _, rfl, rfl, r⟩
    | succ i => simpa using ih i
theorem arr_vals {src : List Src} {vs zs dv : List V} {us ws ds : List Value} (h1 : Vals vs us) (h2 : Vals zs ws) (h3 : Vals dv ds) : Vals (arr src vs zs dv) (arr src us ws ds) := by
  induction src with
  | nil => exact .nil
  | cons s src ih =>
    have key : (pick vs zs dv s = none ∧ pick us ws ds s = none) ∨ ∃ v u, pick vs zs dv s = some v ∧ pick us ws ds s = some u ∧ RelV v u := by
      cases s with
      | pos i => exact vals_get h1 i
      | kw i => exact vals_get h2 i
      | dfl i => exact vals_get h3 i
    unfold arr at ih ⊢
    rcases key with ⟨e1, e2⟩ | ⟨v, u, e1, e2, r⟩
    · rw [List.filterMap_cons_none e1, List.filterMap_cons_none e2]; exact ih
    · rw [List.filterMap_cons_some e1, List.filterMap_cons_some e2]; exact .cons r ih
/-- x(..), n given in a row (without self), ks by name -/
structure MakK (P : Program) (w : World) (K : PySem.W.Frag) (mg : Str → Option Value) (base : Heap) (k : Nat) (x : Str) (C : Addr) (n : Nat) (ks : List Str) (src : List Src) (dvs : List V) (ps : List Str) (sp : Sp) : Prop where
  ex : ∃ (f : Addr) (fd : FuncData) (its : List Value), mg x = some (.ref C) ∧ Mk K C f ∧ FnOk P w K mg base (L2.CX P w) k f fd ps sp ∧ Vals dvs its ∧
    ∀ (s : Shared) (v : Value) (us ws : List Value), K.In s.heap → us.length = n → ws.length = ks.length → BindsTo s fd ⟨v :: us, ks.zip ws⟩ (ps.zip (v :: arr src us ws its))
section
variable {X : Cx} {k j n : Nat} {C : Addr} {sp : Sp} {W : WX} {x : Str} {p pos : Pos} {e : Expr} {es : List Expr} {kws : List Keyword} {t tkw : TA} {ks ps : List Str} {src : List Src} {dvs : List V}
end
end TP

namespace TP
open PySem PySem.Spec PyProof.Rows L2
/-- .. as it stands -/
structure MkKI (K : PySem.W.Frag) (mg : Str → Option Value) (x : Str) (C : Addr) (m qual : Str) (st : Stmt) (n : Nat) (ks : List Str) (src : List Src) (dvs : List V) (ps : List Str) : Prop where
  ex : ∃ (f : Addr) (fd : FuncData) (its : List Value), mg x = some (.ref C) ∧ Mk K C f ∧ (∃ dvs kws, FunD K m qual (defArgs st) (defBody st) (defScope st) dvs kws f fd) ∧ Vals dvs its ∧
    ∀ (s : Shared) (v : Value) (us ws : List Value), K.In s.heap → us.length = n → ws.length = ks.length → BindsTo s fd ⟨v :: us, ks.zip ws⟩ (ps.zip (v :: arr src us ws its))
/-- a property as it stands -/
structure PrpI (K : PySem.W.Frag) (C : Addr) (f qual : Str) (st : Stmt) (ps : List Str) : Prop where
  ex : ∃ (p g : Addr) (fd : FuncData), PropOf K C f p g ∧ Fun K f qual st g fd ∧ Binds K fd ps []
section
variable {P : Program} {w : World} {K : PySem.W.Frag} {mg : Str → Option Value} {base : Heap} {C : Addr}
theorem MkKI.okZ {x m qual : Str} {st : Stmt} {n : Nat} {ks : List Str} {src : List Src} {dvs : List V} {N ps : List Str} {k : Nat} {sp : Sp} (F : MkKI K mg x C m qual st n ks src dvs ps) (S : FnScope N ps (defScope st)) (len : ∀ vs H Q E, sp vs H Q E → vs.length = ps.length) {t : XK → TS}
    (hd : ∀ (f : Addr) (cdv : Value) (A : Around) (outer : List Env) (s : Shared) (H : Hp) (E : XK), Room k (A.deeper (envOfC qual (defScope st) s.heap.objs.size f cdv)) → PSs (cxOf (L2.CX P w) P w K mg base N qual (defScope st) f cdv A outer s H E) (defBody st) (t E))
    (hb : ∀ (H : Hp) (vs : List V) (Q : VK) (E : XK), sp vs H Q E → t E { nx := fun _ H' => Q .non H', rt := Q } (start N vs) H) : MakK P w K mg base (k + 1) x C n ks src dvs ps sp := by
  obtain ⟨f, fd, its, at_, M, ⟨dv', kws, F⟩, hv, b⟩ := F.ex
  exact ⟨f, fd, its, at_, M, okGD F S len fun cdv A outer s H vs Q E hr h => ⟨t E, hd f cdv A outer s H E hr, hb H vs Q E h⟩, hv, b⟩
theorem PrpI.okZ {f qual : Str} {st : Stmt} {N ps : List Str} {k : Nat} {sp : Sp} (F : PrpI K C f qual st ps) (S : FnScope N ps (defScope st)) (len : ∀ vs H Q E, sp vs H Q E → vs.length = ps.length) {t : XK → TS}
    (hd : ∀ (f : Addr) (cdv : Value) (A : Around) (outer : List Env) (s : Shared) (H : Hp) (E : XK), L2.Room k (A.deeper (envOfC qual (defScope st) s.heap.objs.size f cdv)) → PSs (cxOf (L2.CX P w) P w K mg base N qual (defScope st) f cdv A outer s H E) (defBody st) (t E))
    (hb : ∀ (H : Hp) (vs : List V) (Q : VK) (E : XK), sp vs H Q E → t E { nx := fun _ H' => Q .non H', rt := Q } (start N vs) H) : PrpZ P w K mg base (k + 1) C f ps sp := by
  obtain ⟨p, g, fd, hp, F, b⟩ := F.ex
  exact ⟨p, g, fd, hp, F.okX S len fun cdv A outer s H vs Q E hr h => ⟨t E, hd g cdv A outer s H E hr, hb H vs Q E h⟩, b⟩
end
end TP

namespace MR
open PySem PySem.Spec PyProof.Rows L2 TP
section
variable {K : PySem.W.Frag} {Γ : Gm} {xa : XT} {W : WX} {te : TE} {me : ME} {m : MF} {c : Nat} {C : Addr} {tl tk : TA} {ml mk : MA} {n1 n2 : Nat}
end
end MR

namespace MR
open PySem PySem.Spec L2 TP
variable {K : PySem.W.Frag} {Γ : Gm} {w w0 w1 w' : Wd} {xa : XT} {W : WX} {te ta : TE} {me ma : ME} {tl : TA} {ml : MA} {n : Nat} {m : MF}
end MR

namespace TP
open PySem PySem.Spec PyProof.Rows L2
def rInsert : V → List V → Hp → VK → Prop := fun x vs H Q => ∃ (l : Addr) (xs : List V) (i : Int) (y : V), x = .ref l ∧ vs = [.int i, y] ∧ H l = some (.lst xs) ∧ xs.length < sizeLine ∧ 0 ≤ i ∧ i < 2 ^ 63 ∧
    Q .non (upd H l (.lst (xs.take i.toNat ++ [y] ++ xs.drop i.toNat)))
theorem mt_insertZ {X : Cx} : MtR X "list.insert" rInsert := mt_insert
end TP
namespace MR
open PySem PySem.Spec L2 TP
variable {K : PySem.W.Frag} {Γ : Gm} {w w0 w1 w' : Wd} {xa : XT} {W : WX} {te tk : TE} {me mk : ME}
def fSum : MF := fun ds S => match ds with
  | [d] => match (listOf S d).bind intsOf with
    | some ns => .ok (.int ns.sum) S
    | none => .bad
  | _ => .bad
theorem cm_sum : CallM K Γ (rSum K) fSum := ⟨fun w ds vs Q ex o r p => by
  unfold fSum at p
  split at p
  · rename_i d
    obtain ⟨v, rfl, r1⟩ := pks1 r
    split at p
    · rename_i ns h
      obtain ⟨xs, h1, h2⟩ := Option.bind_eq_some_iff.mp h
      obtain ⟨a, vs, rfl, a1, a2, a3⟩ := listOf_ok o r1 h1
      rw [ints_reps h2 a3] at a1
      exact ⟨a, ns, rfl, a1, Post.now p o _ (by simp only [Rep, RepC])⟩
    · exact False.elim p
  · exact False.elim p⟩
def mRevL (me : ME) : ME := fun δ S => bnd (me δ S) fun d S => match listOf S d with
  | some ds => .ok (.lst ds.reverse) S
  | none => .bad
theorem sim_revL (h : SimP K Γ xa W te me) : SimF K Γ xa W (tRevL K te) (mRevL me) := ⟨fun w0 w σ δ Q o e n p =>
  h.run w0 w σ δ _ o e n (p.then fun d w1 o1 e1 p1 v r1 => by
    split at p1
    · rename_i xs h1
      obtain ⟨a, vs, rfl, a1, a2, a3⟩ := listOf_ok o1 r1 h1
      refine ⟨a, vs, rfl, a1, fun q hq => ?_⟩
      obtain ⟨k1, k2⟩ := new_lst o1 (reps_rev a3) (by rw [List.length_reverse]; exact a2) hq p1
      exact k1 _ (own_back e1 k2)
    · exact False.elim p1)⟩
end MR

namespace TP
open PySem PySem.Spec PyProof.Rows L2
end TP
namespace MR
open PySem PySem.Spec L2 TP
variable {K : PySem.W.Frag} {Γ : Gm} {w w0 w1 w' : Wd} {xa : XT} {W : WX} {te tk : TE} {me mk : ME}
end MR

namespace MR
open PySem PySem.Spec L2 TP
variable {K : PySem.W.Frag} {Γ : Gm} {w w0 w1 w' : Wd} {xa : XT} {W : WX} {te tk : TE} {me mk : ME}
def deS (S : Sto) (d : D) : D := match d with
  | .ref n => match S[n]? with
    | some (some (.lst ds)) => .lst ds
    | _ => .ref n
  | d => d
theorem dp_deS {d : D} {v : V} (o : Ok K Γ w) (h : okN 9 (deS w.S d) = true) (r : Pk K Γ w d v) : Dp K w.H v (toPy (deS w.S d)) := by
  cases d with
  | ref n =>
    unfold deS at h ⊢
    dsimp only at h ⊢
    split at h
    · rename_i ds hs
      rcases r with r | ⟨_, a, rfl, oa⟩
      · obtain ⟨a, h1, h2⟩ := (show ∃ a, w.ρ[n]? = some a ∧ v = .ref a by simpa only [Rep, RepC] using r)
        subst h2
        obtain ⟨b, e1, _, vs, e2, _, e3⟩ := o.cell n _ hs
        rw [h1] at e1
        cases e1
        simp only [toPy]
        unfold okN at h
        exact .lst (SqL.of e2) (dpall_of (n := 8) o ds vs h e3)
      · exact False.elim oa.at_
    · unfold okN at h; cases h
  | _ => exact dp_pk (n := 8) h o r
theorem shp {d : D} (h : okN 9 d = true) : SeqAt.shaped (toPy d) = true := by
  have s := shaped_of 9 d h
  unfold SeqAt.shaped
  rw [s.1, decide_eq_true (Nat.le_trans s.2 (by decide))]; rfl
end MR

namespace MR
open PySem PySem.Spec L2 TP
abbrev Nxt := Nat → Sto → Option (Option D)
abbrev MN := Env → Sto → Out Nxt
structure ItemsD (K : PySem.W.Frag) (Γ : Gm) (w : Wd) (J : It) (nx : Nxt) : Prop where
  lim : ∀ w1 i d, Ok K Γ w1 → Gr w w1 → nx i w1.S = some (some d) → i < sizeLine
  go : ∀ w1 i d, Ok K Γ w1 → Gr w w1 → nx i w1.S = some (some d) → J.go i w1.H
  yld : ∀ w1 i d x H', Ok K Γ w1 → Gr w w1 → nx i w1.S = some (some d) → J.yld i w1.H x H' → ∃ w2, w2.H = H' ∧ w2.S = w1.S ∧ Ok K Γ w2 ∧ Ev w1 w2 ∧ Rep K Γ w2 d x
  stop : ∀ w1 i, Ok K Γ w1 → Gr w w1 → nx i w1.S = some none → J.stop i w1.H
structure SimDI (K : PySem.W.Frag) (Γ : Gm) (xa : XT) (W : WX) (wi : TI) (mi : MN) : Prop where
  run : ∀ (w0 w : Wd) (σ : L2.St) (δ : Env) (R : It → Hp → Prop), Ok K Γ w → Ev w0 w → EnvOk K Γ xa w0 w σ δ → Post K Γ (mi δ w.S) w (fun nx w' => ∀ J, ItemsD K Γ w' J nx → R J w'.H) (XW K Γ W σ) → wi σ w.H R
section
variable {K : PySem.W.Frag} {Γ : Gm} {xa : XT} {W : WX} {te : TE} {me : ME} {w w' w0 w1 : Wd} {t : TT} {mt : MT} {ts : TS} {ms : MS} {Dn : Ends} {tl : TA} {ml : MA} {wi : TI} {mi : MN} {tg : TG} {mg : MG} {vs : List Nat}
def lstAt (S : Sto) (n : Nat) : Option (List D) := match S[n]? with
  | some (some (.lst ds)) => some ds
  | _ => none
theorem lstAt_some {S : Sto} {n : Nat} {ds : List D} (h : lstAt S n = some ds) : S[n]? = some (some (.lst ds)) := by
  unfold lstAt at h
  split at h
  · rename_i e; cases h; exact e
  · cases h
end
end MR

namespace GQ
open PySem PySem.SeqAt
open AutoSeq1 (wpAny_loadPart')
open MeetsSeq MeetsSeq2 MeetsSeq3 SeqRoads2
section
variable {prog : Program} {w : World} {A : Around} {R : Result → Shared → Prop}
end
section
variable {prog : Program} {w : World} {A : Around} {E : Value → Shared → Prop} {s : Shared}
end
end GQ
namespace TP
open PySem PySem.Spec PyProof.Rows L2
section
variable {X : Cx} {k j : Nat} {C : Addr} {ps : List Str} {sp : Sp} {W : WX}
end
end TP

namespace MR
open PySem PySem.Spec L2 TP
open Classical in
section
variable {K : PySem.W.Frag} {Γ : Gm} {xa : XT} {W : WX} {ta tb : TE} {ma mb : ME} {w w' w0 w1 w2 : Wd} {c : Nat} {C : Addr} {m : MF}
end
end MR

namespace TP
open PySem PySem.Spec PyProof.Rows L2
end TP
namespace MR
open PySem PySem.Spec L2 TP
variable {K : PySem.W.Frag} {Γ : Gm} {w w0 w1 w' : Wd} {xa : XT} {W : WX} {te : TE} {me : ME} {tl : TA} {ml : MA}
def rngC (i c : Int) (n : Nat) : List D := (List.range n).map fun k : Nat => D.int (i + (k : Nat) * c)
def mIRng3 (ml : MA) : MA := fun δ S => bnd (ml δ S) fun ds S => match ds with
  | [.int i, .int j, .int c] => if c ≠ 0 ∧ c.natAbs < 1073741824 ∧ Builtin.Range.small i j c = true ∧ 0 ≤ Builtin.Range.rangeSize i j c ∧ Builtin.Range.rangeSize i j c ≤ 16777216 then .ok (rngC i c (Builtin.Range.rangeSize i j c).toNat) S else .bad
  | _ => .bad
theorem items_rngC {i c : Int} {n : Nat} (h : n ≤ sizeLine) : Items K Γ Gr w (Itc i c n) (rngC i c n) := by
  have hl : (rngC i c n).length = n := by unfold rngC; rw [List.length_map, List.length_range]
  refine ⟨by rw [hl]; exact h, fun w1 k _ _ hk => by rw [hl] at hk; exact hk, fun w1 k x H' o1 e1 hk y => ?_, fun w1 _ _ => by rw [hl]; exact Nat.le_refl n⟩
  rw [hl] at hk
  obtain ⟨rfl, rfl⟩ := y
  refine ⟨w1, .int (i + (k : Nat) * c), rfl, rfl, o1, Ev.refl w1, ?_, by simp only [Rep, RepC]⟩
  unfold rngC
  rw [List.getElem?_map, List.getElem?_range hk]; rfl
theorem sim_irng3 {n : Nat} (h : SimA K Γ xa W n tl ml) : SimI K Γ xa Gr W (iRng3 tl) (mIRng3 ml) := ⟨fun w0 w σ δ R o e n p =>
  h.run w0 w σ δ _ o e n (p.then fun ds w1 o1 e1 p1 vs r1 => by
    split at p1
    · rename_i i j c
      split at p1
      · rename_i hr
        simp only [Reps, RepsC] at r1
        obtain ⟨v1, us, rfl, q1, v2, us2, rfl, q2, v3, us3, rfl, q3, rfl⟩ := r1
        simp only [RepC] at q1 q2 q3
        subst q1 q2 q3
        refine ⟨i, j, c, (Builtin.Range.rangeSize i j c).toNat, rfl, ⟨hr.1, hr.2.1, hr.2.2.1, by rw [Int.toNat_of_nonneg hr.2.2.2.1]⟩, Post.now p1 o1 _ (items_rngC (by show _ ≤ 16777216; omega))⟩
      · exact False.elim p1
    · exact False.elim p1)⟩
end MR

namespace GQ
open PySem PySem.SeqAt
open AutoSeq1 (wpAny_loadPart')
open MeetsSeq MeetsSeq2 MeetsSeq3 SeqRoads2
section
variable {prog : Program} {w : World} {A : Around} {R : Result → Shared → Prop}
end
section
variable {prog : Program} {w : World} {A : Around} {E : Value → Shared → Prop} {s : Shared}
end
end GQ
namespace TP
open PySem PySem.Spec PyProof.Rows L2
section
variable {X : Cx} {k j : Nat} {C : Addr} {ps : List Str} {sp : Sp} {W : WX}
end
end TP

namespace MR
open PySem PySem.Spec L2 TP
open Classical in
section
variable {K : PySem.W.Frag} {Γ : Gm} {xa : XT} {W : WX} {ta tb : TE} {ma mb : ME} {w w' w0 w1 w2 : Wd} {c : Nat} {C : Addr} {m : MF}
end
end MR

namespace TP
open PySem PySem.Spec PyProof.Rows L2
section
variable {X : Cx}
end
end TP

namespace MR
open PySem PySem.Spec L2 TP
variable {K : PySem.W.Frag} {Γ : Gm} {xa : XT} {W : WX} {te ti : TE} {me mk : ME}
end MR

namespace TP
open PySem PySem.Spec PyProof.Rows L2
inductive HdsA (X : Cx) : List ExceptHandler → List (Value × Nat × (Addr → Value → Option Addr → TS)) → Prop
  | nil : HdsA X [] []
  | cons {x n : Str} {c : Value} {i : Nat} {ts : Addr → Value → Option Addr → TS} {b₀ : Stmt} {suite : List Stmt} {np pos' : Pos} {hds : List ExceptHandler} {l : List (Value × Nat × (Addr → Value → Option Addr → TS))} (hi : X.N[i]? = some n) (hln : X.env.kindOf n = some .local) (hc : Names X x c)
      (hsu : ∀ (a : Addr) (oe : Obj) (cls : Value) (d : Option Addr) (pn : List (Addr × Obj)), Zc cls d oe → (∃ vs, oe.data = .fields vs) → PSs (X.suite a ((a, oe) :: pn)) (b₀ :: suite) (ts a cls d)) (r : HdsA X hds l) :
      HdsA X (.ExceptHandler (some (.Name x np)) (some n) (b₀ :: suite) pos' :: hds) ((c, i, ts) :: l)
section
variable {X : Cx} {body : List Stmt} {h₀ : ExceptHandler} {hds : List ExceptHandler} {l : List (Value × Nat × (Addr → Value → Option Addr → TS))} {pos : Pos} {tb : WX → TS} {Wout : WX}
end
end TP

namespace MR
open PySem PySem.Spec L2 TP
section
variable {K : PySem.W.Frag} {Γ : Gm} {xa : XT} {W : WX} {te : TE} {me : ME} {w w' w0 w1 : Wd} {t t1 : TT} {mt mt1 : MT} {ms : MS} {wi wi1 : TI} {mi mi1 : MA} {tg tg1 : TG} {mg mg1 : MG} {vs vs1 : List Nat}
def notOwn : Slot → Bool
  | .own _ _ => false
  | _ => true
theorem EnvOk.grN {σ : L2.St} {δ : Env} (h : EnvOk K Γ xa w0 w σ δ) (hn : δ.all notOwn = true) (g : Gr w w') : EnvOk K Γ xa w0 w' σ δ := by
  refine ⟨h.len, fun i x s h1 h2 => ?_, h.sep⟩
  have k := h.ok i x s h1 h2
  cases s with
  | no => trivial
  | val d => obtain ⟨v, e1, e2⟩ := k; exact ⟨v, e1, Rep.gr e2 g⟩
  | own b d =>
    have := List.all_eq_true.mp hn _ (List.mem_of_getElem? h2)
    cases this
  | exn c ns ds => obtain ⟨e1, e2, e3⟩ := k; exact ⟨e1, e2, e3.imp (fun ⟨dd, vs, e3, e4, e5, e6⟩ => ⟨dd, vs, e3, g.rr _ _ e4, e5, Reps.gr e6 g⟩) id⟩
def mLc2L (mg : MG) (mt : MT) (mi1 : MA) (mg1 : MG) (mt1 : MT) (me : ME) (vs1 : List Nat) (δ : Env) : List D → Sto → Out (List D)
  | [], S => .ok [] S
  | d :: ds, S => match mg d δ with
    | none => .bad
    | some δ1 => bnd (noX (mt δ1 S)) fun b S => if b then bnd (noX (mi1 δ1 S)) fun es S => if es.length ≤ 4000 ∧ δ1.all notOwn = true then bnd (mLcL mg1 mt1 me (mwipe δ1 vs1) es S) fun ys S => bnd (mLc2L mg mt mi1 mg1 mt1 me vs1 δ ds S) fun zs S => .ok (ys ++ zs) S else .bad else mLc2L mg mt mi1 mg1 mt1 me vs1 δ ds S
def mLc2 (mi : MA) (mg : MG) (mt : MT) (mi1 : MA) (mg1 : MG) (mt1 : MT) (me : ME) (vs vs1 : List Nat) : ME := fun δ S => bnd (mi δ S) fun ds S => if ds.length ≤ 4000 then bnd (mLc2L mg mt mi1 mg1 mt1 me vs1 (mwipe δ vs) ds S) fun ys S => .ok (.lst ys) S else .bad
theorem sim_lc2 {us us1 : List Nat} (hi : SimI K Γ xa Ev W wi mi) (hg : SimN K Γ xa us tg mg) (ht : SimT K Γ xa noW t mt) (hi1 : SimI K Γ xa Gr noW wi1 mi1) (hg1 : SimN K Γ xa us1 tg1 mg1) (ht1 : SimT K Γ xa noW t1 mt1) (he : SimE K Γ xa noW te me) (hu : ∀ i ∈ us, i ∈ vs := by decide) (hu1 : ∀ i ∈ us1, i ∈ vs1 := by decide) : SimF K Γ xa W (tLc2 wi tg t wi1 tg1 t1 te vs vs1) (mLc2 mi mg mt mi1 mg1 mt1 me vs vs1) := ⟨fun w0 w σ δ Q o e n p =>
  hi.run w0 w σ δ _ o e n (p.then fun ds w1 o1 e1 p1 J it Dd hD => by
    split at p1
    case isFalse => exact False.elim p1
    rename_i hds
    let okF : D → Wd → Prop := fun d w' => ∀ a, OwnAt K Γ w w' d a → Q (.ref a) w'.H
    refine ⟨fun i m H => m = ds.length - i ∧ i ≤ ds.length ∧ ∃ w' acc, w'.H = H ∧ Ok K Γ w' ∧ Ev w1 w' ∧ OwnAt K Γ w1 w' (.lst acc) Dd ∧ acc.length ≤ i * 4000 ∧
        Post K Γ (bnd (mLc2L mg mt mi1 mg1 mt1 me vs1 (mwipe δ vs) (ds.drop i) w'.S) fun ys S => .ok (D.lst (acc ++ ys)) S) w1 okF (XW K Γ W σ), ⟨_, rfl, Nat.zero_le _, wPut w1 Dd (.lst []), [], rfl, ok_put o1 (r_none o1 hD) (not_live o1 hD), ev_put (Ev.refl _) hD, own_new o1 hD ⟨[], upd_same, by decide, reps_nil⟩, Nat.zero_le _, p1⟩, ?_⟩
    rintro i m H ⟨rfl, hi, w', acc, rfl, o', e', oa, hacc, p'⟩
    rcases Nat.lt_or_ge i ds.length with hlt | hge
    · refine .inr ⟨it.go w' i o' e' hlt, _, fun _ h => h, fun x H' y => ?_⟩
      obtain ⟨w2, d, rfl, hs2, o2, e2, hd, rx⟩ := it.yld w' i x H' o' e' hlt y
      have hdr : ds.drop i = d :: ds.drop (i + 1) := by
        rw [List.drop_eq_getElem_cons hlt]
        congr 1
        exact Option.some.inj ((List.getElem?_eq_getElem hlt).symm.trans hd)
      rw [hdr] at p'
      unfold mLc2L at p'
      have n2 : EnvOk K Γ xa w0 w2 (wipe σ vs) (mwipe δ vs) := (((n.ev e1).ev e').ev e2).wipe vs
      have ev02 : Ev w0 w2 := ((e.trans e1).trans e').trans e2
      refine hg.run w0 w2 _ _ d x _ o2 n2 rx ?_
      cases zg : mg d (mwipe δ vs) with
      | none => rw [zg] at p'; exact p'
      | some δ1 =>
        rw [zg] at p'
        dsimp only at p'
        rw [← hs2, bnd_assoc] at p'
        intro σ1 n1 hl1 hk1
        refine ⟨(wipe_same hl1 hk1 hu).trans (wipe_wipe vs), ?_⟩
        refine ht.run w0 w2 σ1 δ1 _ o2 ev02 n1 (Post.noX ((Post.ev p' (e'.trans e2)).thenE fun b w3 q3 o3 e3 p3 => ?_))
        have oa3 := (oa.ev e2).ev e3
        have m1 : ds.length - (i + 1) < ds.length - i := by omega
        rw [q3] at p'
        cases b with
        | false =>
          rw [if_neg (by simp)]
          exact ⟨_, m1, rfl, hlt, w3, acc, rfl, o3, (e'.trans e2).trans e3, oa3, by omega, p'⟩
        | true =>
          rw [if_pos rfl]
          have e13 : Ev w1 w3 := (e'.trans e2).trans e3
          have p3' : Post K Γ (bnd (noX (mi1 δ1 w3.S)) fun es S => bnd (if es.length ≤ 4000 ∧ δ1.all notOwn = true then bnd (mLcL mg1 mt1 me (mwipe δ1 vs1) es S) fun ys S => bnd (mLc2L mg mt mi1 mg1 mt1 me vs1 (mwipe δ vs) (ds.drop (i + 1)) S) fun zs S => .ok (ys ++ zs) S else .bad) fun ys S => .ok (D.lst (acc ++ ys)) S) w1 okF (XW K Γ W σ) := by
            rw [← bnd_assoc]; exact p'
          refine hi1.run w0 w3 σ1 δ1 _ o3 (ev02.trans e3) (n1.ev e3) (Post.noX ((Post.ev p3' e13).thenE fun es w4 q4 o4 e4 p4 J1 it1 => ?_))
          rw [q4] at p3'
          have p4' : Post K Γ (bnd (if es.length ≤ 4000 ∧ δ1.all notOwn = true then bnd (mLcL mg1 mt1 me (mwipe δ1 vs1) es w4.S) fun ys S => bnd (mLc2L mg mt mi1 mg1 mt1 me vs1 (mwipe δ vs) (ds.drop (i + 1)) S) fun zs S => .ok (ys ++ zs) S else .bad) fun ys S => .ok (D.lst (acc ++ ys)) S) w1 okF (XW K Γ W σ) := p3'
          split at p4'
          case isFalse => exact False.elim p4'
          rename_i hes
          obtain ⟨hes, hno⟩ := hes
          have e14 : Ev w1 w4 := e13.trans e4
          have e04 : Ev w0 w4 := (ev02.trans e3).trans e4
          refine ⟨fun j k H => k = es.length - j ∧ j ≤ es.length ∧ ∃ w' acc, w'.H = H ∧ Ok K Γ w' ∧ Ev w1 w' ∧ Gr w4 w' ∧ OwnAt K Γ w1 w' (.lst acc) Dd ∧ acc.length ≤ i * 4000 + j ∧
            Post K Γ (bnd (mLcL mg1 mt1 me (mwipe δ1 vs1) (es.drop j) w'.S) fun ys S => bnd (mLc2L mg mt mi1 mg1 mt1 me vs1 (mwipe δ vs) (ds.drop (i + 1)) S) fun zs S => .ok (D.lst (acc ++ (ys ++ zs))) S) w1 okF (XW K Γ W σ), ⟨_, rfl, Nat.zero_le _, w4, acc, rfl, o4, e14, Gr.refl _, oa3.ev e4, hacc, ?_⟩, ?_⟩
          · rw [bnd_assoc] at p4'
            have ef : (fun (ys : List D) (S : Sto) => bnd (bnd (mLc2L mg mt mi1 mg1 mt1 me vs1 (mwipe δ vs) (ds.drop (i + 1)) S) fun zs S => .ok (ys ++ zs) S) fun ys S => Out.ok (D.lst (acc ++ ys)) S) = fun ys S => bnd (mLc2L mg mt mi1 mg1 mt1 me vs1 (mwipe δ vs) (ds.drop (i + 1)) S) fun zs S => .ok (D.lst (acc ++ (ys ++ zs))) S := by
              funext ys S
              rw [bnd_assoc]; rfl
            rw [ef] at p4'
            exact p4'
          rintro j k H ⟨rfl, hj, w5, acc5, rfl, o5, e15, g5, oa5, hacc5, p5⟩
          rcases Nat.lt_or_ge j es.length with hlt1 | hge1
          · refine .inr ⟨it1.go w5 j o5 g5 hlt1, _, fun _ h => h, fun x1 H1 y1 => ?_⟩
            obtain ⟨w6, d1, rfl, hs6, o6, e6, hd1, rx1⟩ := it1.yld w5 j x1 H1 o5 g5 hlt1 y1
            have hdr1 : es.drop j = d1 :: es.drop (j + 1) := by
              rw [List.drop_eq_getElem_cons hlt1]
              congr 1
              exact Option.some.inj ((List.getElem?_eq_getElem hlt1).symm.trans hd1)
            rw [hdr1] at p5
            unfold mLcL at p5
            have n6 : EnvOk K Γ xa w0 w6 (wipe σ1 vs1) (mwipe δ1 vs1) := ((((n1.ev e3).ev e4).grN hno g5).ev e6).wipe vs1
            have ev06 : Ev w0 w6 := ((e.trans e1).trans e15).trans e6
            refine hg1.run w0 w6 _ _ d1 x1 _ o6 n6 rx1 ?_
            cases zg1 : mg1 d1 (mwipe δ1 vs1) with
            | none => rw [zg1] at p5; exact p5
            | some δ2 =>
              rw [zg1] at p5
              dsimp only at p5
              rw [← hs6, bnd_assoc] at p5
              intro σ2 n7 hl2 hk2
              refine ⟨(wipe_same hl2 hk2 hu1).trans (wipe_wipe vs1), ?_⟩
              have e16 : Ev w1 w6 := e15.trans e6
              refine ht1.run w0 w6 σ2 δ2 _ o6 ev06 n7 (Post.noX ((Post.ev p5 e16).thenE fun b w7 q7 o7 e7 p7 => ?_))
              have oa7 := (oa5.ev e6).ev e7
              have m2 : es.length - (j + 1) < es.length - j := by omega
              rw [q7] at p5
              cases b with
              | false =>
                rw [if_neg (by simp)]
                exact ⟨_, m2, rfl, hlt1, w7, acc5, rfl, o7, e16.trans e7, g5.trans (e6.gr.trans e7.gr), oa7, by omega, p5⟩
              | true =>
                rw [if_pos rfl]
                have p8 : Post K Γ (bnd (bnd (noX (me δ2 w7.S)) fun y S => bnd (mLcL mg1 mt1 me (mwipe δ1 vs1) (es.drop (j + 1)) S) fun ys S => .ok (y :: ys) S) fun ys S => bnd (mLc2L mg mt mi1 mg1 mt1 me vs1 (mwipe δ vs) (ds.drop (i + 1)) S) fun zs S => .ok (D.lst (acc5 ++ (ys ++ zs))) S) w1 okF (XW K Γ W σ) := p5
                rw [bnd_assoc] at p8
                refine he.run w0 w7 σ2 δ2 _ o7 (ev06.trans e7) (n7.ev e7) (Post.noX ((Post.ev p8 (e16.trans e7)).thenE fun yd w8 q8 o8 e8 p9 v r8 => ?_))
                rw [q8] at p8
                have oa8 := oa7.ev e8
                obtain ⟨va, h1, h2, h3⟩ := oa8.at_
                have hal := reps_len h3
                have hlen : va.length < sizeLine := by rw [sizeLine_eq]; omega
                refine ⟨va, h1, hlen, _, m2, rfl, hlt1, wPut w8 Dd (.lst (va ++ [v])), acc5 ++ [yd], rfl, ok_put o8 oa8.r oa8.nl, ?_, ?_, ?_, by rw [List.length_append]; simp; omega, ?_⟩
                · exact ev_put ((e16.trans e7).trans e8) oa8.new
                · have g8 : Gr w4 w8 := g5.trans (e6.gr.trans (e7.gr.trans e8.gr))
                  exact ⟨g8.rr, g8.pre⟩
                · exact ⟨oa8.new, oa8.r, oa8.nl, va ++ [v], upd_same, by rw [List.length_append]; simp; omega, reps_app h3 (reps_cons r8 reps_nil)⟩
                · have p10 : Post K Γ (bnd (bnd (mLcL mg1 mt1 me (mwipe δ1 vs1) (es.drop (j + 1)) w8.S) fun ys S => .ok (yd :: ys) S) fun ys S => bnd (mLc2L mg mt mi1 mg1 mt1 me vs1 (mwipe δ vs) (ds.drop (i + 1)) S) fun zs S => .ok (D.lst (acc5 ++ (ys ++ zs))) S) w1 okF (XW K Γ W σ) := p8
                  rw [bnd_assoc] at p10
                  have e9 : (fun (ys : List D) (S : Sto) => bnd (.ok (yd :: ys) S) fun ys S => bnd (mLc2L mg mt mi1 mg1 mt1 me vs1 (mwipe δ vs) (ds.drop (i + 1)) S) fun zs S => Out.ok (D.lst (acc5 ++ (ys ++ zs))) S) = fun ys S => bnd (mLc2L mg mt mi1 mg1 mt1 me vs1 (mwipe δ vs) (ds.drop (i + 1)) S) fun zs S => Out.ok (D.lst ((acc5 ++ [yd]) ++ (ys ++ zs))) S := by
                    funext ys S
                    show bnd (mLc2L mg mt mi1 mg1 mt1 me vs1 (mwipe δ vs) (ds.drop (i + 1)) S) (fun zs S => Out.ok (D.lst (acc5 ++ ((yd :: ys) ++ zs))) S) = _
                    congr 1
                    funext zs S
                    rw [List.append_assoc]; rfl
                  rw [e9] at p10
                  exact p10
          · have hj' : j = es.length := by omega
            subst hj'
            refine .inl ⟨it1.stop w5 o5 g5, ?_⟩
            rw [List.drop_length] at p5
            exact ⟨_, m1, rfl, hlt, w5, acc5, rfl, o5, e15, oa5, by rw [Nat.add_mul]; omega, p5⟩
    · have hi' : i = ds.length := by omega
      subst hi'
      refine .inl ⟨it.stop w' o' e', ?_⟩
      rw [List.drop_length] at p'
      have p2 : Post K Γ (.ok (D.lst (acc ++ [])) w'.S) w1 okF (XW K Γ W σ) := p'
      rw [List.append_nil] at p2
      exact p2.at rfl o' e' _ (own_back e1 oa))⟩
structure SimX (K : PySem.W.Frag) (Γ : Gm) (xa : XT) (W : WX) (tw : Ends → WX) (mx : Nat → List Str → List D → MS) : Prop where
  run : ∀ (w0 w : Wd) (σ : L2.St) (δ : Env) (Dn : Ends) (c : Nat) (ns : List Str) (ds : List D), Ok K Γ w → Ev w0 w → EnvOk K Γ xa w0 w σ δ → PostS K Γ xa W (mx c ns ds δ w.S) w0 w Dn → ∀ d, XD K Γ w d ns ds → tw Dn (.ref (Γ c)) d σ w.H
end
end MR

namespace TP
open PySem PySem.Spec PyProof.Rows L2
section
variable {X : Cx}
def rMx2 : List V → Hp → VK → Prop := fun xs H Q => ∃ i j, xs = [.int i, .int j] ∧ Q (.int (if j > i then j else i)) H
def rMn2 : List V → Hp → VK → Prop := fun xs H Q => ∃ i j, xs = [.int i, .int j] ∧ Q (.int (if j < i then j else i)) H
theorem cr_mx2 (hc : X.calm = true) : CallR X (.builtin "max") rMx2 := call_max2 hc
theorem cr_mn2 (hc : X.calm = true) : CallR X (.builtin "min") rMn2 := call_min2 hc
end
end TP
namespace MR
open PySem PySem.Spec L2 TP
section
variable {K : PySem.W.Frag} {Γ : Gm} {xa : XT} {W : WX} {w : Wd} {vs : List Nat}
def fMx2 : MF := fun ds S => match ds with
  | [.int i, .int j] => .ok (.int (if j > i then j else i)) S
  | _ => .bad
theorem cm_mx2 : CallM K Γ rMx2 fMx2 := ⟨fun w ds vs Q ex o r p => by
  unfold fMx2 at p
  split at p
  · rename_i i j
    obtain ⟨v, u, rfl, r1, r3⟩ := pks2 r
    exact ⟨i, j, by rw [pk_int r1, pk_int r3], Post.now p o _ (by simp only [Rep, RepC])⟩
  · exact False.elim p⟩
def fMn2 : MF := fun ds S => match ds with
  | [.int i, .int j] => .ok (.int (if j < i then j else i)) S
  | _ => .bad
theorem cm_mn2 : CallM K Γ rMn2 fMn2 := ⟨fun w ds vs Q ex o r p => by
  unfold fMn2 at p
  split at p
  · rename_i i j
    obtain ⟨v, u, rfl, r1, r3⟩ := pks2 r
    exact ⟨i, j, by rw [pk_int r1, pk_int r3], Post.now p o _ (by simp only [Rep, RepC])⟩
  · exact False.elim p⟩
def mGLst (n : Nat) (g : MGs) : MG := fun d δ => match d with
  | .lst ds => if ds.length = n then g ds δ else none
  | _ => none
theorem sim_glst {n : Nat} {tgs : TGs} {mgs : MGs} (h : SimNs K Γ xa vs tgs mgs) : SimN K Γ xa vs (gLst K n tgs) (mGLst n mgs) := ⟨fun w0 w σ δ d v Q o nn r p => by
  unfold mGLst at p
  cases d with
  | lst ds =>
    simp only [Rep, RepC] at r
    obtain ⟨a, xs, h1, h2, _, h4⟩ := r
    dsimp only at p
    by_cases z : ds.length = n
    · rw [if_pos z] at p
      exact ⟨a, xs, h1, SqL.of (o.same _ _ h2), by rw [← reps_len h4]; exact z, h.run w0 w σ δ ds xs Q o nn h4 p⟩
    · rw [if_neg z] at p; exact False.elim p
  | _ => exact False.elim p⟩
def deN (S : Sto) (d : D) : D := match d with
  | .scr is => .lst (is.map D.int)
  | d => deS S d
theorem dp_deN {d : D} {v : V} (o : Ok K Γ w) (h : okN 9 (deN w.S d) = true) (r : Pk K Γ w d v) : Dp K w.H v (toPy (deN w.S d)) := by
  cases d with
  | scr is =>
    rcases r with r | ⟨_, a, rfl, oa⟩
    · obtain ⟨a, rfl, h1, h2⟩ := (show ∃ a, v = .ref a ∧ SqL K w.R a (is.map V.int) ∧ is.length ≤ sizeLine by simpa only [Rep, RepC] using r)
      show Dp K w.H (.ref a) (toPy (.lst (is.map D.int)))
      simp only [toPy]
      have hr : Reps K Γ w (is.map D.int) (is.map V.int) := reps_ints
      unfold deN okN at h
      exact .lst (sqL_mono o.same h1) (dpall_of (n := 8) o _ _ h hr)
    · exact False.elim oa.at_
  | _ => exact dp_deS (d := _) o (by exact h) r
def opEqN (neg : Bool) : D → D → Sto → Out D := fun d e S => if okN 9 (deN S d) && okN 9 (deN S e) then .ok (.bl (xor neg (eqD (deN S d) (deN S e)))) S else .bad
theorem om_neN : OpM K Γ (rUnlike K) (opEqN true) := ⟨fun w d e x y Q ex o hx hy p => by
  unfold opEqN at p
  split at p
  · rename_i h
    rw [Bool.and_eq_true] at h
    refine .inr ⟨_, _, dp_deN o h.1 hx, dp_deN o h.2 hy, shp h.1, shp h.2, ?_⟩
    rw [Bool.true_xor] at p
    exact Post.now p o _ (by simp only [Rep, RepC]; rfl)
  · exact False.elim p⟩
end
end MR

namespace TP
open PySem PySem.Spec PySem.Calls PyProof.Rows L2
section
variable {M : Model} {A : Around} {E : Value → Shared → Prop} {s : Shared} {K : PySem.W.Frag} {env : PySem.Env} {pos p : Pos} {f : Value} {first : List Value} {Q : Value → Shared → Prop} {h₀ : Heap} {e : Expr} {rest : List Expr}
end
/-- n ahead, then what is given by name (or the defaults), then the tuple -/
def spW (k : Nat) (kv : List V) (sp : Sp) : Sp := fun vs H Q E => ∃ ws rest, vs = ws ++ rest ∧ ws.length = k ∧ rest.length ≤ sizeLine ∧ ∀ p, H p = none → sp (ws ++ kv ++ [V.ref p]) (upd H p (.tup rest)) Q E
def FnW (P : Program) (w : World) (K : PySem.W.Frag) (mg : Str → Option Value) (base : Heap) (CX : CXT) (k : Nat) (f : Addr) (ks : List Str) (src : List Src) (dvs : List V) (n : Nat) (sp : Sp) : Prop :=
  ∀ (A : Around) (outer : List Env) (s : Shared) (H : Hp) (us ws : List Value) (vs zs : List V) (Q : VK) (E : XK), Room k A → Env0 P w K mg base A outer s H → Vals vs us → Vals zs ws → zs.length = ks.length → spW n (arr src [] zs dvs) sp vs H Q E → codeAny (model P w) A (.call (.ref f) ⟨us, ks.zip ws⟩) (CR CX outer P w H s Q E) s
structure MakW (P : Program) (w : World) (K : PySem.W.Frag) (mg : Str → Option Value) (base : Heap) (k : Nat) (x : Str) (C : Addr) (ks : List Str) (src : List Src) (dvs : List V) (n : Nat) (sp : Sp) : Prop where
  ex : ∃ f : Addr, mg x = some (.ref C) ∧ Mk K C f ∧ FnW P w K mg base (L2.CX P w) k f ks src dvs n sp
section
variable {X : Cx} {k j n : Nat} {C : Addr} {sp : Sp} {W : WX} {x : Str} {p pos : Pos} {e : Expr} {es : List Expr} {kws : List Keyword} {t tkw : TA} {ks : List Str} {src : List Src} {dvs : List V}
end
/-- the def as it stands: what it binds -/
structure StWI (K : PySem.W.Frag) (mg : Str → Option Value) (x : Str) (C : Addr) (qual : Str) (st : Stmt) (ks : List Str) (src : List Src) (dvs : List V) (ps kn : List Str) (pv : Str) : Prop where
  ex : ∃ (f : Addr) (oc : Value) (od an : Option Addr) (osl : Array (Option Value)) (dV kV doc pm cdv ct : Value) (its : List Value), mg x = some (.ref C) ∧ Mk K C f ∧
    K.lookup f = some ⟨oc, od, .func (PySem.W.fnOf "__init__" qual (defArgs st) (defBody st) (defScope st) dV kV doc pm an cdv ct), osl⟩ ∧ PySem.W.codeIn K cdv qual = true ∧ Vals dvs its ∧
    ∀ (M : Model) (A : Around) (E : Value → Shared → Prop) (Q : List (Str × Value) → Shared → Prop) (s : Shared) (us rest ws : List Value), K.In s.heap → us.length = ps.length → ws.length = ks.length → wpAny M A (newTuple rest >>= fun t => pure (ps.zip us ++ kn.zip (arr src [] ws its) ++ [(pv, t)])) Q E s → wpAny M A (bindArgs (PySem.W.fnOf "__init__" qual (defArgs st) (defBody st) (defScope st) dV kV doc pm an cdv ct) ⟨us ++ rest, ks.zip ws⟩) Q E s
theorem StWI.okZ {P : Program} {w : World} {K : PySem.W.Frag} {mg : Str → Option Value} {base : Heap} {C : Addr} {x qual pv : Str} {st : Stmt} {ks : List Str} {src : List Src} {dvs : List V} {N ps kn : List Str} {k : Nat} {sp : Sp} (F : StWI K mg x C qual st ks src dvs ps kn pv) (S : FnScope N (ps ++ kn ++ [pv]) (defScope st)) (hsrc : src.length = kn.length) (hlen : ∀ zs : List V, zs.length = ks.length → (arr src [] zs dvs).length = kn.length) {t : XK → TS}
    (hd : ∀ (f : Addr) (cdv : Value) (A : Around) (outer : List Env) (s : Shared) (H : Hp) (E : XK), Room k (A.deeper (envOfC qual (defScope st) s.heap.objs.size f cdv)) → PSs (cxOf (L2.CX P w) P w K mg base N qual (defScope st) f cdv A outer s H E) (defBody st) (t E))
    (hb : ∀ (H : Hp) (vs : List V) (Q : VK) (E : XK), sp vs H Q E → t E { nx := fun _ H' => Q .non H', rt := Q } (L2.start N vs) H) : MakW P w K mg base (k + 1) x C ks src dvs ps.length sp := by
  obtain ⟨f, oc, od, an, osl, dV, kV, doc, pm, cdv, ct, its, hm, M, lk, hcd, hv, hbd⟩ := F.ex
  refine ⟨f, hm, M, ?_⟩
  rintro A outer s H us ws vs zs Q E hr e0 r rz lz ⟨w1, rest, rfl, hl, hz, hq⟩
  obtain ⟨u1, u2, rfl, r1, r2⟩ := StX.vals_split r
  have l1 : ps.length = u1.length := by rw [← hl]; exact r1.length
  have lw : ws.length = ks.length := by rw [← rz.length]; exact lz
  have rk : Vals (arr src [] zs dvs) (arr src [] ws its) := arr_vals .nil rz hv
  have lk2 : (arr src [] zs dvs).length = kn.length := hlen zs lz
  have lk3 : kn.length = (arr src [] ws its).length := by rw [← lk2]; exact rk.length
  have KX : K.In s.heap := e0.mod.kin.keeps fun b o e => (e0.bs b o e).1
  have free : H s.heap.objs.size = none := e0.hok.fresh (Nat.le_refl _)
  refine StX.run_bnd lk hcd S hr.toRoom e0 (G := fun xs H2 => ∃ p, H p = none ∧ xs = w1 ++ arr src [] zs dvs ++ [V.ref p] ∧ H2 = upd H p (.tup rest)) (fun A' Ex Q' h => ?_) ?_
  · have new : ObjOk P w (upd H s.heap.objs.size (.tup rest)) (s.heap.push ({ cls := .type "tuple", data := .seq u2.toArray } : Obj)) s.heap.objs.size (.tup rest) := ⟨hz, u2, r2, ⟨_, Heap.get?_push_size _ rfl, rfl, _, rfl⟩⟩
    have un := StX.un_laid (fs := frs outer) (s := s) (o := ({ cls := .type "tuple", data := .seq u2.toArray } : Obj)) (u := .tup rest) free
    have z := h _ _ (w1 ++ arr src [] zs dvs ++ [V.ref s.heap.objs.size]) (u1 ++ arr src [] ws its ++ [Value.ref s.heap.objs.size]) (StX.env0_laid e0 new) un rfl (fun e s' => StX.cxUp outer s H _ _ E e s' un (fun b o q => Heap.get?_push_of_some _ q) rfl) ((r1.append rk).append (.cons rfl .nil)) (by rw [List.length_append, List.length_append, List.length_append, List.length_append, hl, lk2] <;> rfl) ⟨_, free, rfl, rfl⟩
    rw [List.zip_append (by rw [List.length_append, List.length_append, l1, lk3]), List.zip_append l1] at z
    refine hbd _ _ _ _ _ u1 u2 ws KX l1.symm lw ?_
    exact wpAny_bind (wpAny_newTuple (wpAny_pure z) (by rw [← r2.length]; exact hz))
  · rintro s2 H2 xs ⟨p, hp, rfl, rfl⟩ hr'
    exact ⟨t E, hd f cdv A outer s2 _ E ⟨hr', hr.gd⟩, hb _ _ Q E (hq p hp)⟩
end TP

namespace MR
open PySem PySem.Spec PyProof.Rows L2 TP
section
variable {K : PySem.W.Frag} {Γ : Gm} {xa : XT} {W : WX} {c : Nat} {C : Addr} {tl tk : TA} {ml mk : MA} {n2 : Nat}
end
end MR

namespace PySem
open Sem (wp)
open AutoSeq1 (wpAny_loadPart')
end PySem
namespace TP
open PySem PySem.Spec PyProof.Rows L2
end TP

namespace PySem.W
open PySem PySem.Calls PyProof.Rows
end PySem.W
namespace TP
open PySem PySem.Spec PyProof.Rows L2
section
variable {X : Cx} {k j : Nat} {C : Addr} {ps : List Str} {sp : Sp} {W : WX}
/-- what the kinds of data and C say of such an operator -/
structure MixD (K : PySem.W.Frag) (C : Addr) (m rm : Str) (ts : List String) : Prop where
  r : ∃ rc : Option Value, PySem.W.findIn K (.ref C) rm = some rc ∧ (rc = none ∨ ∃ g : Addr, rc = some (.ref g))
  t : ∀ T ∈ ts, (PySem.W.findIn K (.type T) m).isSome = true ∧ (PySem.W.findIn K (.type T) rm).isSome = true ∧ PySem.W.subIn K (.type T) (.ref C) = some false
end
end TP

namespace MR
open PySem PySem.Spec PyProof.Rows L2 TP
section
variable {K : PySem.W.Frag} {Γ : Gm} {xa : XT} {W : WX} {w : Wd} {tl : TA} {ml : MA} {N c : Nat} {C : Addr} {ta tb : TE} {ma mb : ME} {m : MF}
end
end MR

namespace TP
open PySem PySem.Spec PySem.Calls PyProof.Rows L2
def FnO (P : Program) (w : World) (K : PySem.W.Frag) (mg : Str → Option Value) (base : Heap) (CX : CXT) (k : Nat) (f : Addr) (ks : List Str) (src : List Src) (dvs : List V) (sp : Sp) : Prop :=
  ∀ (A : Around) (outer : List Env) (s : Shared) (H : Hp) (u : Value) (ws : List Value) (v : V) (zs : List V) (Q : VK) (E : XK), Room k A → Env0 P w K mg base A outer s H → RelV v u → Vals zs ws → zs.length = ks.length → sp (v :: arr src [] zs dvs) H Q E → codeAny (model P w) A (.call (.ref f) ⟨[u], ks.zip ws⟩) (CR CX outer P w H s Q E) s
structure MakO (P : Program) (w : World) (K : PySem.W.Frag) (mg : Str → Option Value) (base : Heap) (k : Nat) (x : Str) (C : Addr) (ks : List Str) (src : List Src) (dvs : List V) (sp : Sp) : Prop where
  ex : ∃ f : Addr, mg x = some (.ref C) ∧ Mk K C f ∧ FnO P w K mg base (L2.CX P w) k f ks src dvs sp
section
variable {X : Cx} {k j : Nat} {C : Addr} {sp : Sp} {W : WX} {x : Str} {p pos : Pos} {kws : List Keyword} {tkw : TA} {ks : List Str} {src : List Src} {dvs : List V}
end
/-- the def as it stands: what it binds -/
structure StOI (K : PySem.W.Frag) (mg : Str → Option Value) (x : Str) (C : Addr) (qual : Str) (st : Stmt) (ks : List Str) (src : List Src) (dvs : List V) (ps : Str) (kn : List Str) : Prop where
  ex : ∃ (f : Addr) (oc : Value) (od an : Option Addr) (osl : Array (Option Value)) (dV kV doc pm cdv ct : Value) (its : List Value), mg x = some (.ref C) ∧ Mk K C f ∧
    K.lookup f = some ⟨oc, od, .func (PySem.W.fnOf "__init__" qual (defArgs st) (defBody st) (defScope st) dV kV doc pm an cdv ct), osl⟩ ∧ PySem.W.codeIn K cdv qual = true ∧ Vals dvs its ∧
    ∀ (M : Model) (A : Around) (E : Value → Shared → Prop) (Q : List (Str × Value) → Shared → Prop) (s : Shared) (u : Value) (ws : List Value), K.In s.heap → ws.length = ks.length → Q ((ps, u) :: kn.zip (arr src [] ws its)) s → wpAny M A (bindArgs (PySem.W.fnOf "__init__" qual (defArgs st) (defBody st) (defScope st) dV kV doc pm an cdv ct) ⟨[u], ks.zip ws⟩) Q E s
theorem StOI.okZ {P : Program} {w : World} {K : PySem.W.Frag} {mg : Str → Option Value} {base : Heap} {C : Addr} {x qual ps : Str} {st : Stmt} {ks : List Str} {src : List Src} {dvs : List V} {N kn : List Str} {k : Nat} {sp : Sp} (F : StOI K mg x C qual st ks src dvs ps kn) (S : FnScope N (ps :: kn) (defScope st)) (hlen : ∀ zs : List V, zs.length = ks.length → (arr src [] zs dvs).length = kn.length) {t : XK → TS}
    (hd : ∀ (f : Addr) (cdv : Value) (A : Around) (outer : List Env) (s : Shared) (H : Hp) (E : XK), Room k (A.deeper (envOfC qual (defScope st) s.heap.objs.size f cdv)) → PSs (cxOf (L2.CX P w) P w K mg base N qual (defScope st) f cdv A outer s H E) (defBody st) (t E))
    (hb : ∀ (H : Hp) (vs : List V) (Q : VK) (E : XK), sp vs H Q E → t E { nx := fun _ H' => Q .non H', rt := Q } (L2.start N vs) H) : MakO P w K mg base (k + 1) x C ks src dvs sp := by
  obtain ⟨f, oc, od, an, osl, dV, kV, doc, pm, cdv, ct, its, hm, M, lk, hcd, hv, hbd⟩ := F.ex
  refine ⟨f, hm, M, ?_⟩
  rintro A outer s H u ws v zs Q E hr e0 r rz lz hq
  have lw : ws.length = ks.length := by rw [← rz.length]; exact lz
  have rk : Vals (arr src [] zs dvs) (arr src [] ws its) := arr_vals .nil rz hv
  have lk2 : (arr src [] zs dvs).length = kn.length := hlen zs lz
  have KX : K.In s.heap := e0.mod.kin.keeps fun b o e => (e0.bs b o e).1
  refine StX.run_bnd lk hcd S hr.toRoom e0 (G := fun xs H2 => xs = v :: arr src [] zs dvs ∧ H2 = H) (fun A' Ex Q' h => ?_) ?_
  · have z := h s H (v :: arr src [] zs dvs) (u :: arr src [] ws its) e0 .refl rfl (fun e s' q => q) (.cons r rk) (by rw [List.length_cons, List.length_cons, lk2]) ⟨rfl, rfl⟩
    exact hbd _ _ _ _ _ u ws KX lw z
  · rintro s2 H2 xs ⟨rfl, rfl⟩ hr'
    exact ⟨t E, hd f cdv A outer s2 _ E ⟨hr', hr.gd⟩, hb _ _ Q E hq⟩
end TP

namespace TP
open PySem PySem.Spec PySem.Calls PyProof.Rows L2
section
variable {P : Program} {w : World} {A : Around} {E : Value → Shared → Prop} {d a : Addr} {knd : KeyKind P w Key}
end
section
variable {X : Cx} {k j : Nat} {C : Addr} {sp : Sp} {W : WX} {x : Str} {p pos : Pos} {e : Expr} {te : TE} {ks : List Str} {src : List Src} {dvs : List V} {kws : List Keyword}
end
end TP

namespace TP
open PySem PySem.Spec PySem.Calls PyProof.Rows L2
structure SetOf (K : PySem.W.Frag) (C : Addr) (f : Str) (g : Addr) : Prop where
  ex : ∃ (p : Addr) (a : Value) (rest : List Value), PySem.W.takerIn K C f = some (some (.ref p)) ∧ PySem.W.typeIn K (.ref p) = some (.type "property") ∧ PySem.W.recIn K p "property" = some (a :: .ref g :: rest)
structure StpZ (P : Program) (w : World) (K : PySem.W.Frag) (mg : Str → Option Value) (base : Heap) (k : Nat) (C : Addr) (f : Str) (ps : List Str) (sp : Sp) : Prop where
  ex : ∃ (g : Addr) (fd : FuncData), SetOf K C f g ∧ FnOk P w K mg base (L2.CX P w) k g fd ps sp ∧ Binds K fd ps []
section
variable {X : Cx} {k j : Nat} {C : Addr} {ps : List Str} {sp : Sp} {W : WX}
end
end TP

namespace TP
open PySem PySem.Spec PySem.Calls PyProof.Rows L2
structure DTab (P : Program) (w : World) (K : PySem.W.Frag) (a : Addr) (kvs : List (Key × V)) : Prop where
  ex : ∃ (o : Obj) (us : List (Key × Value)), K.lookup a = some o ∧ Obj.IsDictOf (mixKind P w) o us ∧ KV kvs us
  ns : (a == sysModules) = false
section
variable {X : Cx} {a : Addr} {kvs : List (Key × V)}
end
def eqSV : V → V → Bool
  | .str a, .str b => a == b
  | .bl a, .bl b => a == b
  | _, _ => false
def flatS : V → Bool
  | .str _ => true
  | .bl _ => true
  | _ => false
def eqSVs : List V → List V → Bool
  | [], [] => true
  | x :: xs, y :: ys => eqSV x y && eqSVs xs ys
  | _, _ => false
def rEqD (neg : Bool) : R2 := fun x y H Q => ∃ a b ks ls, x = .ref a ∧ y = .ref b ∧ Rd H a (.dK ks) ∧ Rd H b (.dK ls) ∧ ks.map (·.1) = ls.map (·.1) ∧ (∀ p ∈ ks, flatS p.2 = true) ∧ (∀ p ∈ ls, flatS p.2 = true) ∧ Q (.bl (xor neg (eqSVs (ks.map (·.2)) (ls.map (·.2))))) H
structure StpI (K : PySem.W.Frag) (C : Addr) (f qual : Str) (st : Stmt) (ps : List Str) : Prop where
  ex : ∃ (g : Addr) (fd : FuncData), SetOf K C f g ∧ Fun K f qual st g fd ∧ Binds K fd ps []
theorem StpI.okZ {P : Program} {w : World} {K : PySem.W.Frag} {mg : Str → Option Value} {base : Heap} {C : Addr} {f qual : Str} {st : Stmt} {N ps : List Str} {k : Nat} {sp : Sp} (F : StpI K C f qual st ps) (S : FnScope N ps (defScope st)) (len : ∀ vs H Q E, sp vs H Q E → vs.length = ps.length) {t : XK → TS}
    (hd : ∀ (f : Addr) (cdv : Value) (A : Around) (outer : List Env) (s : Shared) (H : Hp) (E : XK), Room k (A.deeper (envOfC qual (defScope st) s.heap.objs.size f cdv)) → PSs (cxOf (L2.CX P w) P w K mg base N qual (defScope st) f cdv A outer s H E) (defBody st) (t E))
    (hb : ∀ (H : Hp) (vs : List V) (Q : VK) (E : XK), sp vs H Q E → t E { nx := fun _ H' => Q .non H', rt := Q } (L2.start N vs) H) : StpZ P w K mg base (k + 1) C f ps sp := by
  obtain ⟨g, fd, hm, F, b⟩ := F.ex
  exact ⟨g, fd, hm, okG F S len fun cdv A outer s H vs Q E hr h => ⟨t E, hd g cdv A outer s H E hr, hb H vs Q E h⟩, b⟩
end TP

namespace MR
open PySem PySem.Spec PyProof.Rows L2 TP
section
variable {K : PySem.W.Frag} {Γ : Gm} {xa : XT} {W : WX} {w w' w0 : Wd} {te to ti ta tb : TE} {me mo mk ma mb : ME}
def keyOf : D → Option Key
  | .str t => some (.inr t)
  | .int i => some (.inl i)
  | _ => none
theorem keyOf_ok {d : D} {v : V} {k : Key} (h : Pk K Γ w d v) (e : keyOf d = some k) : v = kV k := by
  cases d with
  | str t =>
    cases e
    rcases h with h | ⟨_, _, _, h⟩
    · exact h
    · exact False.elim h.at_
  | int i =>
    cases e
    rcases h with h | ⟨_, _, _, h⟩
    · exact h
    · exact False.elim h.at_
  | _ => cases e
def lkD : List Key → List D → Key → Option D
  | k :: ks, d :: ds, j => if k = j then some d else lkD ks ds j
  | _, _, _ => none
theorem lk_zip : ∀ {ks : List Key} {ds : List D} {vs : List V} {j : Key}, Reps K Γ w ds vs → (lkD ks ds j = none → valV (ks.zip vs) j = none) ∧ (∀ d, lkD ks ds j = some d → ∃ v, valV (ks.zip vs) j = some v ∧ Rep K Γ w d v)
  | [], ds, vs, j, _ => ⟨fun _ => by rw [List.zip_nil_left]; exact valV_nil, fun d e => by cases e⟩
  | k :: ks, [], vs, j, h => by
    obtain rfl : vs = [] := h
    exact ⟨fun _ => by rw [List.zip_nil_right]; exact valV_nil, fun d e => by cases e⟩
  | k :: ks, d :: ds, vs, j, h => by
    obtain ⟨v, ws, rfl, r, t⟩ := reps_inv h
    rw [List.zip_cons_cons]
    obtain ⟨i1, i2⟩ := lk_zip (ks := ks) (j := j) t
    unfold lkD
    by_cases e : k = j
    · rw [if_pos e, valV_pos (p := (k, v)) e]
      exact ⟨fun z => (nomatch z), fun d' z => ⟨v, rfl, by cases z; exact r⟩⟩
    · rw [if_neg e, valV_neg (p := (k, v)) e]
      exact ⟨i1, i2⟩
theorem dicOf_ok {d : D} {v : V} {ks : List Key} {ds : List D} (o : Ok K Γ w) (h : Pk K Γ w d v) (e : dicOf w.S d = some (ks, ds)) : ∃ a vs, v = .ref a ∧ Rd w.H a (.dK (ks.zip vs)) ∧ ks.length = vs.length ∧ Reps K Γ w ds vs := by
  unfold dicOf at e
  split at e
  · cases e
    rcases h with h | ⟨_, a, rfl, h⟩
    · simp only [Rep, RepC] at h
      obtain ⟨a, vs, h1, h2, h3, h4⟩ := h
      refine ⟨a, vs, h1, ?_, h3, h4⟩
      rcases h2 with h2 | ⟨u, h2⟩
      · exact .inl (o.same _ _ h2)
      · exact .inr ⟨u, o.same _ _ h2⟩
    · obtain ⟨vs, h1, h2, h3⟩ := h.at_
      exact ⟨a, vs, rfl, .inl h1, h2, h3⟩
  · cases e
    rcases h with h | ⟨_, a, rfl, h⟩
    · simp only [Rep, RepC] at h
      obtain ⟨a, u, vs, h1, h2, h3, _, h4⟩ := h
      exact ⟨a, vs, h1, .inr ⟨u, o.same _ _ h2⟩, h3, h4⟩
    · exact False.elim h.at_
  · split at e
    · rename_i ks' ds' q
      cases e
      rcases h with h | ⟨_, a, rfl, h⟩
      · simp only [Rep, RepC] at h
        obtain ⟨a, h1, h2⟩ := h
        obtain ⟨b, h3, _, h4⟩ := o.cell _ _ q
        rw [h1] at h3
        cases h3
        obtain ⟨vs, g1, g2, g3⟩ := h4
        exact ⟨a, vs, h2, .inl g1, g2, g3⟩
      · exact False.elim h.at_
    · cases e
  · cases e
def rDGet : R2 := fun x y H Q => ∃ a v, x = .ref a ∧ DGet H a y (some v) ∧ Q v H
def opDGet : D → D → Sto → Out D := fun d e S => match dicOf S d, keyOf e with
  | some (ks, ds), some k => match lkD ks ds k with
    | some x => .ok x S
    | none => .bad
  | _, _ => .bad
theorem om_dget : OpM K Γ rDGet opDGet := ⟨fun w d e x y Q ex o hx hy p => by
  unfold opDGet at p
  split at p
  · rename_i ks ds k h1 h2
    obtain ⟨a, vs, rfl, hr, hl, rs⟩ := dicOf_ok o hx h1
    split at p
    · rename_i z hz
      obtain ⟨v, hv, rv⟩ := (lk_zip (ks := ks) (j := k) rs).2 z hz
      exact ⟨a, v, rfl, .inl ⟨_, k, hr, keyOf_ok hy h2, hv.symm⟩, Post.now p o _ rv⟩
    · exact False.elim p
  · exact False.elim p⟩
def rDIn (neg : Bool) : R2 := fun y x H Q => ∃ a o, x = .ref a ∧ DGet H a y o ∧ Q (.bl (if neg then !o.isSome else o.isSome)) H
def opDIn (neg : Bool) : D → D → Sto → Out D := fun e d S => match dicOf S d, keyOf e with
  | some (ks, ds), some k => .ok (.bl (if neg then !(lkD ks ds k).isSome else (lkD ks ds k).isSome)) S
  | _, _ => .bad
theorem om_din {neg : Bool} : OpM K Γ (rDIn neg) (opDIn neg) := ⟨fun w e d y x Q ex o hy hx p => by
  unfold opDIn at p
  split at p
  · rename_i ks ds k h1 h2
    obtain ⟨a, vs, rfl, hr, hl, rs⟩ := dicOf_ok o hx h1
    have key : (lkD ks ds k).isSome = (valV (ks.zip vs) k).isSome := by
      obtain ⟨i1, i2⟩ := lk_zip (ks := ks) (j := k) rs
      cases z : lkD ks ds k with
      | none => rw [i1 z]; rfl
      | some d => obtain ⟨v, hv, _⟩ := i2 d z; rw [hv]; rfl
    rw [key] at p
    exact ⟨a, _, rfl, .inl ⟨_, k, hr, keyOf_ok hy h2, rfl⟩, Post.now p o _ (by simp only [Rep, RepC])⟩
  · exact False.elim p⟩
def hasK (k : Key) (ks : List Key) : Bool := ks.any fun j => decide (j = k)
def putD (k : Key) (d : D) (ks : List Key) (ds : List D) : List Key × List D := if hasK k ks = true then (ks, (ks.zip ds).map fun p => if p.1 = k then d else p.2) else (ks ++ [k], ds ++ [d])
theorem putK_zip {k : Key} {d : D} {v : V} {ks : List Key} {ds : List D} {vs : List V} (hl : ks.length = vs.length) (rs : Reps K Γ w ds vs) (r : Rep K Γ w d v) : ∃ us, putK (ks.zip vs) k v = (putD k d ks ds).1.zip us ∧ (putD k d ks ds).1.length = us.length ∧ Reps K Γ w (putD k d ks ds).2 us := by
  have hm : ∀ {ks : List Key} {ds : List D} {vs : List V}, ks.length = vs.length → Reps K Γ w ds vs → ∃ us, ((ks.zip vs).map fun kv => if kv.1 = k then (kv.1, v) else kv) = ks.zip us ∧ ks.length = us.length ∧ Reps K Γ w ((ks.zip ds).map fun p => if p.1 = k then d else p.2) us := by
    intro ks
    induction ks with
    | nil => intro ds vs hl rs; exact ⟨[], rfl, rfl, by simp only [List.zip_nil_left, List.map_nil]; exact reps_nil⟩
    | cons k0 ks ih =>
      intro ds vs hl rs
      cases ds with
      | nil => obtain rfl : vs = [] := rs; cases hl
      | cons d0 ds =>
        obtain ⟨v0, ws, rfl, r0, t⟩ := reps_inv rs
        obtain ⟨us, h1, h2, h3⟩ := ih (by simpa using hl) t
        by_cases e : k0 = k
        · exact ⟨v :: us, by rw [List.zip_cons_cons, List.map_cons, h1, List.zip_cons_cons, if_pos e], by rw [List.length_cons, List.length_cons, h2], by rw [List.zip_cons_cons, List.map_cons, if_pos e]; exact reps_cons r h3⟩
        · exact ⟨v0 :: us, by rw [List.zip_cons_cons, List.map_cons, h1, List.zip_cons_cons, if_neg e], by rw [List.length_cons, List.length_cons, h2], by rw [List.zip_cons_cons, List.map_cons, if_neg e]; exact reps_cons r0 h3⟩
  have hany : ((ks.zip vs).any fun kv => decide (kv.1 = k)) = hasK k ks := by
    clear rs hm
    induction ks generalizing vs with
    | nil => rfl
    | cons k0 ks ih =>
      cases vs with
      | nil => cases hl
      | cons v0 vs =>
        rw [List.zip_cons_cons, List.any_cons, ih (by simpa using hl)]
        rfl
  unfold putK putD
  rw [hany]
  by_cases e : hasK k ks = true
  · rw [if_pos e, if_pos e]
    exact hm hl rs
  · rw [if_neg e, if_neg e]
    exact ⟨vs ++ [v], by rw [List.zip_append hl]; rfl, by rw [List.length_append, List.length_append, hl]; rfl, reps_app rs (reps_cons r reps_nil)⟩
def mSetD (me mo mk : ME) : MS := fun δ S => bndS (me δ S) δ fun d S => bndS (mo δ S) δ fun x S => bndS (mk δ S) δ fun k S => match x, keyOf k with
  | .ref m, some k => match S[m]? with
    | some (some (.dic ks ds)) => if ks.length < 16777216 then .ok (.nx δ) (S.set m (some (.dic (putD k d ks ds).1 (putD k d ks ds).2))) else .bad
    | _ => .bad
  | _, _ => .bad
theorem sim_setD (h : SimE K Γ xa W te me) (ho : SimE K Γ xa W to mo) (g : SimE K Γ xa W ti mk) : SimS K Γ xa W (sDPut to ti te) (mSetD me mo mk) := ⟨fun w0 w σ δ Dn o e n p => by
  refine h.run w0 w σ δ _ o e n (p.then e n fun d w1 o1 e1 p1 v r1 => ?_)
  refine ho.run w0 w1 σ δ _ o1 (e.trans e1) (n.ev e1) (p1.then (e.trans e1) (n.ev e1) fun x w2 o2 e2 p2 u r2 => ?_)
  have e12 := e1.trans e2
  refine g.run w0 w2 σ δ _ o2 (e.trans e12) (n.ev e12) (p2.then (e.trans e12) (n.ev e12) fun k w3 o3 e3 p3 z r3 => ?_)
  have e13 := e12.trans e3
  split at p3
  · rename_i m kk hk
    split at p3
    · rename_i ks ds hm
      obtain ⟨a, rfl, ha, vs, h2, h3, h4⟩ := cel_at o3 hm (Rep.ev r2 e3)
      split at p3
      · rename_i hl
        have r1' : Rep K Γ w3 d v := Rep.ev r1 (e2.trans e3)
        obtain ⟨us, q1, q2, q3⟩ := putK_zip (k := kk) h3 h4 r1'
        refine ⟨a, _, rfl, .inl ⟨_, kk, h2, keyOf_ok (.inl r3) hk, ?_, rfl⟩, ?_⟩
        · rw [List.length_zip, ← h3, Nat.min_self]; exact hl
        have at' : At K Γ (wCel w3 m a (.dK (putK (ks.zip vs) kk v)) (some (.dic (putD kk d ks ds).1 (putD kk d ks ds).2))) (.dic (putD kk d ks ds).1 (putD kk d ks ds).2) a := ⟨us, by rw [← q1]; exact upd_same, q2, q3⟩
        have ev := ev_cel (o := .dK (putK (ks.zip vs) kk v)) (d := some (.dic (putD kk d ks ds).1 (putD kk d ks ds).2)) o3 hm ha
        exact p3 _ σ rfl (ok_cel o3 hm ha at') ((e.trans e13).trans ev) ev.gr ((n.ev e13).ev ev)
      · exact False.elim p3
    · exact False.elim p3
  · exact False.elim p3⟩
end
end MR

namespace TP
open PySem PySem.Spec PySem.Calls PyProof.Rows L2
section
variable {M : Model} {A : Around} {E : Value → Shared → Prop} {s : Shared}
theorem forIn_walk {α σ : Type} {f : α → σ → Sem (ForInStep σ)} {Q : σ → Shared → Prop} (I : List α → σ → Prop) (hs : ∀ a as t, I (a :: as) t → ∃ t', wpAny M A (f a t) (fun r s' => r = ForInStep.yield t' ∧ s' = s) E s ∧ I as t') (he : ∀ t, I [] t → Q t s) : ∀ (as : List α) (t : σ), I as t → wpAny M A (forIn as t f) Q E s
  | [], t, h => wpAny_pure (he t h)
  | a :: as, t, h => by
    obtain ⟨t', h1, h2⟩ := hs a as t h
    rw [List.forIn_cons]
    refine wpAny_bind (wpAny_mono h1 (fun r s' hr => ?_) fun _ _ x => x)
    obtain ⟨hr1, hr2⟩ := hr
    rw [hr1, hr2]
    exact forIn_walk I hs he as t' h2
end
end TP

namespace MR
open PySem PySem.Spec PyProof.Rows L2 TP
section
variable {K : PySem.W.Frag} {Γ : Gm} {xa : XT} {W : WX} {w w' w0 : Wd} {te to ti ta tb : TE} {me mo mk ma mb : ME} {tl : TA} {ml : MA}
variable {c : Nat} {C : Addr} {m : MF}
end
end MR

namespace MR
open PySem PySem.Spec PyProof.Rows L2 TP
section
variable {K : PySem.W.Frag} {Γ : Gm} {xa : XT} {W : WX} {w w' w0 : Wd} {te to ti ta tb tk tv : TE} {me mo mk ma mb mv : ME} {tl : TA} {ml mi : MA} {t : TT} {mt : MT} {tg : TG} {mg : MG} {wi : TI} {vs : List Nat} {c : Nat} {C : Addr}
def mDcL (mg : MG) (mt : MT) (mk mv : ME) (δ : Env) : List D → List Key → List D → Sto → Out (List Key × List D)
  | [], ks, es, S => .ok (ks, es) S
  | d :: ds, ks, es, S => match mg d δ with
    | none => .bad
    | some δ1 => bnd (noX (mt δ1 S)) fun b S => if b then bnd (noX (mk δ1 S)) fun y S => bnd (noX (mv δ1 S)) fun z S => match keyOf y with
        | some k => if hasK k ks = true then .bad else mDcL mg mt mk mv δ ds (ks ++ [k]) (es ++ [z]) S
        | none => .bad
      else mDcL mg mt mk mv δ ds ks es S
def mDc (mi : MA) (mg : MG) (mt : MT) (mk mv : ME) (vs : List Nat) : ME := fun δ S => bnd (mi δ S) fun ds S => bnd (mDcL mg mt mk mv (mwipe δ vs) ds [] [] S) fun q S => .ok (.dic q.1 q.2) S
theorem hasK_val {k : Key} : ∀ {ks : List Key} {vs : List V}, hasK k ks ≠ true → valV (ks.zip vs) k = none
  | [], vs, _ => by rw [List.zip_nil_left]; exact valV_nil
  | j :: ks, [], _ => by rw [List.zip_nil_right]; exact valV_nil
  | j :: ks, v :: vs, h => by
    have h' : ¬ (decide (j = k) || hasK k ks) = true := h
    rw [Bool.or_eq_true, decide_eq_true_eq] at h'
    rw [List.zip_cons_cons, valV_neg (p := (j, v)) (fun e => h' (.inl e))]
    exact hasK_val fun z => h' (.inr z)
theorem sim_dc {us : List Nat} (hi : SimI K Γ xa Ev W wi mi) (hg : SimN K Γ xa us tg mg) (ht : SimT K Γ xa noW t mt) (hk : SimE K Γ xa noW tk mk) (hv : SimE K Γ xa noW tv mv) (hu : ∀ i ∈ us, i ∈ vs := by decide) : SimF K Γ xa W (tDc wi tg t tk tv vs) (mDc mi mg mt mk mv vs) := ⟨fun w0 w σ δ Q o e n p =>
  hi.run w0 w σ δ _ o e n (p.then fun ds w1 o1 e1 p1 J it Dd hD => by
    let okF : D → Wd → Prop := fun d w' => ∀ a, OwnAt K Γ w w' d a → Q (.ref a) w'.H
    refine ⟨fun i m H => m = ds.length - i ∧ i ≤ ds.length ∧ ∃ w' ks es, w'.H = H ∧ Ok K Γ w' ∧ Ev w1 w' ∧ OwnAt K Γ w1 w' (.dic ks es) Dd ∧ ks.length ≤ i ∧
        Post K Γ (bnd (mDcL mg mt mk mv (mwipe δ vs) (ds.drop i) ks es w'.S) fun q S => .ok (D.dic q.1 q.2) S) w1 okF (XW K Γ W σ), ⟨_, rfl, Nat.zero_le _, wPut w1 Dd (.dK []), [], [], rfl, ok_put o1 (r_none o1 hD) (not_live o1 hD), ev_put (Ev.refl _) hD, own_new o1 hD ⟨[], upd_same, rfl, reps_nil⟩, Nat.le_refl _, p1⟩, ?_⟩
    rintro i m H ⟨rfl, hi, w', ks, es, rfl, o', e', oa, hacc, p'⟩
    rcases Nat.lt_or_ge i ds.length with hlt | hge
    · refine .inr ⟨it.go w' i o' e' hlt, _, fun _ h => h, fun x H' y => ?_⟩
      obtain ⟨w2, d, rfl, hs2, o2, e2, hd, rx⟩ := it.yld w' i x H' o' e' hlt y
      have hdr : ds.drop i = d :: ds.drop (i + 1) := by
        rw [List.drop_eq_getElem_cons hlt]
        congr 1
        exact Option.some.inj ((List.getElem?_eq_getElem hlt).symm.trans hd)
      rw [hdr] at p'
      unfold mDcL at p'
      have n2 : EnvOk K Γ xa w0 w2 (wipe σ vs) (mwipe δ vs) := (((n.ev e1).ev e').ev e2).wipe vs
      have ev02 : Ev w0 w2 := ((e.trans e1).trans e').trans e2
      refine hg.run w0 w2 _ _ d x _ o2 n2 rx ?_
      cases zg : mg d (mwipe δ vs) with
      | none => rw [zg] at p'; exact p'
      | some δ1 =>
        rw [zg] at p'
        dsimp only at p'
        rw [← hs2, bnd_assoc] at p'
        intro σ1 n1 hl1 hk1
        refine ⟨(wipe_same hl1 hk1 hu).trans (wipe_wipe vs), ?_⟩
        refine ht.run w0 w2 σ1 δ1 _ o2 ev02 n1 (Post.noX ((Post.ev p' (e'.trans e2)).thenE fun b w3 q3 o3 e3 p3 => ?_))
        have oa3 := (oa.ev e2).ev e3
        have m1 : ds.length - (i + 1) < ds.length - i := by omega
        rw [q3] at p'
        cases b with
        | false =>
          rw [if_neg (by simp)]
          exact ⟨_, m1, rfl, hlt, w3, ks, es, rfl, o3, (e'.trans e2).trans e3, oa3, by omega, p'⟩
        | true =>
          rw [if_pos rfl]
          have p3' : Post K Γ (bnd (bnd (noX (mk δ1 w3.S)) fun y S => bnd (noX (mv δ1 S)) fun z S => match keyOf y with
            | some k => if hasK k ks = true then Out.bad else mDcL mg mt mk mv (mwipe δ vs) (ds.drop (i + 1)) (ks ++ [k]) (es ++ [z]) S
            | none => .bad) fun q S => .ok (D.dic q.1 q.2) S) w1 okF (XW K Γ W σ) := p'
          rw [bnd_assoc] at p3'
          refine hk.run w0 w3 σ1 δ1 _ o3 (ev02.trans e3) (n1.ev e3) (Post.noX ((Post.ev p3' ((e'.trans e2).trans e3)).thenE fun yd w4 q4 o4 e4 p4 y r4 => ?_))
          rw [q4] at p3'
          have p4' : Post K Γ (bnd (bnd (noX (mv δ1 w4.S)) fun z S => match keyOf yd with
            | some k => if hasK k ks = true then Out.bad else mDcL mg mt mk mv (mwipe δ vs) (ds.drop (i + 1)) (ks ++ [k]) (es ++ [z]) S
            | none => .bad) fun q S => .ok (D.dic q.1 q.2) S) w1 okF (XW K Γ W σ) := p3'
          rw [bnd_assoc] at p4'
          refine hv.run w0 w4 σ1 δ1 _ o4 ((ev02.trans e3).trans e4) ((n1.ev e3).ev e4) (Post.noX ((Post.ev p4' (((e'.trans e2).trans e3).trans e4)).thenE fun zd w5 q5 o5 e5 p5 z r5 => ?_))
          rw [q5] at p4'
          have p5' : Post K Γ (bnd (match keyOf yd with
            | some k => if hasK k ks = true then Out.bad else mDcL mg mt mk mv (mwipe δ vs) (ds.drop (i + 1)) (ks ++ [k]) (es ++ [zd]) w5.S
            | none => .bad) fun q S => .ok (D.dic q.1 q.2) S) w1 okF (XW K Γ W σ) := p4'
          cases hk : keyOf yd with
          | none => rw [hk] at p5'; exact False.elim p5'
          | some k =>
            rw [hk] at p5'
            dsimp only at p5'
            split at p5'
            · exact False.elim p5'
            · rename_i hnk
              have oa5 := (oa3.ev e4).ev e5
              obtain ⟨va, h1, h2, h3⟩ := oa5.at_
              have hlen : (ks.zip va).length < sizeLine := by
                rw [List.length_zip, ← h2, Nat.min_self]; have := it.len; omega
              refine ⟨_, k, keyOf_ok (.inl r4) hk, h1, hlen, _, m1, rfl, hlt, wPut w5 Dd (.dK (putK (ks.zip va) k z)), ks ++ [k], es ++ [zd], rfl, ok_put o5 oa5.r oa5.nl, ?_, ?_, by rw [List.length_append]; simp; omega, p5'⟩
              · exact ev_put ((((e'.trans e2).trans e3).trans e4).trans e5) oa5.new
              · refine ⟨oa5.new, oa5.r, oa5.nl, va ++ [z], ?_, by rw [List.length_append, List.length_append, h2]; rfl, reps_app h3 (reps_cons r5 reps_nil)⟩
                rw [putK_new _ (hasK_val hnk), List.zip_append h2]
                exact upd_same
    · have hi' : i = ds.length := by omega
      subst hi'
      refine .inl ⟨it.stop w' o' e', ?_⟩
      rw [List.drop_length] at p'
      have p2 : Post K Γ (.ok (D.dic ks es) w'.S) w1 okF (XW K Γ W σ) := p'
      exact p2.at rfl o' e' _ (own_back e1 oa))⟩
end
end MR

namespace MR
open PySem PySem.Spec PyProof.Rows L2 TP
section
variable {K : PySem.W.Frag} {Γ : Gm} {xa : XT} {W : WX} {w w' w0 : Wd}
end
end MR

namespace TP
open PySem PySem.Spec PySem.Calls PyProof.Rows L2
section
variable {M : Model} {A : Around} {E : Value → Shared → Prop}
abbrev dctO (es : List DictEntry) (n : Nat) : Obj := { cls := .type "dict", dict := none, data := .dict es.toArray n, slots := #[] }
def kwE (P : Params) : Tok → List (Str × Value) → List DictEntry
  | _, [] => []
  | t, x :: r => ⟨PyData.keyHash P x.1, .str x.1 t, x.2⟩ :: kwE P (t + 1) r
theorem put_new {k : Str} {hsh : Int} {key v : Value} : ∀ {es : List DictEntry}, (∀ e ∈ es, e.key.isStr k = false) → PySem.W.putL k hsh key v es = es ++ [⟨hsh, key, v⟩] := PySem.W.putL_new
theorem ns_put {P : Program} {w : World} {s : Shared} {d : Addr} {es : List DictEntry} {n : Nat} {k : Str} {v : Value} {Q : Unit → Shared → Prop} (D : s.heap.get? d = some (dctO es n)) (hs : ∀ e ∈ es, e.key.isStr k = false) (hr : ∀ e ∈ es, e.refKey = false)
    (h : ∀ h', (∀ b o, b ≠ d → s.heap.get? b = some o → h'.get? b = some o) → h'.get? d = some (dctO (es ++ [⟨PyData.keyHash w.params k, .str k s.toks, v⟩]) (n + 1)) → Q () { s with heap := h', toks := s.toks + 1 }) :
    wpAny (model P w) A (nsSet d k v) Q E s := by
  have e1 : es.any (·.key.isStr k) = false := by
    cases q : es.any (·.key.isStr k) with
    | false => rfl
    | true => obtain ⟨e, he, z⟩ := List.any_eq_true.mp q; rw [hs e he] at z; cases z
  have e2 : es.any (·.refKey) = false := by
    cases q : es.any (·.refKey) with
    | false => rfl
    | true => obtain ⟨e, he, z⟩ := List.any_eq_true.mp q; rw [hr e he] at z; cases z
  have e : Obj.putName k (PyData.keyHash w.params k) (.str k s.toks) v (dctO es n) = dctO (es ++ [⟨PyData.keyHash w.params k, .str k s.toks, v⟩]) (n + 1) := by
    rw [PySem.W.putName_dict, put_new hs]
    show dctO _ (if es.any (·.key.isStr k) then n else n + 1) = _
    rw [e1, if_neg Bool.false_ne_true]
  have c : aRefKeyMayBeTheName k es.toArray = false := by
    rw [aRefKeyMayBeTheName_at, ← Array.any_toList, ← Array.any_toList]
    show (!es.any (·.key.isStr k) && es.any (·.refKey)) = false
    rw [e2, Bool.and_false]
  unfold nsSet
  refine wpAny_bind (wpAny_bind (wpAny_askSetting (wpAny_pure (wpAny_bind (wpAny_mkText (wpAny_bind (wpAny_loadPart D ?_)))))))
  dsimp only
  rw [c]
  refine wpAny_updatePart D (h _ (fun b o hb ho => ?_) ?_)
  · rw [Heap.get?_update_other _ _ (Ne.symm hb)]; exact ho
  · have hf : (Obj.putName k (PyData.keyHash w.params k) (.str k s.toks) v (dctO es n)).isFreed = false := by rw [e]; rfl
    exact (Heap.get?_update_self _ D hf).trans (congrArg some e)
theorem ns_fill {P : Program} {w : World} {d : Addr} {Q : PUnit → Shared → Prop} : ∀ (ex : List (Str × Value)) (s : Shared) (es : List DictEntry) (n : Nat), s.heap.get? d = some (dctO es n) → (∀ e ∈ es, ∀ x ∈ ex, e.key.isStr x.1 = false) → (∀ e ∈ es, e.refKey = false) → (ex.map (·.1)).Nodup →
    (∀ h', (∀ b o, b ≠ d → s.heap.get? b = some o → h'.get? b = some o) → h'.get? d = some (dctO (es ++ kwE w.params s.toks ex) (n + ex.length)) → Q ⟨⟩ { s with heap := h', toks := s.toks + ex.length }) →
    wpAny (model P w) A (forIn ex PUnit.unit fun x _ => (nsSet d x.1 x.2 >>= fun _ => pure (ForInStep.yield PUnit.unit))) Q E s
  | [], s, es, n, D, _, _, _, h => by
    rw [List.forIn_nil]
    refine wpAny_pure (h s.heap (fun _ _ _ e => e) ?_)
    show s.heap.get? d = some (dctO (es ++ []) n)
    rw [List.append_nil]; exact D
  | x :: r, s, es, n, D, hs, hr, hn, h => by
    obtain ⟨hn1, hn2⟩ := List.nodup_cons.mp (show (x.1 :: r.map (·.1)).Nodup from hn)
    rw [List.forIn_cons]
    refine wpAny_bind (wpAny_bind (ns_put D (fun e he => hs e he x (.head _)) hr fun h' k' D' => wpAny_pure ?_))
    show wpAny (model P w) A (forIn r PUnit.unit fun x _ => (nsSet d x.1 x.2 >>= fun _ => pure (ForInStep.yield PUnit.unit))) Q E { s with heap := h', toks := s.toks + 1 }
    refine ns_fill r { s with heap := h', toks := s.toks + 1 } _ _ D' (fun e he y hy => ?_) (fun e he => ?_) hn2 fun h'' k'' D'' => ?_
    · rcases List.mem_append.mp he with he | he
      · exact hs e he y (.tail _ hy)
      · rw [List.mem_singleton.mp he]
        show (Value.str x.1 s.toks).isStr y.1 = false
        have : x.1 ≠ y.1 := fun z => hn1 (by rw [z]; exact List.mem_map_of_mem hy)
        simp [Value.isStr, this]
    · rcases List.mem_append.mp he with he | he
      · exact hr e he
      · rw [List.mem_singleton.mp he]; rfl
    · have e1 : s.toks + 1 + r.length = s.toks + (x :: r).length := by rw [List.length_cons]; omega
      have := h h'' (fun b o hb ho => k'' b o hb (k' b o hb ho)) (by
        rw [D'']
        show some (dctO (es ++ [_] ++ kwE w.params (s.toks + 1) r) (n + 1 + r.length)) = some (dctO (es ++ (_ :: kwE w.params (s.toks + 1) r)) (n + (r.length + 1)))
        rw [List.append_assoc, show n + 1 + r.length = n + (r.length + 1) by omega]; rfl)
      show Q ⟨⟩ { s with heap := h'', toks := s.toks + 1 + r.length }
      rw [e1]; exact this
/-- the dict that ** makes -/
theorem kw_dk {P : Program} {w : World} {H : Hp} {h : Heap} {a : Addr} {t : Tok} {ks : List Str} {zs : List V} {ws : List Value} {n : Nat} (D : h.get? a = some (dctO (kwE w.params t (ks.zip ws)) n)) (r : Vals zs ws) (hl : zs.length = ks.length) (nk : ks.Nodup) (hz : ks.length ≤ sizeLine) (hb : (a == sysModules) = false) :
    ObjOk P w H h a (.dK ((ks.map Sum.inr).zip zs)) := by
  have lw : ws.length = ks.length := by rw [← r.length]; exact hl
  refine ⟨by rw [List.length_zip, List.length_map, hl, Nat.min_self]; exact hz, hb, (ks.map Sum.inr).zip ws, ?_, _, _, _, D, ⟨rfl, rfl, rfl⟩, rfl, fun e he => ?_, ?_, ?_⟩
  · clear D nk hz
    induction ks generalizing zs ws with
    | nil => exact .nil
    | cons k ks ih =>
      cases r with
      | nil => cases hl
      | cons r1 r2 =>
        rw [List.map_cons, List.zip_cons_cons, List.zip_cons_cons]
        exact .cons ⟨rfl, r1⟩ (ih r2 (by simpa using hl) (by simpa using lw))
  · have he' : e ∈ kwE w.params t (ks.zip ws) := by simpa using he
    have key : ∀ {ex : List (Str × Value)} {t : Tok}, e ∈ kwE w.params t ex → ∃ k : Key, (mixKind P w).is k e.key ∧ e.hash = (mixKind P w).hash k := fun {ex} => by
      induction ex with
      | nil => intro t h; cases h
      | cons x r ih =>
        intro t h
        rcases List.mem_cons.mp h with z | z
        · subst z
          refine ⟨.inr x.1, ?_, rfl⟩
          show Value.isStrOf x.1 (.str x.1 t) = true
          simp [Value.isStrOf]
        · exact ih z
    exact key he'
  · show Pairs (mixKind P w) (kwE w.params t (ks.zip ws)) _
    clear D nk hz r hl
    induction ks generalizing ws t with
    | nil => exact .nil
    | cons k ks ih =>
      cases ws with
      | nil => cases lw
      | cons v ws =>
        rw [List.map_cons, List.zip_cons_cons, List.zip_cons_cons]
        refine .cons ?_ rfl (ih (by simpa using lw))
        show Value.isStrOf k (.str k t) = true
        simp [Value.isStrOf]
  · have e : ((ks.map Sum.inr).zip ws : List (Key × Value)).map (·.1) = ks.map Sum.inr := List.map_fst_zip (by rw [List.length_map, lw]; exact Nat.le_refl _)
    rw [e]
    exact List.Pairwise.map Sum.inr (fun a b h z => h (by injection z)) nk
end
end TP
namespace TP
open PySem PySem.Spec PySem.Calls PyProof.Rows L2
theorem bind_kv {P : Program} {w : World} {A : Around} {E : Value → Shared → Prop} {s : Shared} {fd : FuncData} {sn kn : Str} {ar : Arg} {ks : List Str} {ws : List Value} {u : Value} {Q : List (Str × Value) → Shared → Prop}
    (p1 : fd.params.posonlyargs = []) (p2 : fd.params.args.map (·.arg) = [sn]) (p3 : fd.params.kwonlyargs = []) (p4 : fd.params.vararg = none) (p5 : fd.params.kwarg = some ar) (p8 : ar.arg = kn) (p6 : fd.defaults = .none)
    (lw : ws.length = ks.length) (nk : ks.Nodup) (ns : sn ∉ ks) (hz : ks.length ≤ sizeLine)
    (q : ∀ h', (∀ b o, s.heap.get? b = some o → h'.get? b = some o) → h'.get? s.heap.objs.size = some (dctO (kwE w.params s.toks (ks.zip ws)) ks.length) → Q [(sn, u), (kn, .ref s.heap.objs.size)] { s with heap := h', toks := s.toks + ks.length }) :
    wpAny (model P w) A (bindArgs fd ⟨[u], ks.zip ws⟩) Q E s := by
  unfold bindArgs
  dsimp only
  rw [p1, p2, p3, p4, p5, p6]
  dsimp only [List.map_nil, List.nil_append, List.length_cons, List.length_nil, List.zip_cons_cons, List.zip_nil_left, List.zip_nil_right]
  refine wpAny_bind (forIn_walk (fun as t => ∃ done rest, ks = done ++ rest ∧ as = rest.zip (ws.drop done.length) ∧ t = ([(sn, u)], done.zip (ws.take done.length))) ?_ ?_ _ _ ⟨[], ks, rfl, rfl, rfl⟩)
  · rintro ⟨k, v⟩ as t ⟨done, rest, e1, e2, rfl⟩
    have hrest : ∃ rs, rest = k :: rs ∧ ∃ vs, ws.drop done.length = v :: vs ∧ as = rs.zip vs := by
      cases rest with
      | nil => rw [List.zip_nil_left] at e2; cases e2
      | cons r rs =>
        cases z : ws.drop done.length with
        | nil => rw [z, List.zip_nil_right] at e2; cases e2
        | cons v' vs => rw [z, List.zip_cons_cons] at e2; cases e2; exact ⟨rs, rfl, vs, rfl, rfl⟩
    obtain ⟨rs, rfl, vs, hv, rfl⟩ := hrest
    have hk : k ∈ ks := by rw [e1]; exact List.mem_append_right _ List.mem_cons_self
    have hdl : done.length < ws.length := by rw [lw, e1, List.length_append, List.length_cons]; omega
    have hvv : ws[done.length] = v := by
      rw [List.drop_eq_getElem_cons hdl] at hv
      exact (List.cons.inj hv).1
    refine ⟨([(sn, u)], (done ++ [k]).zip (ws.take (done.length + 1))), ?_, done ++ [k], rs, by rw [e1, List.append_assoc]; rfl, ?_, ?_⟩
    · dsimp only
      have hc : (([sn] : List Str).contains k || (List.map (fun x : Arg => x.arg) []).contains k) = false := by
        have hne : k ≠ sn := fun z => ns (by rw [← z]; exact hk)
        simp [hne]
      rw [hc, if_neg (by decide), if_pos (show (some ar).isSome = true from rfl)]
      refine wpAny_pure ⟨?_, rfl⟩
      congr 2
      rw [List.take_add_one, List.getElem?_eq_getElem hdl, hvv, List.zip_append (by rw [List.length_take]; omega)]
      rfl
    · rw [List.length_append, List.length_singleton]
      rw [show ws.drop (done.length + 1) = vs by rw [← List.drop_drop, hv]; rfl]
    · rw [List.length_append, List.length_singleton]
  rintro t ⟨done, rest, e1, e2, rfl⟩
  have hr0 : rest = [] := by
    cases rest with
    | nil => rfl
    | cons r rs =>
      have hdl : done.length < ws.length := by rw [lw, e1, List.length_append, List.length_cons]; omega
      rw [List.drop_eq_getElem_cons hdl, List.zip_cons_cons] at e2
      cases e2
  subst hr0
  rw [List.append_nil] at e1
  subst e1
  rw [List.take_of_length_le (by omega)]
  dsimp only
  refine wpAny_bind (wpAny_of_eq (show seqItems? .none = pure none from rfl) ?_)
  have hsn : List.lookup sn [(sn, u)] = some u := by rw [List.lookup_cons, beq_self_eq_true]
  have hm : List.filter (fun n => (List.lookup n [(sn, u)]).isNone) [sn] = [] := by
    rw [List.filter_cons_of_neg (by rw [hsn]; simp), List.filter_nil]
  simp only [List.map_nil, List.nil_append, List.length_cons, List.length_nil, Option.getD_none, List.drop_nil, Nat.sub_zero, List.take_succ_cons, List.take_zero, Nat.zero_add, Array.toList_empty, List.take_zero, List.drop_succ_cons, List.drop_zero, List.zip_nil_right, List.zip_nil_left, Nat.zero_sub, Nat.sub_self, gt_iff_lt, Nat.lt_irrefl, decide_false, Bool.false_and, hm, List.isEmpty_nil, Bool.not_true, if_false, Bool.false_eq_true, reduceIte]
  have hb : List.filterMap (fun n => Option.map (fun x => (n, x)) (List.lookup n [(sn, u)])) [sn] = [(sn, u)] := by
    rw [List.filterMap_cons_some (by rw [hsn]; rfl), List.filterMap_nil]
  refine wpAny_bind (wpAny_pure ?_)
  refine wpAny_bind ?_
  rw [List.forIn_nil]
  refine wpAny_pure ?_
  dsimp only
  simp only [List.isEmpty_nil, Bool.not_true, if_false, Bool.false_eq_true, reduceIte, List.append_nil]
  rw [hb]
  have hle : ¬ sizeLine + 1 < (ks.zip ws).length := by rw [List.length_zip, lw, Nat.min_self]; omega
  rw [if_neg hle]
  refine wpAny_bind (wpAny_alloc ?_)
  refine wpAny_bind (ns_fill (ks.zip ws) _ [] 0 (Heap.get?_push_size _ rfl) (fun _ h => absurd h List.not_mem_nil) (fun _ h => absurd h List.not_mem_nil) (by rw [List.map_fst_zip (by omega)]; exact nk) fun h' k' D' => ?_)
  refine wpAny_pure ?_
  rw [p8]
  have el : (ks.zip ws).length = ks.length := by rw [List.length_zip, lw, Nat.min_self]
  rw [el] at D' ⊢
  rw [Nat.zero_add, List.nil_append] at D'
  exact q h' (fun b o e => k' b o (Nat.ne_of_lt (Heap.lt_size e)) (Heap.get?_push_of_some _ e)) D'
end TP
namespace TP
open PySem PySem.Spec PySem.Calls PyProof.Rows L2
theorem env0_at {P : Program} {w : World} {K : PySem.W.Frag} {mg : Str → Option Value} {base : Heap} {A : Around} {outer : List Env} {s : Shared} {H : Hp} {u : HO} {h' : Heap} {t : Tok} {x : Obj} (e0 : Env0 P w K mg base A outer s H) (kp : ∀ b o, s.heap.get? b = some o → h'.get? b = some o) (D : h'.get? s.heap.objs.size = some x) (new : ObjOk P w (upd H s.heap.objs.size u) h' s.heap.objs.size u) :
    Env0 P w K mg base A outer { s with heap := h', toks := t } (upd H s.heap.objs.size u) := by
  refine ⟨e0.frames, e0.mod, fun b x e => ⟨kp b x (e0.bs b x e).1, ?_⟩, ?_, Heap.FunFrames.of_keeps (fun b x e _ => ⟨x, kp b x e, rfl⟩) e0.funs, fun b hb => ?_, e0.hok.laid kp (Nat.le_refl _) new, e0.bare⟩
  · rw [upd_ne (Nat.ne_of_lt (Heap.lt_size (e0.bs b x e).1))]
    exact (e0.bs b x e).2
  · exact Nat.le_trans e0.bsz (Nat.le_of_lt (Heap.lt_size D))
  · obtain ⟨_, x, hx, _⟩ := e0.funs.mem hb
    rw [upd_ne (Nat.ne_of_lt (Heap.lt_size hx))]
    exact e0.frf b hb
def FnV (P : Program) (w : World) (K : PySem.W.Frag) (mg : Str → Option Value) (base : Heap) (CX : CXT) (k : Nat) (f : Addr) (ks : List Str) (sp : Sp) : Prop :=
  ∀ (A : Around) (outer : List Env) (s : Shared) (H : Hp) (u : Value) (ws : List Value) (v : V) (zs : List V) (Q : VK) (E : XK), Room k A → Env0 P w K mg base A outer s H → RelV v u → Vals zs ws → zs.length = ks.length →
    (∀ p o, H p = none → sp [v, .ref p] (upd H p (.frz o (.dK ((ks.map Sum.inr).zip zs)))) Q E) → codeAny (model P w) A (.call (.ref f) ⟨[u], ks.zip ws⟩) (CR CX outer P w H s Q E) s
structure MthV (P : Program) (w : World) (K : PySem.W.Frag) (mg : Str → Option Value) (base : Heap) (k : Nat) (C : Addr) (m : Str) (ks : List Str) (sp : Sp) : Prop where
  ex : ∃ f : Addr, Meth K C m f ∧ FnV P w K mg base (L2.CX P w) k f ks sp
section
variable {X : Cx} {k j : Nat} {C : Addr} {sp : Sp} {W : WX} {m : Str} {pos apos : Pos} {o : Expr} {kws : List Keyword} {ta : TE} {t : TA} {ks : List Str}
end
/-- the def as it stands -/
structure StvI (K : PySem.W.Frag) (C : Addr) (m qual : Str) (st : Stmt) (sn kn : Str) : Prop where
  ex : ∃ (f : Addr) (oc : Value) (od an : Option Addr) (osl : Array (Option Value)) (kV doc pm cdv ct : Value) (ar : Arg), Meth K C m f ∧
    K.lookup f = some ⟨oc, od, .func (PySem.W.fnOf m qual (defArgs st) (defBody st) (defScope st) .none kV doc pm an cdv ct), osl⟩ ∧ PySem.W.codeIn K cdv qual = true ∧
    (defArgs st).posonlyargs = [] ∧ (defArgs st).args.map (·.arg) = [sn] ∧ (defArgs st).kwonlyargs = [] ∧ (defArgs st).vararg = none ∧ (defArgs st).kwarg = some ar ∧ ar.arg = kn
theorem StvI.okZ {P : Program} {w : World} {K : PySem.W.Frag} {mg : Str → Option Value} {base : Heap} {C : Addr} {m qual sn kn : Str} {st : Stmt} {N ks : List Str} {k : Nat} {sp : Sp} (F : StvI K C m qual st sn kn) (S : FnScope N [sn, kn] (defScope st)) (nk : ks.Nodup) (ns : sn ∉ ks) (hz : ks.length ≤ 1000) {t : XK → TS}
    (hd : ∀ (f : Addr) (cdv : Value) (A : Around) (outer : List Env) (s : Shared) (H : Hp) (E : XK), Room k (A.deeper (envOfC qual (defScope st) s.heap.objs.size f cdv)) → PSs (cxOf (L2.CX P w) P w K mg base N qual (defScope st) f cdv A outer s H E) (defBody st) (t E))
    (hb : ∀ (H : Hp) (vs : List V) (Q : VK) (E : XK), sp vs H Q E → t E { nx := fun _ H' => Q .non H', rt := Q } (L2.start N vs) H) : MthV P w K mg base (k + 1) C m ks sp := by
  obtain ⟨f, oc, od, an, osl, kV, doc, pm, cdv, ct, ar, hm, lk, hcd, p1, p2, p3, p4, p5, p8⟩ := F.ex
  refine ⟨f, hm, ?_⟩
  rintro A outer s H u ws v zs Q E hr e0 r rz lz hq
  have lw : ws.length = ks.length := by rw [← rz.length]; exact lz
  have hz2 : ks.length ≤ sizeLine := Nat.le_trans hz (by rw [sizeLine_eq]; decide)
  have free : H s.heap.objs.size = none := e0.hok.fresh (Nat.le_refl _)
  refine StX.run_bnd lk hcd S hr.toRoom e0 (G := fun xs H2 => ∃ p o, H p = none ∧ xs = [v, V.ref p] ∧ H2 = upd H p (.frz o (.dK ((ks.map Sum.inr).zip zs)))) (fun A' Ex Q' h => ?_) ?_
  · refine bind_kv (w := w) (P := P) p1 p2 p3 p4 p5 p8 rfl lw nk ns hz2 fun h' k' D' => ?_
    have new : ObjOk P w (upd H s.heap.objs.size (.frz (dctO (kwE w.params s.toks (ks.zip ws)) ks.length) (.dK ((ks.map Sum.inr).zip zs)))) h' s.heap.objs.size (.frz (dctO (kwE w.params s.toks (ks.zip ws)) ks.length) (.dK ((ks.map Sum.inr).zip zs))) := ⟨D', kw_dk D' rz lz nk hz2 (beq_eq_false_iff_ne.mpr (Ne.symm (Nat.ne_of_lt (StX.env0_big e0))))⟩
    have un : Un (frs outer) [] H (upd H s.heap.objs.size (.frz (dctO (kwE w.params s.toks (ks.zip ws)) ks.length) (.dK ((ks.map Sum.inr).zip zs)))) s.heap h' := Un.laid k' (Nat.le_refl _) free
    exact h _ _ [v, V.ref s.heap.objs.size] [u, Value.ref s.heap.objs.size] (env0_at e0 k' D' new) un rfl (fun e s' => StX.cxUp outer s H _ _ E e s' un k' rfl) (.cons r (.cons rfl .nil)) rfl ⟨_, _, free, rfl, rfl⟩
  · rintro s2 H2 xs ⟨p, o, hp, rfl, rfl⟩ hr'
    exact ⟨t E, hd f cdv A outer s2 _ E ⟨hr', hr.gd⟩, hb _ _ Q E (hq p o hp)⟩
end TP

namespace MR
open PySem PySem.Spec PyProof.Rows L2 TP
section
variable {K : PySem.W.Frag} {Γ : Gm} {xa : XT} {W : WX} {w w' w0 : Wd} {te to ti ta tb td : TE} {me mo mk ma mb md : ME} {tl : TA} {ml : MA} {n : Nat} {m : MF}
end
end MR

namespace TP
open PySem PySem.Spec PySem.Calls PyProof.Rows L2
section
variable {M : Model} {A : Around} {E : Value → Shared → Prop} {s : Shared} {K : PySem.W.Frag} {env : Env} {pos : Pos} {x C : Addr} {ox : Obj} {Q : Value → Shared → Prop}
end
section
variable {X : Cx} {k j : Nat} {C : Addr} {sp : Sp} {W : WX} {x : Str} {ps : List Str} {p pos : Pos} {e : Expr} {es : List Expr} {to : TE} {t : TA}
end
end TP

namespace MR
open PySem PySem.Spec PyProof.Rows L2 TP
section
variable {K : PySem.W.Frag} {Γ : Gm} {xa : XT} {W : WX} {w w' w0 : Wd} {te to ti ta tb td : TE} {me mo mk ma mb md : ME} {tl : TA} {ml : MA} {n : Nat} {m : MF}
theorem sim_din (hk : SimE K Γ xa W ti mk) (hd : SimE K Γ xa W td md) : SimE K Γ xa W (tDIn ti td) (mOp (opDIn false) mk md) := by
  have h := sim_op (K := K) (Γ := Γ) (xa := xa) (W := W) (om_din (neg := false)) hk.p hd.p
  exact ⟨fun w0 w σ δ Q o e nn p => h.run w0 w σ δ Q o e nn p⟩
end
end MR

namespace TP
open PySem PySem.Spec PyProof.Rows L2
end TP
namespace MR
open PySem PySem.Spec PyProof.Rows L2 TP
section
variable {K : PySem.W.Frag} {Γ : Gm} {xa : XT} {W : WX} {w w' w0 : Wd} {te to ti ta tb td : TE} {me mo mk ma mb md : ME} {tl : TA} {ml : MA} {n : Nat} {m : MF}
end
end MR

namespace TP
open PySem PySem.Spec PySem.Calls PyProof.Rows L2
def ixOf (n : Str) : List Str → Nat
  | [] => 0
  | k :: ks => if n = k then 0 else ixOf n ks + 1
def srcOf (kn dn ks : List Str) : List Src := kn.map fun n => if n ∈ ks then .kw (ixOf n ks) else .dfl (ixOf n dn)
structure OkKs (kn dn ks : List Str) : Prop where
  nodup : ks.Nodup
  sub : ∀ k ∈ ks, k ∈ kn
  cov : ∀ n ∈ kn, n ∈ ks ∨ n ∈ dn
theorem ix_get {α : Type} {n : Str} : ∀ {ks : List Str} {ws : List α}, n ∈ ks → ws.length = ks.length → ∃ v, ws[ixOf n ks]? = some v ∧ (ks.zip ws).lookup n = some v
  | [], _, h, _ => absurd h List.not_mem_nil
  | k :: ks, [], _, hl => by cases hl
  | k :: ks, w :: ws, h, hl => by
    rw [List.zip_cons_cons, List.lookup_cons]
    unfold ixOf
    by_cases e : n = k
    · subst e
      exact ⟨w, by rw [if_pos rfl]; rfl, by rw [beq_self_eq_true]⟩
    · obtain ⟨v, h1, h2⟩ := ix_get (ws := ws) ((List.mem_cons.mp h).resolve_left e) (by simpa using hl)
      exact ⟨v, by rw [if_neg e]; simpa using h1, by rw [beq_eq_false_iff_ne.mpr e]; exact h2⟩
theorem look_not {α : Type} {n : Str} : ∀ {ks : List Str} {ws : List α}, n ∉ ks → (ks.zip ws).lookup n = none
  | [], _, _ => rfl
  | k :: ks, [], _ => rfl
  | k :: ks, w :: ws, h => by
    rw [List.zip_cons_cons, List.lookup_cons, beq_eq_false_iff_ne.mpr (fun z => h (by rw [z]; exact List.mem_cons_self))]
    exact look_not fun z => h (List.mem_cons_of_mem _ z)
theorem fm_map {α β γ : Type} {g : α → β} {f : β → Option γ} {u : α → γ} : ∀ {l : List α}, (∀ n ∈ l, f (g n) = some (u n)) → (l.map g).filterMap f = l.map u
  | [], _ => rfl
  | n :: l, h => by
    rw [List.map_cons, List.filterMap_cons_some (h n List.mem_cons_self), fm_map fun m hm => h m (List.mem_cons_of_mem _ hm), List.map_cons]
def valA {α : Type} (z : α) (ks : List Str) (ws : List α) (dn : List Str) (its : List α) (n : Str) : α := ((ks.zip ws).lookup n).getD (((dn.zip its).lookup n).getD z)
theorem arr_src {α : Type} (z : α) {kn dn ks : List Str} {ws its : List α} (o : OkKs kn dn ks) (lw : ws.length = ks.length) (ld : its.length = dn.length) : arr (srcOf kn dn ks) [] ws its = kn.map (valA z ks ws dn its) := by
  unfold arr srcOf
  refine fm_map fun n hn => ?_
  unfold valA
  by_cases h : n ∈ ks
  · obtain ⟨v, h1, h2⟩ := ix_get h lw
    rw [if_pos h, h2]
    exact h1
  · obtain ⟨v, h1, h2⟩ := ix_get ((o.cov n hn).resolve_left h) ld
    rw [if_neg h, look_not h, h2]
    exact h1
structure MakP (P : Program) (w : World) (K : PySem.W.Frag) (mg : Str → Option Value) (base : Heap) (k : Nat) (x : Str) (C : Addr) (kn dn : List Str) (dvs : List V) (sp : Sp) : Prop where
  one : ∃ f, mg x = some (.ref C) ∧ Mk K C f
  all : ∀ ks, OkKs kn dn ks → MakO P w K mg base k x C ks (srcOf kn dn ks) dvs sp
structure StPI (K : PySem.W.Frag) (mg : Str → Option Value) (x : Str) (C : Addr) (qual : Str) (st : Stmt) (dvs : List V) (ps : Str) (kn dn : List Str) : Prop where
  one : ∃ f, mg x = some (.ref C) ∧ Mk K C f
  all : ∀ ks, OkKs kn dn ks → StOI K mg x C qual st ks (srcOf kn dn ks) dvs ps kn
theorem StPI.okZ {P : Program} {w : World} {K : PySem.W.Frag} {mg : Str → Option Value} {base : Heap} {C : Addr} {x qual ps : Str} {st : Stmt} {dvs : List V} {N kn dn : List Str} {k : Nat} {sp : Sp} (F : StPI K mg x C qual st dvs ps kn dn) (S : FnScope N (ps :: kn) (defScope st)) (ld : dvs.length = dn.length) {t : XK → TS}
    (hd : ∀ (f : Addr) (cdv : Value) (A : Around) (outer : List Env) (s : Shared) (H : Hp) (E : XK), Room k (A.deeper (envOfC qual (defScope st) s.heap.objs.size f cdv)) → PSs (cxOf (L2.CX P w) P w K mg base N qual (defScope st) f cdv A outer s H E) (defBody st) (t E))
    (hb : ∀ (H : Hp) (vs : List V) (Q : VK) (E : XK), sp vs H Q E → t E { nx := fun _ H' => Q .non H', rt := Q } (L2.start N vs) H) : MakP P w K mg base (k + 1) x C kn dn dvs sp :=
  ⟨F.one, fun ks o => (F.all ks o).okZ S (fun zs lz => by rw [arr_src .non o lz ld, List.length_map]) hd hb⟩
section
variable {X : Cx} {k j : Nat} {C : Addr} {sp : Sp} {W : WX} {x : Str} {p pos : Pos} {e : Expr} {te : TE} {kn dn : List Str} {dvs : List V} {kws : List Keyword}
end
end TP

namespace MR
open PySem PySem.Spec PyProof.Rows L2 TP
section
variable {K : PySem.W.Frag} {Γ : Gm} {xa : XT} {W : WX} {w w' w0 : Wd} {te to ti ta tb tk tv : TE} {me mo mk ma mb mv : ME} {tl : TA} {ml mi : MA} {t : TT} {mt : MT} {tg : TG} {mg : MG} {wi : TI} {vs : List Nat} {c : Nat} {C : Addr}
end
end MR

namespace MR
open PySem PySem.Spec PyProof.Rows L2 TP
section
variable {K : PySem.W.Frag} {Γ : Gm} {xa : XT} {W : WX} {te : TE} {me : ME}
end
end MR

namespace TP
open PySem PySem.Spec PyProof.Rows L2
section
variable {X : Cx} {k j : Nat} {C : Addr} {sp : Sp} {W : WX} {m : Str} {pos apos : Pos} {o : Expr} {ta : TE}
end
end TP

namespace TP
open PySem PySem.Spec PyProof.Rows L2
section
variable {X : Cx} {body : List Stmt} {h₀ : ExceptHandler} {hds : List ExceptHandler} {pos : Pos} {tb : TS}
end
end TP

namespace TP
open PySem PySem.Spec PyProof.Rows L2
section
variable {X : Cx}
end
end TP

namespace TP
open PySem PySem.Spec PyProof.Rows L2
/-- o.m(..), by a promise over all that is given in a row -/
structure MthR (P : Program) (w : World) (K : PySem.W.Frag) (mg : Str → Option Value) (base : Heap) (k : Nat) (C : Addr) (m : Str) (sp : Sp) : Prop where
  ex : ∃ f : Addr, Meth K C m f ∧ FnR P w K mg base (L2.CX P w) k f sp
section
variable {X : Cx} {k j : Nat} {C : Addr} {sp : Sp} {W : WX} {m : Str} {pos apos : Pos} {o e : Expr} {es : List Expr} {ta : TE} {t : TA}
end
/-- the def as it stands -/
structure StmI (K : PySem.W.Frag) (C : Addr) (m qual : Str) (st : Stmt) (ps : List Str) (pv : Str) : Prop where
  ex : ∃ (f : Addr) (oc : Value) (od an : Option Addr) (osl : Array (Option Value)) (dV kV doc pm cdv ct : Value), Meth K C m f ∧
    K.lookup f = some ⟨oc, od, .func (PySem.W.fnOf m qual (defArgs st) (defBody st) (defScope st) dV kV doc pm an cdv ct), osl⟩ ∧ PySem.W.codeIn K cdv qual = true ∧
    ∀ us rest : List Value, us.length = ps.length → bindArgs (PySem.W.fnOf m qual (defArgs st) (defBody st) (defScope st) dV kV doc pm an cdv ct) ⟨us ++ rest, []⟩ = (newTuple rest >>= fun t => pure (ps.zip us ++ [(pv, t)]))
theorem StmI.okZ {P : Program} {w : World} {K : PySem.W.Frag} {mg : Str → Option Value} {base : Heap} {C : Addr} {m qual pv : Str} {st : Stmt} {N ps : List Str} {k : Nat} {sp : Sp} (F : StmI K C m qual st ps pv) (S : FnScope N (ps ++ [pv]) (defScope st)) {t : XK → TS}
    (hd : ∀ (f : Addr) (cdv : Value) (A : Around) (outer : List Env) (s : Shared) (H : Hp) (E : XK), Room k (A.deeper (envOfC qual (defScope st) s.heap.objs.size f cdv)) → PSs (cxOf (L2.CX P w) P w K mg base N qual (defScope st) f cdv A outer s H E) (defBody st) (t E))
    (hb : ∀ (H : Hp) (vs : List V) (Q : VK) (E : XK), sp vs H Q E → t E { nx := fun _ H' => Q .non H', rt := Q } (L2.start N vs) H) : MthR P w K mg base (k + 1) C m (spV ps.length sp) := by
  obtain ⟨f, oc, od, an, osl, dV, kV, doc, pm, cdv, ct, hm, lk, hcd, hbd⟩ := F.ex
  exact ⟨f, hm, fn_starG lk hcd S StX.cxUp hbd fun A outer s H vs Q E hr h => ⟨t E, hd f cdv A outer s H E hr, hb H vs Q E h⟩⟩
end TP

namespace TP
open PySem PySem.Spec PyProof.Rows L2
structure PrpG (P : Program) (w : World) (K : PySem.W.Frag) (mg : Str → Option Value) (base : Heap) (k : Nat) (C : Addr) (f : Str) (ps : List Str) (sp : Sp) : Prop where
  ex : ∃ (p g : Addr) (fd : FuncData), PropOf K C f p g ∧ FnOk P w K mg base (L2.CX P w) k g fd ps sp ∧ Binds K fd ps []
theorem PrpI.okG {P : Program} {w : World} {K : PySem.W.Frag} {mg : Str → Option Value} {base : Heap} {C : Addr} {f qual : Str} {st : Stmt} {N ps : List Str} {k : Nat} {sp : Sp} (F : PrpI K C f qual st ps) (S : FnScope N ps (defScope st)) (len : ∀ vs H Q E, sp vs H Q E → vs.length = ps.length) {t : XK → TS}
    (hd : ∀ (f : Addr) (cdv : Value) (A : Around) (outer : List Env) (s : Shared) (H : Hp) (E : XK), Room k (A.deeper (envOfC qual (defScope st) s.heap.objs.size f cdv)) → PSs (cxOf (L2.CX P w) P w K mg base N qual (defScope st) f cdv A outer s H E) (defBody st) (t E))
    (hb : ∀ (H : Hp) (vs : List V) (Q : VK) (E : XK), sp vs H Q E → t E { nx := fun _ H' => Q .non H', rt := Q } (start N vs) H) : PrpG P w K mg base (k + 1) C f ps sp := by
  obtain ⟨p, g, fd, hp, F, b⟩ := F.ex
  exact ⟨p, g, fd, hp, TP.okG F S len fun cdv A outer s H vs Q E hr h => ⟨t E, hd g cdv A outer s H E hr, hb H vs Q E h⟩, b⟩
section
variable {X : Cx} {k j : Nat} {C : Addr} {f : Str} {ps : List Str} {sp : Sp} {e : Expr} {pos : Pos} {ta : TE}
end
end TP

namespace MR
open PySem PySem.Spec PyProof.Rows L2 TP
section
variable {K : PySem.W.Frag} {Γ : Gm} {xa : XT} {W : WX} {w w' w0 : Wd} {te to ti tp ti2 : TE} {me mo mk mp mk2 : ME} {ml : MA} {tb : TS} {ms : MS}
structure SimPr (K : PySem.W.Frag) (Γ : Gm) (xa : XT) (W : WX) (ks : List Str) (trs : List (TE × TE)) (ml : MA) : Prop where
  len : ∀ (δ : Env) (S : Sto) (ds : List D) (S' : Sto), ml δ S = .ok ds S' → ds.length = ks.length
  run : ∀ (w0 w : Wd) (σ : L2.St) (δ : Env) (Q : List (V × V) → Hp → Prop), Ok K Γ w → Ev w0 w → EnvOk K Γ xa w0 w σ δ → Post K Γ (ml δ w.S) w (fun ds w' => ∀ vs, Reps K Γ w' ds vs → Q ((ks.map V.str).zip vs) w'.H) (XW K Γ W σ) → tPairs trs σ w.H Q
def mPar (i j : Nat) (ml : MA) : MS := fun δ S => bndS (ml δ S) δ fun ds S => match ds with
  | [d, e] => .ok (.nx ((δ.set i (.val d)).set j (.val e))) S
  | _ => .bad
theorem sim_par {n i j : Nat} {ta : TA} (h : SimA K Γ xa W n ta ml) : SimS K Γ xa W (tPar i j ta) (mPar i j ml) := ⟨fun w0 w σ δ Dn o e nn p =>
  h.run w0 w σ δ _ o e nn (p.then e nn fun ds w1 o1 e1 p1 vs rs => by
    split at p1
    · obtain ⟨v, u, rfl, r1, r2⟩ := reps2 rs
      exact ⟨v, u, rfl, p1.nx o1 (e.trans e1) (((nn.ev e1).set r1).set r2)⟩
    · exact False.elim p1)⟩
end
end MR

namespace MR
open PySem PySem.Spec PyProof.Rows L2 TP
variable {K : PySem.W.Frag} {Γ : Gm} {w w0 w1 w' : Wd} {xa : XT} {W : WX} {te tk : TE} {me mk : ME}
def insI (x : Int) : List Int → List Int
  | [] => [x]
  | y :: ys => if x ≤ y then x :: y :: ys else y :: insI x ys
def sortI : List Int → List Int
  | [] => []
  | x :: xs => insI x (sortI xs)
theorem insI_perm (x : Int) : ∀ l : List Int, (insI x l).Perm (x :: l)
  | [] => .refl _
  | y :: ys => by
    unfold insI
    split
    · exact .refl _
    · exact ((insI_perm x ys).cons y).trans (.swap ..)
theorem sortI_perm : ∀ l : List Int, (sortI l).Perm l
  | [] => .refl _
  | x :: xs => (insI_perm x _).trans ((sortI_perm xs).cons x)
theorem insI_sorted (x : Int) : ∀ l : List Int, l.Pairwise (· ≤ ·) → (insI x l).Pairwise (· ≤ ·)
  | [], _ => by simp [insI]
  | y :: ys, h => by
    have h' := List.pairwise_cons.mp h
    unfold insI
    split
    · rename_i q
      refine List.pairwise_cons.mpr ⟨fun z hz => ?_, h⟩
      rcases List.mem_cons.mp hz with e | e
      · omega
      · have := h'.1 z e; omega
    · refine List.pairwise_cons.mpr ⟨fun z hz => ?_, insI_sorted x ys h'.2⟩
      rcases List.mem_cons.mp ((insI_perm x ys).mem_iff.mp hz) with e | e
      · omega
      · exact h'.1 z e
theorem sortI_sorted : ∀ l : List Int, (sortI l).Pairwise (· ≤ ·)
  | [] => .nil
  | x :: xs => insI_sorted x _ (sortI_sorted xs)
def fSorted : MF := fun ds S => match ds with
  | [d] => match (listOf S d).bind intsOf with
    | some ns => if ns.length ≤ 100000 then .ok (.lst ((sortI ns).map D.int)) S else .bad
    | none => .bad
  | _ => .bad
theorem cf_sorted : CallF K Γ (rSortedI K) fSorted := ⟨fun w ds vs Q ex o r p => by
  unfold fSorted at p
  split at p
  · rename_i d
    obtain ⟨v, rfl, r1⟩ := pks1 r
    split at p
    · rename_i ns h
      split at p
      · rename_i hl
        obtain ⟨xs, h1, h2⟩ := Option.bind_eq_some_iff.mp h
        obtain ⟨a, vs, rfl, a1, a2, a3⟩ := listOf_ok o r1 h1
        rw [ints_reps h2 a3] at a1
        refine ⟨a, ns, rfl, a1, fun ns' q hp hs hq => ?_⟩
        have e : ns' = sortI ns := List.Perm.eq_of_pairwise (fun a b _ _ h1 h2 => Int.le_antisymm h1 h2) hs (sortI_sorted ns) (hp.trans (sortI_perm ns).symm)
        subst e
        obtain ⟨k1, k2⟩ := new_lst o (reps_ints (is := sortI ns)) (by rw [List.length_map, (sortI_perm ns).length_eq]; exact Nat.le_trans hl (by decide)) hq p
        exact k1 _ k2
      · exact False.elim p
    · exact False.elim p
  · exact False.elim p⟩
end MR

namespace TP
open PySem PySem.Spec PyProof.Rows GenW L2
/-- the consumer: its things, and what they say of the items that came so far -/
structure Gst where
  F : List Addr
  Cn : List V → Heap → Prop
  mv : ∀ ys h h', (∀ b ∈ F, ∀ o, h.get? b = some o → h'.get? b = some o) → Cn ys h → Cn ys h'
structure Nap (S : Gst) (v : Value) (s s' : Shared) : Prop where
  os : s'.os = s.os
  bare : AllBare s'.gens
  keep : ∀ b o, b ∉ S.F → s.heap.get? b = some o → s'.heap.get? b = some o
  there : ∀ b ∈ S.F, ∃ o, s'.heap.get? b = some o ∧ ∀ v, o.data ≠ .cell v
  con : ∀ ys x, RelV x v → S.Cn ys s.heap → S.Cn (ys ++ [x]) s'.heap
/-- running: ys came so far; ip: the generator's own iterators -/
def GJ (X : Cx) (S : Gst) (ip : List (Addr × Obj)) (ys : List V) (σ : L2.St) (H : Hp) (s : Shared) : Prop :=
  S.Cn ys s.heap ∧ ∃ pf : List (Addr × Obj), (∀ b ∈ S.F, ∃ o, (b, o) ∈ pf) ∧ (∀ p ∈ pf, p.1 ∈ S.F) ∧ Inv X (pf ++ ip) σ H s
section
variable {X : Cx} {S : Gst} {ip ip' pf : List (Addr × Obj)} {ys : List V} {σ σ' : L2.St} {H H' : Hp} {s s' : Shared}
theorem GJ.next (hc : S.Cn ys s.heap) (h1 : ∀ b ∈ S.F, ∃ o, (b, o) ∈ pf) (h2 : ∀ p ∈ pf, p.1 ∈ S.F) (I : Inv X (pf ++ ip) σ H s) (I' : Inv X (pf ++ ip') σ' H' s') : GJ X S ip' ys σ' H' s' := by
  refine ⟨S.mv ys _ _ (fun b hb o e => ?_) hc, pf, h1, h2, I'⟩
  obtain ⟨o1, m⟩ := h1 b hb
  have e1 := (I.pin (b, o1) (List.mem_append_right _ (List.mem_append_left _ m))).1
  have e2 := (I'.pin (b, o1) (List.mem_append_right _ (List.mem_append_left _ m))).1
  rw [show s.heap.get? b = some o1 from e1] at e
  cases e
  exact e2
theorem GJ.own (h : GJ X S ip ys σ H s) : ∀ b ∈ S.F, H b = none ∧ b ≠ X.env.locals ∧ b ∉ X.fs ∧ ∃ o, s.heap.get? b = some o ∧ ∀ v, o.data ≠ .cell v := fun b hb => by
  obtain ⟨_, pf, h1, _, I⟩ := h
  obtain ⟨o, m⟩ := h1 b hb
  obtain ⟨q0, q1, q2, q3, q4⟩ := I.pin (b, o) (List.mem_append_right _ (List.mem_append_left _ m))
  exact ⟨q1, q2, q3, o, q0, q4⟩
theorem GJ.inv (h : GJ X S ip ys σ H s) : Inv X ip σ H s := by
  obtain ⟨_, pf, _, _, I⟩ := h
  exact I.pins_of fun p hp => I.pin p (List.mem_append_right _ (List.mem_append_right _ hp))
/-- where the generator's code stands -/
structure GCode (X : Cx) (S : Gst) (ip : List (Addr × Obj)) (A : Around) (c : Code) (fs : List Frame) (gd : Bool → Bool) : Prop where
  nox : ∀ e s, ¬ X.xe e s
  pn : ∀ p ∈ X.pn, p.1 ∉ S.F
  ip : ∀ p ∈ ip, p.1 ∉ S.F
  apart : ∀ b ∈ S.F, X.s_0.heap.objs.size ≤ b ∧ ∀ x c, X.env.cells.lookup x = some c → c ≠ b
  over : A.over c fs = X.A
  split : splitAtGen fs = none
  guard : fs.any Frame.guarded = false
  gd : gd false = false
end
def GPr (X : Cx) (S : Gst) : Protocol := fun n _ v s kap =>
  ∃ ys x ip σ H, n + 1 + ys.length = sizeLine ∧ RelV x v ∧ GJ X S ip ys σ H s ∧ ∀ s', Nap S v s s' → kap (.send .none) s'
def GFin (X : Cx) (S : Gst) (Q : List V → VK) : GenEnd := fun n _ r s => match r with
  | .ok (.ret u) => ∃ ys v ip σ H, n + ys.length = sizeLine ∧ GJ X S ip ys σ H s ∧ RelV v u ∧ Q ys v H
  | _ => False
def GEndP (X : Cx) (S : Gst) (ip : List (Addr × Obj)) (D : GEnds) (ys : List V) (f : Flow) (s : Shared) : Prop :=
  match f with
  | .next => ∃ σ H, GJ X S ip ys σ H s ∧ D.nx ys σ H
  | .brk => ∃ σ H, GJ X S ip ys σ H s ∧ D.bk ys σ H
  | .cont => ∃ σ H, GJ X S ip ys σ H s ∧ D.ct ys σ H
  | .ret u => ∃ v σ H, GJ X S ip ys σ H s ∧ RelV v u ∧ D.rt ys v H
def GNext (X : Cx) (S : Gst) (ip : List (Addr × Obj)) (A : Around) (R : GenEnd) (c : Code) (fs : List Frame) (K : Flow → Sem PySem.Fin) (D : GEnds) : Prop :=
  ∀ (n : Nat) (ys : List V) (s₀ s : Shared) (f : Flow), n + ys.length = sizeLine → GEndP X S ip D ys f s → Seg (model X.prog X.w) A R (GPr X S) n s₀ c (K f) fs s
structure GSt (X : Cx) (st : Stmt) (t : TGn) : Prop where
  run : ∀ (A : Around) (S : Gst) (ip : List (Addr × Obj)) (R : GenEnd) (n : Nat) (ys : List V) (s₀ : Shared) (c : Code) (fs : List Frame) (K : Flow → Sem PySem.Fin) (J : Value → Sem PySem.Fin) (gd : Bool → Bool) (lv : List Value → List Value) (s : Shared) (σ : L2.St) (H : Hp) (D : GEnds),
    GCode X S ip A c fs gd → n + ys.length = sizeLine → GNext X S ip A R c fs K D → GJ X S ip ys σ H s → t D ys σ H →
    Seg (model X.prog X.w) A R (GPr X S) n s₀ c ((exec st X.env).wrap K J gd lv) fs s
structure GSts (X : Cx) (st : List Stmt) (t : TGn) : Prop where
  run : ∀ (A : Around) (S : Gst) (ip : List (Addr × Obj)) (R : GenEnd) (n : Nat) (ys : List V) (s₀ : Shared) (c : Code) (fs : List Frame) (K : Flow → Sem PySem.Fin) (J : Value → Sem PySem.Fin) (gd : Bool → Bool) (lv : List Value → List Value) (s : Shared) (σ : L2.St) (H : Hp) (D : GEnds),
    GCode X S ip A c fs gd → n + ys.length = sizeLine → GNext X S ip A R c fs K D → GJ X S ip ys σ H s → t D ys σ H →
    Seg (model X.prog X.w) A R (GPr X S) n s₀ c ((execs st X.env).wrap K J gd lv) fs s
section
variable {X : Cx} {st : Stmt} {rest : List Stmt}
end
section
variable {X : Cx} {S : Gst} {ip : List (Addr × Obj)}
theorem GJ.drop {pl : List (Addr × Obj)} {ys : List V} {σ : L2.St} {H : Hp} {s : Shared} (h : GJ X S (ip ++ pl) ys σ H s) : GJ X S ip ys σ H s := by
  obtain ⟨cn, pf, h1, h2, I⟩ := h
  rw [← List.append_assoc] at I
  exact ⟨cn, pf, h1, h2, I.unpinned⟩
end
end TP

namespace TP
open PySem PySem.Spec PyProof.Rows GenW L2
/-- the context of a generator's body: no exception may leave it -/
def cxG (P : Program) (w : World) (K : PySem.W.Frag) (mg : Str → Option Value) (base : Heap) (N : List Str) (qual : Str) (scope : Scope) (f : Addr) (cd : Value) (A : Around) (outer : List Env) (s : Shared) (H : Hp) (pn : List (Addr × Obj)) : Cx :=
  { cxOf (L2.CX P w) P w K mg base N qual scope f cd A outer s H (fun _ _ _ => False) with pn := pn, xe := fun _ _ => False }
/-- what a generator def keeps: the items and the heap at its end -/
abbrev SpI := List V → Hp → (List V → Hp → Prop) → Prop
def GDone (P : Program) (w : World) (outer : List Env) (H : Hp) (s : Shared) (S : Gst) (Q : List V → Hp → Prop) (s1 : Shared) : Prop :=
  ∃ H' ys, s1.os = s.os ∧ AllBare s1.gens ∧ Un (frs outer) [] H H' s.heap s1.heap ∧ HOk P w H' s1.heap ∧ (∀ b ∈ S.F, H' b = none) ∧ S.Cn ys s1.heap ∧ (∀ b ∈ S.F, ∃ o, s1.heap.get? b = some o ∧ ∀ v, o.data ≠ .cell v) ∧ ys.length ≤ sizeLine ∧ Q ys H'
def GStop (P : Program) (w : World) (outer : List Env) (H : Hp) (s : Shared) (S : Gst) (Q : List V → Hp → Prop) : GenEnd := fun _ _ r s1 =>
  ((r = .ok (.ret .none) ∨ r = .ok .next) ∧ GDone P w outer H s S Q s1) ∨ ∃ e, r = .error e ∧ False
def GItem (s : Shared) (S : Gst) (a : Addr) (g : Nat) : Protocol := fun n _ v s1 kap =>
  s1.os = s.os ∧ AllBare s1.gens ∧ s1.heap.NoLimit ∧ s1.heap.IsGen a g ∧ (∃ ys x, n + 1 + ys.length = sizeLine ∧ RelV x v ∧ S.Cn ys s1.heap) ∧ (∀ b ∈ S.F, ∃ o, s1.heap.get? b = some o ∧ ∀ v, o.data ≠ .cell v) ∧ ∀ s', Nap S v s1 s' → kap (.send .none) s'
/-- a generator that has not begun -/
def Asleep (P : Program) (w : World) (k : Nat) (outer : List Env) (H : Hp) (s : Shared) (Q : List V → Hp → Prop) (u : Value) (s' : Shared) : Prop :=
  ∃ (a : Addr) (g : Nat) (c : Code), u = .ref a ∧ s.heap.objs.size ≤ a ∧ a < s'.heap.objs.size ∧ s'.heap.IsGen a g ∧ s'.gens[g]? = some (.fresh c) ∧ s'.os = s.os ∧ AllBare s'.gens ∧ s'.heap.NoLimit ∧ (∀ b o, s.heap.get? b = some o → s'.heap.get? b = some o) ∧
    ∀ (A : Around) (S : Gst) (s2 : Shared), Room k A → A.frames = some outer → (∀ b ∈ S.F, s'.heap.objs.size ≤ b) → (∀ b o, s'.heap.get? b = some o → s2.heap.get? b = some o) → S.Cn [] s2.heap → (∀ b ∈ S.F, ∃ o, s2.heap.get? b = some o ∧ ∀ v, o.data ≠ .cell v) → s2.os = s.os → AllBare s2.gens →
      Seg (model P w) A (GStop P w outer H s S Q) (GItem s S a g) sizeLine s2 c ((model P w).den c) [] s2
structure GFnI (P : Program) (w : World) (K : PySem.W.Frag) (mg : Str → Option Value) (base : Heap) (k : Nat) (f : Addr) (fd : FuncData) (ps : List Str) (sp : SpI) : Prop where
  len : ∀ vs H Q, sp vs H Q → vs.length = ps.length
  run : ∀ (A : Around) (outer : List Env) (s : Shared) (H : Hp) (args : Args) (us : List Value) (vs : List V) (Q : List V → Hp → Prop), Room k A → Env0 P w K mg base A outer s H → BindsTo s fd args (ps.zip us) → Vals vs us → sp vs H Q →
    codeAny (model P w) A (.call (.ref f) args) (fun r s' => match r with | .ok (.ret u) => Asleep P w k outer H s Q u s' | _ => False) s
theorem GFnI.mono {P : Program} {w : World} {K : PySem.W.Frag} {mg : Str → Option Value} {base : Heap} {j k : Nat} {f : Addr} {fd : FuncData} {ps : List Str} {sp : SpI} (F : GFnI P w K mg base j f fd ps sp) (h : j ≤ k) : GFnI P w K mg base k f fd ps sp :=
  ⟨F.len, fun A outer s H args us vs Q hr e0 hb r hs => codeAny_mono (F.run A outer s H args us vs Q (hr.mono h) e0 hb r hs) fun r s' q => by
    match r, q with
    | .ok (.ret u), ⟨a, g, c, h1, h2, h3, h4, h5, h6, h7, h8, h9, wake⟩ => exact ⟨a, g, c, h1, h2, h3, h4, h5, h6, h7, h8, h9, fun A S s2 hr2 => wake A S s2 (hr2.mono h)⟩⟩
theorem gfn_body {P : Program} {w : World} {K : PySem.W.Frag} {mg : Str → Option Value} {base : Heap} {k : Nat} {f : Addr} {name qual : Str} {params : Arguments} {body : List Stmt} {scope : Scope} {dV kV doc pm cdv ct oc : Value} {an od : Option Addr}
    {osl : Array (Option Value)} {N ps : List Str} {sp : SpI} (lk : K.lookup f = some ⟨oc, od, .func (PySem.W.fnOf name qual params body scope dV kV doc pm an cdv ct), osl⟩) (hcd : PySem.W.codeIn K cdv qual = true) (G : GScope N ps scope)
    (len : ∀ vs H Q, sp vs H Q → vs.length = ps.length)
    (hbody : ∀ (A : Around) (outer : List Env) (s : Shared) (H : Hp) (vs : List V) (Q : List V → Hp → Prop) (pn : List (Addr × Obj)), Room k (A.deeper (envOfC qual scope s.heap.objs.size f cdv)) → sp vs H Q →
      ∃ t, GSts (cxG P w K mg base N qual scope f cdv A outer s H pn) body t ∧ t { nx := fun ys _ H' => Q ys H', rt := fun ys v H' => v = .non ∧ Q ys H' } [] (start N vs) H) :
    GFnI P w K mg base (k + 1) f (PySem.W.fnOf name qual params body scope dV kV doc pm an cdv ct) ps sp := by
  refine ⟨len, fun A outer s H args us vs Q hr e0 hb r hsp => ?_⟩
  have keep : ∀ b o, base.get? b = some o → s.heap.get? b = some o := fun b o e => (e0.bs b o e).1
  have KX : K.In s.heap := e0.mod.kin.keeps keep
  refine codeAny_call_generator hr.depth (KX _ _ lk) rfl G.co G.gen rfl (PySem.W.codeRec_of KX hcd) (hb _ _ _ _ (wpAny_newFunctionEnv_cells G.kind (fun y hy => ?_) fun env he s1 x => ?_))
  · exact (G.par y.1 (List.of_mem_zip hy).1).imp id fun q => ⟨q, PySem.W.cellsFrom_some _ _ _ (.inl q)⟩
  subst he
  have lim1 : s1.heap.NoLimit := (e0.mod.nolimit.keeps keep).keeps x.toInCall.keep
  refine ⟨lim1, ?_⟩
  have I0 := inv_startG (E := fun _ _ _ => False) G hr.hd e0 (len _ _ _ hsp) r x
  obtain ⟨h1, tk, es1, hk1⟩ := x.done
  have os1 : s1.os = s.os := by rw [es1]
  have gen1 : s1.gens = s.gens := by rw [es1]
  have lt1 : s.heap.objs.size < s1.heap.objs.size := x.toInCall.ns.lt
  -- the generator's object
  have main : ∀ (go : Obj) (nm qn : Value) (tk2 : Nat), go.cls = .type "generator" → go.data = .fields #[.int s1.gens.size 0, nm, qn] → go.slots = #[] → (∀ h : Heap, (h.push go).get? h.objs.size = some go) →
      Asleep P w (k + 1) outer H s Q (.ref s1.heap.objs.size) { s1 with gens := s1.gens.push (.fresh (.func body (envOfC qual scope s.heap.objs.size f cdv))), toks := tk2, heap := s1.heap.push go } := by
    intro go nm qn tk2 c1 c2 c3 c4
    have isg : ∀ h : Heap, h.get? s1.heap.objs.size = some go → h.IsGen s1.heap.objs.size s1.gens.size := fun h e => ⟨go, nm, qn, e, c1, c2, c3⟩
    refine ⟨s1.heap.objs.size, s1.gens.size, _, rfl, Nat.le_of_lt lt1, ?_, isg _ (c4 _), Array.getElem?_push_size .., os1, ?_, lim1.keeps fun b o e => Heap.get?_push_of_some _ e, fun b o e => Heap.get?_push_of_some _ (x.toInCall.keep b o e), ?_⟩
    · show _ < (s1.heap.push _).objs.size
      rw [Heap.size_push]; exact Nat.lt_succ_self _
    · exact AllBare.push (by rw [gen1]; exact e0.bare) rfl
    intro Aw S s2 hrw hfr hS hk2 hcn hth hos hba
    have e0w : Env0 P w K mg base Aw outer s H := ⟨hfr, e0.mod, e0.bs, e0.bsz, e0.funs, e0.frf, e0.hok, e0.bare⟩
    obtain ⟨t, ht, hq⟩ := hbody Aw outer s H vs Q [(s1.heap.objs.size, go)] (hrw.deeper _) hsp
    have I1 := inv_startG (E := fun _ _ _ => False) G hrw.hd e0w (len _ _ _ hsp) r x
    have kp2 : ∀ b o, s1.heap.get? b = some o → s2.heap.get? b = some o := fun b o e => hk2 b o (Heap.get?_push_of_some _ e)
    have I2 := I1.call' (s' := s2) (ch := []) (hos.trans os1.symm) (Un.kept kp2) (I1.hok.kept kp2) hba fun b z => by simp at z
    have hS1 : ∀ b ∈ S.F, s1.heap.objs.size < b := fun b hb => by
      have q := hS b hb
      have q' : (s1.heap.push go).objs.size ≤ b := q
      rw [Heap.size_push] at q'
      exact q'
    have young : ∀ b, s1.heap.objs.size ≤ b → H b = none ∧ b ≠ s.heap.objs.size ∧ b ∉ frs outer ∧ s.heap.objs.size ≤ b ∧ ∀ y c, (cellsFrom (s.heap.objs.size + 1) scope.names []).lookup y = some c → c ≠ b := fun b hb => by
      refine ⟨I1.hok.fresh hb, Nat.ne_of_gt (Nat.lt_of_lt_of_le lt1 hb), I1.nofs hb, Nat.le_trans (Nat.le_of_lt lt1) hb, fun y c e z => ?_⟩
      obtain ⟨v, ob, ho, _⟩ := I1.cell y c e
      have q := Heap.lt_size ho
      rw [z] at q
      exact absurd (Nat.lt_of_lt_of_le q hb) (Nat.lt_irrefl _)
    have goN : s1.heap.objs.size ∉ S.F := fun z => Nat.lt_irrefl _ (hS1 _ z)
    have hgo : s2.heap.get? s1.heap.objs.size = some go := hk2 _ _ (c4 _)
    have hG : GJ (cxG P w K mg base N qual scope f cdv Aw outer s H [(s1.heap.objs.size, go)]) S [] [] (start N vs) H s2 := by
      refine ⟨hcn, pinsAt S.F s2.heap, fun b hb => ?_, fun p hp => (of_pinsAt hp).1, ?_⟩
      · obtain ⟨o, e, _⟩ := hth b hb
        exact ⟨o, mem_pinsAt hb e⟩
      rw [List.append_nil]
      refine ⟨⟨I2.ok.mod, I2.ok.kind, I2.ok.glob, I2.ok.blt, I2.ok.above, I2.ok.inj, I2.ok.has, I2.ok.cab, I2.ok.hd, I2.ok.frames, I2.ok.stk, I2.ok.exf, I2.ok.bs, I2.ok.bsz, I2.ok.noex, I2.ok.exfs, I2.ok.funs, I2.ok.frf⟩, I2.os, I2.bare, I2.base, I2.loc, I2.cell, I2.free, I2.freeC, fun p hp => ?_, I2.hok, I2.len⟩
      rcases List.mem_append.mp hp with hp | hp
      · rw [List.mem_singleton.mp hp]
        obtain ⟨y1, y2, y3, _⟩ := young _ (Nat.le_refl _)
        exact ⟨hgo, y1, y2, y3, fun v q => by rw [c2] at q; cases q⟩
      · obtain ⟨hb, e⟩ := of_pinsAt hp
        obtain ⟨y1, y2, y3, _⟩ := young p.1 (Nat.le_of_lt (hS1 _ hb))
        obtain ⟨o, e', d⟩ := hth p.1 hb
        rw [e] at e'; cases e'
        exact ⟨e, y1, y2, y3, d⟩
    have gen : ∀ {ip : List (Addr × Obj)} {ys : List V} {s' : Shared} {σ' : L2.St} {H' : Hp}, GJ (cxG P w K mg base N qual scope f cdv Aw outer s H [(s1.heap.objs.size, go)]) S ip ys σ' H' s' → s'.heap.IsGen s1.heap.objs.size s1.gens.size := fun {ip ys s' σ' H'} h =>
      isg _ (h.inv.pin (s1.heap.objs.size, go) (List.mem_append_left _ (List.mem_singleton.mpr rfl))).1
    have stop : ∀ {m : Nat} {ip : List (Addr × Obj)} {ys : List V} {s' : Shared} {σ' : L2.St} {H' : Hp}, m + ys.length = sizeLine → GJ (cxG P w K mg base N qual scope f cdv Aw outer s H [(s1.heap.objs.size, go)]) S ip ys σ' H' s' → Q ys H' → GDone P w outer H s S Q s' := fun {m ip ys s' σ' H'} hm h q =>
      ⟨H', ys, h.inv.os, h.inv.bare, h.inv.base, h.inv.hok, fun b hb => (h.own b hb).1, h.1, fun b hb => (h.own b hb).2.2.2, by omega, q⟩
    refine seg_func ?_
    refine seg_imp (R := GFin (cxG P w K mg base N qual scope f cdv Aw outer s H [(s1.heap.objs.size, go)]) S (fun ys v H' => v = .non ∧ Q ys H')) (Y := GPr (cxG P w K mg base N qual scope f cdv Aw outer s H [(s1.heap.objs.size, go)]) S) (fun n s₀ r s1' hR => ?_) (fun n s₀ v s1' kap kap' hkk hY => ?_) sizeLine ?_
    · match r, hR with
      | .ok (.ret u), ⟨ys, v, ip, σ', H', hn, h, rv, ev, q⟩ =>
        subst ev
        have eu : u = Value.none := rv
        subst eu
        exact .inl ⟨.inl rfl, stop hn h q⟩
    · obtain ⟨ys, y, ip, σ', H', hn, rv, h, h3⟩ := hY
      exact ⟨h.inv.os, h.inv.bare, h.inv.nolimit, gen h, ⟨ys, y, hn, rv, h.1⟩, fun b hb => (h.own b hb).2.2.2, fun s' z => hkk _ _ (h3 s' z)⟩
    · refine ht.run Aw S [] _ sizeLine [] s2 _ [] _ _ id id s2 (start N vs) H _ ⟨fun _ _ z => z, fun p hp z => goN (by rw [List.mem_singleton.mp hp] at z; exact z), fun p hp => (by simp at hp), fun b hb => ?_, over_func, rfl, rfl, rfl⟩ (Nat.add_zero _) (fun n ys s₀ s' fl hn hs => ?_) hG hq
      · obtain ⟨_, _, _, y4, y5⟩ := young b (Nat.le_of_lt (hS1 _ hb))
        exact ⟨y4, y5⟩
      · match fl, hs with
        | .next, ⟨σ', H', h, q⟩ => exact seg_end (.ok (.ret .none)) ⟨ys, .non, [], σ', H', hn, h, rfl, rfl, q⟩
        | .ret u, ⟨v, σ', H', h, rv, q⟩ => exact seg_end (.ok (.ret u)) ⟨ys, v, [], σ', H', hn, h, rv, q⟩
        | .brk, ⟨_, _, _, q⟩ => exact q.elim
        | .cont, ⟨_, _, _, q⟩ => exact q.elim
  exact main _ _ _ _ rfl rfl rfl fun h => Heap.get?_push_size _ rfl
end TP

namespace TP
open PySem PySem.Spec PyProof.Rows GenW L2
structure GMth (P : Program) (w : World) (K : PySem.W.Frag) (mg : Str → Option Value) (base : Heap) (k : Nat) (C : Addr) (m : Str) (ps : List Str) (sp : SpI) : Prop where
  ex : ∃ (f : Addr) (fd : FuncData), Meth K C m f ∧ GFnI P w K mg base k f fd ps sp ∧ Binds K fd ps []
structure GFun (P : Program) (w : World) (K : PySem.W.Frag) (mg : Str → Option Value) (base : Heap) (k : Nat) (x : Str) (ps : List Str) (sp : SpI) : Prop where
  ex : ∃ (f : Addr) (fd : FuncData), mg x = some (.ref f) ∧ PySem.W.keepIn K (.ref f) = true ∧ GFnI P w K mg base k f fd ps sp ∧ Binds K fd ps []
section
variable {P : Program} {w : World} {K : PySem.W.Frag} {mg : Str → Option Value} {base : Heap} {C : Addr}
theorem gfn_fun {x qual : Str} {st : Stmt} {N ps : List Str} {k : Nat} {sp : SpI} {f : Addr} {fd : FuncData} (F : Fun K x qual st f fd) (S : GScope N ps (defScope st)) (len : ∀ vs H Q, sp vs H Q → vs.length = ps.length)
    (hd : ∀ (cdv : Value) (A : Around) (outer : List Env) (s : Shared) (H : Hp) (vs : List V) (Q : List V → Hp → Prop) (pn : List (Addr × Obj)), Room k (A.deeper (envOfC qual (defScope st) s.heap.objs.size f cdv)) → sp vs H Q →
      ∃ t, GSts (cxG P w K mg base N qual (defScope st) f cdv A outer s H pn) (defBody st) t ∧ t { nx := fun ys _ H' => Q ys H', rt := fun ys v H' => v = .non ∧ Q ys H' } [] (start N vs) H) : GFnI P w K mg base (k + 1) f fd ps sp := by
  obtain ⟨oc, od, kV, doc, pm, an, cdv, ct, osl, rfl, lk, hcd⟩ := F.ex
  exact gfn_body lk hcd S len fun A outer s H vs Q pn hr h => hd cdv A outer s H vs Q pn hr h
theorem FunI.okG {x : Str} {st : Stmt} {N ps : List Str} {k : Nat} {sp : SpI} (F : FunI K mg x st ps) (S : GScope N ps (defScope st)) (len : ∀ vs H Q, sp vs H Q → vs.length = ps.length) {t : TGn}
    (hd : ∀ (f : Addr) (cdv : Value) (A : Around) (outer : List Env) (s : Shared) (H : Hp) (pn : List (Addr × Obj)), Room k (A.deeper (envOfC x (defScope st) s.heap.objs.size f cdv)) → GSts (cxG P w K mg base N x (defScope st) f cdv A outer s H pn) (defBody st) t)
    (hb : ∀ (H : Hp) (vs : List V) (Q : List V → Hp → Prop), sp vs H Q → t { nx := fun ys _ H' => Q ys H', rt := fun ys v H' => v = .non ∧ Q ys H' } [] (start N vs) H) : GFun P w K mg base (k + 1) x ps sp := by
  obtain ⟨f, fd, hm, F, b⟩ := F.ex
  exact ⟨f, fd, hm, F.kp, gfn_fun F S len fun cdv A outer s H vs Q pn hr h => ⟨t, hd f cdv A outer s H pn hr, hb H vs Q h⟩, b⟩
theorem MunI.okG {m qual : Str} {st : Stmt} {N ps : List Str} {k : Nat} {sp : SpI} (F : MunI K C m qual st ps) (S : GScope N ps (defScope st)) (len : ∀ vs H Q, sp vs H Q → vs.length = ps.length) {t : TGn}
    (hd : ∀ (f : Addr) (cdv : Value) (A : Around) (outer : List Env) (s : Shared) (H : Hp) (pn : List (Addr × Obj)), Room k (A.deeper (envOfC qual (defScope st) s.heap.objs.size f cdv)) → GSts (cxG P w K mg base N qual (defScope st) f cdv A outer s H pn) (defBody st) t)
    (hb : ∀ (H : Hp) (vs : List V) (Q : List V → Hp → Prop), sp vs H Q → t { nx := fun ys _ H' => Q ys H', rt := fun ys v H' => v = .non ∧ Q ys H' } [] (start N vs) H) : GMth P w K mg base (k + 1) C m ps sp := by
  obtain ⟨f, fd, hm, F, b, _⟩ := F.ex
  exact ⟨f, fd, hm, gfn_fun F S len fun cdv A outer s H vs Q pn hr h => ⟨t, hd f cdv A outer s H pn hr, hb H vs Q h⟩, b⟩
end
/-- an expression whose value is a generator that has not begun -/
structure PGenI (X : Cx) (k : Nat) (e : Expr) (tg : TGen) : Prop where
  run : ∀ (pins : List (Addr × Obj)) (s : Shared) (σ : L2.St) (H : Hp) (cont : List V → Hp → Prop), Inv X pins σ H s → tg σ H cont → wpAny (model X.prog X.w) X.A (eval e X.env)
    (fun u s' => ∃ H1 sc, Inv X pins σ H1 sc ∧ Asleep X.prog X.w k X.stack H1 sc cont u s') X.xe s
section
variable {X : Cx} {k j : Nat} {C : Addr} {ps : List Str} {sp : SpI} {x m : Str} {p pos apos : Pos} {o e : Expr} {es : List Expr} {ta : TE} {t : TA}
end
section
variable {X : Cx} {k : Nat} {x : Str} {px pe pos : Pos} {iter : Expr} {scope : Scope} {own : List (Str × Nat)} {tg : TGen}
end
end TP

namespace MR
open PySem PySem.Spec PyProof.Rows L2 TP
inductive GFl where
  | nx (δ : Env) (Y : List D) | rt (d : D) (Y : List D) | bk (δ : Env) (Y : List D) | ct (δ : Env) (Y : List D)
abbrev MGn := Env → List D → Sto → Out GFl
section
variable (K : PySem.W.Frag) (Γ : Gm) (xa : XT)
def PostG (o : Out GFl) (w0 w : Wd) (Dn : GEnds) : Prop := match o with
  | .ok (.nx δ Y) S => ∀ w' σ ys, w'.S = S → Ok K Γ w' → Ev w0 w' → Gr w w' → EnvOk K Γ xa w0 w' σ δ → Reps K Γ w' Y ys → Dn.nx ys σ w'.H
  | .ok (.rt d Y) S => ∀ w' v ys, w'.S = S → Ok K Γ w' → Ev w0 w' → Gr w w' → Rep K Γ w' d v → Reps K Γ w' Y ys → Dn.rt ys v w'.H
  | .ok (.bk δ Y) S => ∀ w' σ ys, w'.S = S → Ok K Γ w' → Ev w0 w' → Gr w w' → EnvOk K Γ xa w0 w' σ δ → Reps K Γ w' Y ys → Dn.bk ys σ w'.H
  | .ok (.ct δ Y) S => ∀ w' σ ys, w'.S = S → Ok K Γ w' → Ev w0 w' → Gr w w' → EnvOk K Γ xa w0 w' σ δ → Reps K Γ w' Y ys → Dn.ct ys σ w'.H
  | _ => False
structure SimG (tg : TGn) (mg : MGn) : Prop where
  run : ∀ (w0 w : Wd) (σ : L2.St) (δ : Env) (Dn : GEnds) (Y : List D) (ys : List V), Ok K Γ w → Ev w0 w → EnvOk K Γ xa w0 w σ δ → Reps K Γ w Y ys → PostG K Γ xa (mg δ Y w.S) w0 w Dn → tg Dn ys σ w.H
end
def bndY {α : Type} (o : Out α) (f : α → Sto → Out GFl) : Out GFl := match o with
  | .ok a S => f a S
  | _ => .bad
section
variable {K : PySem.W.Frag} {Γ : Gm} {xa : XT} {te ta tb : TE} {me ma mb : ME} {w w' w0 w1 : Wd} {t u : TT} {mt mu : MT} {ts us : TS} {ms mus : MS} {Dn : GEnds} {tl : TA} {ml : MA} {wi : TI} {mi : MA} {ga gb : TGn} {na nb : MGn}
theorem PostG.gr {o : Out GFl} (h : PostG K Γ xa o w0 w Dn) (g : Gr w w') : PostG K Γ xa o w0 w' Dn := by
  cases o with
  | ok f S => cases f <;> exact fun w1 σ ys hs ho he hg => h w1 σ ys hs ho he (g.trans hg)
  | ex => exact h
  | bad => exact h
theorem PostG.then {α : Type} {o : Out α} {σ : L2.St} {f : α → Sto → Out GFl} {ok : α → Wd → Prop} (h : PostG K Γ xa (bndY o f) w0 w Dn)
    (g : ∀ a w', Ok K Γ w' → Ev w w' → PostG K Γ xa (f a w'.S) w0 w' Dn → ok a w') : Post K Γ o w ok (XW K Γ noW σ) := by
  cases o with
  | ok a S => exact fun w1 hs ho he => g a w1 ho he (by subst hs; exact PostG.gr h he.gr)
  | ex c ns ds S => exact False.elim h
  | bad => exact h
variable {vs : List Nat} {tg : TG} {mg : MG}
abbrev MFY := List D → Sto → Out (List D)
variable {n : Nat} {m : MFY}
/-- the reading of a generator made by a call -/
structure SimGE (K : PySem.W.Frag) (Γ : Gm) (xa : XT) (tg : TGen) (my : MA) : Prop where
  run : ∀ (w0 w : Wd) (σ : L2.St) (δ : Env) (cont : List V → Hp → Prop), Ok K Γ w → Ev w0 w → EnvOk K Γ xa w0 w σ δ → Post K Γ (my δ w.S) w (fun Y w' => ∀ ys, Reps K Γ w' Y ys → cont ys w'.H) (fun _ _ _ _ => False) → tg σ w.H cont
end
end MR

namespace TP
open PySem PySem.Spec PyProof.Rows L2
open Sem (wp)
end TP

namespace MR
open PySem PySem.Spec PyProof.Rows L2 TP
section
variable {K : PySem.W.Frag} {Γ : Gm} {xa : XT} {W : WX} {w : Wd} {tl : TA} {ml : MA}
end
end MR

namespace TP
open PySem PySem.Spec PyProof.Rows L2
end TP

namespace MR
open PySem PySem.Spec PyProof.Rows L2 TP
section
variable {K : PySem.W.Frag} {Γ : Gm}
end
end MR

namespace TP
open PySem PySem.Spec PyProof.Rows L2
section
variable {X : Cx} {k j : Nat} {C : Addr} {sp : Sp} {W : WX} {m : Str} {pos apos : Pos} {o : Expr} {ta : TE}
end
end TP

namespace MR
open PySem PySem.Spec PyProof.Rows L2 TP
section
variable {K : PySem.W.Frag} {Γ : Gm} {xa : XT} {W : WX} {w : Wd} {te : TE} {me : ME}
end
end MR

namespace MR
open PySem PySem.Spec PyProof.Rows L2 TP
section
variable {K : PySem.W.Frag} {Γ : Gm} {w : Wd}
def opLtT : D → D → Sto → Out D := fun x y S => match x, y with
  | .tup ds, .tup es => match intsOf ds, intsOf es with
    | some ns, some ms => .ok (.bl (HT.lexLt ns ms)) S
    | _, _ => .bad
  | _, _ => .bad
theorem om_ltT : OpM K Γ (rLtT K) opLtT := ⟨fun w d e x y Q ex o hx hy p => by
  unfold opLtT at p
  split at p
  · rename_i ds es
    split at p
    · rename_i ns ms h1 h2
      obtain ⟨a, vs, rfl, a1, a2, a3⟩ := pk_tup hx
      obtain ⟨b, us, rfl, b1, b2, b3⟩ := pk_tup hy
      rw [ints_reps h1 a3] at a1
      rw [ints_reps h2 b3] at b1
      exact ⟨a, b, ns, ms, rfl, rfl, sqT_mono o.same a1, sqT_mono o.same b1, Post.now p o _ (by simp only [Rep, RepC])⟩
    · exact False.elim p
  · exact False.elim p⟩
end
end MR

namespace MR
open PySem PySem.Spec PyProof.Rows L2 TP
section
variable {K : PySem.W.Frag} {Γ : Gm} {xa : XT} {W : WX} {te : TE} {me : ME} {vs : List Nat} {n : Nat} {tgs : TGs} {mgs : MGs}
end
end MR

namespace MR
open PySem PySem.Spec PyProof.Rows L2 TP
section
variable {K : PySem.W.Frag} {Γ : Gm} {xa : XT} {W : WX} {to : TE} {mo : ME}
end
end MR

namespace TP
open PySem PySem.Spec PyProof.Rows L2
inductive HdsB (X : Cx) : List ExceptHandler → List (Value × Option Nat × (Addr → Value → Option Addr → TS)) → Prop
  | nil : HdsB X [] []
  | cons {x n : Str} {c : Value} {i : Nat} {ts : Addr → Value → Option Addr → TS} {b₀ : Stmt} {suite : List Stmt} {np pos' : Pos} {hds : List ExceptHandler} {l : List (Value × Option Nat × (Addr → Value → Option Addr → TS))} (hi : X.N[i]? = some n) (hln : X.env.kindOf n = some .local) (hc : Names X x c)
      (hsu : ∀ (a : Addr) (oe : Obj) (cls : Value) (d : Option Addr) (pn : List (Addr × Obj)), Zc cls d oe → (∃ vs, oe.data = .fields vs) → PSs (X.suite a ((a, oe) :: pn)) (b₀ :: suite) (ts a cls d)) (r : HdsB X hds l) :
      HdsB X (.ExceptHandler (some (.Name x np)) (some n) (b₀ :: suite) pos' :: hds) ((c, some i, ts) :: l)
  | cons0 {x : Str} {c : Value} {ts : Addr → Value → Option Addr → TS} {b₀ : Stmt} {suite : List Stmt} {np pos' : Pos} {hds : List ExceptHandler} {l : List (Value × Option Nat × (Addr → Value → Option Addr → TS))} (hc : Names X x c)
      (hsu : ∀ (a : Addr) (oe : Obj) (cls : Value) (d : Option Addr) (pn : List (Addr × Obj)), Zc cls d oe → (∃ vs, oe.data = .fields vs) → PSs (X.suite a ((a, oe) :: pn)) (b₀ :: suite) (ts a cls d)) (r : HdsB X hds l) :
      HdsB X (.ExceptHandler (some (.Name x np)) none (b₀ :: suite) pos' :: hds) ((c, none, ts) :: l)
section
variable {X : Cx} {body : List Stmt} {h₀ : ExceptHandler} {hds : List ExceptHandler} {l : List (Value × Option Nat × (Addr → Value → Option Addr → TS))} {pos : Pos} {tb : WX → TS} {Wout : WX}
end
end TP

namespace TP
open PySem PySem.Spec PyProof.Rows L2
def iniBody0 (txt : Str) (n3 : Nat) (p0 p1 p2 p3 p4 p5 : Pos) : List Stmt :=
  [.Expr (.Call (.Attribute (.Call (.Name "super" p0) [] [] p1) "__init__" p2) [.Constant (.str txt) n3 p3] [] p4) p5]
def iniScope0 : Scope := { kind := .function, names := [(PySem.Str.ofString "self", .local), (PySem.Str.ofString "__class__", .free), (PySem.Str.ofString "super", .globalImplicit)], isGenerator := false, isCoroutine := false, more := [] }
structure IniTxt0 (P : Program) (K : PySem.W.Frag) (mg : Str → Option Value) (C fI : Addr) (qual : Str) (fd : FuncData) : Prop where
  oex : OexC K C
  sup : mg "super" = none
  opq : PySem.W.nsIn K cStatics "thirdparty.any" = some none
  along : PySem.W.ks_superIn K C C "__init__" = some (some vin)
  mine : PySem.W.mroIn K C (.ref C) = some true
  isV : PySem.W.mroIn K C (.type "ValueError") = some true
  top : (P.main.scope.names.lookup ("super" : Str)).isSome = false
  code : ∃ (oc : Value) (od : Option Addr) (params : Arguments) (kV doc pm : Value) (an : Option Addr) (cda : Addr) (ct : Value) (cc : Addr) (osl : Array (Option Value)) (ar : Arg) (ccl : Value) (cdd : Option Addr) (vs : Array Value) (ccs : Array (Option Value)) (file : Str) (tf : Tok) (cl : Value) (cld : Option Addr) (csl : Array (Option Value))
      (txt : Str) (n3 : Nat) (p0 p1 p2 p3 p4 p5 : Pos),
    fd = PySem.W.ksFn "__init__" qual params (iniBody0 txt n3 p0 p1 p2 p3 p4 p5) iniScope0 .none kV doc pm an (.ref cda) ct cc ∧ K.lookup fI = some ⟨oc, od, .func fd, osl⟩ ∧ PySem.W.codeIn K (.ref cda) qual = true ∧
    (params.posonlyargs ++ params.args).head? = some ar ∧ ar.arg = "self" ∧ K.lookup cda = some ⟨ccl, cdd, .fields vs, ccs⟩ ∧ vs[2]? = some (.str file tf) ∧ ((P.main.file : Str) == file) = true ∧ K.lookup cc = some ⟨cl, cld, .cell (some (.ref C)), csl⟩ ∧
    iniScope0.names.lookup ("super" : Str) = some .globalImplicit ∧ iniScope0.names.lookup ("__class__" : Str) = some .free ∧ iniScope0.names.lookup ("self" : Str) = some .local ∧ (p2.endLine == p4.line) = true
structure ErrI0 (P : Program) (K : PySem.W.Frag) (mg : Str → Option Value) (x : Str) (C : Addr) : Prop where
  at_ : mg x = some (.ref C)
  xf : XfC K C
  is_ : ExcC K C
  ex : ∃ (fI : Addr) (fd : FuncData) (qual : Str), IniTxt0 P K mg C fI qual fd ∧ PySem.W.findIn K (.ref C) "__init__" = some (some (.ref fI)) ∧ PySem.W.typeIn K (.ref fI) = some (.type "function") ∧ Binds K fd ["self"] []
end TP

namespace MR
open PySem PySem.Spec PyProof.Rows L2 TP
section
variable {K : PySem.W.Frag} {Γ : Gm} {xa : XT} {W : WX}
end
end MR

namespace SrtO
open PySem PyProof.Rows Srt
def tv : Value → PySem.Str
  | .str s _ => s
  | _ => ""
section
variable {prog : Program} {w : World} {A : Around} {E : Value → Shared → Prop} {s : Shared}
end
end SrtO
namespace L2
open PySem PySem.Spec PyProof.Rows
section
variable {X : Cx}
end
end L2

namespace TP
open PySem PySem.Spec PyProof.Rows L2
inductive HeldL (X : Cx) (j : Nat) : List (Addr × Sp) → Prop
  | nil : HeldL X j []
  | cons {x : Str} {k : Nat} {ps : List Str} {f : Addr} {sp : Sp} {l : List (Addr × Sp)} (hm : X.mg x = some (.ref f)) (I : FnZ X.prog X.w X.K X.mg X.base k x ps sp) (hk : k ≤ j) (r : HeldL X j l) : HeldL X j ((f, sp) :: l)
section
variable {X : Cx} {j i : Nat} {fs : List (Addr × Sp)} {W : WX} {x : Str} {p pos : Pos} {e : Expr} {es : List Expr} {t : TA}
theorem HeldL.get {f : Addr} {sp : Sp} (h : HeldL X j fs) (hm : (f, sp) ∈ fs) : ∃ (fd : FuncData) (ps : List Str) (k : Nat), k ≤ j ∧ PySem.W.keepIn X.K (.ref f) = true ∧ FnOk X.prog X.w X.K X.mg X.base (L2.CX X.prog X.w) k f fd ps sp ∧ Binds X.K fd ps [] := by
  induction h with
  | nil => cases hm
  | cons hg I hk r ih =>
    rcases List.mem_cons.mp hm with e | e
    · cases e
      obtain ⟨f', fd, h1, kp, F, b⟩ := I.ex
      rw [hg] at h1
      cases h1
      exact ⟨fd, _, _, hk, kp, F, b⟩
    · exact ih e
end
end TP

namespace MR
open PySem PySem.Spec PyProof.Rows L2 TP
section
variable {K : PySem.W.Frag} {Γ : Gm} {xa : XT} {W : WX} {tl : TA} {ml : MA}
end
end MR

namespace TP
open PySem PySem.Spec PyProof.Rows L2
end TP

namespace MR
open PySem PySem.Spec PyProof.Rows L2 TP
section
variable {K : PySem.W.Frag} {Γ : Gm} {xa : XT} {W : WX} {te : TE} {me : ME}
end
end MR

namespace TP
open PySem PySem.Spec PyProof.Rows L2
structure MthN (P : Program) (w : World) (K : PySem.W.Frag) (mg : Str → Option Value) (base : Heap) (k : Nat) (C : Addr) (m : Str) (ps : List Str) (sp : Sp) : Prop where
  ex : ∃ (f : Addr) (fd : FuncData), Meth K C m f ∧ FnOk P w K mg base (L2N.CX P w) k f fd ps sp ∧ Binds K fd ps [] ∧ PySem.W.fnIn K f = true
section
variable {P : Program} {w : World} {K : PySem.W.Frag} {mg : Str → Option Value} {base : Heap} {j k : Nat} {f : Addr} {fd : FuncData} {ps : List Str} {sp : Sp}
theorem okGN {x qual : Str} {st : Stmt} {N : List Str} (F : Fun K x qual st f fd) (S : FnScope N ps (defScope st)) (len : ∀ vs H Q E, sp vs H Q E → vs.length = ps.length)
    (hbody : ∀ (cdv : Value) (A : Around) (outer : List Env) (s : Shared) (H : Hp) (vs : List V) (Q : VK) (E : XK), Room k (A.deeper (envOfC qual (defScope st) s.heap.objs.size f cdv)) → sp vs H Q E →
      ∃ t, PSs (cxOf (L2N.CX P w) P w K mg base N qual (defScope st) f cdv A outer s H E) (defBody st) t ∧ t { nx := fun _ H' => Q .non H', rt := Q } (start N vs) H) : FnOk P w K mg base (L2N.CX P w) (k + 1) f fd ps sp := by
  obtain ⟨oc, od, kV, doc, pm, an, cdv, ct, osl, rfl, lk, hcd⟩ := F.ex
  exact fn_body lk hcd S len fun A outer s H vs Q E hr hsp => hbody cdv A outer s H vs Q E hr hsp
end
section
variable {P : Program} {w : World} {K : PySem.W.Frag} {mg : Str → Option Value} {base : Heap} {C : Addr}
theorem MunI.okN {m qual : Str} {st : Stmt} {N ps : List Str} {k : Nat} {sp : Sp} (F : MunI K C m qual st ps) (S : FnScope N ps (defScope st)) (len : ∀ vs H Q E, sp vs H Q E → vs.length = ps.length) {t : XK → TS}
    (hd : ∀ (f : Addr) (cdv : Value) (A : Around) (outer : List Env) (s : Shared) (H : Hp) (E : XK), Room k (A.deeper (envOfC qual (defScope st) s.heap.objs.size f cdv)) → PSs (cxOf (L2N.CX P w) P w K mg base N qual (defScope st) f cdv A outer s H E) (defBody st) (t E))
    (hb : ∀ (H : Hp) (vs : List V) (Q : VK) (E : XK), sp vs H Q E → t E { nx := fun _ H' => Q .non H', rt := Q } (start N vs) H) : MthN P w K mg base (k + 1) C m ps sp := by
  obtain ⟨f, fd, hm, F, b, fi⟩ := F.ex
  exact ⟨f, fd, hm, okGN F S len fun cdv A outer s H vs Q E hr h => ⟨t E, hd f cdv A outer s H E hr, hb H vs Q E h⟩, b, fi⟩
end
section
variable {X : Cx} {e : Expr} {es : List Expr} {ta : TA} {p pos : Pos}
end
section
variable {X : Cx} {W : WX} {x fld : Str} {C : Addr} {j : Nat} {e : Expr} {ta : TA} {p p1 pos : Pos}
end
section
variable {X : Cx} {k j : Nat} {C : Addr} {ps : List Str} {sp : Sp} {W : WX} {x m : Str} {p pos apos : Pos} {o e : Expr} {es : List Expr} {ta : TE} {t : TA}
end
section
variable {X : Cx} {k j : Nat} {C : Addr} {ps : List Str} {sp : Sp} {W : WX}
end
end TP

namespace TP
open PySem PySem.Spec PyProof.Rows L2 HotX
end TP

namespace TP
open PySem PySem.Spec PyProof.Rows L2 HotX
section
variable {X : Cx} {pins : List (Addr × Obj)} {σ : L2.St} {H : Hp} {s : Shared}
end
end TP

namespace TP
open PySem PySem.Spec PyProof.Rows L2 HotX
section
variable {X : Cx} {pins : List (Addr × Obj)} {σ : L2.St} {H : Hp} {s : Shared}
end
section
variable {X : Cx} {body : List Stmt} {x1 x2 n xn fld : Str} {c1 c2 : Value} {C : Addr} {i kk : Nat} {e : Expr} {ta : TA} {tb : WX → TS} {E : XK} {q1 q2 tpos p0 p1 cpos rpos pos' pos : Pos}
end
end TP

namespace MR
open PySem PySem.Spec PyProof.Rows L2 TP
section
variable {K : PySem.W.Frag} {Γ : Gm} {xa : XT} {W : WX} {n : Nat} {tl : TA} {ml : MA} {m : MF}
end
end MR

namespace TP
open PySem PySem.Spec PySem.Calls PyProof.Rows L2
theorem cxUpN {P : Program} {w : World} : StX.CXUp (L2N.CX P w) := by
  rintro outer s H s2 H2 E e s' un kp ho ⟨a, B, H', cls, d, ea, fl, hok, ub, na, os, ag, he⟩
  have ub' : UB (frs outer) H H' s.heap B s'.heap := by
    refine ⟨fun b o q n hb => ub.keep b o (kp b o q) (un.free b o q n (by simp)) hb, fun b o q hb => ub.slot b o (kp b o q) hb, fun b o q n => ub.free b o (kp b o q) (un.free b o q n (by simp)), fun b o q hb => ub.there b o (kp b o q) hb, fun b xs q => ub.tups b xs (un.tups b xs q), fun b o xs q => ub.frzs b o xs (un.frzs b o xs q), fun b ps q => ?_⟩
    obtain ⟨m1, e1⟩ := un.tbls b ps q
    obtain ⟨m2, e2⟩ := ub.tbls b _ e1
    exact ⟨m1 ++ m2, by rw [e2, Array.append_assoc]⟩
  exact ⟨a, B, H', cls, d, ea, fl, hok, ub', na, os.trans ho, ag, he⟩
structure MthRN (P : Program) (w : World) (K : PySem.W.Frag) (mg : Str → Option Value) (base : Heap) (k : Nat) (C : Addr) (m : Str) (sp : Sp) : Prop where
  ex : ∃ f : Addr, Meth K C m f ∧ FnR P w K mg base (L2N.CX P w) k f sp
section
variable {X : Cx} {k j : Nat} {C : Addr} {sp : Sp} {W : WX} {m : Str} {pos apos : Pos} {o e : Expr} {es : List Expr} {ta : TE} {t : TA}
end
theorem StmI.okN {P : Program} {w : World} {K : PySem.W.Frag} {mg : Str → Option Value} {base : Heap} {C : Addr} {m qual pv : Str} {st : Stmt} {N ps : List Str} {k : Nat} {sp : Sp} (F : StmI K C m qual st ps pv) (S : FnScope N (ps ++ [pv]) (defScope st)) {t : XK → TS}
    (hd : ∀ (f : Addr) (cdv : Value) (A : Around) (outer : List Env) (s : Shared) (H : Hp) (E : XK), Room k (A.deeper (envOfC qual (defScope st) s.heap.objs.size f cdv)) → PSs (cxOf (L2N.CX P w) P w K mg base N qual (defScope st) f cdv A outer s H E) (defBody st) (t E))
    (hb : ∀ (H : Hp) (vs : List V) (Q : VK) (E : XK), sp vs H Q E → t E { nx := fun _ H' => Q .non H', rt := Q } (L2.start N vs) H) : MthRN P w K mg base (k + 1) C m (spV ps.length sp) := by
  obtain ⟨f, oc, od, an, osl, dV, kV, doc, pm, cdv, ct, hm, lk, hcd, hbd⟩ := F.ex
  exact ⟨f, hm, fn_starG lk hcd S cxUpN hbd fun A outer s H vs Q E hr h => ⟨t E, hd f cdv A outer s H E hr, hb H vs Q E h⟩⟩
section
variable {X : Cx} {k j : Nat} {C : Addr} {sp : Sp} {W : WX} {x : Str} {ps : List Str} {p pos : Pos} {e : Expr} {es : List Expr} {to : TE} {t : TA}
end
end TP

namespace MR
open PySem PySem.Spec PyProof.Rows L2 TP
section
variable {K : PySem.W.Frag} {Γ : Gm} {xa : XT} {W : WX} {n c : Nat} {C : Addr} {ta : TE} {tl : TA} {ma : ME} {ml : MA} {m : MF}
end
end MR

namespace MR
open PySem PySem.Spec PyProof.Rows L2 TP
section
variable {K : PySem.W.Frag} {Γ : Gm} {w w' w0 : Wd}
mutual
theorem nk_rep : ∀ (n : Nat) (d : D) (v : V), plnD n d = true → Rep K Γ w d v → NkV K w.R (nkD d) v ∧ (nkD d).depth ≤ n
  | n, .non, v, _, r => by
    simp only [Rep, RepC] at r; subst r
    unfold nkD; exact ⟨.non, Nat.zero_le _⟩
  | n, .bl b, v, _, r => by
    simp only [Rep, RepC] at r; subst r
    unfold nkD; exact ⟨.bl b _ rfl, Nat.zero_le _⟩
  | n, .int i, v, _, r => by
    simp only [Rep, RepC] at r; subst r
    unfold nkD; exact ⟨.int i, Nat.zero_le _⟩
  | n, .str x, v, _, r => by
    simp only [Rep, RepC] at r; subst r
    unfold nkD; exact ⟨.str x, Nat.zero_le _⟩
  | 0, .tup ds, v, h, r => by unfold plnD at h; cases h
  | n + 1, .tup ds, v, h, r => by
    simp only [Rep, RepC] at r
    obtain ⟨a, vs, rfl, hs, _, hr⟩ := r
    unfold plnD at h
    obtain ⟨q1, q2⟩ := nks_rep n ds vs h hr
    unfold nkD
    refine ⟨.tup hs q1, ?_⟩
    simp only [NestedKey.depth]
    omega
  | 0, .lst _, _, h, _ => by unfold plnD at h; cases h
  | 0, .byt _, _, h, _ => by unfold plnD at h; cases h
  | 0, .ty _, _, h, _ => by unfold plnD at h; cases h
  | 0, .cls _, _, h, _ => by unfold plnD at h; cases h
  | 0, .dic _ _, _, h, _ => by unfold plnD at h; cases h
  | 0, .obj _ _ _, _, h, _ => by unfold plnD at h; cases h
  | 0, .ref _, _, h, _ => by unfold plnD at h; cases h
  | 0, .scr _, _, h, _ => by unfold plnD at h; cases h
  | 0, .fdc _ _, _, h, _ => by unfold plnD at h; cases h
  | 0, .ndc _ _, _, h, _ => by unfold plnD at h; cases h
  | 0, .fnc _ _, _, h, _ => by unfold plnD at h; cases h
  | n + 1, .lst _, _, h, _ => by unfold plnD at h; cases h
  | n + 1, .byt _, _, h, _ => by unfold plnD at h; cases h
  | n + 1, .ty _, _, h, _ => by unfold plnD at h; cases h
  | n + 1, .cls _, _, h, _ => by unfold plnD at h; cases h
  | n + 1, .dic _ _, _, h, _ => by unfold plnD at h; cases h
  | n + 1, .obj _ _ _, _, h, _ => by unfold plnD at h; cases h
  | n + 1, .ref _, _, h, _ => by unfold plnD at h; cases h
  | n + 1, .scr _, _, h, _ => by unfold plnD at h; cases h
  | n + 1, .fdc _ _, _, h, _ => by unfold plnD at h; cases h
  | n + 1, .ndc _ _, _, h, _ => by unfold plnD at h; cases h
  | n + 1, .fnc _ _, _, h, _ => by unfold plnD at h; cases h
theorem nks_rep : ∀ (n : Nat) (ds : List D) (vs : List V), ds.all (plnD n) = true → Reps K Γ w ds vs → NkAll K w.R (nksD ds) vs ∧ NestedKey.depthAll (nksD ds) ≤ n
  | n, [], vs, _, r => by
    obtain rfl : vs = [] := r
    unfold nksD; exact ⟨.nil, Nat.zero_le _⟩
  | n, d :: ds, vs, h, r => by
    obtain ⟨v, ws, rfl, r1, r2⟩ := reps_inv r
    rw [List.all_cons, Bool.and_eq_true] at h
    obtain ⟨a1, a2⟩ := nk_rep n d v h.1 r1
    obtain ⟨b1, b2⟩ := nks_rep n ds ws h.2 r2
    unfold nksD
    refine ⟨.cons a1 b1, ?_⟩
    simp only [NestedKey.depthAll]
    omega
end
mutual
theorem nkV_mono {H H' : Hp} (s : Same H H') : ∀ {k : NestedKey} {v : V}, NkV K H k v → NkV K H' k v
  | _, _, .non => .non
  | _, _, .bl b i e => .bl b i e
  | _, _, .int i => .int i
  | _, _, .str x => .str x
  | _, _, .tup h t => .tup (sqT_mono s h) (nkAll_mono s t)
theorem nkAll_mono {H H' : Hp} (s : Same H H') : ∀ {ks : List NestedKey} {vs : List V}, NkAll K H ks vs → NkAll K H' ks vs
  | _, _, .nil => .nil
  | _, _, .cons h t => .cons (nkV_mono s h) (nkAll_mono s t)
end
theorem key_rep {d : D} {v : V} (o : Ok K Γ w) (h : keyD d = true) (r : Rep K Γ w d v) : NkV K w.H (nkD d) v ∧ (nkD d).depth ≤ 8 ∧ ∃ b, v = .ref b := by
  cases d with
  | tup ds =>
    unfold keyD at h
    obtain ⟨h1, h2⟩ := nk_rep 8 (.tup ds) v h r
    refine ⟨nkV_mono o.same h1, h2, ?_⟩
    simp only [Rep, RepC] at r
    obtain ⟨a, _, rfl, _⟩ := r
    exact ⟨a, rfl⟩
  | _ => unfold keyD at h; cases h
/-- look-up -/
def lkN : List D → List D → NestedKey → Option D
  | k :: ks, d :: ds, q => if nkD k = q then some d else lkN ks ds q
  | _, _, _ => none
def putND (k d : D) (ks ds : List D) : List D × List D := if (lkN ks ds (nkD k)).isSome = true then (ks, (ks.zip ds).map fun p => if nkD p.1 = nkD k then d else p.2) else (ks ++ [k], ds ++ [d])
/-- what stands at a is the dict -/
structure NdAt (K : PySem.W.Frag) (Γ : Gm) (w : Wd) (ks ds : List D) (a : Addr) (L : NL) : Prop where
  ke : L.map (·.1) = nksD ks
  kr : Reps K Γ w ks (L.map fun p => .ref p.2.1)
  dr : Reps K Γ w ds (L.map (·.2.2))
  ok : ks.all keyD = true
theorem NdAt.ev {ks ds : List D} {a : Addr} {L : NL} (h : NdAt K Γ w ks ds a L) (e : Ev w w') : NdAt K Γ w' ks ds a L := ⟨h.ke, Reps.ev h.kr e, Reps.ev h.dr e, h.ok⟩
theorem nd_keys : ∀ {ks : List D} {L : NL}, Ok K Γ w → L.map (·.1) = nksD ks → Reps K Γ w ks (L.map fun p => .ref p.2.1) → ks.all keyD = true → NkKeys K w.H L
  | [], [], _, _, _, _ => fun p hp => absurd hp List.not_mem_nil
  | [], p :: L, _, e, _, _ => by unfold nksD at e; cases e
  | k :: ks, [], _, e, _, _ => by unfold nksD at e; cases e
  | k :: ks, p :: L, o, e, r, h => by
    unfold nksD at e
    rw [List.map_cons] at e
    obtain ⟨e1, e2⟩ := List.cons.inj e
    rw [List.map_cons] at r
    obtain ⟨v, ws, q, r1, r2⟩ := reps_inv r
    obtain ⟨q1, q2⟩ := List.cons.inj q
    rw [List.all_cons, Bool.and_eq_true] at h
    intro p' hp
    rcases List.mem_cons.mp hp with rfl | hp
    · rw [← q1] at r1
      obtain ⟨k1, k2, _⟩ := key_rep o h.1 r1
      rw [e1]
      exact ⟨k1, k2⟩
    · rw [← q2] at r2
      exact nd_keys o e2 r2 h.2 p' hp
theorem nd_lk : ∀ {ks ds : List D} {L : NL} {q : NestedKey}, L.map (·.1) = nksD ks → Reps K Γ w ds (L.map (·.2.2)) → ks.length = ds.length →
    (valN L q).isSome = (lkN ks ds q).isSome ∧ ∀ d, lkN ks ds q = some d → ∃ v, valN L q = some v ∧ Rep K Γ w d v
  | [], [], [], q, _, _, _ => ⟨rfl, fun d h => by cases h⟩
  | [], [], p :: L, q, e, _, _ => by unfold nksD at e; cases e
  | k :: ks, [], _, q, _, _, hl => by cases hl
  | [], d :: ds, _, q, _, _, hl => by cases hl
  | k :: ks, d :: ds, [], q, e, _, _ => by unfold nksD at e; cases e
  | k :: ks, d :: ds, p :: L, q, e, r, hl => by
    unfold nksD at e
    rw [List.map_cons] at e r
    obtain ⟨e1, e2⟩ := List.cons.inj e
    obtain ⟨v, ws, z, r1, r2⟩ := reps_inv r
    obtain ⟨z1, z2⟩ := List.cons.inj z
    subst z1 z2
    obtain ⟨i1, i2⟩ := nd_lk (q := q) e2 r2 (by simpa using hl)
    unfold valN lkN
    rw [← e1]
    by_cases c : p.1 = q
    · rw [List.find?_cons_of_pos (by rw [decide_eq_true c]), if_pos c]
      exact ⟨rfl, fun d' h => by cases h; exact ⟨_, rfl, r1⟩⟩
    · rw [List.find?_cons_of_neg (by rw [decide_eq_false c]; exact Bool.false_ne_true), if_neg c]
      exact ⟨i1, i2⟩
theorem nksD_len : ∀ ks : List D, (nksD ks).length = ks.length
  | [] => by unfold nksD; rfl
  | k :: ks => by unfold nksD; rw [List.length_cons, List.length_cons, nksD_len ks]
theorem NdAt.len {ks ds : List D} {a : Addr} {L : NL} (h : NdAt K Γ w ks ds a L) : L.length = ks.length ∧ ks.length = ds.length := by
  have h1 := congrArg List.length h.ke
  rw [List.length_map, nksD_len] at h1
  have h2 := reps_len h.dr
  rw [List.length_map] at h2
  exact ⟨h1, by omega⟩
/-- the dict that a thing is -/
def ndcOf (S : Sto) : D → Option (List D × List D)
  | .ndc ks ds => some (ks, ds)
  | .fnc ks ds => some (ks, ds)
  | .ref n => match S[n]? with
    | some (some (.ndc ks ds)) => some (ks, ds)
    | _ => none
  | _ => none
theorem ndcOf_ok {d : D} {v : V} {ks ds : List D} (o : Ok K Γ w) (r : Pk K Γ w d v) (h : ndcOf w.S d = some (ks, ds)) : ∃ a L, v = .ref a ∧ Rd w.H a (NdO Γ.wd a L) ∧ NdAt K Γ w ks ds a L := by
  cases d with
  | fnc ks' ds' =>
    cases h
    rcases r with r | ⟨_, a, rfl, oa⟩
    · simp only [Rep, RepC] at r
      obtain ⟨a, ob, L, rfl, h1, h2, h3, h4, h5⟩ := r
      exact ⟨a, L, rfl, .inr ⟨ob, o.same _ _ h1⟩, h2, h3, h4, h5⟩
    · exact False.elim oa.at_
  | ndc ks' ds' =>
    cases h
    rcases r with r | ⟨_, a, rfl, oa⟩
    · simp only [Rep, RepC] at r
      obtain ⟨a, L, rfl, h1, h2, h3, h4, h5⟩ := r
      exact ⟨a, L, rfl, .inl (o.same _ _ h1), h2, h3, h4, h5⟩
    · obtain ⟨L, h1, h2, h3, h4, h5⟩ := oa.at_
      exact ⟨a, L, rfl, .inl h1, h2, h3, h4, h5⟩
  | ref n =>
    unfold ndcOf at h
    dsimp only at h
    split at h
    · rename_i ks' ds' hm
      cases h
      rcases r with r | ⟨_, a, rfl, oa⟩
      · obtain ⟨a, rfl, _, L, h1, h2, h3, h4, h5⟩ := cel_at o hm r
        exact ⟨a, L, rfl, .inl h1, h2, h3, h4, h5⟩
      · exact False.elim oa.at_
    · cases h
  | _ => cases h
theorem nget {d k : D} {x y : V} {ks ds : List D} (o : Ok K Γ w) (rx : Pk K Γ w d x) (h : ndcOf w.S d = some (ks, ds)) (ry : Pk K Γ w k y) (hk : keyD k = true) :
    ∃ a L, x = .ref a ∧ Rd w.H a (NdO Γ.wd a L) ∧ NkKeys K w.H L ∧ NdAt K Γ w ks ds a L ∧ NGet Γ.wd K w.H a y (valN L (nkD k)) := by
  obtain ⟨a, L, rfl, h1, h2⟩ := ndcOf_ok o rx h
  have hkk := nd_keys o h2.ke h2.kr h2.ok
  have ry' : Rep K Γ w k y := by
    rcases ry with r | ⟨_, b, rfl, ob⟩
    · exact r
    · cases k with
      | tup ds => exact False.elim ob.at_
      | _ => unfold keyD at hk; cases hk
  obtain ⟨k1, k2, k3⟩ := key_rep o hk ry'
  exact ⟨a, L, rfl, h1, hkk, h2, L, nkD k, h1, hkk, k1, k2, k3, rfl⟩
def opIxN : D → D → Sto → Out D := fun d k S => match ndcOf S d with
  | some (ks, ds) => if keyD k = true then (match lkN ks ds (nkD k) with | some e => .ok e S | none => .bad) else .bad
  | none => .bad
theorem om_ixN {wd : World} (hw : Γ.wd = wd) : OpM K Γ (rIxN wd K) opIxN := ⟨fun w d k x y Q ex o hx hy p => by
  subst hw
  unfold opIxN at p
  split at p
  · rename_i ks ds h
    split at p
    · rename_i hk
      obtain ⟨a, L, rfl, h1, h2, h3, g⟩ := nget o hx h hy hk
      obtain ⟨l1, l2⟩ := h3.len
      split at p
      · rename_i e he
        obtain ⟨v, hv, rv⟩ := (nd_lk (q := nkD k) h3.ke h3.dr l2).2 e he
        rw [hv] at g
        exact ⟨a, v, rfl, g, Post.now p o v rv⟩
      · exact False.elim p
    · exact False.elim p
  · exact False.elim p⟩
variable {xa : XT} {W : WX} {te to ti tx : TE} {me mo mk mx : ME}
def mNDisp0 : ME := fun _ S => .ok (.ndc [] []) S
theorem sim_ndisp0 {wd : World} (hw : Γ.wd = wd) : SimF K Γ xa W (tDNewN wd) mNDisp0 := ⟨fun w0 w σ δ Q o e n p q hq => by
  subst hw
  have ev := ev_put (o := NdO Γ.wd q []) (Ev.refl w) hq
  exact p (wPut w q (NdO Γ.wd q [])) rfl (ok_put o (r_none o hq) (not_live o hq)) ev _ (own_back (Ev.refl w) (own_new o hq ⟨[], upd_same, by unfold nksD; rfl, reps_nil, reps_nil, rfl⟩))⟩
/-- d[k] = x -/
theorem putN_reps {k d : D} {b : Addr} {v : V} (hd : Rep K Γ w d v) : ∀ {ks ds : List D} {L : NL}, L.map (·.1) = nksD ks → Reps K Γ w ds (L.map (·.2.2)) → ks.length = ds.length →
    ((L.map (putN1 (nkD k) v)).map (·.1) = nksD ks ∧ (L.map (putN1 (nkD k) v)).map (fun p => V.ref p.2.1) = L.map (fun p => V.ref p.2.1) ∧ Reps K Γ w ((ks.zip ds).map fun p => if nkD p.1 = nkD k then d else p.2) ((L.map (putN1 (nkD k) v)).map (·.2.2)))
  | [], [], [], _, _, _ => ⟨rfl, rfl, reps_nil⟩
  | [], [], p :: L, e, _, _ => by unfold nksD at e; cases e
  | k :: ks, [], _, _, _, hl => by cases hl
  | [], d :: ds, _, _, _, hl => by cases hl
  | k :: ks, d :: ds, [], e, _, _ => by unfold nksD at e; cases e
  | k0 :: ks, d0 :: ds, p :: L, e, r, hl => by
    unfold nksD at e
    rw [List.map_cons] at e r
    obtain ⟨e1, e2⟩ := List.cons.inj e
    obtain ⟨v0, ws, z, r1, r2⟩ := reps_inv r
    obtain ⟨z1, z2⟩ := List.cons.inj z
    subst z1 z2
    obtain ⟨i1, i2, i3⟩ := putN_reps (k := k) (b := b) hd e2 r2 (by simpa using hl)
    have e1' : p.1 = nkD k0 := e1
    refine ⟨?_, ?_, ?_⟩
    · rw [List.map_cons, List.map_cons, i1, nksD]
      have : (putN1 (nkD k) v p).1 = nkD k0 := by unfold putN1; split <;> exact e1'
      rw [this]
    · rw [List.map_cons, List.map_cons, i2, List.map_cons]
      have : (putN1 (nkD k) v p).2.1 = p.2.1 := by unfold putN1; split <;> rfl
      rw [this]
    · rw [List.map_cons, List.map_cons, List.zip_cons_cons, List.map_cons]
      refine reps_cons ?_ i3
      unfold putN1
      dsimp only
      rw [← e1']
      by_cases c : p.1 = nkD k
      · rw [if_pos c, if_pos c]; exact hd
      · rw [if_neg c, if_neg c]; exact r1
theorem nksD_app : ∀ (xs ys : List D), nksD (xs ++ ys) = nksD xs ++ nksD ys
  | [], ys => by unfold nksD; rfl
  | x :: xs, ys => by rw [List.cons_append, nksD, nksD, nksD_app xs ys, List.cons_append]
theorem ndAt_put {ks ds : List D} {a b : Addr} {L : NL} {k d : D} {v : V} (h : NdAt K Γ w ks ds a L) (hk : keyD k = true) (rk : Rep K Γ w k (.ref b)) (rd : Rep K Γ w d v) :
    NdAt K Γ w (putND k d ks ds).1 (putND k d ks ds).2 a (putNL L (nkD k) b v) := by
  obtain ⟨l1, l2⟩ := h.len
  have hs := (nd_lk (q := nkD k) h.ke h.dr l2).1
  unfold putND putNL
  rw [hs]
  by_cases c : (lkN ks ds (nkD k)).isSome = true
  · rw [if_pos c, if_pos c]
    obtain ⟨i1, i2, i3⟩ := putN_reps (k := k) (b := b) rd h.ke h.dr l2
    exact ⟨i1, by rw [i2]; exact h.kr, i3, h.ok⟩
  · rw [if_neg c, if_neg c]
    refine ⟨?_, ?_, ?_, ?_⟩
    · rw [List.map_append, h.ke, nksD_app]; rfl
    · rw [List.map_append]; exact reps_app h.kr (reps_cons rk reps_nil)
    · rw [List.map_append]; exact reps_app h.dr (reps_cons rd reps_nil)
    · show (ks ++ [k]).all keyD = true
      rw [List.all_append, h.ok, List.all_cons, hk]; rfl
def mSetN (me mo mk : ME) : MS := fun δ S => bndS (me δ S) δ fun d S => bndS (mo δ S) δ fun x S => bndS (mk δ S) δ fun k S => match x with
  | .ref m => match S[m]? with
    | some (some (.ndc ks ds)) => if keyD k = true ∧ ks.length < 16777216 then .ok (.nx δ) (S.set m (some (.ndc (putND k d ks ds).1 (putND k d ks ds).2))) else .bad
    | _ => .bad
  | _ => .bad
theorem sim_setN {wd : World} (hw : Γ.wd = wd) (h : SimE K Γ xa W te me) (ho : SimE K Γ xa W to mo) (g : SimE K Γ xa W ti mk) : SimS K Γ xa W (sNPut wd K to ti te) (mSetN me mo mk) := ⟨fun w0 w σ δ Dn o e n p => by
  subst hw
  refine h.run w0 w σ δ _ o e n (p.then e n fun d w1 o1 e1 p1 v r1 => ?_)
  refine ho.run w0 w1 σ δ _ o1 (e.trans e1) (n.ev e1) (p1.then (e.trans e1) (n.ev e1) fun x w2 o2 e2 p2 u r2 => ?_)
  have e12 := e1.trans e2
  refine g.run w0 w2 σ δ _ o2 (e.trans e12) (n.ev e12) (p2.then (e.trans e12) (n.ev e12) fun k w3 o3 e3 p3 z r3 => ?_)
  have e13 := e12.trans e3
  split at p3
  · rename_i m
    split at p3
    · rename_i ks ds hm
      split at p3
      · rename_i hl
        obtain ⟨a, rfl, ha, L, h1, h2, h3, h4, h5⟩ := cel_at o3 hm (Rep.ev r2 e3)
        have r1' : Rep K Γ w3 d v := Rep.ev r1 (e2.trans e3)
        obtain ⟨k1, k2, b, rfl⟩ := key_rep o3 hl.1 r3
        have hN : NdAt K Γ w3 ks ds a L := ⟨h2, h3, h4, h5⟩
        obtain ⟨l1, l2⟩ := hN.len
        refine ⟨a, _, rfl, ⟨L, nkD k, b, h1, nd_keys o3 h2 h3 h5, rfl, k1, k2, by rw [l1]; exact Nat.lt_of_lt_of_le hl.2 (by rw [sizeLine_eq]; exact Nat.le_refl _), rfl⟩, ?_⟩
        obtain ⟨q1, q2, q3, q4⟩ := ndAt_put hN hl.1 r3 r1'
        have at' : At K Γ (wCel w3 m a (NdO Γ.wd a (putNL L (nkD k) b v)) (some (.ndc (putND k d ks ds).1 (putND k d ks ds).2))) (.ndc (putND k d ks ds).1 (putND k d ks ds).2) a := ⟨putNL L (nkD k) b v, upd_same, q1, q2, q3, q4⟩
        have ev := ev_cel (o := NdO Γ.wd a (putNL L (nkD k) b v)) (d := some (.ndc (putND k d ks ds).1 (putND k d ks ds).2)) o3 hm ha
        exact p3 _ σ rfl (ok_cel o3 hm ha at') ((e.trans e13).trans ev) ev.gr ((n.ev e13).ev ev)
      · exact False.elim p3
    · exact False.elim p3
  · exact False.elim p3⟩
def mNGet2 (md mk me : ME) : ME := fun δ S => bnd (md δ S) fun d S => if (ndcOf S d).isSome = true then bnd (mk δ S) fun k S => bnd (me δ S) fun x S => match ndcOf S d with
    | some (ks, ds) => if keyD k = true then .ok ((lkN ks ds (nkD k)).getD x) S else .bad
    | none => .bad
  else .bad
theorem sim_nget2 {wd : World} (hw : Γ.wd = wd) (hd : SimE K Γ xa W to mo) (hk : SimE K Γ xa W ti mk) (hx : SimE K Γ xa W te me) : SimE K Γ xa W (tNGet2 wd K to ti te) (mNGet2 mo mk me) := ⟨fun w0 w σ δ Q o e nn p => by
  subst hw
  exact hd.run w0 w σ δ _ o e nn (p.then fun d w1 o1 e1 p1 v r1 => by
    split at p1
    · rename_i hs
      cases hz : ndcOf w1.S d with
      | none => rw [hz] at hs; cases hs
      | some q =>
      obtain ⟨ks0, ds0⟩ := q
      obtain ⟨a, L0, rfl, h1, h2⟩ := ndcOf_ok o1 (.inl r1) hz
      refine ⟨a, L0, rfl, h1, nd_keys o1 h2.ke h2.kr h2.ok, ?_⟩
      refine hk.run w0 w1 σ δ _ o1 (e.trans e1) (nn.ev e1) (p1.then fun k w2 o2 e2 p2 u r2 => ?_)
      refine hx.run w0 w2 σ δ _ o2 ((e.trans e1).trans e2) ((nn.ev e1).ev e2) (p2.then fun x w3 o3 e3 p3 z r3 => ?_)
      split at p3
      · rename_i ks ds h
        split at p3
        · rename_i hkd
          obtain ⟨b, L, eb, g1, g2, g3, g⟩ := nget o3 (.inl (Rep.ev (Rep.ev r1 e2) e3)) h (.inl (Rep.ev r2 e3)) hkd
          cases eb
          refine ⟨_, g, ?_⟩
          obtain ⟨l1, l2⟩ := g3.len
          obtain ⟨n1, n2⟩ := nd_lk (q := nkD k) g3.ke g3.dr l2
          refine Post.now p3 o3 _ ?_
          cases c : lkN ks ds (nkD k) with
          | none =>
            rw [c] at n1
            cases c2 : valN L (nkD k) with
            | none => exact r3
            | some y => rw [c2] at n1; cases n1
          | some y =>
            obtain ⟨v', hv, rv⟩ := n2 y c
            rw [hv]
            exact rv
        · exact False.elim p3
      · exact False.elim p3
    · exact False.elim p1)⟩
end
end MR

namespace TP
open PySem PySem.Spec PyProof.Rows L2
section
variable {X : Cx}
end
end TP

namespace TP
open PySem PySem.Spec PyProof.Rows L2
theorem paired_get {α β : Type} {R : α → β → Prop} : ∀ {xs : List α} {ys : List β} {i : Nat} {x : α}, Paired R xs ys → xs[i]? = some x → ∃ y, ys[i]? = some y ∧ R x y
  | _, _, i, x, .nil, e => by simp at e
  | _, _, 0, x, .cons r _, e => by simp at e; subst e; exact ⟨_, rfl, r⟩
  | _, _, i + 1, x, .cons _ t, e => by
    obtain ⟨y, h1, h2⟩ := paired_get (i := i) t (by simpa using e)
    exact ⟨y, by simpa using h1, h2⟩
section
variable {X : Cx} {o : Expr} {p pos apos mpos : Pos} {td : TE}
end
end TP
namespace MR
open PySem PySem.Spec PyProof.Rows L2 TP
section
variable {K : PySem.W.Frag} {Γ : Gm} {xa : XT} {W : WX} {w w' w0 : Wd} {te to : TE} {me mo : ME}
end
end MR

namespace TP
open PySem PySem.Spec PyProof.Rows L2
/-- the def as it stands: what it binds -/
structure FkI (K : PySem.W.Frag) (mg : Str → Option Value) (x : Str) (st : Stmt) (n : Nat) (ks : List Str) (src : List Src) (dvs : List V) (ps : List Str) : Prop where
  ex : ∃ (f : Addr) (oc : Value) (od an : Option Addr) (osl : Array (Option Value)) (dV kV doc pm cdv ct : Value) (its : List Value), mg x = some (.ref f) ∧ PySem.W.keepIn K (.ref f) = true ∧
    K.lookup f = some ⟨oc, od, .func (PySem.W.fnOf x x (defArgs st) (defBody st) (defScope st) dV kV doc pm an cdv ct), osl⟩ ∧ PySem.W.codeIn K cdv x = true ∧ Vals dvs its ∧
    ∀ (M : Model) (A : Around) (E : Value → Shared → Prop) (Q : List (Str × Value) → Shared → Prop) (s : Shared) (us ws : List Value), K.In s.heap → us.length = n → ws.length = ks.length → Q (ps.zip (arr src us ws its)) s →
      wpAny M A (bindArgs (PySem.W.fnOf x x (defArgs st) (defBody st) (defScope st) dV kV doc pm an cdv ct) ⟨us, ks.zip ws⟩) Q E s
structure FkZ (P : Program) (w : World) (K : PySem.W.Frag) (mg : Str → Option Value) (base : Heap) (k : Nat) (x : Str) (n : Nat) (ks : List Str) (src : List Src) (dvs : List V) (sp : Sp) : Prop where
  ex : ∃ f : Addr, mg x = some (.ref f) ∧ PySem.W.keepIn K (.ref f) = true ∧ ∀ (A : Around) (outer : List Env) (s : Shared) (H : Hp) (us ws : List Value) (vs zs : List V) (Q : VK) (E : XK), Room k A → Env0 P w K mg base A outer s H → Vals vs us → Vals zs ws → vs.length = n → zs.length = ks.length →
    sp (arr src vs zs dvs) H Q E → codeAny (model P w) A (.call (.ref f) ⟨us, ks.zip ws⟩) (CR (L2.CX P w) outer P w H s Q E) s
theorem FkI.okZ {P : Program} {w : World} {K : PySem.W.Frag} {mg : Str → Option Value} {base : Heap} {x : Str} {st : Stmt} {n : Nat} {ks ps : List Str} {src : List Src} {dvs : List V} {N : List Str} {k : Nat} {sp : Sp} (F : FkI K mg x st n ks src dvs ps) (S : FnScope N ps (defScope st))
    (hlen : ∀ vs zs : List V, vs.length = n → zs.length = ks.length → (arr src vs zs dvs).length = ps.length) {t : XK → TS}
    (hd : ∀ (f : Addr) (cdv : Value) (A : Around) (outer : List Env) (s : Shared) (H : Hp) (E : XK), Room k (A.deeper (envOfC x (defScope st) s.heap.objs.size f cdv)) → PSs (cxOf (L2.CX P w) P w K mg base N x (defScope st) f cdv A outer s H E) (defBody st) (t E))
    (hb : ∀ (H : Hp) (vs : List V) (Q : VK) (E : XK), sp vs H Q E → t E { nx := fun _ H' => Q .non H', rt := Q } (L2.start N vs) H) : FkZ P w K mg base (k + 1) x n ks src dvs sp := by
  obtain ⟨f, oc, od, an, osl, dV, kV, doc, pm, cdv, ct, its, hm, kp, lk, hcd, hv, hbd⟩ := F.ex
  refine ⟨f, hm, kp, ?_⟩
  rintro A outer s H us ws vs zs Q E hr e0 r rz l1 l2 hq
  have lk2 := hlen vs zs l1 l2
  have rk : Vals (arr src vs zs dvs) (arr src us ws its) := arr_vals r rz hv
  have KX : K.In s.heap := e0.mod.kin.keeps fun b o e => (e0.bs b o e).1
  refine StX.run_bnd lk hcd S hr.toRoom e0 (G := fun xs H2 => xs = arr src vs zs dvs ∧ H2 = H) (fun A' Ex Q' h => ?_) ?_
  · have z := h s H (arr src vs zs dvs) (arr src us ws its) e0 .refl rfl (fun e s' q => q) rk lk2 ⟨rfl, rfl⟩
    exact hbd _ _ _ _ _ us ws KX (by rw [← r.length]; exact l1) (by rw [← rz.length]; exact l2) z
  · rintro s2 H2 xs ⟨rfl, rfl⟩ hr'
    exact ⟨t E, hd f cdv A outer s2 _ E ⟨hr', hr.gd⟩, hb _ _ Q E hq⟩
section
variable {X : Cx} {k j n : Nat} {sp : Sp} {W : WX} {x : Str} {p pos : Pos} {e : Expr} {es : List Expr} {kws : List Keyword} {t tkw : TA} {ks : List Str} {src : List Src} {dvs : List V}
end
end TP
namespace MR
open PySem PySem.Spec PyProof.Rows L2 TP
section
variable {K : PySem.W.Frag} {Γ : Gm} {xa : XT} {W : WX} {w w' w0 : Wd} {ta tb : TA} {ma mb : MA} {n k j : Nat} {m : MF}
end
end MR

namespace TP
open PySem PySem.Spec L2
section
variable {M : Model} {A : Around} {E : Value → Shared → Prop} {s : Shared}
end
end TP

namespace TP
open PySem PySem.Spec PyProof.Rows L2
end TP
namespace MR
open PySem PySem.Spec PyProof.Rows L2 TP
section
variable {K : PySem.W.Frag} {Γ : Gm} {xa : XT} {W : WX} {w w' w0 : Wd} {te : TE} {me : ME}
end
end MR

namespace TP
open PySem PySem.Spec PyProof.Rows L2
open Sem (wp)
/-- a thing is locked for good ahead of a statement -/
def tFzB (_i : Nat) (t : TS) : TS := fun D σ H => ∃ d u, H d = some u ∧ Mut (some u) ∧ ∀ od, t D σ (upd H d (.frz od u))
theorem ps_fzB {X : Cx} {st : Stmt} {t : TS} {i : Nat} (h : PS X st t) : PS X st (tFzB i t) := ⟨fun pins s σ H D I hw => by
  obtain ⟨d, u, hd, mu, hw⟩ := hw
  obtain ⟨od, I1⟩ := I.lock hd mu
  exact h.run pins s σ _ D I1 (hw od)⟩
/-- the keys of a locked dict with nested keys -/
def Itn (w : World) (d : Addr) (o : Obj) (L : NL) : It := ⟨fun i H => H d = some (.frz o (NdO w d L)) ∧ i < L.length, fun i H x H' => H' = H ∧ ∃ p, L[i]? = some p ∧ x = .ref p.2.1, fun i H => H d = some (.frz o (NdO w d L)) ∧ L.length ≤ i⟩
theorem frzN {X : Cx} {pins : List (Addr × Obj)} {σ : L2.St} {H : Hp} {s : Shared} {d : Addr} {o : Obj} {L : NL} (I : Inv X pins σ H s) (h : H d = some (.frz o (NdO X.w d L))) :
    (d == sysModules) = false ∧ s.heap.get? d = some o ∧ o.ExactDict ∧ ∃ (es : Array DictEntry) (ep : Nat), o.data = .dict es ep ∧ es.size = L.length ∧
      ∀ (i : Nat) (p : NestedKey × Addr × V), L[i]? = some p → ∃ en, es[i]? = some en ∧ en.key = .ref p.2.1 := by
  have hok : ObjOk X.prog X.w H s.heap d (.frz o (NdO X.w d L)) := I.hok d _ h
  obtain ⟨hd, ⟨z, y, xs, r, o', es, ep, h1, h2, h3, h4, h5⟩, _⟩ := hok
  rw [hd] at h1
  cases h1
  have l1 : es.size = xs.length := by
    have := congrArg List.length h4
    rw [List.length_map, Array.length_toList] at this
    exact this
  have l2 : L.length = xs.length := Paired.length r
  refine ⟨y, hd, h2, es, ep, h3, by omega, fun i p e => ?_⟩
  obtain ⟨q, g1, g2, g3, g4⟩ := paired_get r e
  refine ⟨entN X.w q, ?_, ?_⟩
  · rw [← Array.getElem?_toList, h4, List.getElem?_map, g1]; rfl
  · show Value.ref q.2.1 = _
    rw [g3]
theorem turn_keysN {P : Program} {w : World} {K : PySem.W.Frag} {tg : Expr} {d : Addr} {o : Obj} {es : Array DictEntry} {ep : Nat} {L : NL} (it : Addr) (hod : o.data = .dict es ep) : Turn P w K tg (Itn w d o L) [it] it (fun i h => h.IsKeyIter it d i L.length ep) where
  mem := by simp
  obj := fun i h st b hb => by
    have e : b = it := by simpa using hb
    subst e
    obtain ⟨oi, e, c, dd⟩ := st
    exact ⟨oi, e, fun v z => by rw [dd] at z; cases z⟩
  keep := fun i h h' st k => st.at fun oi e => k it (by simp) oi e
  item := by
    intro X hP hw hK hc i pins s σ H E I hf st hg
    subst hP hw hK
    obtain ⟨hd, hi⟩ := hg
    obtain ⟨f0, f1, f2, f3, f4, f5⟩ := hf it (by simp)
    obtain ⟨hs, hgd, hx, es', ep', hdt, hsz, ent⟩ := frzN I hd
    obtain ⟨rfl, rfl⟩ := dict_ep hod hdt
    obtain ⟨en, hen, hkey⟩ := ent i _ (List.getElem?_eq_getElem hi)
    refine next_key_item st hgd hdt hsz hen fun h' st' sb => ?_
    have I1 : Inv X pins σ H { s with heap := h' } := I.turned (t' := s.toks) (fun b ob hb e => (sb.2 b hb).trans e) f0 f1 f3 f4 f5
    obtain ⟨oi, e, c, dd⟩ := id st'
    exact ⟨en.key, rfl, go_of (s := { s with heap := h' }) e c dd (by decide) ⟨.ref L[i].2.1, H, I1, hkey, ⟨rfl, L[i], List.getElem?_eq_getElem hi, rfl⟩, st', fun b hb => (hf b hb).1⟩⟩
  done := by
    intro X hP hw hK hc i pins s σ H E I hf st hg
    subst hP hw hK
    obtain ⟨hd, hi⟩ := hg
    obtain ⟨f0, f1, f2, f3, f4, f5⟩ := hf it (by simp)
    obtain ⟨hs, hgd, hx, es', ep', hdt, hsz, ent⟩ := frzN I hd
    obtain ⟨rfl, rfl⟩ := dict_ep hod hdt
    exact next_key_end (I.ok.hd hc) st hgd hdt hsz hi fun h' eb => ⟨rfl, I.turned (t' := s.toks) (fun b ob hb e => eb b ob hb e) f0 f1 f3 f4 f5⟩
  self := fun A i s Q E st h => by
    refine wpAny_pyIter_slot st.typeIs F.slot_dict_keyiterator_iter (wpAny_call_entry F.slot_dict_keyiterator_iter st.typeIs F.entry_dict_keyiterator_iter ?_ (F.args_dict_keyiterator_iter_1 _))
    show wpAny _ _ (ret (.ref it)) _ _ s
    exact wpAny_pure ⟨_, rfl, "dict_keyiterator", _, st.typeIs, F.slot_dict_keyiterator_next.lookup, h⟩
def iKeysN (w : World) (td : TE) : TI := fun σ H R => td σ H fun x H1 => ∃ d o L, x = .ref d ∧ H1 d = some (.frz o (NdO w d L)) ∧ R (Itn w d o L) H1
theorem pi_keysN {X : Cx} {tg e : Expr} {td : TE} (he : PE X e td) : PI X tg e (iKeysN X.w td) := by
  refine ⟨fun pins s σ H R I h => ?_⟩
  refine thn (he.run pins s σ H _ I h) fun u s1 ⟨x, H1, I1, rx, d, o, L, ex, hd, q⟩ => ?_
  subst ex
  obtain rfl : u = Value.ref d := rx
  obtain ⟨hs, hgd, hx, es, ep, hdt, hsz, ent⟩ := frzN I1 hd
  refine iter_keys hs hgd hx hdt (pi_one (tk := s1.toks) I1 _ (turn_keysN _ hdt) ⟨_, Heap.get?_push_size _ rfl, rfl, ?_⟩ q)
  rw [hsz] <;> rfl
theorem wpAny_truthy_dictH {prog : Program} {w : World} {K : Type} [DecidableEq K] {knd : HeapKind prog w K} {A : Around} {E : Value → Shared → Prop} {s : Shared} {d : Addr} {xs : List (K × Addr × Value)} {Q : Bool → Shared → Prop} (hd : (d == sysModules) = false) (hm : s.heap.DictOfH knd d xs) (hfit : (xs.length : Int) < 2 ^ 63)
    (h : Q (!xs.isEmpty) { s with toks := s.toks + 1 + 1 }) : wpAny (model prog w) A (truthy (.ref d)) Q E s := by
  have hne : ((xs.length : Int) != 0) = !xs.isEmpty := by cases xs <;> simp <;> omega
  have key : wpAny (model prog w) A (runValue (.builtin "len" ⟨[.ref d], []⟩)) (fun r s' => r = .int xs.length (s.toks + 1) ∧ Q (!xs.isEmpty) s') E s := by
    refine wpAny_runValue (codeAny_builtin entry_len ?_)
    rw [Around.under_plainId plain_len _]
    exact wpAny_mono (wpAny_len_body_dictH (Q := fun r s' => r = .int xs.length (s.toks + 1) ∧ Q (!xs.isEmpty) s') hd hm hfit ⟨rfl, h⟩)
      (fun fin s' h' => by obtain ⟨r, rfl, hq⟩ := h'; exact hq) fun _ _ e => e
  unfold truthy
  first
    | refine wpAny_bind (wpAny_callSpecial?_none (name := Str.ofString "__bool__") hm.typeIs noBool_dict ?_)
    | refine wpAny_bind (wpAny_pure (wpAny_bind (wpAny_callSpecial?_none (name := Str.ofString "__bool__") hm.typeIs noBool_dict ?_)))
  first
    | refine wpAny_bind (wpAny_specialOf (name := Str.ofString "__len__") hm.typeIs F.slot_dict_len.lookup ?_)
    | refine wpAny_bind (wpAny_pure (wpAny_bind (wpAny_specialOf (name := Str.ofString "__len__") hm.typeIs F.slot_dict_len.lookup ?_)))
  first
    | exact wpAny_bind (wpAny_mono key (fun r s' h' => by obtain ⟨rfl, hq⟩ := h'; exact wpAny_pure (hne ▸ hq)) fun _ _ e => e)
    | exact wpAny_bind (wpAny_pure (wpAny_bind (wpAny_mono key (fun r s' h' => by obtain ⟨rfl, hq⟩ := h'; exact wpAny_pure (hne ▸ hq)) fun _ _ e => e)))
def rTruN (w : World) (K : PySem.W.Frag) : V → Hp → (Bool → Hp → Prop) → Prop := fun x H Q => ∃ a L, x = .ref a ∧ Rd H a (NdO w a L) ∧ NkKeys K H L ∧ Q (!L.isEmpty) H
def tTruN (w : World) (K : PySem.W.Frag) (te : TE) : TT := fun σ H Q => te σ H fun x H' => rTruN w K x H' Q
theorem tru_N {X : Cx} : TruR X (rTruN X.w X.K) := by
  intro pins s σ H x v Q I rx h
  obtain ⟨a, L, rfl, ha, hk, q⟩ := h
  obtain rfl : v = Value.ref a := rx
  obtain ⟨z, hd, xs, rel, dd⟩ := nd_rd I.hok I.kIn ha hk
  have hl : L.length = xs.length := Paired.length rel
  refine wpAny_truthy_dictH hd dd (by rw [← hl]; rw [sizeLine_eq] at z; omega) ?_
  have e : (!xs.isEmpty) = !L.isEmpty := by cases xs <;> cases L <;> first | rfl | cases hl
  rw [e]
  exact ⟨H, I.tok _, q⟩
theorem pt_truN {X : Cx} {a : Expr} {ta : TE} (ha : PE X a ta) (he : ∀ whole, isTrue a X.env whole = (do let v ← whole; standAt a.pos; holding [v] (truthy v))) : PT X a (tTruN X.w X.K ta) := by
  refine ⟨fun pins s σ H Q I h => ?_⟩
  exact isTrue_plain (thn (ha.run pins s σ H _ I h) fun v s1 ⟨x, H1, I1, r1, q1⟩ => tru_N pins s1 σ H1 x v Q I1 r1 q1) (he _)
end TP

namespace MR
open PySem PySem.Spec PyProof.Rows L2 TP
section
variable {K : PySem.W.Frag} {Γ : Gm} {xa : XT} {W : WX} {w w' w0 : Wd} {te to ti : TE} {me mo mk : ME} {ts : TS} {ms : MS}
def wLck (w : Wd) (n : Nat) (a : Addr) (o : HO) : Wd := { w with R := upd w.R a o, H := upd w.H a o, S := w.S.set n none }
theorem lck_get {S : Sto} {n m : Nat} {e : D} (q : (S.set n none)[m]? = some (some e)) : m ≠ n ∧ S[m]? = some (some e) := by
  rw [List.getElem?_set] at q
  by_cases z : n = m
  · rw [if_pos z] at q; split at q <;> cases q
  · rw [if_neg z] at q; exact ⟨fun y => z y.symm, q⟩
theorem same_lck {n : Nat} {a : Addr} {o : HO} {d0 : D} (h : Ok K Γ w) (hn : w.S[n]? = some (some d0)) (ha : w.ρ[n]? = some a) : Same w.R (wLck w n a o).R := fun b u e => by
  show upd w.R a o b = _
  rw [upd_ne (fun z => by rw [z, live_r h ⟨n, d0, hn, ha⟩] at e; cases e)]; exact e
theorem ok_lck {n : Nat} {a : Addr} {o : HO} {d0 : D} (h : Ok K Γ w) (hn : w.S[n]? = some (some d0)) (ha : w.ρ[n]? = some a) : Ok K Γ (wLck w n a o) := by
  refine ⟨fun b u e => ?_, by show (w.S.set n _).length = _; rw [List.length_set]; exact h.len, fun m e q => ?_, fun m k e f b q1 q2 q3 q4 => ?_⟩
  · have e' : upd w.R a o b = some u := e
    show upd w.H a o b = some u
    by_cases z : b = a
    · subst z; rw [upd_same] at e' ⊢; exact e'
    · rw [upd_ne z] at e' ⊢; exact h.same _ _ e'
  · obtain ⟨ne, q⟩ := lck_get q
    obtain ⟨b, h1, h2, h3⟩ := h.cell m e q
    have nb : b ≠ a := fun z => ne (h.inj m n e d0 a q hn (z ▸ h1) ha)
    exact ⟨b, h1, by show upd w.R a o b = _; rw [upd_ne nb]; exact h2, at_mv (w' := wLck w n a o) h3 (fun u hu => by show upd w.H a o b = _; rw [upd_ne nb]; exact hu) (same_lck h hn ha) List.prefix_rfl⟩
  · exact h.inj m k e f b (lck_get q1).2 (lck_get q2).2 q3 q4
theorem ev_lck {n : Nat} {a : Addr} {o : HO} {d0 : D} (h : Ok K Γ w) (hn : w.S[n]? = some (some d0)) (ha : w.ρ[n]? = some a) : Ev w (wLck w n a o) where
  rr := same_lck h hn ha
  pre := List.prefix_rfl
  keep := fun b u e nl => by
    show upd w.H a o b = _
    have ne : b ≠ a := fun z => nl (z.symm ▸ ⟨n, d0, hn, ha⟩)
    rw [upd_ne ne]; exact e
  dom := fun b e => by
    have e' : upd w.H a o b = none := e
    by_cases z : b = a
    · subst z; rw [upd_same] at e'; cases e'
    · rw [upd_ne z] at e'; exact e'
  newR := fun b r e => by
    by_cases z : b = a
    · subst z; exact .inr ⟨n, d0, hn, ha⟩
    · exact absurd (show upd w.R a o b = none by rw [upd_ne z]; exact e) r
  newL := fun b l => by
    obtain ⟨m, e, h1, h2⟩ := l
    exact .inl ⟨m, e, (lck_get h1).2, h2⟩
def lockD : D → Option D
  | .ndc ks ds => some (.fnc ks ds)
  | .dic ks ds => if ks.length ≤ 16777216 then some (.fdc ks ds) else none
  | _ => none
/-- the dict of name i never changes from here on -/
def mFzB (i : Nat) (ms : MS) : MS := fun δ S => match δ[i]? with
  | some (.val (.ref m)) => match S[m]? with
    | some (some d) => match lockD d with
      | some e => ms (δ.set i (.val e)) (S.set m none)
      | none => .bad
    | _ => .bad
  | _ => .bad
theorem lock_rep {d e : D} {a : Addr} {n : Nat} (o : Ok K Γ w) (hn : w.S[n]? = some (some d)) (ha : w.ρ[n]? = some a) (h : lockD d = some e) (g : At K Γ w d a) : ∃ u, w.H a = some u ∧ Mut (some u) ∧ ∀ od, Rep K Γ (wLck w n a (.frz od u)) e (.ref a) := by
  have sm : ∀ od u, Same w.R (wLck w n a (.frz od u)).R := fun od u => same_lck o hn ha
  unfold lockD at h
  split at h
  · cases h
    obtain ⟨L, h1, h2, h3, h4, h5⟩ := g
    refine ⟨_, h1, NdO_inj (w := Γ.wd) (a := a) (L := L) rfl, fun od => ?_⟩
    simp only [Rep, RepC]
    exact ⟨a, od, L, rfl, upd_same, h2, repsC_mono (sm _ _) List.prefix_rfl _ _ h3, repsC_mono (sm _ _) List.prefix_rfl _ _ h4, h5⟩
  · split at h
    · rename_i hl
      cases h
      obtain ⟨vs, h1, h2, h3⟩ := g
      refine ⟨_, h1, trivial, fun od => ?_⟩
      simp only [Rep, RepC]
      exact ⟨a, od, vs, rfl, upd_same, h2, by rw [sizeLine_eq]; exact hl, repsC_mono (sm _ _) List.prefix_rfl _ _ h3⟩
    · cases h
  · cases h
theorem sim_fzB {i : Nat} (h : SimS K Γ xa W ts ms) : SimS K Γ xa W (tFzB i ts) (mFzB i ms) := ⟨fun w0 w σ δ Dn o e n p => by
  unfold mFzB at p
  split at p
  · rename_i m hi
    split at p
    · rename_i d hm
      split at p
      · rename_i e' he
        have hlt : i < σ.length := by rw [← n.len]; exact (List.getElem?_eq_some_iff.mp hi).1
        obtain ⟨v, hv, rv⟩ := n.ok i _ _ (List.getElem?_eq_getElem hlt) hi
        obtain ⟨a, rfl, ha, g⟩ := cel_at o hm rv
        obtain ⟨u, hu, mu, hr⟩ := lock_rep o hm ha he g
        refine ⟨a, u, hu, mu, fun od => ?_⟩
        have ev := ev_lck (o := .frz od u) o hm ha
        have n2 : EnvOk K Γ xa w0 (wLck w m a (.frz od u)) (σ.set i (some (.ref a))) (δ.set i (.val e')) := (n.ev ev).set (hr od)
        have es : σ.set i (some (.ref a)) = σ := by
          have q := List.set_getElem_self hlt
          rw [hv] at q
          exact q
        rw [es] at n2
        exact h.run w0 (wLck w m a (.frz od u)) σ _ Dn (ok_lck o hm ha) (e.trans ev) n2 (PostS.gr p ev.gr)
      · exact False.elim p
    · exact False.elim p
  · exact False.elim p⟩
/-- the list of name i never changes from here on (nothing is done) -/
def mFixC (i : Nat) (ms : MS) : MS := fun δ S => match δ[i]? with
  | some (.val (.ref m)) => match S[m]? with
    | some (some (.lst ds)) => ms (δ.set i (.val (.lst ds))) (S.set m none)
    | _ => .bad
  | _ => .bad
theorem sim_fixC {i : Nat} (h : SimS K Γ xa W ts ms) : SimS K Γ xa W ts (mFixC i ms) := ⟨fun w0 w σ δ Dn o e n p => by
  unfold mFixC at p
  split at p
  · rename_i m hi
    split at p
    · rename_i ds hm
      have hlt : i < σ.length := by rw [← n.len]; exact (List.getElem?_eq_some_iff.mp hi).1
      obtain ⟨v, hv, rv⟩ := n.ok i _ _ (List.getElem?_eq_getElem hlt) hi
      obtain ⟨a, rfl, ha, vs, h1, h2, h3⟩ := cel_at o hm rv
      have ev := ev_lck (o := .lst vs) o hm ha
      have hr : Rep K Γ (wLck w m a (.lst vs)) (.lst ds) (.ref a) := by
        simp only [Rep, RepC]
        exact ⟨a, vs, rfl, upd_same, h2, repsC_mono (same_lck o hm ha) List.prefix_rfl _ _ h3⟩
      have n2 : EnvOk K Γ xa w0 (wLck w m a (.lst vs)) (σ.set i (some (.ref a))) (δ.set i (.val (.lst ds))) := (n.ev ev).set hr
      have es : σ.set i (some (.ref a)) = σ := by
        have q := List.set_getElem_self hlt
        rw [hv] at q
        exact q
      rw [es] at n2
      have hH : upd w.H a (.lst vs) = w.H := funext fun b => by
        by_cases z : b = a
        · subst z; rw [upd_same]; exact h1.symm
        · rw [upd_ne z]
      have := h.run w0 (wLck w m a (.lst vs)) σ _ Dn (ok_lck o hm ha) (e.trans ev) n2 (PostS.gr p ev.gr)
      have e3 : (wLck w m a (.lst vs)).H = w.H := hH
      rw [e3] at this
      exact this
    · exact False.elim p
  · exact False.elim p⟩
def mIKeysN (me : ME) : MA := fun δ S => bnd (me δ S) fun d S => match d with
  | .fnc ks _ => if ks.length ≤ 16777216 then .ok ks S else .bad
  | _ => .bad
theorem sim_ikeysN {wd : World} (hw : Γ.wd = wd) (h : SimE K Γ xa W te me) : SimI K Γ xa Gr W (iKeysN wd te) (mIKeysN me) := ⟨fun w0 w σ δ R o e n p => by
  subst hw
  exact h.run w0 w σ δ _ o e n (p.then fun d w1 o1 e1 p1 v r1 => by
    split at p1
    · rename_i ks ds
      split at p1
      · rename_i hz
        simp only [Rep, RepC] at r1
        obtain ⟨a, u, L, rfl, h1, h2, h3, h4, h5⟩ := r1
        have hl : L.length = ks.length := by have := reps_len h3; rw [List.length_map] at this; omega
        refine ⟨a, u, L, rfl, o1.same _ _ h1, Post.now p1 o1 _ ⟨by rw [sizeLine_eq]; exact hz, fun w2 i o2 g2 hi => ?_, fun w2 i x H' o2 g2 hi y => ?_, fun w2 o2 g2 => ?_⟩⟩
        · exact ⟨o2.same _ _ (g2.rr _ _ h1), by omega⟩
        · obtain ⟨rfl, p, hp, rfl⟩ := y
          obtain ⟨d', hd', hr⟩ := reps_get' (Reps.gr h3 g2) (i := i) (v := .ref p.2.1) (by rw [List.getElem?_map, hp]; rfl)
          exact ⟨w2, d', rfl, rfl, o2, Ev.refl w2, hd', hr⟩
        · exact ⟨o2.same _ _ (g2.rr _ _ h1), by omega⟩
      · exact False.elim p1
    · exact False.elim p1)⟩
def mTruN (me : ME) : MT := fun δ S => bnd (me δ S) fun d S => match ndcOf S d with
  | some (ks, _) => .ok (!ks.isEmpty) S
  | none => .bad
theorem sim_truN {wd : World} (hw : Γ.wd = wd) (h : SimE K Γ xa W te me) : SimT K Γ xa W (tTruN wd K te) (mTruN me) := ⟨fun w0 w σ δ Q o e n p => by
  subst hw
  exact h.run w0 w σ δ _ o e n (p.then fun d w1 o1 e1 p1 v r1 => by
    split at p1
    · rename_i ks ds hd
      obtain ⟨a, L, rfl, h1, h2⟩ := ndcOf_ok o1 (.inl r1) hd
      obtain ⟨l1, _⟩ := h2.len
      have e : (!L.isEmpty) = !ks.isEmpty := by cases ks <;> cases L <;> first | rfl | cases l1
      exact ⟨a, L, rfl, h1, nd_keys o1 h2.ke h2.kr h2.ok, by rw [e]; exact Post.now p1 o1⟩
    · exact False.elim p1)⟩
def maxI : List Int → Int
  | [] => 0
  | [x] => x
  | x :: xs => max x (maxI xs)
theorem maxI_mem : ∀ {ns : List Int}, ns ≠ [] → maxI ns ∈ ns
  | [], h => absurd rfl h
  | [x], _ => List.mem_singleton.mpr rfl
  | x :: y :: xs, _ => by
    have := maxI_mem (ns := y :: xs) (by simp)
    show max x (maxI (y :: xs)) ∈ _
    by_cases c : x ≤ maxI (y :: xs)
    · rw [Int.max_eq_right c]; exact List.mem_cons_of_mem _ this
    · rw [Int.max_eq_left (by omega)]; exact List.mem_cons_self
theorem maxI_le : ∀ {ns : List Int}, ∀ y ∈ ns, y ≤ maxI ns
  | [], _, h => nomatch h
  | [x], y, h => by rw [List.mem_singleton.mp h]; exact Int.le_refl _
  | x :: z :: xs, y, h => by
    show y ≤ max x (maxI (z :: xs))
    rcases List.mem_cons.mp h with rfl | h
    · exact Int.le_max_left _ _
    · exact Int.le_trans (maxI_le y h) (Int.le_max_right _ _)
def fMax : MF := fun ds S => match ds with
  | [d] => match (listOf S d).bind intsOf with
    | some ns => if ns ≠ [] then .ok (.int (maxI ns)) S else .bad
    | none => .bad
  | _ => .bad
theorem cm_max : CallM K Γ (rMax K) fMax := ⟨fun w ds vs Q ex o r p => by
  unfold fMax at p
  split at p
  · rename_i d
    obtain ⟨v, rfl, r1⟩ := pks1 r
    split at p
    · rename_i ns h
      split at p
      · rename_i hne
        obtain ⟨xs, h1, h2⟩ := Option.bind_eq_some_iff.mp h
        obtain ⟨a, vs, rfl, a1, a2, a3⟩ := listOf_ok o r1 h1
        rw [ints_reps h2 a3] at a1
        refine ⟨a, ns, rfl, a1, List.length_pos_iff.mpr hne, fun m hm hle => ?_⟩
        have e : m = maxI ns := Int.le_antisymm (maxI_le m hm) (hle _ (maxI_mem hne))
        rw [e]
        exact Post.now p o _ (by simp only [Rep, RepC])
      · exact False.elim p
    · exact False.elim p
  · exact False.elim p⟩
def mInsertC (mo mk me : ME) : MS := fun δ S => bndS (mo δ S) δ fun x S => match x with
  | .ref m => match S[m]? with
    | some (some (.lst _)) => bndS (mk δ S) δ fun k S => bndS (me δ S) δ fun d S => match k with
      | .int j => match S[m]? with
        | some (some (.lst ds)) => if 0 ≤ j ∧ j < 2 ^ 63 ∧ ds.length < 16777216 then .ok (.nx δ) (S.set m (some (.lst (ds.take j.toNat ++ [d] ++ ds.drop j.toNat)))) else .bad
        | _ => .bad
      | _ => .bad
    | _ => .bad
  | _ => .bad
theorem sim_insertC (ho : SimE K Γ xa W to mo) (hk : SimE K Γ xa W ti mk) (h : SimE K Γ xa W te me) : SimS K Γ xa W (tDrop (tBM K "list" rInsert to (tCons ti (tCons te tNil)))) (mInsertC mo mk me) := ⟨fun w0 w σ δ Dn o e n p => by
  refine ho.run w0 w σ δ _ o e n (p.then e n fun x w1 o1 e1 p1 v r1 => ?_)
  split at p1
  · rename_i m
    split at p1
    · rename_i ds0 hm0
      obtain ⟨a, rfl, ha, vs0, h20, _, _⟩ := cel_at o1 hm0 r1
      refine ⟨tyV_list (SqL.of h20), ?_⟩
      refine hk.run w0 w1 σ δ _ o1 (e.trans e1) (n.ev e1) (p1.then (e.trans e1) (n.ev e1) fun k w2 o2 e2 p2 kv rk => ?_)
      have e12 := e1.trans e2
      refine h.run w0 w2 σ δ _ o2 (e.trans e12) (n.ev e12) (p2.then (e.trans e12) (n.ev e12) fun d w3 o3 e3 p3 u r3 => ?_)
      have e13 := e12.trans e3
      show rInsert (.ref a) [kv, u] w3.H fun _ H1 => Dn.nx σ H1
      split at p3
      · rename_i j
        split at p3
        · rename_i ds hm
          obtain ⟨b, eb, hb, vs, h2, h3, h4⟩ := cel_at o3 hm (Rep.ev (Rep.ev r1 e2) e3)
          cases eb
          split at p3
          · rename_i hl
            have hl' : vs.length < sizeLine := by rw [← reps_len h4]; exact hl.2.2
            refine ⟨a, vs, j, u, rfl, by rw [rep_int rk], h2, hl', hl.1, hl.2.1, ?_⟩
            have at' : At K Γ (wCel w3 m a (.lst (vs.take j.toNat ++ [u] ++ vs.drop j.toNat)) (some (.lst (ds.take j.toNat ++ [d] ++ ds.drop j.toNat)))) (.lst (ds.take j.toNat ++ [d] ++ ds.drop j.toNat)) a :=
              ⟨_, upd_same, by rw [List.length_append, List.length_append, List.length_take, List.length_drop, List.length_singleton]; omega, reps_app (reps_app (reps_take j.toNat h4) (reps_cons r3 reps_nil)) (reps_drop j.toNat h4)⟩
            have ev := ev_cel (o := .lst (vs.take j.toNat ++ [u] ++ vs.drop j.toNat)) (d := some (.lst (ds.take j.toNat ++ [d] ++ ds.drop j.toNat))) o3 hm hb
            exact p3 _ σ rfl (ok_cel o3 hm hb at') ((e.trans e13).trans ev) ev.gr ((n.ev e13).ev ev)
          · exact False.elim p3
        · exact False.elim p3
      · exact False.elim p3
    · exact False.elim p1
  · exact False.elim p1⟩
end
end MR

namespace TP
open PySem PySem.Spec PyProof.Rows L2
variable {X : Cx}
theorem ps_setDc {i : Nat} {y : Str} {py : Pos} {kx vx tg iter : Expr} {ifs : List Expr} {scope : Scope} {own : List (Str × Nat)} {pos spos : Pos} {wi : TI} {g : TG} {tt : TT} {tk tv : TE} (hc : X.calm = true) (hN : X.N.Nodup) (hy : X.N[i]? = some y) (hyl : X.env.scope.names.lookup y = some .local)
    (hsw : swapsWith (.DictComp kx vx [⟨tg, iter, ifs, 0⟩] scope pos) (some (.Name y py)) spos.line X.env = pure true) (hi : PI X tg iter wi) (ok : BlkOk X.N X.env.scope scope own)
    (hg : ∀ (s : Shared) (H : Hp) (C : Addr) (cl : List (Str × Addr)) (fp : List Addr), PG (X.blk s H scope (compEnvC scope cl C X.env) fp) tg g) (ht : ∀ (s : Shared) (H : Hp) (C : Addr) (cl : List (Str × Addr)) (fp : List Addr), PTs (X.blk s H scope (compEnvC scope cl C X.env) fp) ifs tt)
    (hk : ∀ (s : Shared) (H : Hp) (C : Addr) (cl : List (Str × Addr)) (fp : List Addr), PE (X.blk s H scope (compEnvC scope cl C X.env) fp) kx tk)
    (he : ∀ (s : Shared) (H : Hp) (C : Addr) (cl : List (Str × Addr)) (fp : List Addr), PE (X.blk s H scope (compEnvC scope cl C X.env) fp) vx tv) (hs : ∀ x, foldedSetIterable iter X.env x = pure x := by intro _; rfl) :
    PS X (.Assign [.Name y py] (.DictComp kx vx [⟨tg, iter, ifs, 0⟩] scope pos) spos) (tAsg (tDc wi g tt tk tv (own.map (·.2))) (gName i)) := by
  refine ⟨fun pins s σ H D I h => ?_⟩
  rw [exec_Assign_Name_used _ _ _ _ hsw]
  refine wpAny_bind (wpAny_standAt (wpAny_bind ?_))
  show wpAny _ X.A (do let _ ← comprehension (.DictComp kx vx [⟨tg, iter, ifs, 0⟩] scope pos) scope X.env (firstIterPos [⟨tg, iter, ifs, 0⟩] pos) newDict false (eval iter X.env) (some (assign (.Name y py) X.env))) _ _ s
  have h : tDc wi g tt tk tv (own.map (·.2)) σ H (fun x H1 => gName i x σ H1 D.nx) := h
  refine wpAny_bind (thn (dc_core (Qf := fun _ s' => SP X pins D .next s') hc hN I hi ok hg ht hk he hs h fun L C s' m H' I' q hn f => ?_) fun _ s' hq => wpAny_pure (wpAny_pure hq))
  show wpAny _ _ (assign (.Name y py) X.env (.ref L)) _ _ _
  refine wpAny_assign_Name (store_ok2 (v := V.ref L) I' hN hy (.inl hyl) rfl (fun s2 I2 ⟨a, sb, ha⟩ => ?_) (.inr hyl))
  obtain ⟨f0, f1, f2, f3, f4, f5⟩ := f
  have haC : C ≠ a := by
    rcases ha with z | z
    · rw [z]; exact f1
    · exact fun e => f4 y a z e.symm
  refine ⟨m, hn.sameBut sb haC, fun h3 sb3 => ?_⟩
  exact ⟨_, H', I2.turned (t' := s2.toks) (fun b o hb e => (sb3.2 b hb).trans e) f0 f1 f3 f4 f5, q⟩
theorem sw_trueD {kx vx : Expr} {gs : List Comprehension} {scope : Scope} {pos py : Pos} {y : Str} {l : Nat} {env : Env} (hk : env.scope.kind = .function) (hy : env.scope.names.lookup y = some .local) (hl : (py.line == pos.line) = true)
    (ha : (scope.names.any fun (n, k) => n == y && (k == .local || k == .cell)) = false) : swapsWith (.DictComp kx vx gs scope pos) (some (.Name y py)) l env = pure true := by
  have ky : env.kindOf y = some .local := hy
  have hb : env.blockKind = .function := by unfold Env.blockKind; rw [hk]; rfl
  unfold swapsWith
  simp only [hb, ky, ha, Expr.pos, hl]
  rfl
end TP

namespace MR
open PySem PySem.Spec L2 TP
abbrev XQ := Nat → List Str → List D → Sto → Prop
abbrev noXQ : XQ := fun _ _ _ _ => False
def Rn {α : Type} (o : Out α) (Q : α → Sto → Prop) (X : XQ) : Prop := match o with
  | .ok a S => Q a S
  | .ex c ns ds S => X c ns ds S
  | .bad => False
structure EndP where
  nx : Env → Sto → Prop
  rt : D → Sto → Prop
  bk : Env → Sto → Prop := fun _ _ => False
  ct : Env → Sto → Prop := fun _ _ => False
  ex : Nat → List Str → List D → Env → Sto → Prop := fun _ _ _ _ _ => False
def RunS (o : Out Fl) (P : EndP) : Prop := match o with
  | .ok (.nx δ) S => P.nx δ S
  | .ok (.rt d) S => P.rt d S
  | .ok (.bk δ) S => P.bk δ S
  | .ok (.ct δ) S => P.ct δ S
  | .ok (.ex c ns ds δ) S => P.ex c ns ds δ S
  | _ => False
section
variable {α β : Type} {S S1 : Sto} {δ : Env} {Q : D → Sto → Prop} {X : XQ} {P : EndP} {d e x y : D} {i j : Int} {me ma mb mc mo mk : ME} {mt mu : MT} {ml : MA} {ms mus : MS} {QA : List D → Sto → Prop} {QB : Bool → Sto → Prop} {m : MF}
theorem run_eq {o : Out α} {a : α} {Q : α → Sto → Prop} (h : o = .ok a S) (q : Q a S) : Rn o Q X := by rw [h]; exact q
theorem run_ok {o : Out α} {Q : α → Sto → Prop} (h : Rn o Q noXQ) : ∃ a S, o = .ok a S ∧ Q a S := by
  cases o with
  | ok a S => exact ⟨a, S, rfl, h⟩
  | ex => exact False.elim h
  | bad => exact False.elim h
theorem rn_eq {α : Type} {o : Out α} {a : α} {S : Sto} (h : Rn o (fun d S' => d = a ∧ S' = S) noXQ) : o = .ok a S := by
  obtain ⟨d, S', e, rfl, rfl⟩ := run_ok h
  exact e
theorem run_mono {o : Out α} {Q Q' : α → Sto → Prop} {X X' : XQ} (h : Rn o Q X) (f : ∀ a S, Q a S → Q' a S) (g : ∀ c ns ds S, X c ns ds S → X' c ns ds S) : Rn o Q' X' := by
  cases o with
  | ok a S => exact f _ _ h
  | ex => exact g _ _ _ _ h
  | bad => exact h
theorem run_bnd' {o : Out α} {f : α → Sto → Out β} {Q : β → Sto → Prop} (h : Rn o (fun a S => Rn (f a S) Q X) X) : Rn (bnd o f) Q X := by
  cases o with
  | ok a S => exact h
  | ex => exact h
  | bad => exact h
theorem runS_bnd {o : Out α} {f : α → Sto → Out Fl} (h : Rn o (fun a S => RunS (f a S) P) fun c ns ds S => P.ex c ns ds δ S) : RunS (bndS o δ f) P := by
  cases o with
  | ok a S => exact h
  | ex => exact h
  | bad => exact h
theorem g_c (q : Q d S) : Rn (mC d δ S) Q X := q
theorem g_var {i : Nat} (h : δ[i]? = some (.val d)) (q : Q d S) : Rn (mVar i δ S) Q X := by unfold mVar; rw [h]; exact q
theorem g_peekO {i : Nat} {b : Bool} (h : δ[i]? = some (.own b d)) (q : Q d S) : Rn (mPeek i δ S) Q X := by unfold mPeek; rw [h]; exact q
theorem g_peekV {i : Nat} (h : δ[i]? = some (.val d)) (q : Q d S) : Rn (mPeek i δ S) Q X := by unfold mPeek; rw [h]; exact q
theorem g_op {op : D → D → Sto → Out D} (q : Rn (ma δ S) (fun x S => Rn (mb δ S) (fun y S => Rn (op x y S) Q X) X) X) : Rn (mOp op ma mb δ S) Q X := run_bnd' (run_mono q (fun _ _ h => run_bnd' h) fun _ _ _ _ z => z)
theorem g_un {op : D → Sto → Out D} (q : Rn (ma δ S) (fun x S => Rn (op x S) Q X) X) : Rn (mUn op ma δ S) Q X := run_bnd' q
theorem g_nil (q : QA [] S) : Rn (mNil δ S) QA X := q
theorem g_cons (q : Rn (me δ S) (fun x S => Rn (ml δ S) (fun xs S => QA (x :: xs) S) X) X) : Rn (mCons me ml δ S) QA X := run_bnd' (run_mono q (fun _ _ h => run_bnd' h) fun _ _ _ _ z => z)
theorem g_tup (q : Rn (ml δ S) (fun ds S => Q (.tup ds) S) X) : Rn (mTup ml δ S) Q X := run_bnd' q
theorem g_lst (q : Rn (ml δ S) (fun ds S => Q (.lst ds) S) X) : Rn (mLst ml δ S) Q X := run_bnd' q
theorem g_cb {f : MF} (q : Rn (ml δ S) (fun ds S => Rn (f ds S) Q X) X) : Rn (mCB f ml δ S) Q X := run_bnd' q
theorem g_call {n : Nat} (q : Rn (ml δ S) (fun ds S => Rn (m ds S) Q X) X) : Rn (mCall n m ml δ S) Q X := run_bnd' q
theorem g_test (q : Rn (me δ S) (fun d S => ∃ b, d = .bl b ∧ QB b S) X) : Rn (mTest me δ S) QB X := run_bnd' (run_mono q (fun d S ⟨b, e, h⟩ => by subst e; exact h) fun _ _ _ _ z => z)
theorem g_tru (q : Rn (me δ S) (fun d S => ∃ b, truD S d = some b ∧ QB b S) X) : Rn (mTru me δ S) QB X := run_bnd' (run_mono q (fun d S ⟨b, e, h⟩ => by rw [e]; exact h) fun _ _ _ _ z => z)
theorem g_bl {QB : Bool → Prop} {b : Bool} (q : QB b) : ∃ c, D.bl b = .bl c ∧ QB c := ⟨b, rfl, q⟩
theorem g_yes (q : QB true S) : Rn (mYes δ S) QB X := q
theorem g_and (q : Rn (mt δ S) (fun b S => if b = true then Rn (mu δ S) QB X else QB false S) X) : Rn (mAnd mt mu δ S) QB X := run_bnd' (run_mono q (fun b S h => by cases b <;> first | exact h | (simpa using h) | (exact (by simpa using h : _))) fun _ _ _ _ z => z)
theorem g_or (q : Rn (mt δ S) (fun b S => if b = true then QB true S else Rn (mu δ S) QB X) X) : Rn (mOr mt mu δ S) QB X := run_bnd' (run_mono q (fun b S h => by cases b <;> first | exact h | (simpa using h) | (exact (by simpa using h : _))) fun _ _ _ _ z => z)
theorem g_not (q : Rn (mt δ S) (fun b S => QB (!b) S) X) : Rn (mNot mt δ S) QB X := run_bnd' q
theorem g_andV (q : Rn (ma δ S) (fun d S => ∃ b, d = .bl b ∧ if b = true then Rn (mb δ S) Q X else Q (.bl false) S) X) : Rn (mAndV ma mb δ S) Q X := run_bnd' (run_mono q (fun d S ⟨b, e, h⟩ => by subst e; cases b <;> first | exact h | (simpa using h)) fun _ _ _ _ z => z)
theorem g_orV (q : Rn (ma δ S) (fun d S => ∃ b, d = .bl b ∧ if b = true then Q (.bl true) S else Rn (mb δ S) Q X) X) : Rn (mOrV ma mb δ S) Q X := run_bnd' (run_mono q (fun d S ⟨b, e, h⟩ => by subst e; cases b <;> first | exact h | (simpa using h)) fun _ _ _ _ z => z)
theorem g_notV (q : Rn (ma δ S) (fun d S => ∃ b, d = .bl b ∧ Q (.bl (!b)) S) X) : Rn (mNotV ma δ S) Q X := run_bnd' (run_mono q (fun d S ⟨b, e, h⟩ => by subst e; exact h) fun _ _ _ _ z => z)
theorem g_if (q : Rn (mt δ S) (fun b S => if b = true then Rn (ma δ S) Q X else Rn (mb δ S) Q X) X) : Rn (mIf mt ma mb δ S) Q X := run_bnd' (run_mono q (fun b S h => by cases b <;> first | exact h | (simpa using h) | (exact (by simpa using h : _))) fun _ _ _ _ z => z)
theorem g_chain {op op' : D → D → Sto → Out D} (q : Rn (ma δ S) (fun x S => Rn (mb δ S) (fun y S => Rn (op x y S) (fun z S => ∃ k, z = .bl k ∧ if k = true then Rn (mc δ S) (fun u S => Rn (op' y u S) Q X) X else Q (.bl false) S) X) X) X) : Rn (mChain op op' ma mb mc δ S) Q X := by
  refine run_bnd' (run_mono q (fun x S h => run_bnd' (run_mono h (fun y S h => run_bnd' (run_mono h ?_ fun _ _ _ _ z => z)) fun _ _ _ _ z => z)) fun _ _ _ _ z => z)
  rintro z S ⟨k, rfl, h⟩
  cases k with
  | false => exact h
  | true => exact run_bnd' h
theorem g_T {A B : Prop} (q : A) : if true = true then A else B := q
theorem g_F {A B : Prop} (q : B) : if false = true then A else B := by simpa using q
theorem g_nF {A B : Prop} (q : A) : if (!false) = true then A else B := q
theorem g_nT {A B : Prop} (q : B) : if (!true) = true then A else B := by simpa using q
theorem g_less (q : Q (.bl (decide (i < j))) S) : Rn (opLess (.int i) (.int j) S) Q X := q
theorem g_leq (q : Q (.bl (decide (i ≤ j))) S) : Rn (opLeq (.int i) (.int j) S) Q X := q
theorem g_more (q : Q (.bl (decide (j < i))) S) : Rn (opMore (.int i) (.int j) S) Q X := q
theorem g_geq (q : Q (.bl (decide (j ≤ i))) S) : Rn (opGeq (.int i) (.int j) S) Q X := q
theorem g_minus (q : Q (.int (i - j)) S) : Rn (opMinus (.int i) (.int j) S) Q X := q
theorem g_plusI (q : Q (.int (i + j)) S) : Rn (opPlus (.int i) (.int j) S) Q X := q
theorem g_rest (h : 0 < j) (q : Q (.int (i % j)) S) : Rn (opRest (.int i) (.int j) S) Q X := by
  show Rn (if decide (0 < j) = true then _ else _) Q X
  rw [if_pos (decide_eq_true h)]; exact q
theorem g_quot (h : 0 < j) (h2 : j < 18446744073709551616) (q : Q (.int (i / j)) S) : Rn (opQuot (.int i) (.int j) S) Q X := by
  show Rn (if (decide (0 < j) && decide (j < 18446744073709551616)) = true then _ else _) Q X
  rw [if_pos (by rw [decide_eq_true h, decide_eq_true h2]; rfl)]; exact q
theorem g_times (h : mulOk i j = true) (q : Q (.int (i * j)) S) : Rn (opTimes (.int i) (.int j) S) Q X := by
  show Rn (if mulOk i j = true then _ else _) Q X
  rw [if_pos h]; exact q
theorem mul_r (h : -18446744073709551616 < j) (h2 : j < 18446744073709551616) : mulOk i j = true := by unfold mulOk; rw [decide_eq_true h, decide_eq_true h2]; simp
theorem g_eqI (q : Q (.bl (decide (i = j))) S) : Rn (opEq false (.int i) (.int j) S) Q X := by
  show Q (.bl (xor false (decide (i = j)))) S
  rw [Bool.false_xor]; exact q
theorem g_neI (q : Q (.bl (!decide (i = j))) S) : Rn (opEq true (.int i) (.int j) S) Q X := by
  show Q (.bl (xor true (decide (i = j)))) S
  rw [Bool.true_xor]; exact q
theorem g_eqB {a b : Bool} (q : Q (.bl (a == b)) S) : Rn (opEq false (.bl a) (.bl b) S) Q X := by
  show Q (.bl (xor false (a == b))) S
  rw [Bool.false_xor]; exact q
theorem g_neB {a b : Bool} (q : Q (.bl (!(a == b))) S) : Rn (opEq true (.bl a) (.bl b) S) Q X := by
  show Q (.bl (xor true (a == b))) S
  rw [Bool.true_xor]; exact q
theorem g_eqS {a b : Str} (q : Q (.bl (decide (a = b))) S) : Rn (opEq false (.str a) (.str b) S) Q X := by
  show Q (.bl (xor false (decide (a = b)))) S
  rw [Bool.false_xor]; exact q
theorem g_neS {a b : Str} (q : Q (.bl (!decide (a = b))) S) : Rn (opEq true (.str a) (.str b) S) Q X := by
  show Q (.bl (xor true (decide (a = b)))) S
  rw [Bool.true_xor]; exact q
theorem g_eqD {neg : Bool} (h : okN 9 d = true) (h2 : okN 9 e = true) (hf : flatD d = false) (q : Q (.bl (xor neg (eqD d e))) S) : Rn (opEq neg d e S) Q X := by
  have z : opEq neg d e S = .ok (.bl (xor neg (eqD d e))) S := by
    unfold opEq
    split
    · cases hf
    · cases hf
    · unfold okN at h; cases h
    · cases hf
    · rw [h, h2]; rfl
  rw [z]; exact q
theorem g_isN (q : Q (.bl (isNon d)) S) : Rn (opIs d .non S) Q X := q
theorem g_isntN (q : Q (.bl (!isNon d)) S) : Rn (opIsnt d .non S) Q X := q
theorem g_ix {ds : List D} (h : listOf S d = some ds) (h2 : atI ds i = some e) (q : Q e S) : Rn (opIx d (.int i) S) Q X := by
  unfold opIx; simp only [h, h2]; exact q
theorem g_ixT {ds : List D} (h2 : atI ds i = some e) (q : Q e S) : Rn (opIx (.tup ds) (.int i) S) Q X := by
  unfold opIx; simp only [listOf, tupOf, h2]; exact q
theorem g_int (q : Q (.int i) S) : Rn (fInt [.int i] S) Q X := q
theorem g_len {ds : List D} (h : flatD d = false) (hb : ∀ b, d ≠ .byt b) (h2 : seqOf S d = some ds) (q : Q (.int ds.length) S) : Rn (fLen [d] S) Q X := by
  have z : fLen [d] S = .ok (.int ds.length) S := by
    unfold fLen
    split
    · rename_i hx; cases hx; cases h
    · rename_i hx; cases hx; exact absurd rfl (hb _)
    · rename_i hx; cases hx; rw [h2]
    · rename_i hx; exact absurd rfl (hx d)
  rw [z]; exact q
theorem g_lenL {ds : List D} (q : Q (.int ds.length) S) : Rn (fLen [.lst ds] S) Q X := q
theorem g_lenT {ds : List D} (q : Q (.int ds.length) S) : Rn (fLen [.tup ds] S) Q X := q
theorem g_list {ds : List D} (h : seqOf S d = some ds) (q : Q (.lst ds) S) : Rn (fList [d] S) Q X := by unfold fList; simp only [h]; exact q
theorem g_tupleL {ds : List D} (q : Q (.tup ds) S) : Rn (fTuple [.lst ds] S) Q X := q
theorem g_tupleT {ds : List D} (q : Q (.tup ds) S) : Rn (fTuple [.tup ds] S) Q X := q
theorem g_catL {xs ys : List D} (h : xs.length + ys.length ≤ 16777216) (q : Q (.lst (xs ++ ys)) S) : Rn (opPlus (.lst xs) (.lst ys) S) Q X := by
  show Rn (if xs.length + ys.length ≤ 16777216 then _ else _) Q X
  rw [if_pos h]; exact q
theorem g_getF {c : Nat} {f : Str} (q : Rn (ma δ S) (fun d S => ∃ ns ds x, objOf S d = some (c, ns, ds) ∧ (ns.zip ds).lookup f = some x ∧ Q x S) X) : Rn (mGetF c f ma δ S) Q X :=
  run_bnd' (run_mono q (fun d S ⟨ns, ds, x, h1, h2, h3⟩ => by rw [h1]; dsimp only; rw [if_pos rfl, h2]; exact h3) fun _ _ _ _ z => z)
theorem g_meth {c n : Nat} {f : Str} (q : Rn (ma δ S) (fun d S => ∃ ns ds, objOf S d = some (c, ns, ds) ∧ (ns.zip ds).lookup f = none ∧ Rn (ml δ S) (fun as S => Rn (m (d :: as) S) Q X) X) X) : Rn (mMeth c f n m ma ml δ S) Q X :=
  run_bnd' (run_mono q (fun d S ⟨ns, ds, h1, h2, h3⟩ => by rw [h1]; dsimp only; rw [if_pos ⟨rfl, h2⟩]; exact run_bnd' h3) fun _ _ _ _ z => z)
theorem g_cmpO {N c : Nat} {neg : Bool} (q : Rn (ma δ S) (fun x S => Rn (mb δ S) (fun y S => isObj S c x = true ∧ c < N ∧ (∃ k, kindD S y = some k ∧ ∀ c', k = .c c' → c' < N) ∧ Rn (m [x, y] S) (fun r S => ∃ b, r = .bl b ∧ Q (.bl (xor neg b)) S) X) X) X) : Rn (mCmpO N c neg m ma mb δ S) Q X :=
  run_bnd' (run_mono q (fun x S h => run_bnd' (run_mono h (fun y S ⟨h1, h2, ⟨k, h3, h4⟩, h5⟩ => by
    rw [h1, decide_eq_true h2]
    simp only [Bool.and_self, if_true]
    rw [h3]
    have fin : Rn (bnd (m [x, y] S) (negB neg)) Q X := run_bnd' (run_mono h5 (fun r S ⟨b, e, q⟩ => by subst e; exact q) fun _ _ _ _ z => z)
    cases k with
    | t n => exact fin
    | c c' => dsimp only; rw [if_pos (h4 c' rfl)]; exact fin) fun _ _ _ _ z => z)) fun _ _ _ _ z => z)
theorem g_binO {c : Nat} (q : Rn (ma δ S) (fun x S => Rn (mb δ S) (fun y S => isObj S c x = true ∧ isObj S c y = true ∧ Rn (m [x, y] S) Q X) X) X) : Rn (mBinO c m ma mb δ S) Q X :=
  run_bnd' (run_mono q (fun x S h => run_bnd' (run_mono h (fun y S ⟨h1, h2, h3⟩ => by rw [h1, h2]; exact h3) fun _ _ _ _ z => z)) fun _ _ _ _ z => z)
theorem g_binI {c : Nat} (q : Rn (ma δ S) (fun x S => Rn (mb δ S) (fun y S => isObj S c x = true ∧ (∃ i, y = .int i) ∧ Rn (m [x, y] S) Q X) X) X) : Rn (mBinI c m ma mb δ S) Q X :=
  run_bnd' (run_mono q (fun x S h => run_bnd' (run_mono h (fun y S ⟨h1, ⟨i, e⟩, h3⟩ => by subst e; dsimp only; rw [h1]; exact h3) fun _ _ _ _ z => z)) fun _ _ _ _ z => z)
theorem g_binR {c : Nat} (q : Rn (ma δ S) (fun x S => Rn (mb δ S) (fun y S => isObj S c y = true ∧ (∃ i, x = .int i) ∧ Rn (m [y, x] S) Q X) X) X) : Rn (mBinR c m ma mb δ S) Q X :=
  run_bnd' (run_mono q (fun x S h => run_bnd' (run_mono h (fun y S ⟨h1, ⟨i, e⟩, h3⟩ => by subst e; dsimp only; rw [h1]; exact h3) fun _ _ _ _ z => z)) fun _ _ _ _ z => z)
theorem g_lenZ {c : Nat} (q : Rn (ml δ S) (fun ds S => ∃ x, ds = [x] ∧ isObj S c x = true ∧ Rn (m [x] S) (fun r S => ∃ i : Int, r = .int i ∧ (0 ≤ i ∧ i < 9223372036854775808) ∧ Q (.int i) S) X) X) : Rn (mLenZ c m ml δ S) Q X :=
  run_bnd' (run_mono q (fun ds S ⟨x, e, h1, h3⟩ => by subst e; dsimp only; rw [h1]; exact run_bnd' (run_mono h3 (fun r S ⟨i, e, h, q⟩ => by subst e; dsimp only; rw [if_pos h]; exact q) fun _ _ _ _ z => z)) fun _ _ _ _ z => z)
theorem g_inZ {c : Nat} {neg : Bool} (q : Rn (ma δ S) (fun x S => Rn (mb δ S) (fun y S => isObj S c y = true ∧ Rn (m [y, x] S) (fun r S => ∃ b, r = .bl b ∧ Q (.bl (xor neg b)) S) X) X) X) : Rn (mInZ c neg m ma mb δ S) Q X :=
  run_bnd' (run_mono q (fun x S h => run_bnd' (run_mono h (fun y S ⟨h1, h5⟩ => by rw [h1]; exact run_bnd' (run_mono h5 (fun r S ⟨b, e, q⟩ => by subst e; exact q) fun _ _ _ _ z => z)) fun _ _ _ _ z => z)) fun _ _ _ _ z => z)
theorem g_newV {c k : Nat} {mI : MI} (q : Rn (ml δ S) (fun ds S => k ≤ ds.length ∧ ds.length ≤ 16777216 ∧ Rn (mI (ds.take k ++ [.tup (ds.drop k)]) S) (fun p S => Q (.obj c p.1 p.2) S) X) X) : Rn (mNewV c k mI ml δ S) Q X :=
  run_bnd' (run_mono q (fun ds S ⟨h1, h2, h3⟩ => by rw [if_pos ⟨h1, h2⟩]; exact run_bnd' h3) fun _ _ _ _ z => z)
theorem g_new {c : Nat} {mI : MI} {dds : List D} (q : Rn (ml δ S) (fun ds S => Rn (mI (ds ++ dds) S) (fun p S => Q (.obj c p.1 p.2) S) X) X) : Rn (mNew c mI ml dds δ S) Q X :=
  run_bnd' (run_mono q (fun ds S h3 => run_bnd' h3) fun _ _ _ _ z => z)
theorem g_starT (q : Rn (me δ S) (fun d S => ∃ xs, (d = .tup xs ∨ d = .lst xs) ∧ Rn (ml δ S) (fun ys S => QA (xs ++ ys) S) X) X) : Rn (mStar me ml δ S) QA X :=
  run_bnd' (run_mono q (fun d S ⟨xs, e, h⟩ => by
    rcases e with e | e
    · subst e; exact run_bnd' h
    · subst e; exact run_bnd' h) fun _ _ _ _ z => z)
theorem g_sortSet (q : Rn (me δ S) (fun d S => ∃ ns, (listOf S d).bind intsOf = some ns ∧ ns.length < 63 ∧ Q (.lst ((sortU ns).map D.int)) S) X) : Rn (mSortSet me δ S) Q X :=
  run_bnd' (run_mono q (fun d S ⟨ns, h1, h2, h3⟩ => by rw [h1]; dsimp only; rw [if_pos h2]; exact h3) fun _ _ _ _ z => z)
theorem g_cell (q : Rn (me δ S) (fun d S => Q (.ref S.length) (S ++ [some d])) X) : Rn (mCell me δ S) Q X := run_bnd' q
theorem g_iList (q : Rn (me δ S) (fun d S => ∃ ds, (d = .lst ds ∨ ∃ is, d = .scr is ∧ ds = is.map D.int) ∧ QA ds S) X) : Rn (mIList me δ S) QA X :=
  run_bnd' (run_mono q (fun d S ⟨ds, e, h⟩ => by
    rcases e with e | ⟨is, e, e2⟩
    · subst e; exact h
    · subst e; subst e2; exact h) fun _ _ _ _ z => z)
theorem g_iTup (q : Rn (me δ S) (fun d S => ∃ ds, d = .tup ds ∧ QA ds S) X) : Rn (mITup me δ S) QA X := run_bnd' (run_mono q (fun d S ⟨ds, e, h⟩ => by subst e; exact h) fun _ _ _ _ z => z)
theorem g_rng1 (q : Rn (ml δ S) (fun ds S => ∃ j : Int, ds = [.int j] ∧ 0 ≤ j ∧ j ≤ 16777216 ∧ QA (rngD 0 j.toNat) S) X) : Rn (mIRng1 ml δ S) QA X :=
  run_bnd' (run_mono q (fun d S ⟨j, e, h0, h1, h⟩ => by subst e; dsimp only; rw [if_pos ⟨h1, by omega⟩]; exact h) fun _ _ _ _ z => z)
theorem g_rng2 (q : Rn (ml δ S) (fun ds S => ∃ i j : Int, ds = [.int i, .int j] ∧ -1000 ≤ i ∧ i ≤ 1000000 ∧ -1000 ≤ j ∧ j ≤ 1000000 ∧ QA (rngD i (j - i).toNat) S) X) : Rn (mIRng2 ml δ S) QA X :=
  run_bnd' (run_mono q (fun d S ⟨i, j, e, h0, h1, h2, h3, h⟩ => by subst e; dsimp only; rw [if_pos ⟨⟨by omega, by omega⟩, ⟨by omega, by omega⟩, by omega⟩]; exact h) fun _ _ _ _ z => z)
theorem g_lc {mi : MA} {mg : MG} {vs : List Nat} (q : Rn (mi δ S) (fun ds S => Rn (mLcL mg mt me (mwipe δ vs) ds S) (fun ys S => Q (.lst ys) S) X) X) : Rn (mLc mi mg mt me vs δ S) Q X := run_bnd' (run_mono q (fun _ _ h => run_bnd' h) fun _ _ _ _ z => z)
theorem s_next (q : P.nx δ S) : RunS (mNext δ S) P := q
theorem s_seq (q : RunS (ms δ S) { P with nx := fun δ S => RunS (mus δ S) P }) : RunS (mSeq ms mus δ S) P := by
  unfold mSeq onNx
  cases z : ms δ S with
  | ok f S' => rw [z] at q; cases f <;> exact q
  | ex => rw [z] at q; exact q
  | bad => rw [z] at q; exact q
theorem s_asg {mg : MG} (q : Rn (me δ S) (fun d S => ∃ δ', mg d δ = some δ' ∧ P.nx δ' S) fun c ns ds S => P.ex c ns ds δ S) : RunS (mAsg me mg δ S) P := runS_bnd (run_mono q (fun d S ⟨δ', e, h⟩ => by rw [e]; exact h) fun _ _ _ _ z => z)
theorem s_asgN {i : Nat} (q : Rn (me δ S) (fun d S => P.nx (δ.set i (.val d)) S) fun c ns ds S => P.ex c ns ds δ S) : RunS (mAsg me (mGName i) δ S) P := runS_bnd (run_mono q (fun d S h => h) fun _ _ _ _ z => z)
theorem s_asgO {i : Nat} (q : Rn (me δ S) (fun d S => P.nx (δ.set i (.own false d)) S) fun c ns ds S => P.ex c ns ds δ S) : RunS (mAsgO me i δ S) P := runS_bnd q
theorem s_asgC {i : Nat} (q : Rn (me δ S) (fun d S => P.nx (δ.set i (.val (.ref S.length))) (S ++ [some d])) fun c ns ds S => P.ex c ns ds δ S) : RunS (mAsgC me i δ S) P := runS_bnd q
theorem s_ret (q : Rn (me δ S) (fun d S => P.rt d S) fun c ns ds S => P.ex c ns ds δ S) : RunS (mRet me δ S) P := runS_bnd q
theorem s_drop (q : Rn (me δ S) (fun _ S => P.nx δ S) fun c ns ds S => P.ex c ns ds δ S) : RunS (mDrop me δ S) P := runS_bnd q
theorem s_ifS (q : Rn (mt δ S) (fun b S => if b = true then RunS (ms δ S) P else RunS (mus δ S) P) fun c ns ds S => P.ex c ns ds δ S) : RunS (mIfS mt ms mus δ S) P := runS_bnd (run_mono q (fun b S h => by cases b <;> first | exact h | (simpa using h) | (exact (by simpa using h : _))) fun _ _ _ _ z => z)
theorem s_fixO {i : Nat} {b : Bool} (h : δ[i]? = some (.own b d)) (q : RunS (ms (δ.set i (.val d)) S) P) : RunS (mFix i ms δ S) P := by unfold mFix; rw [h]; exact q
theorem s_fixV {i : Nat} (h : δ[i]? = some (.val d)) (q : RunS (ms δ S) P) : RunS (mFix i ms δ S) P := by unfold mFix; rw [h]; exact q
theorem s_append {i : Nat} {b : Bool} {ds : List D} (h : δ[i]? = some (.own b (.lst ds))) (q : Rn (me δ S) (fun d S => ds.length < 16777216 ∧ P.nx (δ.set i (.own b (.lst (ds ++ [d])))) S) fun c ns ds S => P.ex c ns ds δ S) : RunS (mAppend i me δ S) P := by
  unfold mAppend; rw [h]
  exact runS_bnd (run_mono q (fun d S ⟨hl, h⟩ => by rw [if_pos hl]; exact h) fun _ _ _ _ z => z)
theorem s_aug {i : Nat} {f : Int → Int → Int} {x : Int} (h : δ[i]? = some (.val (.int x))) (q : Rn (me δ S) (fun d S => ∃ y, d = .int y ∧ P.nx (δ.set i (.val (.int (f x y)))) S) fun c ns ds S => P.ex c ns ds δ S) : RunS (mAug i f me δ S) P := by
  unfold mAug; rw [h]
  exact runS_bnd (run_mono q (fun d S ⟨y, e, h⟩ => by subst e; exact h) fun _ _ _ _ z => z)
theorem s_setI {i : Nat} {b : Bool} {ds : List D} (h : δ[i]? = some (.own b (.lst ds))) (q : Rn (me δ S) (fun d S => Rn (mk δ S) (fun k S => ∃ (kk : Int) (j : Nat), k = .int kk ∧ ixN ds.length kk = some j ∧ P.nx (δ.set i (.own b (.lst (ds.set j d)))) S) fun c ns ds S => P.ex c ns ds δ S) fun c ns ds S => P.ex c ns ds δ S) : RunS (mSetI i me mk δ S) P := by
  unfold mSetI; rw [h]
  exact runS_bnd (run_mono q (fun d S h => runS_bnd (run_mono h (fun k S ⟨kk, j, e, h1, h2⟩ => by subst e; dsimp only; rw [h1]; exact h2) fun _ _ _ _ z => z)) fun _ _ _ _ z => z)
theorem s_setFO {i c : Nat} {f : Str} {b : Bool} {ns : List Str} {ds : List D} {mv : ME} (h : δ[i]? = some (.own b (.obj c ns ds))) (hl : ns.length < 1000) (q : Rn (mv δ S) (fun d S => P.nx (δ.set i (.own b (.obj c (putN f ns) (putX f d ns ds)))) S) fun c ns ds S => P.ex c ns ds δ S) : RunS (mSetFO i c f mv δ S) P := by
  unfold mSetFO; rw [h]
  exact runS_bnd (run_mono q (fun d S h => by rw [if_pos ⟨rfl, hl⟩]; exact h) fun _ _ _ _ z => z)
theorem s_raise {c : Nat} {f : Str} (q : Rn (ml δ S) (fun ds S => P.ex c [f] ds δ S) fun c ns ds S => P.ex c ns ds δ S) : RunS (mRaise c f ml δ S) P := runS_bnd q
theorem s_for {mi : MA} {mg : MG} (q : Rn (mi δ S) (fun ds S => RunS (mLoop mg ms ds δ S) P) fun c ns ds S => P.ex c ns ds δ S) : RunS (mFor mi mg ms δ S) P := runS_bnd q
theorem s_loop {mg : MG} (I : List D → Env → Sto → Prop) (hs : ∀ d ds δ S, I (d :: ds) δ S → ∃ δ1, mg d δ = some δ1 ∧ RunS (ms δ1 S) { P with nx := I ds, ct := I ds, bk := P.nx }) (he : ∀ δ S, I [] δ S → P.nx δ S) :
    ∀ (ds : List D) (δ : Env) (S : Sto), I ds δ S → RunS (mLoop mg ms ds δ S) P
  | [], δ, S, h => he δ S h
  | d :: ds, δ, S, h => by
    obtain ⟨δ1, h1, h2⟩ := hs d ds δ S h
    unfold mLoop
    rw [h1]
    dsimp only
    cases z : ms δ1 S with
    | ok f S' =>
      rw [z] at h2
      cases f with
      | nx δ2 => exact s_loop I hs he ds δ2 S' h2
      | ct δ2 => exact s_loop I hs he ds δ2 S' h2
      | bk δ2 => exact h2
      | rt v => exact h2
      | ex => exact h2
    | ex => rw [z] at h2; exact h2
    | bad => rw [z] at h2; exact h2
/-- a loop over lo, lo + 1, .. -/
theorem s_loopR {mg : MG} {lo : Int} {n : Nat} (I : Nat → Env → Sto → Prop) (h0 : I 0 δ S) (hs : ∀ k, k < n → ∀ δ S, I k δ S → ∃ δ1, mg (.int (lo + k)) δ = some δ1 ∧ RunS (ms δ1 S) { P with nx := I (k + 1), ct := I (k + 1), bk := P.nx }) (he : ∀ δ S, I n δ S → P.nx δ S) :
    RunS (mLoop mg ms (rngD lo n) δ S) P := by
  refine s_loop (fun ds δ S => ∃ k, k ≤ n ∧ ds = (rngD lo n).drop k ∧ I k δ S) ?_ ?_ _ _ _ ⟨0, Nat.zero_le _, rfl, h0⟩
  · rintro d ds δ S ⟨k, hk, e, h⟩
    have el : (rngD lo n).length = n := by simp [rngD]
    have hlt : k < n := by
      rcases Nat.lt_or_ge k n with z | z
      · exact z
      · rw [List.drop_of_length_le (by omega)] at e; cases e
    rw [List.drop_eq_getElem_cons (by omega)] at e
    obtain ⟨e1, e2⟩ := List.cons.inj e
    have ed : d = .int (lo + k) := by rw [e1]; simp [rngD]
    subst ed
    obtain ⟨δ1, h1, h2⟩ := hs k hlt δ S h
    refine ⟨δ1, h1, ?_⟩
    have imp : ∀ δ S, I (k + 1) δ S → ∃ j, j ≤ n ∧ ds = (rngD lo n).drop j ∧ I j δ S := fun δ S z => ⟨k + 1, hlt, e2, z⟩
    cases zz : ms δ1 S with
    | ok f S' => rw [zz] at h2; cases f <;> first | exact imp _ _ h2 | exact h2
    | ex => rw [zz] at h2; exact h2
    | bad => rw [zz] at h2; exact h2
  · rintro δ S ⟨k, hk, e, h⟩
    have el : (rngD lo n).length = n := by simp [rngD]
    have : k = n := by
      rcases Nat.lt_or_ge k n with z | z
      · rw [List.drop_eq_getElem_cons (by omega)] at e; cases e
      · omega
    subst this
    exact he δ S h
theorem s_run {N : Nat} {ds : List D} (q : RunS (ms (startD N ds) S) { nx := fun _ S => Q .non S, rt := Q, ex := fun c ns es _ S => X c ns es S }) : Rn (mRun N ms ds S) Q X := by
  unfold mRun fin
  cases z : ms (startD N ds) S with
  | ok f S' => rw [z] at q; cases f <;> exact q
  | ex => rw [z] at q; exact q
  | bad => rw [z] at q; exact q
theorem s_runI {N c : Nat} {ds : List D} {QI : List Str × List D → Sto → Prop} (q : RunS (ms (.own true (.obj c [] []) :: startD (N - 1) ds) S) { nx := fun δ S => ∃ ns fs r, δ = .own true (.obj c ns fs) :: r ∧ QI (ns, fs) S, rt := fun _ _ => False, ex := fun c ns es _ S => X c ns es S }) : Rn (mRunI N c ms ds S) QI X := by
  unfold mRunI finI
  cases z : ms (.own true (.obj c [] []) :: startD (N - 1) ds) S with
  | ok f S' =>
    rw [z] at q
    cases f with
    | nx δ => obtain ⟨ns, fs, r, e, q⟩ := q; subst e; dsimp only; rw [if_pos rfl]; exact q
    | ex => exact q
    | rt => exact q
    | bk => exact q
    | ct => exact q
  | ex => rw [z] at q; exact q
  | bad => rw [z] at q; exact q
/-- a comprehension that changes nothing -/
theorem lcl_pure {mg : MG} {c : D → Bool} {f : D → D} : ∀ {ds : List D}, (∀ d ∈ ds, ∃ δ1, mg d δ = some δ1 ∧ mt δ1 S = .ok (c d) S ∧ (c d = true → me δ1 S = .ok (f d) S)) → mLcL mg mt me δ ds S = .ok ((ds.filter c).map f) S
  | [], _ => rfl
  | d :: ds, h => by
    obtain ⟨δ1, h1, h2, h3⟩ := h d List.mem_cons_self
    have ih := lcl_pure (ds := ds) fun x hx => h x (List.mem_cons_of_mem _ hx)
    unfold mLcL
    rw [h1]
    dsimp only
    rw [h2]
    dsimp only [noX, bnd]
    cases z : c d with
    | true => rw [if_pos rfl, h3 z]; dsimp only [noX, bnd]; rw [ih]; simp [z]
    | false => rw [if_neg (by simp), ih]; simp [z]
/-- one whose items are drawn: J is kept, P is true of each -/
theorem lcl_rel {mg : MG} (R : D → D → Prop) (J : Sto → Prop) : ∀ {ds : List D} {S : Sto}, J S → (∀ d ∈ ds, ∀ S, J S → ∃ δ1, mg d δ = some δ1 ∧ Rn (mt δ1 S) (fun b S => b = true ∧ Rn (me δ1 S) (fun y S => R d y ∧ J S) noXQ) noXQ) →
    Rn (mLcL mg mt me δ ds S) (fun ys S => List.length ys = ds.length ∧ (∀ (i : Nat) (d y : D), ds[i]? = some d → ys[i]? = some y → R d y) ∧ J S) X
  | [], S, hJ, _ => ⟨rfl, fun i d y h => by simp at h, hJ⟩
  | d :: ds, S, hJ, h => by
    obtain ⟨δ1, h1, h2⟩ := h d List.mem_cons_self S hJ
    obtain ⟨b, S1, e1, rfl, h3⟩ := run_ok h2
    obtain ⟨y, S2, e2, hR, hJ2⟩ := run_ok h3
    have ih := lcl_rel R J (ds := ds) hJ2 (fun x hx => h x (List.mem_cons_of_mem _ hx))
    unfold mLcL
    rw [h1]
    dsimp only
    rw [e1]
    dsimp only [noX, bnd]
    rw [if_pos rfl, e2]
    dsimp only [noX, bnd]
    refine run_bnd' (run_mono ih (fun ys S ⟨l, r, j⟩ => ⟨by simp [l], fun i d' y' h1 h2 => ?_, j⟩) fun _ _ _ _ z => z)
    cases i with
    | zero => simp at h1 h2; subst h1; subst h2; exact hR
    | succ i => exact r i d' y' (by simpa using h1) (by simpa using h2)
end
theorem s_setC {S : Sto} {δ : Env} {P : EndP} {me mo mk : ME} {m : Nat} {ds : List D} (q : Rn (me δ S) (fun d S => Rn (mo δ S) (fun x S => Rn (mk δ S) (fun k S => ∃ (kk : Int) (j : Nat), x = .ref m ∧ k = .int kk ∧ S[m]? = some (some (.lst ds)) ∧ ixN ds.length kk = some j ∧ P.nx δ (S.set m (some (.lst (ds.set j d)))))
    fun c ns ds S => P.ex c ns ds δ S) fun c ns ds S => P.ex c ns ds δ S) fun c ns ds S => P.ex c ns ds δ S) : RunS (mSetC me mo mk δ S) P :=
  runS_bnd (run_mono q (fun d S h => runS_bnd (run_mono h (fun x S h => runS_bnd (run_mono h (fun k S ⟨kk, j, e1, e2, h1, h2, h3⟩ => by
    subst e1; subst e2; dsimp only; rw [h1]; dsimp only; rw [h2]; exact h3) fun _ _ _ _ z => z)) fun _ _ _ _ z => z)) fun _ _ _ _ z => z)
end MR

namespace MR
open PySem PySem.Spec L2 TP
section
variable {S S1 : Sto} {δ : Env} {Q : D → Sto → Prop} {X : XQ} {P : EndP} {d e x y : D} {me ma mb mc : ME} {mt : MT} {ml : MA} {ms : MS} {QA : List D → Sto → Prop} {m : MF}
/-- while: I holds with at most k turns left -/
theorem s_while (I : Nat → Env → Sto → Prop) (hs : ∀ k δ S, I k δ S → Rn (mt δ S) (fun b S => if b = true then RunS (ms δ S) { P with nx := fun δ S => ∃ k', k' < k ∧ I k' δ S, ct := fun δ S => ∃ k', k' < k ∧ I k' δ S, bk := P.nx } else P.nx δ S) fun c ns ds S => P.ex c ns ds δ S) :
    ∀ (n k : Nat) (δ : Env) (S : Sto), k < n → I k δ S → RunS (mWhile mt ms n δ S) P
  | 0, k, _, _, hk, _ => absurd hk (Nat.not_lt_zero k)
  | n + 1, k, δ, S, hk, h => by
    unfold mWhile
    refine runS_bnd (run_mono (hs k δ S h) (fun b S1 h1 => ?_) fun _ _ _ _ z => z)
    cases b with
    | false => exact (by simpa using h1 : P.nx δ S1)
    | true =>
      rw [if_pos rfl] at h1 ⊢
      cases z : ms δ S1 with
      | ok f S' =>
        rw [z] at h1
        cases f with
        | nx δ2 => obtain ⟨k', hk', h2⟩ := h1; exact s_while I hs n k' δ2 S' (by omega) h2
        | ct δ2 => obtain ⟨k', hk', h2⟩ := h1; exact s_while I hs n k' δ2 S' (by omega) h2
        | bk δ2 => exact h1
        | rt d => exact h1
        | ex c ns ds δ2 => exact h1
      | ex c ns ds S' => rw [z] at h1; exact h1
      | bad => rw [z] at h1; exact h1
theorem g_enum (q : Rn (ml δ S) (fun ds S => ∃ es, ds = [.lst es] ∧ QA (enumD es) S) X) : Rn (mIEnum ml δ S) QA X :=
  run_bnd' (run_mono q (fun ds S ⟨es, e, h⟩ => by subst e; exact h) fun _ _ _ _ z => z)
theorem g_eqL {c : Nat} (q : Rn (ma δ S) (fun x S => Rn (mb δ S) (fun y S => ∃ xs ys, x = .lst xs ∧ y = .lst ys ∧ EqAll c m S xs ys ∧ Q (.bl true) S) X) X) : Rn (mEqL c m ma mb δ S) Q X :=
  run_bnd' (run_mono q (fun x S h => run_bnd' (run_mono h (fun y S ⟨xs, ys, e1, e2, h1, h2⟩ => by subst e1; subst e2; dsimp only; rw [if_pos h1]; exact h2) fun _ _ _ _ z => z)) fun _ _ _ _ z => z)
end
end MR

namespace MR
open PySem PySem.Spec L2 TP
section
variable {S S1 : Sto} {δ δ1 : Env} {Q : D → Sto → Prop} {X : XQ} {P : EndP} {d e x y : D} {me ma mb mc : ME} {mt : MT} {ml mk : MA} {ms mh : MS} {QA : List D → Sto → Prop} {m : MF}
end
end MR

namespace MR
open PySem PySem.Spec L2 TP
section
variable {S : Sto} {δ : Env} {P : EndP} {me ma mb mo mk : ME} {mt : MT} {ms : MS} {mg : MG} {ml : MA} {m : MF} {Q : D → Sto → Prop} {X : XQ} {mi : MN} {nx : Nxt} {QN : Nxt → Sto → Prop}
theorem g_getZ {c : Nat} (q : Rn (ma δ S) (fun x S => Rn (mb δ S) (fun y S => isObj S c x = true ∧ Rn (m [x, y] S) Q X) X) X) : Rn (mGetZ c m ma mb δ S) Q X :=
  run_bnd' (run_mono q (fun x S h => run_bnd' (run_mono h (fun y S h => by show Rn (if isObj S c x = true then _ else _) Q X; rw [if_pos h.1]; exact h.2) fun _ _ _ _ z => z)) fun _ _ _ _ z => z)
theorem s_setZ {c : Nat} (q : Rn (me δ S) (fun d S => Rn (mo δ S) (fun x S => Rn (mk δ S) (fun k S => isObj S c x = true ∧ Rn (m [x, k, d] S) (fun _ S => P.nx δ S) fun c ns ds S => P.ex c ns ds δ S) fun c ns ds S => P.ex c ns ds δ S) fun c ns ds S => P.ex c ns ds δ S) fun c ns ds S => P.ex c ns ds δ S) : RunS (mSetZ c m me mo mk δ S) P :=
  runS_bnd (run_mono q (fun d S h => runS_bnd (run_mono h (fun x S h => runS_bnd (run_mono h (fun k S h => by
    show RunS (if isObj S c x = true then _ else _) P
    rw [if_pos h.1]
    exact runS_bnd h.2) fun _ _ _ _ z => z)) fun _ _ _ _ z => z)) fun _ _ _ _ z => z)
end
end MR

namespace MR
open PySem PySem.Spec L2 TP
theorem run_to {α : Type} {o : Out α} {a : α} {S' : Sto} {Q : α → Sto → Prop} {X : XQ} (h : o = .ok a S') (q : Q a S') : Rn o Q X := by rw [h]; exact q
theorem run_ok' {α : Type} {o : Out α} {a : α} {S' : Sto} (h : Rn o (fun r T => r = a ∧ T = S') noXQ) : o = .ok a S' := by
  obtain ⟨a, T, e, rfl, rfl⟩ := run_ok h
  exact e
section
variable {S : Sto} {δ : Env} {P : EndP} {me ma mb mo mk : ME} {m : MF} {Q : D → Sto → Prop} {X : XQ} {d e x y : D} {neg : Bool}
theorem g_lc2 {mi mi1 : MA} {mg mg1 : MG} {mt mt1 : MT} {vs vs1 : List Nat} (q : Rn (mi δ S) (fun ds S => ds.length ≤ 4000 ∧ Rn (mLc2L mg mt mi1 mg1 mt1 me vs1 (mwipe δ vs) ds S) (fun ys S => Q (.lst ys) S) X) X) : Rn (mLc2 mi mg mt mi1 mg1 mt1 me vs vs1 δ S) Q X :=
  run_bnd' (run_mono q (fun ds S h => by rw [if_pos h.1]; exact run_bnd' h.2) fun _ _ _ _ z => z)
end
end MR

namespace MR
open PySem PySem.Spec L2 TP
section
variable {S : Sto} {δ : Env} {me ma mb : ME} {ml mk : MA} {m : MF} {Q : D → Sto → Prop} {X : XQ} {QA : List D → Sto → Prop}
end
end MR

namespace Law
open PySem PySem.Spec PyProof.Rows L2 TP
def topS (i : Nat) : Stmt := PySem.Challenge.pw_trustedpages_k61_whole_no_cleanings_save.main.body.getD i (.Pass ⟨0, 0, 0, 0⟩)
structure Txt (P : Program) (w : World) (K : PySem.W.Frag) (mg : Str → Option Value) (a_Marks : Addr) (a_BadMarks : Addr) (a_BadDeed : Addr) : Prop where
  n_len : mg "len" = none
  n_isinstance : mg "isinstance" = none
  n_int : mg "int" = none
  n_bool : mg "bool" = none
  n_range : mg "range" = none
  n_list : mg "list" = none
  n_enumerate : mg "enumerate" = none
  n_tuple : mg "tuple" = none
  n_str : mg "str" = none
  n_max : mg "max" = none
  n_min : mg "min" = none
  n_sum : mg "sum" = none
  n_sorted : mg "sorted" = none
  g_Marks : mg "Marks" = some (.ref a_Marks)
  g_MOST_PAGES : ∃ t, mg "MOST_PAGES" = some (.int 64 t)
  e_BadMarks : ErrI P K mg "BadMarks" a_BadMarks "at"
  g_BadMarks : mg "BadMarks" = some (.ref a_BadMarks)
  e_BadDeed : ErrI P K mg "BadDeed" a_BadDeed "index"
  g_BadDeed : mg "BadDeed" = some (.ref a_BadDeed)
  c_Marks : OwnC K a_Marks
  f_Marks_kept : NoAttr K a_Marks "kept"
section
variable {P : Program} {w : World} {K : PySem.W.Frag} {mg : Str → Option Value} {base : Heap} {a_Marks a_BadMarks a_BadDeed : Addr}
abbrev s_is_integer : Stmt := (topS 10)
abbrev N_is_integer : List Str := ["value"]
theorem sc_is_integer : FnScope N_is_integer ["value"] (defScope s_is_integer) := ⟨rfl, rfl, rfl, by decide +kernel, rfl, by decide +kernel, by decide +kernel⟩
def t_is_integer (K : PySem.W.Frag) (W : WX) : TS :=
    (tRet (tAndV (tCB (rIsi K) (tCons (tVar 0) (tCons (tC (.ty "int")) tNil))) (tNotV (tCB (rIsi K) (tCons (tVar 0) (tCons (tC (.ty "bool")) tNil))))))
theorem d_is_integer (T : Txt P w K mg a_Marks a_BadMarks a_BadDeed) (f : Addr) (cdv : Value) (A : Around) (outer : List Env) (s : Shared) (H : Hp) (E : XK) (hr : TP.Room 0 (A.deeper (envOfC "is_integer" (defScope s_is_integer) s.heap.objs.size f cdv))) :
    PSs (cxOf (L2.CX P w) P w K mg base N_is_integer "is_integer" (defScope s_is_integer) f cdv A outer s H E) (defBody s_is_integer) (t_is_integer K (wOut E)) :=
  have nd := sc_is_integer.nd
  have tk : Takes (cxOf (L2.CX P w) P w K mg base N_is_integer "is_integer" (defScope s_is_integer) f cdv A outer s H E) (wOut E) := takes_of rfl rfl rfl rfl
  have po : PassesOwn (model P w) (cxOf (L2.CX P w) P w K mg base N_is_integer "is_integer" (defScope s_is_integer) f cdv A outer s H E).A (cxOf (L2.CX P w) P w K mg base N_is_integer "is_integer" (defScope s_is_integer) f cdv A outer s H E).env (cxOf (L2.CX P w) P w K mg base N_is_integer "is_integer" (defScope s_is_integer) f cdv A outer s H E).xe := passes_of rfl
  (pss_one (ps_ret (pe_and (pe_callB call_isi (by rfl) T.n_isinstance (by decide +kernel) (pa_cons (pv 0) (pa_cons (pe_bltn (by rfl) T.n_int boot_int rfl) pa_nil))) (pe_one (pe_not (pe_callB call_isi (by rfl) T.n_isinstance (by decide +kernel) (pa_cons (pv 0) (pa_cons (pe_bltn (by rfl) T.n_bool boot_bool rfl) pa_nil))))))))
abbrev s_is_many : Stmt := (topS 24)
abbrev N_is_many : List Str := ["many"]
theorem sc_is_many : FnScope N_is_many ["many"] (defScope s_is_many) := ⟨rfl, rfl, rfl, by decide +kernel, rfl, by decide +kernel, by decide +kernel⟩
def t_is_many (K : PySem.W.Frag) (sp_is_integer : Sp) (W : WX) : TS :=
    (tRet (tAndV (tCallZ sp_is_integer W (tCons (tVar 0) tNil)) (tChain rLeq rLeq (tC (.int 1)) (tVar 0) (tC (.int 64)))))
theorem d_is_many {sp_is_integer : Sp} (T : Txt P w K mg a_Marks a_BadMarks a_BadDeed) (I_is_integer : FnZ P w K mg base 1 "is_integer" ["value"] sp_is_integer) (f : Addr) (cdv : Value) (A : Around) (outer : List Env) (s : Shared) (H : Hp) (E : XK) (hr : TP.Room 1 (A.deeper (envOfC "is_many" (defScope s_is_many) s.heap.objs.size f cdv))) :
    PSs (cxOf (L2.CX P w) P w K mg base N_is_many "is_many" (defScope s_is_many) f cdv A outer s H E) (defBody s_is_many) (t_is_many K sp_is_integer (wOut E)) :=
  have nd := sc_is_many.nd
  have tk : Takes (cxOf (L2.CX P w) P w K mg base N_is_many "is_many" (defScope s_is_many) f cdv A outer s H E) (wOut E) := takes_of rfl rfl rfl rfl
  have po : PassesOwn (model P w) (cxOf (L2.CX P w) P w K mg base N_is_many "is_many" (defScope s_is_many) f cdv A outer s H E).A (cxOf (L2.CX P w) P w K mg base N_is_many "is_many" (defScope s_is_many) f cdv A outer s H E).env (cxOf (L2.CX P w) P w K mg base N_is_many "is_many" (defScope s_is_many) f cdv A outer s H E).xe := passes_of rfl
  (pss_one (ps_ret (pe_and (pe_callZ I_is_integer hr (by decide) tk (pa_cons (pv 0) pa_nil)) (pe_one (pe_chain op_leq op_leq pe_int (pv 0) (pe_globI T.g_MOST_PAGES))))))
abbrev s_MarksU_initU : Stmt := (inClass (topS 26) 0)
abbrev N_MarksU_initU : List Str := ["self", "many", "truths"]
theorem sc_MarksU_initU : FnScope N_MarksU_initU ["self", "many", "truths"] (defScope s_MarksU_initU) := ⟨rfl, rfl, rfl, by decide +kernel, rfl, by decide +kernel, by decide +kernel⟩
def t_MarksU_initU (K : PySem.W.Frag) (a_BadMarks : Addr) (a_Marks : Addr) (sp_is_many : Sp) (W : WX) : TS :=
    (tSeq (tIfS (tNot (tB (tCallZ sp_is_many W (tCons (tVar 1) tNil)))) (tRaise a_BadMarks "at" W (tCons (tVar 1) tNil)) tNext)
    (tSetF a_Marks "kept" (tVar 0) (tIf (tTest (tOp rIsNo (tVar 2) (tC .non))) (tOp rTimes (tLst (tCons (tC (.bl false)) tNil)) (tVar 1)) (tCB (rListOf K) (tCons (tVar 2) tNil)))))
theorem d_MarksU_initU {sp_is_many : Sp} (T : Txt P w K mg a_Marks a_BadMarks a_BadDeed) (I_is_many : FnZ P w K mg base 2 "is_many" ["many"] sp_is_many) (f : Addr) (cdv : Value) (A : Around) (outer : List Env) (s : Shared) (H : Hp) (E : XK) (hr : TP.Room 3 (A.deeper (envOfC "Marks.__init__" (defScope s_MarksU_initU) s.heap.objs.size f cdv))) :
    PSs (cxOf (L2.CX P w) P w K mg base N_MarksU_initU "Marks.__init__" (defScope s_MarksU_initU) f cdv A outer s H E) (defBody s_MarksU_initU) (t_MarksU_initU K a_BadMarks a_Marks sp_is_many (wOut E)) :=
  have nd := sc_MarksU_initU.nd
  have tk : Takes (cxOf (L2.CX P w) P w K mg base N_MarksU_initU "Marks.__init__" (defScope s_MarksU_initU) f cdv A outer s H E) (wOut E) := takes_of rfl rfl rfl rfl
  have po : PassesOwn (model P w) (cxOf (L2.CX P w) P w K mg base N_MarksU_initU "Marks.__init__" (defScope s_MarksU_initU) f cdv A outer s H E).A (cxOf (L2.CX P w) P w K mg base N_MarksU_initU "Marks.__init__" (defScope s_MarksU_initU) f cdv A outer s H E).env (cxOf (L2.CX P w) P w K mg base N_MarksU_initU "Marks.__init__" (defScope s_MarksU_initU) f cdv A outer s H E).xe := passes_of rfl
  (pss_cons (ps_if (pt_not (pt_val (pe_callZ I_is_many hr (by decide) tk (pa_cons (pv 1) pa_nil)))) (pss_one (ps_raiseZ rfl tk T.e_BadMarks hr (by decide) (pa_cons (pv 1) pa_nil))) pss_nil)
    (pss_one (ps_setF T.c_Marks.cls T.f_Marks_kept (pv 0) (pe_ifExp (pt_cmpR op_isno (pv 2) pe_non (nomark _)) (pe_op op_times (pe_lst (pa_cons pe_bl pa_nil)) (pv 1)) (pe_callTy cr_list (by rfl) T.n_list (by decide +kernel) (pa_cons (pv 2) pa_nil))))))
abbrev s_Marks_check : Stmt := (inClass (topS 26) 2)
abbrev N_Marks_check : List Str := ["self", "at"]
theorem sc_Marks_check : FnScope N_Marks_check ["self", "at"] (defScope s_Marks_check) := ⟨rfl, rfl, rfl, by decide +kernel, rfl, by decide +kernel, by decide +kernel⟩
def t_Marks_check (K : PySem.W.Frag) (a_BadMarks : Addr) (a_Marks : Addr) (sp_is_integer : Sp) (W : WX) : TS :=
    (tIfS (tOr (tNot (tB (tCallZ sp_is_integer W (tCons (tVar 1) tNil)))) (tNot (tTest (tChain rLeq rLess (tC (.int 0)) (tVar 1) (tCB (TP.rLen K) (tCons (tGetF a_Marks "kept" (tVar 0)) tNil)))))) (tRaise a_BadMarks "at" W (tCons (tVar 1) tNil)) tNext)
theorem d_Marks_check {sp_is_integer : Sp} (T : Txt P w K mg a_Marks a_BadMarks a_BadDeed) (I_is_integer : FnZ P w K mg base 1 "is_integer" ["value"] sp_is_integer) (f : Addr) (cdv : Value) (A : Around) (outer : List Env) (s : Shared) (H : Hp) (E : XK) (hr : TP.Room 3 (A.deeper (envOfC "Marks.check" (defScope s_Marks_check) s.heap.objs.size f cdv))) :
    PSs (cxOf (L2.CX P w) P w K mg base N_Marks_check "Marks.check" (defScope s_Marks_check) f cdv A outer s H E) (defBody s_Marks_check) (t_Marks_check K a_BadMarks a_Marks sp_is_integer (wOut E)) :=
  have nd := sc_Marks_check.nd
  have tk : Takes (cxOf (L2.CX P w) P w K mg base N_Marks_check "Marks.check" (defScope s_Marks_check) f cdv A outer s H E) (wOut E) := takes_of rfl rfl rfl rfl
  have po : PassesOwn (model P w) (cxOf (L2.CX P w) P w K mg base N_Marks_check "Marks.check" (defScope s_Marks_check) f cdv A outer s H E).A (cxOf (L2.CX P w) P w K mg base N_Marks_check "Marks.check" (defScope s_Marks_check) f cdv A outer s H E).env (cxOf (L2.CX P w) P w K mg base N_Marks_check "Marks.check" (defScope s_Marks_check) f cdv A outer s H E).xe := passes_of rfl
  (pss_one (ps_if (PW.pt (pw_or (pt_not (pt_val (pe_callZ I_is_integer hr (by decide) tk (pa_cons (pv 1) pa_nil)))) (pw_or1 (pt_not (pt_chain op_leq op_less pe_int (pv 1) (pe_callB TP.cr_len (by rfl) T.n_len (by decide +kernel) (pa_cons (pe_getF T.c_Marks.cls T.f_Marks_kept (pv 0)) pa_nil))))))) (pss_one (ps_raiseZ rfl tk T.e_BadMarks hr (by decide) (pa_cons (pv 1) pa_nil))) pss_nil))
abbrev s_MarksU_getitemU : Stmt := (inClass (topS 26) 5)
abbrev N_MarksU_getitemU : List Str := ["self", "at"]
theorem sc_MarksU_getitemU : FnScope N_MarksU_getitemU ["self", "at"] (defScope s_MarksU_getitemU) := ⟨rfl, rfl, rfl, by decide +kernel, rfl, by decide +kernel, by decide +kernel⟩
def t_MarksU_getitemU (K : PySem.W.Frag) (a_Marks : Addr) (sp_Marks_check : Sp) (W : WX) : TS :=
    (tSeq (tDrop (tMethZ a_Marks "check" sp_Marks_check W (tVar 0) (tCons (tVar 1) tNil)))
    (tRet (tOp (rIx K) (tGetF a_Marks "kept" (tVar 0)) (tVar 1))))
theorem d_MarksU_getitemU {sp_Marks_check : Sp} (T : Txt P w K mg a_Marks a_BadMarks a_BadDeed) (I_Marks_check : MthZ P w K mg base 4 a_Marks "check" ["self", "at"] sp_Marks_check) (f : Addr) (cdv : Value) (A : Around) (outer : List Env) (s : Shared) (H : Hp) (E : XK) (hr : TP.Room 4 (A.deeper (envOfC "Marks.__getitem__" (defScope s_MarksU_getitemU) s.heap.objs.size f cdv))) :
    PSs (cxOf (L2.CX P w) P w K mg base N_MarksU_getitemU "Marks.__getitem__" (defScope s_MarksU_getitemU) f cdv A outer s H E) (defBody s_MarksU_getitemU) (t_MarksU_getitemU K a_Marks sp_Marks_check (wOut E)) :=
  have nd := sc_MarksU_getitemU.nd
  have tk : Takes (cxOf (L2.CX P w) P w K mg base N_MarksU_getitemU "Marks.__getitem__" (defScope s_MarksU_getitemU) f cdv A outer s H E) (wOut E) := takes_of rfl rfl rfl rfl
  have po : PassesOwn (model P w) (cxOf (L2.CX P w) P w K mg base N_MarksU_getitemU "Marks.__getitem__" (defScope s_MarksU_getitemU) f cdv A outer s H E).A (cxOf (L2.CX P w) P w K mg base N_MarksU_getitemU "Marks.__getitem__" (defScope s_MarksU_getitemU) f cdv A outer s H E).env (cxOf (L2.CX P w) P w K mg base N_MarksU_getitemU "Marks.__getitem__" (defScope s_MarksU_getitemU) f cdv A outer s H E).xe := passes_of rfl
  (pss_cons (ps_expr (pe_methZ (pv 0) T.c_Marks.cls I_Marks_check hr (by decide) tk (pa_cons (pv 1) pa_nil)))
    (pss_one (ps_ret (pe_ix ix_seq (pe_getF T.c_Marks.cls T.f_Marks_kept (pv 0)) (pv 1) (fun _ _ => rfl)))))
abbrev s_MarksU_setitemU : Stmt := (inClass (topS 26) 6)
abbrev N_MarksU_setitemU : List Str := ["self", "at", "value"]
theorem sc_MarksU_setitemU : FnScope N_MarksU_setitemU ["self", "at", "value"] (defScope s_MarksU_setitemU) := ⟨rfl, rfl, rfl, by decide +kernel, rfl, by decide +kernel, by decide +kernel⟩
def t_MarksU_setitemU (K : PySem.W.Frag) (a_BadMarks : Addr) (a_Marks : Addr) (sp_Marks_check : Sp) (W : WX) : TS :=
    (tSeq (tDrop (tMethZ a_Marks "check" sp_Marks_check W (tVar 0) (tCons (tVar 1) tNil)))
    (tSeq (tIfS (tNot (tB (tCB (rIsi K) (tCons (tVar 2) (tCons (tC (.ty "bool")) tNil))))) (tRaise a_BadMarks "at" W (tCons (tC .non) tNil)) tNext)
    (tAsg (tVar 2) (gSub (tGetF a_Marks "kept" (tVar 0)) (tVar 1) rSetL))))
theorem d_MarksU_setitemU {sp_Marks_check : Sp} (T : Txt P w K mg a_Marks a_BadMarks a_BadDeed) (I_Marks_check : MthZ P w K mg base 4 a_Marks "check" ["self", "at"] sp_Marks_check) (f : Addr) (cdv : Value) (A : Around) (outer : List Env) (s : Shared) (H : Hp) (E : XK) (hr : TP.Room 4 (A.deeper (envOfC "Marks.__setitem__" (defScope s_MarksU_setitemU) s.heap.objs.size f cdv))) :
    PSs (cxOf (L2.CX P w) P w K mg base N_MarksU_setitemU "Marks.__setitem__" (defScope s_MarksU_setitemU) f cdv A outer s H E) (defBody s_MarksU_setitemU) (t_MarksU_setitemU K a_BadMarks a_Marks sp_Marks_check (wOut E)) :=
  have nd := sc_MarksU_setitemU.nd
  have tk : Takes (cxOf (L2.CX P w) P w K mg base N_MarksU_setitemU "Marks.__setitem__" (defScope s_MarksU_setitemU) f cdv A outer s H E) (wOut E) := takes_of rfl rfl rfl rfl
  have po : PassesOwn (model P w) (cxOf (L2.CX P w) P w K mg base N_MarksU_setitemU "Marks.__setitem__" (defScope s_MarksU_setitemU) f cdv A outer s H E).A (cxOf (L2.CX P w) P w K mg base N_MarksU_setitemU "Marks.__setitem__" (defScope s_MarksU_setitemU) f cdv A outer s H E).env (cxOf (L2.CX P w) P w K mg base N_MarksU_setitemU "Marks.__setitem__" (defScope s_MarksU_setitemU) f cdv A outer s H E).xe := passes_of rfl
  (pss_cons (ps_expr (pe_methZ (pv 0) T.c_Marks.cls I_Marks_check hr (by decide) tk (pa_cons (pv 1) pa_nil)))
    (pss_cons (ps_if (pt_not (pt_val (pe_callB call_isi (by rfl) T.n_isinstance (by decide +kernel) (pa_cons (pv 2) (pa_cons (pe_bltn (by rfl) T.n_bool boot_bool rfl) pa_nil))))) (pss_one (ps_raiseZ rfl tk T.e_BadMarks hr (by decide) (pa_cons pe_non pa_nil))) pss_nil)
    (pss_one (ps_asg (pv 2) (pg_sub (pe_getF T.c_Marks.cls T.f_Marks_kept (pv 0)) (pv 1) set_list)))))
abbrev s_MarksU_lenU : Stmt := (inClass (topS 26) 4)
abbrev N_MarksU_lenU : List Str := ["self"]
theorem sc_MarksU_lenU : FnScope N_MarksU_lenU ["self"] (defScope s_MarksU_lenU) := ⟨rfl, rfl, rfl, by decide +kernel, rfl, by decide +kernel, by decide +kernel⟩
def t_MarksU_lenU (K : PySem.W.Frag) (a_Marks : Addr) (W : WX) : TS :=
    (tRet (tCB (TP.rLen K) (tCons (tGetF a_Marks "kept" (tVar 0)) tNil)))
theorem d_MarksU_lenU (T : Txt P w K mg a_Marks a_BadMarks a_BadDeed) (f : Addr) (cdv : Value) (A : Around) (outer : List Env) (s : Shared) (H : Hp) (E : XK) (hr : TP.Room 0 (A.deeper (envOfC "Marks.__len__" (defScope s_MarksU_lenU) s.heap.objs.size f cdv))) :
    PSs (cxOf (L2.CX P w) P w K mg base N_MarksU_lenU "Marks.__len__" (defScope s_MarksU_lenU) f cdv A outer s H E) (defBody s_MarksU_lenU) (t_MarksU_lenU K a_Marks (wOut E)) :=
  have nd := sc_MarksU_lenU.nd
  have tk : Takes (cxOf (L2.CX P w) P w K mg base N_MarksU_lenU "Marks.__len__" (defScope s_MarksU_lenU) f cdv A outer s H E) (wOut E) := takes_of rfl rfl rfl rfl
  have po : PassesOwn (model P w) (cxOf (L2.CX P w) P w K mg base N_MarksU_lenU "Marks.__len__" (defScope s_MarksU_lenU) f cdv A outer s H E).A (cxOf (L2.CX P w) P w K mg base N_MarksU_lenU "Marks.__len__" (defScope s_MarksU_lenU) f cdv A outer s H E).env (cxOf (L2.CX P w) P w K mg base N_MarksU_lenU "Marks.__len__" (defScope s_MarksU_lenU) f cdv A outer s H E).xe := passes_of rfl
  (pss_one (ps_ret (pe_callB TP.cr_len (by rfl) T.n_len (by decide +kernel) (pa_cons (pe_getF T.c_Marks.cls T.f_Marks_kept (pv 0)) pa_nil))))
abbrev s_marks_of : Stmt := (topS 25)
abbrev N_marks_of : List Str := ["truths"]
theorem sc_marks_of : FnScope N_marks_of ["truths"] (defScope s_marks_of) := ⟨rfl, rfl, rfl, by decide +kernel, rfl, by decide +kernel, by decide +kernel⟩
def t_marks_of (K : PySem.W.Frag) (a_Marks : Addr) (sp_MarksU_initU : Sp) (W : WX) : TS :=
    (tRet (tNew a_Marks sp_MarksU_initU W [] (tCons (tCB (TP.rLen K) (tCons (tVar 0) tNil)) (tCons (tVar 0) tNil))))
theorem d_marks_of {sp_MarksU_initU : Sp} (T : Txt P w K mg a_Marks a_BadMarks a_BadDeed) (I_MarksU_initU_0 : MakZ P w K mg base 4 "Marks" a_Marks ["self", "many", "truths"] sp_MarksU_initU []) (f : Addr) (cdv : Value) (A : Around) (outer : List Env) (s : Shared) (H : Hp) (E : XK) (hr : TP.Room 5 (A.deeper (envOfC "marks_of" (defScope s_marks_of) s.heap.objs.size f cdv))) :
    PSs (cxOf (L2.CX P w) P w K mg base N_marks_of "marks_of" (defScope s_marks_of) f cdv A outer s H E) (defBody s_marks_of) (t_marks_of K a_Marks sp_MarksU_initU (wOut E)) :=
  have nd := sc_marks_of.nd
  have tk : Takes (cxOf (L2.CX P w) P w K mg base N_marks_of "marks_of" (defScope s_marks_of) f cdv A outer s H E) (wOut E) := takes_of rfl rfl rfl rfl
  have po : PassesOwn (model P w) (cxOf (L2.CX P w) P w K mg base N_marks_of "marks_of" (defScope s_marks_of) f cdv A outer s H E).A (cxOf (L2.CX P w) P w K mg base N_marks_of "marks_of" (defScope s_marks_of) f cdv A outer s H E).env (cxOf (L2.CX P w) P w K mg base N_marks_of "marks_of" (defScope s_marks_of) f cdv A outer s H E).xe := passes_of rfl
  (pss_one (ps_ret (pe_new (dvs := []) I_MarksU_initU_0 .nil hr (by decide) tk (pa_cons (pe_callB TP.cr_len (by rfl) T.n_len (by decide +kernel) (pa_cons (pv 0) pa_nil)) (pa_cons (pv 0) pa_nil)))))
abbrev s_Marks_twin : Stmt := (inClass (topS 26) 15)
abbrev N_Marks_twin : List Str := ["self"]
theorem sc_Marks_twin : FnScope N_Marks_twin ["self"] (defScope s_Marks_twin) := ⟨rfl, rfl, rfl, by decide +kernel, rfl, by decide +kernel, by decide +kernel⟩
def t_Marks_twin (K : PySem.W.Frag) (a_Marks : Addr) (sp_marks_of : Sp) (W : WX) : TS :=
    (tRet (tCallZ sp_marks_of W (tCons (tGetF a_Marks "kept" (tVar 0)) tNil)))
theorem d_Marks_twin {sp_marks_of : Sp} (T : Txt P w K mg a_Marks a_BadMarks a_BadDeed) (I_marks_of : FnZ P w K mg base 6 "marks_of" ["truths"] sp_marks_of) (f : Addr) (cdv : Value) (A : Around) (outer : List Env) (s : Shared) (H : Hp) (E : XK) (hr : TP.Room 6 (A.deeper (envOfC "Marks.twin" (defScope s_Marks_twin) s.heap.objs.size f cdv))) :
    PSs (cxOf (L2.CX P w) P w K mg base N_Marks_twin "Marks.twin" (defScope s_Marks_twin) f cdv A outer s H E) (defBody s_Marks_twin) (t_Marks_twin K a_Marks sp_marks_of (wOut E)) :=
  have nd := sc_Marks_twin.nd
  have tk : Takes (cxOf (L2.CX P w) P w K mg base N_Marks_twin "Marks.twin" (defScope s_Marks_twin) f cdv A outer s H E) (wOut E) := takes_of rfl rfl rfl rfl
  have po : PassesOwn (model P w) (cxOf (L2.CX P w) P w K mg base N_Marks_twin "Marks.twin" (defScope s_Marks_twin) f cdv A outer s H E).A (cxOf (L2.CX P w) P w K mg base N_Marks_twin "Marks.twin" (defScope s_Marks_twin) f cdv A outer s H E).env (cxOf (L2.CX P w) P w K mg base N_Marks_twin "Marks.twin" (defScope s_Marks_twin) f cdv A outer s H E).xe := passes_of rfl
  (pss_one (ps_ret (pe_callZ I_marks_of hr (by decide) tk (pa_cons (pe_getF T.c_Marks.cls T.f_Marks_kept (pv 0)) pa_nil))))
abbrev s_is_page : Stmt := (topS 12)
abbrev N_is_page : List Str := ["marks", "page"]
theorem sc_is_page : FnScope N_is_page ["marks", "page"] (defScope s_is_page) := ⟨rfl, rfl, rfl, by decide +kernel, rfl, by decide +kernel, by decide +kernel⟩
def t_is_page (K : PySem.W.Frag) (a_Marks : Addr) (sp_is_integer : Sp) (sp_MarksU_lenU : Sp) (W : WX) : TS :=
    (tRet (tAndV (tCallZ sp_is_integer W (tCons (tVar 1) tNil)) (tChain rLeq rLess (tC (.int 0)) (tVar 1) (tCBS (rLenZ a_Marks sp_MarksU_lenU W) (tCons (tVar 0) tNil)))))
theorem d_is_page {sp_is_integer : Sp} {sp_MarksU_lenU : Sp} (T : Txt P w K mg a_Marks a_BadMarks a_BadDeed) (I_is_integer : FnZ P w K mg base 1 "is_integer" ["value"] sp_is_integer) (I_MarksU_lenU : MthZ P w K mg base 1 a_Marks "__len__" ["self"] sp_MarksU_lenU) (f : Addr) (cdv : Value) (A : Around) (outer : List Env) (s : Shared) (H : Hp) (E : XK) (hr : TP.Room 2 (A.deeper (envOfC "is_page" (defScope s_is_page) s.heap.objs.size f cdv))) :
    PSs (cxOf (L2.CX P w) P w K mg base N_is_page "is_page" (defScope s_is_page) f cdv A outer s H E) (defBody s_is_page) (t_is_page K a_Marks sp_is_integer sp_MarksU_lenU (wOut E)) :=
  have nd := sc_is_page.nd
  have tk : Takes (cxOf (L2.CX P w) P w K mg base N_is_page "is_page" (defScope s_is_page) f cdv A outer s H E) (wOut E) := takes_of rfl rfl rfl rfl
  have po : PassesOwn (model P w) (cxOf (L2.CX P w) P w K mg base N_is_page "is_page" (defScope s_is_page) f cdv A outer s H E).A (cxOf (L2.CX P w) P w K mg base N_is_page "is_page" (defScope s_is_page) f cdv A outer s H E).env (cxOf (L2.CX P w) P w K mg base N_is_page "is_page" (defScope s_is_page) f cdv A outer s H E).xe := passes_of rfl
  (pss_one (ps_ret (pe_and (pe_callZ I_is_integer hr (by decide) tk (pa_cons (pv 1) pa_nil)) (pe_one (pe_chain op_leq op_less pe_int (pv 1) (pe_lenZ I_MarksU_lenU hr (by decide) tk T.n_len (pa_cons (pv 0) pa_nil)))))))
abbrev s_check_deeds : Stmt := (topS 13)
abbrev N_check_deeds : List Str := ["deeds", "marks", "at", "deed"]
theorem sc_check_deeds : FnScope N_check_deeds ["deeds", "marks"] (defScope s_check_deeds) := ⟨rfl, rfl, rfl, by decide +kernel, rfl, by decide +kernel, by decide +kernel⟩
def t_check_deeds (K : PySem.W.Frag) (a_BadDeed : Addr) (sp_is_page : Sp) (W : WX) : TS :=
    (tFor (iEnum K (tCons (tVar 0) tNil)) (gTup K 2 (gCons (gName 2) (gCons (gName 3) gNil))) (tSeq (tIfS (tOr (tNot (tB (tCB (rIsi K) (tCons (tVar 3) (tCons (tC (.ty "tuple")) tNil))))) (tOr (tTest (tOp (rUnlike K) (tCB (TP.rLen K) (tCons (tVar 3) tNil)) (tC (.int 2)))) (tNot (tB (tCB (rIsi K) (tCons (tOp (rIx K) (tVar 3) (tC (.int 0))) (tCons (tC (.ty "str")) tNil))))))) (tRaise a_BadDeed "index" W (tCons (tVar 2) tNil)) tNext)
    (tIfS (tOr (tTest (tOp (rIn K true) (tOp (rIx K) (tVar 3) (tC (.int 0))) (tTup (tCons (tC (.str "write")) (tCons (tC (.str "read")) tNil))))) (tNot (tB (tCallZ sp_is_page W (tCons (tVar 1) (tCons (tOp (rIx K) (tVar 3) (tC (.int 1))) tNil)))))) (tRaise a_BadDeed "index" W (tCons (tVar 2) tNil)) tNext)))
theorem d_check_deeds {sp_is_page : Sp} (T : Txt P w K mg a_Marks a_BadMarks a_BadDeed) (I_is_page : FnZ P w K mg base 3 "is_page" ["marks", "page"] sp_is_page) (f : Addr) (cdv : Value) (A : Around) (outer : List Env) (s : Shared) (H : Hp) (E : XK) (hr : TP.Room 3 (A.deeper (envOfC "check_deeds" (defScope s_check_deeds) s.heap.objs.size f cdv))) :
    PSs (cxOf (L2.CX P w) P w K mg base N_check_deeds "check_deeds" (defScope s_check_deeds) f cdv A outer s H E) (defBody s_check_deeds) (t_check_deeds K a_BadDeed sp_is_page (wOut E)) :=
  have nd := sc_check_deeds.nd
  have tk : Takes (cxOf (L2.CX P w) P w K mg base N_check_deeds "check_deeds" (defScope s_check_deeds) f cdv A outer s H E) (wOut E) := takes_of rfl rfl rfl rfl
  have po : PassesOwn (model P w) (cxOf (L2.CX P w) P w K mg base N_check_deeds "check_deeds" (defScope s_check_deeds) f cdv A outer s H E).A (cxOf (L2.CX P w) P w K mg base N_check_deeds "check_deeds" (defScope s_check_deeds) f cdv A outer s H E).env (cxOf (L2.CX P w) P w K mg base N_check_deeds "check_deeds" (defScope s_check_deeds) f cdv A outer s H E).xe := passes_of rfl
  (pss_one (ps_for po rfl (pi_enum (by rfl) T.n_enumerate (pa_cons (pv 0) pa_nil)) (pg_tup rfl (pgs_cons (pg_name (i := 2) nd rfl (Or.inl rfl)) (pgs_cons (pg_name (i := 3) nd rfl (Or.inl rfl)) pgs_nil))) (pss_cons (ps_if (PW.pt (pw_or (pt_not (pt_val (pe_callB call_isi (by rfl) T.n_isinstance (by decide +kernel) (pa_cons (pv 3) (pa_cons (pe_bltn (by rfl) T.n_tuple boot_tuple rfl) pa_nil))))) (pw_or (pt_cmpR (op_unlike hr.units) (pe_callB TP.cr_len (by rfl) T.n_len (by decide +kernel) (pa_cons (pv 3) pa_nil)) pe_int (nomark _)) (pw_or1 (pt_not (pt_val (pe_callB call_isi (by rfl) T.n_isinstance (by decide +kernel) (pa_cons (pe_ix ix_seq (pv 3) pe_int (fun _ _ => rfl)) (pa_cons (pe_bltn (by rfl) T.n_str boot_str rfl) pa_nil))))))))) (pss_one (ps_raiseZ rfl tk T.e_BadDeed hr (by decide) (pa_cons (pv 2) pa_nil))) pss_nil)
    (pss_one (ps_if (PW.pt (pw_or (pt_cmpR op_notIn_seq (pe_ix ix_seq (pv 3) pe_int (fun _ _ => rfl)) (pe_tup (pa_cons pe_str (pa_cons pe_str pa_nil))) (by rfl)) (pw_or1 (pt_not (pt_val (pe_callZ I_is_page hr (by decide) tk (pa_cons (pv 1) (pa_cons (pe_ix ix_seq (pv 3) pe_int (fun _ _ => rfl)) pa_nil)))))))) (pss_one (ps_raiseZ rfl tk T.e_BadDeed hr (by decide) (pa_cons (pv 2) pa_nil))) pss_nil)))))
abbrev s_check_cleanings : Stmt := (topS 14)
abbrev N_check_cleanings : List Str := ["deeds", "marks", "cleanings", "cleaning"]
theorem sc_check_cleanings : FnScope N_check_cleanings ["deeds", "marks", "cleanings"] (defScope s_check_cleanings) := ⟨rfl, rfl, rfl, by decide +kernel, rfl, by decide +kernel, by decide +kernel⟩
def t_check_cleanings (K : PySem.W.Frag) (a_BadDeed : Addr) (sp_is_integer : Sp) (sp_is_page : Sp) (W : WX) : TS :=
    (tFor (iList K (tVar 2)) (gName 3) (tSeq (tIfS (tOr (tNot (tB (tCB (rIsi K) (tCons (tVar 3) (tCons (tC (.ty "tuple")) tNil))))) (tTest (tOp (rUnlike K) (tCB (TP.rLen K) (tCons (tVar 3) tNil)) (tC (.int 2))))) (tRaise a_BadDeed "index" W (tCons (tC .non) tNil)) tNext)
    (tIfS (tOr (tNot (tB (tCallZ sp_is_integer W (tCons (tOp (rIx K) (tVar 3) (tC (.int 0))) tNil)))) (tOr (tNot (tTest (tChain rLeq rLeq (tC (.int 0)) (tOp (rIx K) (tVar 3) (tC (.int 0))) (tCB (TP.rLen K) (tCons (tVar 0) tNil))))) (tNot (tB (tCallZ sp_is_page W (tCons (tVar 1) (tCons (tOp (rIx K) (tVar 3) (tC (.int 1))) tNil))))))) (tRaise a_BadDeed "index" W (tCons (tC .non) tNil)) tNext)))
theorem d_check_cleanings {sp_is_integer : Sp} {sp_is_page : Sp} (T : Txt P w K mg a_Marks a_BadMarks a_BadDeed) (I_is_integer : FnZ P w K mg base 1 "is_integer" ["value"] sp_is_integer) (I_is_page : FnZ P w K mg base 3 "is_page" ["marks", "page"] sp_is_page) (f : Addr) (cdv : Value) (A : Around) (outer : List Env) (s : Shared) (H : Hp) (E : XK) (hr : TP.Room 3 (A.deeper (envOfC "check_cleanings" (defScope s_check_cleanings) s.heap.objs.size f cdv))) :
    PSs (cxOf (L2.CX P w) P w K mg base N_check_cleanings "check_cleanings" (defScope s_check_cleanings) f cdv A outer s H E) (defBody s_check_cleanings) (t_check_cleanings K a_BadDeed sp_is_integer sp_is_page (wOut E)) :=
  have nd := sc_check_cleanings.nd
  have tk : Takes (cxOf (L2.CX P w) P w K mg base N_check_cleanings "check_cleanings" (defScope s_check_cleanings) f cdv A outer s H E) (wOut E) := takes_of rfl rfl rfl rfl
  have po : PassesOwn (model P w) (cxOf (L2.CX P w) P w K mg base N_check_cleanings "check_cleanings" (defScope s_check_cleanings) f cdv A outer s H E).A (cxOf (L2.CX P w) P w K mg base N_check_cleanings "check_cleanings" (defScope s_check_cleanings) f cdv A outer s H E).env (cxOf (L2.CX P w) P w K mg base N_check_cleanings "check_cleanings" (defScope s_check_cleanings) f cdv A outer s H E).xe := passes_of rfl
  (pss_one (ps_for po rfl (pi_list (pv 2)) (pg_name (i := 3) nd rfl (Or.inl rfl)) (pss_cons (ps_if (PW.pt (pw_or (pt_not (pt_val (pe_callB call_isi (by rfl) T.n_isinstance (by decide +kernel) (pa_cons (pv 3) (pa_cons (pe_bltn (by rfl) T.n_tuple boot_tuple rfl) pa_nil))))) (pw_or1 (pt_cmpR (op_unlike hr.units) (pe_callB TP.cr_len (by rfl) T.n_len (by decide +kernel) (pa_cons (pv 3) pa_nil)) pe_int (nomark _))))) (pss_one (ps_raiseZ rfl tk T.e_BadDeed hr (by decide) (pa_cons pe_non pa_nil))) pss_nil)
    (pss_one (ps_if (PW.pt (pw_or (pt_not (pt_val (pe_callZ I_is_integer hr (by decide) tk (pa_cons (pe_ix ix_seq (pv 3) pe_int (fun _ _ => rfl)) pa_nil)))) (pw_or (pt_not (pt_chain op_leq op_leq pe_int (pe_ix ix_seq (pv 3) pe_int (fun _ _ => rfl)) (pe_callB TP.cr_len (by rfl) T.n_len (by decide +kernel) (pa_cons (pv 0) pa_nil)))) (pw_or1 (pt_not (pt_val (pe_callZ I_is_page hr (by decide) tk (pa_cons (pv 1) (pa_cons (pe_ix ix_seq (pv 3) pe_int (fun _ _ => rfl)) pa_nil))))))))) (pss_one (ps_raiseZ rfl tk T.e_BadDeed hr (by decide) (pa_cons pe_non pa_nil))) pss_nil)))))
abbrev s_looks : Stmt := (topS 15)
abbrev N_looks : List Str := ["deeds", "marks", "cleanings", "now", "found", "at", "word", "page", "gap", "cleaned"]
theorem sc_looks : FnScope N_looks ["deeds", "marks", "cleanings"] (defScope s_looks) := ⟨rfl, rfl, rfl, by decide +kernel, rfl, by decide +kernel, by decide +kernel⟩
def t_looks (K : PySem.W.Frag) (a_Marks : Addr) (sp_MarksU_getitemU : Sp) (sp_MarksU_setitemU : Sp) (sp_Marks_twin : Sp) (sp_check_deeds : Sp) (sp_check_cleanings : Sp) (W : WX) : TS :=
    (tSeq (tDrop (tCallZ sp_check_deeds W (tCons (tVar 0) (tCons (tVar 1) tNil))))
    (tSeq (tDrop (tCallZ sp_check_cleanings W (tCons (tVar 0) (tCons (tVar 1) (tCons (tVar 2) tNil)))))
    (tSeq (tAsg (tMethZ a_Marks "twin" sp_Marks_twin W (tVar 1) tNil) (gName 3))
    (tSeq (tAsg (tC (.int 0)) (gName 4))
    (tSeq (tFor (iEnum K (tCons (tVar 0) tNil)) (gTup K 2 (gCons (gName 5) (gCons (gTup K 2 (gCons (gName 6) (gCons (gName 7) gNil))) gNil))) (tSeq (tFor (iList K (tVar 2)) (gTup K 2 (gCons (gName 8) (gCons (gName 9) gNil))) (tIfS (tTest (tOp (rSame K) (tVar 8) (tVar 5))) (tAsg (tC (.bl true)) (gSubS (tVar 3) (tVar 9) (rSetZ a_Marks sp_MarksU_setitemU W))) tNext))
    (tIfS (tTest (tOp (rSame K) (tVar 6) (tC (.str "write")))) (tAsg (tC (.bl false)) (gSubS (tVar 3) (tVar 7) (rSetZ a_Marks sp_MarksU_setitemU W))) (tIfS (tNot (tTru K (tOpS (rGetZ a_Marks sp_MarksU_getitemU W) (tVar 3) (tVar 7)))) (tAug 4 (tC (.int 1)) (ipI fun i j => i + j)) tNext))))
    (tRet (tVar 4)))))))
theorem d_looks {sp_MarksU_getitemU : Sp} {sp_MarksU_setitemU : Sp} {sp_Marks_twin : Sp} {sp_check_deeds : Sp} {sp_check_cleanings : Sp} (T : Txt P w K mg a_Marks a_BadMarks a_BadDeed) (I_MarksU_getitemU : MthZ P w K mg base 5 a_Marks "__getitem__" ["self", "at"] sp_MarksU_getitemU) (I_MarksU_setitemU : MthZ P w K mg base 5 a_Marks "__setitem__" ["self", "at", "value"] sp_MarksU_setitemU) (I_Marks_twin : MthZ P w K mg base 7 a_Marks "twin" ["self"] sp_Marks_twin) (I_check_deeds : FnZ P w K mg base 4 "check_deeds" ["deeds", "marks"] sp_check_deeds) (I_check_cleanings : FnZ P w K mg base 4 "check_cleanings" ["deeds", "marks", "cleanings"] sp_check_cleanings) (f : Addr) (cdv : Value) (A : Around) (outer : List Env) (s : Shared) (H : Hp) (E : XK) (hr : TP.Room 7 (A.deeper (envOfC "looks" (defScope s_looks) s.heap.objs.size f cdv))) :
    PSs (cxOf (L2.CX P w) P w K mg base N_looks "looks" (defScope s_looks) f cdv A outer s H E) (defBody s_looks) (t_looks K a_Marks sp_MarksU_getitemU sp_MarksU_setitemU sp_Marks_twin sp_check_deeds sp_check_cleanings (wOut E)) :=
  have nd := sc_looks.nd
  have tk : Takes (cxOf (L2.CX P w) P w K mg base N_looks "looks" (defScope s_looks) f cdv A outer s H E) (wOut E) := takes_of rfl rfl rfl rfl
  have po : PassesOwn (model P w) (cxOf (L2.CX P w) P w K mg base N_looks "looks" (defScope s_looks) f cdv A outer s H E).A (cxOf (L2.CX P w) P w K mg base N_looks "looks" (defScope s_looks) f cdv A outer s H E).env (cxOf (L2.CX P w) P w K mg base N_looks "looks" (defScope s_looks) f cdv A outer s H E).xe := passes_of rfl
  (pss_cons (ps_expr (pe_callZ I_check_deeds hr (by decide) tk (pa_cons (pv 0) (pa_cons (pv 1) pa_nil))))
    (pss_cons (ps_expr (pe_callZ I_check_cleanings hr (by decide) tk (pa_cons (pv 0) (pa_cons (pv 1) (pa_cons (pv 2) pa_nil)))))
    (pss_cons (ps_asg (pe_methZ0 (pv 1) T.c_Marks.cls I_Marks_twin hr (by decide) tk) (pg_name (i := 3) nd rfl (Or.inl rfl)))
    (pss_cons (ps_asg pe_int (pg_name (i := 4) nd rfl (Or.inl rfl)))
    (pss_cons (ps_for po rfl (pi_enum (by rfl) T.n_enumerate (pa_cons (pv 0) pa_nil)) (pg_tup rfl (pgs_cons (pg_name (i := 5) nd rfl (Or.inl rfl)) (pgs_cons (pg_tup rfl (pgs_cons (pg_name (i := 6) nd rfl (Or.inl rfl)) (pgs_cons (pg_name (i := 7) nd rfl (Or.inl rfl)) pgs_nil))) pgs_nil))) (pss_cons (ps_for po rfl (pi_list (pv 2)) (pg_tup rfl (pgs_cons (pg_name (i := 8) nd rfl (Or.inl rfl)) (pgs_cons (pg_name (i := 9) nd rfl (Or.inl rfl)) pgs_nil))) (pss_one (ps_if (pt_cmpR (op_same hr.units) (pv 8) (pv 5) (nomark _)) (pss_one (ps_asg pe_bl (pg_setZ I_MarksU_setitemU T.c_Marks hr (by decide) tk (pv 3) (pv 9)))) pss_nil)))
    (pss_one (ps_if (pt_cmpR (op_same hr.units) (pv 6) pe_str (nomark _)) (pss_one (ps_asg pe_bl (pg_setZ I_MarksU_setitemU T.c_Marks hr (by decide) tk (pv 3) (pv 7)))) (pss_one (ps_if (pt_not (pt_truth (pe_ixZ I_MarksU_getitemU hr (by decide) tk (pv 3) (pv 7) (fun _ _ => rfl)) (by intro _; rfl))) (pss_one (ps_aug (i := 4) nd rfl (Or.inl rfl) pe_int ip_add)) pss_nil))))))
    (pss_one (ps_ret (pv 4))))))))
abbrev s_place_for : Stmt := (topS 2)
abbrev N_place_for : List Str := ["rows", "row", "low", "high", "middle"]
theorem sc_place_for : FnScope N_place_for ["rows", "row"] (defScope s_place_for) := ⟨rfl, rfl, rfl, by decide +kernel, rfl, by decide +kernel, by decide +kernel⟩
def t_place_for (K : PySem.W.Frag) (W : WX) : TS :=
    (tSeq (tPar 2 3 (tCons (tC (.int 0)) (tCons (tCB (TP.rLen K) (tCons (tVar 0) tNil)) tNil)))
    (tSeq (tWhile (tTest (tOp rLess (tVar 2) (tVar 3))) (tSeq (tAsg (tOp rQuot (tOp rPlus (tVar 2) (tVar 3)) (tC (.int 2))) (gName 4))
    (tIfS (tTest (tOp (rLtT K) (tOp (rIx K) (tVar 0) (tVar 4)) (tVar 1))) (tAsg (tOp rPlus (tVar 4) (tC (.int 1))) (gName 2)) (tAsg (tVar 4) (gName 3)))))
    (tRet (tVar 2))))
theorem d_place_for (T : Txt P w K mg a_Marks a_BadMarks a_BadDeed) (f : Addr) (cdv : Value) (A : Around) (outer : List Env) (s : Shared) (H : Hp) (E : XK) (hr : TP.Room 0 (A.deeper (envOfC "place_for" (defScope s_place_for) s.heap.objs.size f cdv))) :
    PSs (cxOf (L2.CX P w) P w K mg base N_place_for "place_for" (defScope s_place_for) f cdv A outer s H E) (defBody s_place_for) (t_place_for K (wOut E)) :=
  have nd := sc_place_for.nd
  have tk : Takes (cxOf (L2.CX P w) P w K mg base N_place_for "place_for" (defScope s_place_for) f cdv A outer s H E) (wOut E) := takes_of rfl rfl rfl rfl
  have po : PassesOwn (model P w) (cxOf (L2.CX P w) P w K mg base N_place_for "place_for" (defScope s_place_for) f cdv A outer s H E).A (cxOf (L2.CX P w) P w K mg base N_place_for "place_for" (defScope s_place_for) f cdv A outer s H E).env (cxOf (L2.CX P w) P w K mg base N_place_for "place_for" (defScope s_place_for) f cdv A outer s H E).xe := passes_of rfl
  (pss_cons (ps_par (i := 2) (j := 3) (by rfl) nd rfl rfl (by decide) rfl rfl (pa_cons pe_int (pa_cons (pe_callB TP.cr_len (by rfl) T.n_len (by decide +kernel) (pa_cons (pv 0) pa_nil)) pa_nil)) (by rfl))
    (pss_cons (ps_while po (pt_cmpR op_less (pv 2) (pv 3) (nomark _)) (pss_cons (ps_asg (pe_op op_quot (pe_op op_plus (pv 2) (pv 3)) pe_int) (pg_name (i := 4) nd rfl (Or.inl rfl)))
    (pss_one (ps_if (pt_cmpR (op_ltT (Nat.lt_of_le_of_lt (Nat.le_add_right _ _) hr.units)) (pe_ix ix_seq (pv 0) (pv 4) (fun _ _ => rfl)) (pv 1) (nomark _)) (pss_one (ps_asg (pe_op op_plus (pv 4) pe_int) (pg_name (i := 2) nd rfl (Or.inl rfl)))) (pss_one (ps_asg (pv 4) (pg_name (i := 3) nd rfl (Or.inl rfl))))))))
    (pss_one (ps_ret (pv 2)))))
abbrev s_arranged : Stmt := (topS 3)
abbrev N_arranged : List Str := ["rows", "found", "row", "at"]
theorem sc_arranged : FnScope N_arranged ["rows"] (defScope s_arranged) := ⟨rfl, rfl, rfl, by decide +kernel, rfl, by decide +kernel, by decide +kernel⟩
def t_arranged (K : PySem.W.Frag) (sp_place_for : Sp) (W : WX) : TS :=
    (tSeq (tAsg (tLst tNil) (gName 1))
    (tSeq (tFor (iList K (tVar 0)) (gName 2) (tSeq (tAsg (tCallZ sp_place_for W (tCons (tVar 1) (tCons (tVar 2) tNil))) (gName 3))
    (tIfS (tOr (tTest (tOp (rSame K) (tVar 3) (tCB (TP.rLen K) (tCons (tVar 1) tNil)))) (tTest (tOp (rUnlike K) (tOp (rIx K) (tVar 1) (tVar 3)) (tVar 2)))) (tDrop (tBM K "list" rInsert (tVar 1) (tCons (tVar 3) (tCons (tVar 2) tNil)))) tNext)))
    (tRet (tVar 1))))
theorem d_arranged {sp_place_for : Sp} (T : Txt P w K mg a_Marks a_BadMarks a_BadDeed) (I_place_for : FnZ P w K mg base 1 "place_for" ["rows", "row"] sp_place_for) (f : Addr) (cdv : Value) (A : Around) (outer : List Env) (s : Shared) (H : Hp) (E : XK) (hr : TP.Room 1 (A.deeper (envOfC "arranged" (defScope s_arranged) s.heap.objs.size f cdv))) :
    PSs (cxOf (L2.CX P w) P w K mg base N_arranged "arranged" (defScope s_arranged) f cdv A outer s H E) (defBody s_arranged) (t_arranged K sp_place_for (wOut E)) :=
  have nd := sc_arranged.nd
  have tk : Takes (cxOf (L2.CX P w) P w K mg base N_arranged "arranged" (defScope s_arranged) f cdv A outer s H E) (wOut E) := takes_of rfl rfl rfl rfl
  have po : PassesOwn (model P w) (cxOf (L2.CX P w) P w K mg base N_arranged "arranged" (defScope s_arranged) f cdv A outer s H E).A (cxOf (L2.CX P w) P w K mg base N_arranged "arranged" (defScope s_arranged) f cdv A outer s H E).env (cxOf (L2.CX P w) P w K mg base N_arranged "arranged" (defScope s_arranged) f cdv A outer s H E).xe := passes_of rfl
  (pss_cons (ps_asg (pe_lst pa_nil) (pg_name (i := 1) nd rfl (Or.inl rfl)))
    (pss_cons (ps_for po rfl (pi_list (pv 0)) (pg_name (i := 2) nd rfl (Or.inl rfl)) (pss_cons (ps_asg (pe_callZ I_place_for hr (by decide) tk (pa_cons (pv 1) (pa_cons (pv 2) pa_nil))) (pg_name (i := 3) nd rfl (Or.inl rfl)))
    (pss_one (ps_if (PW.pt (pw_or (pt_cmpR (op_same hr.units) (pv 3) (pe_callB TP.cr_len (by rfl) T.n_len (by decide +kernel) (pa_cons (pv 1) pa_nil)) (nomark _)) (pw_or1 (pt_cmpR (op_unlike hr.units) (pe_ix ix_seq (pv 1) (pv 3) (fun _ _ => rfl)) (pv 2) (nomark _))))) (pss_one (ps_expr (pe_bm PySem.F.plainAttrs_list PySem.F.slot_list_insert PySem.F.type_list_insert mt_insertZ (pv 1) (pa_cons (pv 3) (pa_cons (pv 2) pa_nil))))) pss_nil))))
    (pss_one (ps_ret (pv 1)))))
abbrev s_worths : Stmt := (topS 16)
abbrev N_worths : List Str := ["deeds", "marks", "gaps", "found", "at", "word", "page", "cleaning"]
theorem sc_worths : FnScope N_worths ["deeds", "marks"] (defScope s_worths) := ⟨rfl, rfl, rfl, by decide +kernel, rfl, by decide +kernel, by decide +kernel⟩
def t_worths (K : PySem.W.Frag) (w : World) (a_Marks : Addr) (sp_MarksU_getitemU : Sp) (sp_MarksU_lenU : Sp) (W : WX) : TS :=
    (tSeq (tAsg (tDc (iRng1 (tCons (tCBS (rLenZ a_Marks sp_MarksU_lenU W) (tCons (tVar 1) tNil)) tNil)) (gName 6) (tNot (tTru K (tOpS (rGetZ a_Marks sp_MarksU_getitemU noW) (tVar 1) (tVar 6)))) (tVar 6) (tC (.int 0)) [6]) (gName 2))
    (tSeq (tAsg (tDNewN w) (gName 3))
    (tSeq (tFor (iEnum K (tCons (tVar 0) tNil)) (gTup K 2 (gCons (gName 4) (gCons (gTup K 2 (gCons (gName 5) (gCons (gName 6) gNil))) gNil))) (tIfS (tTest (tOp (rSame K) (tVar 5) (tC (.str "write")))) (sDPut (tVar 2) (tVar 6) (tOp rPlus (tVar 4) (tC (.int 1)))) (tIfS (tB (tDIn (tVar 6) (tVar 2))) (tSeq (tAsg (tTup (tCons (tDGet (tVar 2) (tVar 6)) (tCons (tVar 6) tNil))) (gName 7))
    (sNPut w K (tVar 3) (tVar 7) (tOp rPlus (tNGet2 w K (tVar 3) (tVar 7) (tC (.int 0))) (tC (.int 1))))) tNext)))
    (tFzB 3 (tRet (tVar 3))))))
theorem d_worths {sp_MarksU_getitemU : Sp} {sp_MarksU_lenU : Sp} (T : Txt P w K mg a_Marks a_BadMarks a_BadDeed) (I_MarksU_getitemU : MthZ P w K mg base 5 a_Marks "__getitem__" ["self", "at"] sp_MarksU_getitemU) (I_MarksU_lenU : MthZ P w K mg base 1 a_Marks "__len__" ["self"] sp_MarksU_lenU) (f : Addr) (cdv : Value) (A : Around) (outer : List Env) (s : Shared) (H : Hp) (E : XK) (hr : TP.Room 6 (A.deeper (envOfC "worths" (defScope s_worths) s.heap.objs.size f cdv))) :
    PSs (cxOf (L2.CX P w) P w K mg base N_worths "worths" (defScope s_worths) f cdv A outer s H E) (defBody s_worths) (t_worths K w a_Marks sp_MarksU_getitemU sp_MarksU_lenU (wOut E)) :=
  have nd := sc_worths.nd
  have tk : Takes (cxOf (L2.CX P w) P w K mg base N_worths "worths" (defScope s_worths) f cdv A outer s H E) (wOut E) := takes_of rfl rfl rfl rfl
  have po : PassesOwn (model P w) (cxOf (L2.CX P w) P w K mg base N_worths "worths" (defScope s_worths) f cdv A outer s H E).A (cxOf (L2.CX P w) P w K mg base N_worths "worths" (defScope s_worths) f cdv A outer s H E).env (cxOf (L2.CX P w) P w K mg base N_worths "worths" (defScope s_worths) f cdv A outer s H E).xe := passes_of rfl
  (pss_cons (ps_setDc (i := 2) (own := [("page", 6)]) (g := (gName 6)) (tt := (tNot (tTru K (tOpS (rGetZ a_Marks sp_MarksU_getitemU noW) (tVar 1) (tVar 6))))) rfl nd rfl rfl (sw_trueD rfl rfl rfl (by decide +kernel)) (pi_range1 (by rfl) T.n_range (pa_cons (pe_lenZ I_MarksU_lenU hr (by decide) tk T.n_len (pa_cons (pv 1) pa_nil)) pa_nil)) (blkOk_by (own := [("page", 6)]) (N := N_worths) (sc := defScope s_worths) (by decide +kernel)) (fun _ _ _ _ _ => (pg_name (i := 6) nd rfl (Or.inl rfl))) (fun _ _ _ _ _ => (pts_one (pt_not (pt_truth (pe_ixZ I_MarksU_getitemU hr (by decide) takes0 (pv 1) (pv 6) (fun _ _ => rfl)) (by intro _; rfl))))) (fun _ _ _ _ _ => (pv 6)) (fun _ _ _ _ _ => pe_int))
    (pss_cons (ps_asg pe_dnewN (pg_name (i := 3) nd rfl (Or.inl rfl)))
    (pss_cons (ps_for po rfl (pi_enum (by rfl) T.n_enumerate (pa_cons (pv 0) pa_nil)) (pg_tup rfl (pgs_cons (pg_name (i := 4) nd rfl (Or.inl rfl)) (pgs_cons (pg_tup rfl (pgs_cons (pg_name (i := 5) nd rfl (Or.inl rfl)) (pgs_cons (pg_name (i := 6) nd rfl (Or.inl rfl)) pgs_nil))) pgs_nil))) (pss_one (ps_if (pt_cmpR (op_same hr.units) (pv 5) pe_str (nomark _)) (pss_one (ps_dput (hu_of hr.toRoom) (pv 2) (pv 6) (pe_op op_plus (pv 4) pe_int) rfl)) (pss_one (ps_if (pt_cmp (pc_din (hu_of hr.toRoom) (pv 6) (pv 2))) (pss_cons (ps_asg (pe_tup (pa_cons (pe_dget (hu_of hr.toRoom) (pv 2) (pv 6) (fun _ _ => rfl)) (pa_cons (pv 6) pa_nil))) (pg_name (i := 7) nd rfl (Or.inl rfl)))
    (pss_one (ps_nput (Nat.lt_trans (Nat.add_lt_add_left (by decide) _) hr.u66) (pv 3) (pv 7) (pe_op op_plus (pe_ndget2 (Nat.lt_trans (Nat.add_lt_add_left (by decide) _) hr.u66) (pv 3) (pv 7) pe_int ⟨rfl, by rfl, by decide, rfl⟩) pe_int) rfl))) pss_nil)))))
    (pss_one (ps_fzB (ps_ret (pv 3)))))))
abbrev s_best_first : Stmt := (topS 17)
abbrev N_best_first : List Str := ["found", "most", "cleaning", "worth"]
theorem sc_best_first : FnScope N_best_first ["found"] (defScope s_best_first) := ⟨rfl, rfl, rfl, by decide +kernel, rfl, by decide +kernel, by decide +kernel⟩
def t_best_first (K : PySem.W.Frag) (w : World) (W : WX) : TS :=
    (tSeq (tAsg (tIf (tTruN w K (tVar 0)) (tCB (rMax K) (tCons (tLc (iKeysN w (tVar 0)) (gName 2) tYes (tCB rInt1 (tCons (tOp (rIxN w K) (tVar 0) (tVar 2)) tNil)) [2]) tNil)) (tC (.int 0))) (gName 1))
    (tRet (tLc2 (iRng3 (tCons (tVar 1) (tCons (tC (.int 0)) (tCons (tUn rNeg (tC (.int 1))) tNil)))) (gName 3) tYes (iKeysN w (tVar 0)) (gName 2) (tTest (tOp (rSame K) (tOp (rIxN w K) (tVar 0) (tVar 2)) (tVar 3))) (tVar 2) [3, 2] [2])))
theorem d_best_first (T : Txt P w K mg a_Marks a_BadMarks a_BadDeed) (f : Addr) (cdv : Value) (A : Around) (outer : List Env) (s : Shared) (H : Hp) (E : XK) (hr : TP.Room 0 (A.deeper (envOfC "best_first" (defScope s_best_first) s.heap.objs.size f cdv))) :
    PSs (cxOf (L2.CX P w) P w K mg base N_best_first "best_first" (defScope s_best_first) f cdv A outer s H E) (defBody s_best_first) (t_best_first K w (wOut E)) :=
  have nd := sc_best_first.nd
  have tk : Takes (cxOf (L2.CX P w) P w K mg base N_best_first "best_first" (defScope s_best_first) f cdv A outer s H E) (wOut E) := takes_of rfl rfl rfl rfl
  have po : PassesOwn (model P w) (cxOf (L2.CX P w) P w K mg base N_best_first "best_first" (defScope s_best_first) f cdv A outer s H E).A (cxOf (L2.CX P w) P w K mg base N_best_first "best_first" (defScope s_best_first) f cdv A outer s H E).env (cxOf (L2.CX P w) P w K mg base N_best_first "best_first" (defScope s_best_first) f cdv A outer s H E).xe := passes_of rfl
  (pss_cons (ps_asg (pe_ifExp (pt_truN (pv 0) (by intro _; rfl)) (pe_callB (cr_max rfl) (by rfl) T.n_max (by decide +kernel) (pa_cons (pe_lc (own := [("cleaning", 2)]) (g := (gName 2)) (tt := tYes) rfl nd (pi_keysN (pv 0)) (blkOk_by (own := [("cleaning", 2)]) (N := N_best_first) (sc := defScope s_best_first) (by decide +kernel)) (fun _ _ _ _ _ => (pg_name (i := 2) nd rfl (Or.inl rfl))) (fun _ _ _ _ _ => pts_nil) (fun _ _ _ _ _ => (pe_callTy cr_int1 (by rfl) T.n_int (by decide +kernel) (pa_cons (pe_nix (Nat.lt_trans (Nat.add_lt_add_left (by decide) _) hr.u66) (pv 0) (pv 2) (fun _ _ => rfl)) pa_nil)))) pa_nil)) pe_int) (pg_name (i := 1) nd rfl (Or.inl rfl)))
    (pss_one (ps_ret (pe_lc2 (own := [("worth", 3), ("cleaning", 2)]) (vs1 := [2]) (g := (gName 3)) (tt := tYes) (g1 := (gName 2)) (tt1 := (tTest (tOp (rSame K) (tOp (rIxN w K) (tVar 0) (tVar 2)) (tVar 3)))) rfl nd (pi_range3 (by rfl) T.n_range (pa_cons (pv 1) (pa_cons pe_int (pa_cons (pe_un un_minus pe_int) pa_nil)))) (blkOk_by (own := [("worth", 3), ("cleaning", 2)]) (N := N_best_first) (sc := defScope s_best_first) (by decide +kernel)) (by decide) (fun _ _ _ _ _ => (pg_name (i := 3) nd rfl (Or.inl rfl))) (fun _ _ _ _ _ => pts_nil) (fun _ _ _ _ _ => (pi_keysN (pv 0))) (fun _ _ _ _ _ => (pg_name (i := 2) nd rfl (Or.inl rfl))) (fun _ _ _ _ _ => (pts_one (pt_cmpR (op_same hr.units) (pe_nix (Nat.lt_trans (Nat.add_lt_add_left (by decide) _) hr.u66) (pv 0) (pv 2) (fun _ _ => rfl)) (pv 3) (nomark _)))) (fun _ _ _ _ _ => (pv 2))))))
abbrev s_least_looks : Stmt := (topS 18)
abbrev N_least_looks : List Str := ["deeds", "marks", "many", "found", "chosen", "left", "cleaning"]
theorem sc_least_looks : FnScope N_least_looks ["deeds", "marks", "many"] (defScope s_least_looks) := ⟨rfl, rfl, rfl, by decide +kernel, rfl, by decide +kernel, by decide +kernel⟩
def t_least_looks (K : PySem.W.Frag) (w : World) (sp_check_deeds : Sp) (sp_arranged : Sp) (sp_worths : Sp) (sp_best_first : Sp) (W : WX) : TS :=
    (tSeq (tDrop (tCallZ sp_check_deeds W (tCons (tVar 0) (tCons (tVar 1) tNil))))
    (tSeq (tAsg (tCallZ sp_worths W (tCons (tVar 0) (tCons (tVar 1) tNil))) (gName 3))
    (tSeq (tAsg (tSl (rSlL K) (tCallZ sp_best_first W (tCons (tVar 3) tNil)) tNoPart (tPart (tVar 2))) (gName 4))
    (tSeq (tAsg (tOp rMinus (tCB (rSum K) (tCons (tLc (iKeysN w (tVar 3)) (gName 6) tYes (tOp (rIxN w K) (tVar 3) (tVar 6)) [6]) tNil)) (tCB (rSum K) (tCons (tLc (iList K (tVar 4)) (gName 6) tYes (tOp (rIxN w K) (tVar 3) (tVar 6)) [6]) tNil))) (gName 5))
    (tRet (tTup (tCons (tVar 5) (tCons (tCallZ sp_arranged W (tCons (tVar 4) tNil)) tNil))))))))
theorem d_least_looks {sp_check_deeds : Sp} {sp_arranged : Sp} {sp_worths : Sp} {sp_best_first : Sp} (T : Txt P w K mg a_Marks a_BadMarks a_BadDeed) (I_check_deeds : FnZ P w K mg base 4 "check_deeds" ["deeds", "marks"] sp_check_deeds) (I_arranged : FnZ P w K mg base 2 "arranged" ["rows"] sp_arranged) (I_worths : FnZ P w K mg base 7 "worths" ["deeds", "marks"] sp_worths) (I_best_first : FnZ P w K mg base 1 "best_first" ["found"] sp_best_first) (f : Addr) (cdv : Value) (A : Around) (outer : List Env) (s : Shared) (H : Hp) (E : XK) (hr : TP.Room 7 (A.deeper (envOfC "least_looks" (defScope s_least_looks) s.heap.objs.size f cdv))) :
    PSs (cxOf (L2.CX P w) P w K mg base N_least_looks "least_looks" (defScope s_least_looks) f cdv A outer s H E) (defBody s_least_looks) (t_least_looks K w sp_check_deeds sp_arranged sp_worths sp_best_first (wOut E)) :=
  have nd := sc_least_looks.nd
  have tk : Takes (cxOf (L2.CX P w) P w K mg base N_least_looks "least_looks" (defScope s_least_looks) f cdv A outer s H E) (wOut E) := takes_of rfl rfl rfl rfl
  have po : PassesOwn (model P w) (cxOf (L2.CX P w) P w K mg base N_least_looks "least_looks" (defScope s_least_looks) f cdv A outer s H E).A (cxOf (L2.CX P w) P w K mg base N_least_looks "least_looks" (defScope s_least_looks) f cdv A outer s H E).env (cxOf (L2.CX P w) P w K mg base N_least_looks "least_looks" (defScope s_least_looks) f cdv A outer s H E).xe := passes_of rfl
  (pss_cons (ps_expr (pe_callZ I_check_deeds hr (by decide) tk (pa_cons (pv 0) (pa_cons (pv 1) pa_nil))))
    (pss_cons (ps_asg (pe_callZ I_worths hr (by decide) tk (pa_cons (pv 0) (pa_cons (pv 1) pa_nil))) (pg_name (i := 3) nd rfl (Or.inr rfl)))
    (pss_cons (ps_asg (pe_slice sl_list (pe_callZ I_best_first hr (by decide) tk (pa_cons (pv 3) pa_nil)) po_none (po_some (pv 2))) (pg_name (i := 4) nd rfl (Or.inl rfl)))
    (pss_cons (ps_asg (pe_op op_minus (pe_callB (cr_sum rfl) (by rfl) T.n_sum (by decide +kernel) (pa_cons (pe_lc (own := [("cleaning", 6)]) (g := (gName 6)) (tt := tYes) rfl nd (pi_keysN (pv 3)) (blkOk_by (own := [("cleaning", 6)]) (N := N_least_looks) (sc := defScope s_least_looks) (by decide +kernel)) (fun _ _ _ _ _ => (pg_name (i := 6) nd rfl (Or.inl rfl))) (fun _ _ _ _ _ => pts_nil) (fun _ _ _ _ _ => (pe_nix (Nat.lt_trans (Nat.add_lt_add_left (by decide) _) hr.u66) (pv 3) (pv 6) (fun _ _ => rfl)))) pa_nil)) (pe_callB (cr_sum rfl) (by rfl) T.n_sum (by decide +kernel) (pa_cons (pe_lc (own := [("cleaning", 6)]) (g := (gName 6)) (tt := tYes) rfl nd (pi_list (pv 4)) (blkOk_by (own := [("cleaning", 6)]) (N := N_least_looks) (sc := defScope s_least_looks) (by decide +kernel)) (fun _ _ _ _ _ => (pg_name (i := 6) nd rfl (Or.inl rfl))) (fun _ _ _ _ _ => pts_nil) (fun _ _ _ _ _ => (pe_nix (Nat.lt_trans (Nat.add_lt_add_left (by decide) _) hr.u66) (pv 3) (pv 6) (fun _ _ => rfl)))) pa_nil))) (pg_name (i := 5) nd rfl (Or.inl rfl)))
    (pss_one (ps_ret (pe_tup (pa_cons (pv 5) (pa_cons (pe_callZ I_arranged hr (by decide) tk (pa_cons (pv 4) pa_nil)) pa_nil)))))))))
abbrev s_saved : Stmt := (topS 19)
abbrev N_saved : List Str := ["deeds", "marks", "found", "left", "numbers", "cleaning"]
theorem sc_saved : FnScope N_saved ["deeds", "marks"] (defScope s_saved) := ⟨rfl, rfl, rfl, by decide +kernel, rfl, by decide +kernel, by decide +kernel⟩
def t_saved (K : PySem.W.Frag) (w : World) (sp_check_deeds : Sp) (sp_worths : Sp) (sp_best_first : Sp) (W : WX) : TS :=
    (tSeq (tDrop (tCallZ sp_check_deeds W (tCons (tVar 0) (tCons (tVar 1) tNil))))
    (tSeq (tAsg (tCallZ sp_worths W (tCons (tVar 0) (tCons (tVar 1) tNil))) (gName 2))
    (tSeq (tAsg (tCB (rSum K) (tCons (tLc (iKeysN w (tVar 2)) (gName 5) tYes (tOp (rIxN w K) (tVar 2) (tVar 5)) [5]) tNil)) (gName 3))
    (tSeq (tAsg (tLst (tCons (tVar 3) tNil)) (gName 4))
    (tSeq (tFor (iList K (tCallZ sp_best_first W (tCons (tVar 2) tNil))) (gName 5) (tSeq (tAug 3 (tOp (rIxN w K) (tVar 2) (tVar 5)) (ipI fun i j => i - j))
    (tDrop (tBM K "list" rAppend (tVar 4) (tCons (tVar 3) tNil)))))
    (tRet (tVar 4)))))))
theorem d_saved {sp_check_deeds : Sp} {sp_worths : Sp} {sp_best_first : Sp} (T : Txt P w K mg a_Marks a_BadMarks a_BadDeed) (I_check_deeds : FnZ P w K mg base 4 "check_deeds" ["deeds", "marks"] sp_check_deeds) (I_worths : FnZ P w K mg base 7 "worths" ["deeds", "marks"] sp_worths) (I_best_first : FnZ P w K mg base 1 "best_first" ["found"] sp_best_first) (f : Addr) (cdv : Value) (A : Around) (outer : List Env) (s : Shared) (H : Hp) (E : XK) (hr : TP.Room 7 (A.deeper (envOfC "saved" (defScope s_saved) s.heap.objs.size f cdv))) :
    PSs (cxOf (L2.CX P w) P w K mg base N_saved "saved" (defScope s_saved) f cdv A outer s H E) (defBody s_saved) (t_saved K w sp_check_deeds sp_worths sp_best_first (wOut E)) :=
  have nd := sc_saved.nd
  have tk : Takes (cxOf (L2.CX P w) P w K mg base N_saved "saved" (defScope s_saved) f cdv A outer s H E) (wOut E) := takes_of rfl rfl rfl rfl
  have po : PassesOwn (model P w) (cxOf (L2.CX P w) P w K mg base N_saved "saved" (defScope s_saved) f cdv A outer s H E).A (cxOf (L2.CX P w) P w K mg base N_saved "saved" (defScope s_saved) f cdv A outer s H E).env (cxOf (L2.CX P w) P w K mg base N_saved "saved" (defScope s_saved) f cdv A outer s H E).xe := passes_of rfl
  (pss_cons (ps_expr (pe_callZ I_check_deeds hr (by decide) tk (pa_cons (pv 0) (pa_cons (pv 1) pa_nil))))
    (pss_cons (ps_asg (pe_callZ I_worths hr (by decide) tk (pa_cons (pv 0) (pa_cons (pv 1) pa_nil))) (pg_name (i := 2) nd rfl (Or.inr rfl)))
    (pss_cons (ps_asg (pe_callB (cr_sum rfl) (by rfl) T.n_sum (by decide +kernel) (pa_cons (pe_lc (own := [("cleaning", 5)]) (g := (gName 5)) (tt := tYes) rfl nd (pi_keysN (pv 2)) (blkOk_by (own := [("cleaning", 5)]) (N := N_saved) (sc := defScope s_saved) (by decide +kernel)) (fun _ _ _ _ _ => (pg_name (i := 5) nd rfl (Or.inl rfl))) (fun _ _ _ _ _ => pts_nil) (fun _ _ _ _ _ => (pe_nix (Nat.lt_trans (Nat.add_lt_add_left (by decide) _) hr.u66) (pv 2) (pv 5) (fun _ _ => rfl)))) pa_nil)) (pg_name (i := 3) nd rfl (Or.inl rfl)))
    (pss_cons (ps_asg (pe_lst (pa_cons (pv 3) pa_nil)) (pg_name (i := 4) nd rfl (Or.inl rfl)))
    (pss_cons (ps_for po rfl (pi_list (pe_callZ I_best_first hr (by decide) tk (pa_cons (pv 2) pa_nil))) (pg_name (i := 5) nd rfl (Or.inl rfl)) (pss_cons (ps_aug (i := 3) nd rfl (Or.inl rfl) (pe_nix (Nat.lt_trans (Nat.add_lt_add_left (by decide) _) hr.u66) (pv 2) (pv 5) (fun _ _ => rfl)) ip_sub)
    (pss_one (ps_expr (pe_bm PySem.F.plainAttrs_list PySem.F.slot_list_append PySem.F.type_list_append mt_append (pv 4) (pa_cons (pv 3) pa_nil))))))
    (pss_one (ps_ret (pv 4))))))))
abbrev s__law_pool : Stmt := (topS 28)
abbrev N__law_pool : List Str := ["script", "k", "cell", "seed"]
theorem sc__law_pool : FnScope N__law_pool ["script", "k"] (defScope s__law_pool) := ⟨rfl, rfl, rfl, by decide +kernel, rfl, by decide +kernel, by decide +kernel⟩
def t__law_pool (K : PySem.W.Frag) (W : WX) : TS :=
    (tSeq (tAsg (tC (.int 0)) (gName 2))
    (tSeq (tIfS (tTest (tOp (rUnlike K) (tVar 0) (tLst tNil))) (tAsg (tOp (rIx K) (tVar 0) (tOp rRest (tCB rInt1 (tCons (tVar 1) tNil)) (tCB (TP.rLen K) (tCons (tVar 0) tNil)))) (gName 2)) tNext)
    (tSeq (tAsg (tOp rRest (tOp rTimes (tCB rInt1 (tCons (tOp rPlus (tOp rPlus (tOp rRest (tCB rInt1 (tCons (tVar 2) tNil)) (tC (.int 2147483629))) (tOp rTimes (tC (.int 104729)) (tVar 1))) (tC (.int 11))) tNil)) (tC (.int 48271))) (tC (.int 2147483647))) (gName 3))
    (tRet (tLst (tCons (tOp rTimes (tVar 2) (tCB rInt1 (tCons (tOp rGeq (tVar 2) (tOp rPow (tC (.int 10)) (tC (.int 18)))) tNil))) (tCons (tVar 3) tNil)))))))
theorem d__law_pool (T : Txt P w K mg a_Marks a_BadMarks a_BadDeed) (f : Addr) (cdv : Value) (A : Around) (outer : List Env) (s : Shared) (H : Hp) (E : XK) (hr : TP.Room 0 (A.deeper (envOfC "_law_pool" (defScope s__law_pool) s.heap.objs.size f cdv))) :
    PSs (cxOf (L2.CX P w) P w K mg base N__law_pool "_law_pool" (defScope s__law_pool) f cdv A outer s H E) (defBody s__law_pool) (t__law_pool K (wOut E)) :=
  have nd := sc__law_pool.nd
  have tk : Takes (cxOf (L2.CX P w) P w K mg base N__law_pool "_law_pool" (defScope s__law_pool) f cdv A outer s H E) (wOut E) := takes_of rfl rfl rfl rfl
  have po : PassesOwn (model P w) (cxOf (L2.CX P w) P w K mg base N__law_pool "_law_pool" (defScope s__law_pool) f cdv A outer s H E).A (cxOf (L2.CX P w) P w K mg base N__law_pool "_law_pool" (defScope s__law_pool) f cdv A outer s H E).env (cxOf (L2.CX P w) P w K mg base N__law_pool "_law_pool" (defScope s__law_pool) f cdv A outer s H E).xe := passes_of rfl
  (pss_cons (ps_asg pe_int (pg_name (i := 2) nd rfl (Or.inl rfl)))
    (pss_cons (ps_if (pt_cmpR (op_unlike hr.units) (pv 0) (pe_lst pa_nil) (nomark _)) (pss_one (ps_asg (pe_ix ix_seq (pv 0) (pe_op op_rest (pe_callTy cr_int1 (by rfl) T.n_int (by decide +kernel) (pa_cons (pv 1) pa_nil)) (pe_callB TP.cr_len (by rfl) T.n_len (by decide +kernel) (pa_cons (pv 0) pa_nil))) (fun _ _ => rfl)) (pg_name (i := 2) nd rfl (Or.inl rfl)))) pss_nil)
    (pss_cons (ps_asg (pe_op op_rest (pe_op op_times (pe_callTy cr_int1 (by rfl) T.n_int (by decide +kernel) (pa_cons (pe_op op_plus (pe_op op_plus (pe_op op_rest (pe_callTy cr_int1 (by rfl) T.n_int (by decide +kernel) (pa_cons (pv 2) pa_nil)) pe_int) (pe_op op_times pe_int (pv 1))) pe_int) pa_nil)) pe_int) pe_int) (pg_name (i := 3) nd rfl (Or.inl rfl)))
    (pss_one (ps_ret (pe_lst (pa_cons (pe_op op_times (pv 2) (pe_callTy cr_int1 (by rfl) T.n_int (by decide +kernel) (pa_cons (pe_cmpR op_geq (pv 2) (pe_op op_power pe_int pe_int) (nomark _)) pa_nil))) (pa_cons (pv 3) pa_nil))))))))
abbrev s__law_take : Stmt := (topS 29)
abbrev N__law_take : List Str := ["pool", "many", "digit"]
theorem sc__law_take : FnScope N__law_take ["pool", "many"] (defScope s__law_take) := ⟨rfl, rfl, rfl, by decide +kernel, rfl, by decide +kernel, by decide +kernel⟩
def t__law_take (K : PySem.W.Frag) (W : WX) : TS :=
    (tSeq (tIfS (tTest (tOp rMore (tOp (rIx K) (tVar 0) (tC (.int 0))) (tC (.int 0)))) (tSeq (tAsg (tOp rRest (tCB rInt1 (tCons (tOp (rIx K) (tVar 0) (tC (.int 0))) tNil)) (tVar 1)) (gName 2))
    (tSeq (tAsg (tOp rQuot (tOp (rIx K) (tVar 0) (tC (.int 0))) (tVar 1)) (gSub (tVar 0) (tC (.int 0)) rSetL))
    (tRet (tVar 2)))) tNext)
    (tSeq (tAsg (tOp rRest (tCB rInt1 (tCons (tOp rPlus (tOp rTimes (tOp (rIx K) (tVar 0) (tC (.int 1))) (tC (.int 48271))) (tC (.int 11))) tNil)) (tC (.int 2147483647))) (gSub (tVar 0) (tC (.int 1)) rSetL))
    (tRet (tOp rRest (tCB rInt1 (tCons (tOp rQuot (tOp rRest (tCB rInt1 (tCons (tOp rTimes (tOp (rIx K) (tVar 0) (tC (.int 1))) (tOp (rIx K) (tVar 0) (tC (.int 1)))) tNil)) (tC (.int 2147483629))) (tC (.int 64))) tNil)) (tVar 1)))))
theorem d__law_take (T : Txt P w K mg a_Marks a_BadMarks a_BadDeed) (f : Addr) (cdv : Value) (A : Around) (outer : List Env) (s : Shared) (H : Hp) (E : XK) (hr : TP.Room 0 (A.deeper (envOfC "_law_take" (defScope s__law_take) s.heap.objs.size f cdv))) :
    PSs (cxOf (L2.CX P w) P w K mg base N__law_take "_law_take" (defScope s__law_take) f cdv A outer s H E) (defBody s__law_take) (t__law_take K (wOut E)) :=
  have nd := sc__law_take.nd
  have tk : Takes (cxOf (L2.CX P w) P w K mg base N__law_take "_law_take" (defScope s__law_take) f cdv A outer s H E) (wOut E) := takes_of rfl rfl rfl rfl
  have po : PassesOwn (model P w) (cxOf (L2.CX P w) P w K mg base N__law_take "_law_take" (defScope s__law_take) f cdv A outer s H E).A (cxOf (L2.CX P w) P w K mg base N__law_take "_law_take" (defScope s__law_take) f cdv A outer s H E).env (cxOf (L2.CX P w) P w K mg base N__law_take "_law_take" (defScope s__law_take) f cdv A outer s H E).xe := passes_of rfl
  (pss_cons (ps_if (pt_cmpR op_more (pe_ix ix_seq (pv 0) pe_int (fun _ _ => rfl)) pe_int (nomark _)) (pss_cons (ps_asg (pe_op op_rest (pe_callTy cr_int1 (by rfl) T.n_int (by decide +kernel) (pa_cons (pe_ix ix_seq (pv 0) pe_int (fun _ _ => rfl)) pa_nil)) (pv 1)) (pg_name (i := 2) nd rfl (Or.inl rfl)))
    (pss_cons (ps_asg (pe_op op_quot (pe_ix ix_seq (pv 0) pe_int (fun _ _ => rfl)) (pv 1)) (pg_sub (pv 0) pe_int set_list))
    (pss_one (ps_ret (pv 2))))) pss_nil)
    (pss_cons (ps_asg (pe_op op_rest (pe_callTy cr_int1 (by rfl) T.n_int (by decide +kernel) (pa_cons (pe_op op_plus (pe_op op_times (pe_ix ix_seq (pv 0) pe_int (fun _ _ => rfl)) pe_int) pe_int) pa_nil)) pe_int) (pg_sub (pv 0) pe_int set_list))
    (pss_one (ps_ret (pe_op op_rest (pe_callTy cr_int1 (by rfl) T.n_int (by decide +kernel) (pa_cons (pe_op op_quot (pe_op op_rest (pe_callTy cr_int1 (by rfl) T.n_int (by decide +kernel) (pa_cons (pe_op op_times (pe_ix ix_seq (pv 0) pe_int (fun _ _ => rfl)) (pe_ix ix_seq (pv 0) pe_int (fun _ _ => rfl))) pa_nil)) pe_int) pe_int) pa_nil)) (pv 1))))))
abbrev s__law_deeds : Stmt := (topS 30)
abbrev N__law_deeds : List Str := ["pool", "many", "marks", "kept", "page", "deeds", "k"]
theorem sc__law_deeds : FnScope N__law_deeds ["pool"] (defScope s__law_deeds) := ⟨rfl, rfl, rfl, by decide +kernel, rfl, by decide +kernel, by decide +kernel⟩
def t__law_deeds (K : PySem.W.Frag) (a_Marks : Addr) (sp_MarksU_initU : Sp) (sp_MarksU_getitemU : Sp) (sp_MarksU_setitemU : Sp) (sp__law_take : Sp) (W : WX) : TS :=
    (tSeq (tAsg (tOp rPlus (tC (.int 1)) (tCallZ sp__law_take W (tCons (tVar 0) (tCons (tC (.int 6)) tNil)))) (gName 1))
    (tSeq (tAsg (tNew a_Marks sp_MarksU_initU W [.non] (tCons (tVar 1) tNil)) (gName 2))
    (tSeq (tAsg (tLst tNil) (gName 3))
    (tSeq (tFor (iRng1 (tCons (tVar 1) tNil)) (gName 4) (tSeq (tAsg (tOp (rSame K) (tCallZ sp__law_take W (tCons (tVar 0) (tCons (tC (.int 2)) tNil))) (tC (.int 0))) (gSubS (tVar 2) (tVar 4) (rSetZ a_Marks sp_MarksU_setitemU W)))
    (tDrop (tBM K "list" rAppend (tVar 3) (tCons (tOpS (rGetZ a_Marks sp_MarksU_getitemU W) (tVar 2) (tVar 4)) tNil)))))
    (tSeq (tAsg (tLst tNil) (gName 5))
    (tSeq (tFor (iRng1 (tCons (tCallZ sp__law_take W (tCons (tVar 0) (tCons (tC (.int 41)) tNil))) tNil)) (gName 6) (tDrop (tBM K "list" rAppend (tVar 5) (tCons (tTup (tCons (tOp (rIx K) (tLst (tCons (tC (.str "write")) (tCons (tC (.str "read")) (tCons (tC (.str "read")) tNil)))) (tCallZ sp__law_take W (tCons (tVar 0) (tCons (tC (.int 3)) tNil)))) (tCons (tCallZ sp__law_take W (tCons (tVar 0) (tCons (tVar 1) tNil))) tNil))) tNil))))
    (tRet (tLst (tCons (tVar 5) (tCons (tVar 2) (tCons (tVar 3) tNil)))))))))))
theorem d__law_deeds {sp_MarksU_initU : Sp} {sp_MarksU_getitemU : Sp} {sp_MarksU_setitemU : Sp} {sp__law_take : Sp} (T : Txt P w K mg a_Marks a_BadMarks a_BadDeed) (I_MarksU_initU_1 : MakZ P w K mg base 4 "Marks" a_Marks ["self", "many", "truths"] sp_MarksU_initU [.none]) (I_MarksU_getitemU : MthZ P w K mg base 5 a_Marks "__getitem__" ["self", "at"] sp_MarksU_getitemU) (I_MarksU_setitemU : MthZ P w K mg base 5 a_Marks "__setitem__" ["self", "at", "value"] sp_MarksU_setitemU) (I__law_take : FnZ P w K mg base 1 "_law_take" ["pool", "many"] sp__law_take) (f : Addr) (cdv : Value) (A : Around) (outer : List Env) (s : Shared) (H : Hp) (E : XK) (hr : TP.Room 6 (A.deeper (envOfC "_law_deeds" (defScope s__law_deeds) s.heap.objs.size f cdv))) :
    PSs (cxOf (L2.CX P w) P w K mg base N__law_deeds "_law_deeds" (defScope s__law_deeds) f cdv A outer s H E) (defBody s__law_deeds) (t__law_deeds K a_Marks sp_MarksU_initU sp_MarksU_getitemU sp_MarksU_setitemU sp__law_take (wOut E)) :=
  have nd := sc__law_deeds.nd
  have tk : Takes (cxOf (L2.CX P w) P w K mg base N__law_deeds "_law_deeds" (defScope s__law_deeds) f cdv A outer s H E) (wOut E) := takes_of rfl rfl rfl rfl
  have po : PassesOwn (model P w) (cxOf (L2.CX P w) P w K mg base N__law_deeds "_law_deeds" (defScope s__law_deeds) f cdv A outer s H E).A (cxOf (L2.CX P w) P w K mg base N__law_deeds "_law_deeds" (defScope s__law_deeds) f cdv A outer s H E).env (cxOf (L2.CX P w) P w K mg base N__law_deeds "_law_deeds" (defScope s__law_deeds) f cdv A outer s H E).xe := passes_of rfl
  (pss_cons (ps_asg (pe_op op_plus pe_int (pe_callZ I__law_take hr (by decide) tk (pa_cons (pv 0) (pa_cons pe_int pa_nil)))) (pg_name (i := 1) nd rfl (Or.inl rfl)))
    (pss_cons (ps_asg (pe_new (dvs := [.non]) I_MarksU_initU_1 (.cons rfl .nil) hr (by decide) tk (pa_cons (pv 1) pa_nil)) (pg_name (i := 2) nd rfl (Or.inl rfl)))
    (pss_cons (ps_asg (pe_lst pa_nil) (pg_name (i := 3) nd rfl (Or.inl rfl)))
    (pss_cons (ps_for po rfl (pi_range1 (by rfl) T.n_range (pa_cons (pv 1) pa_nil)) (pg_name (i := 4) nd rfl (Or.inl rfl)) (pss_cons (ps_asg (pe_cmpR (op_same hr.units) (pe_callZ I__law_take hr (by decide) tk (pa_cons (pv 0) (pa_cons pe_int pa_nil))) pe_int (nomark _)) (pg_setZ I_MarksU_setitemU T.c_Marks hr (by decide) tk (pv 2) (pv 4)))
    (pss_one (ps_expr (pe_bm PySem.F.plainAttrs_list PySem.F.slot_list_append PySem.F.type_list_append mt_append (pv 3) (pa_cons (pe_ixZ I_MarksU_getitemU hr (by decide) tk (pv 2) (pv 4) (fun _ _ => rfl)) pa_nil))))))
    (pss_cons (ps_asg (pe_lst pa_nil) (pg_name (i := 5) nd rfl (Or.inl rfl)))
    (pss_cons (ps_for po rfl (pi_range1 (by rfl) T.n_range (pa_cons (pe_callZ I__law_take hr (by decide) tk (pa_cons (pv 0) (pa_cons pe_int pa_nil))) pa_nil)) (pg_name (i := 6) nd rfl (Or.inl rfl)) (pss_one (ps_expr (pe_bm PySem.F.plainAttrs_list PySem.F.slot_list_append PySem.F.type_list_append mt_append (pv 5) (pa_cons (pe_tup (pa_cons (pe_ix ix_seq (pe_lst (pa_cons pe_str (pa_cons pe_str (pa_cons pe_str pa_nil)))) (pe_callZ I__law_take hr (by decide) tk (pa_cons (pv 0) (pa_cons pe_int pa_nil))) (fun _ _ => rfl)) (pa_cons (pe_callZ I__law_take hr (by decide) tk (pa_cons (pv 0) (pa_cons (pv 1) pa_nil))) pa_nil))) pa_nil)))))
    (pss_one (ps_ret (pe_lst (pa_cons (pv 5) (pa_cons (pv 2) (pa_cons (pv 3) pa_nil))))))))))))
abbrev s__law_worths : Stmt := (topS 31)
abbrev N__law_worths : List Str := ["deeds", "kept", "found", "page", "many", "is_set", "deed"]
theorem sc__law_worths : FnScope N__law_worths ["deeds", "kept"] (defScope s__law_worths) := ⟨rfl, rfl, rfl, by decide +kernel, rfl, by decide +kernel, by decide +kernel⟩
def t__law_worths (K : PySem.W.Frag) (W : WX) : TS :=
    (tSeq (tAsg (tLst tNil) (gName 2))
    (tSeq (tFor (iRng1 (tCons (tCB (TP.rLen K) (tCons (tVar 1) tNil)) tNil)) (gName 3) (tSeq (tAsg (tC (.int 0)) (gName 4))
    (tSeq (tAsg (tOp (rIx K) (tVar 1) (tVar 3)) (gName 5))
    (tFor (iList K (tOp rPlus (tVar 0) (tLst (tCons (tTup (tCons (tC (.str "write")) (tCons (tVar 3) tNil))) tNil)))) (gName 6) (tIfS (tTest (tOp (rSame K) (tVar 6) (tTup (tCons (tC (.str "write")) (tCons (tVar 3) tNil))))) (tSeq (tDrop (tBM K "list" rAppend (tVar 2) (tCons (tVar 4) tNil)))
    (tSeq (tAsg (tC (.int 0)) (gName 4))
    (tAsg (tC (.bl false)) (gName 5)))) (tIfS (tAnd (tTest (tOp (rSame K) (tVar 6) (tTup (tCons (tC (.str "read")) (tCons (tVar 3) tNil))))) (tNot (tB (tVar 5)))) (tAsg (tOp rPlus (tVar 4) (tC (.int 1))) (gName 4)) tNext))))))
    (tRet (tRevL K (tCB (rSortedI K) (tCons (tLc (iList K (tVar 2)) (gName 4) (tTest (tOp rMore (tVar 4) (tC (.int 0)))) (tCB rInt1 (tCons (tVar 4) tNil)) [4]) tNil))))))
theorem d__law_worths (T : Txt P w K mg a_Marks a_BadMarks a_BadDeed) (f : Addr) (cdv : Value) (A : Around) (outer : List Env) (s : Shared) (H : Hp) (E : XK) (hr : TP.Room 0 (A.deeper (envOfC "_law_worths" (defScope s__law_worths) s.heap.objs.size f cdv))) :
    PSs (cxOf (L2.CX P w) P w K mg base N__law_worths "_law_worths" (defScope s__law_worths) f cdv A outer s H E) (defBody s__law_worths) (t__law_worths K (wOut E)) :=
  have nd := sc__law_worths.nd
  have tk : Takes (cxOf (L2.CX P w) P w K mg base N__law_worths "_law_worths" (defScope s__law_worths) f cdv A outer s H E) (wOut E) := takes_of rfl rfl rfl rfl
  have po : PassesOwn (model P w) (cxOf (L2.CX P w) P w K mg base N__law_worths "_law_worths" (defScope s__law_worths) f cdv A outer s H E).A (cxOf (L2.CX P w) P w K mg base N__law_worths "_law_worths" (defScope s__law_worths) f cdv A outer s H E).env (cxOf (L2.CX P w) P w K mg base N__law_worths "_law_worths" (defScope s__law_worths) f cdv A outer s H E).xe := passes_of rfl
  (pss_cons (ps_asg (pe_lst pa_nil) (pg_name (i := 2) nd rfl (Or.inl rfl)))
    (pss_cons (ps_for po rfl (pi_range1 (by rfl) T.n_range (pa_cons (pe_callB TP.cr_len (by rfl) T.n_len (by decide +kernel) (pa_cons (pv 1) pa_nil)) pa_nil)) (pg_name (i := 3) nd rfl (Or.inl rfl)) (pss_cons (ps_asg pe_int (pg_name (i := 4) nd rfl (Or.inl rfl)))
    (pss_cons (ps_asg (pe_ix ix_seq (pv 1) (pv 3) (fun _ _ => rfl)) (pg_name (i := 5) nd rfl (Or.inl rfl)))
    (pss_one (ps_for po rfl (pi_list (pe_op op_plus (pv 0) (pe_lst (pa_cons (pe_tup (pa_cons pe_str (pa_cons (pv 3) pa_nil))) pa_nil)))) (pg_name (i := 6) nd rfl (Or.inl rfl)) (pss_one (ps_if (pt_cmpR (op_same hr.units) (pv 6) (pe_tup (pa_cons pe_str (pa_cons (pv 3) pa_nil))) (nomark _)) (pss_cons (ps_expr (pe_bm PySem.F.plainAttrs_list PySem.F.slot_list_append PySem.F.type_list_append mt_append (pv 2) (pa_cons (pv 4) pa_nil)))
    (pss_cons (ps_asg pe_int (pg_name (i := 4) nd rfl (Or.inl rfl)))
    (pss_one (ps_asg pe_bl (pg_name (i := 5) nd rfl (Or.inl rfl)))))) (pss_one (ps_if (PW.pt (pw_and (pt_cmpR (op_same hr.units) (pv 6) (pe_tup (pa_cons pe_str (pa_cons (pv 3) pa_nil))) (nomark _)) (pw_and1 (pt_not (pt_val (pv 5)))))) (pss_one (ps_asg (pe_op op_plus (pv 4) pe_int) (pg_name (i := 4) nd rfl (Or.inl rfl)))) pss_nil)))))))))
    (pss_one (ps_ret (pe_revL (pe_callB cr_sortedI (by rfl) T.n_sorted (by decide +kernel) (pa_cons (pe_lc (own := [("many", 4)]) (g := (gName 4)) (tt := (tTest (tOp rMore (tVar 4) (tC (.int 0))))) rfl nd (pi_list (pv 2)) (blkOk_by (own := [("many", 4)]) (N := N__law_worths) (sc := defScope s__law_worths) (by decide +kernel)) (fun _ _ _ _ _ => (pg_name (i := 4) nd rfl (Or.inl rfl))) (fun _ _ _ _ _ => (pts_one (pt_cmpR op_more (pv 4) pe_int (nomark _)))) (fun _ _ _ _ _ => (pe_callTy cr_int1 (by rfl) T.n_int (by decide +kernel) (pa_cons (pv 4) pa_nil)))) pa_nil)))))))
abbrev s__law_right : Stmt := (topS 32)
abbrev N__law_right : List Str := ["pool", "deeds", "marks", "kept", "handed", "found", "worths_here", "many", "one", "two", "writes", "at", "turn", "cleanings", "page", "k"]
theorem sc__law_right : FnScope N__law_right ["pool", "deeds", "marks", "kept"] (defScope s__law_right) := ⟨rfl, rfl, rfl, by decide +kernel, rfl, by decide +kernel, by decide +kernel⟩
def t__law_right (K : PySem.W.Frag) (a_Marks : Addr) (sp_MarksU_getitemU : Sp) (sp_looks : Sp) (sp_least_looks : Sp) (sp_saved : Sp) (sp__law_take : Sp) (sp__law_worths : Sp) (W : WX) : TS :=
    (tSeq (tAsg (tCB (rListOf K) (tCons (tVar 1) tNil)) (gName 4))
    (tSeq (tAsg (tCallZ sp_saved W (tCons (tVar 4) (tCons (tVar 2) tNil))) (gName 5))
    (tSeq (tIfS (tOr (tTest (tOp (rUnlike K) (tVar 4) (tVar 1))) (tTest (tOp (rUnlike K) (tLc (iRng1 (tCons (tCB (TP.rLen K) (tCons (tVar 3) tNil)) tNil)) (gName 14) tYes (tOpS (rGetZ a_Marks sp_MarksU_getitemU noW) (tVar 2) (tVar 14)) [14]) (tVar 3)))) (tRet (tC (.bl false))) tNext)
    (tSeq (tAsg (tCallZ sp__law_worths W (tCons (tVar 1) (tCons (tVar 3) tNil))) (gName 6))
    (tSeq (tIfS (tTest (tOp (rUnlike K) (tVar 5) (tLc (iRng1 (tCons (tOp rPlus (tCB (TP.rLen K) (tCons (tVar 6) tNil)) (tC (.int 1))) tNil)) (gName 7) tYes (tCB (rSum K) (tCons (tSl (rSlL K) (tVar 6) (tPart (tVar 7)) tNoPart) tNil)) [7]))) (tRet (tC (.bl false))) tNext)
    (tSeq (tFor (iRng1 (tCons (tCB (TP.rLen K) (tCons (tVar 5) tNil)) tNil)) (gName 7) (tSeq (tIfS (tTest (tOp (rUnlike K) (tOp (rIx K) (tCallZ sp_least_looks W (tCons (tVar 1) (tCons (tVar 2) (tCons (tVar 7) tNil)))) (tC (.int 0))) (tOp (rIx K) (tVar 5) (tVar 7)))) (tRet (tC (.bl false))) tNext)
    (tSeq (tPar 8 9 (tCons (tOp (rIx K) (tVar 5) (tVar 7)) (tCons (tOp (rIx K) (tVar 5) (tCB rMx2 (tCons (tC (.int 0)) (tCons (tOp rMinus (tVar 7) (tC (.int 1))) tNil)))) tNil)))
    (tIfS (tAnd (tTest (tOp rMore (tVar 7) (tC (.int 1)))) (tTest (tOp rLess (tOp rMinus (tOp (rIx K) (tVar 5) (tOp rMinus (tVar 7) (tC (.int 2)))) (tVar 9)) (tOp rMinus (tVar 9) (tVar 8))))) (tRet (tC (.bl false))) tNext))))
    (tSeq (tAsg (tLst (tCons (tTup (tCons (tC (.int 0)) (tCons (tC (.int 0)) tNil))) tNil)) (gName 10))
    (tSeq (tFor (iRng1 (tCons (tCB (TP.rLen K) (tCons (tVar 1) tNil)) tNil)) (gName 11) (tIfS (tTest (tOp (rSame K) (tOp (rIx K) (tOp (rIx K) (tVar 1) (tVar 11)) (tC (.int 0))) (tC (.str "write")))) (tDrop (tBM K "list" rAppend (tVar 10) (tCons (tTup (tCons (tOp rPlus (tVar 11) (tC (.int 1))) (tCons (tOp (rIx K) (tOp (rIx K) (tVar 1) (tVar 11)) (tC (.int 1))) tNil))) tNil))) tNext))
    (tSeq (tFor (iRng1 (tCons (tC (.int 12)) tNil)) (gName 12) (tSeq (tAsg (tLc (iRng1 (tCons (tCallZ sp__law_take W (tCons (tVar 0) (tCons (tC (.int 7)) tNil))) tNil)) (gName 15) tYes (tOp (rIx K) (tVar 10) (tCallZ sp__law_take noW (tCons (tVar 0) (tCons (tCB (TP.rLen K) (tCons (tVar 10) tNil)) tNil)))) [15]) (gName 13))
    (tSeq (tIfS (tTest (tOp (rSame K) (tCallZ sp__law_take W (tCons (tVar 0) (tCons (tC (.int 3)) tNil))) (tC (.int 0)))) (tDrop (tBM K "list" rAppend (tVar 13) (tCons (tTup (tCons (tCallZ sp__law_take W (tCons (tVar 0) (tCons (tOp rPlus (tCB (TP.rLen K) (tCons (tVar 1) tNil)) (tC (.int 1))) tNil))) (tCons (tCallZ sp__law_take W (tCons (tVar 0) (tCons (tCB (TP.rLen K) (tCons (tVar 3) tNil)) tNil))) tNil))) tNil))) tNext)
    (tIfS (tTest (tOp rLess (tCallZ sp_looks W (tCons (tVar 1) (tCons (tVar 2) (tCons (tVar 13) tNil)))) (tOp (rIx K) (tOp rPlus (tVar 5) (tOp rTimes (tLst (tCons (tC (.int 0)) tNil)) (tC (.int 8)))) (tCB rMn2 (tCons (tCB (TP.rLen K) (tCons (tVar 13) tNil)) (tCons (tOp rMinus (tCB (TP.rLen K) (tCons (tVar 5) tNil)) (tC (.int 1))) tNil)))))) (tRet (tC (.bl false))) tNext))))
    (tRet (tC (.bl true))))))))))))
theorem d__law_right {sp_MarksU_getitemU : Sp} {sp_looks : Sp} {sp_least_looks : Sp} {sp_saved : Sp} {sp__law_take : Sp} {sp__law_worths : Sp} (T : Txt P w K mg a_Marks a_BadMarks a_BadDeed) (I_MarksU_getitemU : MthZ P w K mg base 5 a_Marks "__getitem__" ["self", "at"] sp_MarksU_getitemU) (I_looks : FnZ P w K mg base 8 "looks" ["deeds", "marks", "cleanings"] sp_looks) (I_least_looks : FnZ P w K mg base 8 "least_looks" ["deeds", "marks", "many"] sp_least_looks) (I_saved : FnZ P w K mg base 8 "saved" ["deeds", "marks"] sp_saved) (I__law_take : FnZ P w K mg base 1 "_law_take" ["pool", "many"] sp__law_take) (I__law_worths : FnZ P w K mg base 1 "_law_worths" ["deeds", "kept"] sp__law_worths) (f : Addr) (cdv : Value) (A : Around) (outer : List Env) (s : Shared) (H : Hp) (E : XK) (hr : TP.Room 8 (A.deeper (envOfC "_law_right" (defScope s__law_right) s.heap.objs.size f cdv))) :
    PSs (cxOf (L2.CX P w) P w K mg base N__law_right "_law_right" (defScope s__law_right) f cdv A outer s H E) (defBody s__law_right) (t__law_right K a_Marks sp_MarksU_getitemU sp_looks sp_least_looks sp_saved sp__law_take sp__law_worths (wOut E)) :=
  have nd := sc__law_right.nd
  have tk : Takes (cxOf (L2.CX P w) P w K mg base N__law_right "_law_right" (defScope s__law_right) f cdv A outer s H E) (wOut E) := takes_of rfl rfl rfl rfl
  have po : PassesOwn (model P w) (cxOf (L2.CX P w) P w K mg base N__law_right "_law_right" (defScope s__law_right) f cdv A outer s H E).A (cxOf (L2.CX P w) P w K mg base N__law_right "_law_right" (defScope s__law_right) f cdv A outer s H E).env (cxOf (L2.CX P w) P w K mg base N__law_right "_law_right" (defScope s__law_right) f cdv A outer s H E).xe := passes_of rfl
  (pss_cons (ps_asg (pe_callTy cr_list (by rfl) T.n_list (by decide +kernel) (pa_cons (pv 1) pa_nil)) (pg_name (i := 4) nd rfl (Or.inl rfl)))
    (pss_cons (ps_asg (pe_callZ I_saved hr (by decide) tk (pa_cons (pv 4) (pa_cons (pv 2) pa_nil))) (pg_name (i := 5) nd rfl (Or.inl rfl)))
    (pss_cons (ps_if (PW.pt (pw_or (pt_cmpR (op_unlike hr.units) (pv 4) (pv 1) (nomark _)) (pw_or1 (pt_cmpR (op_unlike hr.units) (pe_lc (own := [("page", 14)]) (g := (gName 14)) (tt := tYes) rfl nd (pi_range1 (by rfl) T.n_range (pa_cons (pe_callB TP.cr_len (by rfl) T.n_len (by decide +kernel) (pa_cons (pv 3) pa_nil)) pa_nil)) (blkOk_by (own := [("page", 14)]) (N := N__law_right) (sc := defScope s__law_right) (by decide +kernel)) (fun _ _ _ _ _ => (pg_name (i := 14) nd rfl (Or.inl rfl))) (fun _ _ _ _ _ => pts_nil) (fun _ _ _ _ _ => (pe_ixZ I_MarksU_getitemU hr (by decide) takes0 (pv 2) (pv 14) (fun _ _ => rfl)))) (pv 3) (nomark _))))) (pss_one (ps_ret pe_bl)) pss_nil)
    (pss_cons (ps_asg (pe_callZ I__law_worths hr (by decide) tk (pa_cons (pv 1) (pa_cons (pv 3) pa_nil))) (pg_name (i := 6) nd rfl (Or.inr rfl)))
    (pss_cons (ps_if (pt_cmpR (op_unlike hr.units) (pv 5) (pe_lc (own := [("many", 7)]) (g := (gName 7)) (tt := tYes) rfl nd (pi_range1 (by rfl) T.n_range (pa_cons (pe_op op_plus (pe_callB TP.cr_len (by rfl) T.n_len (by decide +kernel) (pa_cons (pv 6) pa_nil)) pe_int) pa_nil)) (blkOk_by (own := [("many", 7)]) (N := N__law_right) (sc := defScope s__law_right) (by decide +kernel)) (fun _ _ _ _ _ => (pg_name (i := 7) nd rfl (Or.inl rfl))) (fun _ _ _ _ _ => pts_nil) (fun _ _ _ _ _ => (pe_callB (cr_sum rfl) (by rfl) T.n_sum (by decide +kernel) (pa_cons (pe_slice sl_list (pv 6) (po_some (pv 7)) po_none) pa_nil)))) (nomark _)) (pss_one (ps_ret pe_bl)) pss_nil)
    (pss_cons (ps_for po rfl (pi_range1 (by rfl) T.n_range (pa_cons (pe_callB TP.cr_len (by rfl) T.n_len (by decide +kernel) (pa_cons (pv 5) pa_nil)) pa_nil)) (pg_name (i := 7) nd rfl (Or.inl rfl)) (pss_cons (ps_if (pt_cmpR (op_unlike hr.units) (pe_ix ix_seq (pe_callZ I_least_looks hr (by decide) tk (pa_cons (pv 1) (pa_cons (pv 2) (pa_cons (pv 7) pa_nil)))) pe_int (fun _ _ => rfl)) (pe_ix ix_seq (pv 5) (pv 7) (fun _ _ => rfl)) (nomark _)) (pss_one (ps_ret pe_bl)) pss_nil)
    (pss_cons (ps_par (i := 8) (j := 9) (by rfl) nd rfl rfl (by decide) rfl rfl (pa_cons (pe_ix ix_seq (pv 5) (pv 7) (fun _ _ => rfl)) (pa_cons (pe_ix ix_seq (pv 5) (pe_callB (cr_mx2 rfl) (by rfl) T.n_max (by decide +kernel) (pa_cons pe_int (pa_cons (pe_op op_minus (pv 7) pe_int) pa_nil))) (fun _ _ => rfl)) pa_nil)) (by rfl))
    (pss_one (ps_if (PW.pt (pw_and (pt_cmpR op_more (pv 7) pe_int (nomark _)) (pw_and1 (pt_cmpR op_less (pe_op op_minus (pe_ix ix_seq (pv 5) (pe_op op_minus (pv 7) pe_int) (fun _ _ => rfl)) (pv 9)) (pe_op op_minus (pv 9) (pv 8)) (nomark _))))) (pss_one (ps_ret pe_bl)) pss_nil)))))
    (pss_cons (ps_asg (pe_lst (pa_cons (pe_tup (pa_cons pe_int (pa_cons pe_int pa_nil))) pa_nil)) (pg_name (i := 10) nd rfl (Or.inr rfl)))
    (pss_cons (ps_for po rfl (pi_range1 (by rfl) T.n_range (pa_cons (pe_callB TP.cr_len (by rfl) T.n_len (by decide +kernel) (pa_cons (pv 1) pa_nil)) pa_nil)) (pg_name (i := 11) nd rfl (Or.inl rfl)) (pss_one (ps_if (pt_cmpR (op_same hr.units) (pe_ix ix_seq (pe_ix ix_seq (pv 1) (pv 11) (fun _ _ => rfl)) pe_int (fun _ _ => rfl)) pe_str (nomark _)) (pss_one (ps_expr (pe_bm PySem.F.plainAttrs_list PySem.F.slot_list_append PySem.F.type_list_append mt_append (pv 10) (pa_cons (pe_tup (pa_cons (pe_op op_plus (pv 11) pe_int) (pa_cons (pe_ix ix_seq (pe_ix ix_seq (pv 1) (pv 11) (fun _ _ => rfl)) pe_int (fun _ _ => rfl)) pa_nil))) pa_nil)))) pss_nil)))
    (pss_cons (ps_for po rfl (pi_range1 (by rfl) T.n_range (pa_cons pe_int pa_nil)) (pg_name (i := 12) nd rfl (Or.inl rfl)) (pss_cons (ps_setLc (i := 13) (own := [("k", 15)]) (g := (gName 15)) (tt := tYes) rfl nd rfl rfl (sw_true rfl rfl rfl (by decide +kernel)) (pi_range1 (by rfl) T.n_range (pa_cons (pe_callZ I__law_take hr (by decide) tk (pa_cons (pv 0) (pa_cons pe_int pa_nil))) pa_nil)) (blkOk_by (own := [("k", 15)]) (N := N__law_right) (sc := defScope s__law_right) (by decide +kernel)) (fun _ _ _ _ _ => (pg_name (i := 15) nd rfl (Or.inl rfl))) (fun _ _ _ _ _ => pts_nil) (fun _ _ _ _ _ => (pe_ix ix_seq (pv 10) (pe_callZ I__law_take hr (by decide) takes0 (pa_cons (pv 0) (pa_cons (pe_callB TP.cr_len (by rfl) T.n_len (by decide +kernel) (pa_cons (pv 10) pa_nil)) pa_nil))) (fun _ _ => rfl))))
    (pss_cons (ps_if (pt_cmpR (op_same hr.units) (pe_callZ I__law_take hr (by decide) tk (pa_cons (pv 0) (pa_cons pe_int pa_nil))) pe_int (nomark _)) (pss_one (ps_expr (pe_bm PySem.F.plainAttrs_list PySem.F.slot_list_append PySem.F.type_list_append mt_append (pv 13) (pa_cons (pe_tup (pa_cons (pe_callZ I__law_take hr (by decide) tk (pa_cons (pv 0) (pa_cons (pe_op op_plus (pe_callB TP.cr_len (by rfl) T.n_len (by decide +kernel) (pa_cons (pv 1) pa_nil)) pe_int) pa_nil))) (pa_cons (pe_callZ I__law_take hr (by decide) tk (pa_cons (pv 0) (pa_cons (pe_callB TP.cr_len (by rfl) T.n_len (by decide +kernel) (pa_cons (pv 3) pa_nil)) pa_nil))) pa_nil))) pa_nil)))) pss_nil)
    (pss_one (ps_if (pt_cmpR op_less (pe_callZ I_looks hr (by decide) tk (pa_cons (pv 1) (pa_cons (pv 2) (pa_cons (pv 13) pa_nil)))) (pe_ix ix_seq (pe_op op_plus (pv 5) (pe_op op_times (pe_lst (pa_cons pe_int pa_nil)) pe_int)) (pe_callB (cr_mn2 rfl) (by rfl) T.n_min (by decide +kernel) (pa_cons (pe_callB TP.cr_len (by rfl) T.n_len (by decide +kernel) (pa_cons (pv 13) pa_nil)) (pa_cons (pe_op op_minus (pe_callB TP.cr_len (by rfl) T.n_len (by decide +kernel) (pa_cons (pv 5) pa_nil)) pe_int) pa_nil))) (fun _ _ => rfl)) (nomark _)) (pss_one (ps_ret pe_bl)) pss_nil)))))
    (pss_one (ps_ret pe_bl)))))))))))
abbrev s_law : Stmt := (topS 33)
abbrev N_law : List Str := ["script", "k", "pool", "deeds", "marks", "kept"]
theorem sc_law : FnScope N_law ["script"] (defScope s_law) := ⟨rfl, rfl, rfl, by decide +kernel, rfl, by decide +kernel, by decide +kernel⟩
def t_law (K : PySem.W.Frag) (sp__law_pool : Sp) (sp__law_deeds : Sp) (sp__law_right : Sp) (W : WX) : TS :=
    (tSeq (tFor (iRng1 (tCons (tCB rMx2 (tCons (tC (.int 1)) (tCons (tCB rMn2 (tCons (tC (.int 6)) (tCons (tCB (TP.rLen K) (tCons (tVar 0) tNil)) tNil))) tNil))) tNil)) (gName 1) (tSeq (tAsg (tCallZ sp__law_pool W (tCons (tVar 0) (tCons (tVar 1) tNil))) (gName 2))
    (tSeq (tAsg (tCallZ sp__law_deeds W (tCons (tVar 2) tNil)) (gLst K 3 (gCons (gName 3) (gCons (gName 4) (gCons (gName 5) gNil)))))
    (tIfS (tNot (tB (tCallZ sp__law_right W (tCons (tVar 2) (tCons (tVar 3) (tCons (tVar 4) (tCons (tVar 5) tNil))))))) (tRet (tC (.bl false))) tNext))))
    (tRet (tC (.bl true))))
theorem d_law {sp__law_pool : Sp} {sp__law_deeds : Sp} {sp__law_right : Sp} (T : Txt P w K mg a_Marks a_BadMarks a_BadDeed) (I__law_pool : FnZ P w K mg base 1 "_law_pool" ["script", "k"] sp__law_pool) (I__law_deeds : FnZ P w K mg base 7 "_law_deeds" ["pool"] sp__law_deeds) (I__law_right : FnZ P w K mg base 9 "_law_right" ["pool", "deeds", "marks", "kept"] sp__law_right) (f : Addr) (cdv : Value) (A : Around) (outer : List Env) (s : Shared) (H : Hp) (E : XK) (hr : TP.Room 9 (A.deeper (envOfC "law" (defScope s_law) s.heap.objs.size f cdv))) :
    PSs (cxOf (L2.CX P w) P w K mg base N_law "law" (defScope s_law) f cdv A outer s H E) (defBody s_law) (t_law K sp__law_pool sp__law_deeds sp__law_right (wOut E)) :=
  have nd := sc_law.nd
  have tk : Takes (cxOf (L2.CX P w) P w K mg base N_law "law" (defScope s_law) f cdv A outer s H E) (wOut E) := takes_of rfl rfl rfl rfl
  have po : PassesOwn (model P w) (cxOf (L2.CX P w) P w K mg base N_law "law" (defScope s_law) f cdv A outer s H E).A (cxOf (L2.CX P w) P w K mg base N_law "law" (defScope s_law) f cdv A outer s H E).env (cxOf (L2.CX P w) P w K mg base N_law "law" (defScope s_law) f cdv A outer s H E).xe := passes_of rfl
  (pss_cons (ps_for po rfl (pi_range1 (by rfl) T.n_range (pa_cons (pe_callB (cr_mx2 rfl) (by rfl) T.n_max (by decide +kernel) (pa_cons pe_int (pa_cons (pe_callB (cr_mn2 rfl) (by rfl) T.n_min (by decide +kernel) (pa_cons pe_int (pa_cons (pe_callB TP.cr_len (by rfl) T.n_len (by decide +kernel) (pa_cons (pv 0) pa_nil)) pa_nil))) pa_nil))) pa_nil)) (pg_name (i := 1) nd rfl (Or.inl rfl)) (pss_cons (ps_asg (pe_callZ I__law_pool hr (by decide) tk (pa_cons (pv 0) (pa_cons (pv 1) pa_nil))) (pg_name (i := 2) nd rfl (Or.inl rfl)))
    (pss_cons (ps_asg (pe_callZ I__law_deeds hr (by decide) tk (pa_cons (pv 2) pa_nil)) (pg_lst rfl (pgs_cons (pg_name (i := 3) nd rfl (Or.inl rfl)) (pgs_cons (pg_name (i := 4) nd rfl (Or.inl rfl)) (pgs_cons (pg_name (i := 5) nd rfl (Or.inl rfl)) pgs_nil)))))
    (pss_one (ps_if (pt_not (pt_val (pe_callZ I__law_right hr (by decide) tk (pa_cons (pv 2) (pa_cons (pv 3) (pa_cons (pv 4) (pa_cons (pv 5) pa_nil))))))) (pss_one (ps_ret pe_bl)) pss_nil)))))
    (pss_one (ps_ret pe_bl)))
end
end Law

namespace Law
open PySem PySem.Spec PyProof.Rows L2 TP MR
noncomputable section
variable {K : PySem.W.Frag} {w : World} {a_Marks a_BadMarks a_BadDeed : Addr}
abbrev Gam (w : World) (a_Marks a_BadMarks a_BadDeed : Addr) : Gm := ⟨fun c => (match c with
  | 0 => a_Marks
  | 1 => a_BadMarks
  | 2 => a_BadDeed
  | _ => 0), w⟩
structure Cxt (K : PySem.W.Frag) (w : World) (a_Marks : Addr) (a_BadMarks : Addr) (a_BadDeed : Addr) : Prop where
  F : ClsG K (Gam w a_Marks a_BadMarks a_BadDeed) 1
def ms_is_integer : MS :=
    (mRet (mAndV (mCB (fIsi 1) (mCons (mVar 0) (mCons (mC (.ty "int")) mNil))) (mNotV (mCB (fIsi 1) (mCons (mVar 0) (mCons (mC (.ty "bool")) mNil))))))
def m_is_integer : MF := mRun 1 ms_is_integer
theorem q_is_integer (X : Cxt K w a_Marks a_BadMarks a_BadDeed) {xa : XT} {E : XK} : SimS K (Gam w a_Marks a_BadMarks a_BadDeed) xa (wOut E) (t_is_integer K (wOut E)) ms_is_integer := by
  unfold t_is_integer ms_is_integer
  exact (sim_ret (sim_andV (sim_cb (cm_isi X.F.toClsF) (sim_pcons (SimE.p sim_var) (sim_pcons (SimE.p sim_ty) sim_pnil))) (sim_notV (sim_cb (cm_isi X.F.toClsF) (sim_pcons (SimE.p sim_var) (sim_pcons (SimE.p sim_ty) sim_pnil))))))
def ms_is_many : MS :=
    (mRet (mAndV (mCall 1 m_is_integer (mCons (mVar 0) mNil)) (mChain opLeq opLeq (mC (.int 1)) (mVar 0) (mC (.int 64)))))
def m_is_many : MF := mRun 1 ms_is_many
theorem q_is_many (X : Cxt K w a_Marks a_BadMarks a_BadDeed) {xa : XT} {E : XK} : SimS K (Gam w a_Marks a_BadMarks a_BadDeed) xa (wOut E) (t_is_many K (spM K (Gam w a_Marks a_BadMarks a_BadDeed) 1 m_is_integer) (wOut E)) ms_is_many := by
  unfold t_is_many ms_is_many
  exact (sim_ret (sim_andV (sim_call (sim_cons sim_var sim_nil)) (sim_chain om_leq om_leq (SimE.p sim_int) (SimE.p sim_var) (SimE.p sim_int))))
def ms_MarksU_initU : MS :=
    (mSeq (mIfS (mNot (mTest (mCall 1 m_is_many (mCons (mVar 1) mNil)))) (mRaise 1 "at" (mCons (mVar 1) mNil)) mNext)
    (mSetFO 0 0 "kept" (mCell (mIf (mTest (mOp opIs (mVar 2) (mC .non))) (mOp opRep (mLst (mCons (mC (.bl false)) mNil)) (mVar 1)) (mCB fList (mCons (mVar 2) mNil))))))
def m_MarksU_initU : MI := mRunI 3 0 ms_MarksU_initU
theorem q_MarksU_initU (X : Cxt K w a_Marks a_BadMarks a_BadDeed) {xa : XT} {E : XK} : SimS K (Gam w a_Marks a_BadMarks a_BadDeed) xa (wOut E) (t_MarksU_initU K a_BadMarks a_Marks (spM K (Gam w a_Marks a_BadMarks a_BadDeed) 1 m_is_many) (wOut E)) ms_MarksU_initU := by
  unfold t_MarksU_initU ms_MarksU_initU
  exact (sim_seq (sim_ifS (sim_not (sim_B (sim_call (sim_cons sim_var sim_nil)))) (sim_raise rfl (sim_cons sim_var sim_nil)) sim_next)
    (sim_setFO rfl (sim_cell (sim_ifF (sim_test (sim_op om_is (SimE.p sim_var) (SimE.p sim_non))) (sim_opF of_rep (SimF.p (sim_lst (sim_cons sim_bl sim_nil))) (SimE.p sim_var)) (sim_cbF cf_list (sim_pcons (SimE.p sim_var) sim_pnil))))))
def ms_Marks_check : MS :=
    (mIfS (mOr (mNot (mTest (mCall 1 m_is_integer (mCons (mVar 1) mNil)))) (mNot (mTest (mChain opLeq opLess (mC (.int 0)) (mVar 1) (mCB fLen (mCons (mGetF 0 "kept" (mVar 0)) mNil)))))) (mRaise 1 "at" (mCons (mVar 1) mNil)) mNext)
def m_Marks_check : MF := mRun 2 ms_Marks_check
theorem q_Marks_check (X : Cxt K w a_Marks a_BadMarks a_BadDeed) {xa : XT} {E : XK} : SimS K (Gam w a_Marks a_BadMarks a_BadDeed) xa (wOut E) (t_Marks_check K a_BadMarks a_Marks (spM K (Gam w a_Marks a_BadMarks a_BadDeed) 1 m_is_integer) (wOut E)) ms_Marks_check := by
  unfold t_Marks_check ms_Marks_check
  exact (sim_ifS (sim_or (sim_not (sim_B (sim_call (sim_cons sim_var sim_nil)))) (sim_not (sim_test (sim_chain om_leq om_less (SimE.p sim_int) (SimE.p sim_var) (SimE.p (sim_cb cm_len (sim_pcons (SimE.p (sim_getF rfl (SimE.p sim_var))) sim_pnil))))))) (sim_raise rfl (sim_cons sim_var sim_nil)) sim_next)
def ms_MarksU_getitemU : MS :=
    (mSeq (mDrop (mMeth 0 "check" 1 m_Marks_check (mVar 0) (mCons (mVar 1) mNil)))
    (mRet (mOp opIx (mGetF 0 "kept" (mVar 0)) (mVar 1))))
def m_MarksU_getitemU : MF := mRun 2 ms_MarksU_getitemU
theorem q_MarksU_getitemU (X : Cxt K w a_Marks a_BadMarks a_BadDeed) {xa : XT} {E : XK} : SimS K (Gam w a_Marks a_BadMarks a_BadDeed) xa (wOut E) (t_MarksU_getitemU K a_Marks (spM K (Gam w a_Marks a_BadMarks a_BadDeed) 2 m_Marks_check) (wOut E)) ms_MarksU_getitemU := by
  unfold t_MarksU_getitemU ms_MarksU_getitemU
  exact (sim_seq (sim_drop (sim_meth rfl sim_var (sim_cons sim_var sim_nil)))
    (sim_ret (sim_op om_ix (SimE.p (sim_getF rfl (SimE.p sim_var))) (SimE.p sim_var))))
def ms_MarksU_setitemU : MS :=
    (mSeq (mDrop (mMeth 0 "check" 1 m_Marks_check (mVar 0) (mCons (mVar 1) mNil)))
    (mSeq (mIfS (mNot (mTest (mCB (fIsi 1) (mCons (mVar 2) (mCons (mC (.ty "bool")) mNil))))) (mRaise 1 "at" (mCons (mC .non) mNil)) mNext)
    (mSetC (mVar 2) (mGetF 0 "kept" (mVar 0)) (mVar 1))))
def m_MarksU_setitemU : MF := mRun 3 ms_MarksU_setitemU
theorem q_MarksU_setitemU (X : Cxt K w a_Marks a_BadMarks a_BadDeed) {xa : XT} {E : XK} : SimS K (Gam w a_Marks a_BadMarks a_BadDeed) xa (wOut E) (t_MarksU_setitemU K a_BadMarks a_Marks (spM K (Gam w a_Marks a_BadMarks a_BadDeed) 2 m_Marks_check) (wOut E)) ms_MarksU_setitemU := by
  unfold t_MarksU_setitemU ms_MarksU_setitemU
  exact (sim_seq (sim_drop (sim_meth rfl sim_var (sim_cons sim_var sim_nil)))
    (sim_seq (sim_ifS (sim_not (sim_B (sim_cb (cm_isi X.F.toClsF) (sim_pcons (SimE.p sim_var) (sim_pcons (SimE.p sim_ty) sim_pnil))))) (sim_raise rfl (sim_cons sim_non sim_nil)) sim_next)
    (sim_setC sim_var (sim_getF rfl (SimE.p sim_var)) sim_var)))
def ms_MarksU_lenU : MS :=
    (mRet (mCB fLen (mCons (mGetF 0 "kept" (mVar 0)) mNil)))
def m_MarksU_lenU : MF := mRun 1 ms_MarksU_lenU
theorem q_MarksU_lenU (X : Cxt K w a_Marks a_BadMarks a_BadDeed) {xa : XT} {E : XK} : SimS K (Gam w a_Marks a_BadMarks a_BadDeed) xa (wOut E) (t_MarksU_lenU K a_Marks (wOut E)) ms_MarksU_lenU := by
  unfold t_MarksU_lenU ms_MarksU_lenU
  exact (sim_ret (sim_cb cm_len (sim_pcons (SimE.p (sim_getF rfl (SimE.p sim_var))) sim_pnil)))
def ms_marks_of : MS :=
    (mRet (mNew 0 m_MarksU_initU (mCons (mCB fLen (mCons (mVar 0) mNil)) (mCons (mVar 0) mNil)) []))
def m_marks_of : MF := mRun 1 ms_marks_of
theorem q_marks_of (X : Cxt K w a_Marks a_BadMarks a_BadDeed) {xa : XT} {E : XK} : SimS K (Gam w a_Marks a_BadMarks a_BadDeed) xa (wOut E) (t_marks_of K a_Marks (spI K (Gam w a_Marks a_BadMarks a_BadDeed) 0 2 m_MarksU_initU) (wOut E)) ms_marks_of := by
  unfold t_marks_of ms_marks_of
  exact (sim_ret (SimF.e (sim_new rfl (sim_cons (sim_cb cm_len (sim_pcons (SimE.p sim_var) sim_pnil)) (sim_cons sim_var sim_nil)) (fun w => reps_nil))))
def ms_Marks_twin : MS :=
    (mRet (mCall 1 m_marks_of (mCons (mGetF 0 "kept" (mVar 0)) mNil)))
def m_Marks_twin : MF := mRun 1 ms_Marks_twin
theorem q_Marks_twin (X : Cxt K w a_Marks a_BadMarks a_BadDeed) {xa : XT} {E : XK} : SimS K (Gam w a_Marks a_BadMarks a_BadDeed) xa (wOut E) (t_Marks_twin K a_Marks (spM K (Gam w a_Marks a_BadMarks a_BadDeed) 1 m_marks_of) (wOut E)) ms_Marks_twin := by
  unfold t_Marks_twin ms_Marks_twin
  exact (sim_ret (sim_call (sim_cons (sim_getF rfl (SimE.p sim_var)) sim_nil)))
def ms_is_page : MS :=
    (mRet (mAndV (mCall 1 m_is_integer (mCons (mVar 1) mNil)) (mChain opLeq opLess (mC (.int 0)) (mVar 1) (mLenZ 0 m_MarksU_lenU (mCons (mVar 0) mNil)))))
def m_is_page : MF := mRun 2 ms_is_page
theorem q_is_page (X : Cxt K w a_Marks a_BadMarks a_BadDeed) {xa : XT} {E : XK} : SimS K (Gam w a_Marks a_BadMarks a_BadDeed) xa (wOut E) (t_is_page K a_Marks (spM K (Gam w a_Marks a_BadMarks a_BadDeed) 1 m_is_integer) (spM K (Gam w a_Marks a_BadMarks a_BadDeed) 1 m_MarksU_lenU) (wOut E)) ms_is_page := by
  unfold t_is_page ms_is_page
  exact (sim_ret (sim_andV (sim_call (sim_cons sim_var sim_nil)) (sim_chain om_leq om_less (SimE.p sim_int) (SimE.p sim_var) (SimE.p (sim_lenZ rfl (sim_cons sim_var sim_nil))))))
def ms_check_deeds : MS :=
    (mFor (mIEnum (mCons (mVar 0) mNil)) (mGTup 2 (mGCons (mGName 2) (mGCons (mGName 3) mGNil))) (mSeq (mIfS (mOr (mNot (mTest (mCB (fIsi 1) (mCons (mVar 3) (mCons (mC (.ty "tuple")) mNil))))) (mOr (mTest (mOp (opEq true) (mCB fLen (mCons (mVar 3) mNil)) (mC (.int 2)))) (mNot (mTest (mCB (fIsi 1) (mCons (mOp opIx (mVar 3) (mC (.int 0))) (mCons (mC (.ty "str")) mNil))))))) (mRaise 2 "index" (mCons (mVar 2) mNil)) mNext)
    (mIfS (mOr (mTest (mOp (opIn true) (mOp opIx (mVar 3) (mC (.int 0))) (mTup (mCons (mC (.str "write")) (mCons (mC (.str "read")) mNil))))) (mNot (mTest (mCall 2 m_is_page (mCons (mVar 1) (mCons (mOp opIx (mVar 3) (mC (.int 1))) mNil)))))) (mRaise 2 "index" (mCons (mVar 2) mNil)) mNext)))
def m_check_deeds : MF := mRun 4 ms_check_deeds
theorem q_check_deeds (X : Cxt K w a_Marks a_BadMarks a_BadDeed) {xa : XT} {E : XK} : SimS K (Gam w a_Marks a_BadMarks a_BadDeed) xa (wOut E) (t_check_deeds K a_BadDeed (spM K (Gam w a_Marks a_BadMarks a_BadDeed) 2 m_is_page) (wOut E)) ms_check_deeds := by
  unfold t_check_deeds ms_check_deeds
  exact (sim_for (sim_ienum (sim_cons sim_var sim_nil)) (sim_gtup' (sim_gcons sim_gname (sim_gcons sim_gname sim_gnil))) (sim_seq (sim_ifS (sim_or (sim_not (sim_B (sim_cb (cm_isi X.F.toClsF) (sim_pcons (SimE.p sim_var) (sim_pcons (SimE.p sim_ty) sim_pnil))))) (sim_or (sim_test (sim_op om_ne (SimE.p (sim_cb cm_len (sim_pcons (SimE.p sim_var) sim_pnil))) (SimE.p sim_int))) (sim_not (sim_B (sim_cb (cm_isi X.F.toClsF) (sim_pcons (SimE.p (sim_op om_ix (SimE.p sim_var) (SimE.p sim_int))) (sim_pcons (SimE.p sim_ty) sim_pnil))))))) (sim_raise rfl (sim_cons sim_var sim_nil)) sim_next)
    (sim_ifS (sim_or (sim_test (sim_op om_in (SimE.p (sim_op om_ix (SimE.p sim_var) (SimE.p sim_int))) (SimE.p (sim_tup (sim_cons sim_str (sim_cons sim_str sim_nil)))))) (sim_not (sim_B (sim_call (sim_cons sim_var (sim_cons (sim_op om_ix (SimE.p sim_var) (SimE.p sim_int)) sim_nil)))))) (sim_raise rfl (sim_cons sim_var sim_nil)) sim_next)))
def ms_check_cleanings : MS :=
    (mFor (mIList (mVar 2)) (mGName 3) (mSeq (mIfS (mOr (mNot (mTest (mCB (fIsi 1) (mCons (mVar 3) (mCons (mC (.ty "tuple")) mNil))))) (mTest (mOp (opEq true) (mCB fLen (mCons (mVar 3) mNil)) (mC (.int 2))))) (mRaise 2 "index" (mCons (mC .non) mNil)) mNext)
    (mIfS (mOr (mNot (mTest (mCall 1 m_is_integer (mCons (mOp opIx (mVar 3) (mC (.int 0))) mNil)))) (mOr (mNot (mTest (mChain opLeq opLeq (mC (.int 0)) (mOp opIx (mVar 3) (mC (.int 0))) (mCB fLen (mCons (mVar 0) mNil))))) (mNot (mTest (mCall 2 m_is_page (mCons (mVar 1) (mCons (mOp opIx (mVar 3) (mC (.int 1))) mNil))))))) (mRaise 2 "index" (mCons (mC .non) mNil)) mNext)))
def m_check_cleanings : MF := mRun 4 ms_check_cleanings
theorem q_check_cleanings (X : Cxt K w a_Marks a_BadMarks a_BadDeed) {xa : XT} {E : XK} : SimS K (Gam w a_Marks a_BadMarks a_BadDeed) xa (wOut E) (t_check_cleanings K a_BadDeed (spM K (Gam w a_Marks a_BadMarks a_BadDeed) 1 m_is_integer) (spM K (Gam w a_Marks a_BadMarks a_BadDeed) 2 m_is_page) (wOut E)) ms_check_cleanings := by
  unfold t_check_cleanings ms_check_cleanings
  exact (sim_for (sim_ilist sim_var) sim_gname (sim_seq (sim_ifS (sim_or (sim_not (sim_B (sim_cb (cm_isi X.F.toClsF) (sim_pcons (SimE.p sim_var) (sim_pcons (SimE.p sim_ty) sim_pnil))))) (sim_test (sim_op om_ne (SimE.p (sim_cb cm_len (sim_pcons (SimE.p sim_var) sim_pnil))) (SimE.p sim_int)))) (sim_raise rfl (sim_cons sim_non sim_nil)) sim_next)
    (sim_ifS (sim_or (sim_not (sim_B (sim_call (sim_cons (sim_op om_ix (SimE.p sim_var) (SimE.p sim_int)) sim_nil)))) (sim_or (sim_not (sim_test (sim_chain om_leq om_leq (SimE.p sim_int) (SimE.p (sim_op om_ix (SimE.p sim_var) (SimE.p sim_int))) (SimE.p (sim_cb cm_len (sim_pcons (SimE.p sim_var) sim_pnil)))))) (sim_not (sim_B (sim_call (sim_cons sim_var (sim_cons (sim_op om_ix (SimE.p sim_var) (SimE.p sim_int)) sim_nil))))))) (sim_raise rfl (sim_cons sim_non sim_nil)) sim_next)))
def ms_looks : MS :=
    (mSeq (mDrop (mCall 2 m_check_deeds (mCons (mVar 0) (mCons (mVar 1) mNil))))
    (mSeq (mDrop (mCall 3 m_check_cleanings (mCons (mVar 0) (mCons (mVar 1) (mCons (mVar 2) mNil)))))
    (mSeq (mAsg (mMeth 0 "twin" 0 m_Marks_twin (mVar 1) mNil) (mGName 3))
    (mSeq (mAsg (mC (.int 0)) (mGName 4))
    (mSeq (mFor (mIEnum (mCons (mVar 0) mNil)) (mGTup 2 (mGCons (mGName 5) (mGCons (mGTup 2 (mGCons (mGName 6) (mGCons (mGName 7) mGNil))) mGNil))) (mSeq (mFor (mIList (mVar 2)) (mGTup 2 (mGCons (mGName 8) (mGCons (mGName 9) mGNil))) (mIfS (mTest (mOp (opEq false) (mVar 8) (mVar 5))) (mSetZ 0 m_MarksU_setitemU (mC (.bl true)) (mVar 3) (mVar 9)) mNext))
    (mIfS (mTest (mOp (opEq false) (mVar 6) (mC (.str "write")))) (mSetZ 0 m_MarksU_setitemU (mC (.bl false)) (mVar 3) (mVar 7)) (mIfS (mNot (mTru (mGetZ 0 m_MarksU_getitemU (mVar 3) (mVar 7)))) (mAug 4 (fun i j => i + j) (mC (.int 1))) mNext))))
    (mRet (mVar 4)))))))
def m_looks : MF := mRun 10 ms_looks
theorem q_looks (X : Cxt K w a_Marks a_BadMarks a_BadDeed) {xa : XT} {E : XK} : SimS K (Gam w a_Marks a_BadMarks a_BadDeed) xa (wOut E) (t_looks K a_Marks (spM K (Gam w a_Marks a_BadMarks a_BadDeed) 2 m_MarksU_getitemU) (spM K (Gam w a_Marks a_BadMarks a_BadDeed) 3 m_MarksU_setitemU) (spM K (Gam w a_Marks a_BadMarks a_BadDeed) 1 m_Marks_twin) (spM K (Gam w a_Marks a_BadMarks a_BadDeed) 2 m_check_deeds) (spM K (Gam w a_Marks a_BadMarks a_BadDeed) 3 m_check_cleanings) (wOut E)) ms_looks := by
  unfold t_looks ms_looks
  exact (sim_seq (sim_drop (sim_call (sim_cons sim_var (sim_cons sim_var sim_nil))))
    (sim_seq (sim_drop (sim_call (sim_cons sim_var (sim_cons sim_var (sim_cons sim_var sim_nil)))))
    (sim_seq (sim_asg (sim_meth rfl sim_var sim_nil) sim_gname)
    (sim_seq (sim_asg sim_int sim_gname)
    (sim_seq (sim_for (sim_ienum (sim_cons sim_var sim_nil)) (sim_gtup' (sim_gcons sim_gname (sim_gcons (sim_gtup' (sim_gcons sim_gname (sim_gcons sim_gname sim_gnil))) sim_gnil))) (sim_seq (sim_for (sim_ilist sim_var) (sim_gtup' (sim_gcons sim_gname (sim_gcons sim_gname sim_gnil))) (sim_ifS (sim_test (sim_op om_eq (SimE.p sim_var) (SimE.p sim_var))) (sim_setZ rfl sim_bl sim_var sim_var) sim_next))
    (sim_ifS (sim_test (sim_op om_eq (SimE.p sim_var) (SimE.p sim_str))) (sim_setZ rfl sim_bl sim_var sim_var) (sim_ifS (sim_not (sim_tru (SimE.p (sim_getZ rfl sim_var sim_var)))) (sim_aug sim_int) sim_next))))
    (sim_ret sim_var))))))
def ms_place_for : MS :=
    (mSeq (mPar 2 3 (mCons (mC (.int 0)) (mCons (mCB fLen (mCons (mVar 0) mNil)) mNil)))
    (mSeq (mWhile (mTest (mOp opLess (mVar 2) (mVar 3))) (mSeq (mAsg (mOp opQuot (mOp opPlus (mVar 2) (mVar 3)) (mC (.int 2))) (mGName 4))
    (mIfS (mTest (mOp opLtT (mOp opIx (mVar 0) (mVar 4)) (mVar 1))) (mAsg (mOp opPlus (mVar 4) (mC (.int 1))) (mGName 2)) (mAsg (mVar 4) (mGName 3)))) 100000)
    (mRet (mVar 2))))
def m_place_for : MF := mRun 5 ms_place_for
theorem q_place_for (X : Cxt K w a_Marks a_BadMarks a_BadDeed) {xa : XT} {E : XK} : SimS K (Gam w a_Marks a_BadMarks a_BadDeed) xa (wOut E) (t_place_for K (wOut E)) ms_place_for := by
  unfold t_place_for ms_place_for
  exact (sim_seq (sim_par (sim_cons sim_int (sim_cons (sim_cb cm_len (sim_pcons (SimE.p sim_var) sim_pnil)) sim_nil)))
    (sim_seq (sim_while (sim_test (sim_op om_less (SimE.p sim_var) (SimE.p sim_var))) (sim_seq (sim_asg (sim_op om_quot (SimE.p (sim_op om_plus (SimE.p sim_var) (SimE.p sim_var))) (SimE.p sim_int)) sim_gname)
    (sim_ifS (sim_test (sim_op om_ltT (SimE.p (sim_op om_ix (SimE.p sim_var) (SimE.p sim_var))) (SimE.p sim_var))) (sim_asg (sim_op om_plus (SimE.p sim_var) (SimE.p sim_int)) sim_gname) (sim_asg sim_var sim_gname))))
    (sim_ret sim_var)))
def ms_arranged : MS :=
    (mSeq (mAsgC (mLst mNil) 1)
    (mSeq (mFor (mIList (mVar 0)) (mGName 2) (mSeq (mAsg (mCall 2 m_place_for (mCons (mVar 1) (mCons (mVar 2) mNil))) (mGName 3))
    (mIfS (mOr (mTest (mOp (opEq false) (mVar 3) (mCB fLen (mCons (mVar 1) mNil)))) (mTest (mOp (opEq true) (mOp opIx (mVar 1) (mVar 3)) (mVar 2)))) (mInsertC (mVar 1) (mVar 3) (mVar 2)) mNext)))
    (mFixC 1 (mRet (mVar 1)))))
def m_arranged : MF := mRun 4 ms_arranged
theorem q_arranged (X : Cxt K w a_Marks a_BadMarks a_BadDeed) {xa : XT} {E : XK} : SimS K (Gam w a_Marks a_BadMarks a_BadDeed) xa (wOut E) (t_arranged K (spM K (Gam w a_Marks a_BadMarks a_BadDeed) 2 m_place_for) (wOut E)) ms_arranged := by
  unfold t_arranged ms_arranged
  exact (sim_seq (sim_asgC (sim_lst sim_nil))
    (sim_seq (sim_for (sim_ilist sim_var) sim_gname (sim_seq (sim_asg (sim_call (sim_cons sim_var (sim_cons sim_var sim_nil))) sim_gname)
    (sim_ifS (sim_or (sim_test (sim_op om_eq (SimE.p sim_var) (SimE.p (sim_cb cm_len (sim_pcons (SimE.p sim_var) sim_pnil))))) (sim_test (sim_op om_ne (SimE.p (sim_op om_ix (SimE.p sim_var) (SimE.p sim_var))) (SimE.p sim_var)))) (sim_insertC sim_var sim_var sim_var) sim_next)))
    (sim_fixC (sim_ret sim_var))))
def ms_worths : MS :=
    (mSeq (mAsgC (mDc (mIRng1 (mCons (mLenZ 0 m_MarksU_lenU (mCons (mVar 1) mNil)) mNil)) (mGName 6) (mNot (mTru (mGetZ 0 m_MarksU_getitemU (mVar 1) (mVar 6)))) (mVar 6) (mC (.int 0)) [6]) 2)
    (mSeq (mAsgC mNDisp0 3)
    (mSeq (mFor (mIEnum (mCons (mVar 0) mNil)) (mGTup 2 (mGCons (mGName 4) (mGCons (mGTup 2 (mGCons (mGName 5) (mGCons (mGName 6) mGNil))) mGNil))) (mIfS (mTest (mOp (opEq false) (mVar 5) (mC (.str "write")))) (mSetD (mOp opPlus (mVar 4) (mC (.int 1))) (mVar 2) (mVar 6)) (mIfS (mTest (mOp (opDIn false) (mVar 6) (mVar 2))) (mSeq (mAsg (mTup (mCons (mOp opDGet (mVar 2) (mVar 6)) (mCons (mVar 6) mNil))) (mGName 7))
    (mSetN (mOp opPlus (mNGet2 (mVar 3) (mVar 7) (mC (.int 0))) (mC (.int 1))) (mVar 3) (mVar 7))) mNext)))
    (mFzB 3 (mRet (mVar 3))))))
def m_worths : MF := mRun 8 ms_worths
theorem q_worths (X : Cxt K w a_Marks a_BadMarks a_BadDeed) {xa : XT} {E : XK} : SimS K (Gam w a_Marks a_BadMarks a_BadDeed) xa (wOut E) (t_worths K w a_Marks (spM K (Gam w a_Marks a_BadMarks a_BadDeed) 2 m_MarksU_getitemU) (spM K (Gam w a_Marks a_BadMarks a_BadDeed) 1 m_MarksU_lenU) (wOut E)) ms_worths := by
  unfold t_worths ms_worths
  exact (sim_seq (sim_asgC (sim_dc (SimI.ev (sim_irng1 (sim_cons (sim_lenZ rfl (sim_cons sim_var sim_nil)) sim_nil))) sim_gname (sim_not (sim_tru (SimE.p (sim_getZ rfl sim_var sim_var)))) sim_var sim_int))
    (sim_seq (sim_asgC (sim_ndisp0 rfl))
    (sim_seq (sim_for (sim_ienum (sim_cons sim_var sim_nil)) (sim_gtup' (sim_gcons sim_gname (sim_gcons (sim_gtup' (sim_gcons sim_gname (sim_gcons sim_gname sim_gnil))) sim_gnil))) (sim_ifS (sim_test (sim_op om_eq (SimE.p sim_var) (SimE.p sim_str))) (sim_setD (sim_op om_plus (SimE.p sim_var) (SimE.p sim_int)) sim_var sim_var) (sim_ifS (sim_B (sim_din sim_var sim_var)) (sim_seq (sim_asg (sim_tup (sim_cons (sim_op om_dget (SimE.p sim_var) (SimE.p sim_var)) (sim_cons sim_var sim_nil))) sim_gname)
    (sim_setN rfl (sim_op om_plus (SimE.p (sim_nget2 rfl sim_var sim_var sim_int)) (SimE.p sim_int)) sim_var sim_var)) sim_next)))
    (sim_fzB (sim_ret sim_var)))))
def ms_best_first : MS :=
    (mSeq (mAsg (mIf (mTruN (mVar 0)) (mCB fMax (mCons (mLc (mIKeysN (mVar 0)) (mGName 2) mYes (mCB fInt (mCons (mOp opIxN (mVar 0) (mVar 2)) mNil)) [2]) mNil)) (mC (.int 0))) (mGName 1))
    (mRet (mLc2 (mIRng3 (mCons (mVar 1) (mCons (mC (.int 0)) (mCons (mUn unNeg (mC (.int 1))) mNil)))) (mGName 3) mYes (mIKeysN (mVar 0)) (mGName 2) (mTest (mOp (opEq false) (mOp opIxN (mVar 0) (mVar 2)) (mVar 3))) (mVar 2) [3, 2] [2])))
def m_best_first : MF := mRun 4 ms_best_first
theorem q_best_first (X : Cxt K w a_Marks a_BadMarks a_BadDeed) {xa : XT} {E : XK} : SimS K (Gam w a_Marks a_BadMarks a_BadDeed) xa (wOut E) (t_best_first K w (wOut E)) ms_best_first := by
  unfold t_best_first ms_best_first
  exact (sim_seq (sim_asg (sim_if (sim_truN rfl sim_var) (sim_cb cm_max (sim_pcons (SimF.p (sim_lc (SimI.ev (sim_ikeysN rfl sim_var)) sim_gname sim_yes (sim_cb cm_int (sim_pcons (SimE.p (sim_op (om_ixN rfl) (SimE.p sim_var) (SimE.p sim_var))) sim_pnil)))) sim_pnil)) sim_int) sim_gname)
    (sim_ret (SimF.e (sim_lc2 (SimI.ev (sim_irng3 (sim_cons sim_var (sim_cons sim_int (sim_cons (sim_un um_neg (SimE.p sim_int)) sim_nil))))) sim_gname sim_yes (sim_ikeysN rfl sim_var) sim_gname (sim_test (sim_op om_eq (SimE.p (sim_op (om_ixN rfl) (SimE.p sim_var) (SimE.p sim_var))) (SimE.p sim_var))) sim_var))))
def ms_least_looks : MS :=
    (mSeq (mDrop (mCall 2 m_check_deeds (mCons (mVar 0) (mCons (mVar 1) mNil))))
    (mSeq (mAsg (mCall 2 m_worths (mCons (mVar 0) (mCons (mVar 1) mNil))) (mGName 3))
    (mSeq (mAsg (mSl slL (mCall 1 m_best_first (mCons (mVar 3) mNil)) mNoPart (mPart (mVar 2))) (mGName 4))
    (mSeq (mAsg (mOp opMinus (mCB fSum (mCons (mLc (mIKeysN (mVar 3)) (mGName 6) mYes (mOp opIxN (mVar 3) (mVar 6)) [6]) mNil)) (mCB fSum (mCons (mLc (mIList (mVar 4)) (mGName 6) mYes (mOp opIxN (mVar 3) (mVar 6)) [6]) mNil))) (mGName 5))
    (mRet (mTup (mCons (mVar 5) (mCons (mCall 1 m_arranged (mCons (mVar 4) mNil)) mNil))))))))
def m_least_looks : MF := mRun 7 ms_least_looks
theorem q_least_looks (X : Cxt K w a_Marks a_BadMarks a_BadDeed) {xa : XT} {E : XK} : SimS K (Gam w a_Marks a_BadMarks a_BadDeed) xa (wOut E) (t_least_looks K w (spM K (Gam w a_Marks a_BadMarks a_BadDeed) 2 m_check_deeds) (spM K (Gam w a_Marks a_BadMarks a_BadDeed) 1 m_arranged) (spM K (Gam w a_Marks a_BadMarks a_BadDeed) 2 m_worths) (spM K (Gam w a_Marks a_BadMarks a_BadDeed) 1 m_best_first) (wOut E)) ms_least_looks := by
  unfold t_least_looks ms_least_looks
  exact (sim_seq (sim_drop (sim_call (sim_cons sim_var (sim_cons sim_var sim_nil))))
    (sim_seq (sim_asg (sim_call (sim_cons sim_var (sim_cons sim_var sim_nil))) sim_gname)
    (sim_seq (sim_asg (SimF.e (sim_slF sf_list (SimE.p (sim_call (sim_cons sim_var sim_nil))) sim_nopart (sim_part sim_var))) sim_gname)
    (sim_seq (sim_asg (sim_op om_minus (SimE.p (sim_cb cm_sum (sim_pcons (SimF.p (sim_lc (SimI.ev (sim_ikeysN rfl sim_var)) sim_gname sim_yes (sim_op (om_ixN rfl) (SimE.p sim_var) (SimE.p sim_var)))) sim_pnil))) (SimE.p (sim_cb cm_sum (sim_pcons (SimF.p (sim_lc (SimI.ev (sim_ilist sim_var)) sim_gname sim_yes (sim_op (om_ixN rfl) (SimE.p sim_var) (SimE.p sim_var)))) sim_pnil)))) sim_gname)
    (sim_ret (sim_tup (sim_cons sim_var (sim_cons (sim_call (sim_cons sim_var sim_nil)) sim_nil))))))))
def ms_saved : MS :=
    (mSeq (mDrop (mCall 2 m_check_deeds (mCons (mVar 0) (mCons (mVar 1) mNil))))
    (mSeq (mAsg (mCall 2 m_worths (mCons (mVar 0) (mCons (mVar 1) mNil))) (mGName 2))
    (mSeq (mAsg (mCB fSum (mCons (mLc (mIKeysN (mVar 2)) (mGName 5) mYes (mOp opIxN (mVar 2) (mVar 5)) [5]) mNil)) (mGName 3))
    (mSeq (mAsgO (mLst (mCons (mVar 3) mNil)) 4)
    (mSeq (mFor (mIList (mCall 1 m_best_first (mCons (mVar 2) mNil))) (mGName 5) (mSeq (mAug 3 (fun i j => i - j) (mOp opIxN (mVar 2) (mVar 5)))
    (mAppend 4 (mVar 3))))
    (mFix 4 (mRet (mVar 4))))))))
def m_saved : MF := mRun 6 ms_saved
theorem q_saved (X : Cxt K w a_Marks a_BadMarks a_BadDeed) {xa : XT} {E : XK} : SimS K (Gam w a_Marks a_BadMarks a_BadDeed) xa (wOut E) (t_saved K w (spM K (Gam w a_Marks a_BadMarks a_BadDeed) 2 m_check_deeds) (spM K (Gam w a_Marks a_BadMarks a_BadDeed) 2 m_worths) (spM K (Gam w a_Marks a_BadMarks a_BadDeed) 1 m_best_first) (wOut E)) ms_saved := by
  unfold t_saved ms_saved
  exact (sim_seq (sim_drop (sim_call (sim_cons sim_var (sim_cons sim_var sim_nil))))
    (sim_seq (sim_asg (sim_call (sim_cons sim_var (sim_cons sim_var sim_nil))) sim_gname)
    (sim_seq (sim_asg (sim_cb cm_sum (sim_pcons (SimF.p (sim_lc (SimI.ev (sim_ikeysN rfl sim_var)) sim_gname sim_yes (sim_op (om_ixN rfl) (SimE.p sim_var) (SimE.p sim_var)))) sim_pnil)) sim_gname)
    (sim_seq (sim_asgO (sim_lst (sim_cons sim_var sim_nil)))
    (sim_seq (sim_for (sim_ilist (sim_call (sim_cons sim_var sim_nil))) sim_gname (sim_seq (sim_aug (sim_op (om_ixN rfl) (SimE.p sim_var) (SimE.p sim_var)))
    (sim_append sim_var)))
    (sim_fix (i := 4) (sim_ret sim_var)))))))
def ms__law_pool : MS :=
    (mSeq (mAsg (mC (.int 0)) (mGName 2))
    (mSeq (mIfS (mTest (mOp (opEqN true) (mVar 0) (mLst mNil))) (mAsg (mOp opIx (mVar 0) (mOp opRest (mCB fInt (mCons (mVar 1) mNil)) (mCB fLen (mCons (mVar 0) mNil)))) (mGName 2)) mNext)
    (mSeq (mAsg (mOp opRest (mOp opTimes (mCB fInt (mCons (mOp opPlus (mOp opPlus (mOp opRest (mCB fInt (mCons (mVar 2) mNil)) (mC (.int 2147483629))) (mOp opTimes (mC (.int 104729)) (mVar 1))) (mC (.int 11))) mNil)) (mC (.int 48271))) (mC (.int 2147483647))) (mGName 3))
    (mRet (mCell (mLst (mCons (mOp opTimes (mVar 2) (mCB fInt (mCons (mOp opGeq (mVar 2) (mOp opPow (mC (.int 10)) (mC (.int 18)))) mNil))) (mCons (mVar 3) mNil))))))))
def m__law_pool : MF := mRun 4 ms__law_pool
theorem q__law_pool (X : Cxt K w a_Marks a_BadMarks a_BadDeed) {xa : XT} {E : XK} : SimS K (Gam w a_Marks a_BadMarks a_BadDeed) xa (wOut E) (t__law_pool K (wOut E)) ms__law_pool := by
  unfold t__law_pool ms__law_pool
  exact (sim_seq (sim_asg sim_int sim_gname)
    (sim_seq (sim_ifS (sim_test (sim_op om_neN (SimE.p sim_var) (SimF.p (sim_lst sim_nil)))) (sim_asg (sim_op om_ix (SimE.p sim_var) (SimE.p (sim_op om_rest (SimE.p (sim_cb cm_int (sim_pcons (SimE.p sim_var) sim_pnil))) (SimE.p (sim_cb cm_len (sim_pcons (SimE.p sim_var) sim_pnil)))))) sim_gname) sim_next)
    (sim_seq (sim_asg (sim_op om_rest (SimE.p (sim_op om_times (SimE.p (sim_cb cm_int (sim_pcons (SimE.p (sim_op om_plus (SimE.p (sim_op om_plus (SimE.p (sim_op om_rest (SimE.p (sim_cb cm_int (sim_pcons (SimE.p sim_var) sim_pnil))) (SimE.p sim_int))) (SimE.p (sim_op om_times (SimE.p sim_int) (SimE.p sim_var))))) (SimE.p sim_int))) sim_pnil))) (SimE.p sim_int))) (SimE.p sim_int)) sim_gname)
    (sim_ret (sim_cell (sim_lst (sim_cons (sim_op om_times (SimE.p sim_var) (SimE.p (sim_cb cm_int (sim_pcons (SimE.p (sim_op om_geq (SimE.p sim_var) (SimE.p (sim_op om_pow (SimE.p sim_int) (SimE.p sim_int))))) sim_pnil)))) (sim_cons sim_var sim_nil))))))))
def ms__law_take : MS :=
    (mSeq (mIfS (mTest (mOp opMore (mOp opIx (mVar 0) (mC (.int 0))) (mC (.int 0)))) (mSeq (mAsg (mOp opRest (mCB fInt (mCons (mOp opIx (mVar 0) (mC (.int 0))) mNil)) (mVar 1)) (mGName 2))
    (mSeq (mSetC (mOp opQuot (mOp opIx (mVar 0) (mC (.int 0))) (mVar 1)) (mVar 0) (mC (.int 0)))
    (mRet (mVar 2)))) mNext)
    (mSeq (mSetC (mOp opRest (mCB fInt (mCons (mOp opPlus (mOp opTimes (mOp opIx (mVar 0) (mC (.int 1))) (mC (.int 48271))) (mC (.int 11))) mNil)) (mC (.int 2147483647))) (mVar 0) (mC (.int 1)))
    (mRet (mOp opRest (mCB fInt (mCons (mOp opQuot (mOp opRest (mCB fInt (mCons (mOp opTimes (mOp opIx (mVar 0) (mC (.int 1))) (mOp opIx (mVar 0) (mC (.int 1)))) mNil)) (mC (.int 2147483629))) (mC (.int 64))) mNil)) (mVar 1)))))
def m__law_take : MF := mRun 3 ms__law_take
theorem q__law_take (X : Cxt K w a_Marks a_BadMarks a_BadDeed) {xa : XT} {E : XK} : SimS K (Gam w a_Marks a_BadMarks a_BadDeed) xa (wOut E) (t__law_take K (wOut E)) ms__law_take := by
  unfold t__law_take ms__law_take
  exact (sim_seq (sim_ifS (sim_test (sim_op om_more (SimE.p (sim_op om_ix (SimE.p sim_var) (SimE.p sim_int))) (SimE.p sim_int))) (sim_seq (sim_asg (sim_op om_rest (SimE.p (sim_cb cm_int (sim_pcons (SimE.p (sim_op om_ix (SimE.p sim_var) (SimE.p sim_int))) sim_pnil))) (SimE.p sim_var)) sim_gname)
    (sim_seq (sim_setC (sim_op om_quot (SimE.p (sim_op om_ix (SimE.p sim_var) (SimE.p sim_int))) (SimE.p sim_var)) sim_var sim_int)
    (sim_ret sim_var))) sim_next)
    (sim_seq (sim_setC (sim_op om_rest (SimE.p (sim_cb cm_int (sim_pcons (SimE.p (sim_op om_plus (SimE.p (sim_op om_times (SimE.p (sim_op om_ix (SimE.p sim_var) (SimE.p sim_int))) (SimE.p sim_int))) (SimE.p sim_int))) sim_pnil))) (SimE.p sim_int)) sim_var sim_int)
    (sim_ret (sim_op om_rest (SimE.p (sim_cb cm_int (sim_pcons (SimE.p (sim_op om_quot (SimE.p (sim_op om_rest (SimE.p (sim_cb cm_int (sim_pcons (SimE.p (sim_op om_times (SimE.p (sim_op om_ix (SimE.p sim_var) (SimE.p sim_int))) (SimE.p (sim_op om_ix (SimE.p sim_var) (SimE.p sim_int))))) sim_pnil))) (SimE.p sim_int))) (SimE.p sim_int))) sim_pnil))) (SimE.p sim_var)))))
def ms__law_deeds : MS :=
    (mSeq (mAsg (mOp opPlus (mC (.int 1)) (mCall 2 m__law_take (mCons (mVar 0) (mCons (mC (.int 6)) mNil)))) (mGName 1))
    (mSeq (mAsg (mNew 0 m_MarksU_initU (mCons (mVar 1) mNil) [.non]) (mGName 2))
    (mSeq (mAsgO (mLst mNil) 3)
    (mSeq (mFor (mIRng1 (mCons (mVar 1) mNil)) (mGName 4) (mSeq (mSetZ 0 m_MarksU_setitemU (mOp (opEq false) (mCall 2 m__law_take (mCons (mVar 0) (mCons (mC (.int 2)) mNil))) (mC (.int 0))) (mVar 2) (mVar 4))
    (mAppend 3 (mGetZ 0 m_MarksU_getitemU (mVar 2) (mVar 4)))))
    (mSeq (mAsgO (mLst mNil) 5)
    (mSeq (mFor (mIRng1 (mCons (mCall 2 m__law_take (mCons (mVar 0) (mCons (mC (.int 41)) mNil))) mNil)) (mGName 6) (mAppend 5 (mTup (mCons (mOp opIx (mLst (mCons (mC (.str "write")) (mCons (mC (.str "read")) (mCons (mC (.str "read")) mNil)))) (mCall 2 m__law_take (mCons (mVar 0) (mCons (mC (.int 3)) mNil)))) (mCons (mCall 2 m__law_take (mCons (mVar 0) (mCons (mVar 1) mNil))) mNil)))))
    (mFix 5 (mFix 3 (mRet (mLst (mCons (mVar 5) (mCons (mVar 2) (mCons (mVar 3) mNil)))))))))))))
def m__law_deeds : MF := mRun 7 ms__law_deeds
theorem q__law_deeds (X : Cxt K w a_Marks a_BadMarks a_BadDeed) {xa : XT} {E : XK} : SimS K (Gam w a_Marks a_BadMarks a_BadDeed) xa (wOut E) (t__law_deeds K a_Marks (spI K (Gam w a_Marks a_BadMarks a_BadDeed) 0 2 m_MarksU_initU) (spM K (Gam w a_Marks a_BadMarks a_BadDeed) 2 m_MarksU_getitemU) (spM K (Gam w a_Marks a_BadMarks a_BadDeed) 3 m_MarksU_setitemU) (spM K (Gam w a_Marks a_BadMarks a_BadDeed) 2 m__law_take) (wOut E)) ms__law_deeds := by
  unfold t__law_deeds ms__law_deeds
  exact (sim_seq (sim_asg (sim_op om_plus (SimE.p sim_int) (SimE.p (sim_call (sim_cons sim_var (sim_cons sim_int sim_nil))))) sim_gname)
    (sim_seq (sim_asg (SimF.e (sim_new rfl (sim_cons sim_var sim_nil) (fun w => (reps_cons (by simp only [RepC]) reps_nil)))) sim_gname)
    (sim_seq (sim_asgO (sim_lst sim_nil))
    (sim_seq (sim_for (sim_irng1 (sim_cons sim_var sim_nil)) sim_gname (sim_seq (sim_setZ rfl (sim_op om_eq (SimE.p (sim_call (sim_cons sim_var (sim_cons sim_int sim_nil)))) (SimE.p sim_int)) sim_var sim_var)
    (sim_append (sim_getZ rfl sim_var sim_var))))
    (sim_seq (sim_asgO (sim_lst sim_nil))
    (sim_seq (sim_for (sim_irng1 (sim_cons (sim_call (sim_cons sim_var (sim_cons sim_int sim_nil))) sim_nil)) sim_gname (sim_append (sim_tup (sim_cons (sim_op om_ix (SimF.p (sim_lst (sim_cons sim_str (sim_cons sim_str (sim_cons sim_str sim_nil))))) (SimE.p (sim_call (sim_cons sim_var (sim_cons sim_int sim_nil))))) (sim_cons (sim_call (sim_cons sim_var (sim_cons sim_var sim_nil))) sim_nil)))))
    (sim_fix (i := 5) (sim_fix (i := 3) (sim_ret (SimF.e (sim_lst (sim_cons sim_var (sim_cons sim_var (sim_cons sim_var sim_nil))))))))))))))
def ms__law_worths : MS :=
    (mSeq (mAsgO (mLst mNil) 2)
    (mSeq (mFor (mIRng1 (mCons (mCB fLen (mCons (mVar 1) mNil)) mNil)) (mGName 3) (mSeq (mAsg (mC (.int 0)) (mGName 4))
    (mSeq (mAsg (mOp opIx (mVar 1) (mVar 3)) (mGName 5))
    (mFor (mIList (mOp opPlus (mVar 0) (mLst (mCons (mTup (mCons (mC (.str "write")) (mCons (mVar 3) mNil))) mNil)))) (mGName 6) (mIfS (mTest (mOp (opEq false) (mVar 6) (mTup (mCons (mC (.str "write")) (mCons (mVar 3) mNil))))) (mSeq (mAppend 2 (mVar 4))
    (mSeq (mAsg (mC (.int 0)) (mGName 4))
    (mAsg (mC (.bl false)) (mGName 5)))) (mIfS (mAnd (mTest (mOp (opEq false) (mVar 6) (mTup (mCons (mC (.str "read")) (mCons (mVar 3) mNil))))) (mNot (mTest (mVar 5)))) (mAsg (mOp opPlus (mVar 4) (mC (.int 1))) (mGName 4)) mNext))))))
    (mRet (mRevL (mCB fSorted (mCons (mLc (mIList (mPeek 2)) (mGName 4) (mTest (mOp opMore (mVar 4) (mC (.int 0)))) (mCB fInt (mCons (mVar 4) mNil)) [4]) mNil))))))
def m__law_worths : MF := mRun 7 ms__law_worths
theorem q__law_worths (X : Cxt K w a_Marks a_BadMarks a_BadDeed) {xa : XT} {E : XK} : SimS K (Gam w a_Marks a_BadMarks a_BadDeed) xa (wOut E) (t__law_worths K (wOut E)) ms__law_worths := by
  unfold t__law_worths ms__law_worths
  exact (sim_seq (sim_asgO (sim_lst sim_nil))
    (sim_seq (sim_for (sim_irng1 (sim_cons (sim_cb cm_len (sim_pcons (SimE.p sim_var) sim_pnil)) sim_nil)) sim_gname (sim_seq (sim_asg sim_int sim_gname)
    (sim_seq (sim_asg (sim_op om_ix (SimE.p sim_var) (SimE.p sim_var)) sim_gname)
    (sim_for (sim_ilist (sim_op om_plus (SimE.p sim_var) (SimF.p (sim_lst (sim_cons (sim_tup (sim_cons sim_str (sim_cons sim_var sim_nil))) sim_nil))))) sim_gname (sim_ifS (sim_test (sim_op om_eq (SimE.p sim_var) (SimE.p (sim_tup (sim_cons sim_str (sim_cons sim_var sim_nil)))))) (sim_seq (sim_append sim_var)
    (sim_seq (sim_asg sim_int sim_gname)
    (sim_asg sim_bl sim_gname))) (sim_ifS (sim_and (sim_test (sim_op om_eq (SimE.p sim_var) (SimE.p (sim_tup (sim_cons sim_str (sim_cons sim_var sim_nil)))))) (sim_not (sim_B sim_var))) (sim_asg (sim_op om_plus (SimE.p sim_var) (SimE.p sim_int)) sim_gname) sim_next))))))
    (sim_ret (SimF.e (sim_revL (SimF.p (sim_cbF cf_sorted (sim_pcons (SimF.p (sim_lc (sim_ilistP sim_peek) sim_gname (sim_test (sim_op om_more (SimE.p sim_var) (SimE.p sim_int))) (sim_cb cm_int (sim_pcons (SimE.p sim_var) sim_pnil)))) sim_pnil))))))))
def ms__law_right : MS :=
    (mSeq (mAsg (mCB fList (mCons (mVar 1) mNil)) (mGName 4))
    (mSeq (mAsg (mCall 2 m_saved (mCons (mVar 4) (mCons (mVar 2) mNil))) (mGName 5))
    (mSeq (mIfS (mOr (mTest (mOp (opEq true) (mVar 4) (mVar 1))) (mTest (mOp (opEq true) (mLc (mIRng1 (mCons (mCB fLen (mCons (mVar 3) mNil)) mNil)) (mGName 14) mYes (mGetZ 0 m_MarksU_getitemU (mVar 2) (mVar 14)) [14]) (mVar 3)))) (mRet (mC (.bl false))) mNext)
    (mSeq (mAsg (mCall 2 m__law_worths (mCons (mVar 1) (mCons (mVar 3) mNil))) (mGName 6))
    (mSeq (mIfS (mTest (mOp (opEq true) (mVar 5) (mLc (mIRng1 (mCons (mOp opPlus (mCB fLen (mCons (mVar 6) mNil)) (mC (.int 1))) mNil)) (mGName 7) mYes (mCB fSum (mCons (mSl slL (mVar 6) (mPart (mVar 7)) mNoPart) mNil)) [7]))) (mRet (mC (.bl false))) mNext)
    (mSeq (mFor (mIRng1 (mCons (mCB fLen (mCons (mVar 5) mNil)) mNil)) (mGName 7) (mSeq (mIfS (mTest (mOp (opEq true) (mOp opIx (mCall 3 m_least_looks (mCons (mVar 1) (mCons (mVar 2) (mCons (mVar 7) mNil)))) (mC (.int 0))) (mOp opIx (mVar 5) (mVar 7)))) (mRet (mC (.bl false))) mNext)
    (mSeq (mPar 8 9 (mCons (mOp opIx (mVar 5) (mVar 7)) (mCons (mOp opIx (mVar 5) (mCB fMx2 (mCons (mC (.int 0)) (mCons (mOp opMinus (mVar 7) (mC (.int 1))) mNil)))) mNil)))
    (mIfS (mAnd (mTest (mOp opMore (mVar 7) (mC (.int 1)))) (mTest (mOp opLess (mOp opMinus (mOp opIx (mVar 5) (mOp opMinus (mVar 7) (mC (.int 2)))) (mVar 9)) (mOp opMinus (mVar 9) (mVar 8))))) (mRet (mC (.bl false))) mNext))))
    (mSeq (mAsgO (mLst (mCons (mTup (mCons (mC (.int 0)) (mCons (mC (.int 0)) mNil))) mNil)) 10)
    (mSeq (mFor (mIRng1 (mCons (mCB fLen (mCons (mVar 1) mNil)) mNil)) (mGName 11) (mIfS (mTest (mOp (opEq false) (mOp opIx (mOp opIx (mVar 1) (mVar 11)) (mC (.int 0))) (mC (.str "write")))) (mAppend 10 (mTup (mCons (mOp opPlus (mVar 11) (mC (.int 1))) (mCons (mOp opIx (mOp opIx (mVar 1) (mVar 11)) (mC (.int 1))) mNil)))) mNext))
    (mSeq (mFor (mIRng1 (mCons (mC (.int 12)) mNil)) (mGName 12) (mSeq (mAsgO (mLc (mIRng1 (mCons (mCall 2 m__law_take (mCons (mVar 0) (mCons (mC (.int 7)) mNil))) mNil)) (mGName 15) mYes (mOp opIx (mPeek 10) (mCall 2 m__law_take (mCons (mVar 0) (mCons (mCB fLen (mCons (mPeek 10) mNil)) mNil)))) [15]) 13)
    (mSeq (mIfS (mTest (mOp (opEq false) (mCall 2 m__law_take (mCons (mVar 0) (mCons (mC (.int 3)) mNil))) (mC (.int 0)))) (mAppend 13 (mTup (mCons (mCall 2 m__law_take (mCons (mVar 0) (mCons (mOp opPlus (mCB fLen (mCons (mVar 1) mNil)) (mC (.int 1))) mNil))) (mCons (mCall 2 m__law_take (mCons (mVar 0) (mCons (mCB fLen (mCons (mVar 3) mNil)) mNil))) mNil)))) mNext)
    (mFix 13 (mIfS (mTest (mOp opLess (mCall 3 m_looks (mCons (mVar 1) (mCons (mVar 2) (mCons (mVar 13) mNil)))) (mOp opIx (mOp opPlus (mVar 5) (mOp opTimes (mLst (mCons (mC (.int 0)) mNil)) (mC (.int 8)))) (mCB fMn2 (mCons (mCB fLen (mCons (mPeek 13) mNil)) (mCons (mOp opMinus (mCB fLen (mCons (mVar 5) mNil)) (mC (.int 1))) mNil)))))) (mRet (mC (.bl false))) mNext)))))
    (mRet (mC (.bl true))))))))))))
def m__law_right : MF := mRun 16 ms__law_right
theorem q__law_right (X : Cxt K w a_Marks a_BadMarks a_BadDeed) {xa : XT} {E : XK} : SimS K (Gam w a_Marks a_BadMarks a_BadDeed) xa (wOut E) (t__law_right K a_Marks (spM K (Gam w a_Marks a_BadMarks a_BadDeed) 2 m_MarksU_getitemU) (spM K (Gam w a_Marks a_BadMarks a_BadDeed) 3 m_looks) (spM K (Gam w a_Marks a_BadMarks a_BadDeed) 3 m_least_looks) (spM K (Gam w a_Marks a_BadMarks a_BadDeed) 2 m_saved) (spM K (Gam w a_Marks a_BadMarks a_BadDeed) 2 m__law_take) (spM K (Gam w a_Marks a_BadMarks a_BadDeed) 2 m__law_worths) (wOut E)) ms__law_right := by
  unfold t__law_right ms__law_right
  exact (sim_seq (sim_asg (SimF.e (sim_cbF cf_list (sim_pcons (SimE.p sim_var) sim_pnil))) sim_gname)
    (sim_seq (sim_asg (sim_call (sim_cons sim_var (sim_cons sim_var sim_nil))) sim_gname)
    (sim_seq (sim_ifS (sim_or (sim_test (sim_op om_ne (SimE.p sim_var) (SimE.p sim_var))) (sim_test (sim_op om_ne (SimF.p (sim_lc (SimI.ev (sim_irng1 (sim_cons (sim_cb cm_len (sim_pcons (SimE.p sim_var) sim_pnil)) sim_nil))) sim_gname sim_yes (sim_getZ rfl sim_var sim_var))) (SimE.p sim_var)))) (sim_ret sim_bl) sim_next)
    (sim_seq (sim_asg (sim_call (sim_cons sim_var (sim_cons sim_var sim_nil))) sim_gname)
    (sim_seq (sim_ifS (sim_test (sim_op om_ne (SimE.p sim_var) (SimF.p (sim_lc (SimI.ev (sim_irng1 (sim_cons (sim_op om_plus (SimE.p (sim_cb cm_len (sim_pcons (SimE.p sim_var) sim_pnil))) (SimE.p sim_int)) sim_nil))) sim_gname sim_yes (sim_cb cm_sum (sim_pcons (SimF.p (sim_slF sf_list (SimE.p sim_var) (sim_part sim_var) sim_nopart)) sim_pnil)))))) (sim_ret sim_bl) sim_next)
    (sim_seq (sim_for (sim_irng1 (sim_cons (sim_cb cm_len (sim_pcons (SimE.p sim_var) sim_pnil)) sim_nil)) sim_gname (sim_seq (sim_ifS (sim_test (sim_op om_ne (SimE.p (sim_op om_ix (SimE.p (sim_call (sim_cons sim_var (sim_cons sim_var (sim_cons sim_var sim_nil))))) (SimE.p sim_int))) (SimE.p (sim_op om_ix (SimE.p sim_var) (SimE.p sim_var))))) (sim_ret sim_bl) sim_next)
    (sim_seq (sim_par (sim_cons (sim_op om_ix (SimE.p sim_var) (SimE.p sim_var)) (sim_cons (sim_op om_ix (SimE.p sim_var) (SimE.p (sim_cb cm_mx2 (sim_pcons (SimE.p sim_int) (sim_pcons (SimE.p (sim_op om_minus (SimE.p sim_var) (SimE.p sim_int))) sim_pnil))))) sim_nil)))
    (sim_ifS (sim_and (sim_test (sim_op om_more (SimE.p sim_var) (SimE.p sim_int))) (sim_test (sim_op om_less (SimE.p (sim_op om_minus (SimE.p (sim_op om_ix (SimE.p sim_var) (SimE.p (sim_op om_minus (SimE.p sim_var) (SimE.p sim_int))))) (SimE.p sim_var))) (SimE.p (sim_op om_minus (SimE.p sim_var) (SimE.p sim_var)))))) (sim_ret sim_bl) sim_next))))
    (sim_seq (sim_asgO (sim_lst (sim_cons (sim_tup (sim_cons sim_int (sim_cons sim_int sim_nil))) sim_nil)))
    (sim_seq (sim_for (sim_irng1 (sim_cons (sim_cb cm_len (sim_pcons (SimE.p sim_var) sim_pnil)) sim_nil)) sim_gname (sim_ifS (sim_test (sim_op om_eq (SimE.p (sim_op om_ix (SimE.p (sim_op om_ix (SimE.p sim_var) (SimE.p sim_var))) (SimE.p sim_int))) (SimE.p sim_str))) (sim_append (sim_tup (sim_cons (sim_op om_plus (SimE.p sim_var) (SimE.p sim_int)) (sim_cons (sim_op om_ix (SimE.p (sim_op om_ix (SimE.p sim_var) (SimE.p sim_var))) (SimE.p sim_int)) sim_nil)))) sim_next))
    (sim_seq (sim_for (sim_irng1 (sim_cons sim_int sim_nil)) sim_gname (sim_seq (sim_asgO (sim_lc (SimI.ev (sim_irng1 (sim_cons (sim_call (sim_cons sim_var (sim_cons sim_int sim_nil))) sim_nil))) sim_gname sim_yes (sim_op om_ix sim_peek (SimE.p (sim_call (sim_cons sim_var (sim_cons (sim_cb cm_len (sim_pcons sim_peek sim_pnil)) sim_nil)))))))
    (sim_seq (sim_ifS (sim_test (sim_op om_eq (SimE.p (sim_call (sim_cons sim_var (sim_cons sim_int sim_nil)))) (SimE.p sim_int))) (sim_append (sim_tup (sim_cons (sim_call (sim_cons sim_var (sim_cons (sim_op om_plus (SimE.p (sim_cb cm_len (sim_pcons (SimE.p sim_var) sim_pnil))) (SimE.p sim_int)) sim_nil))) (sim_cons (sim_call (sim_cons sim_var (sim_cons (sim_cb cm_len (sim_pcons (SimE.p sim_var) sim_pnil)) sim_nil))) sim_nil)))) sim_next)
    (sim_fix (i := 13) (sim_ifS (sim_test (sim_op om_less (SimE.p (sim_call (sim_cons sim_var (sim_cons sim_var (sim_cons sim_var sim_nil))))) (SimE.p (sim_op om_ix (SimE.p (sim_op om_plus (SimE.p sim_var) (SimE.p (sim_op om_times (SimF.p (sim_lst (sim_cons sim_int sim_nil))) (SimE.p sim_int))))) (SimE.p (sim_cb cm_mn2 (sim_pcons (SimE.p (sim_cb cm_len (sim_pcons sim_peek sim_pnil))) (sim_pcons (SimE.p (sim_op om_minus (SimE.p (sim_cb cm_len (sim_pcons (SimE.p sim_var) sim_pnil))) (SimE.p sim_int))) sim_pnil)))))))) (sim_ret sim_bl) sim_next)))))
    (sim_ret sim_bl))))))))))
def ms_law : MS :=
    (mSeq (mFor (mIRng1 (mCons (mCB fMx2 (mCons (mC (.int 1)) (mCons (mCB fMn2 (mCons (mC (.int 6)) (mCons (mCB fLen (mCons (mVar 0) mNil)) mNil))) mNil))) mNil)) (mGName 1) (mSeq (mAsg (mCall 2 m__law_pool (mCons (mVar 0) (mCons (mVar 1) mNil))) (mGName 2))
    (mSeq (mAsg (mCall 1 m__law_deeds (mCons (mVar 2) mNil)) (mGLst 3 (mGCons (mGName 3) (mGCons (mGName 4) (mGCons (mGName 5) mGNil)))))
    (mIfS (mNot (mTest (mCall 4 m__law_right (mCons (mVar 2) (mCons (mVar 3) (mCons (mVar 4) (mCons (mVar 5) mNil))))))) (mRet (mC (.bl false))) mNext))))
    (mRet (mC (.bl true))))
def m_law : MF := mRun 6 ms_law
theorem q_law (X : Cxt K w a_Marks a_BadMarks a_BadDeed) {xa : XT} {E : XK} : SimS K (Gam w a_Marks a_BadMarks a_BadDeed) xa (wOut E) (t_law K (spM K (Gam w a_Marks a_BadMarks a_BadDeed) 2 m__law_pool) (spM K (Gam w a_Marks a_BadMarks a_BadDeed) 1 m__law_deeds) (spM K (Gam w a_Marks a_BadMarks a_BadDeed) 4 m__law_right) (wOut E)) ms_law := by
  unfold t_law ms_law
  exact (sim_seq (sim_for (sim_irng1 (sim_cons (sim_cb cm_mx2 (sim_pcons (SimE.p sim_int) (sim_pcons (SimE.p (sim_cb cm_mn2 (sim_pcons (SimE.p sim_int) (sim_pcons (SimE.p (sim_cb cm_len (sim_pcons (SimE.p sim_var) sim_pnil))) sim_pnil)))) sim_pnil))) sim_nil)) sim_gname (sim_seq (sim_asg (sim_call (sim_cons sim_var (sim_cons sim_var sim_nil))) sim_gname)
    (sim_seq (sim_asg (sim_call (sim_cons sim_var sim_nil)) (sim_glst (sim_gcons sim_gname (sim_gcons sim_gname (sim_gcons sim_gname sim_gnil)))))
    (sim_ifS (sim_not (sim_B (sim_call (sim_cons sim_var (sim_cons sim_var (sim_cons sim_var (sim_cons sim_var sim_nil))))))) (sim_ret sim_bl) sim_next))))
    (sim_ret sim_bl))
end
end Law

namespace Law
open PySem PySem.Spec L2 TP MR
section
local macro_rules | `(tactic| walk_at "g1") => `(tactic| first
  | with_reducible refine s_seq ?_ | with_reducible refine s_asgN ?_ | with_reducible refine s_asgO ?_ | with_reducible refine s_asgC ?_ | with_reducible refine s_ret ?_ | with_reducible refine s_drop ?_ | with_reducible refine s_ifS ?_ | with_reducible refine s_next ?_ | with_reducible refine s_raise ?_ | with_reducible refine s_for ?_
  | ((with_reducible refine' s_fixO ?gv ?_); (case gv => rfl)) | ((with_reducible refine' s_fixV ?gv ?_); (case gv => rfl)) | ((with_reducible refine' s_append ?gv ?_); (case gv => rfl)) | ((with_reducible refine' s_aug ?gv ?_); (case gv => rfl)) | ((with_reducible refine' s_setI ?gv ?_); (case gv => rfl))
  | ((with_reducible refine' s_setFO ?gv ?gl ?_); (case gv => rfl); (case gl => decide))
  | ((with_reducible refine' g_var ?gv ?_); (case gv => rfl)) | ((with_reducible refine' g_peekO ?gv ?_); (case gv => rfl)) | ((with_reducible refine' g_peekV ?gv ?_); (case gv => rfl))
  | with_reducible refine g_c ?_ | with_reducible refine g_op ?_ | with_reducible refine g_un ?_ | with_reducible refine g_nil ?_ | with_reducible refine g_cons ?_ | with_reducible refine g_tup ?_ | with_reducible refine g_lst ?_ | with_reducible refine g_cb ?_ | with_reducible refine g_call ?_
  | with_reducible refine g_test ?_ | with_reducible refine g_tru ?_ | with_reducible refine g_bl ?_ | with_reducible refine g_yes ?_ | with_reducible refine g_and ?_ | with_reducible refine g_or ?_ | with_reducible refine g_not ?_ | with_reducible refine g_andV ?_ | with_reducible refine g_orV ?_ | with_reducible refine g_notV ?_ | with_reducible refine g_if ?_ | with_reducible refine g_chain ?_
  | with_reducible refine g_T ?_ | with_reducible refine g_F ?_ | with_reducible refine g_nF ?_ | with_reducible refine g_nT ?_
  | with_reducible refine g_less ?_ | with_reducible refine g_leq ?_ | with_reducible refine g_more ?_ | with_reducible refine g_geq ?_ | with_reducible refine g_minus ?_ | with_reducible refine g_plusI ?_ | with_reducible refine g_eqI ?_ | with_reducible refine g_neI ?_ | with_reducible refine g_eqB ?_ | with_reducible refine g_neB ?_ | with_reducible refine g_eqS ?_ | with_reducible refine g_neS ?_
  | with_reducible refine g_isN ?_ | with_reducible refine g_isntN ?_ | with_reducible refine g_int ?_ | with_reducible refine g_lenL ?_ | with_reducible refine g_lenT ?_ | with_reducible refine g_tupleL ?_ | with_reducible refine g_tupleT ?_
  | with_reducible refine g_getF ?_ | with_reducible refine g_meth ?_ | with_reducible refine g_cmpO ?_ | with_reducible refine g_binO ?_ | with_reducible refine g_binI ?_ | with_reducible refine g_binR ?_ | with_reducible refine g_lenZ ?_ | with_reducible refine g_eqL ?_ | with_reducible refine g_enum ?_ | with_reducible refine g_inZ ?_ | with_reducible refine g_newV ?_ | with_reducible refine g_new ?_ | with_reducible refine g_starT ?_ | with_reducible refine g_sortSet ?_ | with_reducible refine g_cell ?_
  | with_reducible refine g_iList ?_ | with_reducible refine g_iTup ?_ | with_reducible refine g_rng1 ?_ | with_reducible refine g_rng2 ?_ | with_reducible refine g_lc ?_)
local macro_rules | `(tactic| walk_at "g") => `(tactic| repeat walk_at "g1")

abbrev LI (ns : List Int) : List D := ns.map D.int
theorem okN_LI (ns : List Int) (n : Nat) : okN (n + 1) (.lst (LI ns)) = true ∧ okN (n + 1) (.tup (LI ns)) = true := by
  have h : (LI ns).all (okN n) = true := by
    rw [List.all_eq_true]; intro x hx
    obtain ⟨i, _, rfl⟩ := List.mem_map.mp hx; unfold okN; rfl
  unfold okN
  exact ⟨h, h⟩
theorem eqvAll_LI : ∀ a b : List Int, PyData.eqvAll (toPys (LI a)) (toPys (LI b)) = decide (a = b)
  | [], [] => by simp [toPys, PyData.eqvAll]
  | [], _ :: _ => by simp [toPys, PyData.eqvAll]
  | _ :: _, [] => by simp [toPys, PyData.eqvAll]
  | x :: a, y :: b => by
    have ih := eqvAll_LI a b
    simp only [List.map_cons, toPys, toPy, PyData.eqvAll, PyData.eqv] at ih ⊢
    rw [ih]
    by_cases h : x = y
    · subst h; simp
    · simp [h]
theorem eqD_LI (a b : List Int) : eqD (.lst (LI a)) (.lst (LI b)) = decide (a = b) := by
  unfold eqD; simp only [toPy, PyData.eqv]; exact eqvAll_LI a b
theorem eqD_TI (a b : List Int) : eqD (.tup (LI a)) (.tup (LI b)) = decide (a = b) := by
  unfold eqD; simp only [toPy, PyData.eqv]; exact eqvAll_LI a b
section
variable {S : Sto} {Q : D → Sto → Prop} {X : XQ}
end
/-- ascending writers -/
structure Asc (a : List Int) : Prop where
  s : a.Pairwise (· < ·)
  r : ∀ x ∈ a, 0 ≤ x ∧ x ≤ 30
def plainD : D → Bool
  | .non => true
  | .bl _ => true
  | .int _ => true
  | .str _ => true
  | .tup _ => true
  | .lst _ => true
  | _ => false

theorem lst_new {S : Sto} {ds : List D} : lstAt (S ++ [some (.lst ds)]) S.length = some ds := by
  unfold lstAt
  rw [List.getElem?_append_right (Nat.le_refl _), Nat.sub_self]; rfl
theorem seq_ref {S : Sto} {n : Nat} {ds : List D} (h : lstAt S n = some ds) : seqOf S (.ref n) = some ds := by
  have e := lstAt_some h
  unfold seqOf MR.listOf
  simp only [e]
theorem list_ref {S : Sto} {n : Nat} {ds : List D} (h : lstAt S n = some ds) : listOf S (.ref n) = some ds := by
  have e := lstAt_some h
  unfold MR.listOf
  simp only [e]

theorem ix_nat {n i : Nat} (h : i < n) : ixN n (i : Int) = some i := by
  unfold ixN
  rw [if_pos (by omega), if_pos (by omega), Int.toNat_natCast]
theorem at_map {α : Type} {g : α → D} {xs : List α} {i : Nat} (h : i < xs.length) : atI (xs.map g) (i : Int) = some (g xs[i]) := by
  unfold atI
  rw [List.length_map, ix_nat h]
  show (xs.map g)[i]? = _
  rw [List.getElem?_map, List.getElem?_eq_getElem h]; rfl

def isAt (n : Nat) : D → Bool
  | .int i => decide (0 ≤ i) && decide (i < n)
  | _ => false
theorem isintD {d : D} (h : plainD d = true) (S : Sto) : m_is_integer [d] S = .ok (.bl (match d with | .int _ => true | _ => false)) S := by
  cases d with
  | bl b => cases b <;> rfl
  | int i => rfl
  | non => rfl
  | str s => rfl
  | tup ds => rfl
  | lst ds => rfl
  | _ => cases h
theorem isAt_int {n : Nat} {d : D} (h : isAt n d = true) : ∃ i : Nat, d = .int i ∧ i < n := by
  cases d with
  | int i =>
    have h' : (decide (0 ≤ i) && decide (i < (n : Int))) = true := h
    rw [Bool.and_eq_true, decide_eq_true_eq, decide_eq_true_eq] at h'
    exact ⟨i.toNat, by rw [Int.toNat_of_nonneg h'.1], by omega⟩
  | _ => cases h
theorem int_isAt {n i : Nat} (h : i < n) : isAt n (.int i) = true := by
  show (decide (0 ≤ (i : Int)) && decide ((i : Int) < (n : Int))) = true
  rw [decide_eq_true (by omega), decide_eq_true (by omega)]; rfl

def PlS (S : Sto) (p : Nat) : Prop := ∃ a b : Int, S[p]? = some (some (.lst [.int a, .int b])) ∧ 0 ≤ b ∧ b < 2147483647
structure Ne (p : Nat) (S S' : Sto) : Prop where
  len : S'.length = S.length
  at_ : ∀ m, m ≠ p → S'[m]? = S[m]?
theorem Ne.refl (p : Nat) (S : Sto) : Ne p S S := ⟨rfl, fun _ _ => rfl⟩
theorem Ne.trans {p : Nat} {S S' S'' : Sto} (h : Ne p S S') (g : Ne p S' S'') : Ne p S S'' := ⟨g.len.trans h.len, fun m hm => (g.at_ m hm).trans (h.at_ m hm)⟩
theorem Ne.set (p : Nat) (S : Sto) (x : Option D) : Ne p S (S.set p x) := ⟨List.length_set, fun m hm => List.getElem?_set_ne (Ne.symm hm)⟩
theorem Ne.lst {p m : Nat} {S S' : Sto} {ds : List D} (h : Ne p S S') (hm : m ≠ p) (g : lstAt S m = some ds) : lstAt S' m = some ds := by
  unfold lstAt at g ⊢
  rw [h.at_ m hm]; exact g
theorem PlS.lt {S : Sto} {p : Nat} (h : PlS S p) : p < S.length := by
  obtain ⟨a, b, h1, _⟩ := h
  exact (List.getElem?_eq_some_iff.mp h1).1
theorem PlS.app {S X : Sto} {p : Nat} (h : PlS S p) : PlS (S ++ X) p := by
  have hl := h.lt
  obtain ⟨a, b, h1, h2⟩ := h
  exact ⟨a, b, by rw [List.getElem?_append_left hl]; exact h1, h2⟩
theorem PlS.set {S : Sto} {p m : Nat} {x : Option D} (h : PlS S p) (hm : m ≠ p) : PlS (S.set m x) p := by
  obtain ⟨a, b, h1, h2⟩ := h
  exact ⟨a, b, by rw [List.getElem?_set_ne hm]; exact h1, h2⟩
theorem pool_run {ns : List Int} {k : Int} {S : Sto} {Q : D → Sto → Prop} {X : XQ} (hk : 0 ≤ k) (hk2 : k < 1000) (q : ∀ S', PlS S' S.length → (∃ x, S' = S ++ [x]) → Q (.ref S.length) S') : Rn (m__law_pool [.scr ns, .int k] S) Q X := by
  refine s_run ?_
  unfold ms__law_pool
  have fin : ∀ cell : Int, RunS ((mSeq (mAsg (mOp opRest (mOp opTimes (mCB fInt (mCons (mOp opPlus (mOp opPlus (mOp opRest (mCB fInt (mCons (mVar 2) mNil)) (mC (.int 2147483629))) (mOp opTimes (mC (.int 104729)) (mVar 1))) (mC (.int 11))) mNil)) (mC (.int 48271))) (mC (.int 2147483647))) (mGName 3))
      (mRet (mCell (mLst (mCons (mOp opTimes (mVar 2) (mCB fInt (mCons (mOp opGeq (mVar 2) (mOp opPow (mC (.int 10)) (mC (.int 18)))) mNil))) (mCons (mVar 3) mNil)))))) [.val (.scr ns), .val (.int k), .val (.int cell), .no] S) { nx := fun _ S => Q .non S, rt := Q, ex := fun c ns es _ S => X c ns es S } := fun cell => by
    refine s_seq <| s_asgN <| g_op <| g_op <| g_cb <| g_cons <| g_op <| g_op <| g_op <| g_cb <| g_cons <| g_var rfl <| g_nil <| g_int <| g_c <| g_rest (by decide) <| g_op <| g_c <| g_var rfl <| g_times (mul_r (by omega) (by omega)) <| g_plusI <| g_c <| g_plusI <| g_nil <| g_int <| g_c <| g_times (mul_r (by decide) (by decide)) <| g_c <| g_rest (by decide) ?_
    refine s_ret <| g_cell <| g_lst <| g_cons <| g_op <| g_var rfl <| g_cb <| g_cons <| g_op <| g_var rfl <| run_eq (a := .int (10 ^ 18)) rfl <| g_geq <| g_nil ?_
    refine run_eq (a := .int (if decide ((10 ^ 18 : Int) ≤ cell) then 1 else 0)) rfl <| g_times (mul_r ?_ ?_) <| g_cons <| g_var rfl <| g_nil ?_
    · split <;> decide
    · split <;> decide
    · refine q _ ⟨cell * (if decide ((10 ^ 18 : Int) ≤ cell) then 1 else 0), (cell % 2147483629 + 104729 * k + 11) * 48271 % 2147483647, ?_, Int.emod_nonneg _ (by decide), Int.emod_lt_of_pos _ (by decide)⟩ ⟨_, rfl⟩
      rw [List.getElem?_append_right (Nat.le_refl _), Nat.sub_self]; rfl
  refine s_seq <| s_asgN <| g_c ?_
  have hne : opEqN true (.scr ns) (.lst []) S = .ok (.bl (!decide (ns = []))) S := by
    have e : eqD (.lst (ns.map D.int)) (.lst []) = decide (ns = []) := eqD_LI ns []
    have ok1 : okN 9 (.lst (ns.map D.int)) = true := (okN_LI ns 8).1
    show (if (okN 9 (.lst (ns.map D.int)) && okN 9 (.lst [])) = true then Out.ok (D.bl (xor true (eqD (.lst (ns.map D.int)) (.lst [])))) S else .bad) = _
    rw [ok1, e, if_pos (by rfl), Bool.true_xor]
  refine s_seq <| s_ifS <| g_test <| g_op <| g_var rfl <| g_lst <| g_nil <| run_eq hne <| g_bl ?_
  by_cases h : ns = []
  · rw [decide_eq_true h]
    exact g_F <| s_next <| fin 0
  · rw [decide_eq_false h]
    have hp : 0 < ns.length := List.length_pos_iff.mpr h
    have hm : (LI ns).length = ns.length := List.length_map ..
    refine g_T ?_
    with_reducible refine s_asgN ?_
    refine g_op <| g_var rfl <| g_op <| g_cb <| g_cons <| g_var rfl <| g_nil <| g_int <| g_cb <| g_cons <| g_var rfl <| g_nil <| g_len (ds := LI ns) rfl (fun b z => nomatch z) rfl <| g_rest (by rw [hm]; omega) ?_
    have b0 := Int.emod_nonneg k (show ((LI ns).length : Int) ≠ 0 by rw [hm]; omega)
    have b1 := Int.emod_lt_of_pos k (show (0 : Int) < ((LI ns).length : Int) by rw [hm]; omega)
    obtain ⟨j, hj⟩ := Int.eq_ofNat_of_zero_le b0
    rw [hj]
    have hjl : j < ns.length := by rw [hj, hm] at b1; omega
    exact g_ix (ds := LI ns) rfl (at_map (g := D.int) hjl) (fin _)
theorem take_run {p : Nat} {n : Int} {S : Sto} {Q : D → Sto → Prop} {X : XQ} (h : PlS S p) (h0 : 0 < n) (h1 : n < 18446744073709551616) (q : ∀ r S', 0 ≤ r → r < n → PlS S' p → Ne p S S' → Q (.int r) S') : Rn (m__law_take [.ref p, .int n] S) Q X := by
  have hlt := h.lt
  obtain ⟨a, b, hS, b0, b1⟩ := h
  have hl : lstAt S p = some [.int a, .int b] := by unfold lstAt; rw [hS]
  refine s_run ?_
  unfold ms__law_take
  refine s_seq <| s_ifS <| g_test <| g_op <| g_op <| g_var rfl <| g_c <| g_ix (list_ref hl) rfl <| g_c <| g_more <| g_bl ?_
  by_cases ha : 0 < a
  · rw [decide_eq_true ha]
    refine g_T ?_
    refine s_seq <| s_asgN <| g_op <| g_cb <| g_cons <| g_op <| g_var rfl <| g_c <| g_ix (list_ref hl) rfl <| g_nil <| g_int <| g_var rfl <| g_rest h0 ?_
    refine s_seq <| s_setC (m := p) (ds := [.int a, .int b]) <| g_op <| g_op <| g_var rfl <| g_c <| g_ix (list_ref hl) rfl <| g_var rfl <| g_quot h0 h1 <| g_var rfl <| g_c ⟨0, 0, rfl, rfl, hS, rfl, ?_⟩
    with_reducible refine s_ret ?_
    refine g_var rfl ?_
    refine q _ _ (Int.emod_nonneg _ (by omega)) (Int.emod_lt_of_pos _ h0) ⟨a / n, b, ?_, b0, b1⟩ (Ne.set p S _)
    rw [List.getElem?_set_self hlt]; rfl
  · rw [decide_eq_false ha]
    refine g_F <| s_next ?_
    refine s_seq <| s_setC (m := p) (ds := [.int a, .int b]) <| g_op <| g_cb <| g_cons <| g_op <| g_op <| g_op <| g_var rfl <| g_c <| g_ix (list_ref hl) rfl <| g_c <| g_times (mul_r (by decide) (by decide)) <| g_c <| g_plusI <| g_nil <| g_int <| g_c <| g_rest (by decide) <| g_var rfl <| g_c ⟨1, 1, rfl, rfl, hS, rfl, ?_⟩
    obtain ⟨b', hb'⟩ : ∃ b' : Int, b' = (b * 48271 + 11) % 2147483647 := ⟨_, rfl⟩
    have c0 : 0 ≤ b' := by rw [hb']; exact Int.emod_nonneg _ (by decide)
    have c1 : b' < 2147483647 := by rw [hb']; exact Int.emod_lt_of_pos _ (by decide)
    rw [← hb']
    have hS' : (S.set p (some (.lst [.int a, .int b'])))[p]? = some (some (.lst [.int a, .int b'])) := List.getElem?_set_self hlt
    have hl' : lstAt (S.set p (some (.lst [.int a, .int b']))) p = some [.int a, .int b'] := by unfold lstAt; rw [hS']
    show RunS (mRet _ _ (S.set p (some (.lst [.int a, .int b'])))) _
    refine s_ret <| g_op <| g_cb <| g_cons <| g_op <| g_op <| g_cb <| g_cons <| g_op <| g_op <| g_var rfl <| g_c <| g_ix (list_ref hl') rfl <| g_op <| g_var rfl <| g_c <| g_ix (list_ref hl') rfl <| g_times (mul_r (by omega) (by omega)) <| g_nil <| g_int <| g_c <| g_rest (by decide) <| g_c <| g_quot (by decide) (by decide) <| g_nil <| g_int <| g_var rfl <| g_rest h0 ?_
    exact q _ _ (Int.emod_nonneg _ (by omega)) (Int.emod_lt_of_pos _ h0) ⟨a, b', hS', c0, c1⟩ (Ne.set p S _)

abbrev cM : Nat := 0
abbrev eM : Nat := 1
abbrev nC : Nat := 1

abbrev BL (bs : List Bool) : List D := bs.map D.bl
def mk (n : Nat) : D := .obj cM ["kept"] [.ref n]
def isMany : D → Bool
  | .int i => decide (1 ≤ i) && decide (i ≤ 64)
  | _ => false
theorem many_eq {d : D} (p : plainD d = true) (S : Sto) : m_is_many [d] S = .ok (.bl (isMany d)) S := by
  refine rn_eq (s_run ?_)
  unfold ms_is_many
  refine s_ret (g_andV (g_call (g_cons (g_var rfl (g_nil (run_eq (isintD p S) ⟨_, rfl, ?_⟩))))))
  cases d with
  | int i =>
    refine g_T ?_
    walk_at "g"
    show if decide (1 ≤ i) = true then _ else _
    by_cases h0 : 1 ≤ i
    · rw [decide_eq_true h0]
      refine g_T ?_
      walk_at "g"
      refine ⟨?_, rfl⟩
      show _ = D.bl (decide (1 ≤ i) && decide (i ≤ 64))
      rw [decide_eq_true h0, Bool.true_and]
    · rw [decide_eq_false h0]
      refine g_F ⟨?_, rfl⟩
      show _ = D.bl (decide (1 ≤ i) && decide (i ≤ 64))
      rw [decide_eq_false h0, Bool.false_and]
  | bl b => exact g_F ⟨rfl, rfl⟩
  | non => exact g_F ⟨rfl, rfl⟩
  | str s => exact g_F ⟨rfl, rfl⟩
  | tup ds => exact g_F ⟨rfl, rfl⟩
  | lst ds => exact g_F ⟨rfl, rfl⟩
  | _ => cases p
theorem many_int {n : Nat} (h1 : 1 ≤ n) (h2 : n ≤ 64) : isMany (.int n) = true := by
  show (decide (1 ≤ (n : Int)) && decide ((n : Int) ≤ 64)) = true
  rw [decide_eq_true (by omega), decide_eq_true (by omega)]; rfl
theorem rep_false : ∀ n : Nat, (List.replicate n [D.bl false]).flatten = BL (List.replicate n false)
  | 0 => rfl
  | n + 1 => by rw [List.replicate_succ, List.flatten_cons, rep_false n, List.replicate_succ]; rfl
theorem rep_eq {n : Nat} (h : n ≤ 64) (S : Sto) : opRep (.lst [.bl false]) (.int n) S = .ok (.lst (BL (List.replicate n false))) S := by
  show (if _ then _ else _) = _
  rw [if_pos ⟨by omega, by omega, by rw [Int.toNat_natCast]; simp only [List.length_cons, List.length_nil]; omega⟩, Int.toNat_natCast, rep_false]
theorem minit_run {d e : D} {S : Sto} {QI : List PySem.Str × List D → Sto → Prop} {X : XQ} (p : plainD d = true) (hx : isMany d = false → X eM ["at"] [d] S)
    (q : isMany d = true → Rn (mIf (mTest (mOp opIs (mVar 2) (mC .non))) (mOp opRep (mLst (mCons (mC (.bl false)) mNil)) (mVar 1)) (mCB fList (mCons (mVar 2) mNil)) [.own true (.obj cM [] []), .val d, .val e] S) (fun l S' => QI ([("kept" : PySem.Str)], [.ref S'.length]) (S' ++ [some l])) X) : Rn (m_MarksU_initU [d, e] S) QI X := by
  refine s_runI ?_
  unfold ms_MarksU_initU
  refine s_seq (s_ifS (g_not (g_test (g_call (g_cons (g_var rfl (g_nil (run_eq (many_eq p S) (g_bl ?_)))))))))
  cases hm : isMany d with
  | false =>
    refine g_T ?_
    walk_at "g"
    exact hx hm
  | true =>
    refine g_F (s_next ?_)
    refine s_setFO rfl (by decide) (g_cell (run_mono (q hm) (fun l S' h => ?_) fun _ _ _ _ z => z))
    exact ⟨_, _, _, rfl, h⟩
theorem minit_n {n : Nat} (h1 : 1 ≤ n) (h2 : n ≤ 64) (S : Sto) : m_MarksU_initU [.int n, .non] S = .ok ([("kept" : PySem.Str)], [.ref S.length]) (S ++ [some (.lst (BL (List.replicate n false)))]) := by
  have h : Rn (m_MarksU_initU [.int n, .non] S) (fun p S' => p = ([("kept" : PySem.Str)], [.ref S.length]) ∧ S' = S ++ [some (.lst (BL (List.replicate n false)))]) noXQ := by
    refine minit_run rfl (fun z => by rw [many_int h1 h2] at z; cases z) fun _ => ?_
    refine g_if (g_test (g_op (g_var rfl (g_c (g_isN (g_bl (g_T ?_)))))))
    exact g_op (g_lst (g_cons (g_c (g_nil (g_var rfl (run_eq (rep_eq h2 S) ⟨rfl, rfl⟩))))))
  obtain ⟨a, S', e, rfl, rfl⟩ := run_ok h
  exact e
theorem minit_t {bs : List Bool} {e : D} (h1 : 1 ≤ bs.length) (h2 : bs.length ≤ 64) (hn : isNon e = false) {S : Sto} (hs : seqOf S e = some (BL bs)) : m_MarksU_initU [.int bs.length, e] S = .ok ([("kept" : PySem.Str)], [.ref S.length]) (S ++ [some (.lst (BL bs))]) := by
  have h : Rn (m_MarksU_initU [.int bs.length, e] S) (fun p S' => p = ([("kept" : PySem.Str)], [.ref S.length]) ∧ S' = S ++ [some (.lst (BL bs))]) noXQ := by
    refine minit_run rfl (fun z => by rw [many_int h1 h2] at z; cases z) fun _ => ?_
    refine g_if (g_test (g_op (g_var rfl (g_c (g_isN (g_bl ?_))))))
    rw [hn]
    exact g_F (g_cb (g_cons (g_var rfl (g_nil (g_list hs ⟨rfl, rfl⟩)))))
  obtain ⟨a, S', e, rfl, rfl⟩ := run_ok h
  exact e
theorem mcheck_run {bs : List Bool} {n : Nat} {d : D} {S : Sto} {Q : D → Sto → Prop} {X : XQ} (h : lstAt S n = some (BL bs)) (p : plainD d = true) (hx : isAt bs.length d = false → X eM ["at"] [d] S) (q : isAt bs.length d = true → Q .non S) : Rn (m_Marks_check [mk n, d] S) Q X := by
  have hb : (BL bs).length = bs.length := List.length_map ..
  refine s_run ?_
  unfold ms_Marks_check
  have e : (mOr (mNot (mTest (mCall 1 m_is_integer (mCons (mVar 1) mNil)))) (mNot (mTest (mChain opLeq opLess (mC (.int 0)) (mVar 1) (mCB fLen (mCons (mGetF cM "kept" (mVar 0)) mNil)))))) [.val (mk n), .val d] S = .ok (!isAt bs.length d) S := by
    refine rn_eq (g_or (g_not (g_test (g_call (g_cons (g_var rfl (g_nil (run_eq (isintD p S) (g_bl ?_)))))))))
    cases d with
    | int i =>
      refine g_F (g_not (g_test (g_chain (g_c (g_var rfl (g_leq ⟨_, rfl, ?_⟩))))))
      show if decide (0 ≤ i) = true then _ else _
      by_cases hi : 0 ≤ i
      · rw [decide_eq_true hi]
        refine g_T (g_cb (g_cons (g_getF (g_var rfl ⟨_, _, .ref n, rfl, rfl, g_nil (g_len (ds := BL bs) rfl (fun b z => nomatch z) (seq_ref h) (g_less (g_bl ⟨?_, rfl⟩)))⟩))))
        show (!decide (i < ((BL bs).length : Int))) = !(decide (0 ≤ i) && decide (i < (bs.length : Int)))
        rw [decide_eq_true hi, Bool.true_and, hb]
      · rw [decide_eq_false hi]
        refine g_F (g_bl ⟨?_, rfl⟩)
        show (!false) = !(decide (0 ≤ i) && decide (i < (bs.length : Int)))
        rw [decide_eq_false hi, Bool.false_and]
    | bl b => exact g_T ⟨rfl, rfl⟩
    | non => exact g_T ⟨rfl, rfl⟩
    | str s => exact g_T ⟨rfl, rfl⟩
    | tup ds => exact g_T ⟨rfl, rfl⟩
    | lst ds => exact g_T ⟨rfl, rfl⟩
    | _ => cases p
  refine s_ifS (run_eq e ?_)
  cases ha : isAt bs.length d with
  | true => exact g_F (s_next (q ha))
  | false =>
    refine g_T ?_
    walk_at "g"
    exact hx ha
theorem at_BL {bs : List Bool} {i : Nat} (h : i < bs.length) : atI (BL bs) (i : Int) = some (.bl bs[i]) := by
  have hb : (BL bs).length = bs.length := List.length_map ..
  unfold atI
  rw [hb, ix_nat h]
  show (BL bs)[i]? = _
  rw [List.getElem?_map, List.getElem?_eq_getElem h]; rfl
def isB : D → Bool
  | .bl _ => true
  | _ => false
theorem mset_run {bs : List Bool} {n : Nat} {d v : D} {S : Sto} {Q : D → Sto → Prop} {X : XQ} (h : lstAt S n = some (BL bs)) (p : plainD d = true) (pv : plainD v = true) (hx : isAt bs.length d = false → X eM ["at"] [d] S) (hv : isAt bs.length d = true → isB v = false → X eM ["at"] [.non] S)
    (q : ∀ (i : Nat) (hi : i < bs.length) (b : Bool), d = .int i → v = .bl b → Q .non (S.set n (some (.lst (BL (bs.set i b)))))) : Rn (m_MarksU_setitemU [mk n, d, v] S) Q X := by
  have hb : (BL bs).length = bs.length := List.length_map ..
  refine s_run ?_
  unfold ms_MarksU_setitemU
  refine s_seq (s_drop (g_meth (g_var rfl ⟨_, _, rfl, rfl, g_cons (g_var rfl (g_nil (mcheck_run h p hx fun ha => ?_)))⟩)))
  have ei : fIsi nC [v, .ty "bool"] S = .ok (.bl (isB v)) S := by
    cases v with
    | bl b => cases b <;> rfl
    | int i => rfl
    | non => rfl
    | str s => rfl
    | tup ds => rfl
    | lst ds => rfl
    | _ => cases pv
  refine s_seq <| s_ifS <| g_not <| g_test <| g_cb <| g_cons <| g_var rfl <| g_cons <| g_c <| g_nil <| run_eq ei <| g_bl ?_
  cases hvb : isB v with
  | false =>
    refine g_T ?_
    walk_at "g"
    exact hv ha hvb
  | true =>
    cases v with
    | bl b =>
      obtain ⟨i, rfl, hi⟩ := isAt_int ha
      refine g_F (s_next ?_)
      refine s_setC (m := n) (ds := BL bs) (g_var rfl (g_getF (g_var rfl ⟨_, _, .ref n, rfl, rfl, g_var rfl ⟨(i : Int), i, rfl, rfl, lstAt_some h, by rw [hb]; exact ix_nat hi, ?_⟩⟩)))
      have e : (BL bs).set i (.bl b) = BL (bs.set i b) := List.map_set.symm
      show Q .non (S.set n (some (.lst ((BL bs).set i (.bl b)))))
      rw [e]
      exact q i hi b rfl rfl
    | _ => cases hvb

theorem of_e {bs : List Bool} {n : Nat} {S : Sto} (h1 : 1 ≤ bs.length) (h2 : bs.length ≤ 64) (h : lstAt S n = some (BL bs)) : m_marks_of [.ref n] S = .ok (mk S.length) (S ++ [some (.lst (BL bs))]) := by
  have hb : (BL bs).length = bs.length := List.length_map ..
  have hr : Rn (m_marks_of [.ref n] S) (fun d S' => d = mk S.length ∧ S' = S ++ [some (.lst (BL bs))]) noXQ := by
    refine s_run ?_
    unfold ms_marks_of
    refine s_ret (g_new (g_cons (g_cb (g_cons (g_var rfl (g_nil (g_len (ds := BL bs) rfl (fun b z => nomatch z) (seq_ref h) (g_cons (g_var rfl (g_nil ?_))))))))))
    rw [hb]
    have e := minit_t (e := .ref n) h1 h2 rfl (seq_ref h)
    show Rn (m_MarksU_initU [.int bs.length, .ref n] S) _ _
    rw [e]
    exact ⟨rfl, rfl⟩
  obtain ⟨a, S', e, rfl, rfl⟩ := run_ok hr
  exact e
theorem twin_e {bs : List Bool} {n : Nat} {S : Sto} (h1 : 1 ≤ bs.length) (h2 : bs.length ≤ 64) (h : lstAt S n = some (BL bs)) : m_Marks_twin [mk n] S = .ok (mk S.length) (S ++ [some (.lst (BL bs))]) := by
  have hr : Rn (m_Marks_twin [mk n] S) (fun d S' => d = mk S.length ∧ S' = S ++ [some (.lst (BL bs))]) noXQ := by
    refine s_run ?_
    unfold ms_Marks_twin
    refine s_ret (g_call (g_cons (g_getF (g_var rfl ⟨_, _, .ref n, rfl, rfl, g_nil ?_⟩))))
    rw [of_e h1 h2 h]
    exact ⟨rfl, rfl⟩
  obtain ⟨a, S', e, rfl, rfl⟩ := run_ok hr
  exact e
theorem mget_run {bs : List Bool} {n : Nat} {d : D} {S : Sto} {Q : D → Sto → Prop} {X : XQ} (h : lstAt S n = some (BL bs)) (p : plainD d = true) (hx : isAt bs.length d = false → X eM ["at"] [d] S) (q : ∀ (i : Nat) (hi : i < bs.length), d = .int i → Q (.bl bs[i]) S) : Rn (m_MarksU_getitemU [mk n, d] S) Q X := by
  refine s_run ?_
  unfold ms_MarksU_getitemU
  refine s_seq (s_drop (g_meth (g_var rfl ⟨_, _, rfl, rfl, g_cons (g_var rfl (g_nil (mcheck_run h p hx fun ha => ?_)))⟩)))
  obtain ⟨i, rfl, hi⟩ := isAt_int ha
  refine s_ret (g_op (g_getF (g_var rfl ⟨_, _, .ref n, rfl, rfl, g_var rfl (g_ix (list_ref h) (at_BL hi) (q i hi rfl))⟩)))
theorem mlen_e {a : List Bool} {n : Nat} {S : Sto} (ha : lstAt S n = some (BL a)) : m_MarksU_lenU [mk n] S = .ok (.int a.length) S := by
  have hb : (BL a).length = a.length := List.length_map ..
  refine rn_eq (s_run ?_)
  unfold ms_MarksU_lenU
  refine s_ret (g_cb (g_cons (g_getF (g_var rfl ⟨_, _, .ref n, rfl, rfl, g_nil (g_len (ds := BL a) rfl (fun b z => nomatch z) (seq_ref ha) ?_)⟩))))
  rw [hb]
  exact ⟨rfl, rfl⟩

theorem if_f {mt : MT} {ms : MS} {δ : MR.Env} {S : Sto} {P : EndP} (h : mt δ S = .ok false S) (q : P.nx δ S) : RunS (mIfS mt ms mNext δ S) P := s_ifS (run_eq h (g_F (s_next q)))
theorem if_n {mt : MT} {ms mu : MS} {δ : MR.Env} {S : Sto} {P : EndP} (h : mt δ S = .ok false S) (q : RunS (mu δ S) P) : RunS (mIfS mt ms mu δ S) P := s_ifS (run_eq h (g_F q))
theorem if_t {mt : MT} {ms mu : MS} {δ : MR.Env} {S : Sto} {P : EndP} (h : mt δ S = .ok true S) (q : RunS (ms δ S) P) : RunS (mIfS mt ms mu δ S) P := s_ifS (run_eq h (g_T q))
theorem or_f {mt mu : MT} {δ : MR.Env} {S : Sto} (h1 : mt δ S = .ok false S) (h2 : mu δ S = .ok false S) : mOr mt mu δ S = .ok false S := rn_eq (g_or (run_eq h1 (g_F (run_eq h2 ⟨rfl, rfl⟩))))
theorem or_l {mt mu : MT} {δ : MR.Env} {S : Sto} (h1 : mt δ S = .ok true S) : mOr mt mu δ S = .ok true S := rn_eq (g_or (run_eq h1 (g_T ⟨rfl, rfl⟩)))
theorem or_r {mt mu : MT} {δ : MR.Env} {S : Sto} (h1 : mt δ S = .ok false S) (h2 : mu δ S = .ok true S) : mOr mt mu δ S = .ok true S := rn_eq (g_or (run_eq h1 (g_F (run_eq h2 ⟨rfl, rfl⟩))))
/-- a walk over enumerate of a list: I knows the number of the turn -/
theorem s_loopE {mg : MG} {ms : MS} {P : EndP} {δ : MR.Env} {S : Sto} {xs : List D} (I : Nat → MR.Env → Sto → Prop) (h0 : I 0 δ S) (hs : ∀ k (h : k < xs.length) δ S, I k δ S → ∃ δ1, mg (.tup [.int (k : Nat), xs[k]]) δ = some δ1 ∧ RunS (ms δ1 S) { P with nx := I (k + 1), ct := I (k + 1), bk := P.nx }) (he : ∀ δ S, I xs.length δ S → P.nx δ S) :
    RunS (mLoop mg ms (enumD xs) δ S) P := by
  have el : (enumD xs).length = xs.length := by unfold enumD; exact List.length_mapIdx
  refine s_loop (fun ds δ S => ∃ k, k ≤ xs.length ∧ ds = (enumD xs).drop k ∧ I k δ S) ?_ ?_ _ _ _ ⟨0, Nat.zero_le _, rfl, h0⟩
  · rintro d ds δ S ⟨k, hk, e, h⟩
    have hlt : k < xs.length := by
      rcases Nat.lt_or_ge k xs.length with z | z
      · exact z
      · rw [List.drop_of_length_le (by omega)] at e; cases e
    rw [List.drop_eq_getElem_cons (by omega)] at e
    obtain ⟨e1, e2⟩ := List.cons.inj e
    have ed : d = .tup [.int (k : Nat), xs[k]] := by rw [e1]; unfold enumD; rw [List.getElem_mapIdx]
    subst ed
    obtain ⟨δ1, h1, h2⟩ := hs k hlt δ S h
    refine ⟨δ1, h1, ?_⟩
    have imp : ∀ δ S, I (k + 1) δ S → ∃ j, j ≤ xs.length ∧ ds = (enumD xs).drop j ∧ I j δ S := fun δ S z => ⟨k + 1, hlt, e2, z⟩
    cases zz : ms δ1 S with
    | ok f S' => rw [zz] at h2; cases f <;> first | exact imp _ _ h2 | exact h2
    | ex => rw [zz] at h2; exact h2
    | bad => rw [zz] at h2; exact h2
  · rintro δ S ⟨k, hk, e, h⟩
    have : k = xs.length := by
      rcases Nat.lt_or_ge k xs.length with z | z
      · rw [List.drop_eq_getElem_cons (by omega)] at e; cases e
      · omega
    subst this
    exact he δ S h
/-- a walk over a list: I knows the number of the turn -/
theorem s_loopL {mg : MG} {ms : MS} {P : EndP} {δ : MR.Env} {S : Sto} {xs : List D} (I : Nat → MR.Env → Sto → Prop) (h0 : I 0 δ S) (hs : ∀ k (h : k < xs.length) δ S, I k δ S → ∃ δ1, mg xs[k] δ = some δ1 ∧ RunS (ms δ1 S) { P with nx := I (k + 1), ct := I (k + 1), bk := P.nx }) (he : ∀ δ S, I xs.length δ S → P.nx δ S) :
    RunS (mLoop mg ms xs δ S) P := by
  refine s_loop (fun ds δ S => ∃ k, k ≤ xs.length ∧ ds = xs.drop k ∧ I k δ S) ?_ ?_ _ _ _ ⟨0, Nat.zero_le _, rfl, h0⟩
  · rintro d ds δ S ⟨k, hk, e, h⟩
    have hlt : k < xs.length := by
      rcases Nat.lt_or_ge k xs.length with z | z
      · exact z
      · rw [List.drop_of_length_le (by omega)] at e; cases e
    rw [List.drop_eq_getElem_cons (by omega)] at e
    obtain ⟨e1, e2⟩ := List.cons.inj e
    subst e1
    obtain ⟨δ1, h1, h2⟩ := hs k hlt δ S h
    refine ⟨δ1, h1, ?_⟩
    have imp : ∀ δ S, I (k + 1) δ S → ∃ j, j ≤ xs.length ∧ ds = xs.drop j ∧ I j δ S := fun δ S z => ⟨k + 1, hlt, e2, z⟩
    cases zz : ms δ1 S with
    | ok f S' => rw [zz] at h2; cases f <;> first | exact imp _ _ h2 | exact h2
    | ex => rw [zz] at h2; exact h2
    | bad => rw [zz] at h2; exact h2
  · rintro δ S ⟨k, hk, e, h⟩
    have : k = xs.length := by
      rcases Nat.lt_or_ge k xs.length with z | z
      · rw [List.drop_eq_getElem_cons (by omega)] at e; cases e
      · omega
    subst this
    exact he δ S h
theorem all_of {α : Type} {g : α → D} {p : α → Prop} : ∀ {ys : List D}, (∀ y ∈ ys, ∃ a, p a ∧ y = g a) → ∃ l : List α, ys = l.map g ∧ ∀ a ∈ l, p a
  | [], _ => ⟨[], rfl, fun _ h => absurd h List.not_mem_nil⟩
  | y :: ys, h => by
    obtain ⟨l, rfl, h2⟩ := all_of (ys := ys) fun x hx => h x (List.mem_cons_of_mem _ hx)
    obtain ⟨a, ha, rfl⟩ := h y List.mem_cons_self
    refine ⟨a :: l, rfl, fun b hb => ?_⟩
    rcases List.mem_cons.mp hb with z | z
    · subst z; exact ha
    · exact h2 b z
theorem rel_all {R : D → Prop} {ds ys : List D} (hl : List.length ys = ds.length) (hr : ∀ (i : Nat) (d y : D), ds[i]? = some d → ys[i]? = some y → R y) : ∀ y ∈ ys, R y := fun y hy => by
  obtain ⟨i, hi, rfl⟩ := List.getElem_of_mem hy
  have hd : i < ds.length := by rw [← hl]; exact hi
  exact hr i _ _ (List.getElem?_eq_getElem hd) (List.getElem?_eq_getElem hi)
theorem cut_take0 (l : List D) (a : Nat) : cutD l none (some (a : Int)) = l.take a := by
  unfold cutD
  rw [HT.sIx_none, HT.sIx_nat, List.drop_zero, Nat.sub_zero]
  by_cases h : a ≤ l.length
  · rw [Nat.min_eq_left h]
  · rw [Nat.min_eq_right (by omega), List.take_of_length_le (Nat.le_refl _), List.take_of_length_le (by omega)]
theorem cut_drop0 (l : List D) (a : Nat) : cutD l (some (a : Int)) none = l.drop a := by
  unfold cutD
  rw [HT.sIx_none, HT.sIx_nat]
  by_cases h : a ≤ l.length
  · rw [Nat.min_eq_left h, List.take_of_length_le (by rw [List.length_drop]; omega)]
  · rw [Nat.min_eq_right (by omega), List.drop_of_length_le (Nat.le_refl _), List.drop_of_length_le (by omega), List.take_nil]
theorem lcl_map {α : Type} {g : α → D} {mg : MG} {mt : MT} {me : ME} {δ : MR.Env} {S : Sto} {c : α → Bool} {f : α → D} : ∀ {xs : List α}, (∀ x ∈ xs, ∃ δ1, mg (g x) δ = some δ1 ∧ mt δ1 S = .ok (c x) S ∧ (c x = true → me δ1 S = .ok (f x) S)) → mLcL mg mt me δ (xs.map g) S = .ok ((xs.filter c).map f) S
  | [], _ => rfl
  | d :: ds, h => by
    obtain ⟨δ1, h1, h2, h3⟩ := h d List.mem_cons_self
    have ih := lcl_map (xs := ds) fun x hx => h x (List.mem_cons_of_mem _ hx)
    rw [List.map_cons]
    unfold mLcL
    rw [h1]
    dsimp only
    rw [h2]
    dsimp only [noX, bnd]
    cases z : c d with
    | true => rw [if_pos rfl, h3 z]; dsimp only [noX, bnd]; rw [ih]; simp [z]
    | false => rw [if_neg (by simp), ih]; simp [z]
theorem rng0 (n : Nat) : rngD 0 n = (List.range n).map fun i : Nat => D.int (i : Int) := by
  unfold rngD
  refine List.map_congr_left fun i _ => ?_
  rw [Int.zero_add]
theorem s_cut {o : Out Fl} {P : EndP} (M : MR.Env → Sto → Prop) (h : RunS o { nx := M, rt := fun _ _ => False }) (k : ∀ δ S, M δ S → P.nx δ S) : RunS o P := by
  cases o with
  | ok f S =>
    cases f with
    | nx δ => exact k _ _ h
    | rt d => exact False.elim h
    | bk d => exact False.elim h
    | ct d => exact False.elim h
    | ex => exact False.elim h
  | ex => exact False.elim h
  | bad => exact False.elim h

section
variable {δ : MR.Env} {S : Sto} {ma mb mc mo me : ME} {ml : MA} {mt mu : MT} {d e x y z : D} {ds es as : List D}
theorem e_c : mC d δ S = .ok d S := rfl
theorem e_v {i : Nat} (h : δ[i]? = some (.val d)) : mVar i δ S = .ok d S := rn_eq (g_var h ⟨rfl, rfl⟩)
theorem e_op {op : D → D → Sto → Out D} (h1 : ma δ S = .ok x S) (h2 : mb δ S = .ok y S) (h3 : op x y S = .ok z S) : mOp op ma mb δ S = .ok z S := rn_eq <| g_op <| run_eq h1 <| run_eq h2 <| run_eq h3 ⟨rfl, rfl⟩
theorem e_ixL {k : Int} (h1 : ma δ S = .ok (.lst ds) S) (h2 : mb δ S = .ok (.int k) S) (h : atI ds k = some d) : mOp opIx ma mb δ S = .ok d S := rn_eq <| g_op <| run_eq h1 <| run_eq h2 <| g_ix (ds := ds) rfl h ⟨rfl, rfl⟩
theorem e_ixS {k : Int} (h1 : ma δ S = .ok x S) (hx : listOf S x = some ds) (h2 : mb δ S = .ok (.int k) S) (h : atI ds k = some d) : mOp opIx ma mb δ S = .ok d S := rn_eq <| g_op <| run_eq h1 <| run_eq h2 <| g_ix (ds := ds) hx h ⟨rfl, rfl⟩
theorem e_nil : mNil δ S = .ok [] S := rfl
theorem e_cons (h1 : ma δ S = .ok x S) (h2 : ml δ S = .ok ds S) : mCons ma ml δ S = .ok (x :: ds) S := rn_eq <| g_cons <| run_eq h1 <| run_eq h2 ⟨rfl, rfl⟩
theorem e_tup (h2 : ml δ S = .ok ds S) : mTup ml δ S = .ok (.tup ds) S := rn_eq <| g_tup <| run_eq h2 ⟨rfl, rfl⟩
theorem e_cb {m : MF} (h2 : ml δ S = .ok as S) (h3 : m as S = .ok y S) : mCB m ml δ S = .ok y S := rn_eq <| g_cb <| run_eq h2 <| run_eq h3 ⟨rfl, rfl⟩
theorem e_lenZ {c : Nat} {m : MF} {ns : List PySem.Str} {k : Nat} (h : ml δ S = .ok [.obj c ns ds] S) (h3 : m [.obj c ns ds] S = .ok (.int k) S) (hk : k < 1000) : mLenZ c m ml δ S = .ok (.int k) S :=
  rn_eq <| g_lenZ <| run_eq h ⟨_, rfl, by unfold MR.isObj; exact decide_eq_true rfl, run_eq h3 ⟨_, rfl, ⟨by omega, by omega⟩, rfl, rfl⟩⟩
theorem t_test {b : Bool} (h : me δ S = .ok (.bl b) S) : mTest me δ S = .ok b S := rn_eq <| g_test <| run_eq h ⟨_, rfl, rfl, rfl⟩
theorem t_not {b : Bool} (h : mt δ S = .ok b S) : mNot mt δ S = .ok (!b) S := rn_eq <| g_not <| run_eq h ⟨rfl, rfl⟩
theorem t_and {a b : Bool} (h : mt δ S = .ok a S) (g : a = true → mu δ S = .ok b S) : mAnd mt mu δ S = .ok (a && b) S := by
  cases a with
  | true => exact rn_eq <| g_and <| run_eq h <| g_T <| run_eq (g rfl) ⟨rfl, rfl⟩
  | false => exact rn_eq <| g_and <| run_eq h <| g_F ⟨rfl, rfl⟩
theorem e_if {b : Bool} (h : mt δ S = .ok b S) (h1 : b = true → ma δ S = .ok x S) (h2 : b = false → mb δ S = .ok x S) : mIf mt ma mb δ S = .ok x S := by
  cases b with
  | true => exact rn_eq <| g_if <| run_eq h <| g_T <| run_eq (h1 rfl) ⟨rfl, rfl⟩
  | false => exact rn_eq <| g_if <| run_eq h <| g_F <| run_eq (h2 rfl) ⟨rfl, rfl⟩
theorem o_eqS {a b : PySem.Str} : opEq false (.str a) (.str b) S = .ok (.bl (decide (a = b))) S := rn_eq (g_eqS ⟨rfl, rfl⟩)
theorem o_eqI {i j : Int} : opEq false (.int i) (.int j) S = .ok (.bl (decide (i = j))) S := rn_eq (g_eqI ⟨rfl, rfl⟩)
theorem s_if {b : Bool} {ms mus : MS} {P : EndP} (h : mt δ S = .ok b S) (h1 : b = true → RunS (ms δ S) P) (h2 : b = false → RunS (mus δ S) P) : RunS (mIfS mt ms mus δ S) P := by
  cases b with
  | true => exact s_ifS (run_eq h (g_T (h1 rfl)))
  | false => exact s_ifS (run_eq h (g_F (h2 rfl)))
end

theorem s_par {i j : Nat} {ml : MA} {d e : D} {δ : MR.Env} {S : Sto} {P : EndP} (h : ml δ S = .ok [d, e] S) (q : P.nx ((δ.set i (.val d)).set j (.val e)) S) : RunS (mPar i j ml δ S) P := by
  unfold mPar
  rw [h]
  exact q

noncomputable def ms_cdB : MS :=
    (mSeq (mIfS (mOr (mNot (mTest (mCB (fIsi 1) (mCons (mVar 3) (mCons (mC (.ty "tuple")) mNil))))) (mOr (mTest (mOp (opEq true) (mCB fLen (mCons (mVar 3) mNil)) (mC (.int 2)))) (mNot (mTest (mCB (fIsi 1) (mCons (mOp opIx (mVar 3) (mC (.int 0))) (mCons (mC (.ty "str")) mNil))))))) (mRaise 2 "index" (mCons (mVar 2) mNil)) mNext)
    (mIfS (mOr (mTest (mOp (opIn true) (mOp opIx (mVar 3) (mC (.int 0))) (mTup (mCons (mC (.str "write")) (mCons (mC (.str "read")) mNil))))) (mNot (mTest (mCall 2 m_is_page (mCons (mVar 1) (mCons (mOp opIx (mVar 3) (mC (.int 1))) mNil)))))) (mRaise 2 "index" (mCons (mVar 2) mNil)) mNext))
noncomputable def ms_ccB : MS :=
    (mSeq (mIfS (mOr (mNot (mTest (mCB (fIsi 1) (mCons (mVar 3) (mCons (mC (.ty "tuple")) mNil))))) (mTest (mOp (opEq true) (mCB fLen (mCons (mVar 3) mNil)) (mC (.int 2))))) (mRaise 2 "index" (mCons (mC .non) mNil)) mNext)
    (mIfS (mOr (mNot (mTest (mCall 1 m_is_integer (mCons (mOp opIx (mVar 3) (mC (.int 0))) mNil)))) (mOr (mNot (mTest (mChain opLeq opLeq (mC (.int 0)) (mOp opIx (mVar 3) (mC (.int 0))) (mCB fLen (mCons (mVar 0) mNil))))) (mNot (mTest (mCall 2 m_is_page (mCons (mVar 1) (mCons (mOp opIx (mVar 3) (mC (.int 1))) mNil))))))) (mRaise 2 "index" (mCons (mC .non) mNil)) mNext))

section
variable {bs : List Bool} (hz : bs.length ≤ 64) {m : Nat} {S : Sto} {d x0 : D} {i : Int}
include hz in
theorem ispage_e (h : lstAt S m = some (BL bs)) (p : plainD d = true) : m_is_page [mk m, d] S = .ok (.bl (isAt bs.length d)) S := by

  refine rn_eq (s_run ?_)
  unfold ms_is_page
  refine s_ret <| g_andV <| g_call <| g_cons <| g_var rfl <| g_nil <| run_eq (isintD p S) ⟨_, rfl, ?_⟩
  cases d with
  | int i =>
    refine g_T <| g_chain <| g_c <| g_var rfl <| g_leq ⟨_, rfl, ?_⟩
    show if decide (0 ≤ i) = true then _ else _
    by_cases hi : 0 ≤ i
    · rw [decide_eq_true hi]
      refine g_T <| g_lenZ <| g_cons <| g_var rfl <| g_nil ⟨_, rfl, rfl, run_eq (mlen_e h) ⟨_, rfl, ?_, ?_⟩⟩
      · omega
      · refine g_less ⟨?_, rfl⟩
        show D.bl (decide (i < (bs.length : Int))) = .bl (decide (0 ≤ i) && decide (i < (bs.length : Int)))
        rw [decide_eq_true hi, Bool.true_and]
    · rw [decide_eq_false hi]
      refine g_F ⟨?_, rfl⟩
      show _ = D.bl (decide (0 ≤ i) && decide (i < (bs.length : Int)))
      rw [decide_eq_false hi, Bool.false_and]
  | bl b => exact g_F ⟨rfl, rfl⟩
  | non => exact g_F ⟨rfl, rfl⟩
  | str s => exact g_F ⟨rfl, rfl⟩
  | tup ds => exact g_F ⟨rfl, rfl⟩
  | lst ds => exact g_F ⟨rfl, rfl⟩
  | _ => cases p
def okK (n : Nat) (p : Bool × Nat) : Prop := p.2 < n
def dd (p : Bool × Nat) : D := .tup [.str (if p.1 then "write" else "read"), .int p.2]
include hz in
theorem cd_good {P : EndP} {p : Bool × Nat} (h : lstAt S m = some (BL bs)) (hp : okK bs.length p) (q : P.nx [.val x0, .val (mk m), .val (.int i), .val (dd p)] S) : RunS (ms_cdB [.val x0, .val (mk m), .val (.int i), .val (dd p)] S) P := by
  obtain ⟨w, p⟩ := p
  unfold ms_cdB
  have e0 : isAt bs.length (.int p) = true := int_isAt hp
  refine s_seq (if_f (by cases w <;> rfl) (if_f (or_f (by cases w <;> rfl) ?_) q))
  refine rn_eq <| g_not <| g_test <| g_call <| g_cons <| g_var rfl <| g_cons <| run_eq (a := .int p) (by cases w <;> rfl) <| g_nil <| run_eq (ispage_e hz h rfl) <| g_bl ⟨?_, rfl⟩
  rw [e0]; rfl
include hz in
theorem cd_ok {ds : List (Bool × Nat)} (h : lstAt S m = some (BL bs)) (hd : ∀ p ∈ ds, okK bs.length p) : m_check_deeds [.lst (ds.map dd), mk m] S = .ok .non S := by
  refine rn_eq (s_run ?_)
  unfold ms_check_deeds
  refine s_for <| g_enum <| g_cons <| g_var rfl <| g_nil ⟨ds.map dd, rfl, ?_⟩
  refine s_loopE (fun k δ S' => S' = S ∧ ∃ v2 v3, δ = [.val (.lst (ds.map dd)), .val (mk m), v2, v3]) ⟨rfl, _, _, rfl⟩ ?_ ?_
  · rintro k hk δ _ ⟨rfl, v2, v3, rfl⟩
    refine ⟨_, rfl, ?_⟩
    have hkd : k < ds.length := by rw [List.length_map] at hk; exact hk
    have ex : (ds.map dd)[k] = dd ds[k] := List.getElem_map ..
    rw [ex]
    show RunS (ms_cdB [.val (.lst (ds.map dd)), .val (mk m), .val (.int (k : Nat)), .val (dd ds[k])] _) _
    exact cd_good hz h (hd _ (List.getElem_mem hkd)) ⟨rfl, _, _, rfl⟩
  · rintro δ _ ⟨rfl, _⟩
    exact ⟨rfl, rfl⟩
end
def dc (p : Nat × Nat) : D := .tup [.int p.1, .int p.2]
section
variable {S : Sto} {n : Nat} {ds : List D} {r : D} {LT : D → D → Bool}
/-- the first place whose row is not below -/
def isPl (LT : D → D → Bool) (ds : List D) (r : D) (a : Nat) : Prop := a ≤ ds.length ∧ (∀ i (h : i < ds.length), i < a → LT ds[i] r = true) ∧ ∀ i (h : i < ds.length), a ≤ i → LT ds[i] r = false
theorem pf_run {Q : D → Sto → Prop} {X : XQ} (h : S[n]? = some (some (.lst ds))) (hl : ds.length ≤ 1000) (hlt : ∀ d ∈ ds, opLtT d r S = .ok (.bl (LT d r)) S) (hm : ∀ i j (hi : i < ds.length) (hj : j < ds.length), i < j → LT ds[j] r = true → LT ds[i] r = true)
    (q : ∀ a, isPl LT ds r a → Q (.int (a : Nat)) S) : Rn (m_place_for [.ref n, r] S) Q X := by
  have hli : lstAt S n = some ds := by unfold lstAt; rw [h]
  refine s_run ?_
  unfold ms_place_for
  refine s_seq <| s_par (e_cons e_c (e_cons (e_cb (e_cons (e_v rfl) e_nil) (rn_eq (g_len (ds := ds) rfl (fun b z => nomatch z) (seq_ref hli) ⟨rfl, rfl⟩))) e_nil)) ?_
  refine s_seq <| s_while (fun k δ S' => S' = S ∧ ∃ lo hi v4, lo ≤ hi ∧ hi ≤ ds.length ∧ k = hi - lo ∧ (∀ i (h : i < ds.length), i < lo → LT ds[i] r = true) ∧ (∀ i (h : i < ds.length), hi ≤ i → LT ds[i] r = false) ∧ δ = [.val (.ref n), .val r, .val (.int (lo : Nat)), .val (.int (hi : Nat)), v4]) ?_ _ ds.length _ _ (by omega) ⟨rfl, 0, ds.length, _, Nat.zero_le _, Nat.le_refl _, rfl, fun i h z => absurd z (Nat.not_lt_zero _), fun i h z => absurd h (by omega), rfl⟩
  rintro k δ S ⟨rfl, lo, hi, v4, h1, h2, rfl, h3, h4, rfl⟩
  refine run_eq (a := decide (lo < hi)) (t_test (e_op (e_v rfl) (e_v rfl) ?_)) ?_
  · show Out.ok (D.bl (decide (((lo : Nat) : Int) < ((hi : Nat) : Int)))) S = _
    rw [show decide (((lo : Nat) : Int) < ((hi : Nat) : Int)) = decide (lo < hi) from decide_eq_decide.mpr (by omega)]
  by_cases c : lo < hi
  · rw [decide_eq_true c]
    refine g_T ?_
    have hmd : (lo + hi) / 2 < ds.length := by omega
    refine s_seq <| s_asgN <| run_eq (a := .int (((lo + hi) / 2 : Nat) : Int)) (rn_eq <| g_op <| g_op <| g_var rfl <| g_var rfl <| g_plusI <| g_c <| g_quot (by decide) (by decide) ⟨congrArg D.int (by omega), rfl⟩) ?_
    dsimp only [List.set]
    have hat : atI ds (((lo + hi) / 2 : Nat) : Int) = some ds[(lo + hi) / 2] := by
      unfold atI
      rw [ix_nat hmd]
      exact List.getElem?_eq_getElem hmd
    refine s_if (t_test (e_op (e_ixS (e_v rfl) (list_ref hli) (e_v rfl) hat) (e_v rfl) (hlt _ (List.getElem_mem hmd)))) (fun z => ?_) fun z => ?_
    · refine s_asgN <| run_eq (a := .int (((lo + hi) / 2 + 1 : Nat) : Int)) (rn_eq <| g_op <| g_var rfl <| g_c <| g_plusI ⟨rfl, rfl⟩) ?_
      refine ⟨hi - ((lo + hi) / 2 + 1), by omega, rfl, (lo + hi) / 2 + 1, hi, _, by omega, h2, rfl, fun i h hi' => ?_, h4, rfl⟩
      rcases Nat.lt_or_ge i ((lo + hi) / 2) with y | y
      · exact hm i _ h hmd y z
      · have : i = (lo + hi) / 2 := by omega
        subst this
        exact z
    · refine s_asgN <| run_eq (e_v rfl) ?_
      refine ⟨(lo + hi) / 2 - lo, by omega, rfl, lo, (lo + hi) / 2, _, by omega, by omega, rfl, h3, fun i h hi' => ?_, rfl⟩
      rcases Nat.lt_or_ge ((lo + hi) / 2) i with y | y
      · cases w : LT ds[i] r with
        | false => rfl
        | true => rw [hm _ i hmd h y w] at z; cases z
      · have : i = (lo + hi) / 2 := by omega
        subst this
        exact z
  · rw [decide_eq_false c]
    refine g_F ?_
    have : lo = hi := by omega
    subst this
    dsimp only
    refine s_ret <| g_var rfl ?_
    exact q lo ⟨by omega, h3, h4⟩
end

section
variable {α : Type} [DecidableEq α]
/-- how often a sequence of keys meets P -/
def cntP (e : Nat → Option α) (C : α → Bool) : Nat → Nat
  | 0 => 0
  | k + 1 => cntP e C k + (match e k with | some c => if C c = true then 1 else 0 | none => 0)
def bump (fs : List (α × Nat)) (c : α) : List (α × Nat) := if c ∈ fs.map (·.1) then fs.map (fun q => if q.1 = c then (q.1, q.2 + 1) else q) else fs ++ [(c, 1)]
def tab (e : Nat → Option α) : Nat → List (α × Nat)
  | 0 => []
  | k + 1 => match e k with | some c => bump (tab e k) c | none => tab e k
theorem bump_keys (fs : List (α × Nat)) (c : α) : (bump fs c).map (·.1) = if c ∈ fs.map (·.1) then fs.map (·.1) else fs.map (·.1) ++ [c] := by
  unfold bump
  split
  · rw [List.map_map]
    refine List.map_congr_left fun q _ => ?_
    show (if q.1 = c then (q.1, q.2 + 1) else q).1 = q.1
    split <;> rfl
  · rw [List.map_append]; rfl
theorem tab_nodup (e : Nat → Option α) : ∀ k, ((tab e k).map (·.1)).Nodup
  | 0 => .nil
  | k + 1 => by
    have ih := tab_nodup e k
    unfold tab
    split
    · rename_i c _
      rw [bump_keys]
      split
      · exact ih
      · rename_i h
        refine List.nodup_append.mpr ⟨ih, by simp, fun a ha b hb z => h ?_⟩
        rw [List.mem_singleton.mp hb] at z
        exact z ▸ ha
    · exact ih
theorem tab_len (e : Nat → Option α) : ∀ k, (tab e k).length ≤ k
  | 0 => Nat.le_refl _
  | k + 1 => by
    have ih := tab_len e k
    unfold tab
    split
    · unfold bump
      split
      · rw [List.length_map]; omega
      · rw [List.length_append, List.length_singleton]; omega
    · omega
theorem sum_bump_in {C : α → Bool} {c : α} : ∀ {fs : List (α × Nat)}, (fs.map (·.1)).Nodup → c ∈ fs.map (·.1) →
    (((fs.map (fun q => if q.1 = c then (q.1, q.2 + 1) else q)).filter (fun q => C q.1)).map (·.2)).sum = ((fs.filter (fun q => C q.1)).map (·.2)).sum + (if C c = true then 1 else 0)
  | [], _, h => nomatch h
  | q :: fs, hn, h => by
    rw [List.map_cons, List.nodup_cons] at hn
    rw [List.map_cons]
    by_cases e : q.1 = c
    · have hnc : c ∉ fs.map (·.1) := by rw [← e]; exact hn.1
      have e2 : fs.map (fun q => if q.1 = c then (q.1, q.2 + 1) else q) = fs := by
        refine (List.map_congr_left (g := id) fun r hr => ?_).trans (List.map_id fs)
        show (if r.1 = c then (r.1, r.2 + 1) else r) = r
        have hne : r.1 ≠ c := fun z => hnc (by rw [← z]; exact List.mem_map_of_mem (f := (·.1)) hr)
        rw [if_neg hne]
      rw [e2, if_pos e, List.filter_cons, List.filter_cons]
      dsimp only
      rw [e]
      by_cases hC : C c = true
      · rw [if_pos hC, if_pos hC, if_pos hC, List.map_cons, List.map_cons, List.sum_cons, List.sum_cons]; dsimp only; omega
      · rw [if_neg hC, if_neg hC, if_neg hC]; omega
    · rw [if_neg e]
      have hin : c ∈ fs.map (·.1) := by
        rcases List.mem_cons.mp (by rw [List.map_cons] at h; exact h) with z | z
        · exact absurd z.symm e
        · exact z
      have ih := sum_bump_in (C := C) hn.2 hin
      rw [List.filter_cons, List.filter_cons]
      by_cases hC : C q.1 = true
      · rw [if_pos hC, if_pos hC, List.map_cons, List.map_cons, List.sum_cons, List.sum_cons, ih]; omega
      · rw [if_neg hC, if_neg hC, ih]
/-- the table's sums -/
theorem tab_sum (e : Nat → Option α) (C : α → Bool) : ∀ k, (((tab e k).filter (fun q => C q.1)).map (·.2)).sum = cntP e C k
  | 0 => rfl
  | k + 1 => by
    have ih := tab_sum e C k
    unfold tab cntP
    split
    · rename_i c hc
      unfold bump
      split
      · rename_i h
        rw [sum_bump_in (tab_nodup e k) h, ih]
      · rw [List.filter_append, List.map_append, List.sum_append, ih, List.filter_cons]
        dsimp only
        by_cases hC : C c = true
        · rw [if_pos hC, if_pos hC]; rfl
        · rw [if_neg hC, if_neg hC]; rfl
    · rw [ih]; rfl
theorem bump_get {fs : List (α × Nat)} {c a : α} {v : Nat} (h : (a, v) ∈ bump fs c) : (a ≠ c ∧ (a, v) ∈ fs) ∨ (a = c ∧ ((∃ u, (a, u) ∈ fs ∧ v = u + 1) ∨ (a ∉ fs.map (·.1) ∧ v = 1))) := by
  unfold bump at h
  split at h
  · obtain ⟨q, hq, e⟩ := List.mem_map.mp h
    by_cases z : q.1 = c
    · rw [if_pos z] at e
      cases e
      exact .inr ⟨z, .inl ⟨q.2, hq, rfl⟩⟩
    · rw [if_neg z] at e
      subst e
      exact .inl ⟨z, hq⟩
  · rename_i hn
    rcases List.mem_append.mp h with h | h
    · refine .inl ⟨fun z => hn (z ▸ List.mem_map_of_mem (f := (·.1)) h), h⟩
    · cases List.mem_singleton.mp h
      exact .inr ⟨rfl, .inr ⟨hn, rfl⟩⟩
def cnt (e : Nat → Option α) (c : α) (k : Nat) : Nat := cntP e (fun a => decide (a = c)) k
theorem cnt_succ (e : Nat → Option α) (c : α) (k : Nat) : cnt e c (k + 1) = cnt e c k + (if e k = some c then 1 else 0) := by
  unfold cnt
  show cntP e _ k + _ = _
  cases h : e k with
  | none => rw [if_neg (fun z => nomatch z)]
  | some a =>
    dsimp only
    by_cases q : a = c
    · rw [if_pos (decide_eq_true q), if_pos (q ▸ rfl)]
    · rw [if_neg (fun z => q (of_decide_eq_true z)), if_neg (fun z => q (Option.some.inj z))]
theorem mem_keys_cnt (e : Nat → Option α) (c : α) : ∀ k, c ∈ (tab e k).map (·.1) ↔ 0 < cnt e c k
  | 0 => ⟨fun h => absurd h List.not_mem_nil, fun h => absurd h (Nat.lt_irrefl _)⟩
  | k + 1 => by
    have ih := mem_keys_cnt e c k
    rw [cnt_succ]
    unfold tab
    split
    · rename_i a ha
      rw [bump_keys]
      by_cases q : a = c
      · subst q
        rw [ha, if_pos rfl]
        refine ⟨fun _ => by omega, fun _ => ?_⟩
        split
        · rename_i h; exact h
        · exact List.mem_append_right _ (List.mem_singleton.mpr rfl)
      · rw [ha, if_neg (fun z => q (Option.some.inj z)), Nat.add_zero, ← ih]
        split
        · exact Iff.rfl
        · rw [List.mem_append]
          exact ⟨fun h => h.elim id fun z => absurd (List.mem_singleton.mp z).symm q, .inl⟩
    · rename_i ha
      rw [ha, if_neg (fun z => nomatch z), Nat.add_zero, ih]
theorem tab_val (e : Nat → Option α) (k : Nat) : ∀ (c : α) (v : Nat), (c, v) ∈ tab e k → v = cnt e c k := by
  induction k with
  | zero => exact fun c v h => absurd h List.not_mem_nil
  | succ k ih =>
    intro c v h
    rw [cnt_succ]
    unfold tab at h
    split at h
    · rename_i a ha
      rw [ha]
      rcases bump_get h with ⟨h1, h2⟩ | ⟨rfl, h3⟩
      · rw [if_neg (fun z => h1 (Option.some.inj z).symm), Nat.add_zero]; exact ih c v h2
      · rw [if_pos rfl]
        rcases h3 with ⟨u, hu, rfl⟩ | ⟨hn, rfl⟩
        · rw [ih c u hu]
        · have : ¬ 0 < cnt e c k := fun z => hn ((mem_keys_cnt e c k).mpr z)
          omega
    · rename_i ha
      rw [ha, if_neg (fun z => nomatch z), Nat.add_zero]; exact ih c v h
theorem tab_mem (e : Nat → Option α) (k : Nat) (c : α) (v : Nat) : (c, v) ∈ tab e k ↔ v = cnt e c k ∧ 0 < v := by
  refine ⟨fun h => ⟨tab_val e k c v h, ?_⟩, fun ⟨h1, h2⟩ => ?_⟩
  · have := (mem_keys_cnt e c k).mp (List.mem_map_of_mem (f := (·.1)) h)
    rw [tab_val e k c v h]; exact this
  · obtain ⟨q, hq, e2⟩ := List.mem_map.mp ((mem_keys_cnt e c k).mpr (h1 ▸ h2))
    have e3 : q = (c, v) := by
      obtain ⟨a, u⟩ := q
      dsimp only at e2
      subst e2
      rw [tab_val e k a u hq, ← h1]
    exact e3 ▸ hq
theorem cntP_add {e : Nat → Option α} {C : α → Bool} : ∀ k, cntP e C k + cntP e (fun c => !C c) k = cntP e (fun _ => true) k
  | 0 => rfl
  | k + 1 => by
    have ih := cntP_add (e := e) (C := C) k
    unfold cntP
    split
    · rename_i c _
      rw [if_pos (c := true = true) rfl]
      cases C c
      · rw [if_neg Bool.false_ne_true, if_pos (c := (!false) = true) rfl]; omega
      · rw [if_pos (c := true = true) rfl, if_neg (c := (!true) = true) Bool.false_ne_true]; omega
    · omega
def bst (fs : List (α × Nat)) (m : Nat) : List (α × Nat) := ((List.range m).map fun j => m - j).flatMap fun w => fs.filter fun q => decide (q.2 = w)
theorem nodup_of_keys {fs : List (α × Nat)} (h : (fs.map (·.1)).Nodup) : fs.Nodup := by
  rw [List.nodup_iff_pairwise_ne] at h ⊢
  rw [List.pairwise_map] at h
  exact h.imp fun {a b} n z => n (by rw [z])
theorem bst_perm {fs : List (α × Nat)} {m : Nat} (h : (fs.map (·.1)).Nodup) (hp : ∀ q ∈ fs, 0 < q.2 ∧ q.2 ≤ m) : (bst fs m).Perm fs := by
  have hn := nodup_of_keys h
  refine (List.perm_ext_iff_of_nodup ?_ hn).mpr fun q => ?_
  · unfold bst
    rw [List.nodup_iff_pairwise_ne, List.pairwise_flatMap]
    refine ⟨fun w _ => (List.nodup_iff_pairwise_ne.mp hn).filter _, ?_⟩
    rw [List.pairwise_map]
    refine List.pairwise_lt_range.imp_of_mem fun {i j} hi hj hij => fun x hx y hy z => ?_
    have h1 := of_decide_eq_true (List.mem_filter.mp hx).2
    have h2 := of_decide_eq_true (List.mem_filter.mp hy).2
    have := List.mem_range.mp hi
    have := List.mem_range.mp hj
    rw [z] at h1
    omega
  · unfold bst
    rw [List.mem_flatMap]
    refine ⟨fun ⟨w, _, hq⟩ => (List.mem_filter.mp hq).1, fun hq => ?_⟩
    obtain ⟨p1, p2⟩ := hp q hq
    exact ⟨q.2, List.mem_map.mpr ⟨m - q.2, List.mem_range.mpr (by omega), by omega⟩, List.mem_filter.mpr ⟨hq, decide_eq_true rfl⟩⟩
theorem bst_desc (fs : List (α × Nat)) (m : Nat) : ((bst fs m).map (·.2)).Pairwise (· ≥ ·) := by
  rw [List.pairwise_map]
  unfold bst
  rw [List.pairwise_flatMap]
  refine ⟨fun w _ => ?_, ?_⟩
  · refine (List.pairwise_of_forall (R := fun _ _ => True) fun _ _ => trivial).imp_of_mem fun {a b} ha hb _ => ?_
    have h1 := of_decide_eq_true (List.mem_filter.mp ha).2
    have h2 := of_decide_eq_true (List.mem_filter.mp hb).2
    show b.2 ≤ a.2
    omega
  · rw [List.pairwise_map]
    refine List.pairwise_lt_range.imp_of_mem fun {i j} hi hj hij => fun x hx y hy => ?_
    have h1 := of_decide_eq_true (List.mem_filter.mp hx).2
    have h2 := of_decide_eq_true (List.mem_filter.mp hy).2
    show y.2 ≤ x.2
    omega
theorem top_le : ∀ (L M : List Nat) (m : Nat), L.Pairwise (· ≥ ·) → M.Sublist L → M.length ≤ m → M.sum ≤ (L.take m).sum
  | [], M, m, _, s, _ => by rw [List.sublist_nil.mp s]; exact Nat.zero_le _
  | x :: L, [], m, _, _, _ => Nat.zero_le _
  | x :: L, y :: M, 0, _, _, h => absurd h (by simp)
  | x :: L, y :: M, m + 1, hp, s, h => by
    have hp' := List.pairwise_cons.mp hp
    have hy : y ≤ x := by
      rcases List.mem_cons.mp (s.subset List.mem_cons_self) with z | z
      · omega
      · exact hp'.1 y z
    have hs : M.Sublist L := by
      cases s with
      | cons _ s => exact (List.sublist_cons_self y M).trans s
      | cons_cons _ s => exact s
    have := top_le L M m hp'.2 hs (by simpa using h)
    rw [List.take_succ_cons, List.sum_cons, List.sum_cons]
    omega
theorem filter_sublist_map {fs : List (α × Nat)} (C : α → Bool) : ((fs.filter fun q => C q.1).map (·.2)).Sublist (fs.map (·.2)) := (List.filter_sublist).map _
end

def cln (at_ : Nat) (bs : List Bool) (c : Nat × Nat) : List Bool := if c.1 = at_ then bs.set c.2 true else bs
def clns (at_ : Nat) (cs : List (Nat × Nat)) (bs : List Bool) : List Bool := cs.foldl (cln at_) bs
def stp (cs : List (Nat × Nat)) (at_ : Nat) (d : Bool × Nat) (s : List Bool × Nat) : List Bool × Nat :=
  let b := clns at_ cs s.1
  if d.1 = true then (b.set d.2 false, s.2) else if b.getD d.2 false = true then (b, s.2) else (b, s.2 + 1)
def lk (ds : List (Bool × Nat)) (cs : List (Nat × Nat)) (bs : List Bool) : Nat → List Bool × Nat
  | 0 => (bs, 0)
  | k + 1 => stp cs k (ds.getD k (false, 0)) (lk ds cs bs k)
theorem cln_len (a : Nat) (bs : List Bool) (c : Nat × Nat) : (cln a bs c).length = bs.length := by
  unfold cln; split
  · exact List.length_set
  · rfl
theorem clns_len (a : Nat) (cs : List (Nat × Nat)) (bs : List Bool) : (clns a cs bs).length = bs.length := by
  unfold clns
  induction cs generalizing bs with
  | nil => rfl
  | cons c cs ih => rw [List.foldl_cons, ih, cln_len]
theorem lk_len (ds : List (Bool × Nat)) (cs : List (Nat × Nat)) (bs : List Bool) : ∀ k, (lk ds cs bs k).1.length = bs.length
  | 0 => rfl
  | k + 1 => by
    have := lk_len ds cs bs k
    have e := clns_len k cs (lk ds cs bs k).1
    show (stp cs k (ds.getD k (false, 0)) (lk ds cs bs k)).1.length = _
    unfold stp
    dsimp only
    split
    · dsimp only; rw [List.length_set, e, this]
    · split <;> dsimp only <;> rw [e, this]
theorem clns_step (a : Nat) (cs : List (Nat × Nat)) (bs : List Bool) {k : Nat} (h : k < cs.length) : clns a (cs.take (k + 1)) bs = cln a (clns a (cs.take k) bs) cs[k] := by
  unfold clns
  rw [List.take_succ_eq_append_getElem h, List.foldl_append]; rfl

section
variable (ds : List (Bool × Nat)) (bs : List Bool)
/-- the gap that is open at page p ahead of deed k: 0, or behind its last write; none while the mark is set -/
def og (p : Nat) : Nat → Option Nat
  | 0 => if bs.getD p false = true then none else some 0
  | k + 1 => if ds.getD k (false, 0) = (true, p) then some (k + 1) else og p k
/-- the cleaning that saves deed k's look -/
def kk (k : Nat) : Option (Nat × Nat) := if (ds.getD k (false, 0)).1 = true then none else (og ds bs (ds.getD k (false, 0)).2 k).map fun g => (g, (ds.getD k (false, 0)).2)
variable {ds bs}
theorem ft_ne {p q : Nat} (h : ((false, p) : Bool × Nat) = (true, q)) : False := by cases h
theorem tf_ne {p q : Nat} (h : ((true, p) : Bool × Nat) = (false, q)) : False := by cases h
theorem og_le {p g : Nat} : ∀ {k}, og ds bs p k = some g → g ≤ k
  | 0, h => by
    unfold og at h
    split at h <;> cases h
    exact Nat.le_refl _
  | k + 1, h => by
    unfold og at h
    split at h
    · cases h; exact Nat.le_refl _
    · have := og_le h; omega
theorem og_write {p i : Nat} (h : ds.getD i (false, 0) = (true, p)) : ∀ {k}, i < k → ∃ g, og ds bs p k = some g ∧ i + 1 ≤ g
  | 0, hk => absurd hk (Nat.not_lt_zero _)
  | k + 1, hk => by
    unfold og
    split
    · exact ⟨k + 1, rfl, by omega⟩
    · rename_i hn
      have : i ≠ k := fun z => hn (z ▸ h)
      exact og_write h (by omega)
theorem og_mid {p g a : Nat} : ∀ {j}, og ds bs p j = some g → g ≤ a → a ≤ j → og ds bs p a = some g
  | 0, h, _, h2 => by rw [Nat.le_zero.mp h2]; exact h
  | j + 1, h, h1, h2 => by
    by_cases e : a = j + 1
    · rw [e]; exact h
    · unfold og at h
      split at h
      · cases h; omega
      · exact og_mid h h1 (by omega)
theorem kk_some {k : Nat} {c : Nat × Nat} : kk ds bs k = some c ↔ ds.getD k (false, 0) = (false, c.2) ∧ og ds bs c.2 k = some c.1 := by
  unfold kk
  obtain ⟨⟨w, p⟩, hwp⟩ : ∃ q, q = ds.getD k (false, 0) := ⟨_, rfl⟩
  rw [← hwp]
  cases w with
  | true => rw [if_pos rfl]; exact ⟨fun h => (nomatch h), fun h => (tf_ne h.1).elim⟩
  | false =>
    rw [if_neg Bool.false_ne_true]
    refine ⟨fun h => ?_, fun ⟨h1, h2⟩ => ?_⟩
    · obtain ⟨g, hg, rfl⟩ := Option.map_eq_some_iff.mp h
      exact ⟨rfl, hg⟩
    · have e : p = c.2 := congrArg (·.2) h1
      subst e
      show (og ds bs c.2 k).map _ = _
      rw [h2]; rfl
def cov (cs : List (Nat × Nat)) (g p k : Nat) : Bool := cs.any fun c => decide (c.2 = p) && decide (g ≤ c.1) && decide (c.1 < k)
theorem getD_set {L : List Bool} {i p : Nat} {b : Bool} (h : p < L.length) : (L.set i b).getD p false = if i = p then b else L.getD p false := by
  rw [List.getD_eq_getElem?_getD, List.getElem?_set, List.getD_eq_getElem?_getD]
  by_cases e : i = p
  · subst e
    rw [if_pos rfl, if_pos rfl, if_pos h]; rfl
  · rw [if_neg e, if_neg e]
theorem clns_get {a p : Nat} : ∀ {cs : List (Nat × Nat)} {L : List Bool}, p < L.length → (clns a cs L).getD p false = (L.getD p false || cs.any fun c => decide (c.1 = a) && decide (c.2 = p))
  | [], L, _ => by unfold clns; simp
  | c :: cs, L, h => by
    have e : clns a (c :: cs) L = clns a cs (cln a L c) := rfl
    rw [e, clns_get (by rw [cln_len]; exact h), List.any_cons]
    unfold cln
    by_cases h1 : c.1 = a
    · rw [if_pos h1, getD_set h, decide_eq_true h1]
      by_cases h2 : c.2 = p
      · rw [if_pos h2, decide_eq_true h2]; simp
      · rw [if_neg h2, decide_eq_false h2]; simp
    · rw [if_neg h1, decide_eq_false h1]; simp
def covO (cs : List (Nat × Nat)) (p k : Nat) : Option Nat → Bool
  | none => true
  | some g => cov cs g p k
theorem cov_succ {cs : List (Nat × Nat)} {g p k : Nat} (h : g ≤ k) : cov cs g p (k + 1) = (cov cs g p k || cs.any fun c => decide (c.1 = k) && decide (c.2 = p)) := by
  unfold cov
  induction cs with
  | nil => rfl
  | cons c cs ih =>
    rw [List.any_cons, List.any_cons, List.any_cons, ih]
    have : (decide (c.2 = p) && decide (g ≤ c.1) && decide (c.1 < k + 1)) = ((decide (c.2 = p) && decide (g ≤ c.1) && decide (c.1 < k)) || (decide (c.1 = k) && decide (c.2 = p))) := by
      rw [Bool.eq_iff_iff]
      simp only [Bool.and_eq_true, Bool.or_eq_true, decide_eq_true_eq]
      omega
    rw [this]
    cases (decide (c.2 = p) && decide (g ≤ c.1) && decide (c.1 < k)) <;> cases (decide (c.1 = k) && decide (c.2 = p)) <;> simp
theorem lk_mark {cs : List (Nat × Nat)} {p : Nat} (hp : p < bs.length) : ∀ k, (lk ds cs bs k).1.getD p false = covO cs p k (og ds bs p k)
  | 0 => by
    show bs.getD p false = _
    unfold og
    cases h : bs.getD p false with
    | true => rw [if_pos rfl]; rfl
    | false =>
      rw [if_neg Bool.false_ne_true]
      show false = cov cs 0 p 0
      unfold cov
      induction cs with
      | nil => rfl
      | cons c cs ih => rw [List.any_cons, ← ih]; simp
  | k + 1 => by
    have ih := lk_mark (cs := cs) hp k
    have hl := lk_len ds cs bs k
    show (stp cs k (ds.getD k (false, 0)) (lk ds cs bs k)).1.getD p false = _
    have hb : (clns k cs (lk ds cs bs k).1).getD p false = (covO cs p k (og ds bs p k) || cs.any fun c => decide (c.1 = k) && decide (c.2 = p)) := by
      rw [clns_get (by rw [hl]; exact hp), ih]
    have hbl : (clns k cs (lk ds cs bs k).1).length = bs.length := by rw [clns_len, hl]
    have hold : (covO cs p k (og ds bs p k) || cs.any fun c => decide (c.1 = k) && decide (c.2 = p)) = covO cs p (k + 1) (og ds bs p k) := by
      cases h : og ds bs p k with
      | none => rfl
      | some g => exact (cov_succ (og_le h)).symm
    unfold stp og
    dsimp only
    generalize clns k cs (lk ds cs bs k).1 = B at hb hbl
    obtain ⟨⟨w, q⟩, hwq⟩ : ∃ r, r = ds.getD k (false, 0) := ⟨_, rfl⟩
    rw [← hwq]
    cases w with
    | true =>
      rw [if_pos rfl]
      dsimp only
      rw [getD_set (by rw [hbl]; exact hp)]
      by_cases e : q = p
      · subst e
        rw [if_pos rfl, if_pos rfl]
        show false = cov cs (k + 1) q (k + 1)
        unfold cov
        clear hb hold ih hl
        induction cs with
        | nil => rfl
        | cons c cs ih =>
          rw [List.any_cons, ← ih]
          rw [Bool.or_false, Eq.comm, Bool.eq_false_iff]
          intro z
          simp only [Bool.and_eq_true, decide_eq_true_eq] at z
          omega
      · rw [if_neg e, if_neg (fun z => e (congrArg (·.2) z)), hb, hold]
    | false =>
      rw [if_neg Bool.false_ne_true, if_neg (fun z => ft_ne z), ← hold, ← hb]
      split <;> rfl
/-- the looks with these cleanings -/
def lft (ds : List (Bool × Nat)) (bs : List Bool) (cs : List (Nat × Nat)) : Nat → Nat
  | 0 => 0
  | k + 1 => lft ds bs cs k + (match kk ds bs k with | some c => if cov cs c.1 c.2 (k + 1) = true then 0 else 1 | none => 0)
theorem lk_lft {cs : List (Nat × Nat)} (hd : ∀ p ∈ ds, okK bs.length p) : ∀ k, k ≤ ds.length → (lk ds cs bs k).2 = lft ds bs cs k
  | 0, _ => rfl
  | k + 1, hk => by
    have ih := lk_lft (cs := cs) hd k (by omega)
    have hl := lk_len ds cs bs k
    have eg : ds.getD k (false, 0) = ds[k] := by rw [List.getD_eq_getElem?_getD, List.getElem?_eq_getElem (by omega)]; rfl
    have hp : (ds.getD k (false, 0)).2 < bs.length := by rw [eg]; exact hd _ (List.getElem_mem _)
    have hm := lk_mark (ds := ds) (bs := bs) (cs := cs) hp k
    have hb : (clns k cs (lk ds cs bs k).1).getD (ds.getD k (false, 0)).2 false = (covO cs (ds.getD k (false, 0)).2 k (og ds bs (ds.getD k (false, 0)).2 k) || cs.any fun c => decide (c.1 = k) && decide (c.2 = (ds.getD k (false, 0)).2)) := by
      rw [clns_get (by rw [hl]; exact hp), hm]
    show (stp cs k (ds.getD k (false, 0)) (lk ds cs bs k)).2 = lft ds bs cs k + _
    unfold stp kk
    dsimp only
    generalize clns k cs (lk ds cs bs k).1 = B at hb
    obtain ⟨⟨w, q⟩, hwq⟩ : ∃ r, r = ds.getD k (false, 0) := ⟨_, rfl⟩
    rw [← hwq] at hb ⊢
    dsimp only at hb ⊢
    cases w with
    | true => rw [if_pos rfl, if_pos rfl]; exact ih
    | false =>
      rw [if_neg Bool.false_ne_true, if_neg Bool.false_ne_true, hb]
      cases h : og ds bs q k with
      | none => 
        rw [show covO cs q k none = true from rfl, Bool.true_or, if_pos rfl]; exact ih
      | some g =>
        rw [show covO cs q k (some g) = cov cs g q k from rfl, ← cov_succ (og_le h)]
        show _ = lft ds bs cs k + (if cov cs g q (k + 1) = true then 0 else 1)
        by_cases z : cov cs g q (k + 1) = true
        · rw [if_pos z, if_pos z]; exact ih
        · rw [if_neg z, if_neg z]; exact congrArg (· + 1) ih
/-- any cleanings: at most the looks of the gaps that they meet are saved -/
def hits (ds : List (Bool × Nat)) (bs : List Bool) (cs : List (Nat × Nat)) : List (Nat × Nat) := cs.filterMap fun c => (og ds bs c.2 c.1).map fun g => (g, c.2)
theorem lft_hits {cs : List (Nat × Nat)} : ∀ k, cntP (kk ds bs) (fun c => !decide (c ∈ hits ds bs cs)) k ≤ lft ds bs cs k
  | 0 => Nat.le_refl _
  | k + 1 => by
    have ih := lft_hits (cs := cs) k
    unfold lft cntP
    cases hc : kk ds bs k with
    | none => exact ih
    | some c =>
      dsimp only
      obtain ⟨_, ho⟩ := kk_some.mp hc
      by_cases q : cov cs c.1 c.2 (k + 1) = true
      · have hm : c ∈ hits ds bs cs := by
          unfold cov at q
          obtain ⟨a, ha, hb⟩ := List.any_eq_true.mp q
          simp only [Bool.and_eq_true, decide_eq_true_eq] at hb
          refine List.mem_filterMap.mpr ⟨a, ha, ?_⟩
          rw [hb.1.1, og_mid ho hb.1.2 (by omega)]; rfl
        rw [if_pos q, decide_eq_true hm, if_neg (c := (!true) = true) Bool.false_ne_true]
        exact ih
      · rw [if_neg q]
        split <;> omega
end
section
variable {ds : List (Bool × Nat)} {bs : List Bool}
/-- deed k, then a write of page p -/
def dk (ds : List (Bool × Nat)) (p k : Nat) : Bool × Nat := if k < ds.length then ds.getD k (false, 0) else (true, p)
/-- the law's walk for page p: what is found, the number, the truth -/
def lwS (ds : List (Bool × Nat)) (bs : List Bool) (p : Nat) : Nat → List Nat × Nat × Bool
  | 0 => ([], 0, bs.getD p false)
  | k + 1 => let s := lwS ds bs p k
    if dk ds p k = (true, p) then (s.1 ++ [s.2.1], 0, false) else if dk ds p k = (false, p) ∧ s.2.2 = false then (s.1, s.2.1 + 1, s.2.2) else s
/-- what a gap that is open has -/
def opn (ds : List (Bool × Nat)) (bs : List Bool) (p k : Nat) : Nat := match og ds bs p k with | some g => cnt (kk ds bs) (g, p) k | none => 0
def emit (ds : List (Bool × Nat)) (p n : Nat) : List Nat := (List.range n).filter fun k => decide (dk ds p k = (true, p))
theorem cnt_new {g p : Nat} : ∀ {k}, k < g → cnt (kk ds bs) (g, p) k = 0
  | 0, _ => rfl
  | k + 1, h => by
    rw [cnt_succ, cnt_new (by omega), if_neg fun z => ?_]
    have := og_le (kk_some.mp z).2
    dsimp only at this
    omega
theorem lwS_e {p : Nat} : ∀ k, k ≤ ds.length → lwS ds bs p k = ((emit ds p k).map (opn ds bs p), opn ds bs p k, (og ds bs p k).isNone)
  | 0, _ => by
    unfold lwS emit opn og
    cases h : bs.getD p false with
    | true => rw [if_pos rfl]; rfl
    | false => rw [if_neg Bool.false_ne_true]; rfl
  | k + 1, hk => by
    have ih := lwS_e (p := p) k (by omega)
    have hdk : dk ds p k = ds.getD k (false, 0) := by unfold dk; rw [if_pos (by omega)]
    unfold lwS
    dsimp only
    rw [ih, hdk]
    dsimp only
    have hem : emit ds p (k + 1) = if ds.getD k (false, 0) = (true, p) then emit ds p k ++ [k] else emit ds p k := by
      unfold emit
      rw [List.range_succ, List.filter_append, List.filter_cons, hdk]
      by_cases e : ds.getD k (false, 0) = (true, p)
      · rw [if_pos (decide_eq_true e), if_pos e]; rfl
      · rw [if_neg (fun z => e (of_decide_eq_true z)), if_neg e]
        exact List.append_nil _
    rw [hem]
    by_cases e : ds.getD k (false, 0) = (true, p)
    · rw [if_pos e, if_pos e, List.map_append]
      have ho : og ds bs p (k + 1) = some (k + 1) := by unfold og; rw [if_pos e]
      have h0 : opn ds bs p (k + 1) = 0 := by
        unfold opn
        rw [ho]
        dsimp only
        rw [cnt_succ, cnt_new (Nat.lt_succ_self _), if_neg fun z => ?_]
        have := kk_some.mp z
        dsimp only at this
        rw [e] at this
        exact tf_ne this.1
      rw [h0, ho]; rfl
    · rw [if_neg e, if_neg e]
      have ho : og ds bs p (k + 1) = og ds bs p k := by rw [og, if_neg e]
      unfold opn
      rw [ho]
      cases h : og ds bs p k with
      | none =>
        dsimp only
        rw [if_neg fun z => ?_]
        exact nomatch z.2
      | some g =>
        dsimp only
        by_cases f : ds.getD k (false, 0) = (false, p)
        · rw [if_pos ⟨f, rfl⟩, cnt_succ, if_pos (kk_some.mpr ⟨f, h⟩)]
        · rw [if_neg fun z => f z.1, cnt_succ, if_neg fun z => f (kk_some.mp z).1, Nat.add_zero]
theorem lwS_end {p : Nat} : (lwS ds bs p (ds.length + 1)).1 = (emit ds p (ds.length + 1)).map (opn ds bs p) := by
  have hdk : dk ds p ds.length = (true, p) := by unfold dk; rw [if_neg (Nat.lt_irrefl _)]
  unfold lwS
  dsimp only
  rw [if_pos hdk, lwS_e _ (Nat.le_refl _)]
  unfold emit
  rw [List.range_succ, List.filter_append, List.filter_cons, hdk, if_pos (decide_eq_true rfl), List.map_append]; rfl
/-- all sums of all pages -/
def lws (ds : List (Bool × Nat)) (bs : List Bool) (m : Nat) : List Nat := (List.range m).flatMap fun p => (lwS ds bs p (ds.length + 1)).1
/-- the same, each with its gap and page -/
def lkey (ds : List (Bool × Nat)) (bs : List Bool) (p k : Nat) : Option ((Nat × Nat) × Nat) := match og ds bs p k with | some g => if 0 < cnt (kk ds bs) (g, p) k then some ((g, p), cnt (kk ds bs) (g, p) k) else none | none => none
def lkeys (ds : List (Bool × Nat)) (bs : List Bool) (m : Nat) : List ((Nat × Nat) × Nat) := (List.range m).flatMap fun p => (emit ds p (ds.length + 1)).filterMap (lkey ds bs p)
theorem lkeys_vals (m : Nat) : (lkeys ds bs m).map (·.2) = (lws ds bs m).filter fun v => decide (0 < v) := by
  unfold lkeys lws
  rw [List.map_flatMap, List.filter_flatMap]
  refine congrArg (fun f => List.flatMap f (List.range m)) (funext fun p => ?_)
  rw [lwS_end]
  generalize emit ds p (ds.length + 1) = L
  induction L with
  | nil => rfl
  | cons k L ih =>
    rw [List.filterMap_cons, List.map_cons, List.filter_cons]
    have e : opn ds bs p k = ((lkey ds bs p k).map (·.2)).getD 0 := by
      unfold opn lkey
      cases og ds bs p k with
      | none => rfl
      | some g =>
        dsimp only
        split
        · rfl
        · rename_i z
          show _ = 0
          omega
    have e2 : ∀ q, lkey ds bs p k = some q → 0 < q.2 := fun q h => by
      unfold lkey at h
      split at h
      · split at h
        · rename_i z; cases h; exact z
        · cases h
      · cases h
    rw [e]
    cases h : lkey ds bs p k with
    | none =>
      show _ = if decide (0 < 0) = true then _ else _
      rw [if_neg (by decide)]; exact ih
    | some q =>
      have := e2 q h
      show _ = if decide (0 < q.2) = true then _ else _
      rw [if_pos (decide_eq_true this), List.map_cons, ih]; rfl
/-- behind its last deed a gap has what it has -/
theorem cnt_closed {g p k : Nat} (ho : og ds bs p k = some g) (hw : dk ds p k = (true, p)) : ∀ {n}, k ≤ n → n ≤ ds.length → cnt (kk ds bs) (g, p) n = cnt (kk ds bs) (g, p) k
  | 0, h, _ => by rw [Nat.le_zero.mp h]
  | n + 1, h, hn => by
    by_cases e : k = n + 1
    · rw [e]
    · have ih := cnt_closed ho hw (n := n) (by omega) (by omega)
      have hkl : k < ds.length := by omega
      refine (cnt_succ _ _ _).trans ?_
      refine Eq.trans (congrArg (cnt (kk ds bs) (g, p) n + ·) (if_neg fun z => ?_)) ih
      obtain ⟨z1, z2⟩ := kk_some.mp z
      dsimp only at z1 z2
      have hw' : ds.getD k (false, 0) = (true, p) := by unfold dk at hw; rw [if_pos hkl] at hw; exact hw
      by_cases q : k = n
      · subst q
        rw [hw'] at z1
        exact tf_ne z1
      · obtain ⟨g', e1, e2⟩ := og_write (bs := bs) hw' (k := n) (by omega)
        rw [z2] at e1
        cases e1
        have := og_le ho
        omega
theorem cnt_pos {e : Nat → Option (Nat × Nat)} {c : Nat × Nat} : ∀ {n}, 0 < cnt e c n → ∃ j, j < n ∧ e j = some c
  | 0, h => absurd h (Nat.lt_irrefl _)
  | n + 1, h => by
    rw [cnt_succ] at h
    by_cases q : e n = some c
    · exact ⟨n, Nat.lt_succ_self _, q⟩
    · rw [if_neg q] at h
      obtain ⟨j, h1, h2⟩ := cnt_pos h
      exact ⟨j, by omega, h2⟩
/-- the next write of the page -/
theorem og_close {g p : Nat} : ∀ (r j : Nat), j + r = ds.length → og ds bs p j = some g → ∃ k, j ≤ k ∧ k ≤ ds.length ∧ dk ds p k = (true, p) ∧ og ds bs p k = some g
  | 0, j, h, ho => ⟨j, Nat.le_refl _, by omega, by unfold dk; rw [if_neg (by omega)], ho⟩
  | r + 1, j, h, ho => by
    by_cases e : ds.getD j (false, 0) = (true, p)
    · exact ⟨j, Nat.le_refl _, by omega, by unfold dk; rw [if_pos (by omega)]; exact e, ho⟩
    · obtain ⟨k, h1, h2, h3, h4⟩ := og_close r (j + 1) (by omega) (by rw [og, if_neg e]; exact ho)
      exact ⟨k, by omega, h2, h3, h4⟩
theorem lkeys_mem (hd : ∀ p ∈ ds, okK bs.length p) (q : (Nat × Nat) × Nat) : q ∈ lkeys ds bs bs.length ↔ q.2 = cnt (kk ds bs) q.1 ds.length ∧ 0 < q.2 := by
  unfold lkeys
  rw [List.mem_flatMap]
  refine ⟨fun ⟨p, _, hq⟩ => ?_, fun ⟨h1, h2⟩ => ?_⟩
  · obtain ⟨k, hk, e⟩ := List.mem_filterMap.mp hq
    obtain ⟨hk1, hk2⟩ := List.mem_filter.mp hk
    have hk1 := List.mem_range.mp hk1
    have hk2 := of_decide_eq_true hk2
    unfold lkey at e
    split at e
    · rename_i g ho
      split at e
      · rename_i hp
        cases e
        exact ⟨(cnt_closed ho hk2 (by omega) (Nat.le_refl _)).symm, hp⟩
      · cases e
    · cases e
  · obtain ⟨⟨g, p⟩, v⟩ := q
    dsimp only at h1 h2
    obtain ⟨j, hj, hk⟩ := cnt_pos (h1 ▸ h2)
    obtain ⟨z1, z2⟩ := kk_some.mp hk
    dsimp only at z1 z2
    have hp : p < bs.length := by
      have eg : ds.getD j (false, 0) = ds[j] := by rw [List.getD_eq_getElem?_getD, List.getElem?_eq_getElem hj]; rfl
      have := hd _ (List.getElem_mem hj)
      rw [← eg, z1] at this
      exact this
    obtain ⟨k, h3, h4, h5, h6⟩ := og_close (ds.length - j) j (by omega) z2
    refine ⟨p, List.mem_range.mpr hp, List.mem_filterMap.mpr ⟨k, List.mem_filter.mpr ⟨List.mem_range.mpr (by omega), decide_eq_true h5⟩, ?_⟩⟩
    unfold lkey
    rw [h6]
    dsimp only
    rw [← cnt_closed h6 h5 h4 (Nat.le_refl _), ← h1, if_pos h2]
theorem lkeys_nodup (m : Nat) : (lkeys ds bs m).Nodup := by
  unfold lkeys
  rw [List.nodup_iff_pairwise_ne, List.pairwise_flatMap]
  have key : ∀ {p k : Nat} {q : (Nat × Nat) × Nat}, lkey ds bs p k = some q → q.1.2 = p ∧ og ds bs p k = some q.1.1 := fun {p k q} h => by
    unfold lkey at h
    split at h
    · rename_i g ho
      split at h
      · cases h; exact ⟨rfl, ho⟩
      · cases h
    · cases h
  refine ⟨fun p _ => ?_, List.pairwise_lt_range.imp fun {i j} hij x hx y hy z => ?_⟩
  · refine List.Pairwise.filterMap (R := fun a b => a < b ∧ dk ds p a = (true, p) ∧ b ≤ ds.length) _ (fun a b hab x hx y hy z => ?_) ?_
    · obtain ⟨_, h1⟩ := key hx
      obtain ⟨_, h2⟩ := key hy
      rw [← z] at h2
      have hw' : ds.getD a (false, 0) = (true, p) := by have := hab.2.1; unfold dk at this; rw [if_pos (by omega)] at this; exact this
      obtain ⟨g', e1, e2⟩ := og_write (bs := bs) hw' hab.1
      rw [h2] at e1
      cases e1
      have := og_le h1
      omega
    · unfold emit
      refine ((List.pairwise_lt_range (n := ds.length + 1)).filter _).imp_of_mem fun {a b} ha hb hab => ?_
      have := List.mem_range.mp (List.mem_filter.mp hb).1
      exact ⟨hab, of_decide_eq_true (List.mem_filter.mp ha).2, by omega⟩
  · obtain ⟨k1, _, e1⟩ := List.mem_filterMap.mp hx
    obtain ⟨k2, _, e2⟩ := List.mem_filterMap.mp hy
    have := (key e1).1
    have := (key e2).1
    rw [← z] at this
    omega
/-- the table of the useful cleanings -/
abbrev wtab (ds : List (Bool × Nat)) (bs : List Bool) : List ((Nat × Nat) × Nat) := tab (kk ds bs) ds.length
theorem lkeys_perm (hd : ∀ p ∈ ds, okK bs.length p) : (lkeys ds bs bs.length).Perm (wtab ds bs) := by
  refine (List.perm_ext_iff_of_nodup (lkeys_nodup _) (nodup_of_keys (tab_nodup _ _))).mpr fun q => ?_
  rw [lkeys_mem hd]
  obtain ⟨c, v⟩ := q
  exact (tab_mem _ _ c v).symm
end

theorem s_setD {me mo mk : ME} {δ : MR.Env} {S : Sto} {P : EndP} {n : Nat} {ks : List Key} {ds : List D} {k : Key} (q : Rn (me δ S) (fun d S => Rn (mo δ S) (fun x S => Rn (mk δ S) (fun y S => x = .ref n ∧ MR.keyOf y = some k ∧ S[n]? = some (some (.dic ks ds)) ∧ ks.length < 16777216 ∧ P.nx δ (S.set n (some (.dic (putD k d ks ds).1 (putD k d ks ds).2)))) fun c ns ds S => P.ex c ns ds δ S) fun c ns ds S => P.ex c ns ds δ S) fun c ns ds S => P.ex c ns ds δ S) : RunS (mSetD me mo mk δ S) P := by
  refine runS_bnd (run_mono q (fun d S h => runS_bnd (run_mono h (fun x S h => runS_bnd (run_mono h (fun y S h => ?_) fun _ _ _ _ z => z)) fun _ _ _ _ z => z)) fun _ _ _ _ z => z)
  obtain ⟨rfl, h2, h3, h4, h5⟩ := h
  rw [h2]
  dsimp only
  rw [h3]
  dsimp only
  rw [if_pos h4]
  exact h5
section
variable {S : Sto} {δ : MR.Env} {P : EndP} {me mo mk mp mk2 : ME} {n n2 j j2 : Nat} {ds ds2 : List D} {d d2 v : D}
theorem s_setDE {ks : List Key} {k : D} {kk : Key} (he : me δ S = .ok d S) (ho : mo δ S = .ok (.ref n) S) (hk : mk δ S = .ok k S) (hn : S[n]? = some (some (.dic ks ds))) (hkk : MR.keyOf k = some kk) (hl : ks.length < 16777216) (q : P.nx δ (S.set n (some (.dic (putD kk d ks ds).1 (putD kk d ks ds).2)))) : RunS (mSetD me mo mk δ S) P :=
  s_setD <| run_eq he <| run_eq ho <| run_eq hk ⟨rfl, hkk, hn, hl, q⟩
end

theorem s_insC {mo mk me : ME} {δ : MR.Env} {S : Sto} {P : EndP} {m j : Nat} {ds : List D} {d : D} (ho : mo δ S = .ok (.ref m) S) (hk : mk δ S = .ok (.int (j : Nat)) S) (he : me δ S = .ok d S) (hm : S[m]? = some (some (.lst ds))) (hj : j < 1000000) (hl : ds.length < 16777216) (q : P.nx δ (S.set m (some (.lst (ds.take j ++ [d] ++ ds.drop j))))) : RunS (mInsertC mo mk me δ S) P := by
  have e : mInsertC mo mk me δ S = .ok (.nx δ) (S.set m (some (.lst (ds.take j ++ [d] ++ ds.drop j)))) := by
    unfold mInsertC
    rw [ho]
    dsimp only [bndS]
    rw [hm]
    dsimp only
    rw [hk]
    dsimp only [bndS]
    rw [he]
    dsimp only [bndS]
    rw [hm]
    dsimp only
    rw [if_pos ⟨by omega, by omega, hl⟩, Int.toNat_natCast]
  rw [e]; exact q
theorem s_fixC {i m : Nat} {ms : MS} {δ : MR.Env} {S : Sto} {P : EndP} {ds : List D} (h : δ[i]? = some (.val (.ref m))) (hm : S[m]? = some (some (.lst ds))) (q : RunS (ms (δ.set i (.val (.lst ds))) (S.set m none)) P) : RunS (mFixC i ms δ S) P := by
  unfold mFixC
  rw [h]
  dsimp only
  rw [hm]; exact q
theorem s_fzB {i m : Nat} {ms : MS} {δ : MR.Env} {S : Sto} {P : EndP} {d e : D} (h : δ[i]? = some (.val (.ref m))) (hm : S[m]? = some (some d)) (he : lockD d = some e) (q : RunS (ms (δ.set i (.val e)) (S.set m none)) P) : RunS (mFzB i ms δ S) P := by
  unfold mFzB
  rw [h]
  dsimp only
  rw [hm]
  dsimp only
  rw [he]; exact q
def ltP (a b : Nat × Nat) : Bool := decide (a.1 < b.1) || (decide (a.1 = b.1) && decide (a.2 < b.2))
def ltD : D → D → Bool
  | .tup [.int a, .int b], .tup [.int c, .int d] => decide (a < c) || (decide (a = c) && decide (b < d))
  | _, _ => false
theorem ltD_dc (a b : Nat × Nat) : ltD (dc a) (dc b) = ltP a b := by
  show (decide ((a.1 : Int) < b.1) || (decide ((a.1 : Int) = b.1) && decide ((a.2 : Int) < b.2))) = ltP a b
  unfold ltP
  rw [show decide ((a.1 : Int) < b.1) = decide (a.1 < b.1) from decide_eq_decide.mpr (by omega), show decide ((a.1 : Int) = b.1) = decide (a.1 = b.1) from decide_eq_decide.mpr (by omega), show decide ((a.2 : Int) < b.2) = decide (a.2 < b.2) from decide_eq_decide.mpr (by omega)]
theorem o_ltT {a b : Nat × Nat} {S : Sto} : opLtT (dc a) (dc b) S = .ok (.bl (ltP a b)) S := by
  show Out.ok (D.bl (HT.lexLt [(a.1 : Int), a.2] [(b.1 : Int), b.2])) S = _
  refine congrArg (fun x => Out.ok (D.bl x) S) ?_
  rw [← ltD_dc]
  show (if (a.1 : Int) = b.1 then (if (a.2 : Int) = b.2 then false else decide ((a.2 : Int) < b.2)) else decide ((a.1 : Int) < b.1)) = (decide ((a.1 : Int) < b.1) || (decide ((a.1 : Int) = b.1) && decide ((a.2 : Int) < b.2)))
  by_cases h : (a.1 : Int) = b.1
  · rw [if_pos h, decide_eq_true h, decide_eq_false (p := (a.1 : Int) < b.1) (by omega)]
    by_cases g : (a.2 : Int) = b.2
    · rw [if_pos g, decide_eq_false (p := (a.2 : Int) < b.2) (by omega)]; rfl
    · rw [if_neg g, Bool.false_or, Bool.true_and]
  · rw [if_neg h, decide_eq_false h, Bool.false_and, Bool.or_false]
theorem eqD_dc (a b : Nat × Nat) : eqD (dc a) (dc b) = decide (a = b) := by
  have e : eqD (dc a) (dc b) = decide ([(a.1 : Int), a.2] = [(b.1 : Int), b.2]) := eqD_TI [(a.1 : Int), a.2] [(b.1 : Int), b.2]
  rw [e, decide_eq_decide]
  refine ⟨fun h => ?_, fun h => by rw [h]⟩
  obtain ⟨h1, h2⟩ := List.cons.inj h
  obtain ⟨h2, _⟩ := List.cons.inj h2
  exact Prod.ext (by omega) (by omega)
theorem okN_dc (p : Nat × Nat) (n : Nat) : okN (n + 1) (dc p) = true := (okN_LI [(p.1 : Int), p.2] n).2
theorem nk_dc {a b : Nat × Nat} : nkD (dc a) = nkD (dc b) ↔ a = b := by
  refine ⟨fun h => ?_, fun h => by rw [h]⟩
  have h' : NestedKey.tup [.num (a.1 : Int), .num (a.2 : Int)] = NestedKey.tup [.num (b.1 : Int), .num (b.2 : Int)] := h
  obtain ⟨h1, h2⟩ := List.cons.inj (NestedKey.tup.inj h')
  obtain ⟨h2, _⟩ := List.cons.inj h2
  have h1 := NestedKey.num.inj h1
  have h2 := NestedKey.num.inj h2
  exact Prod.ext (by omega) (by omega)
abbrev WT := List ((Nat × Nat) × Nat)
def wk (F : WT) : List D := F.map fun q => dc q.1
def wv (F : WT) : List D := F.map fun q => D.int (q.2 : Nat)
theorem lkN_out {c : Nat × Nat} : ∀ {F : WT}, c ∉ F.map (·.1) → lkN (wk F) (wv F) (nkD (dc c)) = none
  | [], _ => rfl
  | q :: F, h => by
    rw [List.map_cons, List.mem_cons] at h
    show (if nkD (dc q.1) = nkD (dc c) then some _ else lkN (wk F) (wv F) (nkD (dc c))) = none
    rw [if_neg (fun z => h (.inl (nk_dc.mp z).symm)), lkN_out fun z => h (.inr z)]
theorem lkN_in {c : Nat × Nat} {v : Nat} : ∀ {F : WT}, (F.map (·.1)).Nodup → (c, v) ∈ F → lkN (wk F) (wv F) (nkD (dc c)) = some (.int (v : Nat))
  | [], _, h => nomatch h
  | q :: F, hn, h => by
    rw [List.map_cons, List.nodup_cons] at hn
    show (if nkD (dc q.1) = nkD (dc c) then some (D.int (q.2 : Nat)) else lkN (wk F) (wv F) (nkD (dc c))) = _
    rcases List.mem_cons.mp h with e | e
    · rw [← e, if_pos rfl]
    · have hne : ¬ nkD (dc q.1) = nkD (dc c) := fun z => hn.1 (by rw [nk_dc.mp z]; exact List.mem_map_of_mem (f := (·.1)) e)
      rw [if_neg hne, lkN_in hn.2 e]
/-- the table's next state -/
theorem put_bump {e : Nat → Option (Nat × Nat)} {k : Nat} {c : Nat × Nat} : putND (dc c) (.int ((cnt e c k : Nat) + 1 : Int)) (wk (tab e k)) (wv (tab e k)) = (wk (bump (tab e k) c), wv (bump (tab e k) c)) := by
  have hn := tab_nodup e k
  unfold putND bump
  by_cases h : c ∈ (tab e k).map (·.1)
  · obtain ⟨q, hq, hq2⟩ := List.mem_map.mp h
    have hv := tab_val e k q.1 q.2 hq
    have hl : lkN (wk (tab e k)) (wv (tab e k)) (nkD (dc c)) = some (.int (q.2 : Nat)) := lkN_in hn (hq2 ▸ hq)
    rw [hl, if_pos (by rfl), if_pos h]
    have e1 : wk ((tab e k).map fun q => if q.1 = c then (q.1, q.2 + 1) else q) = wk (tab e k) := by
      unfold wk
      rw [List.map_map]
      refine List.map_congr_left fun r _ => ?_
      show dc (if r.1 = c then (r.1, r.2 + 1) else r).1 = dc r.1
      split <;> rfl
    rw [e1]
    refine Prod.ext rfl ?_
    show ((wk (tab e k)).zip (wv (tab e k))).map _ = _
    have e2 : ∀ {F : WT}, (∀ r ∈ F, r.1 = c → r.2 = cnt e c k) → (((wk F).zip (wv F)).map fun p => if nkD p.1 = nkD (dc c) then D.int ((cnt e c k : Nat) + 1 : Int) else p.2) = wv (F.map fun q => if q.1 = c then (q.1, q.2 + 1) else q) := by
      intro F
      induction F with
      | nil => intro _; rfl
      | cons r F ih =>
        intro hF
        have ih := ih fun x hx => hF x (List.mem_cons_of_mem _ hx)
        show (if nkD (dc r.1) = nkD (dc c) then D.int ((cnt e c k : Nat) + 1 : Int) else D.int (r.2 : Nat)) :: _ = D.int ((if r.1 = c then (r.1, r.2 + 1) else r).2 : Nat) :: wv (F.map _)
        rw [← ih]
        refine congrArg (· :: _) ?_
        by_cases z : r.1 = c
        · rw [if_pos (nk_dc.mpr z), if_pos z, ← hF r List.mem_cons_self z]; rfl
        · rw [if_neg (fun y => z (nk_dc.mp y)), if_neg z]
    exact e2 fun r hr z => by rw [tab_val e k r.1 r.2 hr, z]
  · have h0 : cnt e c k = 0 := by
      have : ¬ 0 < cnt e c k := fun z => h ((mem_keys_cnt e c k).mpr z)
      omega
    rw [lkN_out h, if_neg (fun z => nomatch z), if_neg h, h0]
    unfold wk wv
    rw [List.map_append, List.map_append]; rfl
def ascP (L : List (Nat × Nat)) : Prop := L.Pairwise fun a b => ltP a b = true
theorem ltP_tri {a b : Nat × Nat} (h : ltP a b = false) (hn : a ≠ b) : ltP b a = true := by
  unfold ltP at h ⊢
  rw [Bool.or_eq_false_iff, decide_eq_false_iff_not, Bool.and_eq_false_iff, decide_eq_false_iff_not, decide_eq_false_iff_not] at h
  rw [Bool.or_eq_true, decide_eq_true_eq, Bool.and_eq_true, decide_eq_true_eq, decide_eq_true_eq]
  have : a.1 ≠ b.1 ∨ a.2 ≠ b.2 := by
    by_cases z : a.1 = b.1
    · exact .inr fun y => hn (Prod.ext z y)
    · exact .inl z
  omega
theorem ltP_trans {a b c : Nat × Nat} (h : ltP a b = true) (g : ltP b c = true) : ltP a c = true := by
  unfold ltP at h g ⊢
  rw [Bool.or_eq_true, decide_eq_true_eq, Bool.and_eq_true, decide_eq_true_eq, decide_eq_true_eq] at h g ⊢
  omega
theorem asc_get {L : List (Nat × Nat)} (h : ascP L) {i j : Nat} (hi : i < L.length) (hj : j < L.length) (hij : i < j) : ltP L[i] L[j] = true := List.pairwise_iff_getElem.mp h i j hi hj hij
def insA (L : List (Nat × Nat)) (a : Nat) (r : Nat × Nat) : List (Nat × Nat) := L.take a ++ [r] ++ L.drop a
theorem insA_perm (L : List (Nat × Nat)) (a : Nat) (r : Nat × Nat) : (insA L a r).Perm (r :: L) := by
  unfold insA
  have h : (L.take a ++ [r]).Perm (r :: L.take a) := List.perm_append_comm
  have := h.append_right (L.drop a)
  rw [List.cons_append, List.take_append_drop] at this
  exact this
theorem insA_asc {L : List (Nat × Nat)} {a : Nat} {r : Nat × Nat} (h : ascP L) (h1 : ∀ i (hi : i < L.length), i < a → ltP L[i] r = true) (h2 : ∀ i (hi : i < L.length), a ≤ i → ltP L[i] r = false) (hn : r ∉ L) : ascP (insA L a r) := by
  unfold insA ascP
  have hlow : ∀ x ∈ L.take a, ltP x r = true := fun x hx => by
    obtain ⟨i, hi, rfl⟩ := List.mem_iff_getElem.mp hx
    rw [List.length_take] at hi
    rw [List.getElem_take]
    exact h1 i (by omega) (by omega)
  have hhigh : ∀ x ∈ L.drop a, ltP r x = true := fun x hx => by
    have hm : x ∈ L := List.mem_of_mem_drop hx
    obtain ⟨i, hi, rfl⟩ := List.mem_iff_getElem.mp hx
    rw [List.length_drop] at hi
    rw [List.getElem_drop] at hm ⊢
    exact ltP_tri (h2 (a + i) (by omega) (by omega)) fun z => hn (z ▸ hm)
  rw [List.append_assoc]
  refine List.pairwise_append.mpr ⟨h.sublist (List.take_sublist _ _), List.pairwise_append.mpr ⟨List.pairwise_singleton _ _, h.sublist (List.drop_sublist _ _), fun x hx y hy => ?_⟩, fun x hx y hy => ?_⟩
  · rw [List.mem_singleton.mp hx]; exact hhigh y hy
  · rcases List.mem_append.mp hy with hy | hy
    · rw [List.mem_singleton.mp hy]; exact hlow x hx
    · exact ltP_trans (hlow x hx) (hhigh y hy)
theorem lstAt_of {S : Sto} {n : Nat} {ds : List D} (h : S[n]? = some (some (.lst ds))) : lstAt S n = some ds := by unfold lstAt; rw [h]
theorem arr_run {xs : List (Nat × Nat)} {S : Sto} {Q : D → Sto → Prop} {X : XQ} (hx : xs.Nodup) (hl : xs.length ≤ 100) (q : ∀ L, ascP L → L.Perm xs → Q (.lst (L.map dc)) (S ++ [none])) : Rn (m_arranged [.lst (xs.map dc)] S) Q X := by
  refine s_run ?_
  unfold ms_arranged
  refine s_seq <| s_asgC <| g_lst <| g_nil ?_
  refine s_seq <| s_for <| g_iList <| g_var rfl ⟨xs.map dc, .inl rfl, ?_⟩
  refine s_loopL (fun k δ S' => ∃ L v2 v3, ascP L ∧ L.Perm (xs.take k) ∧ S' = S ++ [some (.lst (L.map dc))] ∧ δ = [.val (.lst (xs.map dc)), .val (.ref S.length), v2, v3]) ⟨[], _, _, .nil, .refl _, rfl, rfl⟩ ?_ ?_
  · rintro k hk δ _ ⟨L, v2, v3, ha, hp, rfl, rfl⟩
    have hkd : k < xs.length := by rw [List.length_map] at hk; exact hk
    have ex : (xs.map dc)[k] = dc xs[k] := List.getElem_map ..
    rw [ex]
    refine ⟨_, rfl, ?_⟩
    dsimp only [List.set]
    have hS : (S ++ [some (D.lst (L.map dc))])[S.length]? = some (some (.lst (L.map dc))) := by rw [List.getElem?_append_right (Nat.le_refl _), Nat.sub_self]; rfl
    have hli := lstAt_of hS
    have hLl : L.length = k := by rw [hp.length_eq, List.length_take]; omega
    have hLm : (L.map dc).length = L.length := List.length_map ..
    have hn : xs[k] ∉ L := fun z => by
      have hz := hp.mem_iff.mp z
      obtain ⟨i, hi, e⟩ := List.mem_iff_getElem.mp hz
      rw [List.length_take] at hi
      rw [List.getElem_take] at e
      have := (List.nodup_iff_pairwise_ne.mp hx)
      exact List.pairwise_iff_getElem.mp this i k (by omega) hkd (by omega) e
    have el : ∀ {i : Nat} (h : i < (L.map dc).length), (L.map dc)[i] = dc (L[i]'(by rw [hLm] at h; exact h)) := fun h => List.getElem_map ..
    refine s_seq <| s_asgN <| g_call <| g_cons <| g_var rfl <| g_cons <| g_var rfl <| g_nil ?_
    refine pf_run (LT := ltD) hS (by rw [hLm]; omega) (fun d hd => ?_) (fun i j hi hj hij => ?_) fun a hpl => ?_
    · obtain ⟨c, _, rfl⟩ := List.mem_map.mp hd
      rw [ltD_dc]; exact o_ltT
    · rw [el, el, ltD_dc, ltD_dc]
      exact fun z => ltP_trans (asc_get ha _ _ hij) z
    obtain ⟨p1, p2, p3⟩ := hpl
    rw [hLm] at p1
    dsimp only [List.set]
    have ht : ∀ {δ : MR.Env}, δ[1]? = some (.val (.ref S.length)) → δ[2]? = some (.val (dc xs[k])) → δ[3]? = some (.val (.int (a : Nat))) → mOr (mTest (mOp (opEq false) (mVar 3) (mCB fLen (mCons (mVar 1) mNil)))) (mTest (mOp (opEq true) (mOp opIx (mVar 1) (mVar 3)) (mVar 2))) δ (S ++ [some (D.lst (L.map dc))]) = .ok true (S ++ [some (D.lst (L.map dc))]) := fun h1 h2 h3 => by
      have e1 : mTest (mOp (opEq false) (mVar 3) (mCB fLen (mCons (mVar 1) mNil))) _ (S ++ [some (D.lst (L.map dc))]) = .ok (decide (a = L.length)) (S ++ [some (D.lst (L.map dc))]) := t_test (e_op (e_v h3) (e_cb (e_cons (e_v h1) e_nil) (rn_eq (g_len (ds := L.map dc) rfl (fun b z => nomatch z) (seq_ref hli) ⟨rfl, rfl⟩))) (by rw [o_eqI, hLm]; exact congrArg (fun b => Out.ok (D.bl b) _) (decide_eq_decide.mpr (by omega))))
      by_cases z : a = L.length
      · rw [decide_eq_true z] at e1
        exact or_l e1
      · rw [decide_eq_false z] at e1
        have hlt : a < L.length := by omega
        have hat : atI (L.map dc) (a : Nat) = some (dc L[a]) := by
          unfold atI
          rw [hLm, ix_nat hlt]
          show (L.map dc)[a]? = _
          rw [List.getElem?_map, List.getElem?_eq_getElem hlt]; rfl
        refine or_r e1 (t_test (e_op (e_ixS (e_v h1) (list_ref hli) (e_v h3) hat) (e_v h2) (rn_eq (g_eqD (okN_dc _ 8) (okN_dc _ 8) rfl ⟨?_, rfl⟩))))
        rw [eqD_dc, decide_eq_false (show ¬ L[a] = xs[k] from fun y => hn (by rw [← y]; exact List.getElem_mem hlt))]; rfl
    refine if_t (ht rfl rfl rfl) ?_
    refine s_insC (m := S.length) (ds := L.map dc) (j := a) (e_v rfl) (e_v rfl) (e_v rfl) hS (by omega) (by rw [hLm]; omega) ?_
    have e3 : ((L.map dc).take a ++ [dc xs[k]] ++ (L.map dc).drop a) = (insA L a xs[k]).map dc := by
      unfold insA
      rw [List.map_append, List.map_append, List.map_take, List.map_drop]; rfl
    refine ⟨insA L a xs[k], _, _, insA_asc ha (fun i hi hia => ?_) (fun i hi hia => ?_) hn, (insA_perm _ _ _).trans ?_, ?_, rfl⟩
    · have := p2 i (by rw [hLm]; exact hi) hia
      rw [el, ltD_dc] at this; exact this
    · have := p3 i (by rw [hLm]; exact hi) hia
      rw [el, ltD_dc] at this; exact this
    · rw [List.take_succ_eq_append_getElem hkd]
      exact (List.Perm.cons _ hp).trans (List.perm_append_singleton _ _).symm
    · rw [e3, List.set_append_right _ _ (Nat.le_refl _), Nat.sub_self]; rfl
  · rintro δ _ ⟨L, v2, v3, ha, hp, rfl, rfl⟩
    dsimp only
    have hS : (S ++ [some (D.lst (L.map dc))])[S.length]? = some (some (.lst (L.map dc))) := by rw [List.getElem?_append_right (Nat.le_refl _), Nat.sub_self]; rfl
    refine s_fixC (m := S.length) rfl hS ?_
    refine s_ret <| g_var rfl ?_
    rw [List.length_map, List.take_length] at hp
    have e : (S ++ [some (D.lst (L.map dc))]).set S.length none = S ++ [none] := by rw [List.set_append_right _ _ (Nat.le_refl _), Nat.sub_self]; rfl
    rw [e]
    exact q L ha hp

theorem dcl_e {α : Type} {g : α → D} {mg : MG} {mt : MT} {mk mv : ME} {δ : MR.Env} {S : Sto} {c : α → Bool} {y : α → D} {kf : α → Key} {vf : α → D} : ∀ {xs : List α} {ks : List Key} {es : List D},
    (∀ x ∈ xs, ∃ δ1, mg (g x) δ = some δ1 ∧ mt δ1 S = .ok (c x) S ∧ (c x = true → mk δ1 S = .ok (y x) S ∧ MR.keyOf (y x) = some (kf x) ∧ mv δ1 S = .ok (vf x) S)) → (xs.map kf).Nodup → (∀ x ∈ xs, kf x ∉ ks) →
    mDcL mg mt mk mv δ (xs.map g) ks es S = .ok (ks ++ (xs.filter c).map kf, es ++ (xs.filter c).map vf) S
  | [], ks, es, _, _, _ => by simp [mDcL]
  | x :: xs, ks, es, h, hn, hk => by
    obtain ⟨δ1, h1, h2, h3⟩ := h x List.mem_cons_self
    rw [List.map_cons, List.nodup_cons] at hn
    rw [List.map_cons]
    unfold mDcL
    rw [h1]
    dsimp only
    rw [h2]
    dsimp only [noX, bnd]
    cases z : c x with
    | true =>
      obtain ⟨k1, k2, k3⟩ := h3 z
      rw [if_pos rfl, k1]
      dsimp only [noX, bnd]
      rw [k3]
      dsimp only [noX, bnd]
      rw [k2]
      dsimp only
      have hh : ¬ hasK (kf x) ks = true := fun w => by
        obtain ⟨j, hj, e⟩ := List.any_eq_true.mp w
        rw [of_decide_eq_true e] at hj
        exact hk x List.mem_cons_self hj
      rw [if_neg hh, dcl_e (fun x' hx => h x' (List.mem_cons_of_mem _ hx)) hn.2 (fun x' hx w => ?_)]
      · rw [List.filter_cons_of_pos z, List.map_cons, List.map_cons, List.append_assoc, List.append_assoc]; rfl
      · rcases List.mem_append.mp w with w | w
        · exact hk x' (List.mem_cons_of_mem _ hx) w
        · exact hn.1 (by rw [← List.mem_singleton.mp w]; exact List.mem_map_of_mem hx)
    | false =>
      rw [if_neg (by simp), dcl_e (fun x' hx => h x' (List.mem_cons_of_mem _ hx)) hn.2 (fun x' hx => hk x' (List.mem_cons_of_mem _ hx)), List.filter_cons_of_neg (by rw [z]; exact fun q => nomatch q)]
theorem lkD_app {j k : Key} {d : D} : ∀ {ks : List Key} {ds : List D}, ks.length = ds.length → hasK k ks = false → lkD (ks ++ [k]) (ds ++ [d]) j = if k = j then some d else lkD ks ds j
  | [], [], _, _ => rfl
  | [], _ :: _, h, _ => by cases h
  | _ :: _, [], h, _ => by cases h
  | k0 :: ks, d0 :: ds, h, hh => by
    have hh' : (decide (k0 = k) || hasK k ks) = false := hh
    rw [Bool.or_eq_false_iff, decide_eq_false_iff_not] at hh'
    have ih := lkD_app (j := j) (d := d) (ks := ks) (ds := ds) (by simpa using h) hh'.2
    show (if k0 = j then some d0 else lkD (ks ++ [k]) (ds ++ [d]) j) = if k = j then some d else if k0 = j then some d0 else lkD ks ds j
    rw [ih]
    by_cases z : k0 = j
    · rw [if_pos z, if_pos z, if_neg (fun y => hh'.1 (z.trans y.symm))]
    · rw [if_neg z, if_neg z]
theorem lkD_map {j k : Key} {d : D} : ∀ {ks : List Key} {ds : List D}, ks.length = ds.length → hasK k ks = true → lkD ks ((ks.zip ds).map fun p => if p.1 = k then d else p.2) j = if k = j then some d else lkD ks ds j
  | [], [], _, h => by cases h
  | [], _ :: _, h, _ => by cases h
  | _ :: _, [], h, _ => by cases h
  | k0 :: ks, d0 :: ds, h, hh => by
    show (if k0 = j then some (if k0 = k then d else d0) else lkD ks ((ks.zip ds).map fun p => if p.1 = k then d else p.2) j) = if k = j then some d else if k0 = j then some d0 else lkD ks ds j
    by_cases z : k0 = j
    · rw [if_pos z, if_pos z]
      by_cases y : k0 = k
      · rw [if_pos y, if_pos (y.symm.trans z)]
      · rw [if_neg y, if_neg (fun w => y (z.trans w.symm))]
    · rw [if_neg z, if_neg z]
      cases hk : hasK k ks with
      | true => exact lkD_map (by simpa using h) hk
      | false =>
        have hh' : (decide (k0 = k) || hasK k ks) = true := hh
        rw [hk, Bool.or_false, decide_eq_true_eq] at hh'
        rw [if_neg (fun w => z (hh'.trans w))]
        have e : (ks.zip ds).map (fun p => if p.1 = k then d else p.2) = ds := by
          have hl : ks.length = ds.length := by simpa using h
          clear h hh
          induction ks generalizing ds with
          | nil => cases ds with
            | nil => rfl
            | cons _ _ => cases hl
          | cons k1 ks ih => cases ds with
            | nil => cases hl
            | cons d1 ds =>
              have hk' : (decide (k1 = k) || hasK k ks) = false := hk
              rw [Bool.or_eq_false_iff, decide_eq_false_iff_not] at hk'
              show (if k1 = k then d else d1) :: _ = _
              rw [if_neg hk'.1]; exact congrArg (d1 :: ·) (ih _ hk'.2 (by simpa using hl))
        rw [e]
theorem lkD_put {j k : Key} {d : D} {ks : List Key} {ds : List D} (h : ks.length = ds.length) : lkD (putD k d ks ds).1 (putD k d ks ds).2 j = if k = j then some d else lkD ks ds j := by
  unfold putD
  cases z : hasK k ks with
  | true => rw [if_pos rfl]; exact lkD_map h z
  | false => rw [if_neg Bool.false_ne_true]; exact lkD_app h z
theorem putD_len {k : Key} {d : D} {ks : List Key} {ds : List D} (h : ks.length = ds.length) : (putD k d ks ds).1.length = (putD k d ks ds).2.length ∧ (putD k d ks ds).1.length ≤ ks.length + 1 := by
  unfold putD
  split
  · exact ⟨by dsimp only; rw [List.length_map, List.length_zip]; omega, Nat.le_succ _⟩
  · exact ⟨by dsimp only; rw [List.length_append, List.length_append, h]; rfl, by dsimp only; rw [List.length_append]; exact Nat.le_refl _⟩
theorem lkD_rng {c : Nat → Bool} {p : Nat} : ∀ {xs : List Nat}, lkD ((xs.filter c).map fun i : Nat => (Sum.inl (i : Int) : Key)) ((xs.filter c).map fun _ => D.int 0) (.inl (p : Int)) = if p ∈ xs ∧ c p = true then some (.int 0) else none
  | [] => by rw [if_neg (fun z => nomatch z.1)]; rfl
  | x :: xs => by
    have ih := lkD_rng (c := c) (p := p) (xs := xs)
    cases z : c x with
    | true =>
      rw [List.filter_cons_of_pos z]
      show (if (Sum.inl (x : Int) : Key) = .inl (p : Int) then some (D.int 0) else lkD _ _ _) = _
      by_cases y : x = p
      · subst y
        rw [if_pos rfl, if_pos ⟨List.mem_cons_self, z⟩]
      · rw [if_neg (fun w => y (by have := Sum.inl.inj w; omega)), ih]
        have : (p ∈ xs ∧ c p = true) ↔ (p ∈ x :: xs ∧ c p = true) := by
          rw [List.mem_cons]
          exact ⟨fun h => ⟨.inr h.1, h.2⟩, fun h => ⟨h.1.resolve_left (fun w => y w.symm), h.2⟩⟩
        by_cases w : p ∈ xs ∧ c p = true
        · rw [if_pos w, if_pos (this.mp w)]
        · rw [if_neg w, if_neg (fun q => w (this.mpr q))]
    | false =>
      rw [List.filter_cons_of_neg (by rw [z]; exact fun q => nomatch q), ih]
      have : (p ∈ xs ∧ c p = true) ↔ (p ∈ x :: xs ∧ c p = true) := by
        rw [List.mem_cons]
        exact ⟨fun h => ⟨.inr h.1, h.2⟩, fun h => ⟨h.1.resolve_left (fun w => by rw [w, z] at h; exact nomatch h.2), h.2⟩⟩
      by_cases w : p ∈ xs ∧ c p = true
      · rw [if_pos w, if_pos (this.mp w)]
      · rw [if_neg w, if_neg (fun q => w (this.mpr q))]
/-- the dict of gaps stands for the open gaps -/
structure GapOk (ds : List (Bool × Nat)) (bs : List Bool) (k : Nat) (ks : List Key) (vs : List D) : Prop where
  len : ks.length = vs.length
  few : ks.length ≤ bs.length + k
  lk : ∀ p, p < bs.length → lkD ks vs (.inl (p : Int)) = (og ds bs p k).map fun g => D.int (g : Nat)
theorem gap_put {ds : List (Bool × Nat)} {bs : List Bool} {k p : Nat} {ks : List Key} {vs : List D} (h : GapOk ds bs k ks vs) (hd : ds.getD k (false, 0) = (true, p)) : GapOk ds bs (k + 1) (putD (.inl (p : Int)) (.int ((k : Nat) + 1 : Int)) ks vs).1 (putD (.inl (p : Int)) (.int ((k : Nat) + 1 : Int)) ks vs).2 := by
  obtain ⟨l1, l2⟩ := putD_len (k := .inl (p : Int)) (d := .int ((k : Nat) + 1 : Int)) h.len
  refine ⟨l1, by have := h.few; omega, fun q hq => ?_⟩
  rw [lkD_put h.len, og]
  by_cases e : p = q
  · subst e
    rw [if_pos rfl, if_pos hd]; rfl
  · rw [if_neg (fun w => e (by have := Sum.inl.inj w; omega)), if_neg (fun w => e (by rw [hd] at w; exact congrArg (·.2) w)), h.lk q hq]
theorem gap_read {ds : List (Bool × Nat)} {bs : List Bool} {k p : Nat} {ks : List Key} {vs : List D} (h : GapOk ds bs k ks vs) (hd : ds.getD k (false, 0) = (false, p)) : GapOk ds bs (k + 1) ks vs := by
  refine ⟨h.len, by have := h.few; omega, fun q hq => ?_⟩
  rw [h.lk q hq, og, if_neg (fun w => by rw [hd] at w; exact ft_ne w)]
theorem s_setNW {δ : MR.Env} {S : Sto} {P : EndP} {me mo mk : ME} {n : Nat} {k d : D} {ks ds : List D} (h1 : me δ S = .ok d S) (h2 : mo δ S = .ok (.ref n) S) (h3 : mk δ S = .ok k S) (h : S[n]? = some (some (.ndc ks ds))) (hk : keyD k = true) (hb : ks.length < 16777216)
    (q : P.nx δ (S.set n (some (.ndc (putND k d ks ds).1 (putND k d ks ds).2)))) : RunS (mSetN me mo mk δ S) P := by
  have e : mSetN me mo mk δ S = .ok (.nx δ) (S.set n (some (.ndc (putND k d ks ds).1 (putND k d ks ds).2))) := by
    unfold mSetN
    rw [h1]
    dsimp only [bndS]
    rw [h2]
    dsimp only [bndS]
    rw [h3]
    dsimp only [bndS]
    rw [h]
    dsimp only
    rw [if_pos ⟨hk, hb⟩]
  rw [e]; exact q
theorem e_nget2 {md mk me : ME} {δ : MR.Env} {S : Sto} {d k x : D} {ks ds : List D} (h1 : md δ S = .ok d S) (hd : ndcOf S d = some (ks, ds)) (h2 : mk δ S = .ok k S) (hk : keyD k = true) (h3 : me δ S = .ok x S) : mNGet2 md mk me δ S = .ok ((lkN ks ds (nkD k)).getD x) S := by
  unfold mNGet2
  rw [h1]
  dsimp only [bnd]
  rw [hd, if_pos (c := (some (ks, ds)).isSome = true) rfl, h2]
  dsimp only [bnd]
  rw [h3]
  dsimp only [bnd]
  rw [hd]
  dsimp only
  rw [if_pos hk]
theorem get_tab {e : Nat → Option (Nat × Nat)} {k : Nat} {c : Nat × Nat} : (lkN (wk (tab e k)) (wv (tab e k)) (nkD (dc c))).getD (.int 0) = .int (cnt e c k : Nat) := by
  by_cases h : c ∈ (tab e k).map (·.1)
  · obtain ⟨⟨a, v⟩, hq, rfl⟩ := List.mem_map.mp h
    rw [lkN_in (tab_nodup e k) hq, ← tab_val e k a v hq]; rfl
  · have h0 : cnt e c k = 0 := by
      have : ¬ 0 < cnt e c k := fun z => h ((mem_keys_cnt e c k).mpr z)
      omega
    rw [lkN_out h, h0]; rfl
section
variable {bs : List Bool} (hz : bs.length ≤ 64) {m : Nat} {S : Sto} {ds : List (Bool × Nat)}
include hz in
theorem worths_run {Q : D → Sto → Prop} {X : XQ} (h : lstAt S m = some (BL bs)) (hd : ∀ p ∈ ds, okK bs.length p) (hl : ds.length ≤ 40) (q : ∀ g, Q (.fnc (wk (wtab ds bs)) (wv (wtab ds bs))) (S ++ [g, none])) : Rn (m_worths [.lst (ds.map dd), mk m] S) Q X := by
  refine s_run ?_
  unfold ms_worths
  have e0 : mDc (mIRng1 (mCons (mLenZ 0 m_MarksU_lenU (mCons (mVar 1) mNil)) mNil)) (mGName 6) (mNot (mTru (mGetZ 0 m_MarksU_getitemU (mVar 1) (mVar 6)))) (mVar 6) (mC (.int 0)) [6] (startD 8 [.lst (ds.map dd), mk m]) S = .ok (.dic (((List.range bs.length).filter fun i => !bs.getD i false).map fun i : Nat => (Sum.inl (i : Int) : Key)) (((List.range bs.length).filter fun i => !bs.getD i false).map fun _ => D.int 0)) S := by
    unfold mDc
    have e1 : mIRng1 (mCons (mLenZ 0 m_MarksU_lenU (mCons (mVar 1) mNil)) mNil) (startD 8 [.lst (ds.map dd), mk m]) S = .ok ((List.range bs.length).map fun i : Nat => D.int (i : Int)) S := by
      rw [← rng0]
      refine rn_eq <| g_rng1 <| g_cons <| run_eq (e_lenZ (k := bs.length) (e_cons (e_v rfl) e_nil) (mlen_e h) (by omega)) <| g_nil ⟨_, rfl, by omega, by omega, ?_, rfl⟩
      rw [Int.toNat_natCast]
    rw [e1]
    dsimp only [bnd]
    have e2 : mDcL (mGName 6) (mNot (mTru (mGetZ 0 m_MarksU_getitemU (mVar 1) (mVar 6)))) (mVar 6) (mC (.int 0)) (mwipe (startD 8 [.lst (ds.map dd), mk m]) [6]) ((List.range bs.length).map fun i : Nat => D.int (i : Int)) [] [] S = _ := dcl_e (c := fun i => !bs.getD i false) (y := fun i : Nat => D.int (i : Int)) (kf := fun i : Nat => (Sum.inl (i : Int) : Key)) (vf := fun _ => D.int 0) (fun i hi => by
      have hib := List.mem_range.mp hi
      refine ⟨_, rfl, ?_, fun _ => ⟨rfl, rfl, rfl⟩⟩
      refine rn_eq <| g_not <| g_tru <| g_getZ <| g_var rfl <| g_var rfl ⟨rfl, ?_⟩
      refine mget_run h rfl (fun z => by rw [int_isAt hib] at z; cases z) fun j hj e1 => ⟨bs[j], rfl, ?_⟩
      have : j = i := by have := D.int.inj e1; omega
      subst this
      have eg : bs.getD j false = bs[j] := by rw [List.getD_eq_getElem?_getD, List.getElem?_eq_getElem hj]; rfl
      rw [eg]
      exact ⟨rfl, rfl⟩) (by
      rw [List.nodup_iff_pairwise_ne, List.pairwise_map]
      refine List.pairwise_lt_range.imp fun {a b} hab z => ?_
      have := Sum.inl.inj z
      omega) (fun _ _ => List.not_mem_nil)
    rw [e2]; rfl
  refine s_seq <| s_asgC <| run_eq e0 ?_
  have hg0 : GapOk ds bs 0 (((List.range bs.length).filter fun i => !bs.getD i false).map fun i : Nat => (Sum.inl (i : Int) : Key)) (((List.range bs.length).filter fun i => !bs.getD i false).map fun _ => D.int 0) := by
    refine ⟨by rw [List.length_map, List.length_map], by rw [List.length_map]; have := List.length_filter_le (fun i => !bs.getD i false) (List.range bs.length); rw [List.length_range] at this; omega, fun p hp => ?_⟩
    rw [lkD_rng]
    unfold og
    cases z : bs.getD p false with
    | true => rw [if_neg (fun w => nomatch w.2), if_pos rfl]; rfl
    | false => rw [if_pos ⟨List.mem_range.mpr hp, rfl⟩, if_neg Bool.false_ne_true]; rfl
  generalize (((List.range bs.length).filter fun i => !bs.getD i false).map fun i : Nat => (Sum.inl (i : Int) : Key)) = ks0 at hg0
  generalize (((List.range bs.length).filter fun i => !bs.getD i false).map fun _ => D.int 0) = vs0 at hg0
  refine s_seq <| s_asgC <| run_eq (a := .ndc [] []) rfl ?_
  refine s_seq <| s_for <| g_enum <| g_cons <| g_var rfl <| g_nil ⟨ds.map dd, rfl, ?_⟩
  refine s_loopE (fun k δ S' => ∃ ks vs v4 v5 v6 v7, GapOk ds bs k ks vs ∧ S' = S ++ [some (.dic ks vs), some (.ndc (wk (tab (kk ds bs) k)) (wv (tab (kk ds bs) k)))] ∧ δ = [.val (.lst (ds.map dd)), .val (mk m), .val (.ref S.length), .val (.ref (S.length + 1)), v4, v5, v6, v7]) ⟨ks0, vs0, .no, .no, .no, .no, hg0, ?_, ?_⟩ ?_ ?_
  · rw [List.append_assoc]; rfl
  · rw [List.length_append]; rfl
  · rintro k hk δ _ ⟨ks, vs, v4, v5, v6, v7, hg, rfl, rfl⟩
    have hkd : k < ds.length := by rw [List.length_map] at hk; exact hk
    have ex : (ds.map dd)[k] = dd ds[k] := List.getElem_map ..
    have eg : ds.getD k (false, 0) = ds[k] := by rw [List.getD_eq_getElem?_getD, List.getElem?_eq_getElem hkd]; rfl
    have hok := hd ds[k] (List.getElem_mem hkd)
    rw [ex]
    obtain ⟨⟨w, p⟩, hwp⟩ : ∃ q, q = ds[k] := ⟨_, rfl⟩
    rw [← hwp] at eg hok ⊢
    have hpb : p < bs.length := hok
    refine ⟨_, rfl, ?_⟩
    dsimp only [List.set, dd]
    have t0 : (S ++ [some (D.dic ks vs), some (.ndc (wk (tab (kk ds bs) k)) (wv (tab (kk ds bs) k)))])[S.length]? = some (some (.dic ks vs)) := by rw [List.getElem?_append_right (Nat.le_refl _), Nat.sub_self]; rfl
    have t1 : (S ++ [some (D.dic ks vs), some (.ndc (wk (tab (kk ds bs) k)) (wv (tab (kk ds bs) k)))])[S.length + 1]? = some (some (.ndc (wk (tab (kk ds bs) k)) (wv (tab (kk ds bs) k)))) := by rw [List.getElem?_append_right (by omega), show S.length + 1 - S.length = 1 by omega]; rfl
    have hkf := hg.few
    cases w with
    | true =>
      refine if_t rfl ?_
      refine s_setDE (d := .int ((k : Nat) + 1 : Int)) (n := S.length) (kk := .inl (p : Int)) (rn_eq <| g_op <| g_var rfl <| g_c <| g_plusI ⟨rfl, rfl⟩) (e_v rfl) (e_v rfl) t0 rfl (by omega) ?_
      refine ⟨_, _, _, _, _, _, gap_put hg eg, ?_, rfl⟩
      have : kk ds bs k = none := by unfold kk; rw [eg, if_pos rfl]
      rw [List.set_append_right _ _ (Nat.le_refl _), Nat.sub_self, tab, this]; rfl
    | false =>
      refine if_n rfl ?_
      have hdo : ∀ {d : D}, dicOf (S ++ [some (D.dic ks vs), d]) (.ref S.length) = some (ks, vs) := fun {d} => by
        unfold dicOf
        dsimp only
        rw [show (S ++ [some (D.dic ks vs), d])[S.length]? = some (some (.dic ks vs)) by rw [List.getElem?_append_right (Nat.le_refl _), Nat.sub_self]; rfl]
      have hlk := hg.lk p hpb
      cases ho : og ds bs p k with
      | none =>
        rw [ho] at hlk
        refine if_f (t_test (e_op (e_v rfl) (e_v rfl) ?_)) ?_
        · show (match dicOf _ _, MR.keyOf (D.int (p : Int)) with | some (ks, ds), some k => Out.ok (D.bl (if false = true then !(lkD ks ds k).isSome else (lkD ks ds k).isSome)) _ | _, _ => .bad) = _
          rw [hdo]
          show Out.ok (D.bl (if false = true then _ else (lkD ks vs (.inl (p : Int))).isSome)) _ = _
          rw [if_neg Bool.false_ne_true, hlk]; rfl
        · refine ⟨ks, vs, _, _, _, _, gap_read hg eg, ?_, rfl⟩
          have : kk ds bs k = none := by unfold kk; rw [eg, if_neg Bool.false_ne_true]; show (og ds bs p k).map _ = none; rw [ho]; rfl
          rw [tab, this]
      | some g =>
        rw [ho] at hlk
        refine if_t (t_test (e_op (e_v rfl) (e_v rfl) ?_)) ?_
        · show (match dicOf _ _, MR.keyOf (D.int (p : Int)) with | some (ks, ds), some k => Out.ok (D.bl (if false = true then !(lkD ks ds k).isSome else (lkD ks ds k).isSome)) _ | _, _ => .bad) = _
          rw [hdo]
          show Out.ok (D.bl (if false = true then _ else (lkD ks vs (.inl (p : Int))).isSome)) _ = _
          rw [if_neg Bool.false_ne_true, hlk]; rfl
        have hkk : kk ds bs k = some (g, p) := by unfold kk; rw [eg, if_neg Bool.false_ne_true]; show (og ds bs p k).map _ = _; rw [ho]; rfl
        refine s_seq <| s_asgN <| run_eq (a := dc (g, p)) (e_tup (e_cons (e_op (e_v rfl) (e_v rfl) ?_) (e_cons (e_v rfl) e_nil))) ?_
        · show (match dicOf _ _, MR.keyOf (D.int (p : Int)) with | some (ks, ds), some k => (match lkD ks ds k with | some x => Out.ok x _ | none => .bad) | _, _ => .bad) = _
          rw [hdo]
          show (match lkD ks vs (.inl (p : Int)) with | some x => Out.ok x _ | none => .bad) = _
          rw [hlk]; rfl
        dsimp only [List.set]
        have hnd : ndcOf (S ++ [some (D.dic ks vs), some (.ndc (wk (tab (kk ds bs) k)) (wv (tab (kk ds bs) k)))]) (.ref (S.length + 1)) = some (wk (tab (kk ds bs) k), wv (tab (kk ds bs) k)) := by unfold ndcOf; dsimp only; rw [t1]
        refine s_setNW (d := .int ((cnt (kk ds bs) (g, p) k : Nat) + 1 : Int)) (n := S.length + 1) (k := dc (g, p)) ?_ (e_v rfl) (e_v rfl) t1 rfl ?_ ?_
        · refine e_op (e_nget2 (e_v rfl) hnd (e_v rfl) rfl e_c) e_c ?_
          rw [get_tab]
          exact rn_eq (g_plusI ⟨rfl, rfl⟩)
        · have := tab_len (kk ds bs) k
          unfold wk
          rw [List.length_map]; omega
        · rw [put_bump]
          refine ⟨ks, vs, _, _, _, _, gap_read hg eg, ?_, rfl⟩
          rw [List.set_append_right _ _ (by omega), show S.length + 1 - S.length = 1 by omega, tab, hkk]; rfl
  · rintro δ _ ⟨ks, vs, v4, v5, v6, v7, hg, rfl, rfl⟩
    dsimp only
    rw [List.length_map]
    refine s_fzB (m := S.length + 1) (d := .ndc (wk (wtab ds bs)) (wv (wtab ds bs))) (e := .fnc (wk (wtab ds bs)) (wv (wtab ds bs))) rfl ?_ rfl ?_
    · rw [List.getElem?_append_right (by omega), show S.length + 1 - S.length = 1 by omega]; rfl
    · refine s_ret <| g_var rfl ?_
      rw [List.set_append_right _ _ (by omega), show S.length + 1 - S.length = 1 by omega]
      exact q (some (.dic ks vs))
end

abbrev byt (ns : List Int) : D := .byt (byteArr ns)
theorem g_sum {ns : List Int} {S : Sto} {Q : D → Sto → Prop} {X : XQ} (q : Q (.int ns.sum) S) : Rn (fSum [.lst (LI ns)] S) Q X := by
  have e : fSum [.lst (LI ns)] S = .ok (.int ns.sum) S := by
    show (match (listOf S (D.lst (LI ns))).bind intsOf with | some ns => Out.ok (D.int ns.sum) S | none => .bad) = _
    have : (listOf S (D.lst (LI ns))).bind intsOf = some ns := intsOf_map ns
    rw [this]
  rw [e]; exact q

theorem g_sl {S : Sto} {δ : MR.Env} {me : ME} {mlo mhi : MO} {f : D → Option Int → Option Int → Sto → Out D} {Q : D → Sto → Prop} {X : XQ} (q : Rn (me δ S) (fun d S => Rn (mlo δ S) (fun l S => Rn (mhi δ S) (fun h S => Rn (f d l h S) Q X) X) X) X) : Rn (mSl f me mlo mhi δ S) Q X :=
  run_bnd' (run_mono q (fun d S h => run_bnd' (run_mono h (fun l S h => run_bnd' h) fun _ _ _ _ z => z)) fun _ _ _ _ z => z)
theorem g_part {S : Sto} {δ : MR.Env} {me : ME} {QO : Option Int → Sto → Prop} {X : XQ} (q : Rn (me δ S) (fun d S => ∃ i : Int, d = .int i ∧ QO (some i) S) X) : Rn (mPart me δ S) QO X :=
  run_bnd' (run_mono q (fun d S ⟨i, e, h⟩ => by subst e; exact h) fun _ _ _ _ z => z)
theorem g_nopart {S : Sto} {δ : MR.Env} {QO : Option Int → Sto → Prop} {X : XQ} (q : QO none S) : Rn (mNoPart δ S) QO X := q

theorem g_rng3 {S : Sto} {δ : MR.Env} {ml : MA} {QA : List D → Sto → Prop} {X : XQ} (q : Rn (ml δ S) (fun ds S => ∃ i j c : Int, ds = [.int i, .int j, .int c] ∧ (c ≠ 0 ∧ c.natAbs < 1073741824 ∧ PySem.Builtin.Range.small i j c = true ∧ 0 ≤ PySem.Builtin.Range.rangeSize i j c ∧ PySem.Builtin.Range.rangeSize i j c ≤ 16777216) ∧ QA (rngC i c (PySem.Builtin.Range.rangeSize i j c).toNat) S) X) : Rn (mIRng3 ml δ S) QA X :=
  run_bnd' (run_mono q (fun ds S ⟨i, j, c, e, h, q⟩ => by subst e; show Rn (if _ then _ else _) QA X; rw [if_pos h]; exact q) fun _ _ _ _ z => z)

theorem lc2_filt {mi1 : MA} {mg mg1 : MG} {mt mt1 : MT} {me : ME} {vs1 : List Nat} {δ : MR.Env} {S : Sto} {es : List D} {r : D → List D} (he : es.length ≤ 4000) : ∀ {ds : List D}, (∀ d ∈ ds, ∃ δ1, mg d δ = some δ1 ∧ mt δ1 S = .ok true S ∧ mi1 δ1 S = .ok es S ∧ δ1.all notOwn = true ∧ mLcL mg1 mt1 me (mwipe δ1 vs1) es S = .ok (r d) S) →
    mLc2L mg mt mi1 mg1 mt1 me vs1 δ ds S = .ok (ds.flatMap r) S
  | [], _ => rfl
  | d :: ds, h => by
    obtain ⟨δ1, h1, h2, h3, h4, h5⟩ := h d List.mem_cons_self
    have ih := lc2_filt (mi1 := mi1) (mg := mg) (mg1 := mg1) (mt := mt) (mt1 := mt1) (me := me) (vs1 := vs1) (r := r) he (ds := ds) fun x hx => h x (List.mem_cons_of_mem _ hx)
    unfold mLc2L
    rw [h1]
    dsimp only
    rw [h2]
    dsimp only [noX, bnd]
    rw [if_pos rfl, h3]
    dsimp only [noX, bnd]
    rw [if_pos ⟨he, h4⟩, h5]
    dsimp only [bnd]
    rw [ih]
    rfl
theorem rngC_dn (m : Nat) : rngC (m : Int) (-1) m = (List.range m).map fun j => D.int ((m - j : Nat) : Int) := by
  unfold rngC
  refine List.map_congr_left fun j hj => congrArg D.int ?_
  have := List.mem_range.mp hj
  omega
theorem sizeDn (m : Nat) : Builtin.Range.rangeSize (m : Int) 0 (-1) = (m : Int) := by
  unfold Builtin.Range.rangeSize
  rw [if_neg (by decide)]
  by_cases h : m = 0
  · subst h; rfl
  · rw [if_pos (by omega), show (- -1 : Int) = 1 from rfl, Int.ediv_one]; omega
theorem smallDn (m : Nat) (hm : m ≤ 1000) : Builtin.Range.small (m : Int) 0 (-1) = true := by
  have f : ∀ z : Int, -1000 ≤ z → z ≤ 1001 → Builtin.Range.rangeFitsLong z = true := fun z h1 h2 => by
    unfold Builtin.Range.rangeFitsLong
    simp only [Bool.and_eq_true, decide_eq_true_eq]; omega
  unfold Builtin.Range.small
  rw [sizeDn, f _ (by omega) (by omega), f (-1) (by decide) (by decide), if_neg (by decide), f _ (by omega) (by omega), f _ (by omega) (by omega)]
  simp
theorem rngDn_e {δ : MR.Env} {S : Sto} {me : ME} {m : Nat} (h : me δ S = .ok (.int (m : Nat)) S) (hm : m ≤ 1000) : mIRng3 (mCons me (mCons (mC (.int 0)) (mCons (mUn unNeg (mC (.int 1))) mNil))) δ S = .ok ((List.range m).map fun j => D.int ((m - j : Nat) : Int)) S := by
  refine rn_eq <| g_rng3 <| run_eq (e_cons h (e_cons (x := .int 0) rfl (e_cons (x := .int (-1)) rfl e_nil))) ⟨(m : Int), 0, -1, rfl, ⟨by decide, by decide, smallDn m hm, ?_, ?_⟩, ?_, rfl⟩
  · rw [sizeDn]; omega
  · rw [sizeDn]; omega
  · rw [sizeDn, Int.toNat_natCast, rngC_dn]
/-- the greatest worth -/
def mxW (F : WT) : Nat := (maxI (F.map fun q => (q.2 : Int))).toNat
theorem mxW_e (F : WT) : maxI (F.map fun q => (q.2 : Int)) = ((mxW F : Nat) : Int) := by
  have h : 0 ≤ maxI (F.map fun q => (q.2 : Int)) := by
    cases F with
    | nil => exact Int.le_refl 0
    | cons q F =>
      have := maxI_mem (ns := (q :: F).map fun q => (q.2 : Int)) (by simp)
      obtain ⟨r, _, e⟩ := List.mem_map.mp this
      omega
  unfold mxW
  omega
theorem mxW_le {F : WT} {q : (Nat × Nat) × Nat} (h : q ∈ F) : q.2 ≤ mxW F := by
  have := maxI_le (ns := F.map fun q => (q.2 : Int)) q.2 (List.mem_map_of_mem (f := fun q : (Nat × Nat) × Nat => (q.2 : Int)) h)
  rw [mxW_e] at this
  omega
theorem mxW_lt {F : WT} {n : Nat} (h : ∀ q ∈ F, q.2 ≤ n) : mxW F ≤ n := by
  cases F with
  | nil => exact Nat.zero_le _
  | cons q F =>
    have := maxI_mem (ns := (q :: F).map fun q => (q.2 : Int)) (by simp)
    obtain ⟨r, hr, e⟩ := List.mem_map.mp this
    rw [mxW_e] at e
    have := h r hr
    omega
/-- in the order of the program -/
def bstW (F : WT) : WT := bst F (mxW F)
theorem iKeysN_e {me : ME} {δ : MR.Env} {S : Sto} {ks ds : List D} (h : me δ S = .ok (.fnc ks ds) S) (hl : ks.length ≤ 16777216) : mIKeysN me δ S = .ok ks S := by
  unfold mIKeysN
  rw [h]
  dsimp only [bnd]
  rw [if_pos hl]
theorem o_ixN {S : Sto} {ks ds : List D} {k v : D} (hk : keyD k = true) (h : lkN ks ds (nkD k) = some v) : opIxN (.fnc ks ds) k S = .ok v S := by
  unfold opIxN ndcOf
  dsimp only
  rw [if_pos hk, h]
section
variable {F : WT} (hn : (F.map (·.1)).Nodup) (hl : F.length ≤ 100) (hv : ∀ q ∈ F, q.2 ≤ 100) {S : Sto}
include hn in
theorem ixW {q : (Nat × Nat) × Nat} (h : q ∈ F) : opIxN (.fnc (wk F) (wv F)) (dc q.1) S = .ok (.int (q.2 : Nat)) S := o_ixN rfl (lkN_in hn h)
include hn hl hv in
theorem best_e : m_best_first [.fnc (wk F) (wv F)] S = .ok (.lst ((bstW F).map fun q => dc q.1)) S := by
  have hkl : (wk F).length ≤ 16777216 := by unfold wk; rw [List.length_map]; omega
  have hk4 : (wk F).length ≤ 4000 := by unfold wk; rw [List.length_map]; omega
  refine run_ok' (s_run ?_)
  unfold ms_best_first
  have est : startD 4 [.fnc (wk F) (wv F)] = [.val (.fnc (wk F) (wv F)), .no, .no, .no] := rfl
  rw [est]
  have e0 : mIf (mTruN (mVar 0)) (mCB fMax (mCons (mLc (mIKeysN (mVar 0)) (mGName 2) mYes (mCB fInt (mCons (mOp opIxN (mVar 0) (mVar 2)) mNil)) [2]) mNil)) (mC (.int 0)) [.val (.fnc (wk F) (wv F)), .no, .no, .no] S = .ok (.int (mxW F : Nat)) S := by
    refine e_if (b := !(wk F).isEmpty) ?_ (fun z => ?_) fun z => ?_
    · unfold mTruN
      rw [show mVar 0 [.val (.fnc (wk F) (wv F)), .no, .no, .no] S = .ok (.fnc (wk F) (wv F)) S from rfl]
      rfl
    · have el : mLc (mIKeysN (mVar 0)) (mGName 2) mYes (mCB fInt (mCons (mOp opIxN (mVar 0) (mVar 2)) mNil)) [2] [.val (.fnc (wk F) (wv F)), .no, .no, .no] S = .ok (.lst (LI (F.map fun q => (q.2 : Int)))) S := by
        refine rn_eq <| g_lc <| run_eq (iKeysN_e (e_v rfl) hkl) ?_
        unfold wk
        rw [lcl_map (c := fun _ => true) (f := fun q => D.int (q.2 : Nat)) fun q hq => ⟨_, rfl, rfl, fun _ => e_cb (e_cons (e_op (e_v rfl) (e_v rfl) (ixW hn hq)) e_nil) rfl⟩]
        refine ⟨?_, rfl⟩
        rw [List.filter_eq_self.mpr fun _ _ => rfl]
        show D.lst _ = D.lst ((F.map fun q => (q.2 : Int)).map D.int)
        rw [List.map_map]; rfl
      refine e_cb (e_cons el e_nil) ?_
      have hne : F.map (fun q => (q.2 : Int)) ≠ [] := fun y => by
        rw [List.map_eq_nil_iff] at y
        subst y
        cases z
      show (match (listOf S (.lst (LI (F.map fun q => (q.2 : Int))))).bind intsOf with | some ns => if ns ≠ [] then Out.ok (D.int (maxI ns)) S else .bad | none => .bad) = _
      have : (listOf S (.lst (LI (F.map fun q => (q.2 : Int))))).bind intsOf = some (F.map fun q => (q.2 : Int)) := intsOf_map _
      rw [this]
      dsimp only
      rw [if_pos hne, mxW_e]
    · have : F = [] := by
        cases F with
        | nil => rfl
        | cons q F => cases z
      subst this
      rfl
  refine s_seq <| s_asgN <| run_eq e0 ?_
  dsimp only [List.set]
  have hm : mxW F ≤ 100 := mxW_lt hv
  have hrl : ((List.range (mxW F)).map fun j => D.int ((mxW F - j : Nat) : Int)).length ≤ 4000 := by rw [List.length_map, List.length_range]; omega
  refine s_ret ?_
  with_reducible refine g_lc2 ?_
  have er : mIRng3 (mCons (mVar 1) (mCons (mC (.int 0)) (mCons (mUn unNeg (mC (.int 1))) mNil))) [.val (.fnc (wk F) (wv F)), .val (.int (mxW F : Nat)), .no, .no] S = .ok ((List.range (mxW F)).map fun j => D.int ((mxW F - j : Nat) : Int)) S := rngDn_e (e_v rfl) (Nat.le_trans hm (by decide))
  with_reducible refine run_eq er ?_
  refine ⟨hrl, ?_⟩
  rw [lc2_filt (es := wk F) (r := fun d => match d with | .int w => (F.filter fun q => decide ((q.2 : Int) = w)).map fun q => dc q.1 | _ => []) hk4 fun d hd => ?_]
  · refine ⟨?_, rfl⟩
    unfold bstW bst
    rw [List.map_flatMap, List.flatMap_map, List.flatMap_map]
    refine congrArg (fun f => D.lst (List.flatMap f (List.range (mxW F)))) (funext fun j => ?_)
    refine congrArg (List.map fun q : (Nat × Nat) × Nat => dc q.1) (List.filter_congr fun q _ => decide_eq_decide.mpr (by omega))
  · obtain ⟨j, _, rfl⟩ := List.mem_map.mp hd
    refine ⟨_, rfl, rfl, iKeysN_e (e_v rfl) hkl, rfl, ?_⟩
    unfold wk
    exact lcl_map (c := fun q : (Nat × Nat) × Nat => decide ((q.2 : Int) = ((mxW F - j : Nat) : Int))) (f := fun q => dc q.1) fun q hq => ⟨_, rfl, t_test (e_op (e_op (e_v rfl) (e_v rfl) (ixW hn hq)) (e_v rfl) o_eqI), fun _ => e_v rfl⟩
end
theorem cnt_le {e : Nat → Option (Nat × Nat)} {c : Nat × Nat} : ∀ n, cnt e c n ≤ n
  | 0 => Nat.le_refl _
  | n + 1 => by
    have := cnt_le (e := e) (c := c) n
    rw [cnt_succ]
    split <;> omega
/-- values, those that save most first -/
abbrev wtB (ds : List (Bool × Nat)) (bs : List Bool) : WT := bstW (wtab ds bs)
theorem wtB_perm (ds : List (Bool × Nat)) (bs : List Bool) : (wtB ds bs).Perm (wtab ds bs) := bst_perm (tab_nodup _ _) fun q hq => ⟨((tab_mem _ _ q.1 q.2).mp hq).2, mxW_le hq⟩
theorem wtB_nodup (ds : List (Bool × Nat)) (bs : List Bool) : ((wtB ds bs).map (·.1)).Nodup := ((wtB_perm ds bs).map _).nodup_iff.mpr (tab_nodup _ _)
theorem sum_cast : ∀ l : List Nat, (l.map fun v : Nat => (v : Int)).sum = ((l.sum : Nat) : Int)
  | [] => rfl
  | x :: l => by rw [List.map_cons, List.sum_cons, List.sum_cons, sum_cast l]; omega
/-- what is left -/
def lftW (ds : List (Bool × Nat)) (bs : List Bool) (many : Nat) : Nat := (((wtB ds bs).drop many).map (·.2)).sum
section
variable {bs : List Bool} (hz : bs.length ≤ 64) {m : Nat} {S : Sto} {ds : List (Bool × Nat)}
include hz in
theorem least_run {many : Nat} {Q : D → Sto → Prop} {X : XQ} (h : lstAt S m = some (BL bs)) (hd : ∀ p ∈ ds, okK bs.length p) (hl : ds.length ≤ 40)
    (q : ∀ L g, ascP L → L.Perm (((wtB ds bs).take many).map (·.1)) → Q (.tup [.int (lftW ds bs many : Nat), .lst (L.map dc)]) (S ++ [g, none, none])) : Rn (m_least_looks [.lst (ds.map dd), mk m, .int (many : Nat)] S) Q X := by
  have hn : ((wtab ds bs).map (·.1)).Nodup := tab_nodup _ _
  have hfl : (wtab ds bs).length ≤ 40 := Nat.le_trans (tab_len _ _) hl
  have hfv : ∀ q ∈ wtab ds bs, q.2 ≤ 100 := fun q hq => by
    rw [tab_val _ _ q.1 q.2 hq]
    exact Nat.le_trans (cnt_le _) (by omega)
  have hbl : (wtB ds bs).length ≤ 40 := by rw [(wtB_perm ds bs).length_eq]; exact hfl
  have hpm := wtB_perm ds bs
  have hbn := wtB_nodup ds bs
  refine s_run ?_
  unfold ms_least_looks
  refine s_seq <| s_drop <| g_call <| g_cons <| g_var rfl <| g_cons <| g_var rfl <| g_nil <| run_eq (cd_ok hz h hd) ?_
  refine s_seq <| s_asgN <| g_call <| g_cons <| g_var rfl <| g_cons <| g_var rfl <| g_nil ?_
  refine worths_run hz h hd hl fun g => ?_
  obtain ⟨F, hF⟩ : ∃ F, F = wtab ds bs := ⟨_, rfl⟩
  obtain ⟨B, hB⟩ : ∃ B, B = wtB ds bs := ⟨_, rfl⟩
  have hB' : bstW F = B := by rw [hB, hF]
  rw [← hF] at hn hfl hfv hpm
  rw [← hB] at hbl hpm hbn
  have hlw : lftW ds bs many = ((B.drop many).map (·.2)).sum := by unfold lftW; rw [← hB]
  rw [← hF]
  dsimp only [List.set, startD]
  refine s_seq <| s_asgN <| g_sl <| g_call <| g_cons <| g_var rfl <| g_nil <| run_eq (best_e hn (by omega) hfv) <| g_nopart <| g_part <| g_var rfl ?_
  refine ⟨(many : Int), rfl, ?_⟩
  rw [hB']
  refine run_eq (a := .lst (((B.take many).map (·.1)).map dc)) (S := S ++ [g, none]) ?_ ?_
  · show Out.ok (D.lst (cutD (B.map fun q => dc q.1) none (some (many : Int)))) _ = _
    rw [cut_take0, List.map_map, ← List.map_take]; rfl
  dsimp only [List.set]
  have hkl : (wk F).length ≤ 16777216 := by unfold wk; rw [List.length_map]; omega
  have hin : ∀ q ∈ B, q ∈ F := fun q hq => hpm.mem_iff.mp hq
  refine s_seq <| s_asgN <| run_eq (a := .int (lftW ds bs many : Nat)) (e_op (x := .int ((F.map (·.2)).sum : Nat)) (y := .int (((B.take many).map (·.2)).sum : Nat)) ?_ ?_ ?_) ?_
  · have el : ∀ {v0 v1 v2 v4 v5 v6 : Slot} {S : Sto}, mLc (mIKeysN (mVar 3)) (mGName 6) mYes (mOp opIxN (mVar 3) (mVar 6)) [6] [v0, v1, v2, .val (.fnc (wk F) (wv F)), v4, v5, v6] S = .ok (.lst (LI ((F.map (·.2)).map fun v : Nat => (v : Int)))) S := by
      intro v0 v1 v2 v4 v5 v6 S
      refine rn_eq <| g_lc <| run_eq (iKeysN_e (e_v rfl) hkl) ?_
      unfold wk
      rw [lcl_map (c := fun _ => true) (f := fun q => D.int (q.2 : Nat)) fun q hq => ⟨_, rfl, rfl, fun _ => e_op (e_v rfl) (e_v rfl) (ixW hn hq)⟩]
      refine ⟨?_, rfl⟩
      rw [List.filter_eq_self.mpr fun _ _ => rfl]
      show D.lst _ = D.lst (((F.map (·.2)).map fun v : Nat => (v : Int)).map D.int)
      rw [List.map_map, List.map_map]; rfl
    refine e_cb (e_cons el e_nil) (rn_eq <| g_sum ⟨?_, rfl⟩)
    rw [sum_cast]
  · have el : ∀ {v0 v1 v2 v5 v6 : Slot} {S : Sto}, mLc (mIList (mVar 4)) (mGName 6) mYes (mOp opIxN (mVar 3) (mVar 6)) [6] [v0, v1, v2, .val (.fnc (wk F) (wv F)), .val (.lst (((B.take many).map (·.1)).map dc)), v5, v6] S = .ok (.lst (LI (((B.take many).map (·.2)).map fun v : Nat => (v : Int)))) S := by
      intro v0 v1 v2 v5 v6 S
      refine rn_eq <| g_lc <| g_iList <| g_var rfl ⟨_, .inl rfl, ?_⟩
      rw [List.map_map, lcl_map (c := fun _ => true) (f := fun q : (Nat × Nat) × Nat => D.int (q.2 : Nat)) fun q hq => ⟨_, rfl, rfl, fun _ => e_op (e_v rfl) (e_v rfl) (ixW hn (hin q (List.mem_of_mem_take hq)))⟩]
      refine ⟨?_, rfl⟩
      rw [List.filter_eq_self.mpr fun _ _ => rfl]
      show D.lst _ = D.lst ((((B.take many).map (·.2)).map fun v : Nat => (v : Int)).map D.int)
      rw [List.map_map, List.map_map]; rfl
    refine e_cb (e_cons el e_nil) (rn_eq <| g_sum ⟨?_, rfl⟩)
    rw [sum_cast]
  · refine rn_eq <| g_minus ⟨congrArg D.int ?_, rfl⟩
    have h1 : (F.map (·.2)).sum = (B.map (·.2)).sum := ((hpm.map _).sum_nat).symm
    have h2 : (B.map (·.2)).sum = ((B.take many).map (·.2)).sum + ((B.drop many).map (·.2)).sum := by
      rw [← List.sum_append, ← List.map_append, List.take_append_drop]
    rw [hlw]
    omega
  · dsimp only [List.set]
    refine s_ret <| g_tup <| g_cons <| g_var rfl <| g_cons <| g_call <| g_cons <| g_var rfl <| g_nil ?_
    refine arr_run (List.Sublist.nodup ((List.take_sublist many B).map _) hbn) (by rw [List.length_map, List.length_take]; omega) fun L ha hp => ?_
    refine g_nil ?_
    rw [List.append_assoc]
    rw [hB] at hp
    exact q L g ha hp
end

section
variable {bs : List Bool} (hz : bs.length ≤ 64) {m : Nat} {S : Sto} {d x0 : D} {xs : List D}
def okC (n l : Nat) (p : Nat × Nat) : Prop := p.1 ≤ l ∧ p.2 < n
theorem rng_e {a : Int} {y : D} : mTest (mChain opLeq opLeq (mC (.int 0)) (mOp opIx (mVar 3) (mC (.int 0))) (mCB fLen (mCons (mVar 0) mNil))) [.val (.lst xs), .val (mk m), .val x0, .val (.tup [.int a, y])] S = .ok (decide (0 ≤ a) && decide (a ≤ xs.length)) S := by
  refine rn_eq <| g_test <| g_chain <| g_c <| g_op <| g_var rfl <| g_c <| g_ixT (e := .int a) rfl <| g_leq ⟨_, rfl, ?_⟩
  by_cases h : 0 ≤ a
  · rw [decide_eq_true h]
    exact g_T <| g_cb <| g_cons <| g_var rfl <| g_nil <| g_lenL <| g_leq <| g_bl ⟨by rw [Bool.true_and], rfl⟩
  · rw [decide_eq_false h]
    exact g_F <| g_bl ⟨by rw [Bool.false_and], rfl⟩
include hz in
theorem pg_e {x y : D} (h : lstAt S m = some (BL bs)) (p : plainD y = true) : mNot (mTest (mCall 2 m_is_page (mCons (mVar 1) (mCons (mOp opIx (mVar 3) (mC (.int 1))) mNil)))) [.val (.lst xs), .val (mk m), .val x0, .val (.tup [x, y])] S = .ok (!isAt bs.length y) S :=
  rn_eq <| g_not <| g_test <| g_call <| g_cons <| g_var rfl <| g_cons <| run_eq (a := y) rfl <| g_nil <| run_eq (ispage_e hz h p) <| g_bl ⟨rfl, rfl⟩
theorem it_e {x y : D} (p : plainD x = true) : mNot (mTest (mCall 1 m_is_integer (mCons (mOp opIx (mVar 3) (mC (.int 0))) mNil))) [.val (.lst xs), .val (mk m), .val x0, .val (.tup [x, y])] S = .ok (!(match x with | .int _ => true | _ => false)) S :=
  rn_eq <| g_not <| g_test <| g_call <| g_cons <| run_eq (a := x) rfl <| g_nil <| run_eq (isintD p S) <| g_bl ⟨rfl, rfl⟩
theorem not_e {mt : MT} {δ : MR.Env} {b : Bool} (h : mt δ S = .ok b S) : mNot mt δ S = .ok (!b) S := rn_eq <| g_not <| run_eq h ⟨rfl, rfl⟩
include hz in
theorem cc_good {P : EndP} {p : Nat × Nat} (h : lstAt S m = some (BL bs)) (hp : okC bs.length xs.length p) (q : P.nx [.val (.lst xs), .val (mk m), .val x0, .val (dc p)] S) : RunS (ms_ccB [.val (.lst xs), .val (mk m), .val x0, .val (dc p)] S) P := by
  obtain ⟨a, p⟩ := p
  obtain ⟨h1, h2⟩ := hp
  unfold ms_ccB
  have e0 : isAt bs.length (.int p) = true := int_isAt h2
  refine s_seq (if_f rfl ?_)
  dsimp only
  refine if_f (or_f (it_e rfl) (or_f ?_ ?_)) q
  · have := not_e (rng_e (m := m) (x0 := x0) (xs := xs) (S := S) (a := (a : Int)) (y := .int p))
    dsimp only at h1
    rw [decide_eq_true (by omega), decide_eq_true (by omega)] at this
    exact this
  · have := pg_e hz (xs := xs) (x0 := x0) (x := .int a) (y := .int p) h rfl
    rw [e0] at this
    exact this
include hz in
theorem cc_ok {cs : List (Nat × Nat)} (h : lstAt S m = some (BL bs)) (hc : ∀ p ∈ cs, okC bs.length xs.length p) : m_check_cleanings [.lst xs, mk m, .lst (cs.map dc)] S = .ok .non S := by
  refine rn_eq (s_run ?_)
  unfold ms_check_cleanings
  refine s_for <| g_iList <| g_var rfl ⟨cs.map dc, .inl rfl, ?_⟩
  refine s_loopL (fun k δ S' => S' = S ∧ ∃ v3, δ = [.val (.lst xs), .val (mk m), .val (.lst (cs.map dc)), v3]) ⟨rfl, _, rfl⟩ ?_ ?_
  · rintro k hk δ _ ⟨rfl, v3, rfl⟩
    refine ⟨_, rfl, ?_⟩
    have hkd : k < cs.length := by rw [List.length_map] at hk; exact hk
    have ex : (cs.map dc)[k] = dc cs[k] := List.getElem_map ..
    rw [ex]
    show RunS (ms_ccB [.val (.lst xs), .val (mk m), .val (.lst (cs.map dc)), .val (dc cs[k])] _) _
    exact cc_good hz h (hc _ (List.getElem_mem hkd)) ⟨rfl, _, rfl⟩
  · rintro δ _ ⟨rfl, _⟩
    exact ⟨rfl, rfl⟩
end
theorem set_new (S : Sto) (x y : Option D) : (S ++ [x]).set S.length y = S ++ [y] := by
  rw [List.set_append_right _ _ (Nat.le_refl _), Nat.sub_self]; rfl
section
variable {bs : List Bool} (hz : bs.length ≤ 64) (h0 : 1 ≤ bs.length) {m : Nat} {S : Sto} {ds : List (Bool × Nat)} {cs : List (Nat × Nat)}
theorem at_dd {k : Nat} (hk : k < ds.length) (S : Sto) : opIx (.lst (ds.map dd)) (.int k) S = .ok (dd ds[k]) S := rn_eq <| g_ix (ds := ds.map dd) rfl (at_map hk) ⟨rfl, rfl⟩
include hz h0 in
theorem looks_e (h : lstAt S m = some (BL bs)) (hd : ∀ p ∈ ds, okK bs.length p) (hc : ∀ p ∈ cs, okC bs.length ds.length p) : m_looks [.lst (ds.map dd), mk m, .lst (cs.map dc)] S = .ok (.int (lk ds cs bs ds.length).2) (S ++ [some (.lst (BL (lk ds cs bs ds.length).1))]) := by
  have hl : (ds.map dd).length = ds.length := List.length_map ..
  have hlc : (cs.map dc).length = cs.length := List.length_map ..
  have hc' : ∀ p ∈ cs, okC bs.length (ds.map dd).length p := by rw [hl]; exact hc
  refine run_ok' (s_run ?_)
  unfold ms_looks
  obtain ⟨xs, hxs⟩ : ∃ xs, xs = ds.map dd := ⟨_, rfl⟩
  obtain ⟨ys, hys⟩ : ∃ ys, ys = cs.map dc := ⟨_, rfl⟩
  rw [← hxs, ← hys]
  refine s_seq <| s_drop <| g_call <| g_cons <| g_var rfl <| g_cons <| g_var rfl <| g_nil ?_
  refine run_eq (by rw [hxs]; exact cd_ok hz h hd) ?_
  refine s_seq <| s_drop <| g_call <| g_cons <| g_var rfl <| g_cons <| g_var rfl <| g_cons <| g_var rfl <| g_nil ?_
  refine run_eq (by rw [hys]; exact cc_ok hz h (by rw [hxs]; exact hc')) ?_
  refine s_seq <| s_asgN <| g_meth <| g_var rfl ⟨_, _, rfl, rfl, g_nil <| run_to (twin_e h0 hz h) ?_⟩
  refine s_seq <| s_asgN <| g_c ?_
  refine s_seq <| s_for <| g_enum <| g_cons <| g_var rfl <| g_nil ⟨xs, rfl, ?_⟩
  refine s_loopE (fun k δ S' => S' = S ++ [some (.lst (BL (lk ds cs bs k).1))] ∧ ∃ v5 v6 v7 v8 v9, δ = [.val (.lst xs), .val (mk m), .val (.lst ys), .val (mk S.length), .val (.int (lk ds cs bs k).2), v5, v6, v7, v8, v9]) ⟨rfl, _, _, _, _, _, rfl⟩ ?_ ?_
  · rintro k hk δ _ ⟨rfl, v5, v6, v7, v8, v9, rfl⟩
    have hkd : k < ds.length := by rw [hxs, hl] at hk; exact hk
    have ex : xs[k] = dd ds[k] := by subst hxs; exact List.getElem_map ..
    have eg : ds.getD k (false, 0) = ds[k] := by rw [List.getD_eq_getElem?_getD, List.getElem?_eq_getElem hkd]; rfl
    have hok := hd ds[k] (List.getElem_mem hkd)
    rw [ex]
    have hst : lk ds cs bs (k + 1) = stp cs k ds[k] (lk ds cs bs k) := by show stp cs k (ds.getD k (false, 0)) _ = _; rw [eg]
    have hln := lk_len ds cs bs k
    obtain ⟨L, hL⟩ : ∃ L, L = lk ds cs bs k := ⟨_, rfl⟩
    rw [← hL] at hst hln ⊢
    obtain ⟨b, f⟩ := L
    obtain ⟨⟨w, p⟩, hwp⟩ : ∃ q, q = ds[k] := ⟨_, rfl⟩
    rw [← hwp] at hst hok ⊢
    dsimp only at hln ⊢
    refine ⟨_, rfl, ?_⟩
    dsimp only [List.set, dd]
    refine s_seq <| s_for <| g_iList <| g_var rfl ⟨ys, .inl rfl, ?_⟩
    refine s_loopL (fun j δ S' => S' = S ++ [some (.lst (BL (clns k (cs.take j) b)))] ∧ ∃ v8 v9, δ = [.val (.lst xs), .val (mk m), .val (.lst ys), .val (mk S.length), .val (.int f), .val (.int (k : Nat)), .val (.str (if w = true then "write" else "read")), .val (.int p), v8, v9]) ⟨rfl, _, _, rfl⟩ ?_ ?_
    · rintro j hj δ _ ⟨rfl, v8, v9, rfl⟩
      have hjc : j < cs.length := by rw [hys, hlc] at hj; exact hj
      have ey : ys[j] = dc cs[j] := by subst hys; exact List.getElem_map ..
      rw [ey, clns_step k cs b hjc]
      have hcj := hc cs[j] (List.getElem_mem hjc)
      obtain ⟨⟨a, c⟩, hac⟩ : ∃ q, q = cs[j] := ⟨_, rfl⟩
      rw [← hac] at hcj ⊢
      have hlb : (clns k (cs.take j) b).length = bs.length := by rw [clns_len, hln]
      obtain ⟨B, hB⟩ : ∃ B, B = clns k (cs.take j) b := ⟨_, rfl⟩
      rw [← hB] at hlb ⊢
      refine ⟨_, rfl, ?_⟩
      dsimp only [List.set]
      refine s_ifS <| g_test <| g_op <| g_var rfl <| g_var rfl <| g_eqI <| g_bl ?_
      unfold cln
      dsimp only
      by_cases hak : a = k
      · rw [decide_eq_true (by omega), if_pos hak]
        refine g_T ?_
        refine s_setZ <| g_c <| g_var rfl <| g_var rfl ⟨rfl, ?_⟩
        have hcb : c < B.length := by rw [hlb]; exact hcj.2
        refine mset_run lst_new rfl rfl (fun z => by rw [int_isAt hcb] at z; cases z) (fun _ z => nomatch z) fun i hi b' e1 e2 => ?_
        have : i = c := by have := D.int.inj e1; omega
        subst this
        cases e2
        exact ⟨by rw [set_new], _, _, rfl⟩
      · rw [decide_eq_false (by omega), if_neg hak]
        exact g_F <| s_next ⟨rfl, _, _, rfl⟩
    · rintro δ _ ⟨rfl, v8, v9, rfl⟩
      have et : cs.take ys.length = cs := by rw [hys, hlc, List.take_length]
      rw [et]
      have hlb : (clns k cs b).length = bs.length := by rw [clns_len, hln]
      have hst' : lk ds cs bs (k + 1) = (if w = true then ((clns k cs b).set p false, f) else if (clns k cs b).getD p false = true then (clns k cs b, f) else (clns k cs b, f + 1)) := hst
      rw [hst']
      obtain ⟨B, hB⟩ : ∃ B, B = clns k cs b := ⟨_, rfl⟩
      rw [← hB] at hlb ⊢
      have hpb : p < B.length := by rw [hlb]; exact hok
      cases w with
      | true =>
        refine if_t rfl ?_
        refine s_setZ <| g_c <| g_var rfl <| g_var rfl ⟨rfl, ?_⟩
        refine mset_run lst_new rfl rfl (fun z => by rw [int_isAt hpb] at z; cases z) (fun _ z => nomatch z) fun i hi b' e1 e2 => ?_
        have : i = p := by have := D.int.inj e1; omega
        subst this
        cases e2
        exact ⟨by rw [set_new]; rfl, _, _, _, _, _, rfl⟩
      | false =>
        refine if_n rfl ?_
        refine s_ifS <| g_not <| g_tru <| g_getZ <| g_var rfl <| g_var rfl ⟨rfl, ?_⟩
        refine mget_run lst_new rfl (fun z => by rw [int_isAt hpb] at z; cases z) fun i hi e1 => ⟨B[i], rfl, ?_⟩
        have : i = p := by have := D.int.inj e1; omega
        subst this
        have eg : B.getD i false = B[i] := by rw [List.getD_eq_getElem?_getD, List.getElem?_eq_getElem hi]; rfl
        rw [eg]
        cases hb : B[i] with
        | true => exact g_F <| s_next ⟨rfl, _, _, _, _, _, rfl⟩
        | false => exact g_T <| s_aug rfl <| g_c ⟨1, rfl, rfl, _, _, _, _, _, rfl⟩
  · rintro δ _ ⟨rfl, v5, v6, v7, v8, v9, rfl⟩
    have e : xs.length = ds.length := by rw [hxs, hl]
    rw [e]
    with_reducible refine s_ret ?_
    exact g_var rfl ⟨rfl, rfl⟩
end
theorem mid_setB (ts : List Bool) (b : Bool) (r : Nat) : (ts ++ List.replicate (r + 1) false).set ts.length b = (ts ++ [b]) ++ List.replicate r false := by
  rw [List.set_append_right _ _ (Nat.le_refl _), Nat.sub_self, List.replicate_succ, List.set_cons_zero, List.append_assoc]; rfl
theorem lst_set {S : Sto} {n : Nat} {ds es : List D} (h : lstAt S n = some ds) : lstAt (S.set n (some (.lst es))) n = some es := by
  have e := lstAt_some h
  unfold lstAt
  rw [List.getElem?_set_self (List.getElem?_eq_some_iff.mp e).1]
theorem deeds_run {p : Nat} {S : Sto} {Q : D → Sto → Prop} {X : XQ} (h : PlS S p) (q : ∀ (ds : List (Bool × Nat)) (bs : List Bool) (m : Nat) (S' : Sto), 1 ≤ bs.length → bs.length ≤ 6 → ds.length ≤ 40 → (∀ p ∈ ds, okK bs.length p) → lstAt S' m = some (BL bs) → m ≠ p → PlS S' p → Q (.lst [.lst (ds.map dd), mk m, .lst (BL bs)]) S') : Rn (m__law_deeds [.ref p] S) Q X := by
  refine s_run ?_
  unfold ms__law_deeds
  refine s_seq <| s_asgN <| g_op <| g_c <| g_call <| g_cons <| g_var rfl <| g_cons <| g_c <| g_nil ?_
  refine take_run h (by decide) (by decide) fun r S1 r0 r1 h1 ne1 => ?_
  obtain ⟨r', rfl⟩ := Int.eq_ofNat_of_zero_le r0
  obtain ⟨n, hn⟩ : ∃ n : Nat, n = 1 + r' := ⟨_, rfl⟩
  have n1 : 1 ≤ n := by omega
  have n2 : n ≤ 6 := by omega
  refine g_plusI ?_
  rw [show (1 : Int) + (r' : Int) = (n : Int) by omega]
  refine s_seq <| s_asgN <| g_new <| g_cons <| g_var rfl <| g_nil <| run_to (minit_n n1 (by omega) S1) ?_
  obtain ⟨m, hm⟩ : ∃ m, m = S1.length := ⟨_, rfl⟩
  have hmp : m ≠ p := by have := h1.lt; omega
  have hl2 : lstAt (S1 ++ [some (.lst (BL (List.replicate n false)))]) m = some (BL (List.replicate n false)) := by rw [hm]; exact lst_new
  have h2 : PlS (S1 ++ [some (.lst (BL (List.replicate n false)))]) p := h1.app
  rw [← hm]
  generalize S1 ++ [some (D.lst (BL (List.replicate n false)))] = S2 at hl2 h2
  refine s_seq <| s_asgO <| g_lst <| g_nil ?_
  refine s_seq <| s_for <| g_rng1 <| g_cons <| g_var rfl <| g_nil ⟨(n : Int), rfl, by omega, by omega, ?_⟩
  rw [Int.toNat_natCast]
  refine s_loopR (fun k δ S' => PlS S' p ∧ ∃ ts : List Bool, ts.length = k ∧ lstAt S' m = some (BL (ts ++ List.replicate (n - k) false)) ∧ ∃ v4, δ = [.val (.ref p), .val (.int n), .val (mk m), .own false (.lst (BL ts)), v4, .no, .no]) ⟨h2, [], rfl, hl2, _, rfl⟩ ?_ ?_
  · rintro k hk δ S3 ⟨h3, ts, hts, hl3, v4, rfl⟩
    refine ⟨_, rfl, ?_⟩
    rw [Int.zero_add]
    dsimp only [List.set]
    refine s_seq <| s_setZ <| g_op <| g_call <| g_cons <| g_var rfl <| g_cons <| g_c <| g_nil ?_
    refine take_run h3 (by decide) (by decide) fun t S4 _ _ h4 ne4 => ?_
    refine g_c <| g_eqI <| g_var rfl <| g_var rfl ⟨rfl, ?_⟩
    have hl4 := ne4.lst hmp hl3
    have hlen : (ts ++ List.replicate (n - k) false).length = n := by rw [List.length_append, List.length_replicate, hts]; omega
    have hkl : k < (ts ++ List.replicate (n - k) false).length := by rw [hlen]; exact hk
    refine mset_run hl4 rfl rfl (fun z => by rw [int_isAt hkl] at z; cases z) (fun _ z => nomatch z) fun i hi b' e1 e2 => ?_
    have : i = k := by have := D.int.inj e1; omega
    subst this
    have hset : (ts ++ List.replicate (n - i) false).set i b' = (ts ++ [b']) ++ List.replicate (n - (i + 1)) false := by
      rw [show n - i = (n - (i + 1)) + 1 by omega, ← hts]
      exact mid_setB ts b' _
    rw [hset]
    have hl5 : lstAt (S4.set m (some (.lst (BL ((ts ++ [b']) ++ List.replicate (n - (i + 1)) false))))) m = some _ := lst_set hl4
    have h5 : PlS (S4.set m (some (.lst (BL ((ts ++ [b']) ++ List.replicate (n - (i + 1)) false))))) p := h4.set hmp
    generalize S4.set m (some (D.lst (BL ((ts ++ [b']) ++ List.replicate (n - (i + 1)) false)))) = S5 at hl5 h5
    have hil : i < ((ts ++ [b']) ++ List.replicate (n - (i + 1)) false).length := by rw [List.length_append, List.length_append, List.length_cons, hts]; omega
    have htl : (BL ts).length < 16777216 := by rw [show (BL ts).length = ts.length from List.length_map ..]; omega
    dsimp only
    refine s_append rfl <| g_getZ <| g_var rfl <| g_var rfl ⟨rfl, ?_⟩
    refine mget_run hl5 rfl (fun z => by rw [int_isAt hil] at z; cases z) fun j hj e3 => ⟨htl, h5, ts ++ [b'], by rw [List.length_append, hts]; rfl, hl5, .val (.int i), ?_⟩
    have : j = i := by have := D.int.inj e3; omega
    subst this
    have eb : ((ts ++ [b']) ++ List.replicate (n - (j + 1)) false)[j] = b' := by
      rw [List.getElem_append_left (by rw [List.length_append, hts]; exact Nat.lt_succ_self _), List.getElem_append_right (by omega)]
      simp [hts]
    rw [eb]
    have e : BL ts ++ [.bl b'] = BL (ts ++ [b']) := by unfold BL; rw [List.map_append]; rfl
    rw [e]; rfl
  · rintro δ S3 ⟨h3, ts, hts, hl3, v4, rfl⟩
    rw [Nat.sub_self, List.replicate_zero, List.append_nil] at hl3
    refine s_seq <| s_asgO <| g_lst <| g_nil ?_
    refine s_seq <| s_for <| g_rng1 <| g_cons <| g_call <| g_cons <| g_var rfl <| g_cons <| g_c <| g_nil ?_
    refine take_run h3 (by decide) (by decide) fun t S4 t0 t1 h4 ne4 => ?_
    obtain ⟨t', rfl⟩ := Int.eq_ofNat_of_zero_le t0
    refine g_nil ⟨(t' : Int), rfl, by omega, by omega, ?_⟩
    rw [Int.toNat_natCast]
    have hl4 := ne4.lst hmp hl3
    refine s_loopR (fun k δ S' => PlS S' p ∧ lstAt S' m = some (BL ts) ∧ ∃ ds : List (Bool × Nat), ds.length = k ∧ (∀ x ∈ ds, okK n x) ∧ ∃ v6, δ = [.val (.ref p), .val (.int n), .val (mk m), .own false (.lst (BL ts)), v4, .own false (.lst (ds.map dd)), v6]) ⟨h4, hl4, [], rfl, fun _ z => absurd z List.not_mem_nil, _, rfl⟩ ?_ ?_
    · rintro k hk δ S5 ⟨h5, hl5, ds, hds, hok, v6, rfl⟩
      refine ⟨_, rfl, ?_⟩
      dsimp only [List.set]
      refine s_append rfl <| g_tup <| g_cons <| g_op <| g_lst <| g_cons <| g_c <| g_cons <| g_c <| g_cons <| g_c <| g_nil <| g_call <| g_cons <| g_var rfl <| g_cons <| g_c <| g_nil ?_
      refine take_run h5 (by decide) (by decide) fun u S6 u0 u1 h6 ne6 => ?_
      obtain ⟨w, hw⟩ : ∃ w : Bool, atI [D.str "write", D.str "read", D.str "read"] u = some (D.str (if w then "write" else "read")) := by
        have hu : u = 0 ∨ u = 1 ∨ u = 2 := by omega
        rcases hu with rfl | rfl | rfl
        · exact ⟨true, rfl⟩
        · exact ⟨false, rfl⟩
        · exact ⟨false, rfl⟩
      refine g_ix rfl hw <| g_cons <| g_call <| g_cons <| g_var rfl <| g_cons <| g_var rfl <| g_nil ?_
      refine take_run h6 (by omega) (by omega) fun v S7 v0 v1 h7 ne7 => ?_
      obtain ⟨v', rfl⟩ := Int.eq_ofNat_of_zero_le v0
      refine g_nil ⟨by rw [List.length_map]; omega, h7, ne7.lst hmp (ne6.lst hmp hl5), ds ++ [(w, v')], by rw [List.length_append, hds]; rfl, ?_, .val (.int (0 + (k : Int))), ?_⟩
      · intro x hx
        rcases List.mem_append.mp hx with z | z
        · exact hok x z
        · rw [List.mem_singleton.mp z]
          show v' < n
          omega
      · rw [List.map_append]; rfl
    · rintro δ S5 ⟨h5, hl5, ds, hds, hok, v6, rfl⟩
      dsimp only
      refine s_fixO rfl <| s_fixO rfl <| s_ret <| g_lst <| g_cons <| g_var rfl <| g_cons <| g_var rfl <| g_cons <| g_var rfl <| g_nil ?_
      exact q ds ts m S5 (by omega) (by omega) (by omega) (by rw [hts]; exact hok) hl5 hmp h5
def getD_ (bs : List Bool) : D → D
  | .int k => .bl (bs.getD k.toNat false)
  | _ => .non
theorem rng_BL (bs : List Bool) : (rngD 0 bs.length).map (getD_ bs) = BL bs := by
  unfold rngD BL
  rw [List.map_map]
  refine List.ext_getElem (by rw [List.length_map, List.length_map, List.length_range]) fun i h1 h2 => ?_
  rw [List.getElem_map, List.getElem_map, List.getElem_range]
  have hi : i < bs.length := by rw [List.length_map] at h2; exact h2
  show D.bl (bs.getD (0 + (i : Int)).toNat false) = D.bl bs[i]
  rw [show (0 + (i : Int)).toNat = i by omega, List.getD_eq_getElem?_getD, List.getElem?_eq_getElem hi]; rfl

mutual
theorem eqv_self : ∀ d : D, PyData.eqv (toPy d) (toPy d) = true
  | .bl b => by cases b <;> rfl
  | .int i => by simp [toPy, PyData.eqv]
  | .str x => by simp [toPy, PyData.eqv]
  | .tup ds => by simp only [toPy, PyData.eqv]; exact eqvs_self ds
  | .lst ds => by simp only [toPy, PyData.eqv]; exact eqvs_self ds
  | .non => rfl
  | .byt _ => rfl
  | .ty _ => rfl
  | .cls _ => rfl
  | .dic _ _ => rfl
  | .fdc _ _ => rfl
  | .ndc _ _ => rfl
  | .fnc _ _ => rfl
  | .obj _ _ _ => rfl
  | .ref _ => rfl
  | .scr _ => rfl
theorem eqvs_self : ∀ ds : List D, PyData.eqvAll (toPys ds) (toPys ds) = true
  | [] => rfl
  | d :: ds => by simp only [toPys, PyData.eqvAll, eqv_self d, eqvs_self ds, Bool.and_self]
end
theorem eqD_self (d : D) : eqD d d = true := eqv_self d
theorem okN_all {n : Nat} {ds : List D} (h : ∀ d ∈ ds, okN n d = true) : okN (n + 1) (.lst ds) = true ∧ okN (n + 1) (.tup ds) = true := by
  have z : ds.all (okN n) = true := List.all_eq_true.mpr h
  exact ⟨by unfold okN; exact z, by unfold okN; exact z⟩
theorem okN_int (n : Nat) (i : Int) : okN n (.int i) = true := by unfold okN; rfl
theorem okN_bl (n : Nat) (i : Bool) : okN n (.bl i) = true := by unfold okN; rfl
theorem okN_str (n : Nat) {x : PySem.Str} (h : PyData.canLay0 (.str x) = true) : okN n (.str x) = true := by unfold okN; exact h
def wS (w : Bool) : PySem.Str := if w = true then ("write" : PySem.Str) else ("read" : PySem.Str)
theorem wS_inj {w w' : Bool} (h : wS w = wS w') : w = w' := by
  cases w <;> cases w' <;> first | rfl | exact absurd h (by decide)
theorem eqD_dd (a b : Bool × Nat) : eqD (dd a) (dd b) = decide (a = b) := by
  obtain ⟨w, p⟩ := a
  obtain ⟨w', p'⟩ := b
  have e : eqD (.tup [.str (wS w), .int (p : Nat)]) (.tup [.str (wS w'), .int (p' : Nat)]) = (decide (wS w = wS w') && (decide ((p : Int) = p') && true)) := by
    unfold eqD
    simp only [toPy, toPys, PyData.eqv, PyData.eqvAll]
    congr 1
  refine Eq.trans e ?_
  rw [Bool.eq_iff_iff, Bool.and_true, Bool.and_eq_true, decide_eq_true_eq, decide_eq_true_eq, decide_eq_true_eq]
  refine ⟨fun ⟨h1, h2⟩ => ?_, fun h => by cases h; exact ⟨rfl, rfl⟩⟩
  have hp : p = p' := by omega
  rw [hp, wS_inj h1]
theorem okN_dd (p : Bool × Nat) (n : Nat) : okN (n + 1) (dd p) = true := by
  refine (okN_all fun d hd => ?_).2
  simp only [List.mem_cons, List.not_mem_nil, or_false] at hd
  rcases hd with rfl | rfl
  · refine okN_str _ ?_
    cases p.1 <;> decide +kernel
  · exact okN_int _ _
theorem o_eqdd {a b : Bool × Nat} {S : Sto} : opEq false (dd a) (dd b) S = .ok (.bl (decide (a = b))) S := rn_eq (g_eqD (okN_dd a 8) (okN_dd b 8) rfl ⟨by rw [eqD_dd, Bool.false_xor], rfl⟩)
theorem dk_get {ds : List (Bool × Nat)} {p k : Nat} (h : k < (ds ++ [(true, p)]).length) : (ds ++ [(true, p)])[k] = dk ds p k := by
  unfold dk
  rw [List.length_append, List.length_singleton] at h
  by_cases c : k < ds.length
  · rw [if_pos c, List.getElem_append_left c, List.getD_eq_getElem?_getD, List.getElem?_eq_getElem c]; rfl
  · rw [if_neg c, List.getElem_append_right (by omega)]
    have : k - ds.length = 0 := by omega
    simp only [this, List.getElem_cons_zero]
/-- the pages walked so far -/
def lwsN (ds : List (Bool × Nat)) (bs : List Bool) (k : Nat) : List Nat := (List.range k).flatMap fun p => (lwS ds bs p (ds.length + 1)).1
theorem lwsN_succ (ds : List (Bool × Nat)) (bs : List Bool) (k : Nat) : lwsN ds bs (k + 1) = lwsN ds bs k ++ (lwS ds bs k (ds.length + 1)).1 := by
  unfold lwsN
  rw [List.range_succ, List.flatMap_append]
  simp
theorem lwS_len {ds : List (Bool × Nat)} {bs : List Bool} {p : Nat} : ∀ k, (lwS ds bs p k).1.length ≤ k
  | 0 => Nat.le_refl _
  | k + 1 => by
    have := lwS_len (ds := ds) (bs := bs) (p := p) k
    unfold lwS
    dsimp only
    split
    · dsimp only; rw [List.length_append, List.length_singleton]; omega
    · split
      · dsimp only; omega
      · omega
theorem lwsN_len {ds : List (Bool × Nat)} {bs : List Bool} : ∀ k, (lwsN ds bs k).length ≤ k * (ds.length + 1)
  | 0 => Nat.zero_le _
  | k + 1 => by
    have := lwsN_len (ds := ds) (bs := bs) k
    have h2 := lwS_len (ds := ds) (bs := bs) (p := k) (ds.length + 1)
    rw [lwsN_succ, List.length_append, Nat.succ_mul]
    omega
abbrev NI (l : List Nat) : List D := LI (l.map fun v : Nat => (v : Int))
theorem NI_app (a b : List Nat) : NI (a ++ b) = NI a ++ NI b := by show LI _ = _; rw [List.map_append]; exact List.map_append
section
variable {bs : List Bool} {S : Sto} {ds : List (Bool × Nat)}
/-- what the law finds, those that save most first -/
def lwR (ds : List (Bool × Nat)) (bs : List Bool) : List Int := (sortI (((lws ds bs bs.length).filter fun v => decide (0 < v)).map fun v : Nat => (v : Int))).reverse
theorem lworths_e (h6 : bs.length ≤ 6) (hl : ds.length ≤ 40) : m__law_worths [.lst (ds.map dd), .lst (BL bs)] S = .ok (.lst (LI (lwR ds bs))) S := by
  have hbl : (BL bs).length = bs.length := List.length_map ..
  have hdl : (ds.map dd).length = ds.length := List.length_map ..
  refine run_ok' (s_run ?_)
  unfold ms__law_worths
  refine s_seq <| s_asgO <| g_lst <| g_nil ?_
  refine s_seq <| s_for <| g_rng1 <| g_cons <| g_cb <| g_cons <| g_var rfl <| g_nil <| g_lenL <| g_nil ⟨((BL bs).length : Int), rfl, by omega, by omega, ?_⟩
  rw [Int.toNat_natCast, hbl]
  refine s_loopR (fun k δ S' => S' = S ∧ ∃ v3 v4 v5 v6, δ = [.val (.lst (ds.map dd)), .val (.lst (BL bs)), .own false (.lst (NI (lwsN ds bs k))), v3, v4, v5, v6]) ⟨rfl, _, _, _, _, rfl⟩ ?_ ?_
  · rintro p hp δ S ⟨rfl, v3, v4, v5, v6, rfl⟩
    refine ⟨_, rfl, ?_⟩
    rw [Int.zero_add]
    dsimp only [List.set]
    refine s_seq <| s_asgN <| g_c ?_
    dsimp only [List.set]
    refine s_seq <| s_asgN <| g_op <| g_var rfl <| g_var rfl <| g_ix (ds := BL bs) rfl (at_BL hp) ?_
    dsimp only [List.set]
    refine s_for <| g_iList <| g_op <| g_var rfl <| g_lst <| g_cons <| g_tup <| g_cons <| g_c <| g_cons <| g_var rfl <| g_nil <| g_nil <| g_catL (by rw [hdl, List.length_singleton]; omega) ⟨_, .inl rfl, ?_⟩
    have exs : ds.map dd ++ [D.tup [.str "write", .int (p : Nat)]] = (ds ++ [(true, p)]).map dd := by rw [List.map_append]; rfl
    rw [exs]
    have hxl : ((ds ++ [(true, p)]).map dd).length = ds.length + 1 := by rw [List.length_map, List.length_append, List.length_singleton]
    have hln := lwsN_len (ds := ds) (bs := bs) p
    have hpp : p * (ds.length + 1) ≤ 6 * 41 := Nat.mul_le_mul (by omega) (by omega)
    have eb : bs.getD p false = bs[p] := by rw [List.getD_eq_getElem?_getD, List.getElem?_eq_getElem hp]; rfl
    refine s_loopL (fun k δ S' => S' = S ∧ ∃ v6, δ = [.val (.lst (ds.map dd)), .val (.lst (BL bs)), .own false (.lst (NI (lwsN ds bs p ++ (lwS ds bs p k).1))), .val (.int (p : Nat)), .val (.int ((lwS ds bs p k).2.1 : Nat)), .val (.bl (lwS ds bs p k).2.2), v6]) ⟨rfl, v6, ?_⟩ ?_ ?_
    · rw [show lwS ds bs p 0 = ([], 0, bs.getD p false) from rfl, eb, List.append_nil]; rfl
    · rintro k hk δ S ⟨rfl, v6, rfl⟩
      rw [hxl] at hk
      have hk2 : k < (ds ++ [(true, p)]).length := by rw [List.length_append, List.length_singleton]; exact hk
      have ex : ((ds ++ [(true, p)]).map dd)[k] = dd (dk ds p k) := by rw [List.getElem_map, dk_get hk2]
      rw [ex]
      refine ⟨_, rfl, ?_⟩
      dsimp only [List.set]
      have hstep : lwS ds bs p (k + 1) = (if dk ds p k = (true, p) then ((lwS ds bs p k).1 ++ [(lwS ds bs p k).2.1], 0, false) else if dk ds p k = (false, p) ∧ (lwS ds bs p k).2.2 = false then ((lwS ds bs p k).1, (lwS ds bs p k).2.1 + 1, (lwS ds bs p k).2.2) else lwS ds bs p k) := rfl
      have hsl := lwS_len (ds := ds) (bs := bs) (p := p) k
      rw [hstep]
      obtain ⟨⟨f, n, b⟩, hs⟩ : ∃ s, s = lwS ds bs p k := ⟨_, rfl⟩
      rw [← hs] at hsl ⊢
      dsimp only at hsl ⊢
      refine s_if (b := decide (dk ds p k = (true, p))) (t_test (e_op (e_v rfl) (e_tup (e_cons e_c (e_cons (e_v rfl) e_nil))) (o_eqdd (a := dk ds p k) (b := (true, p))))) (fun z => ?_) fun z => ?_
      · rw [if_pos (of_decide_eq_true z)]
        refine s_seq <| s_append rfl <| g_var rfl ⟨by show (LI _).length < _; rw [List.length_map, List.length_map, List.length_append]; omega, ?_⟩
        dsimp only [List.set]
        refine s_seq <| s_asgN <| g_c ?_
        refine s_asgN <| g_c ?_
        refine ⟨rfl, .val (dd (dk ds p k)), ?_⟩
        rw [← List.append_assoc, NI_app (lwsN ds bs p ++ f)]; rfl
      · rw [if_neg (of_decide_eq_false z)]
        have ht : ∀ {δ : MR.Env}, δ[6]? = some (.val (dd (dk ds p k))) → δ[3]? = some (.val (.int (p : Nat))) → δ[5]? = some (.val (.bl b)) → mAnd (mTest (mOp (opEq false) (mVar 6) (mTup (mCons (mC (.str "read")) (mCons (mVar 3) mNil))))) (mNot (mTest (mVar 5))) δ S = .ok (decide (dk ds p k = (false, p)) && !b) S := fun h1 h2 h3 =>
          t_and (t_test (e_op (e_v h1) (e_tup (e_cons e_c (e_cons (e_v h2) e_nil))) (o_eqdd (a := dk ds p k) (b := (false, p))))) fun _ => t_not (t_test (e_v h3))
        refine s_if (ht rfl rfl rfl) (fun y => ?_) fun y => ?_
        · rw [Bool.and_eq_true, decide_eq_true_eq, Bool.not_eq_true'] at y
          rw [if_pos y]
          refine s_asgN <| g_op <| g_var rfl <| g_c <| g_plusI ⟨rfl, _, rfl⟩
        · have hn : ¬ (dk ds p k = (false, p) ∧ b = false) := fun w => by
            rw [decide_eq_true w.1, w.2] at y; cases y
          rw [if_neg hn]
          exact s_next ⟨rfl, _, rfl⟩
    · rintro δ S ⟨rfl, v6, rfl⟩
      rw [hxl]
      refine ⟨rfl, .val (.int (p : Nat)), .val (.int ((lwS ds bs p (ds.length + 1)).2.1 : Nat)), .val (.bl (lwS ds bs p (ds.length + 1)).2.2), v6, ?_⟩
      rw [lwsN_succ]
  · rintro δ S ⟨rfl, v3, v4, v5, v6, rfl⟩
    have hln := lwsN_len (ds := ds) (bs := bs) bs.length
    have hpp : bs.length * (ds.length + 1) ≤ 6 * 41 := Nat.mul_le_mul h6 (by omega)
    have el : mLc (mIList (mPeek 2)) (mGName 4) (mTest (mOp opMore (mVar 4) (mC (.int 0)))) (mCB fInt (mCons (mVar 4) mNil)) [4] [.val (.lst (ds.map dd)), .val (.lst (BL bs)), .own false (.lst (NI (lwsN ds bs bs.length))), v3, v4, v5, v6] S = .ok (.lst (LI (((lwsN ds bs bs.length).filter fun v => decide (0 < v)).map fun v : Nat => (v : Int)))) S := by
      refine rn_eq <| g_lc <| g_iList <| g_peekO rfl ⟨_, .inl rfl, ?_⟩
      rw [show NI (lwsN ds bs bs.length) = (lwsN ds bs bs.length).map fun v : Nat => D.int (v : Int) from List.map_map, lcl_map (c := fun v : Nat => decide (0 < v)) (f := fun v : Nat => D.int (v : Int)) fun v _ => ⟨_, rfl, ?_, fun _ => e_cb (e_cons (e_v rfl) e_nil) rfl⟩]
      · refine ⟨?_, rfl⟩
        show D.lst _ = D.lst (LI _)
        rw [show LI (((lwsN ds bs bs.length).filter fun v => decide (0 < v)).map fun v : Nat => (v : Int)) = _ from List.map_map]; rfl
      · refine t_test (e_op (e_v rfl) e_c ?_)
        show Out.ok (D.bl (decide ((0 : Int) < (v : Int)))) S = _
        rw [show decide ((0 : Int) < (v : Int)) = decide (0 < v) from decide_eq_decide.mpr (by omega)]
    have es : mCB fSorted (mCons (mLc (mIList (mPeek 2)) (mGName 4) (mTest (mOp opMore (mVar 4) (mC (.int 0)))) (mCB fInt (mCons (mVar 4) mNil)) [4]) mNil) [.val (.lst (ds.map dd)), .val (.lst (BL bs)), .own false (.lst (NI (lwsN ds bs bs.length))), v3, v4, v5, v6] S = .ok (.lst (LI (sortI (((lwsN ds bs bs.length).filter fun v => decide (0 < v)).map fun v : Nat => (v : Int))))) S := by
      refine e_cb (e_cons el e_nil) ?_
      have hf := List.length_filter_le (fun v => decide (0 < v)) (lwsN ds bs bs.length)
      show (match (listOf S (D.lst (LI (((lwsN ds bs bs.length).filter fun v => decide (0 < v)).map fun v : Nat => (v : Int))))).bind intsOf with | some ns => if ns.length ≤ 100000 then Out.ok (D.lst ((sortI ns).map D.int)) S else .bad | none => .bad) = _
      have : (listOf S (D.lst (LI (((lwsN ds bs bs.length).filter fun v => decide (0 < v)).map fun v : Nat => (v : Int))))).bind intsOf = some (((lwsN ds bs bs.length).filter fun v => decide (0 < v)).map fun v : Nat => (v : Int)) := intsOf_map _
      rw [this]
      dsimp only
      rw [if_pos (by rw [List.length_map]; omega)]
    with_reducible refine s_ret ?_
    unfold mRevL
    rw [es]
    refine ⟨?_, rfl⟩
    show D.lst ((LI _).reverse) = D.lst (LI _)
    unfold lwR lws lwsN
    rw [← List.map_reverse]
end

section
variable {ds : List (Bool × Nat)} {bs : List Bool}
theorem lwR_e (hd : ∀ p ∈ ds, okK bs.length p) : lwR ds bs = ((wtB ds bs).map (·.2)).map fun v : Nat => (v : Int) := by
  have h1 : ((wtB ds bs).map (·.2)).Perm ((lws ds bs bs.length).filter fun v => decide (0 < v)) := by
    rw [← lkeys_vals]
    exact ((wtB_perm ds bs).trans (lkeys_perm hd).symm).map _
  have h2 : (((wtB ds bs).map (·.2)).map fun v : Nat => (v : Int)).Perm (lwR ds bs) := ((h1.map _).trans (sortI_perm _).symm).trans (List.reverse_perm _).symm
  have h3 : (((wtB ds bs).map (·.2)).map fun v : Nat => (v : Int)).Pairwise (· ≥ ·) := by
    rw [List.pairwise_map]
    exact (bst_desc _ _).imp fun {a b} h => by show (b : Int) ≤ a; omega
  have h4 : (lwR ds bs).Pairwise (· ≥ ·) := by
    unfold lwR
    rw [List.pairwise_reverse]
    exact sortI_sorted _
  exact (List.Perm.eq_of_pairwise (fun a b _ _ h1 h2 => Int.le_antisymm h2 h1) h3 h4 h2).symm
end
theorem at_dc {L : List (Nat × Nat)} {k : Nat} (hk : k < L.length) : atI (L.map dc) (k : Nat) = some (dc L[k]) := by
  unfold atI
  rw [List.length_map, ix_nat hk]
  show (L.map dc)[k]? = _
  rw [List.getElem?_map, List.getElem?_eq_getElem hk]; rfl

section
variable {ds : List (Bool × Nat)} {bs : List Bool}
theorem nodup_of_map {B : WT} (h : (B.map (·.1)).Nodup) (C : Nat × Nat → Bool) : ((B.filter fun q => C q.1).map (·.1)).Nodup := List.Sublist.nodup ((List.filter_sublist (l := B) (p := fun q => C q.1)).map _) h
/-- any cleanings leave at least what the best of as many leave -/
theorem lk_least (hd : ∀ p ∈ ds, okK bs.length p) (cs : List (Nat × Nat)) : lftW ds bs cs.length ≤ (lk ds cs bs ds.length).2 := by
  rw [lk_lft hd _ (Nat.le_refl _)]
  refine Nat.le_trans ?_ (lft_hits (cs := cs) ds.length)
  have h1 := cntP_add (e := kk ds bs) (C := fun c => decide (c ∈ hits ds bs cs)) ds.length
  have h2 : cntP (kk ds bs) (fun _ => true) ds.length = ((wtB ds bs).map (·.2)).sum := by
    rw [← tab_sum, List.filter_eq_self.mpr fun _ _ => rfl]
    exact ((wtB_perm ds bs).map _).symm.sum_nat
  have h3 : cntP (kk ds bs) (fun c => decide (c ∈ hits ds bs cs)) ds.length = (((wtB ds bs).filter fun q => decide (q.1 ∈ hits ds bs cs)).map (·.2)).sum := by
    rw [← tab_sum]
    exact (((wtB_perm ds bs).filter _).map _).symm.sum_nat
  have h4 : (((wtB ds bs).filter fun q => decide (q.1 ∈ hits ds bs cs)).map (·.2)).sum ≤ (((wtB ds bs).map (·.2)).take cs.length).sum := by
    refine top_le _ _ _ (bst_desc _ _) (filter_sublist_map fun c => decide (c ∈ hits ds bs cs)) ?_
    rw [List.length_map]
    have hn := nodup_of_map (wtB_nodup ds bs) fun c => decide (c ∈ hits ds bs cs)
    have hs : ((wtB ds bs).filter fun q => decide (q.1 ∈ hits ds bs cs)).map (·.1) ⊆ hits ds bs cs := fun c hc => by
      obtain ⟨q, hq, rfl⟩ := List.mem_map.mp hc
      exact of_decide_eq_true (List.mem_filter.mp hq).2
    have := hn.length_le_of_subset hs
    rw [List.length_map] at this
    exact Nat.le_trans this (List.length_filterMap_le _ _)
  have h5 : ((wtB ds bs).map (·.2)).sum = (((wtB ds bs).map (·.2)).take cs.length).sum + lftW ds bs cs.length := by
    unfold lftW
    rw [List.map_drop, ← List.sum_append, List.take_append_drop]
  omega
theorem lftW_zero {many : Nat} (h : (wtB ds bs).length ≤ many) : lftW ds bs many = 0 := by
  unfold lftW
  rw [List.drop_eq_nil_of_le h]; rfl
theorem lftW_step {k : Nat} (h : k < (wtB ds bs).length) : lftW ds bs k = ((wtB ds bs)[k]).2 + lftW ds bs (k + 1) := by
  unfold lftW
  rw [List.drop_eq_getElem_cons h, List.map_cons, List.sum_cons]
theorem wtB_desc {k : Nat} (h : k + 1 < (wtB ds bs).length) : ((wtB ds bs)[k + 1]).2 ≤ ((wtB ds bs)[k]).2 := by
  have := bst_desc (wtab ds bs) (mxW (wtab ds bs))
  rw [List.pairwise_map] at this
  exact List.pairwise_iff_getElem.mp this k (k + 1) (Nat.lt_of_succ_lt h) h (Nat.lt_succ_self _)
/-- the numbers -/
def nums (ds : List (Bool × Nat)) (bs : List Bool) : List Nat := (List.range ((wtB ds bs).length + 1)).map (lftW ds bs)
theorem nums_len : (nums ds bs).length = (wtB ds bs).length + 1 := by unfold nums; rw [List.length_map, List.length_range]
theorem nums_get {k : Nat} (h : k < (nums ds bs).length) : (nums ds bs)[k] = lftW ds bs k := by simp [nums]
end
theorem at_NI {l : List Nat} {k : Nat} (hk : k < l.length) : atI (NI l) (k : Nat) = some (.int (l[k] : Nat)) := by
  have hl : (NI l).length = l.length := by show (LI _).length = _; rw [List.length_map, List.length_map]
  unfold atI
  rw [hl, ix_nat hk]
  show ((l.map fun v : Nat => (v : Int)).map D.int)[k]? = _
  rw [List.getElem?_map, List.getElem?_map, List.getElem?_eq_getElem hk]; rfl
section
variable {bs : List Bool} (hz : bs.length ≤ 64) {m : Nat} {S : Sto} {ds : List (Bool × Nat)}
include hz in
theorem saved_run {Q : D → Sto → Prop} {X : XQ} (h : lstAt S m = some (BL bs)) (hd : ∀ p ∈ ds, okK bs.length p) (hl : ds.length ≤ 40)
    (q : ∀ g, Q (.lst (NI (nums ds bs))) (S ++ [g, none])) : Rn (m_saved [.lst (ds.map dd), mk m] S) Q X := by
  have hn : ((wtab ds bs).map (·.1)).Nodup := tab_nodup _ _
  have hfl : (wtab ds bs).length ≤ 40 := Nat.le_trans (tab_len _ _) hl
  have hfv : ∀ q ∈ wtab ds bs, q.2 ≤ 100 := fun q hq => by
    rw [tab_val _ _ q.1 q.2 hq]
    exact Nat.le_trans (cnt_le _) (by omega)
  have hbl : (wtB ds bs).length ≤ 40 := by rw [(wtB_perm ds bs).length_eq]; exact hfl
  have hpm := wtB_perm ds bs
  have h0 : lftW ds bs 0 = ((wtab ds bs).map (·.2)).sum := (hpm.map _).sum_nat
  have hstep : ∀ k (hk : k < (wtB ds bs).length), lftW ds bs k = ((wtB ds bs)[k]).2 + lftW ds bs (k + 1) := fun k hk => lftW_step hk
  have hnum : ∀ k, k ≤ (wtB ds bs).length → (nums ds bs).take (k + 1) = (List.range (k + 1)).map (lftW ds bs) := fun k hk => by
    unfold nums
    rw [← List.map_take, List.take_range, Nat.min_eq_left (by omega)]
  have hnl : (nums ds bs).take ((wtB ds bs).length + 1) = nums ds bs := by rw [← nums_len, List.take_length]
  refine s_run ?_
  unfold ms_saved
  refine s_seq <| s_drop <| g_call <| g_cons <| g_var rfl <| g_cons <| g_var rfl <| g_nil <| run_eq (cd_ok hz h hd) ?_
  refine s_seq <| s_asgN <| g_call <| g_cons <| g_var rfl <| g_cons <| g_var rfl <| g_nil ?_
  refine worths_run hz h hd hl fun g => ?_
  obtain ⟨F, hF⟩ : ∃ F, F = wtab ds bs := ⟨_, rfl⟩
  obtain ⟨B, hB⟩ : ∃ B, B = wtB ds bs := ⟨_, rfl⟩
  have hB' : bstW F = B := by rw [hB, hF]
  rw [← hF] at hn hfl hfv hpm h0
  rw [← hB] at hbl hpm
  have hstep' : ∀ k (hk : k < B.length), lftW ds bs k = (B[k]).2 + lftW ds bs (k + 1) := by rw [hB]; exact hstep
  rw [← hB] at hnum hnl
  rw [← hF]
  dsimp only [List.set, startD]
  have hkl : (wk F).length ≤ 16777216 := by unfold wk; rw [List.length_map]; omega
  have hin : ∀ q ∈ B, q ∈ F := fun q hq => hpm.mem_iff.mp hq
  have el : ∀ {v0 v1 v3 v4 v5 : Slot} {S : Sto}, mLc (mIKeysN (mVar 2)) (mGName 5) mYes (mOp opIxN (mVar 2) (mVar 5)) [5] [v0, v1, .val (.fnc (wk F) (wv F)), v3, v4, v5] S = .ok (.lst (LI ((F.map (·.2)).map fun v : Nat => (v : Int)))) S := by
    intro v0 v1 v3 v4 v5 S
    refine rn_eq <| g_lc <| run_eq (iKeysN_e (e_v rfl) hkl) ?_
    unfold wk
    rw [lcl_map (c := fun _ => true) (f := fun q => D.int (q.2 : Nat)) fun q hq => ⟨_, rfl, rfl, fun _ => e_op (e_v rfl) (e_v rfl) (ixW hn hq)⟩]
    refine ⟨?_, rfl⟩
    rw [List.filter_eq_self.mpr fun _ _ => rfl]
    show D.lst _ = D.lst (((F.map (·.2)).map fun v : Nat => (v : Int)).map D.int)
    rw [List.map_map, List.map_map]; rfl
  refine s_seq <| s_asgN <| run_eq (a := .int (lftW ds bs 0 : Nat)) (e_cb (e_cons el e_nil) (rn_eq <| g_sum ⟨by rw [sum_cast, h0], rfl⟩)) ?_
  dsimp only [List.set]
  refine s_seq <| s_asgO <| g_lst <| g_cons <| g_var rfl <| g_nil ?_
  dsimp only [List.set]
  refine s_seq <| s_for <| g_iList <| g_call <| g_cons <| g_var rfl <| g_nil <| run_eq (best_e hn (by omega) hfv) ⟨_, .inl rfl, ?_⟩
  rw [hB']
  obtain ⟨F1, hF1⟩ : ∃ F1, F1 = D.fnc (wk F) (wv F) := ⟨_, rfl⟩
  have hix : ∀ {S : Sto}, ∀ q ∈ B, opIxN F1 (dc q.1) S = .ok (.int (q.2 : Nat)) S := fun q hq => by rw [hF1]; exact ixW hn (hin q hq)
  rw [← hF1]
  refine s_loopL (fun k δ S' => S' = S ++ [g, none] ∧ ∃ v5, δ = [.val (.lst (ds.map dd)), .val (mk m), .val F1, .val (.int (lftW ds bs k : Nat)), .own false (.lst (NI ((nums ds bs).take (k + 1)))), v5]) ⟨rfl, .no, ?_⟩ ?_ ?_
  · rw [hnum 0 (Nat.zero_le _)]; rfl
  · rintro k hk δ _ ⟨rfl, v5, rfl⟩
    have hkb : k < B.length := by rw [List.length_map] at hk; exact hk
    have ex : (B.map fun q => dc q.1)[k] = dc (B[k]).1 := List.getElem_map ..
    rw [ex]
    refine ⟨_, rfl, ?_⟩
    dsimp only [List.set]
    refine s_seq <| s_aug (x := (lftW ds bs k : Nat)) rfl <| run_eq (e_op (e_v rfl) (e_v rfl) (hix _ (List.getElem_mem hkb))) ⟨_, rfl, ?_⟩
    dsimp only [List.set]
    have hs := hstep' k hkb
    rw [show ((lftW ds bs k : Nat) : Int) - ((B[k]).2 : Nat) = (lftW ds bs (k + 1) : Nat) by omega]
    have hll : (NI ((nums ds bs).take (k + 1))).length < 16777216 := by
      show (LI _).length < _
      rw [List.length_map, List.length_map, List.length_take]; omega
    refine s_append rfl <| g_var rfl ⟨hll, rfl, .val (dc (B[k]).1), ?_⟩
    dsimp only [List.set]
    rw [hnum k (by omega), hnum (k + 1) hkb, List.range_succ (n := k + 1), List.map_append, NI_app]; rfl
  · rintro δ _ ⟨rfl, v5, rfl⟩
    dsimp only
    rw [List.length_map, hnl]
    exact s_fixO rfl <| s_ret <| g_var rfl (q g)
end

theorem lst_appT {S T : Sto} {n : Nat} {ds : List D} (h : lstAt S n = some ds) : lstAt (S ++ T) n = some ds := by
  have e := lstAt_some h
  unfold lstAt
  rw [List.getElem?_append_left (List.getElem?_eq_some_iff.mp e).1, e]
section
variable {bs : List Bool} {m p : Nat} {S : Sto} {ds : List (Bool × Nat)}
theorem kept_e (h : lstAt S m = some (BL bs)) (hz : bs.length ≤ 64) {v0 v1 v4 v5 v6 v7 v8 v9 v10 v11 v12 v13 v14 v15 : Slot} : mLc (mIRng1 (mCons (mCB fLen (mCons (mVar 3) mNil)) mNil)) (mGName 14) mYes (mGetZ 0 m_MarksU_getitemU (mVar 2) (mVar 14)) [14] [v0, v1, .val (mk m), .val (.lst (BL bs)), v4, v5, v6, v7, v8, v9, v10, v11, v12, v13, v14, v15] S = .ok (.lst (BL bs)) S := by
  have hbl : (BL bs).length = bs.length := List.length_map ..
  refine rn_eq <| g_lc <| g_rng1 <| g_cons <| g_cb <| g_cons <| g_var rfl <| g_nil <| g_lenL <| g_nil ⟨_, rfl, by omega, by omega, ?_⟩
  rw [Int.toNat_natCast, hbl]
  refine run_eq (lcl_pure (c := fun _ => true) (f := getD_ bs) fun e he => ?_) ?_
  · obtain ⟨i, hi, rfl⟩ := List.mem_map.mp he
    have hi' : i < bs.length := List.mem_range.mp hi
    refine ⟨_, rfl, rfl, fun _ => rn_eq <| g_getZ <| g_var rfl <| g_var rfl ⟨rfl, ?_⟩⟩
    rw [Int.zero_add]
    refine mget_run h rfl (fun z => by rw [int_isAt hi'] at z; cases z) fun j hj e3 => ⟨?_, rfl⟩
    have : j = i := by have := D.int.inj e3; omega
    subst this
    show D.bl bs[j] = D.bl (bs.getD (j : Int).toNat false)
    rw [Int.toNat_natCast, List.getD_eq_getElem?_getD, List.getElem?_eq_getElem hj]; rfl
  · rw [List.filter_eq_self.mpr fun _ _ => rfl, rng_BL]; exact ⟨rfl, rfl⟩
theorem okN_BLs (bs : List Bool) : okN 9 (.lst (BL bs)) = true := (okN_all fun d hd => by obtain ⟨b, _, rfl⟩ := List.mem_map.mp hd; exact okN_bl _ _).1
theorem okN_dds (ds : List (Bool × Nat)) : okN 9 (.lst (ds.map dd)) = true := (okN_all fun d hd => by obtain ⟨b, _, rfl⟩ := List.mem_map.mp hd; exact okN_dd _ _).1
theorem o_neSelf {d : D} (h : okN 9 d = true) (hf : flatD d = false) {S : Sto} : opEq true d d S = .ok (.bl false) S := rn_eq (g_eqD h h hf ⟨by rw [eqD_self]; rfl, rfl⟩)
/-- what the law's comparison looks up -/
theorem at_pad {l : List Nat} {c : Nat} (h0 : 0 < l.length) (f : Nat → Nat) (hl : ∀ k (h : k < l.length), l[k] = f k) (hz : ∀ k, l.length ≤ k + 1 → f k = 0) : ∃ v : Nat, atI (NI l ++ List.replicate 8 (.int 0)) (if (l.length : Int) - 1 < (c : Int) then (l.length : Int) - 1 else (c : Int)) = some (.int (v : Nat)) ∧ v = f c := by
  have hll : (NI l).length = l.length := by show (LI _).length = _; rw [List.length_map, List.length_map]
  obtain ⟨i, hi, hil, hif⟩ : ∃ i : Nat, (if (l.length : Int) - 1 < (c : Int) then (l.length : Int) - 1 else (c : Int)) = (i : Int) ∧ i < l.length ∧ f i = f c := by
    by_cases z : (l.length : Int) - 1 < (c : Int)
    · exact ⟨l.length - 1, by rw [if_pos z]; omega, by omega, by rw [hz _ (by omega), hz c (by omega)]⟩
    · exact ⟨c, if_neg z, by omega, rfl⟩
  refine ⟨l[i], ?_, by rw [hl i hil, hif]⟩
  rw [hi]
  unfold atI
  rw [ix_nat (by rw [List.length_append, hll]; omega)]
  show (NI l ++ List.replicate 8 (D.int 0))[i]? = _
  rw [List.getElem?_append_left (by rw [hll]; exact hil)]
  show ((l.map fun v : Nat => (v : Int)).map D.int)[i]? = _
  rw [List.getElem?_map, List.getElem?_map, List.getElem?_eq_getElem hil]; rfl
theorem right_run (h0 : 1 ≤ bs.length) (h6 : bs.length ≤ 6) (hl : ds.length ≤ 40) (hd : ∀ p ∈ ds, okK bs.length p) (h : lstAt S m = some (BL bs)) (hmp : m ≠ p) (hp : PlS S p) : Rn (m__law_right [.ref p, .lst (ds.map dd), mk m, .lst (BL bs)] S) (fun d _ => d = .bl true) noXQ := by
  have hz : bs.length ≤ 64 := by omega
  have hbl : (BL bs).length = bs.length := List.length_map ..
  have hdl : (ds.map dd).length = ds.length := List.length_map ..
  have hB40 : (wtB ds bs).length ≤ 40 := by rw [(wtB_perm ds bs).length_eq]; exact Nat.le_trans (tab_len _ _) hl
  refine s_run ?_
  unfold ms__law_right
  have est : startD 16 [.ref p, .lst (ds.map dd), mk m, .lst (BL bs)] = [.val (.ref p), .val (.lst (ds.map dd)), .val (mk m), .val (.lst (BL bs)), .no, .no, .no, .no, .no, .no, .no, .no, .no, .no, .no, .no] := rfl
  rw [est]
  refine s_seq <| s_asgN <| g_cb <| g_cons <| g_var rfl <| g_nil <| g_list rfl ?_
  refine s_seq <| s_asgN <| g_call <| g_cons <| g_var rfl <| g_cons <| g_var rfl <| g_nil ?_
  refine saved_run hz h hd hl fun g => ?_
  have h1 := lst_appT (T := [g, none]) h
  have hp1 : PlS (S ++ [g, none]) p := hp.app
  generalize S ++ [g, none] = S1 at h1 hp1
  dsimp only [List.set]
  obtain ⟨N, hN⟩ : ∃ N, N = nums ds bs := ⟨_, rfl⟩
  have hNl : N.length = (wtB ds bs).length + 1 := by rw [hN]; exact nums_len
  have hNg : ∀ k (hk : k < N.length), N[k] = lftW ds bs k := fun k hk => by subst hN; exact nums_get hk
  rw [← hN]
  have hNIl : (NI N).length = N.length := by show (LI _).length = _; rw [List.length_map, List.length_map]
  refine s_seq <| if_f (or_f (t_test (e_op (e_v rfl) (e_v rfl) (o_neSelf (okN_dds ds) rfl))) (t_test (e_op (kept_e h1 hz) (e_v rfl) (o_neSelf (okN_BLs bs) rfl)))) ?_
  dsimp only
  refine s_seq <| s_asgN <| g_call <| g_cons <| g_var rfl <| g_cons <| g_var rfl <| g_nil <| run_eq (lworths_e h6 hl) ?_
  dsimp only [List.set]
  have hW : lwR ds bs = ((wtB ds bs).map (·.2)).map fun v : Nat => (v : Int) := lwR_e hd
  have hWl : (LI (lwR ds bs)).length = (wtB ds bs).length := by show (LI _).length = _; rw [List.length_map, hW, List.length_map, List.length_map]
  have hsum : ∀ k : Nat, ((lwR ds bs).drop k).sum = ((lftW ds bs k : Nat) : Int) := fun k => by
    rw [hW, ← List.map_drop, ← List.map_drop, sum_cast]; rfl
  clear hW
  generalize lwR ds bs = W at hWl hsum ⊢
  have elc : ∀ {v0 v1 v2 v3 v4 v5 v7 v8 v9 v10 v11 v12 v13 v14 v15 : Slot} {S : Sto}, mLc (mIRng1 (mCons (mOp opPlus (mCB fLen (mCons (mVar 6) mNil)) (mC (.int 1))) mNil)) (mGName 7) mYes (mCB fSum (mCons (mSl slL (mVar 6) (mPart (mVar 7)) mNoPart) mNil)) [7] [v0, v1, v2, v3, v4, v5, .val (.lst (LI W)), v7, v8, v9, v10, v11, v12, v13, v14, v15] S = .ok (.lst (NI N)) S := by
    intro v0 v1 v2 v3 v4 v5 v7 v8 v9 v10 v11 v12 v13 v14 v15 S
    have er : mIRng1 (mCons (mOp opPlus (mCB fLen (mCons (mVar 6) mNil)) (mC (.int 1))) mNil) [v0, v1, v2, v3, v4, v5, .val (.lst (LI W)), v7, v8, v9, v10, v11, v12, v13, v14, v15] S = .ok (rngD 0 ((LI W).length + 1)) S := by
      refine rn_eq ?_
      with_reducible refine g_rng1 ?_
      refine run_eq (e_cons (x := .int (((LI W).length + 1 : Nat) : Int)) (e_op (e_cb (e_cons (e_v rfl) e_nil) (rn_eq (g_lenL ⟨rfl, rfl⟩))) e_c (rn_eq (g_plusI ⟨congrArg D.int (by omega), rfl⟩))) e_nil) ⟨_, rfl, by omega, by omega, ?_⟩
      rw [Int.toNat_natCast]
      exact ⟨rfl, rfl⟩
    refine rn_eq ?_
    with_reducible refine g_lc ?_
    with_reducible refine run_eq er ?_
    rw [rng0, lcl_map (c := fun _ => true) (f := fun k : Nat => D.int ((lftW ds bs k : Nat) : Int)) fun k hk => ⟨_, rfl, rfl, fun _ => ?_⟩]
    · refine ⟨?_, rfl⟩
      rw [List.filter_eq_self.mpr fun _ _ => rfl, hWl]
      subst hN
      show D.lst _ = D.lst (LI ((nums ds bs).map fun v : Nat => (v : Int)))
      unfold nums LI
      rw [List.map_map, List.map_map]; rfl
    · refine e_cb (e_cons (x := .lst (LI (W.drop k))) ?_ e_nil) (rn_eq <| g_sum ⟨by rw [hsum], rfl⟩)
      refine rn_eq <| g_sl <| g_var rfl <| g_part <| g_var rfl ⟨_, rfl, g_nopart ?_⟩
      refine run_eq (a := .lst ((LI W).drop k)) (S := S) ?_ ⟨by rw [← List.map_drop], rfl⟩
      show Out.ok (D.lst (cutD (LI W) (some (k : Int)) none)) S = _
      rw [cut_drop0]
  have oNN : ∀ {S : Sto}, opEq true (.lst (NI N)) (.lst (NI N)) S = .ok (.bl false) S := fun {S} => o_neSelf (okN_LI _ 8).1 rfl
  have et : ∀ {v0 v1 v2 v3 v4 v7 v8 v9 v10 v11 v12 v13 v14 v15 : Slot} {S : Sto}, mTest (mOp (opEq true) (mVar 5) (mLc (mIRng1 (mCons (mOp opPlus (mCB fLen (mCons (mVar 6) mNil)) (mC (.int 1))) mNil)) (mGName 7) mYes (mCB fSum (mCons (mSl slL (mVar 6) (mPart (mVar 7)) mNoPart) mNil)) [7])) [v0, v1, v2, v3, v4, .val (.lst (NI N)), .val (.lst (LI W)), v7, v8, v9, v10, v11, v12, v13, v14, v15] S = .ok false S := by
    intro v0 v1 v2 v3 v4 v7 v8 v9 v10 v11 v12 v13 v14 v15 S
    exact t_test (e_op (x := .lst (NI N)) (e_v rfl) elc oNN)
  with_reducible refine s_seq ?_
  with_reducible refine if_f et ?_
  dsimp only
  have h1N : 1 ≤ N.length := by omega
  obtain ⟨xs, hxs⟩ : ∃ xs, xs = ds.map dd := ⟨_, rfl⟩
  rw [← hxs] at hdl ⊢
  refine s_seq <| s_for <| g_rng1 <| g_cons <| g_cb <| g_cons <| g_var rfl <| g_nil <| g_lenL <| g_nil ⟨_, rfl, by omega, by omega, ?_⟩
  rw [Int.toNat_natCast, hNIl]
  refine s_loopR (fun k δ S' => lstAt S' m = some (BL bs) ∧ PlS S' p ∧ ∃ v7 v8 v9, δ = [.val (.ref p), .val (.lst xs), .val (mk m), .val (.lst (BL bs)), .val (.lst xs), .val (.lst (NI N)), .val (.lst (LI W)), v7, v8, v9, .no, .no, .no, .no, .no, .no]) ⟨h1, hp1, .no, .no, .no, rfl⟩ ?_ ?_
  · rintro k hk δ S2 ⟨h2, hp2, v7, v8, v9, rfl⟩
    refine ⟨_, rfl, ?_⟩
    rw [Int.zero_add]
    dsimp only [List.set]
    refine s_seq <| s_ifS <| g_test <| g_op <| g_op <| g_call <| g_cons <| g_var rfl <| g_cons <| g_var rfl <| g_cons <| g_var rfl <| g_nil ?_
    rw [hxs]
    refine least_run hz h2 hd hl fun L g ha hpm => ?_
    rw [← hxs]
    have h3 := lst_appT (T := [g, none, none]) h2
    have hp3 : PlS (S2 ++ [g, none, none]) p := hp2.app
    generalize S2 ++ [g, none, none] = S3 at h3 hp3
    refine g_c <| g_ixT rfl <| g_op <| g_var rfl <| g_var rfl <| g_ix (ds := NI N) rfl (at_NI hk) <| g_neI <| g_bl ?_
    rw [hNg k hk, decide_eq_true rfl]
    refine g_F <| s_next ?_
    dsimp only
    have hk1 : k - 1 < N.length := by omega
    have em : ∀ {δ : MR.Env}, δ[7]? = some (.val (.int (k : Nat))) → mCB fMx2 (mCons (mC (.int 0)) (mCons (mOp opMinus (mVar 7) (mC (.int 1))) mNil)) δ S3 = .ok (.int ((k - 1 : Nat) : Int)) S3 := fun {δ} hv => by
      refine e_cb (e_cons e_c (e_cons (e_op (e_v hv) e_c (rn_eq (g_minus ⟨rfl, rfl⟩))) e_nil)) ?_
      show Out.ok (D.int (if (k : Int) - 1 > 0 then (k : Int) - 1 else 0)) S3 = _
      by_cases z : (k : Int) - 1 > 0
      · rw [if_pos z, show (k : Int) - 1 = ((k - 1 : Nat) : Int) by omega]
      · rw [if_neg z, show (0 : Int) = ((k - 1 : Nat) : Int) by omega]
    refine s_seq <| s_par (e_cons (e_ixL (e_v rfl) (e_v rfl) (at_NI hk)) (e_cons (e_ixL (e_v rfl) (em rfl) (at_NI hk1)) e_nil)) ?_
    rw [hNg k hk, hNg _ hk1]
    dsimp only [List.set]
    have ht : ∀ {δ : MR.Env}, δ[5]? = some (.val (.lst (NI N))) → δ[7]? = some (.val (.int (k : Nat))) → δ[8]? = some (.val (.int (lftW ds bs k : Nat))) → δ[9]? = some (.val (.int (lftW ds bs (k - 1) : Nat))) → mAnd (mTest (mOp opMore (mVar 7) (mC (.int 1)))) (mTest (mOp opLess (mOp opMinus (mOp opIx (mVar 5) (mOp opMinus (mVar 7) (mC (.int 2)))) (mVar 9)) (mOp opMinus (mVar 9) (mVar 8)))) δ S3 = .ok false S3 := fun {δ} g5 g7 g8 g9 => by
      have hm : mTest (mOp opMore (mVar 7) (mC (.int 1))) δ S3 = .ok (decide (1 < (k : Int))) S3 := t_test (e_op (e_v g7) e_c (rn_eq (g_more ⟨rfl, rfl⟩)))
      refine (t_and (b := false) hm fun y => ?_).trans (by rw [Bool.and_false])
      have hk2 : 1 < k := by have := of_decide_eq_true y; omega
      have hk3 : k - 2 < N.length := by omega
      have e7 : mOp opMinus (mVar 7) (mC (.int 2)) δ S3 = .ok (.int ((k - 2 : Nat) : Int)) S3 := e_op (e_v g7) e_c (rn_eq (g_minus ⟨congrArg D.int (by omega), rfl⟩))
      have e8 : mOp opIx (mVar 5) (mOp opMinus (mVar 7) (mC (.int 2))) δ S3 = .ok (.int (lftW ds bs (k - 2) : Nat)) S3 := by
        have := e_ixL (e_v g5) e7 (at_NI hk3)
        rw [hNg _ hk3] at this
        exact this
      refine t_test (e_op (e_op e8 (e_v g9) (rn_eq (g_minus ⟨rfl, rfl⟩))) (e_op (e_v g9) (e_v g8) (rn_eq (g_minus ⟨rfl, rfl⟩))) ?_)
      show Out.ok (D.bl (decide (((lftW ds bs (k - 2) : Nat) : Int) - (lftW ds bs (k - 1) : Nat) < ((lftW ds bs (k - 1) : Nat) : Int) - (lftW ds bs k : Nat)))) S3 = _
      have s1 := lftW_step (ds := ds) (bs := bs) (k := k - 2) (by omega)
      have s2 := lftW_step (ds := ds) (bs := bs) (k := k - 1) (by omega)
      have s3 := wtB_desc (ds := ds) (bs := bs) (k := k - 2) (by omega)
      have x1 : k - 2 + 1 = k - 1 := by omega
      have x2 : k - 1 + 1 = k := by omega
      simp only [x1] at s1 s3
      simp only [x2] at s2
      rw [decide_eq_false (by omega)]
    exact if_f (ht rfl rfl rfl rfl) ⟨h3, hp3, _, _, _, rfl⟩
  · rintro δ S2 ⟨h2, hp2, v7, v8, v9, rfl⟩
    dsimp only
    have hat : ∀ {k : Nat} (hk : k < ds.length) (S : Sto), opIx (.lst xs) (.int k) S = .ok (dd ds[k]) S := fun hk S => by rw [hxs]; exact at_dd hk S
    refine s_seq <| s_asgO <| g_lst <| g_cons <| run_eq (a := dc (0, 0)) rfl <| g_nil ?_
    dsimp only [List.set]
    refine s_seq <| s_for <| g_rng1 <| g_cons <| g_cb <| g_cons <| g_var rfl <| g_nil <| g_lenL <| g_nil ⟨_, rfl, by omega, by omega, ?_⟩
    rw [Int.toNat_natCast, hdl]
    refine s_loopR (fun k δ S' => S' = S2 ∧ ∃ (ws : List (Nat × Nat)) (v11 : Slot), ws.length ≤ k + 1 ∧ 0 < ws.length ∧ (∀ c ∈ ws, okC bs.length ds.length c) ∧ δ = [.val (.ref p), .val (.lst xs), .val (mk m), .val (.lst (BL bs)), .val (.lst xs), .val (.lst (NI N)), .val (.lst (LI W)), v7, v8, v9, .own false (.lst (ws.map dc)), v11, .no, .no, .no, .no]) ⟨rfl, [(0, 0)], .no, Nat.le_refl _, Nat.one_pos, fun c hc => by rw [List.mem_singleton.mp hc]; exact ⟨Nat.zero_le _, h0⟩, rfl⟩ ?_ ?_
    · rintro k hk δ S' ⟨rfl, ws, v11, hw1, hw2, hw3, rfl⟩
      refine ⟨_, rfl, ?_⟩
      rw [Int.zero_add]
      dsimp only [List.set]
      have hok := hd ds[k] (List.getElem_mem hk)
      have hatk := hat hk S'
      obtain ⟨⟨w, q⟩, hwq⟩ : ∃ r, r = ds[k] := ⟨_, rfl⟩
      rw [← hwq] at hok hatk
      have e0 : ∀ {δ : MR.Env}, δ[1]? = some (.val (.lst xs)) → δ[11]? = some (.val (.int (k : Nat))) → mOp opIx (mOp opIx (mVar 1) (mVar 11)) (mC (.int 0)) δ S' = .ok (.str (wS w)) S' := fun h1 h2 => e_op (e_op (e_v h1) (e_v h2) hatk) e_c (rn_eq <| g_ixT (e := .str (wS w)) rfl ⟨rfl, rfl⟩)
      have e1 : ∀ {δ : MR.Env}, δ[1]? = some (.val (.lst xs)) → δ[11]? = some (.val (.int (k : Nat))) → mOp opIx (mOp opIx (mVar 1) (mVar 11)) (mC (.int 1)) δ S' = .ok (.int (q : Nat)) S' := fun h1 h2 => e_op (e_op (e_v h1) (e_v h2) hatk) e_c (rn_eq <| g_ixT (e := .int (q : Nat)) rfl ⟨rfl, rfl⟩)
      refine s_if (t_test (e_op (e0 rfl rfl) e_c o_eqS)) (fun _ => ?_) fun _ => ?_
      · refine s_append rfl <| run_eq (a := dc (k + 1, q)) (e_tup (e_cons (e_op (e_v rfl) e_c (rn_eq <| g_plusI ⟨rfl, rfl⟩)) (e_cons (e1 rfl rfl) e_nil))) ⟨by rw [List.length_map]; omega, rfl, ws ++ [(k + 1, q)], .val (.int (k : Nat)), by rw [List.length_append, List.length_singleton]; omega, by rw [List.length_append, List.length_singleton]; omega, ?_, ?_⟩
        · intro c hc
          rcases List.mem_append.mp hc with z | z
          · exact hw3 c z
          · rw [List.mem_singleton.mp z]; exact ⟨hk, hok⟩
        · rw [List.map_append]; rfl
      · exact s_next ⟨rfl, ws, _, by omega, hw2, hw3, rfl⟩
    · rintro δ _ ⟨rfl, ws, v11, hw1, hw2, hw3, rfl⟩
      dsimp only
      have hwl : (ws.map dc).length = ws.length := List.length_map ..
      refine s_seq <| s_for <| g_rng1 <| g_cons <| g_c <| g_nil ⟨12, rfl, by decide, by decide, ?_⟩
      refine s_loopR (fun k δ S' => lstAt S' m = some (BL bs) ∧ PlS S' p ∧ ∃ v12 v13 v14 v15, δ = [.val (.ref p), .val (.lst xs), .val (mk m), .val (.lst (BL bs)), .val (.lst xs), .val (.lst (NI N)), .val (.lst (LI W)), v7, v8, v9, .own false (.lst (ws.map dc)), v11, v12, v13, v14, v15]) ⟨h2, hp2, .no, .no, .no, .no, rfl⟩ ?_ ?_
      · rintro k hk δ S3 ⟨h3, hp3, v12, v13, v14, v15, rfl⟩
        refine ⟨_, rfl, ?_⟩
        dsimp only [List.set]
        refine s_seq <| s_asgO <| g_lc <| g_rng1 <| g_cons <| g_call <| g_cons <| g_var rfl <| g_cons <| g_c <| g_nil ?_
        refine take_run hp3 (by decide) (by decide) fun t S4 t0 t1 hp4 ne4 => ?_
        refine g_nil ⟨t, rfl, t0, by omega, ?_⟩
        have h4 := ne4.lst hmp h3
        refine run_mono (lcl_rel (fun _ y => ∃ c, okC bs.length ds.length c ∧ y = dc c) (fun S => PlS S p ∧ lstAt S m = some (BL bs)) ⟨hp4, h4⟩ fun d _ S ⟨hp, hl⟩ => ?_) (fun ys S5 ⟨hyl, hyr, hp5, h5⟩ => ?_) fun _ _ _ _ z => z
        · refine ⟨_, rfl, g_yes ⟨rfl, ?_⟩⟩
          refine g_op <| g_peekO rfl <| g_call <| g_cons <| g_var rfl <| g_cons <| g_cb <| g_cons <| g_peekO rfl <| g_nil <| g_lenL <| g_nil ?_
          rw [hwl]
          refine take_run hp (by omega) (by omega) fun a S6 a0 a1 hp6 ne6 => ?_
          obtain ⟨a', rfl⟩ := Int.eq_ofNat_of_zero_le a0
          have ha : a' < ws.length := by omega
          exact g_ix (ds := ws.map dc) rfl (at_dc ha) ⟨⟨ws[a'], hw3 _ (List.getElem_mem ha), rfl⟩, hp6, ne6.lst hmp hl⟩
        obtain ⟨cs, rfl, hc⟩ := all_of (rel_all hyl hyr)
        have hcl : cs.length ≤ 6 := by
          have e : (rngD 0 t.toNat).length = t.toNat := by simp [rngD]
          rw [e, List.length_map] at hyl; omega
        clear hyl hyr
        dsimp only [List.set]
        refine s_seq <| s_cut (fun δ S' => ∃ cs : List (Nat × Nat), cs.length ≤ 7 ∧ (∀ c ∈ cs, okC bs.length ds.length c) ∧ lstAt S' m = some (BL bs) ∧ PlS S' p ∧ δ = [.val (.ref p), .val (.lst xs), .val (mk m), .val (.lst (BL bs)), .val (.lst xs), .val (.lst (NI N)), .val (.lst (LI W)), v7, v8, v9, .own false (.lst (ws.map dc)), v11, .val (.int (0 + (k : Int))), .own false (.lst (cs.map dc)), v14, v15]) ?_ ?_
        · refine s_ifS <| g_test <| g_op <| g_call <| g_cons <| g_var rfl <| g_cons <| g_c <| g_nil ?_
          refine take_run hp5 (by decide) (by decide) fun u S6 _ _ hp6 ne6 => ?_
          have h6' := ne6.lst hmp h5
          refine g_c <| g_eqI <| g_bl ?_
          cases decide (u = 0) with
          | false => exact g_F <| s_next ⟨cs, by omega, hc, h6', hp6, rfl⟩
          | true =>
            refine g_T <| s_append rfl <| g_tup <| g_cons <| g_call <| g_cons <| g_var rfl <| g_cons <| g_op <| g_cb <| g_cons <| g_var rfl <| g_nil <| g_lenL <| g_c <| g_plusI <| g_nil ?_
            rw [hdl]
            refine take_run hp6 (by omega) (by omega) fun a S7 a0 a1 hp7 ne7 => ?_
            refine g_cons <| g_call <| g_cons <| g_var rfl <| g_cons <| g_cb <| g_cons <| g_var rfl <| g_nil <| g_lenL <| g_nil ?_
            rw [hbl]
            refine take_run hp7 (by omega) (by omega) fun b S8 b0 b1 hp8 ne8 => ?_
            obtain ⟨a', rfl⟩ := Int.eq_ofNat_of_zero_le a0
            obtain ⟨b', rfl⟩ := Int.eq_ofNat_of_zero_le b0
            refine g_nil ⟨by rw [List.length_map]; omega, cs ++ [(a', b')], by rw [List.length_append, List.length_singleton]; omega, ?_, ne8.lst hmp (ne7.lst hmp h6'), hp8, ?_⟩
            · intro c hc'
              rcases List.mem_append.mp hc' with z | z
              · exact hc c z
              · rw [List.mem_singleton.mp z]; exact ⟨by show a' ≤ _; omega, by show b' < _; omega⟩
            · rw [List.map_append]; rfl
        · rintro δ S6 ⟨cs, hcl, hc, h6', hp6, rfl⟩
          dsimp only
          have hcm : (cs.map dc).length = cs.length := List.length_map ..
          have ele := looks_e hz h0 h6' hd hc
          have hle := lk_least (ds := ds) (bs := bs) hd cs
          rw [← hxs] at ele
          have h7 := lst_appT (T := [some (D.lst (BL (lk ds cs bs ds.length).1))]) h6'
          have hp7 : PlS (S6 ++ [some (D.lst (BL (lk ds cs bs ds.length).1))]) p := hp6.app
          generalize (lk ds cs bs ds.length).2 = ct at ele hle
          generalize S6 ++ [some (D.lst (BL (lk ds cs bs ds.length).1))] = S7 at ele h7 hp7
          refine s_fixO rfl ?_
          dsimp only [List.set]
          refine s_ifS <| g_test <| g_op <| g_call <| g_cons <| g_var rfl <| g_cons <| g_var rfl <| g_cons <| g_var rfl <| g_nil <| run_to ele ?_
          obtain ⟨v, hv1, hv2⟩ := at_pad (l := N) (c := cs.length) (by omega) (lftW ds bs) hNg fun k hk => lftW_zero (by omega)
          refine g_op <| g_op <| g_var rfl <| run_eq (a := .lst (List.replicate 8 (.int 0))) rfl <| g_catL (by rw [hNIl, List.length_replicate]; omega) ?_
          refine g_cb <| g_cons <| g_cb <| g_cons <| g_peekV rfl <| g_nil <| g_lenL <| g_cons <| g_op <| g_cb <| g_cons <| g_var rfl <| g_nil <| g_lenL <| g_c <| g_minus <| g_nil ?_
          rw [hcm, hNIl]
          refine run_eq (a := .int (if (N.length : Int) - 1 < (cs.length : Int) then (N.length : Int) - 1 else (cs.length : Int))) rfl ?_
          refine g_ix (ds := NI N ++ List.replicate 8 (.int 0)) rfl hv1 <| g_less <| g_bl ?_
          rw [hv2, decide_eq_false (by omega)]
          exact g_F <| s_next ⟨h7, hp7, _, _, _, _, rfl⟩
      · rintro δ S3 _
        dsimp only
        with_reducible refine s_ret ?_
        exact g_c rfl
end
theorem law_ok (ns : List Int) : ∃ S, m_law [.scr ns] [] = .ok (.bl true) S := by
  have h : Rn (m_law [.scr ns] []) (fun d _ => d = .bl true) noXQ := by
    refine s_run ?_
    unfold ms_law
    have hm : (LI ns).length = ns.length := List.length_map ..
    refine s_seq <| s_for <| g_rng1 <| g_cons <| g_cb <| g_cons <| g_c <| g_cons <| g_cb <| g_cons <| g_c <| g_cons <| g_cb <| g_cons <| g_var rfl <| g_nil <| g_len (ds := LI ns) rfl (fun b z => nomatch z) rfl <| g_nil ?_
    refine run_eq (a := .int (if ((LI ns).length : Int) < 6 then ((LI ns).length : Int) else 6)) rfl <| g_nil ?_
    obtain ⟨N, hN⟩ : ∃ N : Int, N = (if ((LI ns).length : Int) < 6 then ((LI ns).length : Int) else 6) := ⟨_, rfl⟩
    have hN2 : N ≤ 6 := by rw [hN]; split <;> omega
    rw [← hN]
    refine run_eq (a := .int (if N > 1 then N else 1)) rfl <| g_nil ⟨_, rfl, by split <;> omega, by split <;> omega, ?_⟩
    have hT : (if N > 1 then N else 1).toNat ≤ 6 := by split <;> omega
    generalize (if N > 1 then N else 1).toNat = T at hT
    refine s_loopR (fun k δ S' => ∃ v1 v2 v3 v4 v5, δ = [.val (.scr ns), v1, v2, v3, v4, v5]) ⟨_, _, _, _, _, rfl⟩ ?_ ?_
    · rintro k hk δ S ⟨v1, v2, v3, v4, v5, rfl⟩
      refine ⟨_, rfl, ?_⟩
      rw [Int.zero_add]
      dsimp only [List.set]
      refine s_seq <| s_asgN <| g_call <| g_cons <| g_var rfl <| g_cons <| g_var rfl <| g_nil ?_
      refine pool_run (by omega) (by omega) fun S1 hp1 _ => ?_
      dsimp only [List.set]
      refine s_seq <| s_asg <| g_call <| g_cons <| g_var rfl <| g_nil ?_
      refine deeds_run hp1 fun ds bs m S2 h1 h6 h40 hd hl hmp hp2 => ⟨_, rfl, ?_⟩
      dsimp only
      obtain ⟨d, S3, er, rfl⟩ := run_ok (right_run h1 h6 h40 hd hl hmp hp2)
      refine s_ifS <| g_not <| g_test <| g_call <| g_cons <| g_var rfl <| g_cons <| g_var rfl <| g_cons <| g_var rfl <| g_cons <| g_var rfl <| g_nil <| run_to er ⟨true, rfl, g_F <| s_next ⟨_, _, _, _, _, rfl⟩⟩
    · rintro δ S _
      with_reducible refine s_ret ?_
      exact g_c rfl
  obtain ⟨d, S, e, rfl⟩ := run_ok h
  exact ⟨S, e⟩

end
end Law
namespace Law
open PySem PySem.Spec PyProof.Rows L2 TP MR
section
variable {P : Program} {w : World} {K : PySem.W.Frag} {mg : Str → Option Value} {base : Heap}
def sp_law (K : PySem.W.Frag) : Sp := fun vs H Q _ => ∃ (a : Addr) (ns : List Int), vs = [.ref a] ∧ SqL K H a (ns.map V.int) ∧ ns.length ≤ 63 ∧ ∀ H', Q (.bl true) H'
theorem all_mk {l : PySem.W.OpenLaw} {w : World} {K : PySem.W.Frag} {h : Heap} {mg : Str → Option Value} {fa : Addr} (X : K.In h) (G : h.Ns mainGlobals mg) (hfa : mg "law" = some (.ref fa))
    {a_Marks : Addr}
    {a_BadMarks : Addr}
    {a_BadDeed : Addr}
    {t_MOST_PAGES : Tok}
    {nm_BadMarks q_BadMarks : Str} {N_BadMarks : Addr} {bs_BadMarks bm_BadMarks : List Value} {sn_BadMarks : List Str} {sub_BadMarks : List Value} {ab_BadMarks : Bool} {col_BadMarks : Option Bool} {dd_BadMarks : Option Addr} {k0_BadMarks k1_BadMarks k2_BadMarks k3_BadMarks k5_BadMarks : Option Value}
    {fi_BadMarks : Addr}
    {oc_BadMarks kV_BadMarks dc_BadMarks pm_BadMarks ct_BadMarks : Value} {od_BadMarks an_BadMarks : Option Addr} {cda_BadMarks cc_BadMarks : Addr} {sl_BadMarks : Array (Option Value)} {ccl_BadMarks : Value} {cdd_BadMarks : Option Addr} {vs_BadMarks : Array Value} {ccs_BadMarks : Array (Option Value)} {file_BadMarks : Str} {tf_BadMarks : Tok} {cl_BadMarks : Value} {cld_BadMarks : Option Addr} {csl_BadMarks : Array (Option Value)}
    {nm_BadDeed q_BadDeed : Str} {N_BadDeed : Addr} {bs_BadDeed bm_BadDeed : List Value} {sn_BadDeed : List Str} {sub_BadDeed : List Value} {ab_BadDeed : Bool} {col_BadDeed : Option Bool} {dd_BadDeed : Option Addr} {k0_BadDeed k1_BadDeed k2_BadDeed k3_BadDeed k5_BadDeed : Option Value}
    {fi_BadDeed : Addr}
    {oc_BadDeed kV_BadDeed dc_BadDeed pm_BadDeed ct_BadDeed : Value} {od_BadDeed an_BadDeed : Option Addr} {cda_BadDeed cc_BadDeed : Addr} {sl_BadDeed : Array (Option Value)} {ccl_BadDeed : Value} {cdd_BadDeed : Option Addr} {vs_BadDeed : Array Value} {ccs_BadDeed : Array (Option Value)} {file_BadDeed : Str} {tf_BadDeed : Tok} {cl_BadDeed : Value} {cld_BadDeed : Option Addr} {csl_BadDeed : Array (Option Value)}
    {f_is_integer : Addr} {od_is_integer an_is_integer : Option Addr} {sl_is_integer : Array (Option Value)} {oc_is_integer kV_is_integer dc_is_integer pm_is_integer cd_is_integer ct_is_integer : Value}
    {f_is_many : Addr} {od_is_many an_is_many : Option Addr} {sl_is_many : Array (Option Value)} {oc_is_many kV_is_many dc_is_many pm_is_many cd_is_many ct_is_many : Value}
    {f_MarksU_initU : Addr} {od_MarksU_initU an_MarksU_initU : Option Addr} {sl_MarksU_initU : Array (Option Value)} {oc_MarksU_initU kV_MarksU_initU dc_MarksU_initU pm_MarksU_initU cd_MarksU_initU ct_MarksU_initU : Value}
    {dT_MarksU_initU : Addr} {dO_MarksU_initU : Obj} {dN_MarksU_initU : Nat}
    {f_Marks_check : Addr} {od_Marks_check an_Marks_check : Option Addr} {sl_Marks_check : Array (Option Value)} {oc_Marks_check kV_Marks_check dc_Marks_check pm_Marks_check cd_Marks_check ct_Marks_check : Value}
    {f_MarksU_getitemU : Addr} {od_MarksU_getitemU an_MarksU_getitemU : Option Addr} {sl_MarksU_getitemU : Array (Option Value)} {oc_MarksU_getitemU kV_MarksU_getitemU dc_MarksU_getitemU pm_MarksU_getitemU cd_MarksU_getitemU ct_MarksU_getitemU : Value}
    {f_MarksU_setitemU : Addr} {od_MarksU_setitemU an_MarksU_setitemU : Option Addr} {sl_MarksU_setitemU : Array (Option Value)} {oc_MarksU_setitemU kV_MarksU_setitemU dc_MarksU_setitemU pm_MarksU_setitemU cd_MarksU_setitemU ct_MarksU_setitemU : Value}
    {f_MarksU_lenU : Addr} {od_MarksU_lenU an_MarksU_lenU : Option Addr} {sl_MarksU_lenU : Array (Option Value)} {oc_MarksU_lenU kV_MarksU_lenU dc_MarksU_lenU pm_MarksU_lenU cd_MarksU_lenU ct_MarksU_lenU : Value}
    {f_marks_of : Addr} {od_marks_of an_marks_of : Option Addr} {sl_marks_of : Array (Option Value)} {oc_marks_of kV_marks_of dc_marks_of pm_marks_of cd_marks_of ct_marks_of : Value}
    {f_Marks_twin : Addr} {od_Marks_twin an_Marks_twin : Option Addr} {sl_Marks_twin : Array (Option Value)} {oc_Marks_twin kV_Marks_twin dc_Marks_twin pm_Marks_twin cd_Marks_twin ct_Marks_twin : Value}
    {f_is_page : Addr} {od_is_page an_is_page : Option Addr} {sl_is_page : Array (Option Value)} {oc_is_page kV_is_page dc_is_page pm_is_page cd_is_page ct_is_page : Value}
    {f_check_deeds : Addr} {od_check_deeds an_check_deeds : Option Addr} {sl_check_deeds : Array (Option Value)} {oc_check_deeds kV_check_deeds dc_check_deeds pm_check_deeds cd_check_deeds ct_check_deeds : Value}
    {f_check_cleanings : Addr} {od_check_cleanings an_check_cleanings : Option Addr} {sl_check_cleanings : Array (Option Value)} {oc_check_cleanings kV_check_cleanings dc_check_cleanings pm_check_cleanings cd_check_cleanings ct_check_cleanings : Value}
    {f_looks : Addr} {od_looks an_looks : Option Addr} {sl_looks : Array (Option Value)} {oc_looks kV_looks dc_looks pm_looks cd_looks ct_looks : Value}
    {f_place_for : Addr} {od_place_for an_place_for : Option Addr} {sl_place_for : Array (Option Value)} {oc_place_for kV_place_for dc_place_for pm_place_for cd_place_for ct_place_for : Value}
    {f_arranged : Addr} {od_arranged an_arranged : Option Addr} {sl_arranged : Array (Option Value)} {oc_arranged kV_arranged dc_arranged pm_arranged cd_arranged ct_arranged : Value}
    {f_worths : Addr} {od_worths an_worths : Option Addr} {sl_worths : Array (Option Value)} {oc_worths kV_worths dc_worths pm_worths cd_worths ct_worths : Value}
    {f_best_first : Addr} {od_best_first an_best_first : Option Addr} {sl_best_first : Array (Option Value)} {oc_best_first kV_best_first dc_best_first pm_best_first cd_best_first ct_best_first : Value}
    {f_least_looks : Addr} {od_least_looks an_least_looks : Option Addr} {sl_least_looks : Array (Option Value)} {oc_least_looks kV_least_looks dc_least_looks pm_least_looks cd_least_looks ct_least_looks : Value}
    {f_saved : Addr} {od_saved an_saved : Option Addr} {sl_saved : Array (Option Value)} {oc_saved kV_saved dc_saved pm_saved cd_saved ct_saved : Value}
    {f__law_pool : Addr} {od__law_pool an__law_pool : Option Addr} {sl__law_pool : Array (Option Value)} {oc__law_pool kV__law_pool dc__law_pool pm__law_pool cd__law_pool ct__law_pool : Value}
    {f__law_take : Addr} {od__law_take an__law_take : Option Addr} {sl__law_take : Array (Option Value)} {oc__law_take kV__law_take dc__law_take pm__law_take cd__law_take ct__law_take : Value}
    {f__law_deeds : Addr} {od__law_deeds an__law_deeds : Option Addr} {sl__law_deeds : Array (Option Value)} {oc__law_deeds kV__law_deeds dc__law_deeds pm__law_deeds cd__law_deeds ct__law_deeds : Value}
    {f__law_worths : Addr} {od__law_worths an__law_worths : Option Addr} {sl__law_worths : Array (Option Value)} {oc__law_worths kV__law_worths dc__law_worths pm__law_worths cd__law_worths ct__law_worths : Value}
    {f__law_right : Addr} {od__law_right an__law_right : Option Addr} {sl__law_right : Array (Option Value)} {oc__law_right kV__law_right dc__law_right pm__law_right cd__law_right ct__law_right : Value}
    {f_law : Addr} {od_law an_law : Option Addr} {sl_law : Array (Option Value)} {oc_law kV_law dc_law pm_law cd_law ct_law : Value}
    (x_Marks : PySem.W.nsIn K mainGlobals "Marks" = some (some (.ref a_Marks)))
    (x_BadMarks : PySem.W.nsIn K mainGlobals "BadMarks" = some (some (.ref a_BadMarks)))
    (x_BadDeed : PySem.W.nsIn K mainGlobals "BadDeed" = some (some (.ref a_BadDeed)))
    (z_len : PySem.W.nsIn K mainGlobals "len" = some none)
    (z_isinstance : PySem.W.nsIn K mainGlobals "isinstance" = some none)
    (z_int : PySem.W.nsIn K mainGlobals "int" = some none)
    (z_bool : PySem.W.nsIn K mainGlobals "bool" = some none)
    (z_range : PySem.W.nsIn K mainGlobals "range" = some none)
    (z_list : PySem.W.nsIn K mainGlobals "list" = some none)
    (z_enumerate : PySem.W.nsIn K mainGlobals "enumerate" = some none)
    (z_tuple : PySem.W.nsIn K mainGlobals "tuple" = some none)
    (z_str : PySem.W.nsIn K mainGlobals "str" = some none)
    (z_max : PySem.W.nsIn K mainGlobals "max" = some none)
    (z_min : PySem.W.nsIn K mainGlobals "min" = some none)
    (z_sum : PySem.W.nsIn K mainGlobals "sum" = some none)
    (z_sorted : PySem.W.nsIn K mainGlobals "sorted" = some none)
    (x_MOST_PAGES : PySem.W.nsIn K mainGlobals "MOST_PAGES" = some (some (.int 64 t_MOST_PAGES)))
    (gget : PySem.W.specialIn K (.builtin "object.__class__") "__get__" = some (some (.builtin "getset_descriptor.__get__")))
    (gtak : PySem.W.takesIn K (.builtin "object.__class__") = some true)
    (pg_Marks : PySem.W.plainGet K a_Marks Str.empty = true)
    (hd_Marks : PySem.W.hasDictIn K a_Marks = true)
    (po_Marks : PySem.W.plainOver K a_Marks = true)
    (sa_Marks : PySem.W.findIn K (.ref a_Marks) "__setattr__" = some (some (.builtin "object.__setattr__")))
    (ca_Marks : PySem.W.findIn K (.ref a_Marks) "__class__" = some (some (.builtin "object.__class__")))
    (cm_Marks : PySem.W.mroIn K a_Marks (.type "object") = some true)
    (sf_Marks : PySem.W.selfFirst K a_Marks = true)
    (nq_Marks : PySem.W.noSeq K a_Marks = true)
    (ne_Marks : PySem.W.findIn K (.ref a_Marks) "__ne__" = some (some (.builtin "object.__ne__")))
    (mk_Marks : PySem.W.makesIn K a_Marks = true)
    (kc_Marks : PySem.W.keepIn K (.ref a_Marks) = true)
    (na_Marks_kept : PySem.W.findIn K (.ref a_Marks) "kept" = some none)
    (kt_Marks : (askedK.all fun T => PySem.W.kitOne K (.ref a_Marks) (.type T) == some false) = true)
    (tk_Marks : (kinds.all fun t => PySem.W.kitOne K (.type t) (.ref a_Marks) == some false) = true)
    (nt_Marks : (kinds.all fun t => PySem.W.notFirst K a_Marks (.type t)) = true)
    (nc_Marks_Marks : PySem.W.notFirst K a_Marks (.ref a_Marks) = true)
    (ec_BadMarks : K.lookup a_BadMarks = some (excClassObj nm_BadMarks q_BadMarks a_BadMarks N_BadMarks bs_BadMarks bm_BadMarks true sn_BadMarks sub_BadMarks ab_BadMarks col_BadMarks dd_BadMarks k0_BadMarks k1_BadMarks k2_BadMarks k3_BadMarks k5_BadMarks "ValueError.__new__"))
    (er_BadMarks : PySem.HandSPX.refsVE bm_BadMarks = true)
    (es_BadMarks : PySem.W.findIn K (.ref a_BadMarks) "__setattr__" = some (some (.builtin "object.__setattr__")))
    (ex_BadMarks : PySem.W.subIn K (.ref a_BadMarks) (.type "BaseException") = some true)
    (et_BadMarks : PySem.W.typeIn K (.ref a_BadMarks) = some (.type "type"))
    (ek_BadMarks : PySem.W.keepIn K (.ref a_BadMarks) = true)
    (eg_BadMarks : PySem.W.findIn K (.ref a_BadMarks) "__getattribute__" = some (some (.builtin "BaseException.__getattribute__")))
    (ey_BadMarks : PySem.W.findIn K (.ref a_BadMarks) "__getattr__" = some none)
    (eh_BadMarks : PySem.W.hasDictIn K a_BadMarks = true)
    (ea_BadMarks : PySem.W.findIn K (.ref a_BadMarks) "__class__" = some (some (.builtin "object.__class__")))
    (eo_BadMarks : PySem.W.mroIn K a_BadMarks (.type "object") = some true)
    (en_BadMarks : PySem.W.findIn K (.ref a_BadMarks) "at" = some none)
    (el_BadMarks : PySem.W.ks_superIn K a_BadMarks a_BadMarks "__init__" = some (some vin))
    (em_BadMarks : PySem.W.mroIn K a_BadMarks (.ref a_BadMarks) = some true)
    (ev_BadMarks : PySem.W.mroIn K a_BadMarks (.type "ValueError") = some true)
    (ei_BadMarks : PySem.W.findIn K (.ref a_BadMarks) "__init__" = some (some (.ref fi_BadMarks)))
    (ej_BadMarks : PySem.W.typeIn K (.ref fi_BadMarks) = some (.type "function"))
    (il_BadMarks : K.lookup fi_BadMarks = some ⟨oc_BadMarks, od_BadMarks, .func (PySem.W.ksFn "__init__" "BadMarks.__init__" (defArgs (inClass (topS 7) 0)) (defBody (inClass (topS 7) 0)) (defScope (inClass (topS 7) 0)) .none kV_BadMarks dc_BadMarks pm_BadMarks an_BadMarks (.ref cda_BadMarks) ct_BadMarks cc_BadMarks), sl_BadMarks⟩)
    (ic_BadMarks : PySem.W.codeIn K (.ref cda_BadMarks) "BadMarks.__init__" = true)
    (id_BadMarks : K.lookup cda_BadMarks = some ⟨ccl_BadMarks, cdd_BadMarks, .fields vs_BadMarks, ccs_BadMarks⟩)
    (ie_BadMarks : vs_BadMarks[2]? = some (.str file_BadMarks tf_BadMarks))
    (if_BadMarks : ((l.prog.main.file : Str) == file_BadMarks) = true)
    (ig_BadMarks : K.lookup cc_BadMarks = some ⟨cl_BadMarks, cld_BadMarks, .cell (some (.ref a_BadMarks)), csl_BadMarks⟩)
    (ec_BadDeed : K.lookup a_BadDeed = some (excClassObj nm_BadDeed q_BadDeed a_BadDeed N_BadDeed bs_BadDeed bm_BadDeed true sn_BadDeed sub_BadDeed ab_BadDeed col_BadDeed dd_BadDeed k0_BadDeed k1_BadDeed k2_BadDeed k3_BadDeed k5_BadDeed "ValueError.__new__"))
    (er_BadDeed : PySem.HandSPX.refsVE bm_BadDeed = true)
    (es_BadDeed : PySem.W.findIn K (.ref a_BadDeed) "__setattr__" = some (some (.builtin "object.__setattr__")))
    (ex_BadDeed : PySem.W.subIn K (.ref a_BadDeed) (.type "BaseException") = some true)
    (et_BadDeed : PySem.W.typeIn K (.ref a_BadDeed) = some (.type "type"))
    (ek_BadDeed : PySem.W.keepIn K (.ref a_BadDeed) = true)
    (eg_BadDeed : PySem.W.findIn K (.ref a_BadDeed) "__getattribute__" = some (some (.builtin "BaseException.__getattribute__")))
    (ey_BadDeed : PySem.W.findIn K (.ref a_BadDeed) "__getattr__" = some none)
    (eh_BadDeed : PySem.W.hasDictIn K a_BadDeed = true)
    (ea_BadDeed : PySem.W.findIn K (.ref a_BadDeed) "__class__" = some (some (.builtin "object.__class__")))
    (eo_BadDeed : PySem.W.mroIn K a_BadDeed (.type "object") = some true)
    (en_BadDeed : PySem.W.findIn K (.ref a_BadDeed) "index" = some none)
    (el_BadDeed : PySem.W.ks_superIn K a_BadDeed a_BadDeed "__init__" = some (some vin))
    (em_BadDeed : PySem.W.mroIn K a_BadDeed (.ref a_BadDeed) = some true)
    (ev_BadDeed : PySem.W.mroIn K a_BadDeed (.type "ValueError") = some true)
    (ei_BadDeed : PySem.W.findIn K (.ref a_BadDeed) "__init__" = some (some (.ref fi_BadDeed)))
    (ej_BadDeed : PySem.W.typeIn K (.ref fi_BadDeed) = some (.type "function"))
    (il_BadDeed : K.lookup fi_BadDeed = some ⟨oc_BadDeed, od_BadDeed, .func (PySem.W.ksFn "__init__" "BadDeed.__init__" (defArgs (inClass (topS 8) 0)) (defBody (inClass (topS 8) 0)) (defScope (inClass (topS 8) 0)) .none kV_BadDeed dc_BadDeed pm_BadDeed an_BadDeed (.ref cda_BadDeed) ct_BadDeed cc_BadDeed), sl_BadDeed⟩)
    (ic_BadDeed : PySem.W.codeIn K (.ref cda_BadDeed) "BadDeed.__init__" = true)
    (id_BadDeed : K.lookup cda_BadDeed = some ⟨ccl_BadDeed, cdd_BadDeed, .fields vs_BadDeed, ccs_BadDeed⟩)
    (ie_BadDeed : vs_BadDeed[2]? = some (.str file_BadDeed tf_BadDeed))
    (if_BadDeed : ((l.prog.main.file : Str) == file_BadDeed) = true)
    (ig_BadDeed : K.lookup cc_BadDeed = some ⟨cl_BadDeed, cld_BadDeed, .cell (some (.ref a_BadDeed)), csl_BadDeed⟩)
    (z_super : PySem.W.nsIn K mainGlobals "super" = some none)
    (z_opq : PySem.W.nsIn K cStatics "thirdparty.any" = some none)
    (z_top : (l.prog.main.scope.names.lookup ("super" : Str)).isSome = false)
    (a_is_integer : PySem.W.nsIn K mainGlobals "is_integer" = some (some (.ref f_is_integer)))
    (l_is_integer : K.lookup f_is_integer = some ⟨oc_is_integer, od_is_integer, .func (PySem.W.fnOf "is_integer" "is_integer" (defArgs s_is_integer) (defBody s_is_integer) (defScope s_is_integer) .none kV_is_integer dc_is_integer pm_is_integer an_is_integer cd_is_integer ct_is_integer), sl_is_integer⟩)
    (c_is_integer : PySem.W.codeIn K cd_is_integer "is_integer" = true)
    (k_is_integer : PySem.W.keepIn K (.ref f_is_integer) = true)
    (a_is_many : PySem.W.nsIn K mainGlobals "is_many" = some (some (.ref f_is_many)))
    (l_is_many : K.lookup f_is_many = some ⟨oc_is_many, od_is_many, .func (PySem.W.fnOf "is_many" "is_many" (defArgs s_is_many) (defBody s_is_many) (defScope s_is_many) .none kV_is_many dc_is_many pm_is_many an_is_many cd_is_many ct_is_many), sl_is_many⟩)
    (c_is_many : PySem.W.codeIn K cd_is_many "is_many" = true)
    (k_is_many : PySem.W.keepIn K (.ref f_is_many) = true)
    (a_MarksU_initU : PySem.W.findIn K (.ref a_Marks) "__init__" = some (some (.ref f_MarksU_initU)))
    (l_MarksU_initU : K.lookup f_MarksU_initU = some ⟨oc_MarksU_initU, od_MarksU_initU, .func (PySem.W.fnOf "__init__" "Marks.__init__" (defArgs s_MarksU_initU) (defBody s_MarksU_initU) (defScope s_MarksU_initU) (.ref dT_MarksU_initU) kV_MarksU_initU dc_MarksU_initU pm_MarksU_initU an_MarksU_initU cd_MarksU_initU ct_MarksU_initU), sl_MarksU_initU⟩)
    (d1_MarksU_initU : K.lookup dT_MarksU_initU = some dO_MarksU_initU)
    (d2_MarksU_initU : dO_MarksU_initU.data = .seq [.none].toArray dN_MarksU_initU)
    (c_MarksU_initU : PySem.W.codeIn K cd_MarksU_initU "Marks.__init__" = true)
    (k_MarksU_initU : PySem.W.keepIn K (.ref f_MarksU_initU) = true)
    (i_MarksU_initU : PySem.W.isFn K (.ref f_MarksU_initU) = true)
    (j_MarksU_initU : PySem.W.fnIn K f_MarksU_initU = true)
    (a_Marks_check : PySem.W.findIn K (.ref a_Marks) "check" = some (some (.ref f_Marks_check)))
    (l_Marks_check : K.lookup f_Marks_check = some ⟨oc_Marks_check, od_Marks_check, .func (PySem.W.fnOf "check" "Marks.check" (defArgs s_Marks_check) (defBody s_Marks_check) (defScope s_Marks_check) .none kV_Marks_check dc_Marks_check pm_Marks_check an_Marks_check cd_Marks_check ct_Marks_check), sl_Marks_check⟩)
    (c_Marks_check : PySem.W.codeIn K cd_Marks_check "Marks.check" = true)
    (k_Marks_check : PySem.W.keepIn K (.ref f_Marks_check) = true)
    (i_Marks_check : PySem.W.isFn K (.ref f_Marks_check) = true)
    (j_Marks_check : PySem.W.fnIn K f_Marks_check = true)
    (a_MarksU_getitemU : PySem.W.findIn K (.ref a_Marks) "__getitem__" = some (some (.ref f_MarksU_getitemU)))
    (l_MarksU_getitemU : K.lookup f_MarksU_getitemU = some ⟨oc_MarksU_getitemU, od_MarksU_getitemU, .func (PySem.W.fnOf "__getitem__" "Marks.__getitem__" (defArgs s_MarksU_getitemU) (defBody s_MarksU_getitemU) (defScope s_MarksU_getitemU) .none kV_MarksU_getitemU dc_MarksU_getitemU pm_MarksU_getitemU an_MarksU_getitemU cd_MarksU_getitemU ct_MarksU_getitemU), sl_MarksU_getitemU⟩)
    (c_MarksU_getitemU : PySem.W.codeIn K cd_MarksU_getitemU "Marks.__getitem__" = true)
    (k_MarksU_getitemU : PySem.W.keepIn K (.ref f_MarksU_getitemU) = true)
    (i_MarksU_getitemU : PySem.W.isFn K (.ref f_MarksU_getitemU) = true)
    (j_MarksU_getitemU : PySem.W.fnIn K f_MarksU_getitemU = true)
    (a_MarksU_setitemU : PySem.W.findIn K (.ref a_Marks) "__setitem__" = some (some (.ref f_MarksU_setitemU)))
    (l_MarksU_setitemU : K.lookup f_MarksU_setitemU = some ⟨oc_MarksU_setitemU, od_MarksU_setitemU, .func (PySem.W.fnOf "__setitem__" "Marks.__setitem__" (defArgs s_MarksU_setitemU) (defBody s_MarksU_setitemU) (defScope s_MarksU_setitemU) .none kV_MarksU_setitemU dc_MarksU_setitemU pm_MarksU_setitemU an_MarksU_setitemU cd_MarksU_setitemU ct_MarksU_setitemU), sl_MarksU_setitemU⟩)
    (c_MarksU_setitemU : PySem.W.codeIn K cd_MarksU_setitemU "Marks.__setitem__" = true)
    (k_MarksU_setitemU : PySem.W.keepIn K (.ref f_MarksU_setitemU) = true)
    (i_MarksU_setitemU : PySem.W.isFn K (.ref f_MarksU_setitemU) = true)
    (j_MarksU_setitemU : PySem.W.fnIn K f_MarksU_setitemU = true)
    (a_MarksU_lenU : PySem.W.findIn K (.ref a_Marks) "__len__" = some (some (.ref f_MarksU_lenU)))
    (l_MarksU_lenU : K.lookup f_MarksU_lenU = some ⟨oc_MarksU_lenU, od_MarksU_lenU, .func (PySem.W.fnOf "__len__" "Marks.__len__" (defArgs s_MarksU_lenU) (defBody s_MarksU_lenU) (defScope s_MarksU_lenU) .none kV_MarksU_lenU dc_MarksU_lenU pm_MarksU_lenU an_MarksU_lenU cd_MarksU_lenU ct_MarksU_lenU), sl_MarksU_lenU⟩)
    (c_MarksU_lenU : PySem.W.codeIn K cd_MarksU_lenU "Marks.__len__" = true)
    (k_MarksU_lenU : PySem.W.keepIn K (.ref f_MarksU_lenU) = true)
    (i_MarksU_lenU : PySem.W.isFn K (.ref f_MarksU_lenU) = true)
    (j_MarksU_lenU : PySem.W.fnIn K f_MarksU_lenU = true)
    (a_marks_of : PySem.W.nsIn K mainGlobals "marks_of" = some (some (.ref f_marks_of)))
    (l_marks_of : K.lookup f_marks_of = some ⟨oc_marks_of, od_marks_of, .func (PySem.W.fnOf "marks_of" "marks_of" (defArgs s_marks_of) (defBody s_marks_of) (defScope s_marks_of) .none kV_marks_of dc_marks_of pm_marks_of an_marks_of cd_marks_of ct_marks_of), sl_marks_of⟩)
    (c_marks_of : PySem.W.codeIn K cd_marks_of "marks_of" = true)
    (k_marks_of : PySem.W.keepIn K (.ref f_marks_of) = true)
    (a_Marks_twin : PySem.W.findIn K (.ref a_Marks) "twin" = some (some (.ref f_Marks_twin)))
    (l_Marks_twin : K.lookup f_Marks_twin = some ⟨oc_Marks_twin, od_Marks_twin, .func (PySem.W.fnOf "twin" "Marks.twin" (defArgs s_Marks_twin) (defBody s_Marks_twin) (defScope s_Marks_twin) .none kV_Marks_twin dc_Marks_twin pm_Marks_twin an_Marks_twin cd_Marks_twin ct_Marks_twin), sl_Marks_twin⟩)
    (c_Marks_twin : PySem.W.codeIn K cd_Marks_twin "Marks.twin" = true)
    (k_Marks_twin : PySem.W.keepIn K (.ref f_Marks_twin) = true)
    (i_Marks_twin : PySem.W.isFn K (.ref f_Marks_twin) = true)
    (j_Marks_twin : PySem.W.fnIn K f_Marks_twin = true)
    (a_is_page : PySem.W.nsIn K mainGlobals "is_page" = some (some (.ref f_is_page)))
    (l_is_page : K.lookup f_is_page = some ⟨oc_is_page, od_is_page, .func (PySem.W.fnOf "is_page" "is_page" (defArgs s_is_page) (defBody s_is_page) (defScope s_is_page) .none kV_is_page dc_is_page pm_is_page an_is_page cd_is_page ct_is_page), sl_is_page⟩)
    (c_is_page : PySem.W.codeIn K cd_is_page "is_page" = true)
    (k_is_page : PySem.W.keepIn K (.ref f_is_page) = true)
    (a_check_deeds : PySem.W.nsIn K mainGlobals "check_deeds" = some (some (.ref f_check_deeds)))
    (l_check_deeds : K.lookup f_check_deeds = some ⟨oc_check_deeds, od_check_deeds, .func (PySem.W.fnOf "check_deeds" "check_deeds" (defArgs s_check_deeds) (defBody s_check_deeds) (defScope s_check_deeds) .none kV_check_deeds dc_check_deeds pm_check_deeds an_check_deeds cd_check_deeds ct_check_deeds), sl_check_deeds⟩)
    (c_check_deeds : PySem.W.codeIn K cd_check_deeds "check_deeds" = true)
    (k_check_deeds : PySem.W.keepIn K (.ref f_check_deeds) = true)
    (a_check_cleanings : PySem.W.nsIn K mainGlobals "check_cleanings" = some (some (.ref f_check_cleanings)))
    (l_check_cleanings : K.lookup f_check_cleanings = some ⟨oc_check_cleanings, od_check_cleanings, .func (PySem.W.fnOf "check_cleanings" "check_cleanings" (defArgs s_check_cleanings) (defBody s_check_cleanings) (defScope s_check_cleanings) .none kV_check_cleanings dc_check_cleanings pm_check_cleanings an_check_cleanings cd_check_cleanings ct_check_cleanings), sl_check_cleanings⟩)
    (c_check_cleanings : PySem.W.codeIn K cd_check_cleanings "check_cleanings" = true)
    (k_check_cleanings : PySem.W.keepIn K (.ref f_check_cleanings) = true)
    (a_looks : PySem.W.nsIn K mainGlobals "looks" = some (some (.ref f_looks)))
    (l_looks : K.lookup f_looks = some ⟨oc_looks, od_looks, .func (PySem.W.fnOf "looks" "looks" (defArgs s_looks) (defBody s_looks) (defScope s_looks) .none kV_looks dc_looks pm_looks an_looks cd_looks ct_looks), sl_looks⟩)
    (c_looks : PySem.W.codeIn K cd_looks "looks" = true)
    (k_looks : PySem.W.keepIn K (.ref f_looks) = true)
    (a_place_for : PySem.W.nsIn K mainGlobals "place_for" = some (some (.ref f_place_for)))
    (l_place_for : K.lookup f_place_for = some ⟨oc_place_for, od_place_for, .func (PySem.W.fnOf "place_for" "place_for" (defArgs s_place_for) (defBody s_place_for) (defScope s_place_for) .none kV_place_for dc_place_for pm_place_for an_place_for cd_place_for ct_place_for), sl_place_for⟩)
    (c_place_for : PySem.W.codeIn K cd_place_for "place_for" = true)
    (k_place_for : PySem.W.keepIn K (.ref f_place_for) = true)
    (a_arranged : PySem.W.nsIn K mainGlobals "arranged" = some (some (.ref f_arranged)))
    (l_arranged : K.lookup f_arranged = some ⟨oc_arranged, od_arranged, .func (PySem.W.fnOf "arranged" "arranged" (defArgs s_arranged) (defBody s_arranged) (defScope s_arranged) .none kV_arranged dc_arranged pm_arranged an_arranged cd_arranged ct_arranged), sl_arranged⟩)
    (c_arranged : PySem.W.codeIn K cd_arranged "arranged" = true)
    (k_arranged : PySem.W.keepIn K (.ref f_arranged) = true)
    (a_worths : PySem.W.nsIn K mainGlobals "worths" = some (some (.ref f_worths)))
    (l_worths : K.lookup f_worths = some ⟨oc_worths, od_worths, .func (PySem.W.fnOf "worths" "worths" (defArgs s_worths) (defBody s_worths) (defScope s_worths) .none kV_worths dc_worths pm_worths an_worths cd_worths ct_worths), sl_worths⟩)
    (c_worths : PySem.W.codeIn K cd_worths "worths" = true)
    (k_worths : PySem.W.keepIn K (.ref f_worths) = true)
    (a_best_first : PySem.W.nsIn K mainGlobals "best_first" = some (some (.ref f_best_first)))
    (l_best_first : K.lookup f_best_first = some ⟨oc_best_first, od_best_first, .func (PySem.W.fnOf "best_first" "best_first" (defArgs s_best_first) (defBody s_best_first) (defScope s_best_first) .none kV_best_first dc_best_first pm_best_first an_best_first cd_best_first ct_best_first), sl_best_first⟩)
    (c_best_first : PySem.W.codeIn K cd_best_first "best_first" = true)
    (k_best_first : PySem.W.keepIn K (.ref f_best_first) = true)
    (a_least_looks : PySem.W.nsIn K mainGlobals "least_looks" = some (some (.ref f_least_looks)))
    (l_least_looks : K.lookup f_least_looks = some ⟨oc_least_looks, od_least_looks, .func (PySem.W.fnOf "least_looks" "least_looks" (defArgs s_least_looks) (defBody s_least_looks) (defScope s_least_looks) .none kV_least_looks dc_least_looks pm_least_looks an_least_looks cd_least_looks ct_least_looks), sl_least_looks⟩)
    (c_least_looks : PySem.W.codeIn K cd_least_looks "least_looks" = true)
    (k_least_looks : PySem.W.keepIn K (.ref f_least_looks) = true)
    (a_saved : PySem.W.nsIn K mainGlobals "saved" = some (some (.ref f_saved)))
    (l_saved : K.lookup f_saved = some ⟨oc_saved, od_saved, .func (PySem.W.fnOf "saved" "saved" (defArgs s_saved) (defBody s_saved) (defScope s_saved) .none kV_saved dc_saved pm_saved an_saved cd_saved ct_saved), sl_saved⟩)
    (c_saved : PySem.W.codeIn K cd_saved "saved" = true)
    (k_saved : PySem.W.keepIn K (.ref f_saved) = true)
    (a__law_pool : PySem.W.nsIn K mainGlobals "_law_pool" = some (some (.ref f__law_pool)))
    (l__law_pool : K.lookup f__law_pool = some ⟨oc__law_pool, od__law_pool, .func (PySem.W.fnOf "_law_pool" "_law_pool" (defArgs s__law_pool) (defBody s__law_pool) (defScope s__law_pool) .none kV__law_pool dc__law_pool pm__law_pool an__law_pool cd__law_pool ct__law_pool), sl__law_pool⟩)
    (c__law_pool : PySem.W.codeIn K cd__law_pool "_law_pool" = true)
    (k__law_pool : PySem.W.keepIn K (.ref f__law_pool) = true)
    (a__law_take : PySem.W.nsIn K mainGlobals "_law_take" = some (some (.ref f__law_take)))
    (l__law_take : K.lookup f__law_take = some ⟨oc__law_take, od__law_take, .func (PySem.W.fnOf "_law_take" "_law_take" (defArgs s__law_take) (defBody s__law_take) (defScope s__law_take) .none kV__law_take dc__law_take pm__law_take an__law_take cd__law_take ct__law_take), sl__law_take⟩)
    (c__law_take : PySem.W.codeIn K cd__law_take "_law_take" = true)
    (k__law_take : PySem.W.keepIn K (.ref f__law_take) = true)
    (a__law_deeds : PySem.W.nsIn K mainGlobals "_law_deeds" = some (some (.ref f__law_deeds)))
    (l__law_deeds : K.lookup f__law_deeds = some ⟨oc__law_deeds, od__law_deeds, .func (PySem.W.fnOf "_law_deeds" "_law_deeds" (defArgs s__law_deeds) (defBody s__law_deeds) (defScope s__law_deeds) .none kV__law_deeds dc__law_deeds pm__law_deeds an__law_deeds cd__law_deeds ct__law_deeds), sl__law_deeds⟩)
    (c__law_deeds : PySem.W.codeIn K cd__law_deeds "_law_deeds" = true)
    (k__law_deeds : PySem.W.keepIn K (.ref f__law_deeds) = true)
    (a__law_worths : PySem.W.nsIn K mainGlobals "_law_worths" = some (some (.ref f__law_worths)))
    (l__law_worths : K.lookup f__law_worths = some ⟨oc__law_worths, od__law_worths, .func (PySem.W.fnOf "_law_worths" "_law_worths" (defArgs s__law_worths) (defBody s__law_worths) (defScope s__law_worths) .none kV__law_worths dc__law_worths pm__law_worths an__law_worths cd__law_worths ct__law_worths), sl__law_worths⟩)
    (c__law_worths : PySem.W.codeIn K cd__law_worths "_law_worths" = true)
    (k__law_worths : PySem.W.keepIn K (.ref f__law_worths) = true)
    (a__law_right : PySem.W.nsIn K mainGlobals "_law_right" = some (some (.ref f__law_right)))
    (l__law_right : K.lookup f__law_right = some ⟨oc__law_right, od__law_right, .func (PySem.W.fnOf "_law_right" "_law_right" (defArgs s__law_right) (defBody s__law_right) (defScope s__law_right) .none kV__law_right dc__law_right pm__law_right an__law_right cd__law_right ct__law_right), sl__law_right⟩)
    (c__law_right : PySem.W.codeIn K cd__law_right "_law_right" = true)
    (k__law_right : PySem.W.keepIn K (.ref f__law_right) = true)
    (a_law : PySem.W.nsIn K mainGlobals "law" = some (some (.ref f_law)))
    (l_law : K.lookup f_law = some ⟨oc_law, od_law, .func (PySem.W.fnOf "law" "law" (defArgs s_law) (defBody s_law) (defScope s_law) .none kV_law dc_law pm_law an_law cd_law ct_law), sl_law⟩)
    (c_law : PySem.W.codeIn K cd_law "law" = true)
    (k_law : PySem.W.keepIn K (.ref f_law) = true)
    : ∃ fd : FuncData, (∀ (s : Shared) (v : Value), BindsTo s fd ⟨[v], []⟩ [("script", v)]) ∧ ∀ base : Heap, K.In base → base.Ns mainGlobals mg → TP.FnOk l.prog w K mg base (L2.CX l.prog w) 10 fa fd ["script"] (sp_law K) := by
  have e := hfa.symm.trans (PySem.W.mg_of X G a_law)
  cases e
  have E_BadMarks : ErrI l.prog K mg "BadMarks" a_BadMarks "at" := ⟨PySem.W.mg_of X G x_BadMarks, ⟨eg_BadMarks, ey_BadMarks, ex_BadMarks, eh_BadMarks⟩, ⟨eg_BadMarks, ey_BadMarks, ex_BadMarks, eh_BadMarks, ea_BadMarks, gget, gtak, eo_BadMarks⟩, en_BadMarks, fi_BadMarks, _, "BadMarks.__init__",
    ⟨⟨⟨_, _, _, _, _, _, _, _, _, _, _, _, _, _, _, ec_BadMarks, er_BadMarks⟩, es_BadMarks, ex_BadMarks, et_BadMarks, ek_BadMarks⟩, en_BadMarks, PySem.W.mg_none_of X G z_super, z_opq, el_BadMarks, em_BadMarks, ev_BadMarks, z_top,
      ⟨_, _, _, _, _, _, _, _, _, _, _, _, _, _, _, _, _, _, _, _, _, _, _, _, _, _, _, _, _, _, _, _, _, rfl, il_BadMarks, ic_BadMarks, rfl, rfl, id_BadMarks, ie_BadMarks, if_BadMarks, ig_BadMarks, rfl, rfl, rfl, rfl, by decide, by decide, rfl⟩⟩, ei_BadMarks, ej_BadMarks, .all fun us hl => match us, hl with | [_, _], _ => rfl⟩
  have E_BadDeed : ErrI l.prog K mg "BadDeed" a_BadDeed "index" := ⟨PySem.W.mg_of X G x_BadDeed, ⟨eg_BadDeed, ey_BadDeed, ex_BadDeed, eh_BadDeed⟩, ⟨eg_BadDeed, ey_BadDeed, ex_BadDeed, eh_BadDeed, ea_BadDeed, gget, gtak, eo_BadDeed⟩, en_BadDeed, fi_BadDeed, _, "BadDeed.__init__",
    ⟨⟨⟨_, _, _, _, _, _, _, _, _, _, _, _, _, _, _, ec_BadDeed, er_BadDeed⟩, es_BadDeed, ex_BadDeed, et_BadDeed, ek_BadDeed⟩, en_BadDeed, PySem.W.mg_none_of X G z_super, z_opq, el_BadDeed, em_BadDeed, ev_BadDeed, z_top,
      ⟨_, _, _, _, _, _, _, _, _, _, _, _, _, _, _, _, _, _, _, _, _, _, _, _, _, _, _, _, _, _, _, _, _, rfl, il_BadDeed, ic_BadDeed, rfl, rfl, id_BadDeed, ie_BadDeed, if_BadDeed, ig_BadDeed, rfl, rfl, rfl, rfl, by decide, by decide, rfl⟩⟩, ei_BadDeed, ej_BadDeed, .all fun us hl => match us, hl with | [_, _], _ => rfl⟩
  have C_Marks : OwnC K a_Marks := ⟨⟨pg_Marks, hd_Marks, po_Marks, sa_Marks⟩, ca_Marks, gget, gtak, cm_Marks, sf_Marks, nq_Marks, ne_Marks⟩
  have T : Txt l.prog w K mg a_Marks a_BadMarks a_BadDeed := ⟨PySem.W.mg_none_of X G z_len, PySem.W.mg_none_of X G z_isinstance, PySem.W.mg_none_of X G z_int, PySem.W.mg_none_of X G z_bool, PySem.W.mg_none_of X G z_range, PySem.W.mg_none_of X G z_list, PySem.W.mg_none_of X G z_enumerate, PySem.W.mg_none_of X G z_tuple, PySem.W.mg_none_of X G z_str, PySem.W.mg_none_of X G z_max, PySem.W.mg_none_of X G z_min, PySem.W.mg_none_of X G z_sum, PySem.W.mg_none_of X G z_sorted, PySem.W.mg_of X G x_Marks, ⟨_, PySem.W.mg_of X G x_MOST_PAGES⟩, E_BadMarks, PySem.W.mg_of X G x_BadMarks, E_BadDeed, PySem.W.mg_of X G x_BadDeed, C_Marks, na_Marks_kept⟩
  have FC : MR.ClsG K (Gam w a_Marks a_BadMarks a_BadDeed) 1 := ⟨⟨fun c h => match c, h with | 0, _ => C_Marks | n + 1, h => absurd h (by omega), fun c d h h2 => match c, h, d, h2 with | 0, _, 0, _ => (by show PySem.W.kitOne K (.ref a_Marks) (.ref a_Marks) = some true; unfold PySem.W.kitOne; rw [beq_self_eq_true]; rfl) | 0, _, n + 1, h => absurd h (by omega) | n + 1, h, _, _ => absurd h (by omega), fun c h => match c, h with | 0, _ => MR.all_some kt_Marks | n + 1, h => absurd h (by omega), fun c h => match c, h with | 0, _ => MR.all_some tk_Marks | n + 1, h => absurd h (by omega)⟩, fun c h => match c, h with | 0, _ => MR.all_true nt_Marks | n + 1, h => absurd h (by omega), fun c d h h2 => match c, h, d, h2 with | 0, _, 0, _ => nc_Marks_Marks | 0, _, n + 1, h => absurd h (by omega) | n + 1, h, _, _ => absurd h (by omega)⟩
  have X0 : Cxt K w a_Marks a_BadMarks a_BadDeed := ⟨FC⟩
  have F_is_integer := fun_mk (st := s_is_integer) l_is_integer c_is_integer k_is_integer
  have FI_is_integer : FunI K mg "is_integer" s_is_integer ["value"] := ⟨_, _, PySem.W.mg_of X G a_is_integer, F_is_integer, F_is_integer.binds (ps := ["value"]) fun _ _ _ _ _ _ us hl => match us, hl with | [_], _ => rfl⟩
  have F_is_many := fun_mk (st := s_is_many) l_is_many c_is_many k_is_many
  have FI_is_many : FunI K mg "is_many" s_is_many ["many"] := ⟨_, _, PySem.W.mg_of X G a_is_many, F_is_many, F_is_many.binds (ps := ["many"]) fun _ _ _ _ _ _ us hl => match us, hl with | [_], _ => rfl⟩
  have F_MarksU_initU : FunD K "__init__" "Marks.__init__" (defArgs s_MarksU_initU) (defBody s_MarksU_initU) (defScope s_MarksU_initU) [.non] [] f_MarksU_initU _ := ⟨⟨_, _, _, _, _, _, _, _, _, _, rfl, l_MarksU_initU, c_MarksU_initU, .inr ⟨List.cons_ne_nil _ _, _, _, _, _, rfl, d1_MarksU_initU, d2_MarksU_initU, (.cons rfl .nil)⟩, .inl rfl⟩, k_MarksU_initU⟩
  have FI_MarksU_initU_0 : MakI K mg "Marks" a_Marks "__init__" "Marks.__init__" s_MarksU_initU ["self", "many", "truths"] [] := by
    obtain ⟨ds, hv, hb⟩ := F_MarksU_initU.binds1 (ps := ["self", "many", "truths"]) 3 1 (List.cons_ne_nil _ _) rfl fun _ _ _ _ _ _ _ us its hl hl2 => match us, hl, its, hl2 with | [_, _, _], _, [_], _ => ⟨_, rfl, rfl⟩
    cases hv
    exact ⟨f_MarksU_initU, _, PySem.W.mg_of X G x_Marks, ⟨mk_Marks, a_MarksU_initU, i_MarksU_initU, kc_Marks⟩, .inr ⟨_, _, F_MarksU_initU⟩, hb⟩
  have FI_MarksU_initU_1 : MakI K mg "Marks" a_Marks "__init__" "Marks.__init__" s_MarksU_initU ["self", "many", "truths"] [.none] := by
    obtain ⟨ds, hv, hb⟩ := F_MarksU_initU.binds1 (ps := ["self", "many", "truths"]) 2 0 (List.cons_ne_nil _ _) rfl fun _ _ _ _ _ _ _ us its hl hl2 => match us, hl, its, hl2 with | [_, _], _, [_], _ => ⟨_, rfl, rfl⟩
    obtain rfl : ds = [.none] := by
      cases hv with
      | cons r0 hv =>
        cases hv; cases r0; rfl
    exact ⟨f_MarksU_initU, _, PySem.W.mg_of X G x_Marks, ⟨mk_Marks, a_MarksU_initU, i_MarksU_initU, kc_Marks⟩, .inr ⟨_, _, F_MarksU_initU⟩, hb⟩
  have F_Marks_check := fun_mk (st := s_Marks_check) l_Marks_check c_Marks_check k_Marks_check
  have FI_Marks_check : MunI K a_Marks "check" "Marks.check" s_Marks_check ["self", "at"] := ⟨f_Marks_check, _, ⟨a_Marks_check, i_Marks_check, k_Marks_check⟩, F_Marks_check, F_Marks_check.binds (ps := ["self", "at"]) (fun _ _ _ _ _ _ us hl => match us, hl with | [_, _], _ => rfl), j_Marks_check⟩
  have F_MarksU_getitemU := fun_mk (st := s_MarksU_getitemU) l_MarksU_getitemU c_MarksU_getitemU k_MarksU_getitemU
  have FI_MarksU_getitemU : MunI K a_Marks "__getitem__" "Marks.__getitem__" s_MarksU_getitemU ["self", "at"] := ⟨f_MarksU_getitemU, _, ⟨a_MarksU_getitemU, i_MarksU_getitemU, k_MarksU_getitemU⟩, F_MarksU_getitemU, F_MarksU_getitemU.binds (ps := ["self", "at"]) (fun _ _ _ _ _ _ us hl => match us, hl with | [_, _], _ => rfl), j_MarksU_getitemU⟩
  have F_MarksU_setitemU := fun_mk (st := s_MarksU_setitemU) l_MarksU_setitemU c_MarksU_setitemU k_MarksU_setitemU
  have FI_MarksU_setitemU : MunI K a_Marks "__setitem__" "Marks.__setitem__" s_MarksU_setitemU ["self", "at", "value"] := ⟨f_MarksU_setitemU, _, ⟨a_MarksU_setitemU, i_MarksU_setitemU, k_MarksU_setitemU⟩, F_MarksU_setitemU, F_MarksU_setitemU.binds (ps := ["self", "at", "value"]) (fun _ _ _ _ _ _ us hl => match us, hl with | [_, _, _], _ => rfl), j_MarksU_setitemU⟩
  have F_MarksU_lenU := fun_mk (st := s_MarksU_lenU) l_MarksU_lenU c_MarksU_lenU k_MarksU_lenU
  have FI_MarksU_lenU : MunI K a_Marks "__len__" "Marks.__len__" s_MarksU_lenU ["self"] := ⟨f_MarksU_lenU, _, ⟨a_MarksU_lenU, i_MarksU_lenU, k_MarksU_lenU⟩, F_MarksU_lenU, F_MarksU_lenU.binds (ps := ["self"]) (fun _ _ _ _ _ _ us hl => match us, hl with | [_], _ => rfl), j_MarksU_lenU⟩
  have F_marks_of := fun_mk (st := s_marks_of) l_marks_of c_marks_of k_marks_of
  have FI_marks_of : FunI K mg "marks_of" s_marks_of ["truths"] := ⟨_, _, PySem.W.mg_of X G a_marks_of, F_marks_of, F_marks_of.binds (ps := ["truths"]) fun _ _ _ _ _ _ us hl => match us, hl with | [_], _ => rfl⟩
  have F_Marks_twin := fun_mk (st := s_Marks_twin) l_Marks_twin c_Marks_twin k_Marks_twin
  have FI_Marks_twin : MunI K a_Marks "twin" "Marks.twin" s_Marks_twin ["self"] := ⟨f_Marks_twin, _, ⟨a_Marks_twin, i_Marks_twin, k_Marks_twin⟩, F_Marks_twin, F_Marks_twin.binds (ps := ["self"]) (fun _ _ _ _ _ _ us hl => match us, hl with | [_], _ => rfl), j_Marks_twin⟩
  have F_is_page := fun_mk (st := s_is_page) l_is_page c_is_page k_is_page
  have FI_is_page : FunI K mg "is_page" s_is_page ["marks", "page"] := ⟨_, _, PySem.W.mg_of X G a_is_page, F_is_page, F_is_page.binds (ps := ["marks", "page"]) fun _ _ _ _ _ _ us hl => match us, hl with | [_, _], _ => rfl⟩
  have F_check_deeds := fun_mk (st := s_check_deeds) l_check_deeds c_check_deeds k_check_deeds
  have FI_check_deeds : FunI K mg "check_deeds" s_check_deeds ["deeds", "marks"] := ⟨_, _, PySem.W.mg_of X G a_check_deeds, F_check_deeds, F_check_deeds.binds (ps := ["deeds", "marks"]) fun _ _ _ _ _ _ us hl => match us, hl with | [_, _], _ => rfl⟩
  have F_check_cleanings := fun_mk (st := s_check_cleanings) l_check_cleanings c_check_cleanings k_check_cleanings
  have FI_check_cleanings : FunI K mg "check_cleanings" s_check_cleanings ["deeds", "marks", "cleanings"] := ⟨_, _, PySem.W.mg_of X G a_check_cleanings, F_check_cleanings, F_check_cleanings.binds (ps := ["deeds", "marks", "cleanings"]) fun _ _ _ _ _ _ us hl => match us, hl with | [_, _, _], _ => rfl⟩
  have F_looks := fun_mk (st := s_looks) l_looks c_looks k_looks
  have FI_looks : FunI K mg "looks" s_looks ["deeds", "marks", "cleanings"] := ⟨_, _, PySem.W.mg_of X G a_looks, F_looks, F_looks.binds (ps := ["deeds", "marks", "cleanings"]) fun _ _ _ _ _ _ us hl => match us, hl with | [_, _, _], _ => rfl⟩
  have F_place_for := fun_mk (st := s_place_for) l_place_for c_place_for k_place_for
  have FI_place_for : FunI K mg "place_for" s_place_for ["rows", "row"] := ⟨_, _, PySem.W.mg_of X G a_place_for, F_place_for, F_place_for.binds (ps := ["rows", "row"]) fun _ _ _ _ _ _ us hl => match us, hl with | [_, _], _ => rfl⟩
  have F_arranged := fun_mk (st := s_arranged) l_arranged c_arranged k_arranged
  have FI_arranged : FunI K mg "arranged" s_arranged ["rows"] := ⟨_, _, PySem.W.mg_of X G a_arranged, F_arranged, F_arranged.binds (ps := ["rows"]) fun _ _ _ _ _ _ us hl => match us, hl with | [_], _ => rfl⟩
  have F_worths := fun_mk (st := s_worths) l_worths c_worths k_worths
  have FI_worths : FunI K mg "worths" s_worths ["deeds", "marks"] := ⟨_, _, PySem.W.mg_of X G a_worths, F_worths, F_worths.binds (ps := ["deeds", "marks"]) fun _ _ _ _ _ _ us hl => match us, hl with | [_, _], _ => rfl⟩
  have F_best_first := fun_mk (st := s_best_first) l_best_first c_best_first k_best_first
  have FI_best_first : FunI K mg "best_first" s_best_first ["found"] := ⟨_, _, PySem.W.mg_of X G a_best_first, F_best_first, F_best_first.binds (ps := ["found"]) fun _ _ _ _ _ _ us hl => match us, hl with | [_], _ => rfl⟩
  have F_least_looks := fun_mk (st := s_least_looks) l_least_looks c_least_looks k_least_looks
  have FI_least_looks : FunI K mg "least_looks" s_least_looks ["deeds", "marks", "many"] := ⟨_, _, PySem.W.mg_of X G a_least_looks, F_least_looks, F_least_looks.binds (ps := ["deeds", "marks", "many"]) fun _ _ _ _ _ _ us hl => match us, hl with | [_, _, _], _ => rfl⟩
  have F_saved := fun_mk (st := s_saved) l_saved c_saved k_saved
  have FI_saved : FunI K mg "saved" s_saved ["deeds", "marks"] := ⟨_, _, PySem.W.mg_of X G a_saved, F_saved, F_saved.binds (ps := ["deeds", "marks"]) fun _ _ _ _ _ _ us hl => match us, hl with | [_, _], _ => rfl⟩
  have F__law_pool := fun_mk (st := s__law_pool) l__law_pool c__law_pool k__law_pool
  have FI__law_pool : FunI K mg "_law_pool" s__law_pool ["script", "k"] := ⟨_, _, PySem.W.mg_of X G a__law_pool, F__law_pool, F__law_pool.binds (ps := ["script", "k"]) fun _ _ _ _ _ _ us hl => match us, hl with | [_, _], _ => rfl⟩
  have F__law_take := fun_mk (st := s__law_take) l__law_take c__law_take k__law_take
  have FI__law_take : FunI K mg "_law_take" s__law_take ["pool", "many"] := ⟨_, _, PySem.W.mg_of X G a__law_take, F__law_take, F__law_take.binds (ps := ["pool", "many"]) fun _ _ _ _ _ _ us hl => match us, hl with | [_, _], _ => rfl⟩
  have F__law_deeds := fun_mk (st := s__law_deeds) l__law_deeds c__law_deeds k__law_deeds
  have FI__law_deeds : FunI K mg "_law_deeds" s__law_deeds ["pool"] := ⟨_, _, PySem.W.mg_of X G a__law_deeds, F__law_deeds, F__law_deeds.binds (ps := ["pool"]) fun _ _ _ _ _ _ us hl => match us, hl with | [_], _ => rfl⟩
  have F__law_worths := fun_mk (st := s__law_worths) l__law_worths c__law_worths k__law_worths
  have FI__law_worths : FunI K mg "_law_worths" s__law_worths ["deeds", "kept"] := ⟨_, _, PySem.W.mg_of X G a__law_worths, F__law_worths, F__law_worths.binds (ps := ["deeds", "kept"]) fun _ _ _ _ _ _ us hl => match us, hl with | [_, _], _ => rfl⟩
  have F__law_right := fun_mk (st := s__law_right) l__law_right c__law_right k__law_right
  have FI__law_right : FunI K mg "_law_right" s__law_right ["pool", "deeds", "marks", "kept"] := ⟨_, _, PySem.W.mg_of X G a__law_right, F__law_right, F__law_right.binds (ps := ["pool", "deeds", "marks", "kept"]) fun _ _ _ _ _ _ us hl => match us, hl with | [_, _, _, _], _ => rfl⟩
  have F_law := fun_mk (st := s_law) l_law c_law k_law
  refine ⟨PySem.W.fnOf "law" "law" (defArgs s_law) (defBody s_law) (defScope s_law) .none kV_law dc_law pm_law an_law cd_law ct_law, fun s v => .of_eq rfl, fun base hb hn => ?_⟩
  have I_is_integer : FnZ l.prog w K mg base 1 "is_integer" ["value"] (spM K (Gam w a_Marks a_BadMarks a_BadDeed) 1 m_is_integer) := FI_is_integer.okZ sc_is_integer (fun _ _ _ _ h => MR.spM_len h) (d_is_integer T) (fun H vs Q E h => MR.spM_run (xa := ⟨0, .none, none, 0⟩) (q_is_integer X0) h)
  have I_is_many : FnZ l.prog w K mg base 2 "is_many" ["many"] (spM K (Gam w a_Marks a_BadMarks a_BadDeed) 1 m_is_many) := FI_is_many.okZ sc_is_many (fun _ _ _ _ h => MR.spM_len h) (d_is_many T I_is_integer) (fun H vs Q E h => MR.spM_run (xa := ⟨0, .none, none, 0⟩) (q_is_many X0) h)
  have I_MarksU_initU_0 : MakZ l.prog w K mg base 4 "Marks" a_Marks ["self", "many", "truths"] (spI K (Gam w a_Marks a_BadMarks a_BadDeed) 0 2 m_MarksU_initU) [] := FI_MarksU_initU_0.okZ sc_MarksU_initU (fun _ _ _ _ h => MR.spI_len h) (d_MarksU_initU T I_is_many) (fun H vs Q E h => MR.spI_run (fun _ => q_MarksU_initU X0) h)
  have I_MarksU_initU_1 : MakZ l.prog w K mg base 4 "Marks" a_Marks ["self", "many", "truths"] (spI K (Gam w a_Marks a_BadMarks a_BadDeed) 0 2 m_MarksU_initU) [.none] := FI_MarksU_initU_1.okZ sc_MarksU_initU (fun _ _ _ _ h => MR.spI_len h) (d_MarksU_initU T I_is_many) (fun H vs Q E h => MR.spI_run (fun _ => q_MarksU_initU X0) h)
  have I_Marks_check : MthZ l.prog w K mg base 4 a_Marks "check" ["self", "at"] (spM K (Gam w a_Marks a_BadMarks a_BadDeed) 2 m_Marks_check) := FI_Marks_check.okZ sc_Marks_check (fun _ _ _ _ h => MR.spM_len h) (d_Marks_check T I_is_integer) (fun H vs Q E h => MR.spM_run (xa := ⟨0, .none, none, 0⟩) (q_Marks_check X0) h)
  have I_MarksU_getitemU : MthZ l.prog w K mg base 5 a_Marks "__getitem__" ["self", "at"] (spM K (Gam w a_Marks a_BadMarks a_BadDeed) 2 m_MarksU_getitemU) := FI_MarksU_getitemU.okZ sc_MarksU_getitemU (fun _ _ _ _ h => MR.spM_len h) (d_MarksU_getitemU T I_Marks_check) (fun H vs Q E h => MR.spM_run (xa := ⟨0, .none, none, 0⟩) (q_MarksU_getitemU X0) h)
  have I_MarksU_setitemU : MthZ l.prog w K mg base 5 a_Marks "__setitem__" ["self", "at", "value"] (spM K (Gam w a_Marks a_BadMarks a_BadDeed) 3 m_MarksU_setitemU) := FI_MarksU_setitemU.okZ sc_MarksU_setitemU (fun _ _ _ _ h => MR.spM_len h) (d_MarksU_setitemU T I_Marks_check) (fun H vs Q E h => MR.spM_run (xa := ⟨0, .none, none, 0⟩) (q_MarksU_setitemU X0) h)
  have I_MarksU_lenU : MthZ l.prog w K mg base 1 a_Marks "__len__" ["self"] (spM K (Gam w a_Marks a_BadMarks a_BadDeed) 1 m_MarksU_lenU) := FI_MarksU_lenU.okZ sc_MarksU_lenU (fun _ _ _ _ h => MR.spM_len h) (d_MarksU_lenU T) (fun H vs Q E h => MR.spM_run (xa := ⟨0, .none, none, 0⟩) (q_MarksU_lenU X0) h)
  have I_marks_of : FnZ l.prog w K mg base 6 "marks_of" ["truths"] (spM K (Gam w a_Marks a_BadMarks a_BadDeed) 1 m_marks_of) := FI_marks_of.okZ sc_marks_of (fun _ _ _ _ h => MR.spM_len h) (d_marks_of T I_MarksU_initU_0) (fun H vs Q E h => MR.spM_run (xa := ⟨0, .none, none, 0⟩) (q_marks_of X0) h)
  have I_Marks_twin : MthZ l.prog w K mg base 7 a_Marks "twin" ["self"] (spM K (Gam w a_Marks a_BadMarks a_BadDeed) 1 m_Marks_twin) := FI_Marks_twin.okZ sc_Marks_twin (fun _ _ _ _ h => MR.spM_len h) (d_Marks_twin T I_marks_of) (fun H vs Q E h => MR.spM_run (xa := ⟨0, .none, none, 0⟩) (q_Marks_twin X0) h)
  have I_is_page : FnZ l.prog w K mg base 3 "is_page" ["marks", "page"] (spM K (Gam w a_Marks a_BadMarks a_BadDeed) 2 m_is_page) := FI_is_page.okZ sc_is_page (fun _ _ _ _ h => MR.spM_len h) (d_is_page T I_is_integer I_MarksU_lenU) (fun H vs Q E h => MR.spM_run (xa := ⟨0, .none, none, 0⟩) (q_is_page X0) h)
  have I_check_deeds : FnZ l.prog w K mg base 4 "check_deeds" ["deeds", "marks"] (spM K (Gam w a_Marks a_BadMarks a_BadDeed) 2 m_check_deeds) := FI_check_deeds.okZ sc_check_deeds (fun _ _ _ _ h => MR.spM_len h) (d_check_deeds T I_is_page) (fun H vs Q E h => MR.spM_run (xa := ⟨0, .none, none, 0⟩) (q_check_deeds X0) h)
  have I_check_cleanings : FnZ l.prog w K mg base 4 "check_cleanings" ["deeds", "marks", "cleanings"] (spM K (Gam w a_Marks a_BadMarks a_BadDeed) 3 m_check_cleanings) := FI_check_cleanings.okZ sc_check_cleanings (fun _ _ _ _ h => MR.spM_len h) (d_check_cleanings T I_is_integer I_is_page) (fun H vs Q E h => MR.spM_run (xa := ⟨0, .none, none, 0⟩) (q_check_cleanings X0) h)
  have I_looks : FnZ l.prog w K mg base 8 "looks" ["deeds", "marks", "cleanings"] (spM K (Gam w a_Marks a_BadMarks a_BadDeed) 3 m_looks) := FI_looks.okZ sc_looks (fun _ _ _ _ h => MR.spM_len h) (d_looks T I_MarksU_getitemU I_MarksU_setitemU I_Marks_twin I_check_deeds I_check_cleanings) (fun H vs Q E h => MR.spM_run (xa := ⟨0, .none, none, 0⟩) (q_looks X0) h)
  have I_place_for : FnZ l.prog w K mg base 1 "place_for" ["rows", "row"] (spM K (Gam w a_Marks a_BadMarks a_BadDeed) 2 m_place_for) := FI_place_for.okZ sc_place_for (fun _ _ _ _ h => MR.spM_len h) (d_place_for T) (fun H vs Q E h => MR.spM_run (xa := ⟨0, .none, none, 0⟩) (q_place_for X0) h)
  have I_arranged : FnZ l.prog w K mg base 2 "arranged" ["rows"] (spM K (Gam w a_Marks a_BadMarks a_BadDeed) 1 m_arranged) := FI_arranged.okZ sc_arranged (fun _ _ _ _ h => MR.spM_len h) (d_arranged T I_place_for) (fun H vs Q E h => MR.spM_run (xa := ⟨0, .none, none, 0⟩) (q_arranged X0) h)
  have I_worths : FnZ l.prog w K mg base 7 "worths" ["deeds", "marks"] (spM K (Gam w a_Marks a_BadMarks a_BadDeed) 2 m_worths) := FI_worths.okZ sc_worths (fun _ _ _ _ h => MR.spM_len h) (d_worths T I_MarksU_getitemU I_MarksU_lenU) (fun H vs Q E h => MR.spM_run (xa := ⟨0, .none, none, 0⟩) (q_worths X0) h)
  have I_best_first : FnZ l.prog w K mg base 1 "best_first" ["found"] (spM K (Gam w a_Marks a_BadMarks a_BadDeed) 1 m_best_first) := FI_best_first.okZ sc_best_first (fun _ _ _ _ h => MR.spM_len h) (d_best_first T) (fun H vs Q E h => MR.spM_run (xa := ⟨0, .none, none, 0⟩) (q_best_first X0) h)
  have I_least_looks : FnZ l.prog w K mg base 8 "least_looks" ["deeds", "marks", "many"] (spM K (Gam w a_Marks a_BadMarks a_BadDeed) 3 m_least_looks) := FI_least_looks.okZ sc_least_looks (fun _ _ _ _ h => MR.spM_len h) (d_least_looks T I_check_deeds I_arranged I_worths I_best_first) (fun H vs Q E h => MR.spM_run (xa := ⟨0, .none, none, 0⟩) (q_least_looks X0) h)
  have I_saved : FnZ l.prog w K mg base 8 "saved" ["deeds", "marks"] (spM K (Gam w a_Marks a_BadMarks a_BadDeed) 2 m_saved) := FI_saved.okZ sc_saved (fun _ _ _ _ h => MR.spM_len h) (d_saved T I_check_deeds I_worths I_best_first) (fun H vs Q E h => MR.spM_run (xa := ⟨0, .none, none, 0⟩) (q_saved X0) h)
  have I__law_pool : FnZ l.prog w K mg base 1 "_law_pool" ["script", "k"] (spM K (Gam w a_Marks a_BadMarks a_BadDeed) 2 m__law_pool) := FI__law_pool.okZ sc__law_pool (fun _ _ _ _ h => MR.spM_len h) (d__law_pool T) (fun H vs Q E h => MR.spM_run (xa := ⟨0, .none, none, 0⟩) (q__law_pool X0) h)
  have I__law_take : FnZ l.prog w K mg base 1 "_law_take" ["pool", "many"] (spM K (Gam w a_Marks a_BadMarks a_BadDeed) 2 m__law_take) := FI__law_take.okZ sc__law_take (fun _ _ _ _ h => MR.spM_len h) (d__law_take T) (fun H vs Q E h => MR.spM_run (xa := ⟨0, .none, none, 0⟩) (q__law_take X0) h)
  have I__law_deeds : FnZ l.prog w K mg base 7 "_law_deeds" ["pool"] (spM K (Gam w a_Marks a_BadMarks a_BadDeed) 1 m__law_deeds) := FI__law_deeds.okZ sc__law_deeds (fun _ _ _ _ h => MR.spM_len h) (d__law_deeds T I_MarksU_initU_1 I_MarksU_getitemU I_MarksU_setitemU I__law_take) (fun H vs Q E h => MR.spM_run (xa := ⟨0, .none, none, 0⟩) (q__law_deeds X0) h)
  have I__law_worths : FnZ l.prog w K mg base 1 "_law_worths" ["deeds", "kept"] (spM K (Gam w a_Marks a_BadMarks a_BadDeed) 2 m__law_worths) := FI__law_worths.okZ sc__law_worths (fun _ _ _ _ h => MR.spM_len h) (d__law_worths T) (fun H vs Q E h => MR.spM_run (xa := ⟨0, .none, none, 0⟩) (q__law_worths X0) h)
  have I__law_right : FnZ l.prog w K mg base 9 "_law_right" ["pool", "deeds", "marks", "kept"] (spM K (Gam w a_Marks a_BadMarks a_BadDeed) 4 m__law_right) := FI__law_right.okZ sc__law_right (fun _ _ _ _ h => MR.spM_len h) (d__law_right T I_MarksU_getitemU I_looks I_least_looks I_saved I__law_take I__law_worths) (fun H vs Q E h => MR.spM_run (xa := ⟨0, .none, none, 0⟩) (q__law_right X0) h)
  exact TP.okG F_law sc_law (fun vs _ _ _ h => by obtain ⟨_, _, rfl, _⟩ := h; rfl) (fun cdv A outer s H vs Q E hr h => ⟨_, d_law T I__law_pool I__law_deeds I__law_right fa cdv A outer s H E hr, by obtain ⟨a, ns, rfl, hS, hl, hq⟩ := h; exact MR.spM_run (xa := ⟨0, .none, none, 0⟩) (q_law X0) (MR.law_in hS hl (law_ok ns) hq)⟩)
theorem walk {l : PySem.W.OpenLaw} {q : Program} {loose : List Str} {XP : (Str → Option Value) → Heap → Prop} {YP : World → Heap → Prop} {d : DefRec} {K : Params → PySem.W.Frag} (hn : l.most = some 63) (hdf : d.params.defaults = [])
    (hY : ∀ (w : World) (h : Heap), YP w h → (K w.params).In h)
    (F : ∀ (w : World) (mg : Str → Option Value) (fa : Addr) (h : Heap), (K w.params).In h → h.Ns mainGlobals mg → mg d.name = some (.ref fa) →
      ∃ fd : FuncData, (∀ (s : Shared) (u : Value), BindsTo s fd ⟨[u], []⟩ [("script", u)]) ∧ ∀ base : Heap, (K w.params).In base → base.Ns mainGlobals mg → TP.FnOk l.prog w (K w.params) mg base (L2.CX l.prog w) 10 fa fd ["script"] (sp_law (K w.params))) :
    PySem.W.WalkO q loose XP YP l.row.toRowW d [] (fun f vs => PySem.call f vs) :=
  TP.walk_top (n := 63) (k := 10) (x := "script") (CX := fun w => L2.CX l.prog w) (sp := fun w => sp_law (K w.params)) hn (by decide) hdf ⟨⟨rfl, by decide, by decide⟩, rfl⟩ hY F (fun _ _ a ns hl _ hS => ⟨a, ns, rfl, hS, hl, fun _ => rfl⟩) fun _ _ _ _ _ ⟨_, _, _, _, _, _, _, _, _, _, _, _, z⟩ => z

end
end Law
local macro_rules | `(tactic| walk_at "zz") => `(tactic| first | k_is | exact rfl | kernel_rfl! | decide +kernel)
open PySem PySem.W PyProof.Rows in
set_option maxRecDepth 100000 in
set_option maxHeartbeats 0 in
theorem PySem.Challenge.cw_trustedpages_k61_whole_no_cleanings_save_holds : PySem.Challenge.rw_trustedpages_k61_whole_no_cleanings_save.Holds := by
  w_on; o_law; k_head; (case hw => w_witness2)
  k_fill
  refine Law.walk (l := PySem.Challenge.rw_trustedpages_k61_whole_no_cleanings_save) rfl rfl (fun w h Y => PySem.W.kIn_of Y) ?F
  case F =>
    intro w mg fa h KX G hmg
    refine' Law.all_mk KX G hmg ?x_Marks ?x_BadMarks ?x_BadDeed ?z_len ?z_isinstance ?z_int ?z_bool ?z_range ?z_list ?z_enumerate ?z_tuple ?z_str ?z_max ?z_min ?z_sum ?z_sorted ?x_MOST_PAGES ?gget ?gtak ?pg_Marks ?hd_Marks ?po_Marks ?sa_Marks ?ca_Marks ?cm_Marks ?sf_Marks ?nq_Marks ?ne_Marks ?mk_Marks ?kc_Marks ?na_Marks_kept ?kt_Marks ?tk_Marks ?nt_Marks ?nc_Marks_Marks ?ec_BadMarks ?er_BadMarks ?es_BadMarks ?ex_BadMarks ?et_BadMarks ?ek_BadMarks ?eg_BadMarks ?ey_BadMarks ?eh_BadMarks ?ea_BadMarks ?eo_BadMarks ?en_BadMarks ?el_BadMarks ?em_BadMarks ?ev_BadMarks ?ei_BadMarks ?ej_BadMarks ?il_BadMarks ?ic_BadMarks ?id_BadMarks ?ie_BadMarks ?if_BadMarks ?ig_BadMarks ?ec_BadDeed ?er_BadDeed ?es_BadDeed ?ex_BadDeed ?et_BadDeed ?ek_BadDeed ?eg_BadDeed ?ey_BadDeed ?eh_BadDeed ?ea_BadDeed ?eo_BadDeed ?en_BadDeed ?el_BadDeed ?em_BadDeed ?ev_BadDeed ?ei_BadDeed ?ej_BadDeed ?il_BadDeed ?ic_BadDeed ?id_BadDeed ?ie_BadDeed ?if_BadDeed ?ig_BadDeed ?z_super ?z_opq ?z_top ?a_is_integer ?l_is_integer ?c_is_integer ?k_is_integer ?a_is_many ?l_is_many ?c_is_many ?k_is_many ?a_MarksU_initU ?l_MarksU_initU ?d1_MarksU_initU ?d2_MarksU_initU ?c_MarksU_initU ?k_MarksU_initU ?i_MarksU_initU ?j_MarksU_initU ?a_Marks_check ?l_Marks_check ?c_Marks_check ?k_Marks_check ?i_Marks_check ?j_Marks_check ?a_MarksU_getitemU ?l_MarksU_getitemU ?c_MarksU_getitemU ?k_MarksU_getitemU ?i_MarksU_getitemU ?j_MarksU_getitemU ?a_MarksU_setitemU ?l_MarksU_setitemU ?c_MarksU_setitemU ?k_MarksU_setitemU ?i_MarksU_setitemU ?j_MarksU_setitemU ?a_MarksU_lenU ?l_MarksU_lenU ?c_MarksU_lenU ?k_MarksU_lenU ?i_MarksU_lenU ?j_MarksU_lenU ?a_marks_of ?l_marks_of ?c_marks_of ?k_marks_of ?a_Marks_twin ?l_Marks_twin ?c_Marks_twin ?k_Marks_twin ?i_Marks_twin ?j_Marks_twin ?a_is_page ?l_is_page ?c_is_page ?k_is_page ?a_check_deeds ?l_check_deeds ?c_check_deeds ?k_check_deeds ?a_check_cleanings ?l_check_cleanings ?c_check_cleanings ?k_check_cleanings ?a_looks ?l_looks ?c_looks ?k_looks ?a_place_for ?l_place_for ?c_place_for ?k_place_for ?a_arranged ?l_arranged ?c_arranged ?k_arranged ?a_worths ?l_worths ?c_worths ?k_worths ?a_best_first ?l_best_first ?c_best_first ?k_best_first ?a_least_looks ?l_least_looks ?c_least_looks ?k_least_looks ?a_saved ?l_saved ?c_saved ?k_saved ?a__law_pool ?l__law_pool ?c__law_pool ?k__law_pool ?a__law_take ?l__law_take ?c__law_take ?k__law_take ?a__law_deeds ?l__law_deeds ?c__law_deeds ?k__law_deeds ?a__law_worths ?l__law_worths ?c__law_worths ?k__law_worths ?a__law_right ?l__law_right ?c__law_right ?k__law_right ?a_law ?l_law ?c_law ?k_law
    case x_Marks | x_BadMarks | x_BadDeed | z_len | z_isinstance | z_int | z_bool | z_range | z_list | z_enumerate | z_tuple | z_str | z_max | z_min | z_sum | z_sorted | x_MOST_PAGES | gget | gtak | pg_Marks | hd_Marks | po_Marks | sa_Marks | ca_Marks | cm_Marks | sf_Marks | nq_Marks | ne_Marks | mk_Marks | kc_Marks | na_Marks_kept | kt_Marks | tk_Marks | nt_Marks | nc_Marks_Marks | ec_BadMarks | er_BadMarks | es_BadMarks | ex_BadMarks | et_BadMarks => walk_at "zz"
    case ek_BadMarks | eg_BadMarks | ey_BadMarks | eh_BadMarks | ea_BadMarks | eo_BadMarks | en_BadMarks | el_BadMarks | em_BadMarks | ev_BadMarks | ei_BadMarks | ej_BadMarks | il_BadMarks | ic_BadMarks | id_BadMarks | ie_BadMarks | if_BadMarks | ig_BadMarks | ec_BadDeed | er_BadDeed | es_BadDeed | ex_BadDeed | et_BadDeed | ek_BadDeed | eg_BadDeed | ey_BadDeed | eh_BadDeed | ea_BadDeed | eo_BadDeed | en_BadDeed | el_BadDeed | em_BadDeed | ev_BadDeed | ei_BadDeed | ej_BadDeed | il_BadDeed | ic_BadDeed | id_BadDeed | ie_BadDeed | if_BadDeed => walk_at "zz"
    case ig_BadDeed | z_super | z_opq | z_top | a_is_integer | l_is_integer | c_is_integer | k_is_integer | a_is_many | l_is_many | c_is_many | k_is_many | a_MarksU_initU | l_MarksU_initU | d1_MarksU_initU | d2_MarksU_initU | c_MarksU_initU | k_MarksU_initU | i_MarksU_initU | j_MarksU_initU | a_Marks_check | l_Marks_check | c_Marks_check | k_Marks_check | i_Marks_check | j_Marks_check | a_MarksU_getitemU | l_MarksU_getitemU | c_MarksU_getitemU | k_MarksU_getitemU | i_MarksU_getitemU | j_MarksU_getitemU | a_MarksU_setitemU | l_MarksU_setitemU | c_MarksU_setitemU | k_MarksU_setitemU | i_MarksU_setitemU | j_MarksU_setitemU | a_MarksU_lenU | l_MarksU_lenU => walk_at "zz"
    case c_MarksU_lenU | k_MarksU_lenU | i_MarksU_lenU | j_MarksU_lenU | a_marks_of | l_marks_of | c_marks_of | k_marks_of | a_Marks_twin | l_Marks_twin | c_Marks_twin | k_Marks_twin | i_Marks_twin | j_Marks_twin | a_is_page | l_is_page | c_is_page | k_is_page | a_check_deeds | l_check_deeds | c_check_deeds | k_check_deeds | a_check_cleanings | l_check_cleanings | c_check_cleanings | k_check_cleanings | a_looks | l_looks | c_looks | k_looks | a_place_for | l_place_for | c_place_for | k_place_for | a_arranged | l_arranged | c_arranged | k_arranged | a_worths | l_worths => walk_at "zz"
    case c_worths | k_worths | a_best_first | l_best_first | c_best_first | k_best_first | a_least_looks | l_least_looks | c_least_looks | k_least_looks | a_saved | l_saved | c_saved | k_saved | a__law_pool | l__law_pool | c__law_pool | k__law_pool | a__law_take | l__law_take | c__law_take | k__law_take | a__law_deeds | l__law_deeds | c__law_deeds | k__law_deeds | a__law_worths | l__law_worths | c__law_worths | k__law_worths | a__law_right | l__law_right | c__law_right | k__law_right | a_law | l_law | c_law | k_law => walk_at "zz"
